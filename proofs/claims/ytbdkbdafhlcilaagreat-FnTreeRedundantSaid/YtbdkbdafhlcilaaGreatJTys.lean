import Derived.KernelRfl
import Derived.Test.YtbdkbdafhlcilaaGreatProg
import Derived.Test.YtbdkbdafhlcilaaGreatJE1
set_option linter.unusedSimpArgs false
set_option linter.unusedVariables false
namespace Go.Proofs.YtbdkbdafhlcilaaGreat
open Go Go.RowKit
def ti2:TyI:=⟨.int .i64,1,8,[(.int .i64 0)],false⟩
theorem ty2:TyOk Tryz.prog 2 ti2:=TyOk.of Tryz.underlying2 (show TK.ok _ (.int .i64) _ from rfl) (.int .i64 0) (by kernel_rfl) rfl rfl rfl rfl (by decide) (fun h=>by cases h)
def ti3:TyI:=⟨.int .i64,1,8,[(.int .i64 0)],false⟩
theorem ty3:TyOk Tryz.prog 3 ti3:=TyOk.of Tryz.underlying3 (show TK.ok _ (.int .i64) _ from rfl) (.int .i64 0) (by kernel_rfl) rfl rfl rfl rfl (by decide) (fun h=>by cases h)
def ti4:TyI:=⟨.bool,1,1,[(.bool false)],false⟩
theorem ty4:TyOk Tryz.prog 4 ti4:=TyOk.of Tryz.underlying4 (show TK.ok _ (.bool) _ from rfl) (.bool false) (by kernel_rfl) rfl rfl rfl rfl (by decide) (fun h=>by cases h)
def ti5:TyI:=⟨.int .u8,1,1,[(.int .u8 0)],false⟩
theorem ty5:TyOk Tryz.prog 5 ti5:=TyOk.of Tryz.underlying5 (show TK.ok _ (.int .u8) _ from rfl) (.int .u8 0) (by kernel_rfl) rfl rfl rfl rfl (by decide) (fun h=>by cases h)
def ti6:TyI:=⟨.int .u8,1,1,[(.int .u8 0)],false⟩
theorem ty6:TyOk Tryz.prog 6 ti6:=TyOk.of Tryz.underlying6 (show TK.ok _ (.int .u8) _ from rfl) (.int .u8 0) (by kernel_rfl) rfl rfl rfl rfl (by decide) (fun h=>by cases h)
def ti7:TyI:=⟨.struct [(0,2,1),(1,3,1),(2,4,1),(3,6,1)],4,24,[(.int .i64 0),(.int .i64 0),(.bool false),(.int .u8 0)],false⟩
theorem ty7:TyOk Tryz.prog 7 ti7:=TyOk.of Tryz.underlying7 (show TK.ok _ (.struct [(0,2,1),(1,3,1),(2,4,1),(3,6,1)]) _ from ⟨_,rfl,rfl,fun x hx=>by simp only [U8,List.not_mem_nil,or_false] at hx;rcases hx with rfl | rfl | rfl | rfl<;>exact ⟨by kernel_rfl,by decide⟩⟩) (.agg #[(.int .i64 0),(.int .i64 0),(.bool false),(.int .u8 0)]) (by kernel_rfl) rfl rfl rfl rfl (by decide) (fun h=>by cases h)
def ti8:TyI:=⟨.struct [(0,2,1),(1,3,1),(2,4,1),(3,6,1)],4,24,[(.int .i64 0),(.int .i64 0),(.bool false),(.int .u8 0)],false⟩
theorem ty8:TyOk Tryz.prog 8 ti8:=TyOk.of Tryz.underlying8 (show TK.ok _ (.struct [(0,2,1),(1,3,1),(2,4,1),(3,6,1)]) _ from ⟨_,rfl,rfl,fun x hx=>by simp only [U8,List.not_mem_nil,or_false] at hx;rcases hx with rfl | rfl | rfl | rfl<;>exact ⟨by kernel_rfl,by decide⟩⟩) (.agg #[(.int .i64 0),(.int .i64 0),(.bool false),(.int .u8 0)]) (by kernel_rfl) rfl rfl rfl rfl (by decide) (fun h=>by cases h)
def ti9:TyI:=⟨.string,1,16,[(.string .empty)],false⟩
theorem ty9:TyOk Tryz.prog 9 ti9:=TyOk.of Tryz.underlying9 (show TK.ok _ (.string) _ from rfl) (.string .empty) (by kernel_rfl) rfl rfl rfl rfl (by decide) (fun h=>by cases h)
def ti10:TyI:=⟨.string,1,16,[(.string .empty)],false⟩
theorem ty10:TyOk Tryz.prog 10 ti10:=TyOk.of Tryz.underlying10 (show TK.ok _ (.string) _ from rfl) (.string .empty) (by kernel_rfl) rfl rfl rfl rfl (by decide) (fun h=>by cases h)
def ti11:TyI:=⟨.string,1,16,[(.string .empty)],false⟩
theorem ty11:TyOk Tryz.prog 11 ti11:=TyOk.of Tryz.underlying11 (show TK.ok _ (.string) _ from rfl) (.string .empty) (by kernel_rfl) rfl rfl rfl rfl (by decide) (fun h=>by cases h)
def ti12:TyI:=⟨.int .u64,1,8,[(.int .u64 0)],false⟩
theorem ty12:TyOk Tryz.prog 12 ti12:=TyOk.of Tryz.underlying12 (show TK.ok _ (.int .u64) _ from rfl) (.int .u64 0) (by kernel_rfl) rfl rfl rfl rfl (by decide) (fun h=>by cases h)
def ti13:TyI:=⟨.struct [(0,9,1),(1,12,1)],2,24,[(.string .empty),(.int .u64 0)],false⟩
theorem ty13:TyOk Tryz.prog 13 ti13:=TyOk.of Tryz.underlying13 (show TK.ok _ (.struct [(0,9,1),(1,12,1)]) _ from ⟨_,rfl,rfl,fun x hx=>by simp only [U8,List.not_mem_nil,or_false] at hx;rcases hx with rfl | rfl<;>exact ⟨by kernel_rfl,by decide⟩⟩) (.agg #[(.string .empty),(.int .u64 0)]) (by kernel_rfl) rfl rfl rfl rfl (by decide) (fun h=>by cases h)
def ti14:TyI:=⟨.struct [(0,9,1),(1,12,1)],2,24,[(.string .empty),(.int .u64 0)],false⟩
theorem ty14:TyOk Tryz.prog 14 ti14:=TyOk.of Tryz.underlying14 (show TK.ok _ (.struct [(0,9,1),(1,12,1)]) _ from ⟨_,rfl,rfl,fun x hx=>by simp only [U8,List.not_mem_nil,or_false] at hx;rcases hx with rfl | rfl<;>exact ⟨by kernel_rfl,by decide⟩⟩) (.agg #[(.string .empty),(.int .u64 0)]) (by kernel_rfl) rfl rfl rfl rfl (by decide) (fun h=>by cases h)
def ti15:TyI:=⟨.pointer 368,1,8,[(.pointer none)],false⟩
theorem ty15:TyOk Tryz.prog 15 ti15:=TyOk.of Tryz.underlying15 (show TK.ok _ (.pointer 368) _ from rfl) (.pointer none) (by kernel_rfl) rfl rfl rfl rfl (by decide) (fun h=>by cases h)
def ti16:TyI:=⟨.pointer 371,1,8,[(.pointer none)],false⟩
theorem ty16:TyOk Tryz.prog 16 ti16:=TyOk.of Tryz.underlying16 (show TK.ok _ (.pointer 371) _ from rfl) (.pointer none) (by kernel_rfl) rfl rfl rfl rfl (by decide) (fun h=>by cases h)
def ti17:TyI:=⟨.pointer 380,1,8,[(.pointer none)],false⟩
theorem ty17:TyOk Tryz.prog 17 ti17:=TyOk.of Tryz.underlying17 (show TK.ok _ (.pointer 380) _ from rfl) (.pointer none) (by kernel_rfl) rfl rfl rfl rfl (by decide) (fun h=>by cases h)
def ti18:TyI:=⟨.struct [(0,17,1)],1,8,[(.pointer none)],false⟩
theorem ty18:TyOk Tryz.prog 18 ti18:=TyOk.of Tryz.underlying18 (show TK.ok _ (.struct [(0,17,1)]) _ from ⟨_,rfl,rfl,fun x hx=>by simp only [U8,List.not_mem_nil,or_false] at hx;rcases hx with rfl<;>exact ⟨by kernel_rfl,by decide⟩⟩) (.agg #[(.pointer none)]) (by kernel_rfl) rfl rfl rfl rfl (by decide) (fun h=>by cases h)
def ti19:TyI:=⟨.struct [(0,17,1)],1,8,[(.pointer none)],false⟩
theorem ty19:TyOk Tryz.prog 19 ti19:=TyOk.of Tryz.underlying19 (show TK.ok _ (.struct [(0,17,1)]) _ from ⟨_,rfl,rfl,fun x hx=>by simp only [U8,List.not_mem_nil,or_false] at hx;rcases hx with rfl<;>exact ⟨by kernel_rfl,by decide⟩⟩) (.agg #[(.pointer none)]) (by kernel_rfl) rfl rfl rfl rfl (by decide) (fun h=>by cases h)
def ti21:TyI:=⟨.int .i32,1,4,[(.int .i32 0)],false⟩
theorem ty21:TyOk Tryz.prog 21 ti21:=TyOk.of Tryz.underlying21 (show TK.ok _ (.int .i32) _ from rfl) (.int .i32 0) (by kernel_rfl) rfl rfl rfl rfl (by decide) (fun h=>by cases h)
def ti22:TyI:=⟨.slice 5,1,24,[(.slice none 0 0)],false⟩
theorem ty22:TyOk Tryz.prog 22 ti22:=TyOk.of Tryz.underlying22 (show TK.ok _ (.slice 5) _ from rfl) (.slice none 0 0) (by kernel_rfl) rfl rfl rfl rfl (by decide) (fun h=>by cases h)
def ti23:TyI:=⟨.slice 234,1,24,[(.slice none 0 0)],false⟩
theorem ty23:TyOk Tryz.prog 23 ti23:=TyOk.of Tryz.underlying23 (show TK.ok _ (.slice 234) _ from rfl) (.slice none 0 0) (by kernel_rfl) rfl rfl rfl rfl (by decide) (fun h=>by cases h)
def ti24:TyI:=⟨.struct [(0,3,1),(1,3,1)],2,16,[(.int .i64 0),(.int .i64 0)],false⟩
theorem ty24:TyOk Tryz.prog 24 ti24:=TyOk.of Tryz.underlying24 (show TK.ok _ (.struct [(0,3,1),(1,3,1)]) _ from ⟨_,rfl,rfl,fun x hx=>by simp only [U8,List.not_mem_nil,or_false] at hx;rcases hx with rfl | rfl<;>exact ⟨by kernel_rfl,by decide⟩⟩) (.agg #[(.int .i64 0),(.int .i64 0)]) (by kernel_rfl) rfl rfl rfl rfl (by decide) (fun h=>by cases h)
def ti25:TyI:=⟨.struct [(0,3,1),(1,3,1)],2,16,[(.int .i64 0),(.int .i64 0)],true⟩
theorem ty25:TyOk Tryz.prog 25 ti25:=TyOk.of Tryz.underlying25 (show TK.ok _ (.struct [(0,3,1),(1,3,1)]) _ from ⟨_,rfl,rfl,fun x hx=>by simp only [U8,List.not_mem_nil,or_false] at hx;rcases hx with rfl | rfl<;>exact ⟨by kernel_rfl,by decide⟩⟩) (.agg #[(.int .i64 0),(.int .i64 0)]) (by kernel_rfl) rfl rfl rfl rfl (by decide) (fun _ fs h=>by cases h;exact ⟨by kernel_rfl,by kernel_rfl,by kernel_rfl,by kernel_rfl⟩)
def ti26:TyI:=⟨.slice 134,1,24,[(.slice none 0 0)],false⟩
theorem ty26:TyOk Tryz.prog 26 ti26:=TyOk.of Tryz.underlying26 (show TK.ok _ (.slice 134) _ from rfl) (.slice none 0 0) (by kernel_rfl) rfl rfl rfl rfl (by decide) (fun h=>by cases h)
def ti27:TyI:=⟨.slice 56,1,24,[(.slice none 0 0)],false⟩
theorem ty27:TyOk Tryz.prog 27 ti27:=TyOk.of Tryz.underlying27 (show TK.ok _ (.slice 56) _ from rfl) (.slice none 0 0) (by kernel_rfl) rfl rfl rfl rfl (by decide) (fun h=>by cases h)
def ti30:TyI:=⟨.slice 3,1,24,[(.slice none 0 0)],false⟩
theorem ty30:TyOk Tryz.prog 30 ti30:=TyOk.of Tryz.underlying30 (show TK.ok _ (.slice 3) _ from rfl) (.slice none 0 0) (by kernel_rfl) rfl rfl rfl rfl (by decide) (fun h=>by cases h)
def ti39:TyI:=⟨.slice 115,1,24,[(.slice none 0 0)],false⟩
theorem ty39:TyOk Tryz.prog 39 ti39:=TyOk.of Tryz.underlying39 (show TK.ok _ (.slice 115) _ from rfl) (.slice none 0 0) (by kernel_rfl) rfl rfl rfl rfl (by decide) (fun h=>by cases h)
def ti40:TyI:=⟨.slice 117,1,24,[(.slice none 0 0)],false⟩
theorem ty40:TyOk Tryz.prog 40 ti40:=TyOk.of Tryz.underlying40 (show TK.ok _ (.slice 117) _ from rfl) (.slice none 0 0) (by kernel_rfl) rfl rfl rfl rfl (by decide) (fun h=>by cases h)
def ti41:TyI:=⟨.slice 43,1,24,[(.slice none 0 0)],false⟩
theorem ty41:TyOk Tryz.prog 41 ti41:=TyOk.of Tryz.underlying41 (show TK.ok _ (.slice 43) _ from rfl) (.slice none 0 0) (by kernel_rfl) rfl rfl rfl rfl (by decide) (fun h=>by cases h)
def ti42:TyI:=⟨.struct [(0,3,1),(1,3,1),(2,39,1),(3,30,1),(4,40,1),(5,41,1)],6,112,[(.int .i64 0),(.int .i64 0),(.slice none 0 0),(.slice none 0 0),(.slice none 0 0),(.slice none 0 0)],false⟩
theorem ty42:TyOk Tryz.prog 42 ti42:=TyOk.of Tryz.underlying42 (show TK.ok _ (.struct [(0,3,1),(1,3,1),(2,39,1),(3,30,1),(4,40,1),(5,41,1)]) _ from ⟨_,rfl,rfl,fun x hx=>by simp only [U8,List.not_mem_nil,or_false] at hx;rcases hx with rfl | rfl | rfl | rfl | rfl | rfl<;>exact ⟨by kernel_rfl,by decide⟩⟩) (.agg #[(.int .i64 0),(.int .i64 0),(.slice none 0 0),(.slice none 0 0),(.slice none 0 0),(.slice none 0 0)]) (by kernel_rfl) rfl rfl rfl rfl (by decide) (fun h=>by cases h)
def ti43:TyI:=⟨.struct [(0,3,1),(1,3,1),(2,39,1),(3,30,1),(4,40,1),(5,41,1)],6,112,[(.int .i64 0),(.int .i64 0),(.slice none 0 0),(.slice none 0 0),(.slice none 0 0),(.slice none 0 0)],false⟩
theorem ty43:TyOk Tryz.prog 43 ti43:=TyOk.of Tryz.underlying43 (show TK.ok _ (.struct [(0,3,1),(1,3,1),(2,39,1),(3,30,1),(4,40,1),(5,41,1)]) _ from ⟨_,rfl,rfl,fun x hx=>by simp only [U8,List.not_mem_nil,or_false] at hx;rcases hx with rfl | rfl | rfl | rfl | rfl | rfl<;>exact ⟨by kernel_rfl,by decide⟩⟩) (.agg #[(.int .i64 0),(.int .i64 0),(.slice none 0 0),(.slice none 0 0),(.slice none 0 0),(.slice none 0 0)]) (by kernel_rfl) rfl rfl rfl rfl (by decide) (fun h=>by cases h)
def ti55:TyI:=⟨.struct [(0,3,1),(1,3,1),(2,27,1)],3,40,[(.int .i64 0),(.int .i64 0),(.slice none 0 0)],false⟩
theorem ty55:TyOk Tryz.prog 55 ti55:=TyOk.of Tryz.underlying55 (show TK.ok _ (.struct [(0,3,1),(1,3,1),(2,27,1)]) _ from ⟨_,rfl,rfl,fun x hx=>by simp only [U8,List.not_mem_nil,or_false] at hx;rcases hx with rfl | rfl | rfl<;>exact ⟨by kernel_rfl,by decide⟩⟩) (.agg #[(.int .i64 0),(.int .i64 0),(.slice none 0 0)]) (by kernel_rfl) rfl rfl rfl rfl (by decide) (fun h=>by cases h)
def ti56:TyI:=⟨.struct [(0,3,1),(1,3,1),(2,27,1)],3,40,[(.int .i64 0),(.int .i64 0),(.slice none 0 0)],false⟩
theorem ty56:TyOk Tryz.prog 56 ti56:=TyOk.of Tryz.underlying56 (show TK.ok _ (.struct [(0,3,1),(1,3,1),(2,27,1)]) _ from ⟨_,rfl,rfl,fun x hx=>by simp only [U8,List.not_mem_nil,or_false] at hx;rcases hx with rfl | rfl | rfl<;>exact ⟨by kernel_rfl,by decide⟩⟩) (.agg #[(.int .i64 0),(.int .i64 0),(.slice none 0 0)]) (by kernel_rfl) rfl rfl rfl rfl (by decide) (fun h=>by cases h)
def ti59:TyI:=⟨.slice 151,1,24,[(.slice none 0 0)],false⟩
theorem ty59:TyOk Tryz.prog 59 ti59:=TyOk.of Tryz.underlying59 (show TK.ok _ (.slice 151) _ from rfl) (.slice none 0 0) (by kernel_rfl) rfl rfl rfl rfl (by decide) (fun h=>by cases h)
def ti77:TyI:=⟨.pointer 154,1,8,[(.pointer none)],false⟩
theorem ty77:TyOk Tryz.prog 77 ti77:=TyOk.of Tryz.underlying77 (show TK.ok _ (.pointer 154) _ from rfl) (.pointer none) (by kernel_rfl) rfl rfl rfl rfl (by decide) (fun h=>by cases h)
def ti86:TyI:=⟨.array 8 4,8,8,[(.bool false),(.bool false),(.bool false),(.bool false),(.bool false),(.bool false),(.bool false),(.bool false)],false⟩
theorem ty86:TyOk Tryz.prog 86 ti86:=TyOk.of Tryz.underlying86 (show TK.ok _ (.array 8 4) _ from rfl) (.agg #[(.bool false),(.bool false),(.bool false),(.bool false),(.bool false),(.bool false),(.bool false),(.bool false)]) (by kernel_rfl) rfl rfl rfl rfl (by decide) (fun h=>by cases h)
def ti90:TyI:=⟨.slice 4,1,24,[(.slice none 0 0)],false⟩
theorem ty90:TyOk Tryz.prog 90 ti90:=TyOk.of Tryz.underlying90 (show TK.ok _ (.slice 4) _ from rfl) (.slice none 0 0) (by kernel_rfl) rfl rfl rfl rfl (by decide) (fun h=>by cases h)
def ti91:TyI:=⟨.slice 100,1,24,[(.slice none 0 0)],false⟩
theorem ty91:TyOk Tryz.prog 91 ti91:=TyOk.of Tryz.underlying91 (show TK.ok _ (.slice 100) _ from rfl) (.slice none 0 0) (by kernel_rfl) rfl rfl rfl rfl (by decide) (fun h=>by cases h)
def ti95:TyI:=⟨.slice 91,1,24,[(.slice none 0 0)],false⟩
theorem ty95:TyOk Tryz.prog 95 ti95:=TyOk.of Tryz.underlying95 (show TK.ok _ (.slice 91) _ from rfl) (.slice none 0 0) (by kernel_rfl) rfl rfl rfl rfl (by decide) (fun h=>by cases h)
def ti98:TyI:=⟨.slice 102,1,24,[(.slice none 0 0)],false⟩
theorem ty98:TyOk Tryz.prog 98 ti98:=TyOk.of Tryz.underlying98 (show TK.ok _ (.slice 102) _ from rfl) (.slice none 0 0) (by kernel_rfl) rfl rfl rfl rfl (by decide) (fun h=>by cases h)
def ti99:TyI:=⟨.struct [(0,3,1),(1,3,1),(2,3,1),(3,3,1),(4,3,1),(5,91,1)],6,64,[(.int .i64 0),(.int .i64 0),(.int .i64 0),(.int .i64 0),(.int .i64 0),(.slice none 0 0)],false⟩
theorem ty99:TyOk Tryz.prog 99 ti99:=TyOk.of Tryz.underlying99 (show TK.ok _ (.struct [(0,3,1),(1,3,1),(2,3,1),(3,3,1),(4,3,1),(5,91,1)]) _ from ⟨_,rfl,rfl,fun x hx=>by simp only [U8,List.not_mem_nil,or_false] at hx;rcases hx with rfl | rfl | rfl | rfl | rfl | rfl<;>exact ⟨by kernel_rfl,by decide⟩⟩) (.agg #[(.int .i64 0),(.int .i64 0),(.int .i64 0),(.int .i64 0),(.int .i64 0),(.slice none 0 0)]) (by kernel_rfl) rfl rfl rfl rfl (by decide) (fun h=>by cases h)
def Y09:TyI:=⟨.struct [(0,3,1),(1,3,1),(2,3,1),(3,3,1),(4,3,1),(5,91,1)],6,64,[(.int .i64 0),(.int .i64 0),(.int .i64 0),(.int .i64 0),(.int .i64 0),(.slice none 0 0)],false⟩
theorem Y5v:TyOk Tryz.prog 100 Y09:=TyOk.of Tryz.underlying100 (show TK.ok _ (.struct [(0,3,1),(1,3,1),(2,3,1),(3,3,1),(4,3,1),(5,91,1)]) _ from ⟨_,rfl,rfl,fun x hx=>by simp only [U8,List.not_mem_nil,or_false] at hx;rcases hx with rfl | rfl | rfl | rfl | rfl | rfl<;>exact ⟨by kernel_rfl,by decide⟩⟩) (.agg #[(.int .i64 0),(.int .i64 0),(.int .i64 0),(.int .i64 0),(.int .i64 0),(.slice none 0 0)]) (by kernel_rfl) rfl rfl rfl rfl (by decide) (fun h=>by cases h)
def Y08:TyI:=⟨.struct [(0,3,1),(1,91,1),(2,39,1)],3,56,[(.int .i64 0),(.slice none 0 0),(.slice none 0 0)],false⟩
theorem Y5u:TyOk Tryz.prog 101 Y08:=TyOk.of Tryz.underlying101 (show TK.ok _ (.struct [(0,3,1),(1,91,1),(2,39,1)]) _ from ⟨_,rfl,rfl,fun x hx=>by simp only [U8,List.not_mem_nil,or_false] at hx;rcases hx with rfl | rfl | rfl<;>exact ⟨by kernel_rfl,by decide⟩⟩) (.agg #[(.int .i64 0),(.slice none 0 0),(.slice none 0 0)]) (by kernel_rfl) rfl rfl rfl rfl (by decide) (fun h=>by cases h)
def Y07:TyI:=⟨.struct [(0,3,1),(1,91,1),(2,39,1)],3,56,[(.int .i64 0),(.slice none 0 0),(.slice none 0 0)],false⟩
theorem Y5t:TyOk Tryz.prog 102 Y07:=TyOk.of Tryz.underlying102 (show TK.ok _ (.struct [(0,3,1),(1,91,1),(2,39,1)]) _ from ⟨_,rfl,rfl,fun x hx=>by simp only [U8,List.not_mem_nil,or_false] at hx;rcases hx with rfl | rfl | rfl<;>exact ⟨by kernel_rfl,by decide⟩⟩) (.agg #[(.int .i64 0),(.slice none 0 0),(.slice none 0 0)]) (by kernel_rfl) rfl rfl rfl rfl (by decide) (fun h=>by cases h)
def Y06:TyI:=⟨.pointer 108,1,8,[(.pointer none)],false⟩
theorem Y5s:TyOk Tryz.prog 104 Y06:=TyOk.of Tryz.underlying104 (show TK.ok _ (.pointer 108) _ from rfl) (.pointer none) (by kernel_rfl) rfl rfl rfl rfl (by decide) (fun h=>by cases h)
def Y05:TyI:=⟨.pointer 187,1,8,[(.pointer none)],false⟩
theorem Y5r:TyOk Tryz.prog 105 Y05:=TyOk.of Tryz.underlying105 (show TK.ok _ (.pointer 187) _ from rfl) (.pointer none) (by kernel_rfl) rfl rfl rfl rfl (by decide) (fun h=>by cases h)
def Y04:TyI:=⟨.struct [(0,105,1),(1,26,1),(2,3,1),(3,3,1)],4,48,[(.pointer none),(.slice none 0 0),(.int .i64 0),(.int .i64 0)],false⟩
theorem Y5q:TyOk Tryz.prog 107 Y04:=TyOk.of Tryz.underlying107 (show TK.ok _ (.struct [(0,105,1),(1,26,1),(2,3,1),(3,3,1)]) _ from ⟨_,rfl,rfl,fun x hx=>by simp only [U8,List.not_mem_nil,or_false] at hx;rcases hx with rfl | rfl | rfl | rfl<;>exact ⟨by kernel_rfl,by decide⟩⟩) (.agg #[(.pointer none),(.slice none 0 0),(.int .i64 0),(.int .i64 0)]) (by kernel_rfl) rfl rfl rfl rfl (by decide) (fun h=>by cases h)
def Y03:TyI:=⟨.struct [(0,105,1),(1,26,1),(2,3,1),(3,3,1)],4,48,[(.pointer none),(.slice none 0 0),(.int .i64 0),(.int .i64 0)],false⟩
theorem Y5p:TyOk Tryz.prog 108 Y03:=TyOk.of Tryz.underlying108 (show TK.ok _ (.struct [(0,105,1),(1,26,1),(2,3,1),(3,3,1)]) _ from ⟨_,rfl,rfl,fun x hx=>by simp only [U8,List.not_mem_nil,or_false] at hx;rcases hx with rfl | rfl | rfl | rfl<;>exact ⟨by kernel_rfl,by decide⟩⟩) (.agg #[(.pointer none),(.slice none 0 0),(.int .i64 0),(.int .i64 0)]) (by kernel_rfl) rfl rfl rfl rfl (by decide) (fun h=>by cases h)
def Y02:TyI:=⟨.struct [(0,30,1),(1,25,2)],3,40,[(.slice none 0 0),(.int .i64 0),(.int .i64 0)],false⟩
theorem Y5o:TyOk Tryz.prog 110 Y02:=TyOk.of Tryz.underlying110 (show TK.ok _ (.struct [(0,30,1),(1,25,2)]) _ from ⟨_,rfl,rfl,fun x hx=>by simp only [U8,List.not_mem_nil,or_false] at hx;rcases hx with rfl | rfl<;>exact ⟨by kernel_rfl,by decide⟩⟩) (.agg #[(.slice none 0 0),(.int .i64 0),(.int .i64 0)]) (by kernel_rfl) rfl rfl rfl rfl (by decide) (fun h=>by cases h)
def Y01:TyI:=⟨.struct [(0,30,1),(1,25,2)],3,40,[(.slice none 0 0),(.int .i64 0),(.int .i64 0)],false⟩
theorem Y5n:TyOk Tryz.prog 111 Y01:=TyOk.of Tryz.underlying111 (show TK.ok _ (.struct [(0,30,1),(1,25,2)]) _ from ⟨_,rfl,rfl,fun x hx=>by simp only [U8,List.not_mem_nil,or_false] at hx;rcases hx with rfl | rfl<;>exact ⟨by kernel_rfl,by decide⟩⟩) (.agg #[(.slice none 0 0),(.int .i64 0),(.int .i64 0)]) (by kernel_rfl) rfl rfl rfl rfl (by decide) (fun h=>by cases h)
def Y00:TyI:=⟨.slice 111,1,24,[(.slice none 0 0)],false⟩
theorem Y5m:TyOk Tryz.prog 112 Y00:=TyOk.of Tryz.underlying112 (show TK.ok _ (.slice 111) _ from rfl) (.slice none 0 0) (by kernel_rfl) rfl rfl rfl rfl (by decide) (fun h=>by cases h)
def V9z:TyI:=⟨.struct [(0,3,1),(1,30,1)],2,32,[(.int .i64 0),(.slice none 0 0)],false⟩
theorem Y5l:TyOk Tryz.prog 114 V9z:=TyOk.of Tryz.underlying114 (show TK.ok _ (.struct [(0,3,1),(1,30,1)]) _ from ⟨_,rfl,rfl,fun x hx=>by simp only [U8,List.not_mem_nil,or_false] at hx;rcases hx with rfl | rfl<;>exact ⟨by kernel_rfl,by decide⟩⟩) (.agg #[(.int .i64 0),(.slice none 0 0)]) (by kernel_rfl) rfl rfl rfl rfl (by decide) (fun h=>by cases h)
def V9y:TyI:=⟨.struct [(0,3,1),(1,30,1)],2,32,[(.int .i64 0),(.slice none 0 0)],false⟩
theorem Y5k:TyOk Tryz.prog 115 V9y:=TyOk.of Tryz.underlying115 (show TK.ok _ (.struct [(0,3,1),(1,30,1)]) _ from ⟨_,rfl,rfl,fun x hx=>by simp only [U8,List.not_mem_nil,or_false] at hx;rcases hx with rfl | rfl<;>exact ⟨by kernel_rfl,by decide⟩⟩) (.agg #[(.int .i64 0),(.slice none 0 0)]) (by kernel_rfl) rfl rfl rfl rfl (by decide) (fun h=>by cases h)
def V9x:TyI:=⟨.struct [(0,3,1),(1,3,1),(2,3,1),(3,43,6)],9,136,[(.int .i64 0),(.int .i64 0),(.int .i64 0),(.int .i64 0),(.int .i64 0),(.slice none 0 0),(.slice none 0 0),(.slice none 0 0),(.slice none 0 0)],false⟩
theorem Y5j:TyOk Tryz.prog 116 V9x:=TyOk.of Tryz.underlying116 (show TK.ok _ (.struct [(0,3,1),(1,3,1),(2,3,1),(3,43,6)]) _ from ⟨_,rfl,rfl,fun x hx=>by simp only [U8,List.not_mem_nil,or_false] at hx;rcases hx with rfl | rfl | rfl | rfl<;>exact ⟨by kernel_rfl,by decide⟩⟩) (.agg #[(.int .i64 0),(.int .i64 0),(.int .i64 0),(.int .i64 0),(.int .i64 0),(.slice none 0 0),(.slice none 0 0),(.slice none 0 0),(.slice none 0 0)]) (by kernel_rfl) rfl rfl rfl rfl (by decide) (fun h=>by cases h)
def V9w:TyI:=⟨.struct [(0,3,1),(1,3,1),(2,3,1),(3,43,6)],9,136,[(.int .i64 0),(.int .i64 0),(.int .i64 0),(.int .i64 0),(.int .i64 0),(.slice none 0 0),(.slice none 0 0),(.slice none 0 0),(.slice none 0 0)],false⟩
theorem Y5i:TyOk Tryz.prog 117 V9w:=TyOk.of Tryz.underlying117 (show TK.ok _ (.struct [(0,3,1),(1,3,1),(2,3,1),(3,43,6)]) _ from ⟨_,rfl,rfl,fun x hx=>by simp only [U8,List.not_mem_nil,or_false] at hx;rcases hx with rfl | rfl | rfl | rfl<;>exact ⟨by kernel_rfl,by decide⟩⟩) (.agg #[(.int .i64 0),(.int .i64 0),(.int .i64 0),(.int .i64 0),(.int .i64 0),(.slice none 0 0),(.slice none 0 0),(.slice none 0 0),(.slice none 0 0)]) (by kernel_rfl) rfl rfl rfl rfl (by decide) (fun h=>by cases h)
def V9v:TyI:=⟨.pointer 86,1,8,[(.pointer none)],false⟩
theorem Y5h:TyOk Tryz.prog 128 V9v:=TyOk.of Tryz.underlying128 (show TK.ok _ (.pointer 86) _ from rfl) (.pointer none) (by kernel_rfl) rfl rfl rfl rfl (by decide) (fun h=>by cases h)
def V9u:TyI:=⟨.struct [(0,3,1),(1,3,1),(2,3,1)],3,24,[(.int .i64 0),(.int .i64 0),(.int .i64 0)],false⟩
theorem Y5g:TyOk Tryz.prog 131 V9u:=TyOk.of Tryz.underlying131 (show TK.ok _ (.struct [(0,3,1),(1,3,1),(2,3,1)]) _ from ⟨_,rfl,rfl,fun x hx=>by simp only [U8,List.not_mem_nil,or_false] at hx;rcases hx with rfl | rfl | rfl<;>exact ⟨by kernel_rfl,by decide⟩⟩) (.agg #[(.int .i64 0),(.int .i64 0),(.int .i64 0)]) (by kernel_rfl) rfl rfl rfl rfl (by decide) (fun h=>by cases h)
def V9t:TyI:=⟨.struct [(0,3,1),(1,3,1),(2,3,1)],3,24,[(.int .i64 0),(.int .i64 0),(.int .i64 0)],true⟩
theorem Y5f:TyOk Tryz.prog 132 V9t:=TyOk.of Tryz.underlying132 (show TK.ok _ (.struct [(0,3,1),(1,3,1),(2,3,1)]) _ from ⟨_,rfl,rfl,fun x hx=>by simp only [U8,List.not_mem_nil,or_false] at hx;rcases hx with rfl | rfl | rfl<;>exact ⟨by kernel_rfl,by decide⟩⟩) (.agg #[(.int .i64 0),(.int .i64 0),(.int .i64 0)]) (by kernel_rfl) rfl rfl rfl rfl (by decide) (fun _ fs h=>by cases h;exact ⟨by kernel_rfl,by kernel_rfl,by kernel_rfl,by kernel_rfl⟩)
def V9s:TyI:=⟨.struct [(0,100,6),(6,132,3)],9,88,[(.int .i64 0),(.int .i64 0),(.int .i64 0),(.int .i64 0),(.int .i64 0),(.slice none 0 0),(.int .i64 0),(.int .i64 0),(.int .i64 0)],false⟩
theorem Y5e:TyOk Tryz.prog 133 V9s:=TyOk.of Tryz.underlying133 (show TK.ok _ (.struct [(0,100,6),(6,132,3)]) _ from ⟨_,rfl,rfl,fun x hx=>by simp only [U8,List.not_mem_nil,or_false] at hx;rcases hx with rfl | rfl<;>exact ⟨by kernel_rfl,by decide⟩⟩) (.agg #[(.int .i64 0),(.int .i64 0),(.int .i64 0),(.int .i64 0),(.int .i64 0),(.slice none 0 0),(.int .i64 0),(.int .i64 0),(.int .i64 0)]) (by kernel_rfl) rfl rfl rfl rfl (by decide) (fun h=>by cases h)
def V9r:TyI:=⟨.struct [(0,100,6),(6,132,3)],9,88,[(.int .i64 0),(.int .i64 0),(.int .i64 0),(.int .i64 0),(.int .i64 0),(.slice none 0 0),(.int .i64 0),(.int .i64 0),(.int .i64 0)],false⟩
theorem Y5d:TyOk Tryz.prog 134 V9r:=TyOk.of Tryz.underlying134 (show TK.ok _ (.struct [(0,100,6),(6,132,3)]) _ from ⟨_,rfl,rfl,fun x hx=>by simp only [U8,List.not_mem_nil,or_false] at hx;rcases hx with rfl | rfl<;>exact ⟨by kernel_rfl,by decide⟩⟩) (.agg #[(.int .i64 0),(.int .i64 0),(.int .i64 0),(.int .i64 0),(.int .i64 0),(.slice none 0 0),(.int .i64 0),(.int .i64 0),(.int .i64 0)]) (by kernel_rfl) rfl rfl rfl rfl (by decide) (fun h=>by cases h)
def V9q:TyI:=⟨.struct [(0,3,1),(1,56,3)],4,48,[(.int .i64 0),(.int .i64 0),(.int .i64 0),(.slice none 0 0)],false⟩
theorem Y5c:TyOk Tryz.prog 150 V9q:=TyOk.of Tryz.underlying150 (show TK.ok _ (.struct [(0,3,1),(1,56,3)]) _ from ⟨_,rfl,rfl,fun x hx=>by simp only [U8,List.not_mem_nil,or_false] at hx;rcases hx with rfl | rfl<;>exact ⟨by kernel_rfl,by decide⟩⟩) (.agg #[(.int .i64 0),(.int .i64 0),(.int .i64 0),(.slice none 0 0)]) (by kernel_rfl) rfl rfl rfl rfl (by decide) (fun h=>by cases h)
def V9p:TyI:=⟨.struct [(0,3,1),(1,56,3)],4,48,[(.int .i64 0),(.int .i64 0),(.int .i64 0),(.slice none 0 0)],false⟩
theorem Y5b:TyOk Tryz.prog 151 V9p:=TyOk.of Tryz.underlying151 (show TK.ok _ (.struct [(0,3,1),(1,56,3)]) _ from ⟨_,rfl,rfl,fun x hx=>by simp only [U8,List.not_mem_nil,or_false] at hx;rcases hx with rfl | rfl<;>exact ⟨by kernel_rfl,by decide⟩⟩) (.agg #[(.int .i64 0),(.int .i64 0),(.int .i64 0),(.slice none 0 0)]) (by kernel_rfl) rfl rfl rfl rfl (by decide) (fun h=>by cases h)
def V9o:TyI:=⟨.struct [(0,22,1),(1,3,1)],2,32,[(.slice none 0 0),(.int .i64 0)],false⟩
theorem Y5a:TyOk Tryz.prog 153 V9o:=TyOk.of Tryz.underlying153 (show TK.ok _ (.struct [(0,22,1),(1,3,1)]) _ from ⟨_,rfl,rfl,fun x hx=>by simp only [U8,List.not_mem_nil,or_false] at hx;rcases hx with rfl | rfl<;>exact ⟨by kernel_rfl,by decide⟩⟩) (.agg #[(.slice none 0 0),(.int .i64 0)]) (by kernel_rfl) rfl rfl rfl rfl (by decide) (fun h=>by cases h)
def V9n:TyI:=⟨.struct [(0,22,1),(1,3,1)],2,32,[(.slice none 0 0),(.int .i64 0)],false⟩
theorem Y59:TyOk Tryz.prog 154 V9n:=TyOk.of Tryz.underlying154 (show TK.ok _ (.struct [(0,22,1),(1,3,1)]) _ from ⟨_,rfl,rfl,fun x hx=>by simp only [U8,List.not_mem_nil,or_false] at hx;rcases hx with rfl | rfl<;>exact ⟨by kernel_rfl,by decide⟩⟩) (.agg #[(.slice none 0 0),(.int .i64 0)]) (by kernel_rfl) rfl rfl rfl rfl (by decide) (fun h=>by cases h)
def V9m:TyI:=⟨.slice 25,1,24,[(.slice none 0 0)],false⟩
theorem Y58:TyOk Tryz.prog 161 V9m:=TyOk.of Tryz.underlying161 (show TK.ok _ (.slice 25) _ from rfl) (.slice none 0 0) (by kernel_rfl) rfl rfl rfl rfl (by decide) (fun h=>by cases h)
def V9l:TyI:=⟨.pointer 3,1,8,[(.pointer none)],false⟩
theorem Y57:TyOk Tryz.prog 165 V9l:=TyOk.of Tryz.underlying165 (show TK.ok _ (.pointer 3) _ from rfl) (.pointer none) (by kernel_rfl) rfl rfl rfl rfl (by decide) (fun h=>by cases h)
def V9k:TyI:=⟨.pointer 254,1,8,[(.pointer none)],false⟩
theorem Y56:TyOk Tryz.prog 184 V9k:=TyOk.of Tryz.underlying184 (show TK.ok _ (.pointer 254) _ from rfl) (.pointer none) (by kernel_rfl) rfl rfl rfl rfl (by decide) (fun h=>by cases h)
def V9j:TyI:=⟨.struct [(0,23,1),(1,184,1)],2,32,[(.slice none 0 0),(.pointer none)],false⟩
theorem Y55:TyOk Tryz.prog 186 V9j:=TyOk.of Tryz.underlying186 (show TK.ok _ (.struct [(0,23,1),(1,184,1)]) _ from ⟨_,rfl,rfl,fun x hx=>by simp only [U8,List.not_mem_nil,or_false] at hx;rcases hx with rfl | rfl<;>exact ⟨by kernel_rfl,by decide⟩⟩) (.agg #[(.slice none 0 0),(.pointer none)]) (by kernel_rfl) rfl rfl rfl rfl (by decide) (fun h=>by cases h)
def V9i:TyI:=⟨.struct [(0,23,1),(1,184,1)],2,32,[(.slice none 0 0),(.pointer none)],false⟩
theorem Y54:TyOk Tryz.prog 187 V9i:=TyOk.of Tryz.underlying187 (show TK.ok _ (.struct [(0,23,1),(1,184,1)]) _ from ⟨_,rfl,rfl,fun x hx=>by simp only [U8,List.not_mem_nil,or_false] at hx;rcases hx with rfl | rfl<;>exact ⟨by kernel_rfl,by decide⟩⟩) (.agg #[(.slice none 0 0),(.pointer none)]) (by kernel_rfl) rfl rfl rfl rfl (by decide) (fun h=>by cases h)
def V9h:TyI:=⟨.struct [(0,30,1),(1,25,2)],3,40,[(.slice none 0 0),(.int .i64 0),(.int .i64 0)],false⟩
theorem Y53:TyOk Tryz.prog 195 V9h:=TyOk.of Tryz.underlying195 (show TK.ok _ (.struct [(0,30,1),(1,25,2)]) _ from ⟨_,rfl,rfl,fun x hx=>by simp only [U8,List.not_mem_nil,or_false] at hx;rcases hx with rfl | rfl<;>exact ⟨by kernel_rfl,by decide⟩⟩) (.agg #[(.slice none 0 0),(.int .i64 0),(.int .i64 0)]) (by kernel_rfl) rfl rfl rfl rfl (by decide) (fun h=>by cases h)
def V9g:TyI:=⟨.struct [(0,30,1),(1,25,2)],3,40,[(.slice none 0 0),(.int .i64 0),(.int .i64 0)],false⟩
theorem Y52:TyOk Tryz.prog 196 V9g:=TyOk.of Tryz.underlying196 (show TK.ok _ (.struct [(0,30,1),(1,25,2)]) _ from ⟨_,rfl,rfl,fun x hx=>by simp only [U8,List.not_mem_nil,or_false] at hx;rcases hx with rfl | rfl<;>exact ⟨by kernel_rfl,by decide⟩⟩) (.agg #[(.slice none 0 0),(.int .i64 0),(.int .i64 0)]) (by kernel_rfl) rfl rfl rfl rfl (by decide) (fun h=>by cases h)
def V9f:TyI:=⟨.slice 196,1,24,[(.slice none 0 0)],false⟩
theorem Y51:TyOk Tryz.prog 197 V9f:=TyOk.of Tryz.underlying197 (show TK.ok _ (.slice 196) _ from rfl) (.slice none 0 0) (by kernel_rfl) rfl rfl rfl rfl (by decide) (fun h=>by cases h)
def V9e:TyI:=⟨.slice 265,1,24,[(.slice none 0 0)],false⟩
theorem Y50:TyOk Tryz.prog 198 V9e:=TyOk.of Tryz.underlying198 (show TK.ok _ (.slice 265) _ from rfl) (.slice none 0 0) (by kernel_rfl) rfl rfl rfl rfl (by decide) (fun h=>by cases h)
def V9d:TyI:=⟨.slice 237,1,24,[(.slice none 0 0)],false⟩
theorem Y4z:TyOk Tryz.prog 232 V9d:=TyOk.of Tryz.underlying232 (show TK.ok _ (.slice 237) _ from rfl) (.slice none 0 0) (by kernel_rfl) rfl rfl rfl rfl (by decide) (fun h=>by cases h)
def V9c:TyI:=⟨.struct [(0,9,1),(1,232,1)],2,40,[(.string .empty),(.slice none 0 0)],false⟩
theorem Y4y:TyOk Tryz.prog 233 V9c:=TyOk.of Tryz.underlying233 (show TK.ok _ (.struct [(0,9,1),(1,232,1)]) _ from ⟨_,rfl,rfl,fun x hx=>by simp only [U8,List.not_mem_nil,or_false] at hx;rcases hx with rfl | rfl<;>exact ⟨by kernel_rfl,by decide⟩⟩) (.agg #[(.string .empty),(.slice none 0 0)]) (by kernel_rfl) rfl rfl rfl rfl (by decide) (fun h=>by cases h)
def V9b:TyI:=⟨.struct [(0,9,1),(1,232,1)],2,40,[(.string .empty),(.slice none 0 0)],false⟩
theorem Y4x:TyOk Tryz.prog 234 V9b:=TyOk.of Tryz.underlying234 (show TK.ok _ (.struct [(0,9,1),(1,232,1)]) _ from ⟨_,rfl,rfl,fun x hx=>by simp only [U8,List.not_mem_nil,or_false] at hx;rcases hx with rfl | rfl<;>exact ⟨by kernel_rfl,by decide⟩⟩) (.agg #[(.string .empty),(.slice none 0 0)]) (by kernel_rfl) rfl rfl rfl rfl (by decide) (fun h=>by cases h)
def V9a:TyI:=⟨.struct [(0,9,1),(1,161,1),(2,3,1)],3,48,[(.string .empty),(.slice none 0 0),(.int .i64 0)],false⟩
theorem Y4w:TyOk Tryz.prog 236 V9a:=TyOk.of Tryz.underlying236 (show TK.ok _ (.struct [(0,9,1),(1,161,1),(2,3,1)]) _ from ⟨_,rfl,rfl,fun x hx=>by simp only [U8,List.not_mem_nil,or_false] at hx;rcases hx with rfl | rfl | rfl<;>exact ⟨by kernel_rfl,by decide⟩⟩) (.agg #[(.string .empty),(.slice none 0 0),(.int .i64 0)]) (by kernel_rfl) rfl rfl rfl rfl (by decide) (fun h=>by cases h)
def V99:TyI:=⟨.struct [(0,9,1),(1,161,1),(2,3,1)],3,48,[(.string .empty),(.slice none 0 0),(.int .i64 0)],false⟩
theorem Y4v:TyOk Tryz.prog 237 V99:=TyOk.of Tryz.underlying237 (show TK.ok _ (.struct [(0,9,1),(1,161,1),(2,3,1)]) _ from ⟨_,rfl,rfl,fun x hx=>by simp only [U8,List.not_mem_nil,or_false] at hx;rcases hx with rfl | rfl | rfl<;>exact ⟨by kernel_rfl,by decide⟩⟩) (.agg #[(.string .empty),(.slice none 0 0),(.int .i64 0)]) (by kernel_rfl) rfl rfl rfl rfl (by decide) (fun h=>by cases h)
def V98:TyI:=⟨.slice 290,1,24,[(.slice none 0 0)],false⟩
theorem Y4u:TyOk Tryz.prog 239 V98:=TyOk.of Tryz.underlying239 (show TK.ok _ (.slice 290) _ from rfl) (.slice none 0 0) (by kernel_rfl) rfl rfl rfl rfl (by decide) (fun h=>by cases h)
def V97:TyI:=⟨.array 4 3,4,32,[(.int .i64 0),(.int .i64 0),(.int .i64 0),(.int .i64 0)],false⟩
theorem Y4t:TyOk Tryz.prog 252 V97:=TyOk.of Tryz.underlying252 (show TK.ok _ (.array 4 3) _ from rfl) (.agg #[(.int .i64 0),(.int .i64 0),(.int .i64 0),(.int .i64 0)]) (by kernel_rfl) rfl rfl rfl rfl (by decide) (fun h=>by cases h)
def V96:TyI:=⟨.array 4 252,16,128,[(.int .i64 0),(.int .i64 0),(.int .i64 0),(.int .i64 0),(.int .i64 0),(.int .i64 0),(.int .i64 0),(.int .i64 0),(.int .i64 0),(.int .i64 0),(.int .i64 0),(.int .i64 0),(.int .i64 0),(.int .i64 0),(.int .i64 0),(.int .i64 0)],false⟩
theorem Y4s:TyOk Tryz.prog 253 V96:=TyOk.of Tryz.underlying253 (show TK.ok _ (.array 4 252) _ from rfl) (.agg #[(.int .i64 0),(.int .i64 0),(.int .i64 0),(.int .i64 0),(.int .i64 0),(.int .i64 0),(.int .i64 0),(.int .i64 0),(.int .i64 0),(.int .i64 0),(.int .i64 0),(.int .i64 0),(.int .i64 0),(.int .i64 0),(.int .i64 0),(.int .i64 0)]) (by kernel_rfl) rfl rfl rfl rfl (by decide) (fun h=>by cases h)
def V95:TyI:=⟨.array 4 252,16,128,[(.int .i64 0),(.int .i64 0),(.int .i64 0),(.int .i64 0),(.int .i64 0),(.int .i64 0),(.int .i64 0),(.int .i64 0),(.int .i64 0),(.int .i64 0),(.int .i64 0),(.int .i64 0),(.int .i64 0),(.int .i64 0),(.int .i64 0),(.int .i64 0)],false⟩
theorem Y4r:TyOk Tryz.prog 254 V95:=TyOk.of Tryz.underlying254 (show TK.ok _ (.array 4 252) _ from rfl) (.agg #[(.int .i64 0),(.int .i64 0),(.int .i64 0),(.int .i64 0),(.int .i64 0),(.int .i64 0),(.int .i64 0),(.int .i64 0),(.int .i64 0),(.int .i64 0),(.int .i64 0),(.int .i64 0),(.int .i64 0),(.int .i64 0),(.int .i64 0),(.int .i64 0)]) (by kernel_rfl) rfl rfl rfl rfl (by decide) (fun h=>by cases h)
def V94:TyI:=⟨.array 11 4,11,11,[(.bool false),(.bool false),(.bool false),(.bool false),(.bool false),(.bool false),(.bool false),(.bool false),(.bool false),(.bool false),(.bool false)],false⟩
theorem Y4q:TyOk Tryz.prog 260 V94:=TyOk.of Tryz.underlying260 (show TK.ok _ (.array 11 4) _ from rfl) (.agg #[(.bool false),(.bool false),(.bool false),(.bool false),(.bool false),(.bool false),(.bool false),(.bool false),(.bool false),(.bool false),(.bool false)]) (by kernel_rfl) rfl rfl rfl rfl (by decide) (fun h=>by cases h)
def V93:TyI:=⟨.slice 112,1,24,[(.slice none 0 0)],false⟩
theorem Y4p:TyOk Tryz.prog 261 V93:=TyOk.of Tryz.underlying261 (show TK.ok _ (.slice 112) _ from rfl) (.slice none 0 0) (by kernel_rfl) rfl rfl rfl rfl (by decide) (fun h=>by cases h)
def V92:TyI:=⟨.struct [(0,3,1),(1,91,1),(2,39,1)],3,56,[(.int .i64 0),(.slice none 0 0),(.slice none 0 0)],false⟩
theorem Y4o:TyOk Tryz.prog 264 V92:=TyOk.of Tryz.underlying264 (show TK.ok _ (.struct [(0,3,1),(1,91,1),(2,39,1)]) _ from ⟨_,rfl,rfl,fun x hx=>by simp only [U8,List.not_mem_nil,or_false] at hx;rcases hx with rfl | rfl | rfl<;>exact ⟨by kernel_rfl,by decide⟩⟩) (.agg #[(.int .i64 0),(.slice none 0 0),(.slice none 0 0)]) (by kernel_rfl) rfl rfl rfl rfl (by decide) (fun h=>by cases h)
def V91:TyI:=⟨.struct [(0,3,1),(1,91,1),(2,39,1)],3,56,[(.int .i64 0),(.slice none 0 0),(.slice none 0 0)],false⟩
theorem Y4n:TyOk Tryz.prog 265 V91:=TyOk.of Tryz.underlying265 (show TK.ok _ (.struct [(0,3,1),(1,91,1),(2,39,1)]) _ from ⟨_,rfl,rfl,fun x hx=>by simp only [U8,List.not_mem_nil,or_false] at hx;rcases hx with rfl | rfl | rfl<;>exact ⟨by kernel_rfl,by decide⟩⟩) (.agg #[(.int .i64 0),(.slice none 0 0),(.slice none 0 0)]) (by kernel_rfl) rfl rfl rfl rfl (by decide) (fun h=>by cases h)
def V90:TyI:=⟨.slice 27,1,24,[(.slice none 0 0)],false⟩
theorem Y4m:TyOk Tryz.prog 274 V90:=TyOk.of Tryz.underlying274 (show TK.ok _ (.slice 27) _ from rfl) (.slice none 0 0) (by kernel_rfl) rfl rfl rfl rfl (by decide) (fun h=>by cases h)
def V8z:TyI:=⟨.map 9 4,1,8,[(.map none)],false⟩
theorem Y4l:TyOk Tryz.prog 282 V8z:=TyOk.of Tryz.underlying282 (show TK.ok _ (.map 9 4) _ from rfl) (.map none) (by kernel_rfl) rfl rfl rfl rfl (by decide) (fun h=>by cases h)
def V8y:TyI:=⟨.slice 9,1,24,[(.slice none 0 0)],false⟩
theorem Y4k:TyOk Tryz.prog 285 V8y:=TyOk.of Tryz.underlying285 (show TK.ok _ (.slice 9) _ from rfl) (.slice none 0 0) (by kernel_rfl) rfl rfl rfl rfl (by decide) (fun h=>by cases h)
def V8x:TyI:=⟨.struct [(0,3,1),(1,25,2)],3,24,[(.int .i64 0),(.int .i64 0),(.int .i64 0)],false⟩
theorem Y4j:TyOk Tryz.prog 289 V8x:=TyOk.of Tryz.underlying289 (show TK.ok _ (.struct [(0,3,1),(1,25,2)]) _ from ⟨_,rfl,rfl,fun x hx=>by simp only [U8,List.not_mem_nil,or_false] at hx;rcases hx with rfl | rfl<;>exact ⟨by kernel_rfl,by decide⟩⟩) (.agg #[(.int .i64 0),(.int .i64 0),(.int .i64 0)]) (by kernel_rfl) rfl rfl rfl rfl (by decide) (fun h=>by cases h)
def V8w:TyI:=⟨.struct [(0,3,1),(1,25,2)],3,24,[(.int .i64 0),(.int .i64 0),(.int .i64 0)],true⟩
theorem Y4i:TyOk Tryz.prog 290 V8w:=TyOk.of Tryz.underlying290 (show TK.ok _ (.struct [(0,3,1),(1,25,2)]) _ from ⟨_,rfl,rfl,fun x hx=>by simp only [U8,List.not_mem_nil,or_false] at hx;rcases hx with rfl | rfl<;>exact ⟨by kernel_rfl,by decide⟩⟩) (.agg #[(.int .i64 0),(.int .i64 0),(.int .i64 0)]) (by kernel_rfl) rfl rfl rfl rfl (by decide) (fun _ fs h=>by cases h;exact ⟨by kernel_rfl,by kernel_rfl,by kernel_rfl,by kernel_rfl⟩)
def V8v:TyI:=⟨.int .u64,1,8,[(.int .u64 0)],false⟩
theorem Y4h:TyOk Tryz.prog 295 V8v:=TyOk.of Tryz.underlying295 (show TK.ok _ (.int .u64) _ from rfl) (.int .u64 0) (by kernel_rfl) rfl rfl rfl rfl (by decide) (fun h=>by cases h)
def V8u:TyI:=⟨.array 6 4,6,6,[(.bool false),(.bool false),(.bool false),(.bool false),(.bool false),(.bool false)],false⟩
theorem Y4g:TyOk Tryz.prog 324 V8u:=TyOk.of Tryz.underlying324 (show TK.ok _ (.array 6 4) _ from rfl) (.agg #[(.bool false),(.bool false),(.bool false),(.bool false),(.bool false),(.bool false)]) (by kernel_rfl) rfl rfl rfl rfl (by decide) (fun h=>by cases h)
def V8t:TyI:=⟨.int .i64,1,8,[(.int .i64 0)],false⟩
theorem Y4f:TyOk Tryz.prog 327 V8t:=TyOk.of Tryz.underlying327 (show TK.ok _ (.int .i64) _ from rfl) (.int .i64 0) (by kernel_rfl) rfl rfl rfl rfl (by decide) (fun h=>by cases h)
def V8s:TyI:=⟨.int .u32,1,4,[(.int .u32 0)],false⟩
theorem Y4e:TyOk Tryz.prog 334 V8s:=TyOk.of Tryz.underlying334 (show TK.ok _ (.int .u32) _ from rfl) (.int .u32 0) (by kernel_rfl) rfl rfl rfl rfl (by decide) (fun h=>by cases h)
def V8r:TyI:=⟨.int .u64,1,8,[(.int .u64 0)],false⟩
theorem Y4d:TyOk Tryz.prog 336 V8r:=TyOk.of Tryz.underlying336 (show TK.ok _ (.int .u64) _ from rfl) (.int .u64 0) (by kernel_rfl) rfl rfl rfl rfl (by decide) (fun h=>by cases h)
def V8q:TyI:=⟨.int .u64,1,8,[(.int .u64 0)],false⟩
theorem Y4c:TyOk Tryz.prog 351 V8q:=TyOk.of Tryz.underlying351 (show TK.ok _ (.int .u64) _ from rfl) (.int .u64 0) (by kernel_rfl) rfl rfl rfl rfl (by decide) (fun h=>by cases h)
def V8p:TyI:=⟨.pointer 351,1,8,[(.pointer none)],false⟩
theorem Y4b:TyOk Tryz.prog 363 V8p:=TyOk.of Tryz.underlying363 (show TK.ok _ (.pointer 351) _ from rfl) (.pointer none) (by kernel_rfl) rfl rfl rfl rfl (by decide) (fun h=>by cases h)
def V8o:TyI:=⟨.struct [(0,17,1),(1,17,1),(2,17,1),(3,9,1)],4,40,[(.pointer none),(.pointer none),(.pointer none),(.string .empty)],false⟩
theorem Y4a:TyOk Tryz.prog 367 V8o:=TyOk.of Tryz.underlying367 (show TK.ok _ (.struct [(0,17,1),(1,17,1),(2,17,1),(3,9,1)]) _ from ⟨_,rfl,rfl,fun x hx=>by simp only [U8,List.not_mem_nil,or_false] at hx;rcases hx with rfl | rfl | rfl | rfl<;>exact ⟨by kernel_rfl,by decide⟩⟩) (.agg #[(.pointer none),(.pointer none),(.pointer none),(.string .empty)]) (by kernel_rfl) rfl rfl rfl rfl (by decide) (fun h=>by cases h)
def V8n:TyI:=⟨.struct [(0,17,1),(1,17,1),(2,17,1),(3,9,1)],4,40,[(.pointer none),(.pointer none),(.pointer none),(.string .empty)],false⟩
theorem Y49:TyOk Tryz.prog 368 V8n:=TyOk.of Tryz.underlying368 (show TK.ok _ (.struct [(0,17,1),(1,17,1),(2,17,1),(3,9,1)]) _ from ⟨_,rfl,rfl,fun x hx=>by simp only [U8,List.not_mem_nil,or_false] at hx;rcases hx with rfl | rfl | rfl | rfl<;>exact ⟨by kernel_rfl,by decide⟩⟩) (.agg #[(.pointer none),(.pointer none),(.pointer none),(.string .empty)]) (by kernel_rfl) rfl rfl rfl rfl (by decide) (fun h=>by cases h)
def V8m:TyI:=⟨.array 0 16,0,0,[],false⟩
theorem Y48:TyOk Tryz.prog 369 V8m:=TyOk.of Tryz.underlying369 (show TK.ok _ (.array 0 16) _ from rfl) (.agg #[]) (by kernel_rfl) rfl rfl rfl rfl (by decide) (fun h=>by cases h)
def V8l:TyI:=⟨.int .u8,1,1,[(.int .u8 0)],false⟩
theorem Y47:TyOk Tryz.prog 373 V8l:=TyOk.of Tryz.underlying373 (show TK.ok _ (.int .u8) _ from rfl) (.int .u8 0) (by kernel_rfl) rfl rfl rfl rfl (by decide) (fun h=>by cases h)
def V8k:TyI:=⟨.int .u8,1,1,[(.int .u8 0)],false⟩
theorem Y46:TyOk Tryz.prog 374 V8k:=TyOk.of Tryz.underlying374 (show TK.ok _ (.int .u8) _ from rfl) (.int .u8 0) (by kernel_rfl) rfl rfl rfl rfl (by decide) (fun h=>by cases h)
def V8j:TyI:=⟨.pointer 5,1,8,[(.pointer none)],false⟩
theorem Y45:TyOk Tryz.prog 376 V8j:=TyOk.of Tryz.underlying376 (show TK.ok _ (.pointer 5) _ from rfl) (.pointer none) (by kernel_rfl) rfl rfl rfl rfl (by decide) (fun h=>by cases h)
def V8i:TyI:=⟨.int .i32,1,4,[(.int .i32 0)],false⟩
theorem Y44:TyOk Tryz.prog 377 V8i:=TyOk.of Tryz.underlying377 (show TK.ok _ (.int .i32) _ from rfl) (.int .i32 0) (by kernel_rfl) rfl rfl rfl rfl (by decide) (fun h=>by cases h)
def V8h:TyI:=⟨.int .i32,1,4,[(.int .i32 0)],false⟩
theorem Y43:TyOk Tryz.prog 378 V8h:=TyOk.of Tryz.underlying378 (show TK.ok _ (.int .i32) _ from rfl) (.int .i32 0) (by kernel_rfl) rfl rfl rfl rfl (by decide) (fun h=>by cases h)
def Tys:Ty:=fun t=>match t with
 | 2=>some ti2
 | 3=>some ti3
 | 4=>some ti4
 | 5=>some ti5
 | 6=>some ti6
 | 7=>some ti7
 | 8=>some ti8
 | 9=>some ti9
 | 10=>some ti10
 | 11=>some ti11
 | 12=>some ti12
 | 13=>some ti13
 | 14=>some ti14
 | 15=>some ti15
 | 16=>some ti16
 | 17=>some ti17
 | 18=>some ti18
 | 19=>some ti19
 | 21=>some ti21
 | 22=>some ti22
 | 23=>some ti23
 | 24=>some ti24
 | 25=>some ti25
 | 26=>some ti26
 | 27=>some ti27
 | 30=>some ti30
 | 39=>some ti39
 | 40=>some ti40
 | 41=>some ti41
 | 42=>some ti42
 | 43=>some ti43
 | 55=>some ti55
 | 56=>some ti56
 | 59=>some ti59
 | 77=>some ti77
 | 86=>some ti86
 | 90=>some ti90
 | 91=>some ti91
 | 95=>some ti95
 | 98=>some ti98
 | 99=>some ti99
 | 100=>some Y09
 | 101=>some Y08
 | 102=>some Y07
 | 104=>some Y06
 | 105=>some Y05
 | 107=>some Y04
 | 108=>some Y03
 | 110=>some Y02
 | 111=>some Y01
 | 112=>some Y00
 | 114=>some V9z
 | 115=>some V9y
 | 116=>some V9x
 | 117=>some V9w
 | 128=>some V9v
 | 131=>some V9u
 | 132=>some V9t
 | 133=>some V9s
 | 134=>some V9r
 | 150=>some V9q
 | 151=>some V9p
 | 153=>some V9o
 | 154=>some V9n
 | 161=>some V9m
 | 165=>some V9l
 | 184=>some V9k
 | 186=>some V9j
 | 187=>some V9i
 | 195=>some V9h
 | 196=>some V9g
 | 197=>some V9f
 | 198=>some V9e
 | 232=>some V9d
 | 233=>some V9c
 | 234=>some V9b
 | 236=>some V9a
 | 237=>some V99
 | 239=>some V98
 | 252=>some V97
 | 253=>some V96
 | 254=>some V95
 | 260=>some V94
 | 261=>some V93
 | 264=>some V92
 | 265=>some V91
 | 274=>some V90
 | 282=>some V8z
 | 285=>some V8y
 | 289=>some V8x
 | 290=>some V8w
 | 295=>some V8v
 | 324=>some V8u
 | 327=>some V8t
 | 334=>some V8s
 | 336=>some V8r
 | 351=>some V8q
 | 363=>some V8p
 | 367=>some V8o
 | 368=>some V8n
 | 369=>some V8m
 | 373=>some V8l
 | 374=>some V8k
 | 376=>some V8j
 | 377=>some V8i
 | 378=>some V8h
 | _=>none
@[simp] theorem tys2:Tys 2=some ⟨.int .i64,1,8,[(.int .i64 0)],false⟩:=rfl
@[simp] theorem tys3:Tys 3=some ⟨.int .i64,1,8,[(.int .i64 0)],false⟩:=rfl
@[simp] theorem tys4:Tys 4=some ⟨.bool,1,1,[(.bool false)],false⟩:=rfl
@[simp] theorem tys5:Tys 5=some ⟨.int .u8,1,1,[(.int .u8 0)],false⟩:=rfl
@[simp] theorem tys6:Tys 6=some ⟨.int .u8,1,1,[(.int .u8 0)],false⟩:=rfl
@[simp] theorem tys7:Tys 7=some ⟨.struct [(0,2,1),(1,3,1),(2,4,1),(3,6,1)],4,24,[(.int .i64 0),(.int .i64 0),(.bool false),(.int .u8 0)],false⟩:=rfl
@[simp] theorem tys8:Tys 8=some ⟨.struct [(0,2,1),(1,3,1),(2,4,1),(3,6,1)],4,24,[(.int .i64 0),(.int .i64 0),(.bool false),(.int .u8 0)],false⟩:=rfl
@[simp] theorem tys9:Tys 9=some ⟨.string,1,16,[(.string .empty)],false⟩:=rfl
@[simp] theorem tys10:Tys 10=some ⟨.string,1,16,[(.string .empty)],false⟩:=rfl
@[simp] theorem tys11:Tys 11=some ⟨.string,1,16,[(.string .empty)],false⟩:=rfl
@[simp] theorem tys12:Tys 12=some ⟨.int .u64,1,8,[(.int .u64 0)],false⟩:=rfl
@[simp] theorem tys13:Tys 13=some ⟨.struct [(0,9,1),(1,12,1)],2,24,[(.string .empty),(.int .u64 0)],false⟩:=rfl
@[simp] theorem tys14:Tys 14=some ⟨.struct [(0,9,1),(1,12,1)],2,24,[(.string .empty),(.int .u64 0)],false⟩:=rfl
@[simp] theorem tys15:Tys 15=some ⟨.pointer 368,1,8,[(.pointer none)],false⟩:=rfl
@[simp] theorem tys16:Tys 16=some ⟨.pointer 371,1,8,[(.pointer none)],false⟩:=rfl
@[simp] theorem tys17:Tys 17=some ⟨.pointer 380,1,8,[(.pointer none)],false⟩:=rfl
@[simp] theorem tys18:Tys 18=some ⟨.struct [(0,17,1)],1,8,[(.pointer none)],false⟩:=rfl
@[simp] theorem tys19:Tys 19=some ⟨.struct [(0,17,1)],1,8,[(.pointer none)],false⟩:=rfl
@[simp] theorem tys21:Tys 21=some ⟨.int .i32,1,4,[(.int .i32 0)],false⟩:=rfl
@[simp] theorem tys22:Tys 22=some ⟨.slice 5,1,24,[(.slice none 0 0)],false⟩:=rfl
@[simp] theorem tys23:Tys 23=some ⟨.slice 234,1,24,[(.slice none 0 0)],false⟩:=rfl
@[simp] theorem tys24:Tys 24=some ⟨.struct [(0,3,1),(1,3,1)],2,16,[(.int .i64 0),(.int .i64 0)],false⟩:=rfl
@[simp] theorem tys25:Tys 25=some ⟨.struct [(0,3,1),(1,3,1)],2,16,[(.int .i64 0),(.int .i64 0)],true⟩:=rfl
@[simp] theorem tys26:Tys 26=some ⟨.slice 134,1,24,[(.slice none 0 0)],false⟩:=rfl
@[simp] theorem tys27:Tys 27=some ⟨.slice 56,1,24,[(.slice none 0 0)],false⟩:=rfl
@[simp] theorem tys30:Tys 30=some ⟨.slice 3,1,24,[(.slice none 0 0)],false⟩:=rfl
@[simp] theorem tys39:Tys 39=some ⟨.slice 115,1,24,[(.slice none 0 0)],false⟩:=rfl
@[simp] theorem tys40:Tys 40=some ⟨.slice 117,1,24,[(.slice none 0 0)],false⟩:=rfl
@[simp] theorem tys41:Tys 41=some ⟨.slice 43,1,24,[(.slice none 0 0)],false⟩:=rfl
@[simp] theorem tys42:Tys 42=some ⟨.struct [(0,3,1),(1,3,1),(2,39,1),(3,30,1),(4,40,1),(5,41,1)],6,112,[(.int .i64 0),(.int .i64 0),(.slice none 0 0),(.slice none 0 0),(.slice none 0 0),(.slice none 0 0)],false⟩:=rfl
@[simp] theorem tys43:Tys 43=some ⟨.struct [(0,3,1),(1,3,1),(2,39,1),(3,30,1),(4,40,1),(5,41,1)],6,112,[(.int .i64 0),(.int .i64 0),(.slice none 0 0),(.slice none 0 0),(.slice none 0 0),(.slice none 0 0)],false⟩:=rfl
@[simp] theorem tys55:Tys 55=some ⟨.struct [(0,3,1),(1,3,1),(2,27,1)],3,40,[(.int .i64 0),(.int .i64 0),(.slice none 0 0)],false⟩:=rfl
@[simp] theorem tys56:Tys 56=some ⟨.struct [(0,3,1),(1,3,1),(2,27,1)],3,40,[(.int .i64 0),(.int .i64 0),(.slice none 0 0)],false⟩:=rfl
@[simp] theorem tys59:Tys 59=some ⟨.slice 151,1,24,[(.slice none 0 0)],false⟩:=rfl
@[simp] theorem tys77:Tys 77=some ⟨.pointer 154,1,8,[(.pointer none)],false⟩:=rfl
@[simp] theorem tys86:Tys 86=some ⟨.array 8 4,8,8,[(.bool false),(.bool false),(.bool false),(.bool false),(.bool false),(.bool false),(.bool false),(.bool false)],false⟩:=rfl
@[simp] theorem tys90:Tys 90=some ⟨.slice 4,1,24,[(.slice none 0 0)],false⟩:=rfl
@[simp] theorem tys91:Tys 91=some ⟨.slice 100,1,24,[(.slice none 0 0)],false⟩:=rfl
@[simp] theorem tys95:Tys 95=some ⟨.slice 91,1,24,[(.slice none 0 0)],false⟩:=rfl
@[simp] theorem tys98:Tys 98=some ⟨.slice 102,1,24,[(.slice none 0 0)],false⟩:=rfl
@[simp] theorem tys99:Tys 99=some ⟨.struct [(0,3,1),(1,3,1),(2,3,1),(3,3,1),(4,3,1),(5,91,1)],6,64,[(.int .i64 0),(.int .i64 0),(.int .i64 0),(.int .i64 0),(.int .i64 0),(.slice none 0 0)],false⟩:=rfl
@[simp] theorem tys100:Tys 100=some ⟨.struct [(0,3,1),(1,3,1),(2,3,1),(3,3,1),(4,3,1),(5,91,1)],6,64,[(.int .i64 0),(.int .i64 0),(.int .i64 0),(.int .i64 0),(.int .i64 0),(.slice none 0 0)],false⟩:=rfl
@[simp] theorem tys101:Tys 101=some ⟨.struct [(0,3,1),(1,91,1),(2,39,1)],3,56,[(.int .i64 0),(.slice none 0 0),(.slice none 0 0)],false⟩:=rfl
@[simp] theorem tys102:Tys 102=some ⟨.struct [(0,3,1),(1,91,1),(2,39,1)],3,56,[(.int .i64 0),(.slice none 0 0),(.slice none 0 0)],false⟩:=rfl
@[simp] theorem tys104:Tys 104=some ⟨.pointer 108,1,8,[(.pointer none)],false⟩:=rfl
@[simp] theorem tys105:Tys 105=some ⟨.pointer 187,1,8,[(.pointer none)],false⟩:=rfl
@[simp] theorem tys107:Tys 107=some ⟨.struct [(0,105,1),(1,26,1),(2,3,1),(3,3,1)],4,48,[(.pointer none),(.slice none 0 0),(.int .i64 0),(.int .i64 0)],false⟩:=rfl
@[simp] theorem tys108:Tys 108=some ⟨.struct [(0,105,1),(1,26,1),(2,3,1),(3,3,1)],4,48,[(.pointer none),(.slice none 0 0),(.int .i64 0),(.int .i64 0)],false⟩:=rfl
@[simp] theorem tys110:Tys 110=some ⟨.struct [(0,30,1),(1,25,2)],3,40,[(.slice none 0 0),(.int .i64 0),(.int .i64 0)],false⟩:=rfl
@[simp] theorem tys111:Tys 111=some ⟨.struct [(0,30,1),(1,25,2)],3,40,[(.slice none 0 0),(.int .i64 0),(.int .i64 0)],false⟩:=rfl
@[simp] theorem tys112:Tys 112=some ⟨.slice 111,1,24,[(.slice none 0 0)],false⟩:=rfl
@[simp] theorem tys114:Tys 114=some ⟨.struct [(0,3,1),(1,30,1)],2,32,[(.int .i64 0),(.slice none 0 0)],false⟩:=rfl
@[simp] theorem tys115:Tys 115=some ⟨.struct [(0,3,1),(1,30,1)],2,32,[(.int .i64 0),(.slice none 0 0)],false⟩:=rfl
@[simp] theorem tys116:Tys 116=some ⟨.struct [(0,3,1),(1,3,1),(2,3,1),(3,43,6)],9,136,[(.int .i64 0),(.int .i64 0),(.int .i64 0),(.int .i64 0),(.int .i64 0),(.slice none 0 0),(.slice none 0 0),(.slice none 0 0),(.slice none 0 0)],false⟩:=rfl
@[simp] theorem tys117:Tys 117=some ⟨.struct [(0,3,1),(1,3,1),(2,3,1),(3,43,6)],9,136,[(.int .i64 0),(.int .i64 0),(.int .i64 0),(.int .i64 0),(.int .i64 0),(.slice none 0 0),(.slice none 0 0),(.slice none 0 0),(.slice none 0 0)],false⟩:=rfl
@[simp] theorem tys128:Tys 128=some ⟨.pointer 86,1,8,[(.pointer none)],false⟩:=rfl
@[simp] theorem tys131:Tys 131=some ⟨.struct [(0,3,1),(1,3,1),(2,3,1)],3,24,[(.int .i64 0),(.int .i64 0),(.int .i64 0)],false⟩:=rfl
@[simp] theorem tys132:Tys 132=some ⟨.struct [(0,3,1),(1,3,1),(2,3,1)],3,24,[(.int .i64 0),(.int .i64 0),(.int .i64 0)],true⟩:=rfl
@[simp] theorem tys133:Tys 133=some ⟨.struct [(0,100,6),(6,132,3)],9,88,[(.int .i64 0),(.int .i64 0),(.int .i64 0),(.int .i64 0),(.int .i64 0),(.slice none 0 0),(.int .i64 0),(.int .i64 0),(.int .i64 0)],false⟩:=rfl
@[simp] theorem tys134:Tys 134=some ⟨.struct [(0,100,6),(6,132,3)],9,88,[(.int .i64 0),(.int .i64 0),(.int .i64 0),(.int .i64 0),(.int .i64 0),(.slice none 0 0),(.int .i64 0),(.int .i64 0),(.int .i64 0)],false⟩:=rfl
@[simp] theorem tys150:Tys 150=some ⟨.struct [(0,3,1),(1,56,3)],4,48,[(.int .i64 0),(.int .i64 0),(.int .i64 0),(.slice none 0 0)],false⟩:=rfl
@[simp] theorem tys151:Tys 151=some ⟨.struct [(0,3,1),(1,56,3)],4,48,[(.int .i64 0),(.int .i64 0),(.int .i64 0),(.slice none 0 0)],false⟩:=rfl
@[simp] theorem tys153:Tys 153=some ⟨.struct [(0,22,1),(1,3,1)],2,32,[(.slice none 0 0),(.int .i64 0)],false⟩:=rfl
@[simp] theorem tys154:Tys 154=some ⟨.struct [(0,22,1),(1,3,1)],2,32,[(.slice none 0 0),(.int .i64 0)],false⟩:=rfl
@[simp] theorem tys161:Tys 161=some ⟨.slice 25,1,24,[(.slice none 0 0)],false⟩:=rfl
@[simp] theorem tys165:Tys 165=some ⟨.pointer 3,1,8,[(.pointer none)],false⟩:=rfl
@[simp] theorem tys184:Tys 184=some ⟨.pointer 254,1,8,[(.pointer none)],false⟩:=rfl
@[simp] theorem tys186:Tys 186=some ⟨.struct [(0,23,1),(1,184,1)],2,32,[(.slice none 0 0),(.pointer none)],false⟩:=rfl
@[simp] theorem tys187:Tys 187=some ⟨.struct [(0,23,1),(1,184,1)],2,32,[(.slice none 0 0),(.pointer none)],false⟩:=rfl
@[simp] theorem tys195:Tys 195=some ⟨.struct [(0,30,1),(1,25,2)],3,40,[(.slice none 0 0),(.int .i64 0),(.int .i64 0)],false⟩:=rfl
@[simp] theorem tys196:Tys 196=some ⟨.struct [(0,30,1),(1,25,2)],3,40,[(.slice none 0 0),(.int .i64 0),(.int .i64 0)],false⟩:=rfl
@[simp] theorem tys197:Tys 197=some ⟨.slice 196,1,24,[(.slice none 0 0)],false⟩:=rfl
@[simp] theorem tys198:Tys 198=some ⟨.slice 265,1,24,[(.slice none 0 0)],false⟩:=rfl
@[simp] theorem tys232:Tys 232=some ⟨.slice 237,1,24,[(.slice none 0 0)],false⟩:=rfl
@[simp] theorem tys233:Tys 233=some ⟨.struct [(0,9,1),(1,232,1)],2,40,[(.string .empty),(.slice none 0 0)],false⟩:=rfl
@[simp] theorem tys234:Tys 234=some ⟨.struct [(0,9,1),(1,232,1)],2,40,[(.string .empty),(.slice none 0 0)],false⟩:=rfl
@[simp] theorem tys236:Tys 236=some ⟨.struct [(0,9,1),(1,161,1),(2,3,1)],3,48,[(.string .empty),(.slice none 0 0),(.int .i64 0)],false⟩:=rfl
@[simp] theorem tys237:Tys 237=some ⟨.struct [(0,9,1),(1,161,1),(2,3,1)],3,48,[(.string .empty),(.slice none 0 0),(.int .i64 0)],false⟩:=rfl
@[simp] theorem tys239:Tys 239=some ⟨.slice 290,1,24,[(.slice none 0 0)],false⟩:=rfl
@[simp] theorem tys252:Tys 252=some ⟨.array 4 3,4,32,[(.int .i64 0),(.int .i64 0),(.int .i64 0),(.int .i64 0)],false⟩:=rfl
@[simp] theorem tys253:Tys 253=some ⟨.array 4 252,16,128,[(.int .i64 0),(.int .i64 0),(.int .i64 0),(.int .i64 0),(.int .i64 0),(.int .i64 0),(.int .i64 0),(.int .i64 0),(.int .i64 0),(.int .i64 0),(.int .i64 0),(.int .i64 0),(.int .i64 0),(.int .i64 0),(.int .i64 0),(.int .i64 0)],false⟩:=rfl
@[simp] theorem tys254:Tys 254=some ⟨.array 4 252,16,128,[(.int .i64 0),(.int .i64 0),(.int .i64 0),(.int .i64 0),(.int .i64 0),(.int .i64 0),(.int .i64 0),(.int .i64 0),(.int .i64 0),(.int .i64 0),(.int .i64 0),(.int .i64 0),(.int .i64 0),(.int .i64 0),(.int .i64 0),(.int .i64 0)],false⟩:=rfl
@[simp] theorem tys260:Tys 260=some ⟨.array 11 4,11,11,[(.bool false),(.bool false),(.bool false),(.bool false),(.bool false),(.bool false),(.bool false),(.bool false),(.bool false),(.bool false),(.bool false)],false⟩:=rfl
@[simp] theorem tys261:Tys 261=some ⟨.slice 112,1,24,[(.slice none 0 0)],false⟩:=rfl
@[simp] theorem tys264:Tys 264=some ⟨.struct [(0,3,1),(1,91,1),(2,39,1)],3,56,[(.int .i64 0),(.slice none 0 0),(.slice none 0 0)],false⟩:=rfl
@[simp] theorem tys265:Tys 265=some ⟨.struct [(0,3,1),(1,91,1),(2,39,1)],3,56,[(.int .i64 0),(.slice none 0 0),(.slice none 0 0)],false⟩:=rfl
@[simp] theorem tys274:Tys 274=some ⟨.slice 27,1,24,[(.slice none 0 0)],false⟩:=rfl
@[simp] theorem tys282:Tys 282=some ⟨.map 9 4,1,8,[(.map none)],false⟩:=rfl
@[simp] theorem tys285:Tys 285=some ⟨.slice 9,1,24,[(.slice none 0 0)],false⟩:=rfl
@[simp] theorem tys289:Tys 289=some ⟨.struct [(0,3,1),(1,25,2)],3,24,[(.int .i64 0),(.int .i64 0),(.int .i64 0)],false⟩:=rfl
@[simp] theorem tys290:Tys 290=some ⟨.struct [(0,3,1),(1,25,2)],3,24,[(.int .i64 0),(.int .i64 0),(.int .i64 0)],true⟩:=rfl
@[simp] theorem tys295:Tys 295=some ⟨.int .u64,1,8,[(.int .u64 0)],false⟩:=rfl
@[simp] theorem tys324:Tys 324=some ⟨.array 6 4,6,6,[(.bool false),(.bool false),(.bool false),(.bool false),(.bool false),(.bool false)],false⟩:=rfl
@[simp] theorem tys327:Tys 327=some ⟨.int .i64,1,8,[(.int .i64 0)],false⟩:=rfl
@[simp] theorem tys334:Tys 334=some ⟨.int .u32,1,4,[(.int .u32 0)],false⟩:=rfl
@[simp] theorem tys336:Tys 336=some ⟨.int .u64,1,8,[(.int .u64 0)],false⟩:=rfl
@[simp] theorem tys351:Tys 351=some ⟨.int .u64,1,8,[(.int .u64 0)],false⟩:=rfl
@[simp] theorem tys363:Tys 363=some ⟨.pointer 351,1,8,[(.pointer none)],false⟩:=rfl
@[simp] theorem tys367:Tys 367=some ⟨.struct [(0,17,1),(1,17,1),(2,17,1),(3,9,1)],4,40,[(.pointer none),(.pointer none),(.pointer none),(.string .empty)],false⟩:=rfl
@[simp] theorem tys368:Tys 368=some ⟨.struct [(0,17,1),(1,17,1),(2,17,1),(3,9,1)],4,40,[(.pointer none),(.pointer none),(.pointer none),(.string .empty)],false⟩:=rfl
@[simp] theorem tys369:Tys 369=some ⟨.array 0 16,0,0,[],false⟩:=rfl
@[simp] theorem tys373:Tys 373=some ⟨.int .u8,1,1,[(.int .u8 0)],false⟩:=rfl
@[simp] theorem tys374:Tys 374=some ⟨.int .u8,1,1,[(.int .u8 0)],false⟩:=rfl
@[simp] theorem tys376:Tys 376=some ⟨.pointer 5,1,8,[(.pointer none)],false⟩:=rfl
@[simp] theorem tys377:Tys 377=some ⟨.int .i32,1,4,[(.int .i32 0)],false⟩:=rfl
@[simp] theorem tys378:Tys 378=some ⟨.int .i32,1,4,[(.int .i32 0)],false⟩:=rfl
theorem Q90:Z0s Tryz.prog Tys:=fun t i h=>by
 unfold Tys at h
 split at h
 ·cases h;exact ty2
 ·cases h;exact ty3
 ·cases h;exact ty4
 ·cases h;exact ty5
 ·cases h;exact ty6
 ·cases h;exact ty7
 ·cases h;exact ty8
 ·cases h;exact ty9
 ·cases h;exact ty10
 ·cases h;exact ty11
 ·cases h;exact ty12
 ·cases h;exact ty13
 ·cases h;exact ty14
 ·cases h;exact ty15
 ·cases h;exact ty16
 ·cases h;exact ty17
 ·cases h;exact ty18
 ·cases h;exact ty19
 ·cases h;exact ty21
 ·cases h;exact ty22
 ·cases h;exact ty23
 ·cases h;exact ty24
 ·cases h;exact ty25
 ·cases h;exact ty26
 ·cases h;exact ty27
 ·cases h;exact ty30
 ·cases h;exact ty39
 ·cases h;exact ty40
 ·cases h;exact ty41
 ·cases h;exact ty42
 ·cases h;exact ty43
 ·cases h;exact ty55
 ·cases h;exact ty56
 ·cases h;exact ty59
 ·cases h;exact ty77
 ·cases h;exact ty86
 ·cases h;exact ty90
 ·cases h;exact ty91
 ·cases h;exact ty95
 ·cases h;exact ty98
 ·cases h;exact ty99
 ·cases h;exact Y5v
 ·cases h;exact Y5u
 ·cases h;exact Y5t
 ·cases h;exact Y5s
 ·cases h;exact Y5r
 ·cases h;exact Y5q
 ·cases h;exact Y5p
 ·cases h;exact Y5o
 ·cases h;exact Y5n
 ·cases h;exact Y5m
 ·cases h;exact Y5l
 ·cases h;exact Y5k
 ·cases h;exact Y5j
 ·cases h;exact Y5i
 ·cases h;exact Y5h
 ·cases h;exact Y5g
 ·cases h;exact Y5f
 ·cases h;exact Y5e
 ·cases h;exact Y5d
 ·cases h;exact Y5c
 ·cases h;exact Y5b
 ·cases h;exact Y5a
 ·cases h;exact Y59
 ·cases h;exact Y58
 ·cases h;exact Y57
 ·cases h;exact Y56
 ·cases h;exact Y55
 ·cases h;exact Y54
 ·cases h;exact Y53
 ·cases h;exact Y52
 ·cases h;exact Y51
 ·cases h;exact Y50
 ·cases h;exact Y4z
 ·cases h;exact Y4y
 ·cases h;exact Y4x
 ·cases h;exact Y4w
 ·cases h;exact Y4v
 ·cases h;exact Y4u
 ·cases h;exact Y4t
 ·cases h;exact Y4s
 ·cases h;exact Y4r
 ·cases h;exact Y4q
 ·cases h;exact Y4p
 ·cases h;exact Y4o
 ·cases h;exact Y4n
 ·cases h;exact Y4m
 ·cases h;exact Y4l
 ·cases h;exact Y4k
 ·cases h;exact Y4j
 ·cases h;exact Y4i
 ·cases h;exact Y4h
 ·cases h;exact Y4g
 ·cases h;exact Y4f
 ·cases h;exact Y4e
 ·cases h;exact Y4d
 ·cases h;exact Y4c
 ·cases h;exact Y4b
 ·cases h;exact Y4a
 ·cases h;exact Y49
 ·cases h;exact Y48
 ·cases h;exact Y47
 ·cases h;exact Y46
 ·cases h;exact Y45
 ·cases h;exact Y44
 ·cases h;exact Y43
 ·cases h
theorem V1t:Tryz.prog.follows .mixedOrders=true:=rfl
end Go.Proofs.YtbdkbdafhlcilaaGreat
