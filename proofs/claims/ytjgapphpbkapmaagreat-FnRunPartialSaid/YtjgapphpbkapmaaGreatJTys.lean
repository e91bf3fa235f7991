import Derived.KernelRfl
import Derived.Test.YtjgapphpbkapmaaGreatProg
import Derived.Test.YtjgapphpbkapmaaGreatJE1
set_option linter.unusedSimpArgs false
set_option linter.unusedVariables false
namespace Go.Proofs.YtjgapphpbkapmaaGreat
open Go Go.RowKit
def ti2:TyI:=⟨.int .i64,1,8,[(.int .i64 0)],false⟩
theorem ty2:TyOk Tryz.prog 2 ti2:=TyOk.of Tryz.underlying2 (show TK.ok _ (.int .i64) _ from rfl) (.int .i64 0) (by kernel_rfl) rfl rfl rfl rfl (by decide) (fun h=>by cases h)
def ti3:TyI:=⟨.int .i64,1,8,[(.int .i64 0)],false⟩
theorem ty3:TyOk Tryz.prog 3 ti3:=TyOk.of Tryz.underlying3 (show TK.ok _ (.int .i64) _ from rfl) (.int .i64 0) (by kernel_rfl) rfl rfl rfl rfl (by decide) (fun h=>by cases h)
def ti4:TyI:=⟨.bool,1,1,[(.bool false)],false⟩
theorem ty4:TyOk Tryz.prog 4 ti4:=TyOk.of Tryz.underlying4 (show TK.ok _ (.bool) _ from rfl) (.bool false) (by kernel_rfl) rfl rfl rfl rfl (by decide) (fun h=>by cases h)
def ti5:TyI:=⟨.int .u8,1,1,[(.int .u8 0)],false⟩
theorem ty5:TyOk Tryz.prog 5 ti5:=TyOk.of Tryz.underlying5 (show TK.ok _ (.int .u8) _ from rfl) (.int .u8 0) (by kernel_rfl) rfl rfl rfl rfl (by decide) (fun h=>by cases h)
def ti6:TyI:=⟨.int .u8,1,1,[(.int .u8 0)],false⟩
theorem ty6:TyOk Tryz.prog 6 ti6:=TyOk.of Tryz.underlying6 (show TK.ok _ (.int .u8) _ from rfl) (.int .u8 0) (by kernel_rfl) rfl rfl rfl rfl (by decide) (fun h=>by cases h)
def ti7:TyI:=⟨.struct [(0,2,1),(1,3,1),(2,4,1),(3,6,1)],4,24,[(.int .i64 0),(.int .i64 0),(.bool false),(.int .u8 0)],false⟩
theorem ty7:TyOk Tryz.prog 7 ti7:=TyOk.of Tryz.underlying7 (show TK.ok _ (.struct [(0,2,1),(1,3,1),(2,4,1),(3,6,1)]) _ from ⟨_,rfl,rfl,fun x hx=>by simp only [U8,List.not_mem_nil,or_false] at hx;rcases hx with rfl | rfl | rfl | rfl<;>exact ⟨by kernel_rfl,by decide⟩⟩) (.agg #[(.int .i64 0),(.int .i64 0),(.bool false),(.int .u8 0)]) (by kernel_rfl) rfl rfl rfl rfl (by decide) (fun h=>by cases h)
def ti8:TyI:=⟨.struct [(0,2,1),(1,3,1),(2,4,1),(3,6,1)],4,24,[(.int .i64 0),(.int .i64 0),(.bool false),(.int .u8 0)],false⟩
theorem ty8:TyOk Tryz.prog 8 ti8:=TyOk.of Tryz.underlying8 (show TK.ok _ (.struct [(0,2,1),(1,3,1),(2,4,1),(3,6,1)]) _ from ⟨_,rfl,rfl,fun x hx=>by simp only [U8,List.not_mem_nil,or_false] at hx;rcases hx with rfl | rfl | rfl | rfl<;>exact ⟨by kernel_rfl,by decide⟩⟩) (.agg #[(.int .i64 0),(.int .i64 0),(.bool false),(.int .u8 0)]) (by kernel_rfl) rfl rfl rfl rfl (by decide) (fun h=>by cases h)
def ti9:TyI:=⟨.string,1,16,[(.string .empty)],false⟩
theorem ty9:TyOk Tryz.prog 9 ti9:=TyOk.of Tryz.underlying9 (show TK.ok _ (.string) _ from rfl) (.string .empty) (by kernel_rfl) rfl rfl rfl rfl (by decide) (fun h=>by cases h)
def ti10:TyI:=⟨.string,1,16,[(.string .empty)],false⟩
theorem ty10:TyOk Tryz.prog 10 ti10:=TyOk.of Tryz.underlying10 (show TK.ok _ (.string) _ from rfl) (.string .empty) (by kernel_rfl) rfl rfl rfl rfl (by decide) (fun h=>by cases h)
def ti11:TyI:=⟨.string,1,16,[(.string .empty)],false⟩
theorem ty11:TyOk Tryz.prog 11 ti11:=TyOk.of Tryz.underlying11 (show TK.ok _ (.string) _ from rfl) (.string .empty) (by kernel_rfl) rfl rfl rfl rfl (by decide) (fun h=>by cases h)
def ti12:TyI:=⟨.int .u64,1,8,[(.int .u64 0)],false⟩
theorem ty12:TyOk Tryz.prog 12 ti12:=TyOk.of Tryz.underlying12 (show TK.ok _ (.int .u64) _ from rfl) (.int .u64 0) (by kernel_rfl) rfl rfl rfl rfl (by decide) (fun h=>by cases h)
def ti13:TyI:=⟨.struct [(0,9,1),(1,12,1)],2,24,[(.string .empty),(.int .u64 0)],false⟩
theorem ty13:TyOk Tryz.prog 13 ti13:=TyOk.of Tryz.underlying13 (show TK.ok _ (.struct [(0,9,1),(1,12,1)]) _ from ⟨_,rfl,rfl,fun x hx=>by simp only [U8,List.not_mem_nil,or_false] at hx;rcases hx with rfl | rfl<;>exact ⟨by kernel_rfl,by decide⟩⟩) (.agg #[(.string .empty),(.int .u64 0)]) (by kernel_rfl) rfl rfl rfl rfl (by decide) (fun h=>by cases h)
def ti14:TyI:=⟨.struct [(0,9,1),(1,12,1)],2,24,[(.string .empty),(.int .u64 0)],false⟩
theorem ty14:TyOk Tryz.prog 14 ti14:=TyOk.of Tryz.underlying14 (show TK.ok _ (.struct [(0,9,1),(1,12,1)]) _ from ⟨_,rfl,rfl,fun x hx=>by simp only [U8,List.not_mem_nil,or_false] at hx;rcases hx with rfl | rfl<;>exact ⟨by kernel_rfl,by decide⟩⟩) (.agg #[(.string .empty),(.int .u64 0)]) (by kernel_rfl) rfl rfl rfl rfl (by decide) (fun h=>by cases h)
def ti15:TyI:=⟨.pointer 363,1,8,[(.pointer none)],false⟩
theorem ty15:TyOk Tryz.prog 15 ti15:=TyOk.of Tryz.underlying15 (show TK.ok _ (.pointer 363) _ from rfl) (.pointer none) (by kernel_rfl) rfl rfl rfl rfl (by decide) (fun h=>by cases h)
def ti16:TyI:=⟨.pointer 366,1,8,[(.pointer none)],false⟩
theorem ty16:TyOk Tryz.prog 16 ti16:=TyOk.of Tryz.underlying16 (show TK.ok _ (.pointer 366) _ from rfl) (.pointer none) (by kernel_rfl) rfl rfl rfl rfl (by decide) (fun h=>by cases h)
def ti17:TyI:=⟨.pointer 374,1,8,[(.pointer none)],false⟩
theorem ty17:TyOk Tryz.prog 17 ti17:=TyOk.of Tryz.underlying17 (show TK.ok _ (.pointer 374) _ from rfl) (.pointer none) (by kernel_rfl) rfl rfl rfl rfl (by decide) (fun h=>by cases h)
def ti18:TyI:=⟨.struct [(0,17,1)],1,8,[(.pointer none)],false⟩
theorem ty18:TyOk Tryz.prog 18 ti18:=TyOk.of Tryz.underlying18 (show TK.ok _ (.struct [(0,17,1)]) _ from ⟨_,rfl,rfl,fun x hx=>by simp only [U8,List.not_mem_nil,or_false] at hx;rcases hx with rfl<;>exact ⟨by kernel_rfl,by decide⟩⟩) (.agg #[(.pointer none)]) (by kernel_rfl) rfl rfl rfl rfl (by decide) (fun h=>by cases h)
def ti19:TyI:=⟨.struct [(0,17,1)],1,8,[(.pointer none)],false⟩
theorem ty19:TyOk Tryz.prog 19 ti19:=TyOk.of Tryz.underlying19 (show TK.ok _ (.struct [(0,17,1)]) _ from ⟨_,rfl,rfl,fun x hx=>by simp only [U8,List.not_mem_nil,or_false] at hx;rcases hx with rfl<;>exact ⟨by kernel_rfl,by decide⟩⟩) (.agg #[(.pointer none)]) (by kernel_rfl) rfl rfl rfl rfl (by decide) (fun h=>by cases h)
def ti21:TyI:=⟨.int .i32,1,4,[(.int .i32 0)],false⟩
theorem ty21:TyOk Tryz.prog 21 ti21:=TyOk.of Tryz.underlying21 (show TK.ok _ (.int .i32) _ from rfl) (.int .i32 0) (by kernel_rfl) rfl rfl rfl rfl (by decide) (fun h=>by cases h)
def ti22:TyI:=⟨.slice 5,1,24,[(.slice none 0 0)],false⟩
theorem ty22:TyOk Tryz.prog 22 ti22:=TyOk.of Tryz.underlying22 (show TK.ok _ (.slice 5) _ from rfl) (.slice none 0 0) (by kernel_rfl) rfl rfl rfl rfl (by decide) (fun h=>by cases h)
def ti23:TyI:=⟨.slice 253,1,24,[(.slice none 0 0)],false⟩
theorem ty23:TyOk Tryz.prog 23 ti23:=TyOk.of Tryz.underlying23 (show TK.ok _ (.slice 253) _ from rfl) (.slice none 0 0) (by kernel_rfl) rfl rfl rfl rfl (by decide) (fun h=>by cases h)
def ti24:TyI:=⟨.struct [(0,3,1),(1,3,1)],2,16,[(.int .i64 0),(.int .i64 0)],false⟩
theorem ty24:TyOk Tryz.prog 24 ti24:=TyOk.of Tryz.underlying24 (show TK.ok _ (.struct [(0,3,1),(1,3,1)]) _ from ⟨_,rfl,rfl,fun x hx=>by simp only [U8,List.not_mem_nil,or_false] at hx;rcases hx with rfl | rfl<;>exact ⟨by kernel_rfl,by decide⟩⟩) (.agg #[(.int .i64 0),(.int .i64 0)]) (by kernel_rfl) rfl rfl rfl rfl (by decide) (fun h=>by cases h)
def ti25:TyI:=⟨.struct [(0,3,1),(1,3,1)],2,16,[(.int .i64 0),(.int .i64 0)],true⟩
theorem ty25:TyOk Tryz.prog 25 ti25:=TyOk.of Tryz.underlying25 (show TK.ok _ (.struct [(0,3,1),(1,3,1)]) _ from ⟨_,rfl,rfl,fun x hx=>by simp only [U8,List.not_mem_nil,or_false] at hx;rcases hx with rfl | rfl<;>exact ⟨by kernel_rfl,by decide⟩⟩) (.agg #[(.int .i64 0),(.int .i64 0)]) (by kernel_rfl) rfl rfl rfl rfl (by decide) (fun _ fs h=>by cases h;exact ⟨by kernel_rfl,by kernel_rfl,by kernel_rfl,by kernel_rfl⟩)
def ti26:TyI:=⟨.slice 149,1,24,[(.slice none 0 0)],false⟩
theorem ty26:TyOk Tryz.prog 26 ti26:=TyOk.of Tryz.underlying26 (show TK.ok _ (.slice 149) _ from rfl) (.slice none 0 0) (by kernel_rfl) rfl rfl rfl rfl (by decide) (fun h=>by cases h)
def ti27:TyI:=⟨.slice 29,1,24,[(.slice none 0 0)],false⟩
theorem ty27:TyOk Tryz.prog 27 ti27:=TyOk.of Tryz.underlying27 (show TK.ok _ (.slice 29) _ from rfl) (.slice none 0 0) (by kernel_rfl) rfl rfl rfl rfl (by decide) (fun h=>by cases h)
def ti28:TyI:=⟨.struct [(0,3,1),(1,3,1),(2,27,1)],3,40,[(.int .i64 0),(.int .i64 0),(.slice none 0 0)],false⟩
theorem ty28:TyOk Tryz.prog 28 ti28:=TyOk.of Tryz.underlying28 (show TK.ok _ (.struct [(0,3,1),(1,3,1),(2,27,1)]) _ from ⟨_,rfl,rfl,fun x hx=>by simp only [U8,List.not_mem_nil,or_false] at hx;rcases hx with rfl | rfl | rfl<;>exact ⟨by kernel_rfl,by decide⟩⟩) (.agg #[(.int .i64 0),(.int .i64 0),(.slice none 0 0)]) (by kernel_rfl) rfl rfl rfl rfl (by decide) (fun h=>by cases h)
def ti29:TyI:=⟨.struct [(0,3,1),(1,3,1),(2,27,1)],3,40,[(.int .i64 0),(.int .i64 0),(.slice none 0 0)],false⟩
theorem ty29:TyOk Tryz.prog 29 ti29:=TyOk.of Tryz.underlying29 (show TK.ok _ (.struct [(0,3,1),(1,3,1),(2,27,1)]) _ from ⟨_,rfl,rfl,fun x hx=>by simp only [U8,List.not_mem_nil,or_false] at hx;rcases hx with rfl | rfl | rfl<;>exact ⟨by kernel_rfl,by decide⟩⟩) (.agg #[(.int .i64 0),(.int .i64 0),(.slice none 0 0)]) (by kernel_rfl) rfl rfl rfl rfl (by decide) (fun h=>by cases h)
def ti32:TyI:=⟨.slice 82,1,24,[(.slice none 0 0)],false⟩
theorem ty32:TyOk Tryz.prog 32 ti32:=TyOk.of Tryz.underlying32 (show TK.ok _ (.slice 82) _ from rfl) (.slice none 0 0) (by kernel_rfl) rfl rfl rfl rfl (by decide) (fun h=>by cases h)
def ti43:TyI:=⟨.slice 139,1,24,[(.slice none 0 0)],false⟩
theorem ty43:TyOk Tryz.prog 43 ti43:=TyOk.of Tryz.underlying43 (show TK.ok _ (.slice 139) _ from rfl) (.slice none 0 0) (by kernel_rfl) rfl rfl rfl rfl (by decide) (fun h=>by cases h)
def ti44:TyI:=⟨.slice 3,1,24,[(.slice none 0 0)],false⟩
theorem ty44:TyOk Tryz.prog 44 ti44:=TyOk.of Tryz.underlying44 (show TK.ok _ (.slice 3) _ from rfl) (.slice none 0 0) (by kernel_rfl) rfl rfl rfl rfl (by decide) (fun h=>by cases h)
def ti45:TyI:=⟨.slice 168,1,24,[(.slice none 0 0)],false⟩
theorem ty45:TyOk Tryz.prog 45 ti45:=TyOk.of Tryz.underlying45 (show TK.ok _ (.slice 168) _ from rfl) (.slice none 0 0) (by kernel_rfl) rfl rfl rfl rfl (by decide) (fun h=>by cases h)
def ti46:TyI:=⟨.slice 48,1,24,[(.slice none 0 0)],false⟩
theorem ty46:TyOk Tryz.prog 46 ti46:=TyOk.of Tryz.underlying46 (show TK.ok _ (.slice 48) _ from rfl) (.slice none 0 0) (by kernel_rfl) rfl rfl rfl rfl (by decide) (fun h=>by cases h)
def ti47:TyI:=⟨.struct [(0,3,1),(1,3,1),(2,43,1),(3,44,1),(4,45,1),(5,46,1)],6,112,[(.int .i64 0),(.int .i64 0),(.slice none 0 0),(.slice none 0 0),(.slice none 0 0),(.slice none 0 0)],false⟩
theorem ty47:TyOk Tryz.prog 47 ti47:=TyOk.of Tryz.underlying47 (show TK.ok _ (.struct [(0,3,1),(1,3,1),(2,43,1),(3,44,1),(4,45,1),(5,46,1)]) _ from ⟨_,rfl,rfl,fun x hx=>by simp only [U8,List.not_mem_nil,or_false] at hx;rcases hx with rfl | rfl | rfl | rfl | rfl | rfl<;>exact ⟨by kernel_rfl,by decide⟩⟩) (.agg #[(.int .i64 0),(.int .i64 0),(.slice none 0 0),(.slice none 0 0),(.slice none 0 0),(.slice none 0 0)]) (by kernel_rfl) rfl rfl rfl rfl (by decide) (fun h=>by cases h)
def ti48:TyI:=⟨.struct [(0,3,1),(1,3,1),(2,43,1),(3,44,1),(4,45,1),(5,46,1)],6,112,[(.int .i64 0),(.int .i64 0),(.slice none 0 0),(.slice none 0 0),(.slice none 0 0),(.slice none 0 0)],false⟩
theorem ty48:TyOk Tryz.prog 48 ti48:=TyOk.of Tryz.underlying48 (show TK.ok _ (.struct [(0,3,1),(1,3,1),(2,43,1),(3,44,1),(4,45,1),(5,46,1)]) _ from ⟨_,rfl,rfl,fun x hx=>by simp only [U8,List.not_mem_nil,or_false] at hx;rcases hx with rfl | rfl | rfl | rfl | rfl | rfl<;>exact ⟨by kernel_rfl,by decide⟩⟩) (.agg #[(.int .i64 0),(.int .i64 0),(.slice none 0 0),(.slice none 0 0),(.slice none 0 0),(.slice none 0 0)]) (by kernel_rfl) rfl rfl rfl rfl (by decide) (fun h=>by cases h)
def ti51:TyI:=⟨.slice 166,1,24,[(.slice none 0 0)],false⟩
theorem ty51:TyOk Tryz.prog 51 ti51:=TyOk.of Tryz.underlying51 (show TK.ok _ (.slice 166) _ from rfl) (.slice none 0 0) (by kernel_rfl) rfl rfl rfl rfl (by decide) (fun h=>by cases h)
def ti54:TyI:=⟨.slice 44,1,24,[(.slice none 0 0)],false⟩
theorem ty54:TyOk Tryz.prog 54 ti54:=TyOk.of Tryz.underlying54 (show TK.ok _ (.slice 44) _ from rfl) (.slice none 0 0) (by kernel_rfl) rfl rfl rfl rfl (by decide) (fun h=>by cases h)
def ti72:TyI:=⟨.slice 77,1,24,[(.slice none 0 0)],false⟩
theorem ty72:TyOk Tryz.prog 72 ti72:=TyOk.of Tryz.underlying72 (show TK.ok _ (.slice 77) _ from rfl) (.slice none 0 0) (by kernel_rfl) rfl rfl rfl rfl (by decide) (fun h=>by cases h)
def ti76:TyI:=⟨.struct [(0,3,1),(1,44,1),(2,3,1),(3,3,1),(4,3,1),(5,3,1),(6,43,1),(7,3,1)],8,96,[(.int .i64 0),(.slice none 0 0),(.int .i64 0),(.int .i64 0),(.int .i64 0),(.int .i64 0),(.slice none 0 0),(.int .i64 0)],false⟩
theorem ty76:TyOk Tryz.prog 76 ti76:=TyOk.of Tryz.underlying76 (show TK.ok _ (.struct [(0,3,1),(1,44,1),(2,3,1),(3,3,1),(4,3,1),(5,3,1),(6,43,1),(7,3,1)]) _ from ⟨_,rfl,rfl,fun x hx=>by simp only [U8,List.not_mem_nil,or_false] at hx;rcases hx with rfl | rfl | rfl | rfl | rfl | rfl | rfl | rfl<;>exact ⟨by kernel_rfl,by decide⟩⟩) (.agg #[(.int .i64 0),(.slice none 0 0),(.int .i64 0),(.int .i64 0),(.int .i64 0),(.int .i64 0),(.slice none 0 0),(.int .i64 0)]) (by kernel_rfl) rfl rfl rfl rfl (by decide) (fun h=>by cases h)
def ti77:TyI:=⟨.struct [(0,3,1),(1,44,1),(2,3,1),(3,3,1),(4,3,1),(5,3,1),(6,43,1),(7,3,1)],8,96,[(.int .i64 0),(.slice none 0 0),(.int .i64 0),(.int .i64 0),(.int .i64 0),(.int .i64 0),(.slice none 0 0),(.int .i64 0)],false⟩
theorem ty77:TyOk Tryz.prog 77 ti77:=TyOk.of Tryz.underlying77 (show TK.ok _ (.struct [(0,3,1),(1,44,1),(2,3,1),(3,3,1),(4,3,1),(5,3,1),(6,43,1),(7,3,1)]) _ from ⟨_,rfl,rfl,fun x hx=>by simp only [U8,List.not_mem_nil,or_false] at hx;rcases hx with rfl | rfl | rfl | rfl | rfl | rfl | rfl | rfl<;>exact ⟨by kernel_rfl,by decide⟩⟩) (.agg #[(.int .i64 0),(.slice none 0 0),(.int .i64 0),(.int .i64 0),(.int .i64 0),(.int .i64 0),(.slice none 0 0),(.int .i64 0)]) (by kernel_rfl) rfl rfl rfl rfl (by decide) (fun h=>by cases h)
def ti81:TyI:=⟨.struct [(0,3,1),(1,29,3)],4,48,[(.int .i64 0),(.int .i64 0),(.int .i64 0),(.slice none 0 0)],false⟩
theorem ty81:TyOk Tryz.prog 81 ti81:=TyOk.of Tryz.underlying81 (show TK.ok _ (.struct [(0,3,1),(1,29,3)]) _ from ⟨_,rfl,rfl,fun x hx=>by simp only [U8,List.not_mem_nil,or_false] at hx;rcases hx with rfl | rfl<;>exact ⟨by kernel_rfl,by decide⟩⟩) (.agg #[(.int .i64 0),(.int .i64 0),(.int .i64 0),(.slice none 0 0)]) (by kernel_rfl) rfl rfl rfl rfl (by decide) (fun h=>by cases h)
def ti82:TyI:=⟨.struct [(0,3,1),(1,29,3)],4,48,[(.int .i64 0),(.int .i64 0),(.int .i64 0),(.slice none 0 0)],false⟩
theorem ty82:TyOk Tryz.prog 82 ti82:=TyOk.of Tryz.underlying82 (show TK.ok _ (.struct [(0,3,1),(1,29,3)]) _ from ⟨_,rfl,rfl,fun x hx=>by simp only [U8,List.not_mem_nil,or_false] at hx;rcases hx with rfl | rfl<;>exact ⟨by kernel_rfl,by decide⟩⟩) (.agg #[(.int .i64 0),(.int .i64 0),(.int .i64 0),(.slice none 0 0)]) (by kernel_rfl) rfl rfl rfl rfl (by decide) (fun h=>by cases h)
def ti90:TyI:=⟨.slice 94,1,24,[(.slice none 0 0)],false⟩
theorem ty90:TyOk Tryz.prog 90 ti90:=TyOk.of Tryz.underlying90 (show TK.ok _ (.slice 94) _ from rfl) (.slice none 0 0) (by kernel_rfl) rfl rfl rfl rfl (by decide) (fun h=>by cases h)
def ti93:TyI:=⟨.slice 98,1,24,[(.slice none 0 0)],false⟩
theorem ty93:TyOk Tryz.prog 93 ti93:=TyOk.of Tryz.underlying93 (show TK.ok _ (.slice 98) _ from rfl) (.slice none 0 0) (by kernel_rfl) rfl rfl rfl rfl (by decide) (fun h=>by cases h)
def ti94:TyI:=⟨.slice 96,1,24,[(.slice none 0 0)],false⟩
theorem ty94:TyOk Tryz.prog 94 ti94:=TyOk.of Tryz.underlying94 (show TK.ok _ (.slice 96) _ from rfl) (.slice none 0 0) (by kernel_rfl) rfl rfl rfl rfl (by decide) (fun h=>by cases h)
def ti95:TyI:=⟨.struct [(0,3,1),(1,3,1),(2,3,1),(3,3,1),(4,3,1),(5,94,1)],6,64,[(.int .i64 0),(.int .i64 0),(.int .i64 0),(.int .i64 0),(.int .i64 0),(.slice none 0 0)],false⟩
theorem ty95:TyOk Tryz.prog 95 ti95:=TyOk.of Tryz.underlying95 (show TK.ok _ (.struct [(0,3,1),(1,3,1),(2,3,1),(3,3,1),(4,3,1),(5,94,1)]) _ from ⟨_,rfl,rfl,fun x hx=>by simp only [U8,List.not_mem_nil,or_false] at hx;rcases hx with rfl | rfl | rfl | rfl | rfl | rfl<;>exact ⟨by kernel_rfl,by decide⟩⟩) (.agg #[(.int .i64 0),(.int .i64 0),(.int .i64 0),(.int .i64 0),(.int .i64 0),(.slice none 0 0)]) (by kernel_rfl) rfl rfl rfl rfl (by decide) (fun h=>by cases h)
def ti96:TyI:=⟨.struct [(0,3,1),(1,3,1),(2,3,1),(3,3,1),(4,3,1),(5,94,1)],6,64,[(.int .i64 0),(.int .i64 0),(.int .i64 0),(.int .i64 0),(.int .i64 0),(.slice none 0 0)],false⟩
theorem ty96:TyOk Tryz.prog 96 ti96:=TyOk.of Tryz.underlying96 (show TK.ok _ (.struct [(0,3,1),(1,3,1),(2,3,1),(3,3,1),(4,3,1),(5,94,1)]) _ from ⟨_,rfl,rfl,fun x hx=>by simp only [U8,List.not_mem_nil,or_false] at hx;rcases hx with rfl | rfl | rfl | rfl | rfl | rfl<;>exact ⟨by kernel_rfl,by decide⟩⟩) (.agg #[(.int .i64 0),(.int .i64 0),(.int .i64 0),(.int .i64 0),(.int .i64 0),(.slice none 0 0)]) (by kernel_rfl) rfl rfl rfl rfl (by decide) (fun h=>by cases h)
def ti97:TyI:=⟨.struct [(0,3,1),(1,94,1),(2,43,1)],3,56,[(.int .i64 0),(.slice none 0 0),(.slice none 0 0)],false⟩
theorem ty97:TyOk Tryz.prog 97 ti97:=TyOk.of Tryz.underlying97 (show TK.ok _ (.struct [(0,3,1),(1,94,1),(2,43,1)]) _ from ⟨_,rfl,rfl,fun x hx=>by simp only [U8,List.not_mem_nil,or_false] at hx;rcases hx with rfl | rfl | rfl<;>exact ⟨by kernel_rfl,by decide⟩⟩) (.agg #[(.int .i64 0),(.slice none 0 0),(.slice none 0 0)]) (by kernel_rfl) rfl rfl rfl rfl (by decide) (fun h=>by cases h)
def ti98:TyI:=⟨.struct [(0,3,1),(1,94,1),(2,43,1)],3,56,[(.int .i64 0),(.slice none 0 0),(.slice none 0 0)],false⟩
theorem ty98:TyOk Tryz.prog 98 ti98:=TyOk.of Tryz.underlying98 (show TK.ok _ (.struct [(0,3,1),(1,94,1),(2,43,1)]) _ from ⟨_,rfl,rfl,fun x hx=>by simp only [U8,List.not_mem_nil,or_false] at hx;rcases hx with rfl | rfl | rfl<;>exact ⟨by kernel_rfl,by decide⟩⟩) (.agg #[(.int .i64 0),(.slice none 0 0),(.slice none 0 0)]) (by kernel_rfl) rfl rfl rfl rfl (by decide) (fun h=>by cases h)
def V6v:TyI:=⟨.pointer 104,1,8,[(.pointer none)],false⟩
theorem Y25:TyOk Tryz.prog 100 V6v:=TyOk.of Tryz.underlying100 (show TK.ok _ (.pointer 104) _ from rfl) (.pointer none) (by kernel_rfl) rfl rfl rfl rfl (by decide) (fun h=>by cases h)
def V6u:TyI:=⟨.pointer 179,1,8,[(.pointer none)],false⟩
theorem Y24:TyOk Tryz.prog 101 V6u:=TyOk.of Tryz.underlying101 (show TK.ok _ (.pointer 179) _ from rfl) (.pointer none) (by kernel_rfl) rfl rfl rfl rfl (by decide) (fun h=>by cases h)
def V6t:TyI:=⟨.struct [(0,101,1),(1,26,1),(2,3,1),(3,3,1)],4,48,[(.pointer none),(.slice none 0 0),(.int .i64 0),(.int .i64 0)],false⟩
theorem Y23:TyOk Tryz.prog 103 V6t:=TyOk.of Tryz.underlying103 (show TK.ok _ (.struct [(0,101,1),(1,26,1),(2,3,1),(3,3,1)]) _ from ⟨_,rfl,rfl,fun x hx=>by simp only [U8,List.not_mem_nil,or_false] at hx;rcases hx with rfl | rfl | rfl | rfl<;>exact ⟨by kernel_rfl,by decide⟩⟩) (.agg #[(.pointer none),(.slice none 0 0),(.int .i64 0),(.int .i64 0)]) (by kernel_rfl) rfl rfl rfl rfl (by decide) (fun h=>by cases h)
def V6s:TyI:=⟨.struct [(0,101,1),(1,26,1),(2,3,1),(3,3,1)],4,48,[(.pointer none),(.slice none 0 0),(.int .i64 0),(.int .i64 0)],false⟩
theorem Y22:TyOk Tryz.prog 104 V6s:=TyOk.of Tryz.underlying104 (show TK.ok _ (.struct [(0,101,1),(1,26,1),(2,3,1),(3,3,1)]) _ from ⟨_,rfl,rfl,fun x hx=>by simp only [U8,List.not_mem_nil,or_false] at hx;rcases hx with rfl | rfl | rfl | rfl<;>exact ⟨by kernel_rfl,by decide⟩⟩) (.agg #[(.pointer none),(.slice none 0 0),(.int .i64 0),(.int .i64 0)]) (by kernel_rfl) rfl rfl rfl rfl (by decide) (fun h=>by cases h)
def V6r:TyI:=⟨.struct [(0,44,1),(1,25,2)],3,40,[(.slice none 0 0),(.int .i64 0),(.int .i64 0)],false⟩
theorem Y21:TyOk Tryz.prog 106 V6r:=TyOk.of Tryz.underlying106 (show TK.ok _ (.struct [(0,44,1),(1,25,2)]) _ from ⟨_,rfl,rfl,fun x hx=>by simp only [U8,List.not_mem_nil,or_false] at hx;rcases hx with rfl | rfl<;>exact ⟨by kernel_rfl,by decide⟩⟩) (.agg #[(.slice none 0 0),(.int .i64 0),(.int .i64 0)]) (by kernel_rfl) rfl rfl rfl rfl (by decide) (fun h=>by cases h)
def V6q:TyI:=⟨.struct [(0,44,1),(1,25,2)],3,40,[(.slice none 0 0),(.int .i64 0),(.int .i64 0)],false⟩
theorem Y20:TyOk Tryz.prog 107 V6q:=TyOk.of Tryz.underlying107 (show TK.ok _ (.struct [(0,44,1),(1,25,2)]) _ from ⟨_,rfl,rfl,fun x hx=>by simp only [U8,List.not_mem_nil,or_false] at hx;rcases hx with rfl | rfl<;>exact ⟨by kernel_rfl,by decide⟩⟩) (.agg #[(.slice none 0 0),(.int .i64 0),(.int .i64 0)]) (by kernel_rfl) rfl rfl rfl rfl (by decide) (fun h=>by cases h)
def V6p:TyI:=⟨.slice 107,1,24,[(.slice none 0 0)],false⟩
theorem Y1z:TyOk Tryz.prog 108 V6p:=TyOk.of Tryz.underlying108 (show TK.ok _ (.slice 107) _ from rfl) (.slice none 0 0) (by kernel_rfl) rfl rfl rfl rfl (by decide) (fun h=>by cases h)
def V6o:TyI:=⟨.pointer 51,1,8,[(.pointer none)],false⟩
theorem Y1y:TyOk Tryz.prog 113 V6o:=TyOk.of Tryz.underlying113 (show TK.ok _ (.pointer 51) _ from rfl) (.pointer none) (by kernel_rfl) rfl rfl rfl rfl (by decide) (fun h=>by cases h)
def V6n:TyI:=⟨.pointer 197,1,8,[(.pointer none)],false⟩
theorem Y1x:TyOk Tryz.prog 117 V6n:=TyOk.of Tryz.underlying117 (show TK.ok _ (.pointer 197) _ from rfl) (.pointer none) (by kernel_rfl) rfl rfl rfl rfl (by decide) (fun h=>by cases h)
def V6m:TyI:=⟨.pointer 3,1,8,[(.pointer none)],false⟩
theorem Y1w:TyOk Tryz.prog 125 V6m:=TyOk.of Tryz.underlying125 (show TK.ok _ (.pointer 3) _ from rfl) (.pointer none) (by kernel_rfl) rfl rfl rfl rfl (by decide) (fun h=>by cases h)
def V6l:TyI:=⟨.pointer 72,1,8,[(.pointer none)],false⟩
theorem Y1v:TyOk Tryz.prog 135 V6l:=TyOk.of Tryz.underlying135 (show TK.ok _ (.pointer 72) _ from rfl) (.pointer none) (by kernel_rfl) rfl rfl rfl rfl (by decide) (fun h=>by cases h)
def V6k:TyI:=⟨.pointer 43,1,8,[(.pointer none)],false⟩
theorem Y1u:TyOk Tryz.prog 136 V6k:=TyOk.of Tryz.underlying136 (show TK.ok _ (.pointer 43) _ from rfl) (.pointer none) (by kernel_rfl) rfl rfl rfl rfl (by decide) (fun h=>by cases h)
def V6j:TyI:=⟨.struct [(0,3,1),(1,44,1)],2,32,[(.int .i64 0),(.slice none 0 0)],false⟩
theorem Y1t:TyOk Tryz.prog 138 V6j:=TyOk.of Tryz.underlying138 (show TK.ok _ (.struct [(0,3,1),(1,44,1)]) _ from ⟨_,rfl,rfl,fun x hx=>by simp only [U8,List.not_mem_nil,or_false] at hx;rcases hx with rfl | rfl<;>exact ⟨by kernel_rfl,by decide⟩⟩) (.agg #[(.int .i64 0),(.slice none 0 0)]) (by kernel_rfl) rfl rfl rfl rfl (by decide) (fun h=>by cases h)
def V6i:TyI:=⟨.struct [(0,3,1),(1,44,1)],2,32,[(.int .i64 0),(.slice none 0 0)],false⟩
theorem Y1s:TyOk Tryz.prog 139 V6i:=TyOk.of Tryz.underlying139 (show TK.ok _ (.struct [(0,3,1),(1,44,1)]) _ from ⟨_,rfl,rfl,fun x hx=>by simp only [U8,List.not_mem_nil,or_false] at hx;rcases hx with rfl | rfl<;>exact ⟨by kernel_rfl,by decide⟩⟩) (.agg #[(.int .i64 0),(.slice none 0 0)]) (by kernel_rfl) rfl rfl rfl rfl (by decide) (fun h=>by cases h)
def V6h:TyI:=⟨.struct [(0,3,1),(1,3,1),(2,3,1)],3,24,[(.int .i64 0),(.int .i64 0),(.int .i64 0)],false⟩
theorem Y1r:TyOk Tryz.prog 146 V6h:=TyOk.of Tryz.underlying146 (show TK.ok _ (.struct [(0,3,1),(1,3,1),(2,3,1)]) _ from ⟨_,rfl,rfl,fun x hx=>by simp only [U8,List.not_mem_nil,or_false] at hx;rcases hx with rfl | rfl | rfl<;>exact ⟨by kernel_rfl,by decide⟩⟩) (.agg #[(.int .i64 0),(.int .i64 0),(.int .i64 0)]) (by kernel_rfl) rfl rfl rfl rfl (by decide) (fun h=>by cases h)
def V6g:TyI:=⟨.struct [(0,3,1),(1,3,1),(2,3,1)],3,24,[(.int .i64 0),(.int .i64 0),(.int .i64 0)],true⟩
theorem Y1q:TyOk Tryz.prog 147 V6g:=TyOk.of Tryz.underlying147 (show TK.ok _ (.struct [(0,3,1),(1,3,1),(2,3,1)]) _ from ⟨_,rfl,rfl,fun x hx=>by simp only [U8,List.not_mem_nil,or_false] at hx;rcases hx with rfl | rfl | rfl<;>exact ⟨by kernel_rfl,by decide⟩⟩) (.agg #[(.int .i64 0),(.int .i64 0),(.int .i64 0)]) (by kernel_rfl) rfl rfl rfl rfl (by decide) (fun _ fs h=>by cases h;exact ⟨by kernel_rfl,by kernel_rfl,by kernel_rfl,by kernel_rfl⟩)
def V6f:TyI:=⟨.struct [(0,96,6),(6,147,3)],9,88,[(.int .i64 0),(.int .i64 0),(.int .i64 0),(.int .i64 0),(.int .i64 0),(.slice none 0 0),(.int .i64 0),(.int .i64 0),(.int .i64 0)],false⟩
theorem Y1p:TyOk Tryz.prog 148 V6f:=TyOk.of Tryz.underlying148 (show TK.ok _ (.struct [(0,96,6),(6,147,3)]) _ from ⟨_,rfl,rfl,fun x hx=>by simp only [U8,List.not_mem_nil,or_false] at hx;rcases hx with rfl | rfl<;>exact ⟨by kernel_rfl,by decide⟩⟩) (.agg #[(.int .i64 0),(.int .i64 0),(.int .i64 0),(.int .i64 0),(.int .i64 0),(.slice none 0 0),(.int .i64 0),(.int .i64 0),(.int .i64 0)]) (by kernel_rfl) rfl rfl rfl rfl (by decide) (fun h=>by cases h)
def V6e:TyI:=⟨.struct [(0,96,6),(6,147,3)],9,88,[(.int .i64 0),(.int .i64 0),(.int .i64 0),(.int .i64 0),(.int .i64 0),(.slice none 0 0),(.int .i64 0),(.int .i64 0),(.int .i64 0)],false⟩
theorem Y1o:TyOk Tryz.prog 149 V6e:=TyOk.of Tryz.underlying149 (show TK.ok _ (.struct [(0,96,6),(6,147,3)]) _ from ⟨_,rfl,rfl,fun x hx=>by simp only [U8,List.not_mem_nil,or_false] at hx;rcases hx with rfl | rfl<;>exact ⟨by kernel_rfl,by decide⟩⟩) (.agg #[(.int .i64 0),(.int .i64 0),(.int .i64 0),(.int .i64 0),(.int .i64 0),(.slice none 0 0),(.int .i64 0),(.int .i64 0),(.int .i64 0)]) (by kernel_rfl) rfl rfl rfl rfl (by decide) (fun h=>by cases h)
def V6d:TyI:=⟨.slice 170,1,24,[(.slice none 0 0)],false⟩
theorem Y1n:TyOk Tryz.prog 164 V6d:=TyOk.of Tryz.underlying164 (show TK.ok _ (.slice 170) _ from rfl) (.slice none 0 0) (by kernel_rfl) rfl rfl rfl rfl (by decide) (fun h=>by cases h)
def V6c:TyI:=⟨.struct [(0,3,1),(1,3,1),(2,43,1),(3,44,1),(4,164,1),(5,3,1)],6,96,[(.int .i64 0),(.int .i64 0),(.slice none 0 0),(.slice none 0 0),(.slice none 0 0),(.int .i64 0)],false⟩
theorem Y1m:TyOk Tryz.prog 165 V6c:=TyOk.of Tryz.underlying165 (show TK.ok _ (.struct [(0,3,1),(1,3,1),(2,43,1),(3,44,1),(4,164,1),(5,3,1)]) _ from ⟨_,rfl,rfl,fun x hx=>by simp only [U8,List.not_mem_nil,or_false] at hx;rcases hx with rfl | rfl | rfl | rfl | rfl | rfl<;>exact ⟨by kernel_rfl,by decide⟩⟩) (.agg #[(.int .i64 0),(.int .i64 0),(.slice none 0 0),(.slice none 0 0),(.slice none 0 0),(.int .i64 0)]) (by kernel_rfl) rfl rfl rfl rfl (by decide) (fun h=>by cases h)
def V6b:TyI:=⟨.struct [(0,3,1),(1,3,1),(2,43,1),(3,44,1),(4,164,1),(5,3,1)],6,96,[(.int .i64 0),(.int .i64 0),(.slice none 0 0),(.slice none 0 0),(.slice none 0 0),(.int .i64 0)],false⟩
theorem Y1l:TyOk Tryz.prog 166 V6b:=TyOk.of Tryz.underlying166 (show TK.ok _ (.struct [(0,3,1),(1,3,1),(2,43,1),(3,44,1),(4,164,1),(5,3,1)]) _ from ⟨_,rfl,rfl,fun x hx=>by simp only [U8,List.not_mem_nil,or_false] at hx;rcases hx with rfl | rfl | rfl | rfl | rfl | rfl<;>exact ⟨by kernel_rfl,by decide⟩⟩) (.agg #[(.int .i64 0),(.int .i64 0),(.slice none 0 0),(.slice none 0 0),(.slice none 0 0),(.int .i64 0)]) (by kernel_rfl) rfl rfl rfl rfl (by decide) (fun h=>by cases h)
def V6a:TyI:=⟨.struct [(0,3,1),(1,3,1),(2,3,1),(3,48,6)],9,136,[(.int .i64 0),(.int .i64 0),(.int .i64 0),(.int .i64 0),(.int .i64 0),(.slice none 0 0),(.slice none 0 0),(.slice none 0 0),(.slice none 0 0)],false⟩
theorem Y1k:TyOk Tryz.prog 167 V6a:=TyOk.of Tryz.underlying167 (show TK.ok _ (.struct [(0,3,1),(1,3,1),(2,3,1),(3,48,6)]) _ from ⟨_,rfl,rfl,fun x hx=>by simp only [U8,List.not_mem_nil,or_false] at hx;rcases hx with rfl | rfl | rfl | rfl<;>exact ⟨by kernel_rfl,by decide⟩⟩) (.agg #[(.int .i64 0),(.int .i64 0),(.int .i64 0),(.int .i64 0),(.int .i64 0),(.slice none 0 0),(.slice none 0 0),(.slice none 0 0),(.slice none 0 0)]) (by kernel_rfl) rfl rfl rfl rfl (by decide) (fun h=>by cases h)
def V69:TyI:=⟨.struct [(0,3,1),(1,3,1),(2,3,1),(3,48,6)],9,136,[(.int .i64 0),(.int .i64 0),(.int .i64 0),(.int .i64 0),(.int .i64 0),(.slice none 0 0),(.slice none 0 0),(.slice none 0 0),(.slice none 0 0)],false⟩
theorem Y1j:TyOk Tryz.prog 168 V69:=TyOk.of Tryz.underlying168 (show TK.ok _ (.struct [(0,3,1),(1,3,1),(2,3,1),(3,48,6)]) _ from ⟨_,rfl,rfl,fun x hx=>by simp only [U8,List.not_mem_nil,or_false] at hx;rcases hx with rfl | rfl | rfl | rfl<;>exact ⟨by kernel_rfl,by decide⟩⟩) (.agg #[(.int .i64 0),(.int .i64 0),(.int .i64 0),(.int .i64 0),(.int .i64 0),(.slice none 0 0),(.slice none 0 0),(.slice none 0 0),(.slice none 0 0)]) (by kernel_rfl) rfl rfl rfl rfl (by decide) (fun h=>by cases h)
def V68:TyI:=⟨.struct [(0,3,1),(1,3,1),(2,3,1),(3,3,1)],4,32,[(.int .i64 0),(.int .i64 0),(.int .i64 0),(.int .i64 0)],false⟩
theorem Y1i:TyOk Tryz.prog 169 V68:=TyOk.of Tryz.underlying169 (show TK.ok _ (.struct [(0,3,1),(1,3,1),(2,3,1),(3,3,1)]) _ from ⟨_,rfl,rfl,fun x hx=>by simp only [U8,List.not_mem_nil,or_false] at hx;rcases hx with rfl | rfl | rfl | rfl<;>exact ⟨by kernel_rfl,by decide⟩⟩) (.agg #[(.int .i64 0),(.int .i64 0),(.int .i64 0),(.int .i64 0)]) (by kernel_rfl) rfl rfl rfl rfl (by decide) (fun h=>by cases h)
def V67:TyI:=⟨.struct [(0,3,1),(1,3,1),(2,3,1),(3,3,1)],4,32,[(.int .i64 0),(.int .i64 0),(.int .i64 0),(.int .i64 0)],true⟩
theorem Y1h:TyOk Tryz.prog 170 V67:=TyOk.of Tryz.underlying170 (show TK.ok _ (.struct [(0,3,1),(1,3,1),(2,3,1),(3,3,1)]) _ from ⟨_,rfl,rfl,fun x hx=>by simp only [U8,List.not_mem_nil,or_false] at hx;rcases hx with rfl | rfl | rfl | rfl<;>exact ⟨by kernel_rfl,by decide⟩⟩) (.agg #[(.int .i64 0),(.int .i64 0),(.int .i64 0),(.int .i64 0)]) (by kernel_rfl) rfl rfl rfl rfl (by decide) (fun _ fs h=>by cases h;exact ⟨by kernel_rfl,by kernel_rfl,by kernel_rfl,by kernel_rfl⟩)
def V66:TyI:=⟨.pointer 243,1,8,[(.pointer none)],false⟩
theorem Y1g:TyOk Tryz.prog 176 V66:=TyOk.of Tryz.underlying176 (show TK.ok _ (.pointer 243) _ from rfl) (.pointer none) (by kernel_rfl) rfl rfl rfl rfl (by decide) (fun h=>by cases h)
def V65:TyI:=⟨.struct [(0,23,1),(1,176,1)],2,32,[(.slice none 0 0),(.pointer none)],false⟩
theorem Y1f:TyOk Tryz.prog 178 V65:=TyOk.of Tryz.underlying178 (show TK.ok _ (.struct [(0,23,1),(1,176,1)]) _ from ⟨_,rfl,rfl,fun x hx=>by simp only [U8,List.not_mem_nil,or_false] at hx;rcases hx with rfl | rfl<;>exact ⟨by kernel_rfl,by decide⟩⟩) (.agg #[(.slice none 0 0),(.pointer none)]) (by kernel_rfl) rfl rfl rfl rfl (by decide) (fun h=>by cases h)
def V64:TyI:=⟨.struct [(0,23,1),(1,176,1)],2,32,[(.slice none 0 0),(.pointer none)],false⟩
theorem Y1e:TyOk Tryz.prog 179 V64:=TyOk.of Tryz.underlying179 (show TK.ok _ (.struct [(0,23,1),(1,176,1)]) _ from ⟨_,rfl,rfl,fun x hx=>by simp only [U8,List.not_mem_nil,or_false] at hx;rcases hx with rfl | rfl<;>exact ⟨by kernel_rfl,by decide⟩⟩) (.agg #[(.slice none 0 0),(.pointer none)]) (by kernel_rfl) rfl rfl rfl rfl (by decide) (fun h=>by cases h)
def V63:TyI:=⟨.slice 25,1,24,[(.slice none 0 0)],false⟩
theorem Y1d:TyOk Tryz.prog 182 V63:=TyOk.of Tryz.underlying182 (show TK.ok _ (.slice 25) _ from rfl) (.slice none 0 0) (by kernel_rfl) rfl rfl rfl rfl (by decide) (fun h=>by cases h)
def V62:TyI:=⟨.struct [(0,22,1),(1,3,1)],2,32,[(.slice none 0 0),(.int .i64 0)],false⟩
theorem Y1c:TyOk Tryz.prog 196 V62:=TyOk.of Tryz.underlying196 (show TK.ok _ (.struct [(0,22,1),(1,3,1)]) _ from ⟨_,rfl,rfl,fun x hx=>by simp only [U8,List.not_mem_nil,or_false] at hx;rcases hx with rfl | rfl<;>exact ⟨by kernel_rfl,by decide⟩⟩) (.agg #[(.slice none 0 0),(.int .i64 0)]) (by kernel_rfl) rfl rfl rfl rfl (by decide) (fun h=>by cases h)
def V61:TyI:=⟨.struct [(0,22,1),(1,3,1)],2,32,[(.slice none 0 0),(.int .i64 0)],false⟩
theorem Y1b:TyOk Tryz.prog 197 V61:=TyOk.of Tryz.underlying197 (show TK.ok _ (.struct [(0,22,1),(1,3,1)]) _ from ⟨_,rfl,rfl,fun x hx=>by simp only [U8,List.not_mem_nil,or_false] at hx;rcases hx with rfl | rfl<;>exact ⟨by kernel_rfl,by decide⟩⟩) (.agg #[(.slice none 0 0),(.int .i64 0)]) (by kernel_rfl) rfl rfl rfl rfl (by decide) (fun h=>by cases h)
def V60:TyI:=⟨.int .u64,1,8,[(.int .u64 0)],false⟩
theorem Y1a:TyOk Tryz.prog 219 V60:=TyOk.of Tryz.underlying219 (show TK.ok _ (.int .u64) _ from rfl) (.int .u64 0) (by kernel_rfl) rfl rfl rfl rfl (by decide) (fun h=>by cases h)
def V5z:TyI:=⟨.slice 290,1,24,[(.slice none 0 0)],false⟩
theorem Y19:TyOk Tryz.prog 227 V5z:=TyOk.of Tryz.underlying227 (show TK.ok _ (.slice 290) _ from rfl) (.slice none 0 0) (by kernel_rfl) rfl rfl rfl rfl (by decide) (fun h=>by cases h)
def V5y:TyI:=⟨.struct [(0,44,1),(1,25,2)],3,40,[(.slice none 0 0),(.int .i64 0),(.int .i64 0)],false⟩
theorem Y18:TyOk Tryz.prog 235 V5y:=TyOk.of Tryz.underlying235 (show TK.ok _ (.struct [(0,44,1),(1,25,2)]) _ from ⟨_,rfl,rfl,fun x hx=>by simp only [U8,List.not_mem_nil,or_false] at hx;rcases hx with rfl | rfl<;>exact ⟨by kernel_rfl,by decide⟩⟩) (.agg #[(.slice none 0 0),(.int .i64 0),(.int .i64 0)]) (by kernel_rfl) rfl rfl rfl rfl (by decide) (fun h=>by cases h)
def V5x:TyI:=⟨.struct [(0,44,1),(1,25,2)],3,40,[(.slice none 0 0),(.int .i64 0),(.int .i64 0)],false⟩
theorem Y17:TyOk Tryz.prog 236 V5x:=TyOk.of Tryz.underlying236 (show TK.ok _ (.struct [(0,44,1),(1,25,2)]) _ from ⟨_,rfl,rfl,fun x hx=>by simp only [U8,List.not_mem_nil,or_false] at hx;rcases hx with rfl | rfl<;>exact ⟨by kernel_rfl,by decide⟩⟩) (.agg #[(.slice none 0 0),(.int .i64 0),(.int .i64 0)]) (by kernel_rfl) rfl rfl rfl rfl (by decide) (fun h=>by cases h)
def V5w:TyI:=⟨.slice 236,1,24,[(.slice none 0 0)],false⟩
theorem Y16:TyOk Tryz.prog 237 V5w:=TyOk.of Tryz.underlying237 (show TK.ok _ (.slice 236) _ from rfl) (.slice none 0 0) (by kernel_rfl) rfl rfl rfl rfl (by decide) (fun h=>by cases h)
def V5v:TyI:=⟨.slice 293,1,24,[(.slice none 0 0)],false⟩
theorem Y15:TyOk Tryz.prog 238 V5v:=TyOk.of Tryz.underlying238 (show TK.ok _ (.slice 293) _ from rfl) (.slice none 0 0) (by kernel_rfl) rfl rfl rfl rfl (by decide) (fun h=>by cases h)
def V5u:TyI:=⟨.array 4 3,4,32,[(.int .i64 0),(.int .i64 0),(.int .i64 0),(.int .i64 0)],false⟩
theorem Y14:TyOk Tryz.prog 241 V5u:=TyOk.of Tryz.underlying241 (show TK.ok _ (.array 4 3) _ from rfl) (.agg #[(.int .i64 0),(.int .i64 0),(.int .i64 0),(.int .i64 0)]) (by kernel_rfl) rfl rfl rfl rfl (by decide) (fun h=>by cases h)
def V5t:TyI:=⟨.array 4 241,16,128,[(.int .i64 0),(.int .i64 0),(.int .i64 0),(.int .i64 0),(.int .i64 0),(.int .i64 0),(.int .i64 0),(.int .i64 0),(.int .i64 0),(.int .i64 0),(.int .i64 0),(.int .i64 0),(.int .i64 0),(.int .i64 0),(.int .i64 0),(.int .i64 0)],false⟩
theorem Y13:TyOk Tryz.prog 242 V5t:=TyOk.of Tryz.underlying242 (show TK.ok _ (.array 4 241) _ from rfl) (.agg #[(.int .i64 0),(.int .i64 0),(.int .i64 0),(.int .i64 0),(.int .i64 0),(.int .i64 0),(.int .i64 0),(.int .i64 0),(.int .i64 0),(.int .i64 0),(.int .i64 0),(.int .i64 0),(.int .i64 0),(.int .i64 0),(.int .i64 0),(.int .i64 0)]) (by kernel_rfl) rfl rfl rfl rfl (by decide) (fun h=>by cases h)
def V5s:TyI:=⟨.array 4 241,16,128,[(.int .i64 0),(.int .i64 0),(.int .i64 0),(.int .i64 0),(.int .i64 0),(.int .i64 0),(.int .i64 0),(.int .i64 0),(.int .i64 0),(.int .i64 0),(.int .i64 0),(.int .i64 0),(.int .i64 0),(.int .i64 0),(.int .i64 0),(.int .i64 0)],false⟩
theorem Y12:TyOk Tryz.prog 243 V5s:=TyOk.of Tryz.underlying243 (show TK.ok _ (.array 4 241) _ from rfl) (.agg #[(.int .i64 0),(.int .i64 0),(.int .i64 0),(.int .i64 0),(.int .i64 0),(.int .i64 0),(.int .i64 0),(.int .i64 0),(.int .i64 0),(.int .i64 0),(.int .i64 0),(.int .i64 0),(.int .i64 0),(.int .i64 0),(.int .i64 0),(.int .i64 0)]) (by kernel_rfl) rfl rfl rfl rfl (by decide) (fun h=>by cases h)
def V5r:TyI:=⟨.array 11 4,11,11,[(.bool false),(.bool false),(.bool false),(.bool false),(.bool false),(.bool false),(.bool false),(.bool false),(.bool false),(.bool false),(.bool false)],false⟩
theorem Y11:TyOk Tryz.prog 248 V5r:=TyOk.of Tryz.underlying248 (show TK.ok _ (.array 11 4) _ from rfl) (.agg #[(.bool false),(.bool false),(.bool false),(.bool false),(.bool false),(.bool false),(.bool false),(.bool false),(.bool false),(.bool false),(.bool false)]) (by kernel_rfl) rfl rfl rfl rfl (by decide) (fun h=>by cases h)
def V5q:TyI:=⟨.struct [(0,9,1),(1,182,1),(2,3,1)],3,48,[(.string .empty),(.slice none 0 0),(.int .i64 0)],false⟩
theorem Y10:TyOk Tryz.prog 249 V5q:=TyOk.of Tryz.underlying249 (show TK.ok _ (.struct [(0,9,1),(1,182,1),(2,3,1)]) _ from ⟨_,rfl,rfl,fun x hx=>by simp only [U8,List.not_mem_nil,or_false] at hx;rcases hx with rfl | rfl | rfl<;>exact ⟨by kernel_rfl,by decide⟩⟩) (.agg #[(.string .empty),(.slice none 0 0),(.int .i64 0)]) (by kernel_rfl) rfl rfl rfl rfl (by decide) (fun h=>by cases h)
def V5p:TyI:=⟨.struct [(0,9,1),(1,182,1),(2,3,1)],3,48,[(.string .empty),(.slice none 0 0),(.int .i64 0)],false⟩
theorem Y0z:TyOk Tryz.prog 250 V5p:=TyOk.of Tryz.underlying250 (show TK.ok _ (.struct [(0,9,1),(1,182,1),(2,3,1)]) _ from ⟨_,rfl,rfl,fun x hx=>by simp only [U8,List.not_mem_nil,or_false] at hx;rcases hx with rfl | rfl | rfl<;>exact ⟨by kernel_rfl,by decide⟩⟩) (.agg #[(.string .empty),(.slice none 0 0),(.int .i64 0)]) (by kernel_rfl) rfl rfl rfl rfl (by decide) (fun h=>by cases h)
def V5o:TyI:=⟨.slice 250,1,24,[(.slice none 0 0)],false⟩
theorem Y0y:TyOk Tryz.prog 251 V5o:=TyOk.of Tryz.underlying251 (show TK.ok _ (.slice 250) _ from rfl) (.slice none 0 0) (by kernel_rfl) rfl rfl rfl rfl (by decide) (fun h=>by cases h)
def V5n:TyI:=⟨.struct [(0,9,1),(1,251,1)],2,40,[(.string .empty),(.slice none 0 0)],false⟩
theorem Y0x:TyOk Tryz.prog 252 V5n:=TyOk.of Tryz.underlying252 (show TK.ok _ (.struct [(0,9,1),(1,251,1)]) _ from ⟨_,rfl,rfl,fun x hx=>by simp only [U8,List.not_mem_nil,or_false] at hx;rcases hx with rfl | rfl<;>exact ⟨by kernel_rfl,by decide⟩⟩) (.agg #[(.string .empty),(.slice none 0 0)]) (by kernel_rfl) rfl rfl rfl rfl (by decide) (fun h=>by cases h)
def V5m:TyI:=⟨.struct [(0,9,1),(1,251,1)],2,40,[(.string .empty),(.slice none 0 0)],false⟩
theorem Y0w:TyOk Tryz.prog 253 V5m:=TyOk.of Tryz.underlying253 (show TK.ok _ (.struct [(0,9,1),(1,251,1)]) _ from ⟨_,rfl,rfl,fun x hx=>by simp only [U8,List.not_mem_nil,or_false] at hx;rcases hx with rfl | rfl<;>exact ⟨by kernel_rfl,by decide⟩⟩) (.agg #[(.string .empty),(.slice none 0 0)]) (by kernel_rfl) rfl rfl rfl rfl (by decide) (fun h=>by cases h)
def V5l:TyI:=⟨.slice 108,1,24,[(.slice none 0 0)],false⟩
theorem Y0v:TyOk Tryz.prog 254 V5l:=TyOk.of Tryz.underlying254 (show TK.ok _ (.slice 108) _ from rfl) (.slice none 0 0) (by kernel_rfl) rfl rfl rfl rfl (by decide) (fun h=>by cases h)
def V5k:TyI:=⟨.map 9 4,1,8,[(.map none)],false⟩
theorem Y0u:TyOk Tryz.prog 262 V5k:=TyOk.of Tryz.underlying262 (show TK.ok _ (.map 9 4) _ from rfl) (.map none) (by kernel_rfl) rfl rfl rfl rfl (by decide) (fun h=>by cases h)
def V5j:TyI:=⟨.int .i64,1,8,[(.int .i64 0)],false⟩
theorem Y0t:TyOk Tryz.prog 272 V5j:=TyOk.of Tryz.underlying272 (show TK.ok _ (.int .i64) _ from rfl) (.int .i64 0) (by kernel_rfl) rfl rfl rfl rfl (by decide) (fun h=>by cases h)
def V5i:TyI:=⟨.int .u32,1,4,[(.int .u32 0)],false⟩
theorem Y0s:TyOk Tryz.prog 279 V5i:=TyOk.of Tryz.underlying279 (show TK.ok _ (.int .u32) _ from rfl) (.int .u32 0) (by kernel_rfl) rfl rfl rfl rfl (by decide) (fun h=>by cases h)
def V5h:TyI:=⟨.int .u64,1,8,[(.int .u64 0)],false⟩
theorem Y0r:TyOk Tryz.prog 281 V5h:=TyOk.of Tryz.underlying281 (show TK.ok _ (.int .u64) _ from rfl) (.int .u64 0) (by kernel_rfl) rfl rfl rfl rfl (by decide) (fun h=>by cases h)
def V5g:TyI:=⟨.struct [(0,3,1),(1,25,2)],3,24,[(.int .i64 0),(.int .i64 0),(.int .i64 0)],false⟩
theorem Y0q:TyOk Tryz.prog 289 V5g:=TyOk.of Tryz.underlying289 (show TK.ok _ (.struct [(0,3,1),(1,25,2)]) _ from ⟨_,rfl,rfl,fun x hx=>by simp only [U8,List.not_mem_nil,or_false] at hx;rcases hx with rfl | rfl<;>exact ⟨by kernel_rfl,by decide⟩⟩) (.agg #[(.int .i64 0),(.int .i64 0),(.int .i64 0)]) (by kernel_rfl) rfl rfl rfl rfl (by decide) (fun h=>by cases h)
def V5f:TyI:=⟨.struct [(0,3,1),(1,25,2)],3,24,[(.int .i64 0),(.int .i64 0),(.int .i64 0)],true⟩
theorem Y0p:TyOk Tryz.prog 290 V5f:=TyOk.of Tryz.underlying290 (show TK.ok _ (.struct [(0,3,1),(1,25,2)]) _ from ⟨_,rfl,rfl,fun x hx=>by simp only [U8,List.not_mem_nil,or_false] at hx;rcases hx with rfl | rfl<;>exact ⟨by kernel_rfl,by decide⟩⟩) (.agg #[(.int .i64 0),(.int .i64 0),(.int .i64 0)]) (by kernel_rfl) rfl rfl rfl rfl (by decide) (fun _ fs h=>by cases h;exact ⟨by kernel_rfl,by kernel_rfl,by kernel_rfl,by kernel_rfl⟩)
def V5e:TyI:=⟨.struct [(0,3,1),(1,94,1),(2,43,1)],3,56,[(.int .i64 0),(.slice none 0 0),(.slice none 0 0)],false⟩
theorem Y0o:TyOk Tryz.prog 292 V5e:=TyOk.of Tryz.underlying292 (show TK.ok _ (.struct [(0,3,1),(1,94,1),(2,43,1)]) _ from ⟨_,rfl,rfl,fun x hx=>by simp only [U8,List.not_mem_nil,or_false] at hx;rcases hx with rfl | rfl | rfl<;>exact ⟨by kernel_rfl,by decide⟩⟩) (.agg #[(.int .i64 0),(.slice none 0 0),(.slice none 0 0)]) (by kernel_rfl) rfl rfl rfl rfl (by decide) (fun h=>by cases h)
def V5d:TyI:=⟨.struct [(0,3,1),(1,94,1),(2,43,1)],3,56,[(.int .i64 0),(.slice none 0 0),(.slice none 0 0)],false⟩
theorem Y0n:TyOk Tryz.prog 293 V5d:=TyOk.of Tryz.underlying293 (show TK.ok _ (.struct [(0,3,1),(1,94,1),(2,43,1)]) _ from ⟨_,rfl,rfl,fun x hx=>by simp only [U8,List.not_mem_nil,or_false] at hx;rcases hx with rfl | rfl | rfl<;>exact ⟨by kernel_rfl,by decide⟩⟩) (.agg #[(.int .i64 0),(.slice none 0 0),(.slice none 0 0)]) (by kernel_rfl) rfl rfl rfl rfl (by decide) (fun h=>by cases h)
def V5c:TyI:=⟨.slice 9,1,24,[(.slice none 0 0)],false⟩
theorem Y0m:TyOk Tryz.prog 306 V5c:=TyOk.of Tryz.underlying306 (show TK.ok _ (.slice 9) _ from rfl) (.slice none 0 0) (by kernel_rfl) rfl rfl rfl rfl (by decide) (fun h=>by cases h)
def V5b:TyI:=⟨.int .u64,1,8,[(.int .u64 0)],false⟩
theorem Y0l:TyOk Tryz.prog 312 V5b:=TyOk.of Tryz.underlying312 (show TK.ok _ (.int .u64) _ from rfl) (.int .u64 0) (by kernel_rfl) rfl rfl rfl rfl (by decide) (fun h=>by cases h)
def V5a:TyI:=⟨.array 6 4,6,6,[(.bool false),(.bool false),(.bool false),(.bool false),(.bool false),(.bool false)],false⟩
theorem Y0k:TyOk Tryz.prog 327 V5a:=TyOk.of Tryz.underlying327 (show TK.ok _ (.array 6 4) _ from rfl) (.agg #[(.bool false),(.bool false),(.bool false),(.bool false),(.bool false),(.bool false)]) (by kernel_rfl) rfl rfl rfl rfl (by decide) (fun h=>by cases h)
def V59:TyI:=⟨.pointer 312,1,8,[(.pointer none)],false⟩
theorem Y0j:TyOk Tryz.prog 345 V59:=TyOk.of Tryz.underlying345 (show TK.ok _ (.pointer 312) _ from rfl) (.pointer none) (by kernel_rfl) rfl rfl rfl rfl (by decide) (fun h=>by cases h)
def V58:TyI:=⟨.struct [(0,17,1),(1,17,1),(2,17,1),(3,9,1)],4,40,[(.pointer none),(.pointer none),(.pointer none),(.string .empty)],false⟩
theorem Y0i:TyOk Tryz.prog 362 V58:=TyOk.of Tryz.underlying362 (show TK.ok _ (.struct [(0,17,1),(1,17,1),(2,17,1),(3,9,1)]) _ from ⟨_,rfl,rfl,fun x hx=>by simp only [U8,List.not_mem_nil,or_false] at hx;rcases hx with rfl | rfl | rfl | rfl<;>exact ⟨by kernel_rfl,by decide⟩⟩) (.agg #[(.pointer none),(.pointer none),(.pointer none),(.string .empty)]) (by kernel_rfl) rfl rfl rfl rfl (by decide) (fun h=>by cases h)
def V57:TyI:=⟨.struct [(0,17,1),(1,17,1),(2,17,1),(3,9,1)],4,40,[(.pointer none),(.pointer none),(.pointer none),(.string .empty)],false⟩
theorem Y0h:TyOk Tryz.prog 363 V57:=TyOk.of Tryz.underlying363 (show TK.ok _ (.struct [(0,17,1),(1,17,1),(2,17,1),(3,9,1)]) _ from ⟨_,rfl,rfl,fun x hx=>by simp only [U8,List.not_mem_nil,or_false] at hx;rcases hx with rfl | rfl | rfl | rfl<;>exact ⟨by kernel_rfl,by decide⟩⟩) (.agg #[(.pointer none),(.pointer none),(.pointer none),(.string .empty)]) (by kernel_rfl) rfl rfl rfl rfl (by decide) (fun h=>by cases h)
def V56:TyI:=⟨.array 0 16,0,0,[],false⟩
theorem Y0g:TyOk Tryz.prog 364 V56:=TyOk.of Tryz.underlying364 (show TK.ok _ (.array 0 16) _ from rfl) (.agg #[]) (by kernel_rfl) rfl rfl rfl rfl (by decide) (fun h=>by cases h)
def V55:TyI:=⟨.int .u8,1,1,[(.int .u8 0)],false⟩
theorem Y0f:TyOk Tryz.prog 367 V55:=TyOk.of Tryz.underlying367 (show TK.ok _ (.int .u8) _ from rfl) (.int .u8 0) (by kernel_rfl) rfl rfl rfl rfl (by decide) (fun h=>by cases h)
def V54:TyI:=⟨.int .u8,1,1,[(.int .u8 0)],false⟩
theorem Y0e:TyOk Tryz.prog 368 V54:=TyOk.of Tryz.underlying368 (show TK.ok _ (.int .u8) _ from rfl) (.int .u8 0) (by kernel_rfl) rfl rfl rfl rfl (by decide) (fun h=>by cases h)
def V53:TyI:=⟨.pointer 5,1,8,[(.pointer none)],false⟩
theorem Y0d:TyOk Tryz.prog 370 V53:=TyOk.of Tryz.underlying370 (show TK.ok _ (.pointer 5) _ from rfl) (.pointer none) (by kernel_rfl) rfl rfl rfl rfl (by decide) (fun h=>by cases h)
def V52:TyI:=⟨.int .i32,1,4,[(.int .i32 0)],false⟩
theorem Y0c:TyOk Tryz.prog 371 V52:=TyOk.of Tryz.underlying371 (show TK.ok _ (.int .i32) _ from rfl) (.int .i32 0) (by kernel_rfl) rfl rfl rfl rfl (by decide) (fun h=>by cases h)
def V51:TyI:=⟨.int .i32,1,4,[(.int .i32 0)],false⟩
theorem Y0b:TyOk Tryz.prog 372 V51:=TyOk.of Tryz.underlying372 (show TK.ok _ (.int .i32) _ from rfl) (.int .i32 0) (by kernel_rfl) rfl rfl rfl rfl (by decide) (fun h=>by cases h)
def Tys:Ty:=fun t=>match t with
 | 2=>some ti2
 | 3=>some ti3
 | 4=>some ti4
 | 5=>some ti5
 | 6=>some ti6
 | 7=>some ti7
 | 8=>some ti8
 | 9=>some ti9
 | 10=>some ti10
 | 11=>some ti11
 | 12=>some ti12
 | 13=>some ti13
 | 14=>some ti14
 | 15=>some ti15
 | 16=>some ti16
 | 17=>some ti17
 | 18=>some ti18
 | 19=>some ti19
 | 21=>some ti21
 | 22=>some ti22
 | 23=>some ti23
 | 24=>some ti24
 | 25=>some ti25
 | 26=>some ti26
 | 27=>some ti27
 | 28=>some ti28
 | 29=>some ti29
 | 32=>some ti32
 | 43=>some ti43
 | 44=>some ti44
 | 45=>some ti45
 | 46=>some ti46
 | 47=>some ti47
 | 48=>some ti48
 | 51=>some ti51
 | 54=>some ti54
 | 72=>some ti72
 | 76=>some ti76
 | 77=>some ti77
 | 81=>some ti81
 | 82=>some ti82
 | 90=>some ti90
 | 93=>some ti93
 | 94=>some ti94
 | 95=>some ti95
 | 96=>some ti96
 | 97=>some ti97
 | 98=>some ti98
 | 100=>some V6v
 | 101=>some V6u
 | 103=>some V6t
 | 104=>some V6s
 | 106=>some V6r
 | 107=>some V6q
 | 108=>some V6p
 | 113=>some V6o
 | 117=>some V6n
 | 125=>some V6m
 | 135=>some V6l
 | 136=>some V6k
 | 138=>some V6j
 | 139=>some V6i
 | 146=>some V6h
 | 147=>some V6g
 | 148=>some V6f
 | 149=>some V6e
 | 164=>some V6d
 | 165=>some V6c
 | 166=>some V6b
 | 167=>some V6a
 | 168=>some V69
 | 169=>some V68
 | 170=>some V67
 | 176=>some V66
 | 178=>some V65
 | 179=>some V64
 | 182=>some V63
 | 196=>some V62
 | 197=>some V61
 | 219=>some V60
 | 227=>some V5z
 | 235=>some V5y
 | 236=>some V5x
 | 237=>some V5w
 | 238=>some V5v
 | 241=>some V5u
 | 242=>some V5t
 | 243=>some V5s
 | 248=>some V5r
 | 249=>some V5q
 | 250=>some V5p
 | 251=>some V5o
 | 252=>some V5n
 | 253=>some V5m
 | 254=>some V5l
 | 262=>some V5k
 | 272=>some V5j
 | 279=>some V5i
 | 281=>some V5h
 | 289=>some V5g
 | 290=>some V5f
 | 292=>some V5e
 | 293=>some V5d
 | 306=>some V5c
 | 312=>some V5b
 | 327=>some V5a
 | 345=>some V59
 | 362=>some V58
 | 363=>some V57
 | 364=>some V56
 | 367=>some V55
 | 368=>some V54
 | 370=>some V53
 | 371=>some V52
 | 372=>some V51
 | _=>none
@[simp] theorem tys2:Tys 2=some ⟨.int .i64,1,8,[(.int .i64 0)],false⟩:=rfl
@[simp] theorem tys3:Tys 3=some ⟨.int .i64,1,8,[(.int .i64 0)],false⟩:=rfl
@[simp] theorem tys4:Tys 4=some ⟨.bool,1,1,[(.bool false)],false⟩:=rfl
@[simp] theorem tys5:Tys 5=some ⟨.int .u8,1,1,[(.int .u8 0)],false⟩:=rfl
@[simp] theorem tys6:Tys 6=some ⟨.int .u8,1,1,[(.int .u8 0)],false⟩:=rfl
@[simp] theorem tys7:Tys 7=some ⟨.struct [(0,2,1),(1,3,1),(2,4,1),(3,6,1)],4,24,[(.int .i64 0),(.int .i64 0),(.bool false),(.int .u8 0)],false⟩:=rfl
@[simp] theorem tys8:Tys 8=some ⟨.struct [(0,2,1),(1,3,1),(2,4,1),(3,6,1)],4,24,[(.int .i64 0),(.int .i64 0),(.bool false),(.int .u8 0)],false⟩:=rfl
@[simp] theorem tys9:Tys 9=some ⟨.string,1,16,[(.string .empty)],false⟩:=rfl
@[simp] theorem tys10:Tys 10=some ⟨.string,1,16,[(.string .empty)],false⟩:=rfl
@[simp] theorem tys11:Tys 11=some ⟨.string,1,16,[(.string .empty)],false⟩:=rfl
@[simp] theorem tys12:Tys 12=some ⟨.int .u64,1,8,[(.int .u64 0)],false⟩:=rfl
@[simp] theorem tys13:Tys 13=some ⟨.struct [(0,9,1),(1,12,1)],2,24,[(.string .empty),(.int .u64 0)],false⟩:=rfl
@[simp] theorem tys14:Tys 14=some ⟨.struct [(0,9,1),(1,12,1)],2,24,[(.string .empty),(.int .u64 0)],false⟩:=rfl
@[simp] theorem tys15:Tys 15=some ⟨.pointer 363,1,8,[(.pointer none)],false⟩:=rfl
@[simp] theorem tys16:Tys 16=some ⟨.pointer 366,1,8,[(.pointer none)],false⟩:=rfl
@[simp] theorem tys17:Tys 17=some ⟨.pointer 374,1,8,[(.pointer none)],false⟩:=rfl
@[simp] theorem tys18:Tys 18=some ⟨.struct [(0,17,1)],1,8,[(.pointer none)],false⟩:=rfl
@[simp] theorem tys19:Tys 19=some ⟨.struct [(0,17,1)],1,8,[(.pointer none)],false⟩:=rfl
@[simp] theorem tys21:Tys 21=some ⟨.int .i32,1,4,[(.int .i32 0)],false⟩:=rfl
@[simp] theorem tys22:Tys 22=some ⟨.slice 5,1,24,[(.slice none 0 0)],false⟩:=rfl
@[simp] theorem tys23:Tys 23=some ⟨.slice 253,1,24,[(.slice none 0 0)],false⟩:=rfl
@[simp] theorem tys24:Tys 24=some ⟨.struct [(0,3,1),(1,3,1)],2,16,[(.int .i64 0),(.int .i64 0)],false⟩:=rfl
@[simp] theorem tys25:Tys 25=some ⟨.struct [(0,3,1),(1,3,1)],2,16,[(.int .i64 0),(.int .i64 0)],true⟩:=rfl
@[simp] theorem tys26:Tys 26=some ⟨.slice 149,1,24,[(.slice none 0 0)],false⟩:=rfl
@[simp] theorem tys27:Tys 27=some ⟨.slice 29,1,24,[(.slice none 0 0)],false⟩:=rfl
@[simp] theorem tys28:Tys 28=some ⟨.struct [(0,3,1),(1,3,1),(2,27,1)],3,40,[(.int .i64 0),(.int .i64 0),(.slice none 0 0)],false⟩:=rfl
@[simp] theorem tys29:Tys 29=some ⟨.struct [(0,3,1),(1,3,1),(2,27,1)],3,40,[(.int .i64 0),(.int .i64 0),(.slice none 0 0)],false⟩:=rfl
@[simp] theorem tys32:Tys 32=some ⟨.slice 82,1,24,[(.slice none 0 0)],false⟩:=rfl
@[simp] theorem tys43:Tys 43=some ⟨.slice 139,1,24,[(.slice none 0 0)],false⟩:=rfl
@[simp] theorem tys44:Tys 44=some ⟨.slice 3,1,24,[(.slice none 0 0)],false⟩:=rfl
@[simp] theorem tys45:Tys 45=some ⟨.slice 168,1,24,[(.slice none 0 0)],false⟩:=rfl
@[simp] theorem tys46:Tys 46=some ⟨.slice 48,1,24,[(.slice none 0 0)],false⟩:=rfl
@[simp] theorem tys47:Tys 47=some ⟨.struct [(0,3,1),(1,3,1),(2,43,1),(3,44,1),(4,45,1),(5,46,1)],6,112,[(.int .i64 0),(.int .i64 0),(.slice none 0 0),(.slice none 0 0),(.slice none 0 0),(.slice none 0 0)],false⟩:=rfl
@[simp] theorem tys48:Tys 48=some ⟨.struct [(0,3,1),(1,3,1),(2,43,1),(3,44,1),(4,45,1),(5,46,1)],6,112,[(.int .i64 0),(.int .i64 0),(.slice none 0 0),(.slice none 0 0),(.slice none 0 0),(.slice none 0 0)],false⟩:=rfl
@[simp] theorem tys51:Tys 51=some ⟨.slice 166,1,24,[(.slice none 0 0)],false⟩:=rfl
@[simp] theorem tys54:Tys 54=some ⟨.slice 44,1,24,[(.slice none 0 0)],false⟩:=rfl
@[simp] theorem tys72:Tys 72=some ⟨.slice 77,1,24,[(.slice none 0 0)],false⟩:=rfl
@[simp] theorem tys76:Tys 76=some ⟨.struct [(0,3,1),(1,44,1),(2,3,1),(3,3,1),(4,3,1),(5,3,1),(6,43,1),(7,3,1)],8,96,[(.int .i64 0),(.slice none 0 0),(.int .i64 0),(.int .i64 0),(.int .i64 0),(.int .i64 0),(.slice none 0 0),(.int .i64 0)],false⟩:=rfl
@[simp] theorem tys77:Tys 77=some ⟨.struct [(0,3,1),(1,44,1),(2,3,1),(3,3,1),(4,3,1),(5,3,1),(6,43,1),(7,3,1)],8,96,[(.int .i64 0),(.slice none 0 0),(.int .i64 0),(.int .i64 0),(.int .i64 0),(.int .i64 0),(.slice none 0 0),(.int .i64 0)],false⟩:=rfl
@[simp] theorem tys81:Tys 81=some ⟨.struct [(0,3,1),(1,29,3)],4,48,[(.int .i64 0),(.int .i64 0),(.int .i64 0),(.slice none 0 0)],false⟩:=rfl
@[simp] theorem tys82:Tys 82=some ⟨.struct [(0,3,1),(1,29,3)],4,48,[(.int .i64 0),(.int .i64 0),(.int .i64 0),(.slice none 0 0)],false⟩:=rfl
@[simp] theorem tys90:Tys 90=some ⟨.slice 94,1,24,[(.slice none 0 0)],false⟩:=rfl
@[simp] theorem tys93:Tys 93=some ⟨.slice 98,1,24,[(.slice none 0 0)],false⟩:=rfl
@[simp] theorem tys94:Tys 94=some ⟨.slice 96,1,24,[(.slice none 0 0)],false⟩:=rfl
@[simp] theorem tys95:Tys 95=some ⟨.struct [(0,3,1),(1,3,1),(2,3,1),(3,3,1),(4,3,1),(5,94,1)],6,64,[(.int .i64 0),(.int .i64 0),(.int .i64 0),(.int .i64 0),(.int .i64 0),(.slice none 0 0)],false⟩:=rfl
@[simp] theorem tys96:Tys 96=some ⟨.struct [(0,3,1),(1,3,1),(2,3,1),(3,3,1),(4,3,1),(5,94,1)],6,64,[(.int .i64 0),(.int .i64 0),(.int .i64 0),(.int .i64 0),(.int .i64 0),(.slice none 0 0)],false⟩:=rfl
@[simp] theorem tys97:Tys 97=some ⟨.struct [(0,3,1),(1,94,1),(2,43,1)],3,56,[(.int .i64 0),(.slice none 0 0),(.slice none 0 0)],false⟩:=rfl
@[simp] theorem tys98:Tys 98=some ⟨.struct [(0,3,1),(1,94,1),(2,43,1)],3,56,[(.int .i64 0),(.slice none 0 0),(.slice none 0 0)],false⟩:=rfl
@[simp] theorem tys100:Tys 100=some ⟨.pointer 104,1,8,[(.pointer none)],false⟩:=rfl
@[simp] theorem tys101:Tys 101=some ⟨.pointer 179,1,8,[(.pointer none)],false⟩:=rfl
@[simp] theorem tys103:Tys 103=some ⟨.struct [(0,101,1),(1,26,1),(2,3,1),(3,3,1)],4,48,[(.pointer none),(.slice none 0 0),(.int .i64 0),(.int .i64 0)],false⟩:=rfl
@[simp] theorem tys104:Tys 104=some ⟨.struct [(0,101,1),(1,26,1),(2,3,1),(3,3,1)],4,48,[(.pointer none),(.slice none 0 0),(.int .i64 0),(.int .i64 0)],false⟩:=rfl
@[simp] theorem tys106:Tys 106=some ⟨.struct [(0,44,1),(1,25,2)],3,40,[(.slice none 0 0),(.int .i64 0),(.int .i64 0)],false⟩:=rfl
@[simp] theorem tys107:Tys 107=some ⟨.struct [(0,44,1),(1,25,2)],3,40,[(.slice none 0 0),(.int .i64 0),(.int .i64 0)],false⟩:=rfl
@[simp] theorem tys108:Tys 108=some ⟨.slice 107,1,24,[(.slice none 0 0)],false⟩:=rfl
@[simp] theorem tys113:Tys 113=some ⟨.pointer 51,1,8,[(.pointer none)],false⟩:=rfl
@[simp] theorem tys117:Tys 117=some ⟨.pointer 197,1,8,[(.pointer none)],false⟩:=rfl
@[simp] theorem tys125:Tys 125=some ⟨.pointer 3,1,8,[(.pointer none)],false⟩:=rfl
@[simp] theorem tys135:Tys 135=some ⟨.pointer 72,1,8,[(.pointer none)],false⟩:=rfl
@[simp] theorem tys136:Tys 136=some ⟨.pointer 43,1,8,[(.pointer none)],false⟩:=rfl
@[simp] theorem tys138:Tys 138=some ⟨.struct [(0,3,1),(1,44,1)],2,32,[(.int .i64 0),(.slice none 0 0)],false⟩:=rfl
@[simp] theorem tys139:Tys 139=some ⟨.struct [(0,3,1),(1,44,1)],2,32,[(.int .i64 0),(.slice none 0 0)],false⟩:=rfl
@[simp] theorem tys146:Tys 146=some ⟨.struct [(0,3,1),(1,3,1),(2,3,1)],3,24,[(.int .i64 0),(.int .i64 0),(.int .i64 0)],false⟩:=rfl
@[simp] theorem tys147:Tys 147=some ⟨.struct [(0,3,1),(1,3,1),(2,3,1)],3,24,[(.int .i64 0),(.int .i64 0),(.int .i64 0)],true⟩:=rfl
@[simp] theorem tys148:Tys 148=some ⟨.struct [(0,96,6),(6,147,3)],9,88,[(.int .i64 0),(.int .i64 0),(.int .i64 0),(.int .i64 0),(.int .i64 0),(.slice none 0 0),(.int .i64 0),(.int .i64 0),(.int .i64 0)],false⟩:=rfl
@[simp] theorem tys149:Tys 149=some ⟨.struct [(0,96,6),(6,147,3)],9,88,[(.int .i64 0),(.int .i64 0),(.int .i64 0),(.int .i64 0),(.int .i64 0),(.slice none 0 0),(.int .i64 0),(.int .i64 0),(.int .i64 0)],false⟩:=rfl
@[simp] theorem tys164:Tys 164=some ⟨.slice 170,1,24,[(.slice none 0 0)],false⟩:=rfl
@[simp] theorem tys165:Tys 165=some ⟨.struct [(0,3,1),(1,3,1),(2,43,1),(3,44,1),(4,164,1),(5,3,1)],6,96,[(.int .i64 0),(.int .i64 0),(.slice none 0 0),(.slice none 0 0),(.slice none 0 0),(.int .i64 0)],false⟩:=rfl
@[simp] theorem tys166:Tys 166=some ⟨.struct [(0,3,1),(1,3,1),(2,43,1),(3,44,1),(4,164,1),(5,3,1)],6,96,[(.int .i64 0),(.int .i64 0),(.slice none 0 0),(.slice none 0 0),(.slice none 0 0),(.int .i64 0)],false⟩:=rfl
@[simp] theorem tys167:Tys 167=some ⟨.struct [(0,3,1),(1,3,1),(2,3,1),(3,48,6)],9,136,[(.int .i64 0),(.int .i64 0),(.int .i64 0),(.int .i64 0),(.int .i64 0),(.slice none 0 0),(.slice none 0 0),(.slice none 0 0),(.slice none 0 0)],false⟩:=rfl
@[simp] theorem tys168:Tys 168=some ⟨.struct [(0,3,1),(1,3,1),(2,3,1),(3,48,6)],9,136,[(.int .i64 0),(.int .i64 0),(.int .i64 0),(.int .i64 0),(.int .i64 0),(.slice none 0 0),(.slice none 0 0),(.slice none 0 0),(.slice none 0 0)],false⟩:=rfl
@[simp] theorem tys169:Tys 169=some ⟨.struct [(0,3,1),(1,3,1),(2,3,1),(3,3,1)],4,32,[(.int .i64 0),(.int .i64 0),(.int .i64 0),(.int .i64 0)],false⟩:=rfl
@[simp] theorem tys170:Tys 170=some ⟨.struct [(0,3,1),(1,3,1),(2,3,1),(3,3,1)],4,32,[(.int .i64 0),(.int .i64 0),(.int .i64 0),(.int .i64 0)],true⟩:=rfl
@[simp] theorem tys176:Tys 176=some ⟨.pointer 243,1,8,[(.pointer none)],false⟩:=rfl
@[simp] theorem tys178:Tys 178=some ⟨.struct [(0,23,1),(1,176,1)],2,32,[(.slice none 0 0),(.pointer none)],false⟩:=rfl
@[simp] theorem tys179:Tys 179=some ⟨.struct [(0,23,1),(1,176,1)],2,32,[(.slice none 0 0),(.pointer none)],false⟩:=rfl
@[simp] theorem tys182:Tys 182=some ⟨.slice 25,1,24,[(.slice none 0 0)],false⟩:=rfl
@[simp] theorem tys196:Tys 196=some ⟨.struct [(0,22,1),(1,3,1)],2,32,[(.slice none 0 0),(.int .i64 0)],false⟩:=rfl
@[simp] theorem tys197:Tys 197=some ⟨.struct [(0,22,1),(1,3,1)],2,32,[(.slice none 0 0),(.int .i64 0)],false⟩:=rfl
@[simp] theorem tys219:Tys 219=some ⟨.int .u64,1,8,[(.int .u64 0)],false⟩:=rfl
@[simp] theorem tys227:Tys 227=some ⟨.slice 290,1,24,[(.slice none 0 0)],false⟩:=rfl
@[simp] theorem tys235:Tys 235=some ⟨.struct [(0,44,1),(1,25,2)],3,40,[(.slice none 0 0),(.int .i64 0),(.int .i64 0)],false⟩:=rfl
@[simp] theorem tys236:Tys 236=some ⟨.struct [(0,44,1),(1,25,2)],3,40,[(.slice none 0 0),(.int .i64 0),(.int .i64 0)],false⟩:=rfl
@[simp] theorem tys237:Tys 237=some ⟨.slice 236,1,24,[(.slice none 0 0)],false⟩:=rfl
@[simp] theorem tys238:Tys 238=some ⟨.slice 293,1,24,[(.slice none 0 0)],false⟩:=rfl
@[simp] theorem tys241:Tys 241=some ⟨.array 4 3,4,32,[(.int .i64 0),(.int .i64 0),(.int .i64 0),(.int .i64 0)],false⟩:=rfl
@[simp] theorem tys242:Tys 242=some ⟨.array 4 241,16,128,[(.int .i64 0),(.int .i64 0),(.int .i64 0),(.int .i64 0),(.int .i64 0),(.int .i64 0),(.int .i64 0),(.int .i64 0),(.int .i64 0),(.int .i64 0),(.int .i64 0),(.int .i64 0),(.int .i64 0),(.int .i64 0),(.int .i64 0),(.int .i64 0)],false⟩:=rfl
@[simp] theorem tys243:Tys 243=some ⟨.array 4 241,16,128,[(.int .i64 0),(.int .i64 0),(.int .i64 0),(.int .i64 0),(.int .i64 0),(.int .i64 0),(.int .i64 0),(.int .i64 0),(.int .i64 0),(.int .i64 0),(.int .i64 0),(.int .i64 0),(.int .i64 0),(.int .i64 0),(.int .i64 0),(.int .i64 0)],false⟩:=rfl
@[simp] theorem tys248:Tys 248=some ⟨.array 11 4,11,11,[(.bool false),(.bool false),(.bool false),(.bool false),(.bool false),(.bool false),(.bool false),(.bool false),(.bool false),(.bool false),(.bool false)],false⟩:=rfl
@[simp] theorem tys249:Tys 249=some ⟨.struct [(0,9,1),(1,182,1),(2,3,1)],3,48,[(.string .empty),(.slice none 0 0),(.int .i64 0)],false⟩:=rfl
@[simp] theorem tys250:Tys 250=some ⟨.struct [(0,9,1),(1,182,1),(2,3,1)],3,48,[(.string .empty),(.slice none 0 0),(.int .i64 0)],false⟩:=rfl
@[simp] theorem tys251:Tys 251=some ⟨.slice 250,1,24,[(.slice none 0 0)],false⟩:=rfl
@[simp] theorem tys252:Tys 252=some ⟨.struct [(0,9,1),(1,251,1)],2,40,[(.string .empty),(.slice none 0 0)],false⟩:=rfl
@[simp] theorem tys253:Tys 253=some ⟨.struct [(0,9,1),(1,251,1)],2,40,[(.string .empty),(.slice none 0 0)],false⟩:=rfl
@[simp] theorem tys254:Tys 254=some ⟨.slice 108,1,24,[(.slice none 0 0)],false⟩:=rfl
@[simp] theorem tys262:Tys 262=some ⟨.map 9 4,1,8,[(.map none)],false⟩:=rfl
@[simp] theorem tys272:Tys 272=some ⟨.int .i64,1,8,[(.int .i64 0)],false⟩:=rfl
@[simp] theorem tys279:Tys 279=some ⟨.int .u32,1,4,[(.int .u32 0)],false⟩:=rfl
@[simp] theorem tys281:Tys 281=some ⟨.int .u64,1,8,[(.int .u64 0)],false⟩:=rfl
@[simp] theorem tys289:Tys 289=some ⟨.struct [(0,3,1),(1,25,2)],3,24,[(.int .i64 0),(.int .i64 0),(.int .i64 0)],false⟩:=rfl
@[simp] theorem tys290:Tys 290=some ⟨.struct [(0,3,1),(1,25,2)],3,24,[(.int .i64 0),(.int .i64 0),(.int .i64 0)],true⟩:=rfl
@[simp] theorem tys292:Tys 292=some ⟨.struct [(0,3,1),(1,94,1),(2,43,1)],3,56,[(.int .i64 0),(.slice none 0 0),(.slice none 0 0)],false⟩:=rfl
@[simp] theorem tys293:Tys 293=some ⟨.struct [(0,3,1),(1,94,1),(2,43,1)],3,56,[(.int .i64 0),(.slice none 0 0),(.slice none 0 0)],false⟩:=rfl
@[simp] theorem tys306:Tys 306=some ⟨.slice 9,1,24,[(.slice none 0 0)],false⟩:=rfl
@[simp] theorem tys312:Tys 312=some ⟨.int .u64,1,8,[(.int .u64 0)],false⟩:=rfl
@[simp] theorem tys327:Tys 327=some ⟨.array 6 4,6,6,[(.bool false),(.bool false),(.bool false),(.bool false),(.bool false),(.bool false)],false⟩:=rfl
@[simp] theorem tys345:Tys 345=some ⟨.pointer 312,1,8,[(.pointer none)],false⟩:=rfl
@[simp] theorem tys362:Tys 362=some ⟨.struct [(0,17,1),(1,17,1),(2,17,1),(3,9,1)],4,40,[(.pointer none),(.pointer none),(.pointer none),(.string .empty)],false⟩:=rfl
@[simp] theorem tys363:Tys 363=some ⟨.struct [(0,17,1),(1,17,1),(2,17,1),(3,9,1)],4,40,[(.pointer none),(.pointer none),(.pointer none),(.string .empty)],false⟩:=rfl
@[simp] theorem tys364:Tys 364=some ⟨.array 0 16,0,0,[],false⟩:=rfl
@[simp] theorem tys367:Tys 367=some ⟨.int .u8,1,1,[(.int .u8 0)],false⟩:=rfl
@[simp] theorem tys368:Tys 368=some ⟨.int .u8,1,1,[(.int .u8 0)],false⟩:=rfl
@[simp] theorem tys370:Tys 370=some ⟨.pointer 5,1,8,[(.pointer none)],false⟩:=rfl
@[simp] theorem tys371:Tys 371=some ⟨.int .i32,1,4,[(.int .i32 0)],false⟩:=rfl
@[simp] theorem tys372:Tys 372=some ⟨.int .i32,1,4,[(.int .i32 0)],false⟩:=rfl
theorem Q2m:Q9w Tryz.prog Tys:=fun t i h=>by
 unfold Tys at h
 split at h
 ·cases h;exact ty2
 ·cases h;exact ty3
 ·cases h;exact ty4
 ·cases h;exact ty5
 ·cases h;exact ty6
 ·cases h;exact ty7
 ·cases h;exact ty8
 ·cases h;exact ty9
 ·cases h;exact ty10
 ·cases h;exact ty11
 ·cases h;exact ty12
 ·cases h;exact ty13
 ·cases h;exact ty14
 ·cases h;exact ty15
 ·cases h;exact ty16
 ·cases h;exact ty17
 ·cases h;exact ty18
 ·cases h;exact ty19
 ·cases h;exact ty21
 ·cases h;exact ty22
 ·cases h;exact ty23
 ·cases h;exact ty24
 ·cases h;exact ty25
 ·cases h;exact ty26
 ·cases h;exact ty27
 ·cases h;exact ty28
 ·cases h;exact ty29
 ·cases h;exact ty32
 ·cases h;exact ty43
 ·cases h;exact ty44
 ·cases h;exact ty45
 ·cases h;exact ty46
 ·cases h;exact ty47
 ·cases h;exact ty48
 ·cases h;exact ty51
 ·cases h;exact ty54
 ·cases h;exact ty72
 ·cases h;exact ty76
 ·cases h;exact ty77
 ·cases h;exact ty81
 ·cases h;exact ty82
 ·cases h;exact ty90
 ·cases h;exact ty93
 ·cases h;exact ty94
 ·cases h;exact ty95
 ·cases h;exact ty96
 ·cases h;exact ty97
 ·cases h;exact ty98
 ·cases h;exact Y25
 ·cases h;exact Y24
 ·cases h;exact Y23
 ·cases h;exact Y22
 ·cases h;exact Y21
 ·cases h;exact Y20
 ·cases h;exact Y1z
 ·cases h;exact Y1y
 ·cases h;exact Y1x
 ·cases h;exact Y1w
 ·cases h;exact Y1v
 ·cases h;exact Y1u
 ·cases h;exact Y1t
 ·cases h;exact Y1s
 ·cases h;exact Y1r
 ·cases h;exact Y1q
 ·cases h;exact Y1p
 ·cases h;exact Y1o
 ·cases h;exact Y1n
 ·cases h;exact Y1m
 ·cases h;exact Y1l
 ·cases h;exact Y1k
 ·cases h;exact Y1j
 ·cases h;exact Y1i
 ·cases h;exact Y1h
 ·cases h;exact Y1g
 ·cases h;exact Y1f
 ·cases h;exact Y1e
 ·cases h;exact Y1d
 ·cases h;exact Y1c
 ·cases h;exact Y1b
 ·cases h;exact Y1a
 ·cases h;exact Y19
 ·cases h;exact Y18
 ·cases h;exact Y17
 ·cases h;exact Y16
 ·cases h;exact Y15
 ·cases h;exact Y14
 ·cases h;exact Y13
 ·cases h;exact Y12
 ·cases h;exact Y11
 ·cases h;exact Y10
 ·cases h;exact Y0z
 ·cases h;exact Y0y
 ·cases h;exact Y0x
 ·cases h;exact Y0w
 ·cases h;exact Y0v
 ·cases h;exact Y0u
 ·cases h;exact Y0t
 ·cases h;exact Y0s
 ·cases h;exact Y0r
 ·cases h;exact Y0q
 ·cases h;exact Y0p
 ·cases h;exact Y0o
 ·cases h;exact Y0n
 ·cases h;exact Y0m
 ·cases h;exact Y0l
 ·cases h;exact Y0k
 ·cases h;exact Y0j
 ·cases h;exact Y0i
 ·cases h;exact Y0h
 ·cases h;exact Y0g
 ·cases h;exact Y0f
 ·cases h;exact Y0e
 ·cases h;exact Y0d
 ·cases h;exact Y0c
 ·cases h;exact Y0b
 ·cases h
theorem W8a:Tryz.prog.follows .mixedOrders=true:=rfl
end Go.Proofs.YtjgapphpbkapmaaGreat
