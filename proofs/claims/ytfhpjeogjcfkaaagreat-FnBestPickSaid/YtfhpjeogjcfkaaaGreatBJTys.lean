import Derived.KernelRfl
import Derived.Test.YtfhpjeogjcfkaaaGreatProg
import Derived.Test.YtfhpjeogjcfkaaaGreatBJE1
set_option linter.unusedSimpArgs false
set_option linter.unusedVariables false
namespace Go.Proofs.YtfhpjeogjcfkaaaGreat
open Go Go.RowKit
def ti2:TyI:=⟨.int .i64,1,8,[(.int .i64 0)],false⟩
theorem ty2:TyOk Tryz.prog 2 ti2:=TyOk.of Tryz.underlying2 (show TK.ok _ (.int .i64) _ from rfl) (.int .i64 0) (by kernel_rfl) rfl rfl rfl rfl (by decide) (fun h=>by cases h)
def ti3:TyI:=⟨.int .i64,1,8,[(.int .i64 0)],false⟩
theorem ty3:TyOk Tryz.prog 3 ti3:=TyOk.of Tryz.underlying3 (show TK.ok _ (.int .i64) _ from rfl) (.int .i64 0) (by kernel_rfl) rfl rfl rfl rfl (by decide) (fun h=>by cases h)
def ti4:TyI:=⟨.bool,1,1,[(.bool false)],false⟩
theorem ty4:TyOk Tryz.prog 4 ti4:=TyOk.of Tryz.underlying4 (show TK.ok _ (.bool) _ from rfl) (.bool false) (by kernel_rfl) rfl rfl rfl rfl (by decide) (fun h=>by cases h)
def ti5:TyI:=⟨.int .u8,1,1,[(.int .u8 0)],false⟩
theorem ty5:TyOk Tryz.prog 5 ti5:=TyOk.of Tryz.underlying5 (show TK.ok _ (.int .u8) _ from rfl) (.int .u8 0) (by kernel_rfl) rfl rfl rfl rfl (by decide) (fun h=>by cases h)
def ti6:TyI:=⟨.int .u8,1,1,[(.int .u8 0)],false⟩
theorem ty6:TyOk Tryz.prog 6 ti6:=TyOk.of Tryz.underlying6 (show TK.ok _ (.int .u8) _ from rfl) (.int .u8 0) (by kernel_rfl) rfl rfl rfl rfl (by decide) (fun h=>by cases h)
def ti7:TyI:=⟨.struct [(0,2,1),(1,3,1),(2,4,1),(3,6,1)],4,24,[(.int .i64 0),(.int .i64 0),(.bool false),(.int .u8 0)],false⟩
theorem ty7:TyOk Tryz.prog 7 ti7:=TyOk.of Tryz.underlying7 (show TK.ok _ (.struct [(0,2,1),(1,3,1),(2,4,1),(3,6,1)]) _ from ⟨_,rfl,rfl,fun x hx=>by simp only [U8,List.not_mem_nil,or_false] at hx;rcases hx with rfl | rfl | rfl | rfl<;>exact ⟨by kernel_rfl,by decide⟩⟩) (.agg #[(.int .i64 0),(.int .i64 0),(.bool false),(.int .u8 0)]) (by kernel_rfl) rfl rfl rfl rfl (by decide) (fun h=>by cases h)
def ti8:TyI:=⟨.struct [(0,2,1),(1,3,1),(2,4,1),(3,6,1)],4,24,[(.int .i64 0),(.int .i64 0),(.bool false),(.int .u8 0)],false⟩
theorem ty8:TyOk Tryz.prog 8 ti8:=TyOk.of Tryz.underlying8 (show TK.ok _ (.struct [(0,2,1),(1,3,1),(2,4,1),(3,6,1)]) _ from ⟨_,rfl,rfl,fun x hx=>by simp only [U8,List.not_mem_nil,or_false] at hx;rcases hx with rfl | rfl | rfl | rfl<;>exact ⟨by kernel_rfl,by decide⟩⟩) (.agg #[(.int .i64 0),(.int .i64 0),(.bool false),(.int .u8 0)]) (by kernel_rfl) rfl rfl rfl rfl (by decide) (fun h=>by cases h)
def ti9:TyI:=⟨.string,1,16,[(.string .empty)],false⟩
theorem ty9:TyOk Tryz.prog 9 ti9:=TyOk.of Tryz.underlying9 (show TK.ok _ (.string) _ from rfl) (.string .empty) (by kernel_rfl) rfl rfl rfl rfl (by decide) (fun h=>by cases h)
def ti10:TyI:=⟨.string,1,16,[(.string .empty)],false⟩
theorem ty10:TyOk Tryz.prog 10 ti10:=TyOk.of Tryz.underlying10 (show TK.ok _ (.string) _ from rfl) (.string .empty) (by kernel_rfl) rfl rfl rfl rfl (by decide) (fun h=>by cases h)
def ti11:TyI:=⟨.string,1,16,[(.string .empty)],false⟩
theorem ty11:TyOk Tryz.prog 11 ti11:=TyOk.of Tryz.underlying11 (show TK.ok _ (.string) _ from rfl) (.string .empty) (by kernel_rfl) rfl rfl rfl rfl (by decide) (fun h=>by cases h)
def ti12:TyI:=⟨.int .u64,1,8,[(.int .u64 0)],false⟩
theorem ty12:TyOk Tryz.prog 12 ti12:=TyOk.of Tryz.underlying12 (show TK.ok _ (.int .u64) _ from rfl) (.int .u64 0) (by kernel_rfl) rfl rfl rfl rfl (by decide) (fun h=>by cases h)
def ti13:TyI:=⟨.struct [(0,9,1),(1,12,1)],2,24,[(.string .empty),(.int .u64 0)],false⟩
theorem ty13:TyOk Tryz.prog 13 ti13:=TyOk.of Tryz.underlying13 (show TK.ok _ (.struct [(0,9,1),(1,12,1)]) _ from ⟨_,rfl,rfl,fun x hx=>by simp only [U8,List.not_mem_nil,or_false] at hx;rcases hx with rfl | rfl<;>exact ⟨by kernel_rfl,by decide⟩⟩) (.agg #[(.string .empty),(.int .u64 0)]) (by kernel_rfl) rfl rfl rfl rfl (by decide) (fun h=>by cases h)
def ti14:TyI:=⟨.struct [(0,9,1),(1,12,1)],2,24,[(.string .empty),(.int .u64 0)],false⟩
theorem ty14:TyOk Tryz.prog 14 ti14:=TyOk.of Tryz.underlying14 (show TK.ok _ (.struct [(0,9,1),(1,12,1)]) _ from ⟨_,rfl,rfl,fun x hx=>by simp only [U8,List.not_mem_nil,or_false] at hx;rcases hx with rfl | rfl<;>exact ⟨by kernel_rfl,by decide⟩⟩) (.agg #[(.string .empty),(.int .u64 0)]) (by kernel_rfl) rfl rfl rfl rfl (by decide) (fun h=>by cases h)
def ti15:TyI:=⟨.pointer 407,1,8,[(.pointer none)],false⟩
theorem ty15:TyOk Tryz.prog 15 ti15:=TyOk.of Tryz.underlying15 (show TK.ok _ (.pointer 407) _ from rfl) (.pointer none) (by kernel_rfl) rfl rfl rfl rfl (by decide) (fun h=>by cases h)
def ti16:TyI:=⟨.pointer 410,1,8,[(.pointer none)],false⟩
theorem ty16:TyOk Tryz.prog 16 ti16:=TyOk.of Tryz.underlying16 (show TK.ok _ (.pointer 410) _ from rfl) (.pointer none) (by kernel_rfl) rfl rfl rfl rfl (by decide) (fun h=>by cases h)
def ti17:TyI:=⟨.pointer 418,1,8,[(.pointer none)],false⟩
theorem ty17:TyOk Tryz.prog 17 ti17:=TyOk.of Tryz.underlying17 (show TK.ok _ (.pointer 418) _ from rfl) (.pointer none) (by kernel_rfl) rfl rfl rfl rfl (by decide) (fun h=>by cases h)
def ti18:TyI:=⟨.struct [(0,17,1)],1,8,[(.pointer none)],false⟩
theorem ty18:TyOk Tryz.prog 18 ti18:=TyOk.of Tryz.underlying18 (show TK.ok _ (.struct [(0,17,1)]) _ from ⟨_,rfl,rfl,fun x hx=>by simp only [U8,List.not_mem_nil,or_false] at hx;rcases hx with rfl<;>exact ⟨by kernel_rfl,by decide⟩⟩) (.agg #[(.pointer none)]) (by kernel_rfl) rfl rfl rfl rfl (by decide) (fun h=>by cases h)
def ti19:TyI:=⟨.struct [(0,17,1)],1,8,[(.pointer none)],false⟩
theorem ty19:TyOk Tryz.prog 19 ti19:=TyOk.of Tryz.underlying19 (show TK.ok _ (.struct [(0,17,1)]) _ from ⟨_,rfl,rfl,fun x hx=>by simp only [U8,List.not_mem_nil,or_false] at hx;rcases hx with rfl<;>exact ⟨by kernel_rfl,by decide⟩⟩) (.agg #[(.pointer none)]) (by kernel_rfl) rfl rfl rfl rfl (by decide) (fun h=>by cases h)
def ti21:TyI:=⟨.int .i32,1,4,[(.int .i32 0)],false⟩
theorem ty21:TyOk Tryz.prog 21 ti21:=TyOk.of Tryz.underlying21 (show TK.ok _ (.int .i32) _ from rfl) (.int .i32 0) (by kernel_rfl) rfl rfl rfl rfl (by decide) (fun h=>by cases h)
def ti22:TyI:=⟨.slice 5,1,24,[(.slice none 0 0)],false⟩
theorem ty22:TyOk Tryz.prog 22 ti22:=TyOk.of Tryz.underlying22 (show TK.ok _ (.slice 5) _ from rfl) (.slice none 0 0) (by kernel_rfl) rfl rfl rfl rfl (by decide) (fun h=>by cases h)
def ti23:TyI:=⟨.slice 273,1,24,[(.slice none 0 0)],false⟩
theorem ty23:TyOk Tryz.prog 23 ti23:=TyOk.of Tryz.underlying23 (show TK.ok _ (.slice 273) _ from rfl) (.slice none 0 0) (by kernel_rfl) rfl rfl rfl rfl (by decide) (fun h=>by cases h)
def ti24:TyI:=⟨.struct [(0,3,1),(1,3,1)],2,16,[(.int .i64 0),(.int .i64 0)],false⟩
theorem ty24:TyOk Tryz.prog 24 ti24:=TyOk.of Tryz.underlying24 (show TK.ok _ (.struct [(0,3,1),(1,3,1)]) _ from ⟨_,rfl,rfl,fun x hx=>by simp only [U8,List.not_mem_nil,or_false] at hx;rcases hx with rfl | rfl<;>exact ⟨by kernel_rfl,by decide⟩⟩) (.agg #[(.int .i64 0),(.int .i64 0)]) (by kernel_rfl) rfl rfl rfl rfl (by decide) (fun h=>by cases h)
def ti25:TyI:=⟨.struct [(0,3,1),(1,3,1)],2,16,[(.int .i64 0),(.int .i64 0)],true⟩
theorem ty25:TyOk Tryz.prog 25 ti25:=TyOk.of Tryz.underlying25 (show TK.ok _ (.struct [(0,3,1),(1,3,1)]) _ from ⟨_,rfl,rfl,fun x hx=>by simp only [U8,List.not_mem_nil,or_false] at hx;rcases hx with rfl | rfl<;>exact ⟨by kernel_rfl,by decide⟩⟩) (.agg #[(.int .i64 0),(.int .i64 0)]) (by kernel_rfl) rfl rfl rfl rfl (by decide) (fun _ fs h=>by cases h;exact ⟨by kernel_rfl,by kernel_rfl,by kernel_rfl,by kernel_rfl⟩)
def ti26:TyI:=⟨.slice 161,1,24,[(.slice none 0 0)],false⟩
theorem ty26:TyOk Tryz.prog 26 ti26:=TyOk.of Tryz.underlying26 (show TK.ok _ (.slice 161) _ from rfl) (.slice none 0 0) (by kernel_rfl) rfl rfl rfl rfl (by decide) (fun h=>by cases h)
def ti27:TyI:=⟨.slice 29,1,24,[(.slice none 0 0)],false⟩
theorem ty27:TyOk Tryz.prog 27 ti27:=TyOk.of Tryz.underlying27 (show TK.ok _ (.slice 29) _ from rfl) (.slice none 0 0) (by kernel_rfl) rfl rfl rfl rfl (by decide) (fun h=>by cases h)
def ti28:TyI:=⟨.struct [(0,3,1),(1,3,1),(2,27,1)],3,40,[(.int .i64 0),(.int .i64 0),(.slice none 0 0)],false⟩
theorem ty28:TyOk Tryz.prog 28 ti28:=TyOk.of Tryz.underlying28 (show TK.ok _ (.struct [(0,3,1),(1,3,1),(2,27,1)]) _ from ⟨_,rfl,rfl,fun x hx=>by simp only [U8,List.not_mem_nil,or_false] at hx;rcases hx with rfl | rfl | rfl<;>exact ⟨by kernel_rfl,by decide⟩⟩) (.agg #[(.int .i64 0),(.int .i64 0),(.slice none 0 0)]) (by kernel_rfl) rfl rfl rfl rfl (by decide) (fun h=>by cases h)
def ti29:TyI:=⟨.struct [(0,3,1),(1,3,1),(2,27,1)],3,40,[(.int .i64 0),(.int .i64 0),(.slice none 0 0)],false⟩
theorem ty29:TyOk Tryz.prog 29 ti29:=TyOk.of Tryz.underlying29 (show TK.ok _ (.struct [(0,3,1),(1,3,1),(2,27,1)]) _ from ⟨_,rfl,rfl,fun x hx=>by simp only [U8,List.not_mem_nil,or_false] at hx;rcases hx with rfl | rfl | rfl<;>exact ⟨by kernel_rfl,by decide⟩⟩) (.agg #[(.int .i64 0),(.int .i64 0),(.slice none 0 0)]) (by kernel_rfl) rfl rfl rfl rfl (by decide) (fun h=>by cases h)
def ti32:TyI:=⟨.slice 87,1,24,[(.slice none 0 0)],false⟩
theorem ty32:TyOk Tryz.prog 32 ti32:=TyOk.of Tryz.underlying32 (show TK.ok _ (.slice 87) _ from rfl) (.slice none 0 0) (by kernel_rfl) rfl rfl rfl rfl (by decide) (fun h=>by cases h)
def ti43:TyI:=⟨.slice 149,1,24,[(.slice none 0 0)],false⟩
theorem ty43:TyOk Tryz.prog 43 ti43:=TyOk.of Tryz.underlying43 (show TK.ok _ (.slice 149) _ from rfl) (.slice none 0 0) (by kernel_rfl) rfl rfl rfl rfl (by decide) (fun h=>by cases h)
def ti44:TyI:=⟨.slice 3,1,24,[(.slice none 0 0)],false⟩
theorem ty44:TyOk Tryz.prog 44 ti44:=TyOk.of Tryz.underlying44 (show TK.ok _ (.slice 3) _ from rfl) (.slice none 0 0) (by kernel_rfl) rfl rfl rfl rfl (by decide) (fun h=>by cases h)
def ti45:TyI:=⟨.slice 179,1,24,[(.slice none 0 0)],false⟩
theorem ty45:TyOk Tryz.prog 45 ti45:=TyOk.of Tryz.underlying45 (show TK.ok _ (.slice 179) _ from rfl) (.slice none 0 0) (by kernel_rfl) rfl rfl rfl rfl (by decide) (fun h=>by cases h)
def ti46:TyI:=⟨.slice 48,1,24,[(.slice none 0 0)],false⟩
theorem ty46:TyOk Tryz.prog 46 ti46:=TyOk.of Tryz.underlying46 (show TK.ok _ (.slice 48) _ from rfl) (.slice none 0 0) (by kernel_rfl) rfl rfl rfl rfl (by decide) (fun h=>by cases h)
def ti47:TyI:=⟨.struct [(0,3,1),(1,3,1),(2,43,1),(3,44,1),(4,45,1),(5,46,1)],6,112,[(.int .i64 0),(.int .i64 0),(.slice none 0 0),(.slice none 0 0),(.slice none 0 0),(.slice none 0 0)],false⟩
theorem ty47:TyOk Tryz.prog 47 ti47:=TyOk.of Tryz.underlying47 (show TK.ok _ (.struct [(0,3,1),(1,3,1),(2,43,1),(3,44,1),(4,45,1),(5,46,1)]) _ from ⟨_,rfl,rfl,fun x hx=>by simp only [U8,List.not_mem_nil,or_false] at hx;rcases hx with rfl | rfl | rfl | rfl | rfl | rfl<;>exact ⟨by kernel_rfl,by decide⟩⟩) (.agg #[(.int .i64 0),(.int .i64 0),(.slice none 0 0),(.slice none 0 0),(.slice none 0 0),(.slice none 0 0)]) (by kernel_rfl) rfl rfl rfl rfl (by decide) (fun h=>by cases h)
def ti48:TyI:=⟨.struct [(0,3,1),(1,3,1),(2,43,1),(3,44,1),(4,45,1),(5,46,1)],6,112,[(.int .i64 0),(.int .i64 0),(.slice none 0 0),(.slice none 0 0),(.slice none 0 0),(.slice none 0 0)],false⟩
theorem ty48:TyOk Tryz.prog 48 ti48:=TyOk.of Tryz.underlying48 (show TK.ok _ (.struct [(0,3,1),(1,3,1),(2,43,1),(3,44,1),(4,45,1),(5,46,1)]) _ from ⟨_,rfl,rfl,fun x hx=>by simp only [U8,List.not_mem_nil,or_false] at hx;rcases hx with rfl | rfl | rfl | rfl | rfl | rfl<;>exact ⟨by kernel_rfl,by decide⟩⟩) (.agg #[(.int .i64 0),(.int .i64 0),(.slice none 0 0),(.slice none 0 0),(.slice none 0 0),(.slice none 0 0)]) (by kernel_rfl) rfl rfl rfl rfl (by decide) (fun h=>by cases h)
def ti51:TyI:=⟨.slice 177,1,24,[(.slice none 0 0)],false⟩
theorem ty51:TyOk Tryz.prog 51 ti51:=TyOk.of Tryz.underlying51 (show TK.ok _ (.slice 177) _ from rfl) (.slice none 0 0) (by kernel_rfl) rfl rfl rfl rfl (by decide) (fun h=>by cases h)
def ti57:TyI:=⟨.slice 44,1,24,[(.slice none 0 0)],false⟩
theorem ty57:TyOk Tryz.prog 57 ti57:=TyOk.of Tryz.underlying57 (show TK.ok _ (.slice 44) _ from rfl) (.slice none 0 0) (by kernel_rfl) rfl rfl rfl rfl (by decide) (fun h=>by cases h)
def ti77:TyI:=⟨.slice 82,1,24,[(.slice none 0 0)],false⟩
theorem ty77:TyOk Tryz.prog 77 ti77:=TyOk.of Tryz.underlying77 (show TK.ok _ (.slice 82) _ from rfl) (.slice none 0 0) (by kernel_rfl) rfl rfl rfl rfl (by decide) (fun h=>by cases h)
def ti81:TyI:=⟨.struct [(0,3,1),(1,44,1),(2,3,1),(3,3,1),(4,3,1),(5,3,1),(6,43,1),(7,3,1)],8,96,[(.int .i64 0),(.slice none 0 0),(.int .i64 0),(.int .i64 0),(.int .i64 0),(.int .i64 0),(.slice none 0 0),(.int .i64 0)],false⟩
theorem ty81:TyOk Tryz.prog 81 ti81:=TyOk.of Tryz.underlying81 (show TK.ok _ (.struct [(0,3,1),(1,44,1),(2,3,1),(3,3,1),(4,3,1),(5,3,1),(6,43,1),(7,3,1)]) _ from ⟨_,rfl,rfl,fun x hx=>by simp only [U8,List.not_mem_nil,or_false] at hx;rcases hx with rfl | rfl | rfl | rfl | rfl | rfl | rfl | rfl<;>exact ⟨by kernel_rfl,by decide⟩⟩) (.agg #[(.int .i64 0),(.slice none 0 0),(.int .i64 0),(.int .i64 0),(.int .i64 0),(.int .i64 0),(.slice none 0 0),(.int .i64 0)]) (by kernel_rfl) rfl rfl rfl rfl (by decide) (fun h=>by cases h)
def ti82:TyI:=⟨.struct [(0,3,1),(1,44,1),(2,3,1),(3,3,1),(4,3,1),(5,3,1),(6,43,1),(7,3,1)],8,96,[(.int .i64 0),(.slice none 0 0),(.int .i64 0),(.int .i64 0),(.int .i64 0),(.int .i64 0),(.slice none 0 0),(.int .i64 0)],false⟩
theorem ty82:TyOk Tryz.prog 82 ti82:=TyOk.of Tryz.underlying82 (show TK.ok _ (.struct [(0,3,1),(1,44,1),(2,3,1),(3,3,1),(4,3,1),(5,3,1),(6,43,1),(7,3,1)]) _ from ⟨_,rfl,rfl,fun x hx=>by simp only [U8,List.not_mem_nil,or_false] at hx;rcases hx with rfl | rfl | rfl | rfl | rfl | rfl | rfl | rfl<;>exact ⟨by kernel_rfl,by decide⟩⟩) (.agg #[(.int .i64 0),(.slice none 0 0),(.int .i64 0),(.int .i64 0),(.int .i64 0),(.int .i64 0),(.slice none 0 0),(.int .i64 0)]) (by kernel_rfl) rfl rfl rfl rfl (by decide) (fun h=>by cases h)
def ti86:TyI:=⟨.struct [(0,3,1),(1,29,3)],4,48,[(.int .i64 0),(.int .i64 0),(.int .i64 0),(.slice none 0 0)],false⟩
theorem ty86:TyOk Tryz.prog 86 ti86:=TyOk.of Tryz.underlying86 (show TK.ok _ (.struct [(0,3,1),(1,29,3)]) _ from ⟨_,rfl,rfl,fun x hx=>by simp only [U8,List.not_mem_nil,or_false] at hx;rcases hx with rfl | rfl<;>exact ⟨by kernel_rfl,by decide⟩⟩) (.agg #[(.int .i64 0),(.int .i64 0),(.int .i64 0),(.slice none 0 0)]) (by kernel_rfl) rfl rfl rfl rfl (by decide) (fun h=>by cases h)
def ti87:TyI:=⟨.struct [(0,3,1),(1,29,3)],4,48,[(.int .i64 0),(.int .i64 0),(.int .i64 0),(.slice none 0 0)],false⟩
theorem ty87:TyOk Tryz.prog 87 ti87:=TyOk.of Tryz.underlying87 (show TK.ok _ (.struct [(0,3,1),(1,29,3)]) _ from ⟨_,rfl,rfl,fun x hx=>by simp only [U8,List.not_mem_nil,or_false] at hx;rcases hx with rfl | rfl<;>exact ⟨by kernel_rfl,by decide⟩⟩) (.agg #[(.int .i64 0),(.int .i64 0),(.int .i64 0),(.slice none 0 0)]) (by kernel_rfl) rfl rfl rfl rfl (by decide) (fun h=>by cases h)
def ti94:TyI:=⟨.slice 98,1,24,[(.slice none 0 0)],false⟩
theorem ty94:TyOk Tryz.prog 94 ti94:=TyOk.of Tryz.underlying94 (show TK.ok _ (.slice 98) _ from rfl) (.slice none 0 0) (by kernel_rfl) rfl rfl rfl rfl (by decide) (fun h=>by cases h)
def ti97:TyI:=⟨.slice 102,1,24,[(.slice none 0 0)],false⟩
theorem ty97:TyOk Tryz.prog 97 ti97:=TyOk.of Tryz.underlying97 (show TK.ok _ (.slice 102) _ from rfl) (.slice none 0 0) (by kernel_rfl) rfl rfl rfl rfl (by decide) (fun h=>by cases h)
def ti98:TyI:=⟨.slice 100,1,24,[(.slice none 0 0)],false⟩
theorem ty98:TyOk Tryz.prog 98 ti98:=TyOk.of Tryz.underlying98 (show TK.ok _ (.slice 100) _ from rfl) (.slice none 0 0) (by kernel_rfl) rfl rfl rfl rfl (by decide) (fun h=>by cases h)
def ti99:TyI:=⟨.struct [(0,3,1),(1,3,1),(2,3,1),(3,3,1),(4,3,1),(5,98,1)],6,64,[(.int .i64 0),(.int .i64 0),(.int .i64 0),(.int .i64 0),(.int .i64 0),(.slice none 0 0)],false⟩
theorem ty99:TyOk Tryz.prog 99 ti99:=TyOk.of Tryz.underlying99 (show TK.ok _ (.struct [(0,3,1),(1,3,1),(2,3,1),(3,3,1),(4,3,1),(5,98,1)]) _ from ⟨_,rfl,rfl,fun x hx=>by simp only [U8,List.not_mem_nil,or_false] at hx;rcases hx with rfl | rfl | rfl | rfl | rfl | rfl<;>exact ⟨by kernel_rfl,by decide⟩⟩) (.agg #[(.int .i64 0),(.int .i64 0),(.int .i64 0),(.int .i64 0),(.int .i64 0),(.slice none 0 0)]) (by kernel_rfl) rfl rfl rfl rfl (by decide) (fun h=>by cases h)
def Y3a:TyI:=⟨.struct [(0,3,1),(1,3,1),(2,3,1),(3,3,1),(4,3,1),(5,98,1)],6,64,[(.int .i64 0),(.int .i64 0),(.int .i64 0),(.int .i64 0),(.int .i64 0),(.slice none 0 0)],false⟩
theorem Y8r:TyOk Tryz.prog 100 Y3a:=TyOk.of Tryz.underlying100 (show TK.ok _ (.struct [(0,3,1),(1,3,1),(2,3,1),(3,3,1),(4,3,1),(5,98,1)]) _ from ⟨_,rfl,rfl,fun x hx=>by simp only [U8,List.not_mem_nil,or_false] at hx;rcases hx with rfl | rfl | rfl | rfl | rfl | rfl<;>exact ⟨by kernel_rfl,by decide⟩⟩) (.agg #[(.int .i64 0),(.int .i64 0),(.int .i64 0),(.int .i64 0),(.int .i64 0),(.slice none 0 0)]) (by kernel_rfl) rfl rfl rfl rfl (by decide) (fun h=>by cases h)
def Y39:TyI:=⟨.struct [(0,3,1),(1,98,1),(2,43,1)],3,56,[(.int .i64 0),(.slice none 0 0),(.slice none 0 0)],false⟩
theorem Y8q:TyOk Tryz.prog 101 Y39:=TyOk.of Tryz.underlying101 (show TK.ok _ (.struct [(0,3,1),(1,98,1),(2,43,1)]) _ from ⟨_,rfl,rfl,fun x hx=>by simp only [U8,List.not_mem_nil,or_false] at hx;rcases hx with rfl | rfl | rfl<;>exact ⟨by kernel_rfl,by decide⟩⟩) (.agg #[(.int .i64 0),(.slice none 0 0),(.slice none 0 0)]) (by kernel_rfl) rfl rfl rfl rfl (by decide) (fun h=>by cases h)
def Y38:TyI:=⟨.struct [(0,3,1),(1,98,1),(2,43,1)],3,56,[(.int .i64 0),(.slice none 0 0),(.slice none 0 0)],false⟩
theorem Y8p:TyOk Tryz.prog 102 Y38:=TyOk.of Tryz.underlying102 (show TK.ok _ (.struct [(0,3,1),(1,98,1),(2,43,1)]) _ from ⟨_,rfl,rfl,fun x hx=>by simp only [U8,List.not_mem_nil,or_false] at hx;rcases hx with rfl | rfl | rfl<;>exact ⟨by kernel_rfl,by decide⟩⟩) (.agg #[(.int .i64 0),(.slice none 0 0),(.slice none 0 0)]) (by kernel_rfl) rfl rfl rfl rfl (by decide) (fun h=>by cases h)
def Y37:TyI:=⟨.pointer 108,1,8,[(.pointer none)],false⟩
theorem Y8o:TyOk Tryz.prog 104 Y37:=TyOk.of Tryz.underlying104 (show TK.ok _ (.pointer 108) _ from rfl) (.pointer none) (by kernel_rfl) rfl rfl rfl rfl (by decide) (fun h=>by cases h)
def Y36:TyI:=⟨.pointer 190,1,8,[(.pointer none)],false⟩
theorem Y8n:TyOk Tryz.prog 105 Y36:=TyOk.of Tryz.underlying105 (show TK.ok _ (.pointer 190) _ from rfl) (.pointer none) (by kernel_rfl) rfl rfl rfl rfl (by decide) (fun h=>by cases h)
def Y35:TyI:=⟨.struct [(0,105,1),(1,26,1),(2,3,1),(3,3,1)],4,48,[(.pointer none),(.slice none 0 0),(.int .i64 0),(.int .i64 0)],false⟩
theorem Y8m:TyOk Tryz.prog 107 Y35:=TyOk.of Tryz.underlying107 (show TK.ok _ (.struct [(0,105,1),(1,26,1),(2,3,1),(3,3,1)]) _ from ⟨_,rfl,rfl,fun x hx=>by simp only [U8,List.not_mem_nil,or_false] at hx;rcases hx with rfl | rfl | rfl | rfl<;>exact ⟨by kernel_rfl,by decide⟩⟩) (.agg #[(.pointer none),(.slice none 0 0),(.int .i64 0),(.int .i64 0)]) (by kernel_rfl) rfl rfl rfl rfl (by decide) (fun h=>by cases h)
def Y34:TyI:=⟨.struct [(0,105,1),(1,26,1),(2,3,1),(3,3,1)],4,48,[(.pointer none),(.slice none 0 0),(.int .i64 0),(.int .i64 0)],false⟩
theorem Y8l:TyOk Tryz.prog 108 Y34:=TyOk.of Tryz.underlying108 (show TK.ok _ (.struct [(0,105,1),(1,26,1),(2,3,1),(3,3,1)]) _ from ⟨_,rfl,rfl,fun x hx=>by simp only [U8,List.not_mem_nil,or_false] at hx;rcases hx with rfl | rfl | rfl | rfl<;>exact ⟨by kernel_rfl,by decide⟩⟩) (.agg #[(.pointer none),(.slice none 0 0),(.int .i64 0),(.int .i64 0)]) (by kernel_rfl) rfl rfl rfl rfl (by decide) (fun h=>by cases h)
def Y33:TyI:=⟨.struct [(0,44,1),(1,25,2)],3,40,[(.slice none 0 0),(.int .i64 0),(.int .i64 0)],false⟩
theorem Y8k:TyOk Tryz.prog 110 Y33:=TyOk.of Tryz.underlying110 (show TK.ok _ (.struct [(0,44,1),(1,25,2)]) _ from ⟨_,rfl,rfl,fun x hx=>by simp only [U8,List.not_mem_nil,or_false] at hx;rcases hx with rfl | rfl<;>exact ⟨by kernel_rfl,by decide⟩⟩) (.agg #[(.slice none 0 0),(.int .i64 0),(.int .i64 0)]) (by kernel_rfl) rfl rfl rfl rfl (by decide) (fun h=>by cases h)
def Y32:TyI:=⟨.struct [(0,44,1),(1,25,2)],3,40,[(.slice none 0 0),(.int .i64 0),(.int .i64 0)],false⟩
theorem Y8j:TyOk Tryz.prog 111 Y32:=TyOk.of Tryz.underlying111 (show TK.ok _ (.struct [(0,44,1),(1,25,2)]) _ from ⟨_,rfl,rfl,fun x hx=>by simp only [U8,List.not_mem_nil,or_false] at hx;rcases hx with rfl | rfl<;>exact ⟨by kernel_rfl,by decide⟩⟩) (.agg #[(.slice none 0 0),(.int .i64 0),(.int .i64 0)]) (by kernel_rfl) rfl rfl rfl rfl (by decide) (fun h=>by cases h)
def Y31:TyI:=⟨.slice 111,1,24,[(.slice none 0 0)],false⟩
theorem Y8i:TyOk Tryz.prog 112 Y31:=TyOk.of Tryz.underlying112 (show TK.ok _ (.slice 111) _ from rfl) (.slice none 0 0) (by kernel_rfl) rfl rfl rfl rfl (by decide) (fun h=>by cases h)
def Y30:TyI:=⟨.pointer 51,1,8,[(.pointer none)],false⟩
theorem Y8h:TyOk Tryz.prog 117 Y30:=TyOk.of Tryz.underlying117 (show TK.ok _ (.pointer 51) _ from rfl) (.pointer none) (by kernel_rfl) rfl rfl rfl rfl (by decide) (fun h=>by cases h)
def Y2z:TyI:=⟨.pointer 215,1,8,[(.pointer none)],false⟩
theorem Y8g:TyOk Tryz.prog 128 Y2z:=TyOk.of Tryz.underlying128 (show TK.ok _ (.pointer 215) _ from rfl) (.pointer none) (by kernel_rfl) rfl rfl rfl rfl (by decide) (fun h=>by cases h)
def Y2y:TyI:=⟨.array 8 4,8,8,[(.bool false),(.bool false),(.bool false),(.bool false),(.bool false),(.bool false),(.bool false),(.bool false)],false⟩
theorem Y8f:TyOk Tryz.prog 137 Y2y:=TyOk.of Tryz.underlying137 (show TK.ok _ (.array 8 4) _ from rfl) (.agg #[(.bool false),(.bool false),(.bool false),(.bool false),(.bool false),(.bool false),(.bool false),(.bool false)]) (by kernel_rfl) rfl rfl rfl rfl (by decide) (fun h=>by cases h)
def Y2x:TyI:=⟨.pointer 77,1,8,[(.pointer none)],false⟩
theorem Y8e:TyOk Tryz.prog 145 Y2x:=TyOk.of Tryz.underlying145 (show TK.ok _ (.pointer 77) _ from rfl) (.pointer none) (by kernel_rfl) rfl rfl rfl rfl (by decide) (fun h=>by cases h)
def Y2w:TyI:=⟨.pointer 43,1,8,[(.pointer none)],false⟩
theorem Y8d:TyOk Tryz.prog 146 Y2w:=TyOk.of Tryz.underlying146 (show TK.ok _ (.pointer 43) _ from rfl) (.pointer none) (by kernel_rfl) rfl rfl rfl rfl (by decide) (fun h=>by cases h)
def Y2v:TyI:=⟨.struct [(0,3,1),(1,44,1)],2,32,[(.int .i64 0),(.slice none 0 0)],false⟩
theorem Y8c:TyOk Tryz.prog 148 Y2v:=TyOk.of Tryz.underlying148 (show TK.ok _ (.struct [(0,3,1),(1,44,1)]) _ from ⟨_,rfl,rfl,fun x hx=>by simp only [U8,List.not_mem_nil,or_false] at hx;rcases hx with rfl | rfl<;>exact ⟨by kernel_rfl,by decide⟩⟩) (.agg #[(.int .i64 0),(.slice none 0 0)]) (by kernel_rfl) rfl rfl rfl rfl (by decide) (fun h=>by cases h)
def Y2u:TyI:=⟨.struct [(0,3,1),(1,44,1)],2,32,[(.int .i64 0),(.slice none 0 0)],false⟩
theorem Y8b:TyOk Tryz.prog 149 Y2u:=TyOk.of Tryz.underlying149 (show TK.ok _ (.struct [(0,3,1),(1,44,1)]) _ from ⟨_,rfl,rfl,fun x hx=>by simp only [U8,List.not_mem_nil,or_false] at hx;rcases hx with rfl | rfl<;>exact ⟨by kernel_rfl,by decide⟩⟩) (.agg #[(.int .i64 0),(.slice none 0 0)]) (by kernel_rfl) rfl rfl rfl rfl (by decide) (fun h=>by cases h)
def Y2t:TyI:=⟨.pointer 3,1,8,[(.pointer none)],false⟩
theorem Y8a:TyOk Tryz.prog 153 Y2t:=TyOk.of Tryz.underlying153 (show TK.ok _ (.pointer 3) _ from rfl) (.pointer none) (by kernel_rfl) rfl rfl rfl rfl (by decide) (fun h=>by cases h)
def Y2s:TyI:=⟨.struct [(0,3,1),(1,3,1),(2,3,1)],3,24,[(.int .i64 0),(.int .i64 0),(.int .i64 0)],false⟩
theorem Y89:TyOk Tryz.prog 158 Y2s:=TyOk.of Tryz.underlying158 (show TK.ok _ (.struct [(0,3,1),(1,3,1),(2,3,1)]) _ from ⟨_,rfl,rfl,fun x hx=>by simp only [U8,List.not_mem_nil,or_false] at hx;rcases hx with rfl | rfl | rfl<;>exact ⟨by kernel_rfl,by decide⟩⟩) (.agg #[(.int .i64 0),(.int .i64 0),(.int .i64 0)]) (by kernel_rfl) rfl rfl rfl rfl (by decide) (fun h=>by cases h)
def Y2r:TyI:=⟨.struct [(0,3,1),(1,3,1),(2,3,1)],3,24,[(.int .i64 0),(.int .i64 0),(.int .i64 0)],true⟩
theorem Y88:TyOk Tryz.prog 159 Y2r:=TyOk.of Tryz.underlying159 (show TK.ok _ (.struct [(0,3,1),(1,3,1),(2,3,1)]) _ from ⟨_,rfl,rfl,fun x hx=>by simp only [U8,List.not_mem_nil,or_false] at hx;rcases hx with rfl | rfl | rfl<;>exact ⟨by kernel_rfl,by decide⟩⟩) (.agg #[(.int .i64 0),(.int .i64 0),(.int .i64 0)]) (by kernel_rfl) rfl rfl rfl rfl (by decide) (fun _ fs h=>by cases h;exact ⟨by kernel_rfl,by kernel_rfl,by kernel_rfl,by kernel_rfl⟩)
def Y2q:TyI:=⟨.struct [(0,100,6),(6,159,3)],9,88,[(.int .i64 0),(.int .i64 0),(.int .i64 0),(.int .i64 0),(.int .i64 0),(.slice none 0 0),(.int .i64 0),(.int .i64 0),(.int .i64 0)],false⟩
theorem Y87:TyOk Tryz.prog 160 Y2q:=TyOk.of Tryz.underlying160 (show TK.ok _ (.struct [(0,100,6),(6,159,3)]) _ from ⟨_,rfl,rfl,fun x hx=>by simp only [U8,List.not_mem_nil,or_false] at hx;rcases hx with rfl | rfl<;>exact ⟨by kernel_rfl,by decide⟩⟩) (.agg #[(.int .i64 0),(.int .i64 0),(.int .i64 0),(.int .i64 0),(.int .i64 0),(.slice none 0 0),(.int .i64 0),(.int .i64 0),(.int .i64 0)]) (by kernel_rfl) rfl rfl rfl rfl (by decide) (fun h=>by cases h)
def Y2p:TyI:=⟨.struct [(0,100,6),(6,159,3)],9,88,[(.int .i64 0),(.int .i64 0),(.int .i64 0),(.int .i64 0),(.int .i64 0),(.slice none 0 0),(.int .i64 0),(.int .i64 0),(.int .i64 0)],false⟩
theorem Y86:TyOk Tryz.prog 161 Y2p:=TyOk.of Tryz.underlying161 (show TK.ok _ (.struct [(0,100,6),(6,159,3)]) _ from ⟨_,rfl,rfl,fun x hx=>by simp only [U8,List.not_mem_nil,or_false] at hx;rcases hx with rfl | rfl<;>exact ⟨by kernel_rfl,by decide⟩⟩) (.agg #[(.int .i64 0),(.int .i64 0),(.int .i64 0),(.int .i64 0),(.int .i64 0),(.slice none 0 0),(.int .i64 0),(.int .i64 0),(.int .i64 0)]) (by kernel_rfl) rfl rfl rfl rfl (by decide) (fun h=>by cases h)
def Y2o:TyI:=⟨.slice 181,1,24,[(.slice none 0 0)],false⟩
theorem Y85:TyOk Tryz.prog 175 Y2o:=TyOk.of Tryz.underlying175 (show TK.ok _ (.slice 181) _ from rfl) (.slice none 0 0) (by kernel_rfl) rfl rfl rfl rfl (by decide) (fun h=>by cases h)
def Y2n:TyI:=⟨.struct [(0,3,1),(1,3,1),(2,43,1),(3,44,1),(4,175,1),(5,3,1)],6,96,[(.int .i64 0),(.int .i64 0),(.slice none 0 0),(.slice none 0 0),(.slice none 0 0),(.int .i64 0)],false⟩
theorem Y84:TyOk Tryz.prog 176 Y2n:=TyOk.of Tryz.underlying176 (show TK.ok _ (.struct [(0,3,1),(1,3,1),(2,43,1),(3,44,1),(4,175,1),(5,3,1)]) _ from ⟨_,rfl,rfl,fun x hx=>by simp only [U8,List.not_mem_nil,or_false] at hx;rcases hx with rfl | rfl | rfl | rfl | rfl | rfl<;>exact ⟨by kernel_rfl,by decide⟩⟩) (.agg #[(.int .i64 0),(.int .i64 0),(.slice none 0 0),(.slice none 0 0),(.slice none 0 0),(.int .i64 0)]) (by kernel_rfl) rfl rfl rfl rfl (by decide) (fun h=>by cases h)
def Y2m:TyI:=⟨.struct [(0,3,1),(1,3,1),(2,43,1),(3,44,1),(4,175,1),(5,3,1)],6,96,[(.int .i64 0),(.int .i64 0),(.slice none 0 0),(.slice none 0 0),(.slice none 0 0),(.int .i64 0)],false⟩
theorem Y83:TyOk Tryz.prog 177 Y2m:=TyOk.of Tryz.underlying177 (show TK.ok _ (.struct [(0,3,1),(1,3,1),(2,43,1),(3,44,1),(4,175,1),(5,3,1)]) _ from ⟨_,rfl,rfl,fun x hx=>by simp only [U8,List.not_mem_nil,or_false] at hx;rcases hx with rfl | rfl | rfl | rfl | rfl | rfl<;>exact ⟨by kernel_rfl,by decide⟩⟩) (.agg #[(.int .i64 0),(.int .i64 0),(.slice none 0 0),(.slice none 0 0),(.slice none 0 0),(.int .i64 0)]) (by kernel_rfl) rfl rfl rfl rfl (by decide) (fun h=>by cases h)
def Y2l:TyI:=⟨.struct [(0,3,1),(1,3,1),(2,3,1),(3,48,6)],9,136,[(.int .i64 0),(.int .i64 0),(.int .i64 0),(.int .i64 0),(.int .i64 0),(.slice none 0 0),(.slice none 0 0),(.slice none 0 0),(.slice none 0 0)],false⟩
theorem Y82:TyOk Tryz.prog 178 Y2l:=TyOk.of Tryz.underlying178 (show TK.ok _ (.struct [(0,3,1),(1,3,1),(2,3,1),(3,48,6)]) _ from ⟨_,rfl,rfl,fun x hx=>by simp only [U8,List.not_mem_nil,or_false] at hx;rcases hx with rfl | rfl | rfl | rfl<;>exact ⟨by kernel_rfl,by decide⟩⟩) (.agg #[(.int .i64 0),(.int .i64 0),(.int .i64 0),(.int .i64 0),(.int .i64 0),(.slice none 0 0),(.slice none 0 0),(.slice none 0 0),(.slice none 0 0)]) (by kernel_rfl) rfl rfl rfl rfl (by decide) (fun h=>by cases h)
def Y2k:TyI:=⟨.struct [(0,3,1),(1,3,1),(2,3,1),(3,48,6)],9,136,[(.int .i64 0),(.int .i64 0),(.int .i64 0),(.int .i64 0),(.int .i64 0),(.slice none 0 0),(.slice none 0 0),(.slice none 0 0),(.slice none 0 0)],false⟩
theorem Y81:TyOk Tryz.prog 179 Y2k:=TyOk.of Tryz.underlying179 (show TK.ok _ (.struct [(0,3,1),(1,3,1),(2,3,1),(3,48,6)]) _ from ⟨_,rfl,rfl,fun x hx=>by simp only [U8,List.not_mem_nil,or_false] at hx;rcases hx with rfl | rfl | rfl | rfl<;>exact ⟨by kernel_rfl,by decide⟩⟩) (.agg #[(.int .i64 0),(.int .i64 0),(.int .i64 0),(.int .i64 0),(.int .i64 0),(.slice none 0 0),(.slice none 0 0),(.slice none 0 0),(.slice none 0 0)]) (by kernel_rfl) rfl rfl rfl rfl (by decide) (fun h=>by cases h)
def Y2j:TyI:=⟨.struct [(0,3,1),(1,3,1),(2,3,1),(3,3,1)],4,32,[(.int .i64 0),(.int .i64 0),(.int .i64 0),(.int .i64 0)],false⟩
theorem Y80:TyOk Tryz.prog 180 Y2j:=TyOk.of Tryz.underlying180 (show TK.ok _ (.struct [(0,3,1),(1,3,1),(2,3,1),(3,3,1)]) _ from ⟨_,rfl,rfl,fun x hx=>by simp only [U8,List.not_mem_nil,or_false] at hx;rcases hx with rfl | rfl | rfl | rfl<;>exact ⟨by kernel_rfl,by decide⟩⟩) (.agg #[(.int .i64 0),(.int .i64 0),(.int .i64 0),(.int .i64 0)]) (by kernel_rfl) rfl rfl rfl rfl (by decide) (fun h=>by cases h)
def Y2i:TyI:=⟨.struct [(0,3,1),(1,3,1),(2,3,1),(3,3,1)],4,32,[(.int .i64 0),(.int .i64 0),(.int .i64 0),(.int .i64 0)],true⟩
theorem Y7z:TyOk Tryz.prog 181 Y2i:=TyOk.of Tryz.underlying181 (show TK.ok _ (.struct [(0,3,1),(1,3,1),(2,3,1),(3,3,1)]) _ from ⟨_,rfl,rfl,fun x hx=>by simp only [U8,List.not_mem_nil,or_false] at hx;rcases hx with rfl | rfl | rfl | rfl<;>exact ⟨by kernel_rfl,by decide⟩⟩) (.agg #[(.int .i64 0),(.int .i64 0),(.int .i64 0),(.int .i64 0)]) (by kernel_rfl) rfl rfl rfl rfl (by decide) (fun _ fs h=>by cases h;exact ⟨by kernel_rfl,by kernel_rfl,by kernel_rfl,by kernel_rfl⟩)
def Y2h:TyI:=⟨.pointer 263,1,8,[(.pointer none)],false⟩
theorem Y7y:TyOk Tryz.prog 187 Y2h:=TyOk.of Tryz.underlying187 (show TK.ok _ (.pointer 263) _ from rfl) (.pointer none) (by kernel_rfl) rfl rfl rfl rfl (by decide) (fun h=>by cases h)
def Y2g:TyI:=⟨.struct [(0,23,1),(1,187,1)],2,32,[(.slice none 0 0),(.pointer none)],false⟩
theorem Y7x:TyOk Tryz.prog 189 Y2g:=TyOk.of Tryz.underlying189 (show TK.ok _ (.struct [(0,23,1),(1,187,1)]) _ from ⟨_,rfl,rfl,fun x hx=>by simp only [U8,List.not_mem_nil,or_false] at hx;rcases hx with rfl | rfl<;>exact ⟨by kernel_rfl,by decide⟩⟩) (.agg #[(.slice none 0 0),(.pointer none)]) (by kernel_rfl) rfl rfl rfl rfl (by decide) (fun h=>by cases h)
def Y2f:TyI:=⟨.struct [(0,23,1),(1,187,1)],2,32,[(.slice none 0 0),(.pointer none)],false⟩
theorem Y7w:TyOk Tryz.prog 190 Y2f:=TyOk.of Tryz.underlying190 (show TK.ok _ (.struct [(0,23,1),(1,187,1)]) _ from ⟨_,rfl,rfl,fun x hx=>by simp only [U8,List.not_mem_nil,or_false] at hx;rcases hx with rfl | rfl<;>exact ⟨by kernel_rfl,by decide⟩⟩) (.agg #[(.slice none 0 0),(.pointer none)]) (by kernel_rfl) rfl rfl rfl rfl (by decide) (fun h=>by cases h)
def Y2e:TyI:=⟨.slice 25,1,24,[(.slice none 0 0)],false⟩
theorem Y7v:TyOk Tryz.prog 193 Y2e:=TyOk.of Tryz.underlying193 (show TK.ok _ (.slice 25) _ from rfl) (.slice none 0 0) (by kernel_rfl) rfl rfl rfl rfl (by decide) (fun h=>by cases h)
def Y2d:TyI:=⟨.struct [(0,22,1),(1,3,1)],2,32,[(.slice none 0 0),(.int .i64 0)],false⟩
theorem Y7u:TyOk Tryz.prog 214 Y2d:=TyOk.of Tryz.underlying214 (show TK.ok _ (.struct [(0,22,1),(1,3,1)]) _ from ⟨_,rfl,rfl,fun x hx=>by simp only [U8,List.not_mem_nil,or_false] at hx;rcases hx with rfl | rfl<;>exact ⟨by kernel_rfl,by decide⟩⟩) (.agg #[(.slice none 0 0),(.int .i64 0)]) (by kernel_rfl) rfl rfl rfl rfl (by decide) (fun h=>by cases h)
def Y2c:TyI:=⟨.struct [(0,22,1),(1,3,1)],2,32,[(.slice none 0 0),(.int .i64 0)],false⟩
theorem Y7t:TyOk Tryz.prog 215 Y2c:=TyOk.of Tryz.underlying215 (show TK.ok _ (.struct [(0,22,1),(1,3,1)]) _ from ⟨_,rfl,rfl,fun x hx=>by simp only [U8,List.not_mem_nil,or_false] at hx;rcases hx with rfl | rfl<;>exact ⟨by kernel_rfl,by decide⟩⟩) (.agg #[(.slice none 0 0),(.int .i64 0)]) (by kernel_rfl) rfl rfl rfl rfl (by decide) (fun h=>by cases h)
def Y2b:TyI:=⟨.int .u64,1,8,[(.int .u64 0)],false⟩
theorem Y7s:TyOk Tryz.prog 239 Y2b:=TyOk.of Tryz.underlying239 (show TK.ok _ (.int .u64) _ from rfl) (.int .u64 0) (by kernel_rfl) rfl rfl rfl rfl (by decide) (fun h=>by cases h)
def Y2a:TyI:=⟨.slice 319,1,24,[(.slice none 0 0)],false⟩
theorem Y7r:TyOk Tryz.prog 247 Y2a:=TyOk.of Tryz.underlying247 (show TK.ok _ (.slice 319) _ from rfl) (.slice none 0 0) (by kernel_rfl) rfl rfl rfl rfl (by decide) (fun h=>by cases h)
def Y29:TyI:=⟨.struct [(0,44,1),(1,25,2)],3,40,[(.slice none 0 0),(.int .i64 0),(.int .i64 0)],false⟩
theorem Y7q:TyOk Tryz.prog 255 Y29:=TyOk.of Tryz.underlying255 (show TK.ok _ (.struct [(0,44,1),(1,25,2)]) _ from ⟨_,rfl,rfl,fun x hx=>by simp only [U8,List.not_mem_nil,or_false] at hx;rcases hx with rfl | rfl<;>exact ⟨by kernel_rfl,by decide⟩⟩) (.agg #[(.slice none 0 0),(.int .i64 0),(.int .i64 0)]) (by kernel_rfl) rfl rfl rfl rfl (by decide) (fun h=>by cases h)
def Y28:TyI:=⟨.struct [(0,44,1),(1,25,2)],3,40,[(.slice none 0 0),(.int .i64 0),(.int .i64 0)],false⟩
theorem Y7p:TyOk Tryz.prog 256 Y28:=TyOk.of Tryz.underlying256 (show TK.ok _ (.struct [(0,44,1),(1,25,2)]) _ from ⟨_,rfl,rfl,fun x hx=>by simp only [U8,List.not_mem_nil,or_false] at hx;rcases hx with rfl | rfl<;>exact ⟨by kernel_rfl,by decide⟩⟩) (.agg #[(.slice none 0 0),(.int .i64 0),(.int .i64 0)]) (by kernel_rfl) rfl rfl rfl rfl (by decide) (fun h=>by cases h)
def Y27:TyI:=⟨.slice 256,1,24,[(.slice none 0 0)],false⟩
theorem Y7o:TyOk Tryz.prog 257 Y27:=TyOk.of Tryz.underlying257 (show TK.ok _ (.slice 256) _ from rfl) (.slice none 0 0) (by kernel_rfl) rfl rfl rfl rfl (by decide) (fun h=>by cases h)
def Y26:TyI:=⟨.slice 322,1,24,[(.slice none 0 0)],false⟩
theorem Y7n:TyOk Tryz.prog 258 Y26:=TyOk.of Tryz.underlying258 (show TK.ok _ (.slice 322) _ from rfl) (.slice none 0 0) (by kernel_rfl) rfl rfl rfl rfl (by decide) (fun h=>by cases h)
def Y25:TyI:=⟨.array 4 3,4,32,[(.int .i64 0),(.int .i64 0),(.int .i64 0),(.int .i64 0)],false⟩
theorem Y7m:TyOk Tryz.prog 261 Y25:=TyOk.of Tryz.underlying261 (show TK.ok _ (.array 4 3) _ from rfl) (.agg #[(.int .i64 0),(.int .i64 0),(.int .i64 0),(.int .i64 0)]) (by kernel_rfl) rfl rfl rfl rfl (by decide) (fun h=>by cases h)
def Y24:TyI:=⟨.array 4 261,16,128,[(.int .i64 0),(.int .i64 0),(.int .i64 0),(.int .i64 0),(.int .i64 0),(.int .i64 0),(.int .i64 0),(.int .i64 0),(.int .i64 0),(.int .i64 0),(.int .i64 0),(.int .i64 0),(.int .i64 0),(.int .i64 0),(.int .i64 0),(.int .i64 0)],false⟩
theorem Y7l:TyOk Tryz.prog 262 Y24:=TyOk.of Tryz.underlying262 (show TK.ok _ (.array 4 261) _ from rfl) (.agg #[(.int .i64 0),(.int .i64 0),(.int .i64 0),(.int .i64 0),(.int .i64 0),(.int .i64 0),(.int .i64 0),(.int .i64 0),(.int .i64 0),(.int .i64 0),(.int .i64 0),(.int .i64 0),(.int .i64 0),(.int .i64 0),(.int .i64 0),(.int .i64 0)]) (by kernel_rfl) rfl rfl rfl rfl (by decide) (fun h=>by cases h)
def Y23:TyI:=⟨.array 4 261,16,128,[(.int .i64 0),(.int .i64 0),(.int .i64 0),(.int .i64 0),(.int .i64 0),(.int .i64 0),(.int .i64 0),(.int .i64 0),(.int .i64 0),(.int .i64 0),(.int .i64 0),(.int .i64 0),(.int .i64 0),(.int .i64 0),(.int .i64 0),(.int .i64 0)],false⟩
theorem Y7k:TyOk Tryz.prog 263 Y23:=TyOk.of Tryz.underlying263 (show TK.ok _ (.array 4 261) _ from rfl) (.agg #[(.int .i64 0),(.int .i64 0),(.int .i64 0),(.int .i64 0),(.int .i64 0),(.int .i64 0),(.int .i64 0),(.int .i64 0),(.int .i64 0),(.int .i64 0),(.int .i64 0),(.int .i64 0),(.int .i64 0),(.int .i64 0),(.int .i64 0),(.int .i64 0)]) (by kernel_rfl) rfl rfl rfl rfl (by decide) (fun h=>by cases h)
def Y22:TyI:=⟨.array 11 4,11,11,[(.bool false),(.bool false),(.bool false),(.bool false),(.bool false),(.bool false),(.bool false),(.bool false),(.bool false),(.bool false),(.bool false)],false⟩
theorem Y7j:TyOk Tryz.prog 268 Y22:=TyOk.of Tryz.underlying268 (show TK.ok _ (.array 11 4) _ from rfl) (.agg #[(.bool false),(.bool false),(.bool false),(.bool false),(.bool false),(.bool false),(.bool false),(.bool false),(.bool false),(.bool false),(.bool false)]) (by kernel_rfl) rfl rfl rfl rfl (by decide) (fun h=>by cases h)
def Y21:TyI:=⟨.struct [(0,9,1),(1,193,1),(2,3,1)],3,48,[(.string .empty),(.slice none 0 0),(.int .i64 0)],false⟩
theorem Y7i:TyOk Tryz.prog 269 Y21:=TyOk.of Tryz.underlying269 (show TK.ok _ (.struct [(0,9,1),(1,193,1),(2,3,1)]) _ from ⟨_,rfl,rfl,fun x hx=>by simp only [U8,List.not_mem_nil,or_false] at hx;rcases hx with rfl | rfl | rfl<;>exact ⟨by kernel_rfl,by decide⟩⟩) (.agg #[(.string .empty),(.slice none 0 0),(.int .i64 0)]) (by kernel_rfl) rfl rfl rfl rfl (by decide) (fun h=>by cases h)
def Y20:TyI:=⟨.struct [(0,9,1),(1,193,1),(2,3,1)],3,48,[(.string .empty),(.slice none 0 0),(.int .i64 0)],false⟩
theorem Y7h:TyOk Tryz.prog 270 Y20:=TyOk.of Tryz.underlying270 (show TK.ok _ (.struct [(0,9,1),(1,193,1),(2,3,1)]) _ from ⟨_,rfl,rfl,fun x hx=>by simp only [U8,List.not_mem_nil,or_false] at hx;rcases hx with rfl | rfl | rfl<;>exact ⟨by kernel_rfl,by decide⟩⟩) (.agg #[(.string .empty),(.slice none 0 0),(.int .i64 0)]) (by kernel_rfl) rfl rfl rfl rfl (by decide) (fun h=>by cases h)
def Y1z:TyI:=⟨.slice 270,1,24,[(.slice none 0 0)],false⟩
theorem Y7g:TyOk Tryz.prog 271 Y1z:=TyOk.of Tryz.underlying271 (show TK.ok _ (.slice 270) _ from rfl) (.slice none 0 0) (by kernel_rfl) rfl rfl rfl rfl (by decide) (fun h=>by cases h)
def Y1y:TyI:=⟨.struct [(0,9,1),(1,271,1)],2,40,[(.string .empty),(.slice none 0 0)],false⟩
theorem Y7f:TyOk Tryz.prog 272 Y1y:=TyOk.of Tryz.underlying272 (show TK.ok _ (.struct [(0,9,1),(1,271,1)]) _ from ⟨_,rfl,rfl,fun x hx=>by simp only [U8,List.not_mem_nil,or_false] at hx;rcases hx with rfl | rfl<;>exact ⟨by kernel_rfl,by decide⟩⟩) (.agg #[(.string .empty),(.slice none 0 0)]) (by kernel_rfl) rfl rfl rfl rfl (by decide) (fun h=>by cases h)
def Y1x:TyI:=⟨.struct [(0,9,1),(1,271,1)],2,40,[(.string .empty),(.slice none 0 0)],false⟩
theorem Y7e:TyOk Tryz.prog 273 Y1x:=TyOk.of Tryz.underlying273 (show TK.ok _ (.struct [(0,9,1),(1,271,1)]) _ from ⟨_,rfl,rfl,fun x hx=>by simp only [U8,List.not_mem_nil,or_false] at hx;rcases hx with rfl | rfl<;>exact ⟨by kernel_rfl,by decide⟩⟩) (.agg #[(.string .empty),(.slice none 0 0)]) (by kernel_rfl) rfl rfl rfl rfl (by decide) (fun h=>by cases h)
def Y1w:TyI:=⟨.slice 112,1,24,[(.slice none 0 0)],false⟩
theorem Y7d:TyOk Tryz.prog 274 Y1w:=TyOk.of Tryz.underlying274 (show TK.ok _ (.slice 112) _ from rfl) (.slice none 0 0) (by kernel_rfl) rfl rfl rfl rfl (by decide) (fun h=>by cases h)
def Y1v:TyI:=⟨.map 9 4,1,8,[(.map none)],false⟩
theorem Y7c:TyOk Tryz.prog 294 Y1v:=TyOk.of Tryz.underlying294 (show TK.ok _ (.map 9 4) _ from rfl) (.map none) (by kernel_rfl) rfl rfl rfl rfl (by decide) (fun h=>by cases h)
def Y1u:TyI:=⟨.int .i64,1,8,[(.int .i64 0)],false⟩
theorem Y7b:TyOk Tryz.prog 302 Y1u:=TyOk.of Tryz.underlying302 (show TK.ok _ (.int .i64) _ from rfl) (.int .i64 0) (by kernel_rfl) rfl rfl rfl rfl (by decide) (fun h=>by cases h)
def Y1t:TyI:=⟨.int .u32,1,4,[(.int .u32 0)],false⟩
theorem Y7a:TyOk Tryz.prog 309 Y1t:=TyOk.of Tryz.underlying309 (show TK.ok _ (.int .u32) _ from rfl) (.int .u32 0) (by kernel_rfl) rfl rfl rfl rfl (by decide) (fun h=>by cases h)
def Y1s:TyI:=⟨.int .u64,1,8,[(.int .u64 0)],false⟩
theorem Y79:TyOk Tryz.prog 311 Y1s:=TyOk.of Tryz.underlying311 (show TK.ok _ (.int .u64) _ from rfl) (.int .u64 0) (by kernel_rfl) rfl rfl rfl rfl (by decide) (fun h=>by cases h)
def Y1r:TyI:=⟨.struct [(0,3,1),(1,25,2)],3,24,[(.int .i64 0),(.int .i64 0),(.int .i64 0)],false⟩
theorem Y78:TyOk Tryz.prog 318 Y1r:=TyOk.of Tryz.underlying318 (show TK.ok _ (.struct [(0,3,1),(1,25,2)]) _ from ⟨_,rfl,rfl,fun x hx=>by simp only [U8,List.not_mem_nil,or_false] at hx;rcases hx with rfl | rfl<;>exact ⟨by kernel_rfl,by decide⟩⟩) (.agg #[(.int .i64 0),(.int .i64 0),(.int .i64 0)]) (by kernel_rfl) rfl rfl rfl rfl (by decide) (fun h=>by cases h)
def Y1q:TyI:=⟨.struct [(0,3,1),(1,25,2)],3,24,[(.int .i64 0),(.int .i64 0),(.int .i64 0)],true⟩
theorem Y77:TyOk Tryz.prog 319 Y1q:=TyOk.of Tryz.underlying319 (show TK.ok _ (.struct [(0,3,1),(1,25,2)]) _ from ⟨_,rfl,rfl,fun x hx=>by simp only [U8,List.not_mem_nil,or_false] at hx;rcases hx with rfl | rfl<;>exact ⟨by kernel_rfl,by decide⟩⟩) (.agg #[(.int .i64 0),(.int .i64 0),(.int .i64 0)]) (by kernel_rfl) rfl rfl rfl rfl (by decide) (fun _ fs h=>by cases h;exact ⟨by kernel_rfl,by kernel_rfl,by kernel_rfl,by kernel_rfl⟩)
def Y1p:TyI:=⟨.struct [(0,3,1),(1,98,1),(2,43,1)],3,56,[(.int .i64 0),(.slice none 0 0),(.slice none 0 0)],false⟩
theorem Y76:TyOk Tryz.prog 321 Y1p:=TyOk.of Tryz.underlying321 (show TK.ok _ (.struct [(0,3,1),(1,98,1),(2,43,1)]) _ from ⟨_,rfl,rfl,fun x hx=>by simp only [U8,List.not_mem_nil,or_false] at hx;rcases hx with rfl | rfl | rfl<;>exact ⟨by kernel_rfl,by decide⟩⟩) (.agg #[(.int .i64 0),(.slice none 0 0),(.slice none 0 0)]) (by kernel_rfl) rfl rfl rfl rfl (by decide) (fun h=>by cases h)
def Y1o:TyI:=⟨.struct [(0,3,1),(1,98,1),(2,43,1)],3,56,[(.int .i64 0),(.slice none 0 0),(.slice none 0 0)],false⟩
theorem Y75:TyOk Tryz.prog 322 Y1o:=TyOk.of Tryz.underlying322 (show TK.ok _ (.struct [(0,3,1),(1,98,1),(2,43,1)]) _ from ⟨_,rfl,rfl,fun x hx=>by simp only [U8,List.not_mem_nil,or_false] at hx;rcases hx with rfl | rfl | rfl<;>exact ⟨by kernel_rfl,by decide⟩⟩) (.agg #[(.int .i64 0),(.slice none 0 0),(.slice none 0 0)]) (by kernel_rfl) rfl rfl rfl rfl (by decide) (fun h=>by cases h)
def Y1n:TyI:=⟨.slice 9,1,24,[(.slice none 0 0)],false⟩
theorem Y74:TyOk Tryz.prog 357 Y1n:=TyOk.of Tryz.underlying357 (show TK.ok _ (.slice 9) _ from rfl) (.slice none 0 0) (by kernel_rfl) rfl rfl rfl rfl (by decide) (fun h=>by cases h)
def Y1m:TyI:=⟨.int .u64,1,8,[(.int .u64 0)],false⟩
theorem Y73:TyOk Tryz.prog 362 Y1m:=TyOk.of Tryz.underlying362 (show TK.ok _ (.int .u64) _ from rfl) (.int .u64 0) (by kernel_rfl) rfl rfl rfl rfl (by decide) (fun h=>by cases h)
def Y1l:TyI:=⟨.array 6 4,6,6,[(.bool false),(.bool false),(.bool false),(.bool false),(.bool false),(.bool false)],false⟩
theorem Y72:TyOk Tryz.prog 368 Y1l:=TyOk.of Tryz.underlying368 (show TK.ok _ (.array 6 4) _ from rfl) (.agg #[(.bool false),(.bool false),(.bool false),(.bool false),(.bool false),(.bool false)]) (by kernel_rfl) rfl rfl rfl rfl (by decide) (fun h=>by cases h)
def Y1k:TyI:=⟨.pointer 362,1,8,[(.pointer none)],false⟩
theorem Y71:TyOk Tryz.prog 390 Y1k:=TyOk.of Tryz.underlying390 (show TK.ok _ (.pointer 362) _ from rfl) (.pointer none) (by kernel_rfl) rfl rfl rfl rfl (by decide) (fun h=>by cases h)
def Y1j:TyI:=⟨.struct [(0,17,1),(1,17,1),(2,17,1),(3,9,1)],4,40,[(.pointer none),(.pointer none),(.pointer none),(.string .empty)],false⟩
theorem Y70:TyOk Tryz.prog 406 Y1j:=TyOk.of Tryz.underlying406 (show TK.ok _ (.struct [(0,17,1),(1,17,1),(2,17,1),(3,9,1)]) _ from ⟨_,rfl,rfl,fun x hx=>by simp only [U8,List.not_mem_nil,or_false] at hx;rcases hx with rfl | rfl | rfl | rfl<;>exact ⟨by kernel_rfl,by decide⟩⟩) (.agg #[(.pointer none),(.pointer none),(.pointer none),(.string .empty)]) (by kernel_rfl) rfl rfl rfl rfl (by decide) (fun h=>by cases h)
def Y1i:TyI:=⟨.struct [(0,17,1),(1,17,1),(2,17,1),(3,9,1)],4,40,[(.pointer none),(.pointer none),(.pointer none),(.string .empty)],false⟩
theorem Y6z:TyOk Tryz.prog 407 Y1i:=TyOk.of Tryz.underlying407 (show TK.ok _ (.struct [(0,17,1),(1,17,1),(2,17,1),(3,9,1)]) _ from ⟨_,rfl,rfl,fun x hx=>by simp only [U8,List.not_mem_nil,or_false] at hx;rcases hx with rfl | rfl | rfl | rfl<;>exact ⟨by kernel_rfl,by decide⟩⟩) (.agg #[(.pointer none),(.pointer none),(.pointer none),(.string .empty)]) (by kernel_rfl) rfl rfl rfl rfl (by decide) (fun h=>by cases h)
def Y1h:TyI:=⟨.array 0 16,0,0,[],false⟩
theorem Y6y:TyOk Tryz.prog 408 Y1h:=TyOk.of Tryz.underlying408 (show TK.ok _ (.array 0 16) _ from rfl) (.agg #[]) (by kernel_rfl) rfl rfl rfl rfl (by decide) (fun h=>by cases h)
def Y1g:TyI:=⟨.int .u8,1,1,[(.int .u8 0)],false⟩
theorem Y6x:TyOk Tryz.prog 411 Y1g:=TyOk.of Tryz.underlying411 (show TK.ok _ (.int .u8) _ from rfl) (.int .u8 0) (by kernel_rfl) rfl rfl rfl rfl (by decide) (fun h=>by cases h)
def Y1f:TyI:=⟨.int .u8,1,1,[(.int .u8 0)],false⟩
theorem Y6w:TyOk Tryz.prog 412 Y1f:=TyOk.of Tryz.underlying412 (show TK.ok _ (.int .u8) _ from rfl) (.int .u8 0) (by kernel_rfl) rfl rfl rfl rfl (by decide) (fun h=>by cases h)
def Y1e:TyI:=⟨.pointer 5,1,8,[(.pointer none)],false⟩
theorem Y6v:TyOk Tryz.prog 414 Y1e:=TyOk.of Tryz.underlying414 (show TK.ok _ (.pointer 5) _ from rfl) (.pointer none) (by kernel_rfl) rfl rfl rfl rfl (by decide) (fun h=>by cases h)
def Y1d:TyI:=⟨.int .i32,1,4,[(.int .i32 0)],false⟩
theorem Y6u:TyOk Tryz.prog 415 Y1d:=TyOk.of Tryz.underlying415 (show TK.ok _ (.int .i32) _ from rfl) (.int .i32 0) (by kernel_rfl) rfl rfl rfl rfl (by decide) (fun h=>by cases h)
def Y1c:TyI:=⟨.int .i32,1,4,[(.int .i32 0)],false⟩
theorem Y6t:TyOk Tryz.prog 416 Y1c:=TyOk.of Tryz.underlying416 (show TK.ok _ (.int .i32) _ from rfl) (.int .i32 0) (by kernel_rfl) rfl rfl rfl rfl (by decide) (fun h=>by cases h)
def Tys:Ty:=fun t=>match t with
 | 2=>some ti2
 | 3=>some ti3
 | 4=>some ti4
 | 5=>some ti5
 | 6=>some ti6
 | 7=>some ti7
 | 8=>some ti8
 | 9=>some ti9
 | 10=>some ti10
 | 11=>some ti11
 | 12=>some ti12
 | 13=>some ti13
 | 14=>some ti14
 | 15=>some ti15
 | 16=>some ti16
 | 17=>some ti17
 | 18=>some ti18
 | 19=>some ti19
 | 21=>some ti21
 | 22=>some ti22
 | 23=>some ti23
 | 24=>some ti24
 | 25=>some ti25
 | 26=>some ti26
 | 27=>some ti27
 | 28=>some ti28
 | 29=>some ti29
 | 32=>some ti32
 | 43=>some ti43
 | 44=>some ti44
 | 45=>some ti45
 | 46=>some ti46
 | 47=>some ti47
 | 48=>some ti48
 | 51=>some ti51
 | 57=>some ti57
 | 77=>some ti77
 | 81=>some ti81
 | 82=>some ti82
 | 86=>some ti86
 | 87=>some ti87
 | 94=>some ti94
 | 97=>some ti97
 | 98=>some ti98
 | 99=>some ti99
 | 100=>some Y3a
 | 101=>some Y39
 | 102=>some Y38
 | 104=>some Y37
 | 105=>some Y36
 | 107=>some Y35
 | 108=>some Y34
 | 110=>some Y33
 | 111=>some Y32
 | 112=>some Y31
 | 117=>some Y30
 | 128=>some Y2z
 | 137=>some Y2y
 | 145=>some Y2x
 | 146=>some Y2w
 | 148=>some Y2v
 | 149=>some Y2u
 | 153=>some Y2t
 | 158=>some Y2s
 | 159=>some Y2r
 | 160=>some Y2q
 | 161=>some Y2p
 | 175=>some Y2o
 | 176=>some Y2n
 | 177=>some Y2m
 | 178=>some Y2l
 | 179=>some Y2k
 | 180=>some Y2j
 | 181=>some Y2i
 | 187=>some Y2h
 | 189=>some Y2g
 | 190=>some Y2f
 | 193=>some Y2e
 | 214=>some Y2d
 | 215=>some Y2c
 | 239=>some Y2b
 | 247=>some Y2a
 | 255=>some Y29
 | 256=>some Y28
 | 257=>some Y27
 | 258=>some Y26
 | 261=>some Y25
 | 262=>some Y24
 | 263=>some Y23
 | 268=>some Y22
 | 269=>some Y21
 | 270=>some Y20
 | 271=>some Y1z
 | 272=>some Y1y
 | 273=>some Y1x
 | 274=>some Y1w
 | 294=>some Y1v
 | 302=>some Y1u
 | 309=>some Y1t
 | 311=>some Y1s
 | 318=>some Y1r
 | 319=>some Y1q
 | 321=>some Y1p
 | 322=>some Y1o
 | 357=>some Y1n
 | 362=>some Y1m
 | 368=>some Y1l
 | 390=>some Y1k
 | 406=>some Y1j
 | 407=>some Y1i
 | 408=>some Y1h
 | 411=>some Y1g
 | 412=>some Y1f
 | 414=>some Y1e
 | 415=>some Y1d
 | 416=>some Y1c
 | _=>none
@[simp] theorem tys2:Tys 2=some ⟨.int .i64,1,8,[(.int .i64 0)],false⟩:=rfl
@[simp] theorem tys3:Tys 3=some ⟨.int .i64,1,8,[(.int .i64 0)],false⟩:=rfl
@[simp] theorem tys4:Tys 4=some ⟨.bool,1,1,[(.bool false)],false⟩:=rfl
@[simp] theorem tys5:Tys 5=some ⟨.int .u8,1,1,[(.int .u8 0)],false⟩:=rfl
@[simp] theorem tys6:Tys 6=some ⟨.int .u8,1,1,[(.int .u8 0)],false⟩:=rfl
@[simp] theorem tys7:Tys 7=some ⟨.struct [(0,2,1),(1,3,1),(2,4,1),(3,6,1)],4,24,[(.int .i64 0),(.int .i64 0),(.bool false),(.int .u8 0)],false⟩:=rfl
@[simp] theorem tys8:Tys 8=some ⟨.struct [(0,2,1),(1,3,1),(2,4,1),(3,6,1)],4,24,[(.int .i64 0),(.int .i64 0),(.bool false),(.int .u8 0)],false⟩:=rfl
@[simp] theorem tys9:Tys 9=some ⟨.string,1,16,[(.string .empty)],false⟩:=rfl
@[simp] theorem tys10:Tys 10=some ⟨.string,1,16,[(.string .empty)],false⟩:=rfl
@[simp] theorem tys11:Tys 11=some ⟨.string,1,16,[(.string .empty)],false⟩:=rfl
@[simp] theorem tys12:Tys 12=some ⟨.int .u64,1,8,[(.int .u64 0)],false⟩:=rfl
@[simp] theorem tys13:Tys 13=some ⟨.struct [(0,9,1),(1,12,1)],2,24,[(.string .empty),(.int .u64 0)],false⟩:=rfl
@[simp] theorem tys14:Tys 14=some ⟨.struct [(0,9,1),(1,12,1)],2,24,[(.string .empty),(.int .u64 0)],false⟩:=rfl
@[simp] theorem tys15:Tys 15=some ⟨.pointer 407,1,8,[(.pointer none)],false⟩:=rfl
@[simp] theorem tys16:Tys 16=some ⟨.pointer 410,1,8,[(.pointer none)],false⟩:=rfl
@[simp] theorem tys17:Tys 17=some ⟨.pointer 418,1,8,[(.pointer none)],false⟩:=rfl
@[simp] theorem tys18:Tys 18=some ⟨.struct [(0,17,1)],1,8,[(.pointer none)],false⟩:=rfl
@[simp] theorem tys19:Tys 19=some ⟨.struct [(0,17,1)],1,8,[(.pointer none)],false⟩:=rfl
@[simp] theorem tys21:Tys 21=some ⟨.int .i32,1,4,[(.int .i32 0)],false⟩:=rfl
@[simp] theorem tys22:Tys 22=some ⟨.slice 5,1,24,[(.slice none 0 0)],false⟩:=rfl
@[simp] theorem tys23:Tys 23=some ⟨.slice 273,1,24,[(.slice none 0 0)],false⟩:=rfl
@[simp] theorem tys24:Tys 24=some ⟨.struct [(0,3,1),(1,3,1)],2,16,[(.int .i64 0),(.int .i64 0)],false⟩:=rfl
@[simp] theorem tys25:Tys 25=some ⟨.struct [(0,3,1),(1,3,1)],2,16,[(.int .i64 0),(.int .i64 0)],true⟩:=rfl
@[simp] theorem tys26:Tys 26=some ⟨.slice 161,1,24,[(.slice none 0 0)],false⟩:=rfl
@[simp] theorem tys27:Tys 27=some ⟨.slice 29,1,24,[(.slice none 0 0)],false⟩:=rfl
@[simp] theorem tys28:Tys 28=some ⟨.struct [(0,3,1),(1,3,1),(2,27,1)],3,40,[(.int .i64 0),(.int .i64 0),(.slice none 0 0)],false⟩:=rfl
@[simp] theorem tys29:Tys 29=some ⟨.struct [(0,3,1),(1,3,1),(2,27,1)],3,40,[(.int .i64 0),(.int .i64 0),(.slice none 0 0)],false⟩:=rfl
@[simp] theorem tys32:Tys 32=some ⟨.slice 87,1,24,[(.slice none 0 0)],false⟩:=rfl
@[simp] theorem tys43:Tys 43=some ⟨.slice 149,1,24,[(.slice none 0 0)],false⟩:=rfl
@[simp] theorem tys44:Tys 44=some ⟨.slice 3,1,24,[(.slice none 0 0)],false⟩:=rfl
@[simp] theorem tys45:Tys 45=some ⟨.slice 179,1,24,[(.slice none 0 0)],false⟩:=rfl
@[simp] theorem tys46:Tys 46=some ⟨.slice 48,1,24,[(.slice none 0 0)],false⟩:=rfl
@[simp] theorem tys47:Tys 47=some ⟨.struct [(0,3,1),(1,3,1),(2,43,1),(3,44,1),(4,45,1),(5,46,1)],6,112,[(.int .i64 0),(.int .i64 0),(.slice none 0 0),(.slice none 0 0),(.slice none 0 0),(.slice none 0 0)],false⟩:=rfl
@[simp] theorem tys48:Tys 48=some ⟨.struct [(0,3,1),(1,3,1),(2,43,1),(3,44,1),(4,45,1),(5,46,1)],6,112,[(.int .i64 0),(.int .i64 0),(.slice none 0 0),(.slice none 0 0),(.slice none 0 0),(.slice none 0 0)],false⟩:=rfl
@[simp] theorem tys51:Tys 51=some ⟨.slice 177,1,24,[(.slice none 0 0)],false⟩:=rfl
@[simp] theorem tys57:Tys 57=some ⟨.slice 44,1,24,[(.slice none 0 0)],false⟩:=rfl
@[simp] theorem tys77:Tys 77=some ⟨.slice 82,1,24,[(.slice none 0 0)],false⟩:=rfl
@[simp] theorem tys81:Tys 81=some ⟨.struct [(0,3,1),(1,44,1),(2,3,1),(3,3,1),(4,3,1),(5,3,1),(6,43,1),(7,3,1)],8,96,[(.int .i64 0),(.slice none 0 0),(.int .i64 0),(.int .i64 0),(.int .i64 0),(.int .i64 0),(.slice none 0 0),(.int .i64 0)],false⟩:=rfl
@[simp] theorem tys82:Tys 82=some ⟨.struct [(0,3,1),(1,44,1),(2,3,1),(3,3,1),(4,3,1),(5,3,1),(6,43,1),(7,3,1)],8,96,[(.int .i64 0),(.slice none 0 0),(.int .i64 0),(.int .i64 0),(.int .i64 0),(.int .i64 0),(.slice none 0 0),(.int .i64 0)],false⟩:=rfl
@[simp] theorem tys86:Tys 86=some ⟨.struct [(0,3,1),(1,29,3)],4,48,[(.int .i64 0),(.int .i64 0),(.int .i64 0),(.slice none 0 0)],false⟩:=rfl
@[simp] theorem tys87:Tys 87=some ⟨.struct [(0,3,1),(1,29,3)],4,48,[(.int .i64 0),(.int .i64 0),(.int .i64 0),(.slice none 0 0)],false⟩:=rfl
@[simp] theorem tys94:Tys 94=some ⟨.slice 98,1,24,[(.slice none 0 0)],false⟩:=rfl
@[simp] theorem tys97:Tys 97=some ⟨.slice 102,1,24,[(.slice none 0 0)],false⟩:=rfl
@[simp] theorem tys98:Tys 98=some ⟨.slice 100,1,24,[(.slice none 0 0)],false⟩:=rfl
@[simp] theorem tys99:Tys 99=some ⟨.struct [(0,3,1),(1,3,1),(2,3,1),(3,3,1),(4,3,1),(5,98,1)],6,64,[(.int .i64 0),(.int .i64 0),(.int .i64 0),(.int .i64 0),(.int .i64 0),(.slice none 0 0)],false⟩:=rfl
@[simp] theorem tys100:Tys 100=some ⟨.struct [(0,3,1),(1,3,1),(2,3,1),(3,3,1),(4,3,1),(5,98,1)],6,64,[(.int .i64 0),(.int .i64 0),(.int .i64 0),(.int .i64 0),(.int .i64 0),(.slice none 0 0)],false⟩:=rfl
@[simp] theorem tys101:Tys 101=some ⟨.struct [(0,3,1),(1,98,1),(2,43,1)],3,56,[(.int .i64 0),(.slice none 0 0),(.slice none 0 0)],false⟩:=rfl
@[simp] theorem tys102:Tys 102=some ⟨.struct [(0,3,1),(1,98,1),(2,43,1)],3,56,[(.int .i64 0),(.slice none 0 0),(.slice none 0 0)],false⟩:=rfl
@[simp] theorem tys104:Tys 104=some ⟨.pointer 108,1,8,[(.pointer none)],false⟩:=rfl
@[simp] theorem tys105:Tys 105=some ⟨.pointer 190,1,8,[(.pointer none)],false⟩:=rfl
@[simp] theorem tys107:Tys 107=some ⟨.struct [(0,105,1),(1,26,1),(2,3,1),(3,3,1)],4,48,[(.pointer none),(.slice none 0 0),(.int .i64 0),(.int .i64 0)],false⟩:=rfl
@[simp] theorem tys108:Tys 108=some ⟨.struct [(0,105,1),(1,26,1),(2,3,1),(3,3,1)],4,48,[(.pointer none),(.slice none 0 0),(.int .i64 0),(.int .i64 0)],false⟩:=rfl
@[simp] theorem tys110:Tys 110=some ⟨.struct [(0,44,1),(1,25,2)],3,40,[(.slice none 0 0),(.int .i64 0),(.int .i64 0)],false⟩:=rfl
@[simp] theorem tys111:Tys 111=some ⟨.struct [(0,44,1),(1,25,2)],3,40,[(.slice none 0 0),(.int .i64 0),(.int .i64 0)],false⟩:=rfl
@[simp] theorem tys112:Tys 112=some ⟨.slice 111,1,24,[(.slice none 0 0)],false⟩:=rfl
@[simp] theorem tys117:Tys 117=some ⟨.pointer 51,1,8,[(.pointer none)],false⟩:=rfl
@[simp] theorem tys128:Tys 128=some ⟨.pointer 215,1,8,[(.pointer none)],false⟩:=rfl
@[simp] theorem tys137:Tys 137=some ⟨.array 8 4,8,8,[(.bool false),(.bool false),(.bool false),(.bool false),(.bool false),(.bool false),(.bool false),(.bool false)],false⟩:=rfl
@[simp] theorem tys145:Tys 145=some ⟨.pointer 77,1,8,[(.pointer none)],false⟩:=rfl
@[simp] theorem tys146:Tys 146=some ⟨.pointer 43,1,8,[(.pointer none)],false⟩:=rfl
@[simp] theorem tys148:Tys 148=some ⟨.struct [(0,3,1),(1,44,1)],2,32,[(.int .i64 0),(.slice none 0 0)],false⟩:=rfl
@[simp] theorem tys149:Tys 149=some ⟨.struct [(0,3,1),(1,44,1)],2,32,[(.int .i64 0),(.slice none 0 0)],false⟩:=rfl
@[simp] theorem tys153:Tys 153=some ⟨.pointer 3,1,8,[(.pointer none)],false⟩:=rfl
@[simp] theorem tys158:Tys 158=some ⟨.struct [(0,3,1),(1,3,1),(2,3,1)],3,24,[(.int .i64 0),(.int .i64 0),(.int .i64 0)],false⟩:=rfl
@[simp] theorem tys159:Tys 159=some ⟨.struct [(0,3,1),(1,3,1),(2,3,1)],3,24,[(.int .i64 0),(.int .i64 0),(.int .i64 0)],true⟩:=rfl
@[simp] theorem tys160:Tys 160=some ⟨.struct [(0,100,6),(6,159,3)],9,88,[(.int .i64 0),(.int .i64 0),(.int .i64 0),(.int .i64 0),(.int .i64 0),(.slice none 0 0),(.int .i64 0),(.int .i64 0),(.int .i64 0)],false⟩:=rfl
@[simp] theorem tys161:Tys 161=some ⟨.struct [(0,100,6),(6,159,3)],9,88,[(.int .i64 0),(.int .i64 0),(.int .i64 0),(.int .i64 0),(.int .i64 0),(.slice none 0 0),(.int .i64 0),(.int .i64 0),(.int .i64 0)],false⟩:=rfl
@[simp] theorem tys175:Tys 175=some ⟨.slice 181,1,24,[(.slice none 0 0)],false⟩:=rfl
@[simp] theorem tys176:Tys 176=some ⟨.struct [(0,3,1),(1,3,1),(2,43,1),(3,44,1),(4,175,1),(5,3,1)],6,96,[(.int .i64 0),(.int .i64 0),(.slice none 0 0),(.slice none 0 0),(.slice none 0 0),(.int .i64 0)],false⟩:=rfl
@[simp] theorem tys177:Tys 177=some ⟨.struct [(0,3,1),(1,3,1),(2,43,1),(3,44,1),(4,175,1),(5,3,1)],6,96,[(.int .i64 0),(.int .i64 0),(.slice none 0 0),(.slice none 0 0),(.slice none 0 0),(.int .i64 0)],false⟩:=rfl
@[simp] theorem tys178:Tys 178=some ⟨.struct [(0,3,1),(1,3,1),(2,3,1),(3,48,6)],9,136,[(.int .i64 0),(.int .i64 0),(.int .i64 0),(.int .i64 0),(.int .i64 0),(.slice none 0 0),(.slice none 0 0),(.slice none 0 0),(.slice none 0 0)],false⟩:=rfl
@[simp] theorem tys179:Tys 179=some ⟨.struct [(0,3,1),(1,3,1),(2,3,1),(3,48,6)],9,136,[(.int .i64 0),(.int .i64 0),(.int .i64 0),(.int .i64 0),(.int .i64 0),(.slice none 0 0),(.slice none 0 0),(.slice none 0 0),(.slice none 0 0)],false⟩:=rfl
@[simp] theorem tys180:Tys 180=some ⟨.struct [(0,3,1),(1,3,1),(2,3,1),(3,3,1)],4,32,[(.int .i64 0),(.int .i64 0),(.int .i64 0),(.int .i64 0)],false⟩:=rfl
@[simp] theorem tys181:Tys 181=some ⟨.struct [(0,3,1),(1,3,1),(2,3,1),(3,3,1)],4,32,[(.int .i64 0),(.int .i64 0),(.int .i64 0),(.int .i64 0)],true⟩:=rfl
@[simp] theorem tys187:Tys 187=some ⟨.pointer 263,1,8,[(.pointer none)],false⟩:=rfl
@[simp] theorem tys189:Tys 189=some ⟨.struct [(0,23,1),(1,187,1)],2,32,[(.slice none 0 0),(.pointer none)],false⟩:=rfl
@[simp] theorem tys190:Tys 190=some ⟨.struct [(0,23,1),(1,187,1)],2,32,[(.slice none 0 0),(.pointer none)],false⟩:=rfl
@[simp] theorem tys193:Tys 193=some ⟨.slice 25,1,24,[(.slice none 0 0)],false⟩:=rfl
@[simp] theorem tys214:Tys 214=some ⟨.struct [(0,22,1),(1,3,1)],2,32,[(.slice none 0 0),(.int .i64 0)],false⟩:=rfl
@[simp] theorem tys215:Tys 215=some ⟨.struct [(0,22,1),(1,3,1)],2,32,[(.slice none 0 0),(.int .i64 0)],false⟩:=rfl
@[simp] theorem tys239:Tys 239=some ⟨.int .u64,1,8,[(.int .u64 0)],false⟩:=rfl
@[simp] theorem tys247:Tys 247=some ⟨.slice 319,1,24,[(.slice none 0 0)],false⟩:=rfl
@[simp] theorem tys255:Tys 255=some ⟨.struct [(0,44,1),(1,25,2)],3,40,[(.slice none 0 0),(.int .i64 0),(.int .i64 0)],false⟩:=rfl
@[simp] theorem tys256:Tys 256=some ⟨.struct [(0,44,1),(1,25,2)],3,40,[(.slice none 0 0),(.int .i64 0),(.int .i64 0)],false⟩:=rfl
@[simp] theorem tys257:Tys 257=some ⟨.slice 256,1,24,[(.slice none 0 0)],false⟩:=rfl
@[simp] theorem tys258:Tys 258=some ⟨.slice 322,1,24,[(.slice none 0 0)],false⟩:=rfl
@[simp] theorem tys261:Tys 261=some ⟨.array 4 3,4,32,[(.int .i64 0),(.int .i64 0),(.int .i64 0),(.int .i64 0)],false⟩:=rfl
@[simp] theorem tys262:Tys 262=some ⟨.array 4 261,16,128,[(.int .i64 0),(.int .i64 0),(.int .i64 0),(.int .i64 0),(.int .i64 0),(.int .i64 0),(.int .i64 0),(.int .i64 0),(.int .i64 0),(.int .i64 0),(.int .i64 0),(.int .i64 0),(.int .i64 0),(.int .i64 0),(.int .i64 0),(.int .i64 0)],false⟩:=rfl
@[simp] theorem tys263:Tys 263=some ⟨.array 4 261,16,128,[(.int .i64 0),(.int .i64 0),(.int .i64 0),(.int .i64 0),(.int .i64 0),(.int .i64 0),(.int .i64 0),(.int .i64 0),(.int .i64 0),(.int .i64 0),(.int .i64 0),(.int .i64 0),(.int .i64 0),(.int .i64 0),(.int .i64 0),(.int .i64 0)],false⟩:=rfl
@[simp] theorem tys268:Tys 268=some ⟨.array 11 4,11,11,[(.bool false),(.bool false),(.bool false),(.bool false),(.bool false),(.bool false),(.bool false),(.bool false),(.bool false),(.bool false),(.bool false)],false⟩:=rfl
@[simp] theorem tys269:Tys 269=some ⟨.struct [(0,9,1),(1,193,1),(2,3,1)],3,48,[(.string .empty),(.slice none 0 0),(.int .i64 0)],false⟩:=rfl
@[simp] theorem tys270:Tys 270=some ⟨.struct [(0,9,1),(1,193,1),(2,3,1)],3,48,[(.string .empty),(.slice none 0 0),(.int .i64 0)],false⟩:=rfl
@[simp] theorem tys271:Tys 271=some ⟨.slice 270,1,24,[(.slice none 0 0)],false⟩:=rfl
@[simp] theorem tys272:Tys 272=some ⟨.struct [(0,9,1),(1,271,1)],2,40,[(.string .empty),(.slice none 0 0)],false⟩:=rfl
@[simp] theorem tys273:Tys 273=some ⟨.struct [(0,9,1),(1,271,1)],2,40,[(.string .empty),(.slice none 0 0)],false⟩:=rfl
@[simp] theorem tys274:Tys 274=some ⟨.slice 112,1,24,[(.slice none 0 0)],false⟩:=rfl
@[simp] theorem tys294:Tys 294=some ⟨.map 9 4,1,8,[(.map none)],false⟩:=rfl
@[simp] theorem tys302:Tys 302=some ⟨.int .i64,1,8,[(.int .i64 0)],false⟩:=rfl
@[simp] theorem tys309:Tys 309=some ⟨.int .u32,1,4,[(.int .u32 0)],false⟩:=rfl
@[simp] theorem tys311:Tys 311=some ⟨.int .u64,1,8,[(.int .u64 0)],false⟩:=rfl
@[simp] theorem tys318:Tys 318=some ⟨.struct [(0,3,1),(1,25,2)],3,24,[(.int .i64 0),(.int .i64 0),(.int .i64 0)],false⟩:=rfl
@[simp] theorem tys319:Tys 319=some ⟨.struct [(0,3,1),(1,25,2)],3,24,[(.int .i64 0),(.int .i64 0),(.int .i64 0)],true⟩:=rfl
@[simp] theorem tys321:Tys 321=some ⟨.struct [(0,3,1),(1,98,1),(2,43,1)],3,56,[(.int .i64 0),(.slice none 0 0),(.slice none 0 0)],false⟩:=rfl
@[simp] theorem tys322:Tys 322=some ⟨.struct [(0,3,1),(1,98,1),(2,43,1)],3,56,[(.int .i64 0),(.slice none 0 0),(.slice none 0 0)],false⟩:=rfl
@[simp] theorem tys357:Tys 357=some ⟨.slice 9,1,24,[(.slice none 0 0)],false⟩:=rfl
@[simp] theorem tys362:Tys 362=some ⟨.int .u64,1,8,[(.int .u64 0)],false⟩:=rfl
@[simp] theorem tys368:Tys 368=some ⟨.array 6 4,6,6,[(.bool false),(.bool false),(.bool false),(.bool false),(.bool false),(.bool false)],false⟩:=rfl
@[simp] theorem tys390:Tys 390=some ⟨.pointer 362,1,8,[(.pointer none)],false⟩:=rfl
@[simp] theorem tys406:Tys 406=some ⟨.struct [(0,17,1),(1,17,1),(2,17,1),(3,9,1)],4,40,[(.pointer none),(.pointer none),(.pointer none),(.string .empty)],false⟩:=rfl
@[simp] theorem tys407:Tys 407=some ⟨.struct [(0,17,1),(1,17,1),(2,17,1),(3,9,1)],4,40,[(.pointer none),(.pointer none),(.pointer none),(.string .empty)],false⟩:=rfl
@[simp] theorem tys408:Tys 408=some ⟨.array 0 16,0,0,[],false⟩:=rfl
@[simp] theorem tys411:Tys 411=some ⟨.int .u8,1,1,[(.int .u8 0)],false⟩:=rfl
@[simp] theorem tys412:Tys 412=some ⟨.int .u8,1,1,[(.int .u8 0)],false⟩:=rfl
@[simp] theorem tys414:Tys 414=some ⟨.pointer 5,1,8,[(.pointer none)],false⟩:=rfl
@[simp] theorem tys415:Tys 415=some ⟨.int .i32,1,4,[(.int .i32 0)],false⟩:=rfl
@[simp] theorem tys416:Tys 416=some ⟨.int .i32,1,4,[(.int .i32 0)],false⟩:=rfl
theorem Z0h:Z27 Tryz.prog Tys:=fun t i h=>by
 unfold Tys at h
 split at h
 ·cases h;exact ty2
 ·cases h;exact ty3
 ·cases h;exact ty4
 ·cases h;exact ty5
 ·cases h;exact ty6
 ·cases h;exact ty7
 ·cases h;exact ty8
 ·cases h;exact ty9
 ·cases h;exact ty10
 ·cases h;exact ty11
 ·cases h;exact ty12
 ·cases h;exact ty13
 ·cases h;exact ty14
 ·cases h;exact ty15
 ·cases h;exact ty16
 ·cases h;exact ty17
 ·cases h;exact ty18
 ·cases h;exact ty19
 ·cases h;exact ty21
 ·cases h;exact ty22
 ·cases h;exact ty23
 ·cases h;exact ty24
 ·cases h;exact ty25
 ·cases h;exact ty26
 ·cases h;exact ty27
 ·cases h;exact ty28
 ·cases h;exact ty29
 ·cases h;exact ty32
 ·cases h;exact ty43
 ·cases h;exact ty44
 ·cases h;exact ty45
 ·cases h;exact ty46
 ·cases h;exact ty47
 ·cases h;exact ty48
 ·cases h;exact ty51
 ·cases h;exact ty57
 ·cases h;exact ty77
 ·cases h;exact ty81
 ·cases h;exact ty82
 ·cases h;exact ty86
 ·cases h;exact ty87
 ·cases h;exact ty94
 ·cases h;exact ty97
 ·cases h;exact ty98
 ·cases h;exact ty99
 ·cases h;exact Y8r
 ·cases h;exact Y8q
 ·cases h;exact Y8p
 ·cases h;exact Y8o
 ·cases h;exact Y8n
 ·cases h;exact Y8m
 ·cases h;exact Y8l
 ·cases h;exact Y8k
 ·cases h;exact Y8j
 ·cases h;exact Y8i
 ·cases h;exact Y8h
 ·cases h;exact Y8g
 ·cases h;exact Y8f
 ·cases h;exact Y8e
 ·cases h;exact Y8d
 ·cases h;exact Y8c
 ·cases h;exact Y8b
 ·cases h;exact Y8a
 ·cases h;exact Y89
 ·cases h;exact Y88
 ·cases h;exact Y87
 ·cases h;exact Y86
 ·cases h;exact Y85
 ·cases h;exact Y84
 ·cases h;exact Y83
 ·cases h;exact Y82
 ·cases h;exact Y81
 ·cases h;exact Y80
 ·cases h;exact Y7z
 ·cases h;exact Y7y
 ·cases h;exact Y7x
 ·cases h;exact Y7w
 ·cases h;exact Y7v
 ·cases h;exact Y7u
 ·cases h;exact Y7t
 ·cases h;exact Y7s
 ·cases h;exact Y7r
 ·cases h;exact Y7q
 ·cases h;exact Y7p
 ·cases h;exact Y7o
 ·cases h;exact Y7n
 ·cases h;exact Y7m
 ·cases h;exact Y7l
 ·cases h;exact Y7k
 ·cases h;exact Y7j
 ·cases h;exact Y7i
 ·cases h;exact Y7h
 ·cases h;exact Y7g
 ·cases h;exact Y7f
 ·cases h;exact Y7e
 ·cases h;exact Y7d
 ·cases h;exact Y7c
 ·cases h;exact Y7b
 ·cases h;exact Y7a
 ·cases h;exact Y79
 ·cases h;exact Y78
 ·cases h;exact Y77
 ·cases h;exact Y76
 ·cases h;exact Y75
 ·cases h;exact Y74
 ·cases h;exact Y73
 ·cases h;exact Y72
 ·cases h;exact Y71
 ·cases h;exact Y70
 ·cases h;exact Y6z
 ·cases h;exact Y6y
 ·cases h;exact Y6x
 ·cases h;exact Y6w
 ·cases h;exact Y6v
 ·cases h;exact Y6u
 ·cases h;exact Y6t
 ·cases h
theorem V4b:Tryz.prog.follows .mixedOrders=true:=rfl
end Go.Proofs.YtfhpjeogjcfkaaaGreat
