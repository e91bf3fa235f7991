import Derived.KernelRfl
import Derived.Test.YtfhpjeogjcfkaaaGreatProg
import Derived.Test.YtfhpjeogjcfkaaaGreatSJE1
set_option linter.unusedSimpArgs false
set_option linter.unusedVariables false
namespace Go.Proofs.YtfhpjeogjcfkaaaGreat
open Go Go.RowKit
def ti2:TyI:=⟨.int .i64,1,8,[(.int .i64 0)],false⟩
theorem ty2:TyOk Tryz.prog 2 ti2:=TyOk.of Tryz.underlying2 (show TK.ok _ (.int .i64) _ from rfl) (.int .i64 0) (by kernel_rfl) rfl rfl rfl rfl (by decide) (fun h=>by cases h)
def ti3:TyI:=⟨.int .i64,1,8,[(.int .i64 0)],false⟩
theorem ty3:TyOk Tryz.prog 3 ti3:=TyOk.of Tryz.underlying3 (show TK.ok _ (.int .i64) _ from rfl) (.int .i64 0) (by kernel_rfl) rfl rfl rfl rfl (by decide) (fun h=>by cases h)
def ti4:TyI:=⟨.bool,1,1,[(.bool false)],false⟩
theorem ty4:TyOk Tryz.prog 4 ti4:=TyOk.of Tryz.underlying4 (show TK.ok _ (.bool) _ from rfl) (.bool false) (by kernel_rfl) rfl rfl rfl rfl (by decide) (fun h=>by cases h)
def ti5:TyI:=⟨.int .u8,1,1,[(.int .u8 0)],false⟩
theorem ty5:TyOk Tryz.prog 5 ti5:=TyOk.of Tryz.underlying5 (show TK.ok _ (.int .u8) _ from rfl) (.int .u8 0) (by kernel_rfl) rfl rfl rfl rfl (by decide) (fun h=>by cases h)
def ti6:TyI:=⟨.int .u8,1,1,[(.int .u8 0)],false⟩
theorem ty6:TyOk Tryz.prog 6 ti6:=TyOk.of Tryz.underlying6 (show TK.ok _ (.int .u8) _ from rfl) (.int .u8 0) (by kernel_rfl) rfl rfl rfl rfl (by decide) (fun h=>by cases h)
def ti7:TyI:=⟨.struct [(0,2,1),(1,3,1),(2,4,1),(3,6,1)],4,24,[(.int .i64 0),(.int .i64 0),(.bool false),(.int .u8 0)],false⟩
theorem ty7:TyOk Tryz.prog 7 ti7:=TyOk.of Tryz.underlying7 (show TK.ok _ (.struct [(0,2,1),(1,3,1),(2,4,1),(3,6,1)]) _ from ⟨_,rfl,rfl,fun x hx=>by simp only [U8,List.not_mem_nil,or_false] at hx;rcases hx with rfl | rfl | rfl | rfl<;>exact ⟨by kernel_rfl,by decide⟩⟩) (.agg #[(.int .i64 0),(.int .i64 0),(.bool false),(.int .u8 0)]) (by kernel_rfl) rfl rfl rfl rfl (by decide) (fun h=>by cases h)
def ti8:TyI:=⟨.struct [(0,2,1),(1,3,1),(2,4,1),(3,6,1)],4,24,[(.int .i64 0),(.int .i64 0),(.bool false),(.int .u8 0)],false⟩
theorem ty8:TyOk Tryz.prog 8 ti8:=TyOk.of Tryz.underlying8 (show TK.ok _ (.struct [(0,2,1),(1,3,1),(2,4,1),(3,6,1)]) _ from ⟨_,rfl,rfl,fun x hx=>by simp only [U8,List.not_mem_nil,or_false] at hx;rcases hx with rfl | rfl | rfl | rfl<;>exact ⟨by kernel_rfl,by decide⟩⟩) (.agg #[(.int .i64 0),(.int .i64 0),(.bool false),(.int .u8 0)]) (by kernel_rfl) rfl rfl rfl rfl (by decide) (fun h=>by cases h)
def ti9:TyI:=⟨.string,1,16,[(.string .empty)],false⟩
theorem ty9:TyOk Tryz.prog 9 ti9:=TyOk.of Tryz.underlying9 (show TK.ok _ (.string) _ from rfl) (.string .empty) (by kernel_rfl) rfl rfl rfl rfl (by decide) (fun h=>by cases h)
def ti10:TyI:=⟨.string,1,16,[(.string .empty)],false⟩
theorem ty10:TyOk Tryz.prog 10 ti10:=TyOk.of Tryz.underlying10 (show TK.ok _ (.string) _ from rfl) (.string .empty) (by kernel_rfl) rfl rfl rfl rfl (by decide) (fun h=>by cases h)
def ti11:TyI:=⟨.string,1,16,[(.string .empty)],false⟩
theorem ty11:TyOk Tryz.prog 11 ti11:=TyOk.of Tryz.underlying11 (show TK.ok _ (.string) _ from rfl) (.string .empty) (by kernel_rfl) rfl rfl rfl rfl (by decide) (fun h=>by cases h)
def ti12:TyI:=⟨.int .u64,1,8,[(.int .u64 0)],false⟩
theorem ty12:TyOk Tryz.prog 12 ti12:=TyOk.of Tryz.underlying12 (show TK.ok _ (.int .u64) _ from rfl) (.int .u64 0) (by kernel_rfl) rfl rfl rfl rfl (by decide) (fun h=>by cases h)
def ti13:TyI:=⟨.struct [(0,9,1),(1,12,1)],2,24,[(.string .empty),(.int .u64 0)],false⟩
theorem ty13:TyOk Tryz.prog 13 ti13:=TyOk.of Tryz.underlying13 (show TK.ok _ (.struct [(0,9,1),(1,12,1)]) _ from ⟨_,rfl,rfl,fun x hx=>by simp only [U8,List.not_mem_nil,or_false] at hx;rcases hx with rfl | rfl<;>exact ⟨by kernel_rfl,by decide⟩⟩) (.agg #[(.string .empty),(.int .u64 0)]) (by kernel_rfl) rfl rfl rfl rfl (by decide) (fun h=>by cases h)
def ti14:TyI:=⟨.struct [(0,9,1),(1,12,1)],2,24,[(.string .empty),(.int .u64 0)],false⟩
theorem ty14:TyOk Tryz.prog 14 ti14:=TyOk.of Tryz.underlying14 (show TK.ok _ (.struct [(0,9,1),(1,12,1)]) _ from ⟨_,rfl,rfl,fun x hx=>by simp only [U8,List.not_mem_nil,or_false] at hx;rcases hx with rfl | rfl<;>exact ⟨by kernel_rfl,by decide⟩⟩) (.agg #[(.string .empty),(.int .u64 0)]) (by kernel_rfl) rfl rfl rfl rfl (by decide) (fun h=>by cases h)
def ti15:TyI:=⟨.pointer 407,1,8,[(.pointer none)],false⟩
theorem ty15:TyOk Tryz.prog 15 ti15:=TyOk.of Tryz.underlying15 (show TK.ok _ (.pointer 407) _ from rfl) (.pointer none) (by kernel_rfl) rfl rfl rfl rfl (by decide) (fun h=>by cases h)
def ti16:TyI:=⟨.pointer 410,1,8,[(.pointer none)],false⟩
theorem ty16:TyOk Tryz.prog 16 ti16:=TyOk.of Tryz.underlying16 (show TK.ok _ (.pointer 410) _ from rfl) (.pointer none) (by kernel_rfl) rfl rfl rfl rfl (by decide) (fun h=>by cases h)
def ti17:TyI:=⟨.pointer 418,1,8,[(.pointer none)],false⟩
theorem ty17:TyOk Tryz.prog 17 ti17:=TyOk.of Tryz.underlying17 (show TK.ok _ (.pointer 418) _ from rfl) (.pointer none) (by kernel_rfl) rfl rfl rfl rfl (by decide) (fun h=>by cases h)
def ti18:TyI:=⟨.struct [(0,17,1)],1,8,[(.pointer none)],false⟩
theorem ty18:TyOk Tryz.prog 18 ti18:=TyOk.of Tryz.underlying18 (show TK.ok _ (.struct [(0,17,1)]) _ from ⟨_,rfl,rfl,fun x hx=>by simp only [U8,List.not_mem_nil,or_false] at hx;rcases hx with rfl<;>exact ⟨by kernel_rfl,by decide⟩⟩) (.agg #[(.pointer none)]) (by kernel_rfl) rfl rfl rfl rfl (by decide) (fun h=>by cases h)
def ti19:TyI:=⟨.struct [(0,17,1)],1,8,[(.pointer none)],false⟩
theorem ty19:TyOk Tryz.prog 19 ti19:=TyOk.of Tryz.underlying19 (show TK.ok _ (.struct [(0,17,1)]) _ from ⟨_,rfl,rfl,fun x hx=>by simp only [U8,List.not_mem_nil,or_false] at hx;rcases hx with rfl<;>exact ⟨by kernel_rfl,by decide⟩⟩) (.agg #[(.pointer none)]) (by kernel_rfl) rfl rfl rfl rfl (by decide) (fun h=>by cases h)
def ti21:TyI:=⟨.int .i32,1,4,[(.int .i32 0)],false⟩
theorem ty21:TyOk Tryz.prog 21 ti21:=TyOk.of Tryz.underlying21 (show TK.ok _ (.int .i32) _ from rfl) (.int .i32 0) (by kernel_rfl) rfl rfl rfl rfl (by decide) (fun h=>by cases h)
def ti22:TyI:=⟨.slice 5,1,24,[(.slice none 0 0)],false⟩
theorem ty22:TyOk Tryz.prog 22 ti22:=TyOk.of Tryz.underlying22 (show TK.ok _ (.slice 5) _ from rfl) (.slice none 0 0) (by kernel_rfl) rfl rfl rfl rfl (by decide) (fun h=>by cases h)
def ti23:TyI:=⟨.slice 273,1,24,[(.slice none 0 0)],false⟩
theorem ty23:TyOk Tryz.prog 23 ti23:=TyOk.of Tryz.underlying23 (show TK.ok _ (.slice 273) _ from rfl) (.slice none 0 0) (by kernel_rfl) rfl rfl rfl rfl (by decide) (fun h=>by cases h)
def ti24:TyI:=⟨.struct [(0,3,1),(1,3,1)],2,16,[(.int .i64 0),(.int .i64 0)],false⟩
theorem ty24:TyOk Tryz.prog 24 ti24:=TyOk.of Tryz.underlying24 (show TK.ok _ (.struct [(0,3,1),(1,3,1)]) _ from ⟨_,rfl,rfl,fun x hx=>by simp only [U8,List.not_mem_nil,or_false] at hx;rcases hx with rfl | rfl<;>exact ⟨by kernel_rfl,by decide⟩⟩) (.agg #[(.int .i64 0),(.int .i64 0)]) (by kernel_rfl) rfl rfl rfl rfl (by decide) (fun h=>by cases h)
def ti25:TyI:=⟨.struct [(0,3,1),(1,3,1)],2,16,[(.int .i64 0),(.int .i64 0)],true⟩
theorem ty25:TyOk Tryz.prog 25 ti25:=TyOk.of Tryz.underlying25 (show TK.ok _ (.struct [(0,3,1),(1,3,1)]) _ from ⟨_,rfl,rfl,fun x hx=>by simp only [U8,List.not_mem_nil,or_false] at hx;rcases hx with rfl | rfl<;>exact ⟨by kernel_rfl,by decide⟩⟩) (.agg #[(.int .i64 0),(.int .i64 0)]) (by kernel_rfl) rfl rfl rfl rfl (by decide) (fun _ fs h=>by cases h;exact ⟨by kernel_rfl,by kernel_rfl,by kernel_rfl,by kernel_rfl⟩)
def ti26:TyI:=⟨.slice 161,1,24,[(.slice none 0 0)],false⟩
theorem ty26:TyOk Tryz.prog 26 ti26:=TyOk.of Tryz.underlying26 (show TK.ok _ (.slice 161) _ from rfl) (.slice none 0 0) (by kernel_rfl) rfl rfl rfl rfl (by decide) (fun h=>by cases h)
def ti27:TyI:=⟨.slice 29,1,24,[(.slice none 0 0)],false⟩
theorem ty27:TyOk Tryz.prog 27 ti27:=TyOk.of Tryz.underlying27 (show TK.ok _ (.slice 29) _ from rfl) (.slice none 0 0) (by kernel_rfl) rfl rfl rfl rfl (by decide) (fun h=>by cases h)
def ti28:TyI:=⟨.struct [(0,3,1),(1,3,1),(2,27,1)],3,40,[(.int .i64 0),(.int .i64 0),(.slice none 0 0)],false⟩
theorem ty28:TyOk Tryz.prog 28 ti28:=TyOk.of Tryz.underlying28 (show TK.ok _ (.struct [(0,3,1),(1,3,1),(2,27,1)]) _ from ⟨_,rfl,rfl,fun x hx=>by simp only [U8,List.not_mem_nil,or_false] at hx;rcases hx with rfl | rfl | rfl<;>exact ⟨by kernel_rfl,by decide⟩⟩) (.agg #[(.int .i64 0),(.int .i64 0),(.slice none 0 0)]) (by kernel_rfl) rfl rfl rfl rfl (by decide) (fun h=>by cases h)
def ti29:TyI:=⟨.struct [(0,3,1),(1,3,1),(2,27,1)],3,40,[(.int .i64 0),(.int .i64 0),(.slice none 0 0)],false⟩
theorem ty29:TyOk Tryz.prog 29 ti29:=TyOk.of Tryz.underlying29 (show TK.ok _ (.struct [(0,3,1),(1,3,1),(2,27,1)]) _ from ⟨_,rfl,rfl,fun x hx=>by simp only [U8,List.not_mem_nil,or_false] at hx;rcases hx with rfl | rfl | rfl<;>exact ⟨by kernel_rfl,by decide⟩⟩) (.agg #[(.int .i64 0),(.int .i64 0),(.slice none 0 0)]) (by kernel_rfl) rfl rfl rfl rfl (by decide) (fun h=>by cases h)
def ti32:TyI:=⟨.slice 87,1,24,[(.slice none 0 0)],false⟩
theorem ty32:TyOk Tryz.prog 32 ti32:=TyOk.of Tryz.underlying32 (show TK.ok _ (.slice 87) _ from rfl) (.slice none 0 0) (by kernel_rfl) rfl rfl rfl rfl (by decide) (fun h=>by cases h)
def ti43:TyI:=⟨.slice 149,1,24,[(.slice none 0 0)],false⟩
theorem ty43:TyOk Tryz.prog 43 ti43:=TyOk.of Tryz.underlying43 (show TK.ok _ (.slice 149) _ from rfl) (.slice none 0 0) (by kernel_rfl) rfl rfl rfl rfl (by decide) (fun h=>by cases h)
def ti44:TyI:=⟨.slice 3,1,24,[(.slice none 0 0)],false⟩
theorem ty44:TyOk Tryz.prog 44 ti44:=TyOk.of Tryz.underlying44 (show TK.ok _ (.slice 3) _ from rfl) (.slice none 0 0) (by kernel_rfl) rfl rfl rfl rfl (by decide) (fun h=>by cases h)
def ti45:TyI:=⟨.slice 179,1,24,[(.slice none 0 0)],false⟩
theorem ty45:TyOk Tryz.prog 45 ti45:=TyOk.of Tryz.underlying45 (show TK.ok _ (.slice 179) _ from rfl) (.slice none 0 0) (by kernel_rfl) rfl rfl rfl rfl (by decide) (fun h=>by cases h)
def ti46:TyI:=⟨.slice 48,1,24,[(.slice none 0 0)],false⟩
theorem ty46:TyOk Tryz.prog 46 ti46:=TyOk.of Tryz.underlying46 (show TK.ok _ (.slice 48) _ from rfl) (.slice none 0 0) (by kernel_rfl) rfl rfl rfl rfl (by decide) (fun h=>by cases h)
def ti47:TyI:=⟨.struct [(0,3,1),(1,3,1),(2,43,1),(3,44,1),(4,45,1),(5,46,1)],6,112,[(.int .i64 0),(.int .i64 0),(.slice none 0 0),(.slice none 0 0),(.slice none 0 0),(.slice none 0 0)],false⟩
theorem ty47:TyOk Tryz.prog 47 ti47:=TyOk.of Tryz.underlying47 (show TK.ok _ (.struct [(0,3,1),(1,3,1),(2,43,1),(3,44,1),(4,45,1),(5,46,1)]) _ from ⟨_,rfl,rfl,fun x hx=>by simp only [U8,List.not_mem_nil,or_false] at hx;rcases hx with rfl | rfl | rfl | rfl | rfl | rfl<;>exact ⟨by kernel_rfl,by decide⟩⟩) (.agg #[(.int .i64 0),(.int .i64 0),(.slice none 0 0),(.slice none 0 0),(.slice none 0 0),(.slice none 0 0)]) (by kernel_rfl) rfl rfl rfl rfl (by decide) (fun h=>by cases h)
def ti48:TyI:=⟨.struct [(0,3,1),(1,3,1),(2,43,1),(3,44,1),(4,45,1),(5,46,1)],6,112,[(.int .i64 0),(.int .i64 0),(.slice none 0 0),(.slice none 0 0),(.slice none 0 0),(.slice none 0 0)],false⟩
theorem ty48:TyOk Tryz.prog 48 ti48:=TyOk.of Tryz.underlying48 (show TK.ok _ (.struct [(0,3,1),(1,3,1),(2,43,1),(3,44,1),(4,45,1),(5,46,1)]) _ from ⟨_,rfl,rfl,fun x hx=>by simp only [U8,List.not_mem_nil,or_false] at hx;rcases hx with rfl | rfl | rfl | rfl | rfl | rfl<;>exact ⟨by kernel_rfl,by decide⟩⟩) (.agg #[(.int .i64 0),(.int .i64 0),(.slice none 0 0),(.slice none 0 0),(.slice none 0 0),(.slice none 0 0)]) (by kernel_rfl) rfl rfl rfl rfl (by decide) (fun h=>by cases h)
def ti51:TyI:=⟨.slice 177,1,24,[(.slice none 0 0)],false⟩
theorem ty51:TyOk Tryz.prog 51 ti51:=TyOk.of Tryz.underlying51 (show TK.ok _ (.slice 177) _ from rfl) (.slice none 0 0) (by kernel_rfl) rfl rfl rfl rfl (by decide) (fun h=>by cases h)
def ti57:TyI:=⟨.slice 44,1,24,[(.slice none 0 0)],false⟩
theorem ty57:TyOk Tryz.prog 57 ti57:=TyOk.of Tryz.underlying57 (show TK.ok _ (.slice 44) _ from rfl) (.slice none 0 0) (by kernel_rfl) rfl rfl rfl rfl (by decide) (fun h=>by cases h)
def ti77:TyI:=⟨.slice 82,1,24,[(.slice none 0 0)],false⟩
theorem ty77:TyOk Tryz.prog 77 ti77:=TyOk.of Tryz.underlying77 (show TK.ok _ (.slice 82) _ from rfl) (.slice none 0 0) (by kernel_rfl) rfl rfl rfl rfl (by decide) (fun h=>by cases h)
def ti81:TyI:=⟨.struct [(0,3,1),(1,44,1),(2,3,1),(3,3,1),(4,3,1),(5,3,1),(6,43,1),(7,3,1)],8,96,[(.int .i64 0),(.slice none 0 0),(.int .i64 0),(.int .i64 0),(.int .i64 0),(.int .i64 0),(.slice none 0 0),(.int .i64 0)],false⟩
theorem ty81:TyOk Tryz.prog 81 ti81:=TyOk.of Tryz.underlying81 (show TK.ok _ (.struct [(0,3,1),(1,44,1),(2,3,1),(3,3,1),(4,3,1),(5,3,1),(6,43,1),(7,3,1)]) _ from ⟨_,rfl,rfl,fun x hx=>by simp only [U8,List.not_mem_nil,or_false] at hx;rcases hx with rfl | rfl | rfl | rfl | rfl | rfl | rfl | rfl<;>exact ⟨by kernel_rfl,by decide⟩⟩) (.agg #[(.int .i64 0),(.slice none 0 0),(.int .i64 0),(.int .i64 0),(.int .i64 0),(.int .i64 0),(.slice none 0 0),(.int .i64 0)]) (by kernel_rfl) rfl rfl rfl rfl (by decide) (fun h=>by cases h)
def ti82:TyI:=⟨.struct [(0,3,1),(1,44,1),(2,3,1),(3,3,1),(4,3,1),(5,3,1),(6,43,1),(7,3,1)],8,96,[(.int .i64 0),(.slice none 0 0),(.int .i64 0),(.int .i64 0),(.int .i64 0),(.int .i64 0),(.slice none 0 0),(.int .i64 0)],false⟩
theorem ty82:TyOk Tryz.prog 82 ti82:=TyOk.of Tryz.underlying82 (show TK.ok _ (.struct [(0,3,1),(1,44,1),(2,3,1),(3,3,1),(4,3,1),(5,3,1),(6,43,1),(7,3,1)]) _ from ⟨_,rfl,rfl,fun x hx=>by simp only [U8,List.not_mem_nil,or_false] at hx;rcases hx with rfl | rfl | rfl | rfl | rfl | rfl | rfl | rfl<;>exact ⟨by kernel_rfl,by decide⟩⟩) (.agg #[(.int .i64 0),(.slice none 0 0),(.int .i64 0),(.int .i64 0),(.int .i64 0),(.int .i64 0),(.slice none 0 0),(.int .i64 0)]) (by kernel_rfl) rfl rfl rfl rfl (by decide) (fun h=>by cases h)
def ti86:TyI:=⟨.struct [(0,3,1),(1,29,3)],4,48,[(.int .i64 0),(.int .i64 0),(.int .i64 0),(.slice none 0 0)],false⟩
theorem ty86:TyOk Tryz.prog 86 ti86:=TyOk.of Tryz.underlying86 (show TK.ok _ (.struct [(0,3,1),(1,29,3)]) _ from ⟨_,rfl,rfl,fun x hx=>by simp only [U8,List.not_mem_nil,or_false] at hx;rcases hx with rfl | rfl<;>exact ⟨by kernel_rfl,by decide⟩⟩) (.agg #[(.int .i64 0),(.int .i64 0),(.int .i64 0),(.slice none 0 0)]) (by kernel_rfl) rfl rfl rfl rfl (by decide) (fun h=>by cases h)
def ti87:TyI:=⟨.struct [(0,3,1),(1,29,3)],4,48,[(.int .i64 0),(.int .i64 0),(.int .i64 0),(.slice none 0 0)],false⟩
theorem ty87:TyOk Tryz.prog 87 ti87:=TyOk.of Tryz.underlying87 (show TK.ok _ (.struct [(0,3,1),(1,29,3)]) _ from ⟨_,rfl,rfl,fun x hx=>by simp only [U8,List.not_mem_nil,or_false] at hx;rcases hx with rfl | rfl<;>exact ⟨by kernel_rfl,by decide⟩⟩) (.agg #[(.int .i64 0),(.int .i64 0),(.int .i64 0),(.slice none 0 0)]) (by kernel_rfl) rfl rfl rfl rfl (by decide) (fun h=>by cases h)
def ti94:TyI:=⟨.slice 98,1,24,[(.slice none 0 0)],false⟩
theorem ty94:TyOk Tryz.prog 94 ti94:=TyOk.of Tryz.underlying94 (show TK.ok _ (.slice 98) _ from rfl) (.slice none 0 0) (by kernel_rfl) rfl rfl rfl rfl (by decide) (fun h=>by cases h)
def ti97:TyI:=⟨.slice 102,1,24,[(.slice none 0 0)],false⟩
theorem ty97:TyOk Tryz.prog 97 ti97:=TyOk.of Tryz.underlying97 (show TK.ok _ (.slice 102) _ from rfl) (.slice none 0 0) (by kernel_rfl) rfl rfl rfl rfl (by decide) (fun h=>by cases h)
def ti98:TyI:=⟨.slice 100,1,24,[(.slice none 0 0)],false⟩
theorem ty98:TyOk Tryz.prog 98 ti98:=TyOk.of Tryz.underlying98 (show TK.ok _ (.slice 100) _ from rfl) (.slice none 0 0) (by kernel_rfl) rfl rfl rfl rfl (by decide) (fun h=>by cases h)
def ti99:TyI:=⟨.struct [(0,3,1),(1,3,1),(2,3,1),(3,3,1),(4,3,1),(5,98,1)],6,64,[(.int .i64 0),(.int .i64 0),(.int .i64 0),(.int .i64 0),(.int .i64 0),(.slice none 0 0)],false⟩
theorem ty99:TyOk Tryz.prog 99 ti99:=TyOk.of Tryz.underlying99 (show TK.ok _ (.struct [(0,3,1),(1,3,1),(2,3,1),(3,3,1),(4,3,1),(5,98,1)]) _ from ⟨_,rfl,rfl,fun x hx=>by simp only [U8,List.not_mem_nil,or_false] at hx;rcases hx with rfl | rfl | rfl | rfl | rfl | rfl<;>exact ⟨by kernel_rfl,by decide⟩⟩) (.agg #[(.int .i64 0),(.int .i64 0),(.int .i64 0),(.int .i64 0),(.int .i64 0),(.slice none 0 0)]) (by kernel_rfl) rfl rfl rfl rfl (by decide) (fun h=>by cases h)
def V6e:TyI:=⟨.struct [(0,3,1),(1,3,1),(2,3,1),(3,3,1),(4,3,1),(5,98,1)],6,64,[(.int .i64 0),(.int .i64 0),(.int .i64 0),(.int .i64 0),(.int .i64 0),(.slice none 0 0)],false⟩
theorem Y1s:TyOk Tryz.prog 100 V6e:=TyOk.of Tryz.underlying100 (show TK.ok _ (.struct [(0,3,1),(1,3,1),(2,3,1),(3,3,1),(4,3,1),(5,98,1)]) _ from ⟨_,rfl,rfl,fun x hx=>by simp only [U8,List.not_mem_nil,or_false] at hx;rcases hx with rfl | rfl | rfl | rfl | rfl | rfl<;>exact ⟨by kernel_rfl,by decide⟩⟩) (.agg #[(.int .i64 0),(.int .i64 0),(.int .i64 0),(.int .i64 0),(.int .i64 0),(.slice none 0 0)]) (by kernel_rfl) rfl rfl rfl rfl (by decide) (fun h=>by cases h)
def V6d:TyI:=⟨.struct [(0,3,1),(1,98,1),(2,43,1)],3,56,[(.int .i64 0),(.slice none 0 0),(.slice none 0 0)],false⟩
theorem Y1r:TyOk Tryz.prog 101 V6d:=TyOk.of Tryz.underlying101 (show TK.ok _ (.struct [(0,3,1),(1,98,1),(2,43,1)]) _ from ⟨_,rfl,rfl,fun x hx=>by simp only [U8,List.not_mem_nil,or_false] at hx;rcases hx with rfl | rfl | rfl<;>exact ⟨by kernel_rfl,by decide⟩⟩) (.agg #[(.int .i64 0),(.slice none 0 0),(.slice none 0 0)]) (by kernel_rfl) rfl rfl rfl rfl (by decide) (fun h=>by cases h)
def V6c:TyI:=⟨.struct [(0,3,1),(1,98,1),(2,43,1)],3,56,[(.int .i64 0),(.slice none 0 0),(.slice none 0 0)],false⟩
theorem Y1q:TyOk Tryz.prog 102 V6c:=TyOk.of Tryz.underlying102 (show TK.ok _ (.struct [(0,3,1),(1,98,1),(2,43,1)]) _ from ⟨_,rfl,rfl,fun x hx=>by simp only [U8,List.not_mem_nil,or_false] at hx;rcases hx with rfl | rfl | rfl<;>exact ⟨by kernel_rfl,by decide⟩⟩) (.agg #[(.int .i64 0),(.slice none 0 0),(.slice none 0 0)]) (by kernel_rfl) rfl rfl rfl rfl (by decide) (fun h=>by cases h)
def V6b:TyI:=⟨.pointer 108,1,8,[(.pointer none)],false⟩
theorem Y1p:TyOk Tryz.prog 104 V6b:=TyOk.of Tryz.underlying104 (show TK.ok _ (.pointer 108) _ from rfl) (.pointer none) (by kernel_rfl) rfl rfl rfl rfl (by decide) (fun h=>by cases h)
def V6a:TyI:=⟨.pointer 190,1,8,[(.pointer none)],false⟩
theorem Y1o:TyOk Tryz.prog 105 V6a:=TyOk.of Tryz.underlying105 (show TK.ok _ (.pointer 190) _ from rfl) (.pointer none) (by kernel_rfl) rfl rfl rfl rfl (by decide) (fun h=>by cases h)
def V69:TyI:=⟨.struct [(0,105,1),(1,26,1),(2,3,1),(3,3,1)],4,48,[(.pointer none),(.slice none 0 0),(.int .i64 0),(.int .i64 0)],false⟩
theorem Y1n:TyOk Tryz.prog 107 V69:=TyOk.of Tryz.underlying107 (show TK.ok _ (.struct [(0,105,1),(1,26,1),(2,3,1),(3,3,1)]) _ from ⟨_,rfl,rfl,fun x hx=>by simp only [U8,List.not_mem_nil,or_false] at hx;rcases hx with rfl | rfl | rfl | rfl<;>exact ⟨by kernel_rfl,by decide⟩⟩) (.agg #[(.pointer none),(.slice none 0 0),(.int .i64 0),(.int .i64 0)]) (by kernel_rfl) rfl rfl rfl rfl (by decide) (fun h=>by cases h)
def V68:TyI:=⟨.struct [(0,105,1),(1,26,1),(2,3,1),(3,3,1)],4,48,[(.pointer none),(.slice none 0 0),(.int .i64 0),(.int .i64 0)],false⟩
theorem Y1m:TyOk Tryz.prog 108 V68:=TyOk.of Tryz.underlying108 (show TK.ok _ (.struct [(0,105,1),(1,26,1),(2,3,1),(3,3,1)]) _ from ⟨_,rfl,rfl,fun x hx=>by simp only [U8,List.not_mem_nil,or_false] at hx;rcases hx with rfl | rfl | rfl | rfl<;>exact ⟨by kernel_rfl,by decide⟩⟩) (.agg #[(.pointer none),(.slice none 0 0),(.int .i64 0),(.int .i64 0)]) (by kernel_rfl) rfl rfl rfl rfl (by decide) (fun h=>by cases h)
def V67:TyI:=⟨.struct [(0,44,1),(1,25,2)],3,40,[(.slice none 0 0),(.int .i64 0),(.int .i64 0)],false⟩
theorem Y1l:TyOk Tryz.prog 110 V67:=TyOk.of Tryz.underlying110 (show TK.ok _ (.struct [(0,44,1),(1,25,2)]) _ from ⟨_,rfl,rfl,fun x hx=>by simp only [U8,List.not_mem_nil,or_false] at hx;rcases hx with rfl | rfl<;>exact ⟨by kernel_rfl,by decide⟩⟩) (.agg #[(.slice none 0 0),(.int .i64 0),(.int .i64 0)]) (by kernel_rfl) rfl rfl rfl rfl (by decide) (fun h=>by cases h)
def V66:TyI:=⟨.struct [(0,44,1),(1,25,2)],3,40,[(.slice none 0 0),(.int .i64 0),(.int .i64 0)],false⟩
theorem Y1k:TyOk Tryz.prog 111 V66:=TyOk.of Tryz.underlying111 (show TK.ok _ (.struct [(0,44,1),(1,25,2)]) _ from ⟨_,rfl,rfl,fun x hx=>by simp only [U8,List.not_mem_nil,or_false] at hx;rcases hx with rfl | rfl<;>exact ⟨by kernel_rfl,by decide⟩⟩) (.agg #[(.slice none 0 0),(.int .i64 0),(.int .i64 0)]) (by kernel_rfl) rfl rfl rfl rfl (by decide) (fun h=>by cases h)
def V65:TyI:=⟨.slice 111,1,24,[(.slice none 0 0)],false⟩
theorem Y1j:TyOk Tryz.prog 112 V65:=TyOk.of Tryz.underlying112 (show TK.ok _ (.slice 111) _ from rfl) (.slice none 0 0) (by kernel_rfl) rfl rfl rfl rfl (by decide) (fun h=>by cases h)
def V64:TyI:=⟨.pointer 51,1,8,[(.pointer none)],false⟩
theorem Y1i:TyOk Tryz.prog 117 V64:=TyOk.of Tryz.underlying117 (show TK.ok _ (.pointer 51) _ from rfl) (.pointer none) (by kernel_rfl) rfl rfl rfl rfl (by decide) (fun h=>by cases h)
def V63:TyI:=⟨.pointer 215,1,8,[(.pointer none)],false⟩
theorem Y1h:TyOk Tryz.prog 128 V63:=TyOk.of Tryz.underlying128 (show TK.ok _ (.pointer 215) _ from rfl) (.pointer none) (by kernel_rfl) rfl rfl rfl rfl (by decide) (fun h=>by cases h)
def V62:TyI:=⟨.array 8 4,8,8,[(.bool false),(.bool false),(.bool false),(.bool false),(.bool false),(.bool false),(.bool false),(.bool false)],false⟩
theorem Y1g:TyOk Tryz.prog 137 V62:=TyOk.of Tryz.underlying137 (show TK.ok _ (.array 8 4) _ from rfl) (.agg #[(.bool false),(.bool false),(.bool false),(.bool false),(.bool false),(.bool false),(.bool false),(.bool false)]) (by kernel_rfl) rfl rfl rfl rfl (by decide) (fun h=>by cases h)
def V61:TyI:=⟨.pointer 77,1,8,[(.pointer none)],false⟩
theorem Y1f:TyOk Tryz.prog 145 V61:=TyOk.of Tryz.underlying145 (show TK.ok _ (.pointer 77) _ from rfl) (.pointer none) (by kernel_rfl) rfl rfl rfl rfl (by decide) (fun h=>by cases h)
def V60:TyI:=⟨.pointer 43,1,8,[(.pointer none)],false⟩
theorem Y1e:TyOk Tryz.prog 146 V60:=TyOk.of Tryz.underlying146 (show TK.ok _ (.pointer 43) _ from rfl) (.pointer none) (by kernel_rfl) rfl rfl rfl rfl (by decide) (fun h=>by cases h)
def V5z:TyI:=⟨.struct [(0,3,1),(1,44,1)],2,32,[(.int .i64 0),(.slice none 0 0)],false⟩
theorem Y1d:TyOk Tryz.prog 148 V5z:=TyOk.of Tryz.underlying148 (show TK.ok _ (.struct [(0,3,1),(1,44,1)]) _ from ⟨_,rfl,rfl,fun x hx=>by simp only [U8,List.not_mem_nil,or_false] at hx;rcases hx with rfl | rfl<;>exact ⟨by kernel_rfl,by decide⟩⟩) (.agg #[(.int .i64 0),(.slice none 0 0)]) (by kernel_rfl) rfl rfl rfl rfl (by decide) (fun h=>by cases h)
def V5y:TyI:=⟨.struct [(0,3,1),(1,44,1)],2,32,[(.int .i64 0),(.slice none 0 0)],false⟩
theorem Y1c:TyOk Tryz.prog 149 V5y:=TyOk.of Tryz.underlying149 (show TK.ok _ (.struct [(0,3,1),(1,44,1)]) _ from ⟨_,rfl,rfl,fun x hx=>by simp only [U8,List.not_mem_nil,or_false] at hx;rcases hx with rfl | rfl<;>exact ⟨by kernel_rfl,by decide⟩⟩) (.agg #[(.int .i64 0),(.slice none 0 0)]) (by kernel_rfl) rfl rfl rfl rfl (by decide) (fun h=>by cases h)
def V5x:TyI:=⟨.pointer 3,1,8,[(.pointer none)],false⟩
theorem Y1b:TyOk Tryz.prog 153 V5x:=TyOk.of Tryz.underlying153 (show TK.ok _ (.pointer 3) _ from rfl) (.pointer none) (by kernel_rfl) rfl rfl rfl rfl (by decide) (fun h=>by cases h)
def V5w:TyI:=⟨.struct [(0,3,1),(1,3,1),(2,3,1)],3,24,[(.int .i64 0),(.int .i64 0),(.int .i64 0)],false⟩
theorem Y1a:TyOk Tryz.prog 158 V5w:=TyOk.of Tryz.underlying158 (show TK.ok _ (.struct [(0,3,1),(1,3,1),(2,3,1)]) _ from ⟨_,rfl,rfl,fun x hx=>by simp only [U8,List.not_mem_nil,or_false] at hx;rcases hx with rfl | rfl | rfl<;>exact ⟨by kernel_rfl,by decide⟩⟩) (.agg #[(.int .i64 0),(.int .i64 0),(.int .i64 0)]) (by kernel_rfl) rfl rfl rfl rfl (by decide) (fun h=>by cases h)
def V5v:TyI:=⟨.struct [(0,3,1),(1,3,1),(2,3,1)],3,24,[(.int .i64 0),(.int .i64 0),(.int .i64 0)],true⟩
theorem Y19:TyOk Tryz.prog 159 V5v:=TyOk.of Tryz.underlying159 (show TK.ok _ (.struct [(0,3,1),(1,3,1),(2,3,1)]) _ from ⟨_,rfl,rfl,fun x hx=>by simp only [U8,List.not_mem_nil,or_false] at hx;rcases hx with rfl | rfl | rfl<;>exact ⟨by kernel_rfl,by decide⟩⟩) (.agg #[(.int .i64 0),(.int .i64 0),(.int .i64 0)]) (by kernel_rfl) rfl rfl rfl rfl (by decide) (fun _ fs h=>by cases h;exact ⟨by kernel_rfl,by kernel_rfl,by kernel_rfl,by kernel_rfl⟩)
def V5u:TyI:=⟨.struct [(0,100,6),(6,159,3)],9,88,[(.int .i64 0),(.int .i64 0),(.int .i64 0),(.int .i64 0),(.int .i64 0),(.slice none 0 0),(.int .i64 0),(.int .i64 0),(.int .i64 0)],false⟩
theorem Y18:TyOk Tryz.prog 160 V5u:=TyOk.of Tryz.underlying160 (show TK.ok _ (.struct [(0,100,6),(6,159,3)]) _ from ⟨_,rfl,rfl,fun x hx=>by simp only [U8,List.not_mem_nil,or_false] at hx;rcases hx with rfl | rfl<;>exact ⟨by kernel_rfl,by decide⟩⟩) (.agg #[(.int .i64 0),(.int .i64 0),(.int .i64 0),(.int .i64 0),(.int .i64 0),(.slice none 0 0),(.int .i64 0),(.int .i64 0),(.int .i64 0)]) (by kernel_rfl) rfl rfl rfl rfl (by decide) (fun h=>by cases h)
def V5t:TyI:=⟨.struct [(0,100,6),(6,159,3)],9,88,[(.int .i64 0),(.int .i64 0),(.int .i64 0),(.int .i64 0),(.int .i64 0),(.slice none 0 0),(.int .i64 0),(.int .i64 0),(.int .i64 0)],false⟩
theorem Y17:TyOk Tryz.prog 161 V5t:=TyOk.of Tryz.underlying161 (show TK.ok _ (.struct [(0,100,6),(6,159,3)]) _ from ⟨_,rfl,rfl,fun x hx=>by simp only [U8,List.not_mem_nil,or_false] at hx;rcases hx with rfl | rfl<;>exact ⟨by kernel_rfl,by decide⟩⟩) (.agg #[(.int .i64 0),(.int .i64 0),(.int .i64 0),(.int .i64 0),(.int .i64 0),(.slice none 0 0),(.int .i64 0),(.int .i64 0),(.int .i64 0)]) (by kernel_rfl) rfl rfl rfl rfl (by decide) (fun h=>by cases h)
def V5s:TyI:=⟨.slice 181,1,24,[(.slice none 0 0)],false⟩
theorem Y16:TyOk Tryz.prog 175 V5s:=TyOk.of Tryz.underlying175 (show TK.ok _ (.slice 181) _ from rfl) (.slice none 0 0) (by kernel_rfl) rfl rfl rfl rfl (by decide) (fun h=>by cases h)
def V5r:TyI:=⟨.struct [(0,3,1),(1,3,1),(2,43,1),(3,44,1),(4,175,1),(5,3,1)],6,96,[(.int .i64 0),(.int .i64 0),(.slice none 0 0),(.slice none 0 0),(.slice none 0 0),(.int .i64 0)],false⟩
theorem Y15:TyOk Tryz.prog 176 V5r:=TyOk.of Tryz.underlying176 (show TK.ok _ (.struct [(0,3,1),(1,3,1),(2,43,1),(3,44,1),(4,175,1),(5,3,1)]) _ from ⟨_,rfl,rfl,fun x hx=>by simp only [U8,List.not_mem_nil,or_false] at hx;rcases hx with rfl | rfl | rfl | rfl | rfl | rfl<;>exact ⟨by kernel_rfl,by decide⟩⟩) (.agg #[(.int .i64 0),(.int .i64 0),(.slice none 0 0),(.slice none 0 0),(.slice none 0 0),(.int .i64 0)]) (by kernel_rfl) rfl rfl rfl rfl (by decide) (fun h=>by cases h)
def V5q:TyI:=⟨.struct [(0,3,1),(1,3,1),(2,43,1),(3,44,1),(4,175,1),(5,3,1)],6,96,[(.int .i64 0),(.int .i64 0),(.slice none 0 0),(.slice none 0 0),(.slice none 0 0),(.int .i64 0)],false⟩
theorem Y14:TyOk Tryz.prog 177 V5q:=TyOk.of Tryz.underlying177 (show TK.ok _ (.struct [(0,3,1),(1,3,1),(2,43,1),(3,44,1),(4,175,1),(5,3,1)]) _ from ⟨_,rfl,rfl,fun x hx=>by simp only [U8,List.not_mem_nil,or_false] at hx;rcases hx with rfl | rfl | rfl | rfl | rfl | rfl<;>exact ⟨by kernel_rfl,by decide⟩⟩) (.agg #[(.int .i64 0),(.int .i64 0),(.slice none 0 0),(.slice none 0 0),(.slice none 0 0),(.int .i64 0)]) (by kernel_rfl) rfl rfl rfl rfl (by decide) (fun h=>by cases h)
def V5p:TyI:=⟨.struct [(0,3,1),(1,3,1),(2,3,1),(3,48,6)],9,136,[(.int .i64 0),(.int .i64 0),(.int .i64 0),(.int .i64 0),(.int .i64 0),(.slice none 0 0),(.slice none 0 0),(.slice none 0 0),(.slice none 0 0)],false⟩
theorem Y13:TyOk Tryz.prog 178 V5p:=TyOk.of Tryz.underlying178 (show TK.ok _ (.struct [(0,3,1),(1,3,1),(2,3,1),(3,48,6)]) _ from ⟨_,rfl,rfl,fun x hx=>by simp only [U8,List.not_mem_nil,or_false] at hx;rcases hx with rfl | rfl | rfl | rfl<;>exact ⟨by kernel_rfl,by decide⟩⟩) (.agg #[(.int .i64 0),(.int .i64 0),(.int .i64 0),(.int .i64 0),(.int .i64 0),(.slice none 0 0),(.slice none 0 0),(.slice none 0 0),(.slice none 0 0)]) (by kernel_rfl) rfl rfl rfl rfl (by decide) (fun h=>by cases h)
def V5o:TyI:=⟨.struct [(0,3,1),(1,3,1),(2,3,1),(3,48,6)],9,136,[(.int .i64 0),(.int .i64 0),(.int .i64 0),(.int .i64 0),(.int .i64 0),(.slice none 0 0),(.slice none 0 0),(.slice none 0 0),(.slice none 0 0)],false⟩
theorem Y12:TyOk Tryz.prog 179 V5o:=TyOk.of Tryz.underlying179 (show TK.ok _ (.struct [(0,3,1),(1,3,1),(2,3,1),(3,48,6)]) _ from ⟨_,rfl,rfl,fun x hx=>by simp only [U8,List.not_mem_nil,or_false] at hx;rcases hx with rfl | rfl | rfl | rfl<;>exact ⟨by kernel_rfl,by decide⟩⟩) (.agg #[(.int .i64 0),(.int .i64 0),(.int .i64 0),(.int .i64 0),(.int .i64 0),(.slice none 0 0),(.slice none 0 0),(.slice none 0 0),(.slice none 0 0)]) (by kernel_rfl) rfl rfl rfl rfl (by decide) (fun h=>by cases h)
def V5n:TyI:=⟨.struct [(0,3,1),(1,3,1),(2,3,1),(3,3,1)],4,32,[(.int .i64 0),(.int .i64 0),(.int .i64 0),(.int .i64 0)],false⟩
theorem Y11:TyOk Tryz.prog 180 V5n:=TyOk.of Tryz.underlying180 (show TK.ok _ (.struct [(0,3,1),(1,3,1),(2,3,1),(3,3,1)]) _ from ⟨_,rfl,rfl,fun x hx=>by simp only [U8,List.not_mem_nil,or_false] at hx;rcases hx with rfl | rfl | rfl | rfl<;>exact ⟨by kernel_rfl,by decide⟩⟩) (.agg #[(.int .i64 0),(.int .i64 0),(.int .i64 0),(.int .i64 0)]) (by kernel_rfl) rfl rfl rfl rfl (by decide) (fun h=>by cases h)
def V5m:TyI:=⟨.struct [(0,3,1),(1,3,1),(2,3,1),(3,3,1)],4,32,[(.int .i64 0),(.int .i64 0),(.int .i64 0),(.int .i64 0)],true⟩
theorem Y10:TyOk Tryz.prog 181 V5m:=TyOk.of Tryz.underlying181 (show TK.ok _ (.struct [(0,3,1),(1,3,1),(2,3,1),(3,3,1)]) _ from ⟨_,rfl,rfl,fun x hx=>by simp only [U8,List.not_mem_nil,or_false] at hx;rcases hx with rfl | rfl | rfl | rfl<;>exact ⟨by kernel_rfl,by decide⟩⟩) (.agg #[(.int .i64 0),(.int .i64 0),(.int .i64 0),(.int .i64 0)]) (by kernel_rfl) rfl rfl rfl rfl (by decide) (fun _ fs h=>by cases h;exact ⟨by kernel_rfl,by kernel_rfl,by kernel_rfl,by kernel_rfl⟩)
def V5l:TyI:=⟨.pointer 263,1,8,[(.pointer none)],false⟩
theorem Y0z:TyOk Tryz.prog 187 V5l:=TyOk.of Tryz.underlying187 (show TK.ok _ (.pointer 263) _ from rfl) (.pointer none) (by kernel_rfl) rfl rfl rfl rfl (by decide) (fun h=>by cases h)
def V5k:TyI:=⟨.struct [(0,23,1),(1,187,1)],2,32,[(.slice none 0 0),(.pointer none)],false⟩
theorem Y0y:TyOk Tryz.prog 189 V5k:=TyOk.of Tryz.underlying189 (show TK.ok _ (.struct [(0,23,1),(1,187,1)]) _ from ⟨_,rfl,rfl,fun x hx=>by simp only [U8,List.not_mem_nil,or_false] at hx;rcases hx with rfl | rfl<;>exact ⟨by kernel_rfl,by decide⟩⟩) (.agg #[(.slice none 0 0),(.pointer none)]) (by kernel_rfl) rfl rfl rfl rfl (by decide) (fun h=>by cases h)
def V5j:TyI:=⟨.struct [(0,23,1),(1,187,1)],2,32,[(.slice none 0 0),(.pointer none)],false⟩
theorem Y0x:TyOk Tryz.prog 190 V5j:=TyOk.of Tryz.underlying190 (show TK.ok _ (.struct [(0,23,1),(1,187,1)]) _ from ⟨_,rfl,rfl,fun x hx=>by simp only [U8,List.not_mem_nil,or_false] at hx;rcases hx with rfl | rfl<;>exact ⟨by kernel_rfl,by decide⟩⟩) (.agg #[(.slice none 0 0),(.pointer none)]) (by kernel_rfl) rfl rfl rfl rfl (by decide) (fun h=>by cases h)
def V5i:TyI:=⟨.slice 25,1,24,[(.slice none 0 0)],false⟩
theorem Y0w:TyOk Tryz.prog 193 V5i:=TyOk.of Tryz.underlying193 (show TK.ok _ (.slice 25) _ from rfl) (.slice none 0 0) (by kernel_rfl) rfl rfl rfl rfl (by decide) (fun h=>by cases h)
def V5h:TyI:=⟨.struct [(0,22,1),(1,3,1)],2,32,[(.slice none 0 0),(.int .i64 0)],false⟩
theorem Y0v:TyOk Tryz.prog 214 V5h:=TyOk.of Tryz.underlying214 (show TK.ok _ (.struct [(0,22,1),(1,3,1)]) _ from ⟨_,rfl,rfl,fun x hx=>by simp only [U8,List.not_mem_nil,or_false] at hx;rcases hx with rfl | rfl<;>exact ⟨by kernel_rfl,by decide⟩⟩) (.agg #[(.slice none 0 0),(.int .i64 0)]) (by kernel_rfl) rfl rfl rfl rfl (by decide) (fun h=>by cases h)
def V5g:TyI:=⟨.struct [(0,22,1),(1,3,1)],2,32,[(.slice none 0 0),(.int .i64 0)],false⟩
theorem Y0u:TyOk Tryz.prog 215 V5g:=TyOk.of Tryz.underlying215 (show TK.ok _ (.struct [(0,22,1),(1,3,1)]) _ from ⟨_,rfl,rfl,fun x hx=>by simp only [U8,List.not_mem_nil,or_false] at hx;rcases hx with rfl | rfl<;>exact ⟨by kernel_rfl,by decide⟩⟩) (.agg #[(.slice none 0 0),(.int .i64 0)]) (by kernel_rfl) rfl rfl rfl rfl (by decide) (fun h=>by cases h)
def V5f:TyI:=⟨.int .u64,1,8,[(.int .u64 0)],false⟩
theorem Y0t:TyOk Tryz.prog 239 V5f:=TyOk.of Tryz.underlying239 (show TK.ok _ (.int .u64) _ from rfl) (.int .u64 0) (by kernel_rfl) rfl rfl rfl rfl (by decide) (fun h=>by cases h)
def V5e:TyI:=⟨.slice 319,1,24,[(.slice none 0 0)],false⟩
theorem Y0s:TyOk Tryz.prog 247 V5e:=TyOk.of Tryz.underlying247 (show TK.ok _ (.slice 319) _ from rfl) (.slice none 0 0) (by kernel_rfl) rfl rfl rfl rfl (by decide) (fun h=>by cases h)
def V5d:TyI:=⟨.struct [(0,44,1),(1,25,2)],3,40,[(.slice none 0 0),(.int .i64 0),(.int .i64 0)],false⟩
theorem Y0r:TyOk Tryz.prog 255 V5d:=TyOk.of Tryz.underlying255 (show TK.ok _ (.struct [(0,44,1),(1,25,2)]) _ from ⟨_,rfl,rfl,fun x hx=>by simp only [U8,List.not_mem_nil,or_false] at hx;rcases hx with rfl | rfl<;>exact ⟨by kernel_rfl,by decide⟩⟩) (.agg #[(.slice none 0 0),(.int .i64 0),(.int .i64 0)]) (by kernel_rfl) rfl rfl rfl rfl (by decide) (fun h=>by cases h)
def V5c:TyI:=⟨.struct [(0,44,1),(1,25,2)],3,40,[(.slice none 0 0),(.int .i64 0),(.int .i64 0)],false⟩
theorem Y0q:TyOk Tryz.prog 256 V5c:=TyOk.of Tryz.underlying256 (show TK.ok _ (.struct [(0,44,1),(1,25,2)]) _ from ⟨_,rfl,rfl,fun x hx=>by simp only [U8,List.not_mem_nil,or_false] at hx;rcases hx with rfl | rfl<;>exact ⟨by kernel_rfl,by decide⟩⟩) (.agg #[(.slice none 0 0),(.int .i64 0),(.int .i64 0)]) (by kernel_rfl) rfl rfl rfl rfl (by decide) (fun h=>by cases h)
def V5b:TyI:=⟨.slice 256,1,24,[(.slice none 0 0)],false⟩
theorem Y0p:TyOk Tryz.prog 257 V5b:=TyOk.of Tryz.underlying257 (show TK.ok _ (.slice 256) _ from rfl) (.slice none 0 0) (by kernel_rfl) rfl rfl rfl rfl (by decide) (fun h=>by cases h)
def V5a:TyI:=⟨.slice 322,1,24,[(.slice none 0 0)],false⟩
theorem Y0o:TyOk Tryz.prog 258 V5a:=TyOk.of Tryz.underlying258 (show TK.ok _ (.slice 322) _ from rfl) (.slice none 0 0) (by kernel_rfl) rfl rfl rfl rfl (by decide) (fun h=>by cases h)
def V59:TyI:=⟨.array 4 3,4,32,[(.int .i64 0),(.int .i64 0),(.int .i64 0),(.int .i64 0)],false⟩
theorem Y0n:TyOk Tryz.prog 261 V59:=TyOk.of Tryz.underlying261 (show TK.ok _ (.array 4 3) _ from rfl) (.agg #[(.int .i64 0),(.int .i64 0),(.int .i64 0),(.int .i64 0)]) (by kernel_rfl) rfl rfl rfl rfl (by decide) (fun h=>by cases h)
def V58:TyI:=⟨.array 4 261,16,128,[(.int .i64 0),(.int .i64 0),(.int .i64 0),(.int .i64 0),(.int .i64 0),(.int .i64 0),(.int .i64 0),(.int .i64 0),(.int .i64 0),(.int .i64 0),(.int .i64 0),(.int .i64 0),(.int .i64 0),(.int .i64 0),(.int .i64 0),(.int .i64 0)],false⟩
theorem Y0m:TyOk Tryz.prog 262 V58:=TyOk.of Tryz.underlying262 (show TK.ok _ (.array 4 261) _ from rfl) (.agg #[(.int .i64 0),(.int .i64 0),(.int .i64 0),(.int .i64 0),(.int .i64 0),(.int .i64 0),(.int .i64 0),(.int .i64 0),(.int .i64 0),(.int .i64 0),(.int .i64 0),(.int .i64 0),(.int .i64 0),(.int .i64 0),(.int .i64 0),(.int .i64 0)]) (by kernel_rfl) rfl rfl rfl rfl (by decide) (fun h=>by cases h)
def V57:TyI:=⟨.array 4 261,16,128,[(.int .i64 0),(.int .i64 0),(.int .i64 0),(.int .i64 0),(.int .i64 0),(.int .i64 0),(.int .i64 0),(.int .i64 0),(.int .i64 0),(.int .i64 0),(.int .i64 0),(.int .i64 0),(.int .i64 0),(.int .i64 0),(.int .i64 0),(.int .i64 0)],false⟩
theorem Y0l:TyOk Tryz.prog 263 V57:=TyOk.of Tryz.underlying263 (show TK.ok _ (.array 4 261) _ from rfl) (.agg #[(.int .i64 0),(.int .i64 0),(.int .i64 0),(.int .i64 0),(.int .i64 0),(.int .i64 0),(.int .i64 0),(.int .i64 0),(.int .i64 0),(.int .i64 0),(.int .i64 0),(.int .i64 0),(.int .i64 0),(.int .i64 0),(.int .i64 0),(.int .i64 0)]) (by kernel_rfl) rfl rfl rfl rfl (by decide) (fun h=>by cases h)
def V56:TyI:=⟨.array 11 4,11,11,[(.bool false),(.bool false),(.bool false),(.bool false),(.bool false),(.bool false),(.bool false),(.bool false),(.bool false),(.bool false),(.bool false)],false⟩
theorem Y0k:TyOk Tryz.prog 268 V56:=TyOk.of Tryz.underlying268 (show TK.ok _ (.array 11 4) _ from rfl) (.agg #[(.bool false),(.bool false),(.bool false),(.bool false),(.bool false),(.bool false),(.bool false),(.bool false),(.bool false),(.bool false),(.bool false)]) (by kernel_rfl) rfl rfl rfl rfl (by decide) (fun h=>by cases h)
def V55:TyI:=⟨.struct [(0,9,1),(1,193,1),(2,3,1)],3,48,[(.string .empty),(.slice none 0 0),(.int .i64 0)],false⟩
theorem Y0j:TyOk Tryz.prog 269 V55:=TyOk.of Tryz.underlying269 (show TK.ok _ (.struct [(0,9,1),(1,193,1),(2,3,1)]) _ from ⟨_,rfl,rfl,fun x hx=>by simp only [U8,List.not_mem_nil,or_false] at hx;rcases hx with rfl | rfl | rfl<;>exact ⟨by kernel_rfl,by decide⟩⟩) (.agg #[(.string .empty),(.slice none 0 0),(.int .i64 0)]) (by kernel_rfl) rfl rfl rfl rfl (by decide) (fun h=>by cases h)
def V54:TyI:=⟨.struct [(0,9,1),(1,193,1),(2,3,1)],3,48,[(.string .empty),(.slice none 0 0),(.int .i64 0)],false⟩
theorem Y0i:TyOk Tryz.prog 270 V54:=TyOk.of Tryz.underlying270 (show TK.ok _ (.struct [(0,9,1),(1,193,1),(2,3,1)]) _ from ⟨_,rfl,rfl,fun x hx=>by simp only [U8,List.not_mem_nil,or_false] at hx;rcases hx with rfl | rfl | rfl<;>exact ⟨by kernel_rfl,by decide⟩⟩) (.agg #[(.string .empty),(.slice none 0 0),(.int .i64 0)]) (by kernel_rfl) rfl rfl rfl rfl (by decide) (fun h=>by cases h)
def V53:TyI:=⟨.slice 270,1,24,[(.slice none 0 0)],false⟩
theorem Y0h:TyOk Tryz.prog 271 V53:=TyOk.of Tryz.underlying271 (show TK.ok _ (.slice 270) _ from rfl) (.slice none 0 0) (by kernel_rfl) rfl rfl rfl rfl (by decide) (fun h=>by cases h)
def V52:TyI:=⟨.struct [(0,9,1),(1,271,1)],2,40,[(.string .empty),(.slice none 0 0)],false⟩
theorem Y0g:TyOk Tryz.prog 272 V52:=TyOk.of Tryz.underlying272 (show TK.ok _ (.struct [(0,9,1),(1,271,1)]) _ from ⟨_,rfl,rfl,fun x hx=>by simp only [U8,List.not_mem_nil,or_false] at hx;rcases hx with rfl | rfl<;>exact ⟨by kernel_rfl,by decide⟩⟩) (.agg #[(.string .empty),(.slice none 0 0)]) (by kernel_rfl) rfl rfl rfl rfl (by decide) (fun h=>by cases h)
def V51:TyI:=⟨.struct [(0,9,1),(1,271,1)],2,40,[(.string .empty),(.slice none 0 0)],false⟩
theorem Y0f:TyOk Tryz.prog 273 V51:=TyOk.of Tryz.underlying273 (show TK.ok _ (.struct [(0,9,1),(1,271,1)]) _ from ⟨_,rfl,rfl,fun x hx=>by simp only [U8,List.not_mem_nil,or_false] at hx;rcases hx with rfl | rfl<;>exact ⟨by kernel_rfl,by decide⟩⟩) (.agg #[(.string .empty),(.slice none 0 0)]) (by kernel_rfl) rfl rfl rfl rfl (by decide) (fun h=>by cases h)
def V50:TyI:=⟨.slice 112,1,24,[(.slice none 0 0)],false⟩
theorem Y0e:TyOk Tryz.prog 274 V50:=TyOk.of Tryz.underlying274 (show TK.ok _ (.slice 112) _ from rfl) (.slice none 0 0) (by kernel_rfl) rfl rfl rfl rfl (by decide) (fun h=>by cases h)
def V4z:TyI:=⟨.map 9 4,1,8,[(.map none)],false⟩
theorem Y0d:TyOk Tryz.prog 294 V4z:=TyOk.of Tryz.underlying294 (show TK.ok _ (.map 9 4) _ from rfl) (.map none) (by kernel_rfl) rfl rfl rfl rfl (by decide) (fun h=>by cases h)
def V4y:TyI:=⟨.int .i64,1,8,[(.int .i64 0)],false⟩
theorem Y0c:TyOk Tryz.prog 302 V4y:=TyOk.of Tryz.underlying302 (show TK.ok _ (.int .i64) _ from rfl) (.int .i64 0) (by kernel_rfl) rfl rfl rfl rfl (by decide) (fun h=>by cases h)
def V4x:TyI:=⟨.int .u32,1,4,[(.int .u32 0)],false⟩
theorem Y0b:TyOk Tryz.prog 309 V4x:=TyOk.of Tryz.underlying309 (show TK.ok _ (.int .u32) _ from rfl) (.int .u32 0) (by kernel_rfl) rfl rfl rfl rfl (by decide) (fun h=>by cases h)
def V4w:TyI:=⟨.int .u64,1,8,[(.int .u64 0)],false⟩
theorem Y0a:TyOk Tryz.prog 311 V4w:=TyOk.of Tryz.underlying311 (show TK.ok _ (.int .u64) _ from rfl) (.int .u64 0) (by kernel_rfl) rfl rfl rfl rfl (by decide) (fun h=>by cases h)
def V4v:TyI:=⟨.struct [(0,3,1),(1,25,2)],3,24,[(.int .i64 0),(.int .i64 0),(.int .i64 0)],false⟩
theorem Y09:TyOk Tryz.prog 318 V4v:=TyOk.of Tryz.underlying318 (show TK.ok _ (.struct [(0,3,1),(1,25,2)]) _ from ⟨_,rfl,rfl,fun x hx=>by simp only [U8,List.not_mem_nil,or_false] at hx;rcases hx with rfl | rfl<;>exact ⟨by kernel_rfl,by decide⟩⟩) (.agg #[(.int .i64 0),(.int .i64 0),(.int .i64 0)]) (by kernel_rfl) rfl rfl rfl rfl (by decide) (fun h=>by cases h)
def V4u:TyI:=⟨.struct [(0,3,1),(1,25,2)],3,24,[(.int .i64 0),(.int .i64 0),(.int .i64 0)],true⟩
theorem Y08:TyOk Tryz.prog 319 V4u:=TyOk.of Tryz.underlying319 (show TK.ok _ (.struct [(0,3,1),(1,25,2)]) _ from ⟨_,rfl,rfl,fun x hx=>by simp only [U8,List.not_mem_nil,or_false] at hx;rcases hx with rfl | rfl<;>exact ⟨by kernel_rfl,by decide⟩⟩) (.agg #[(.int .i64 0),(.int .i64 0),(.int .i64 0)]) (by kernel_rfl) rfl rfl rfl rfl (by decide) (fun _ fs h=>by cases h;exact ⟨by kernel_rfl,by kernel_rfl,by kernel_rfl,by kernel_rfl⟩)
def V4t:TyI:=⟨.struct [(0,3,1),(1,98,1),(2,43,1)],3,56,[(.int .i64 0),(.slice none 0 0),(.slice none 0 0)],false⟩
theorem Y07:TyOk Tryz.prog 321 V4t:=TyOk.of Tryz.underlying321 (show TK.ok _ (.struct [(0,3,1),(1,98,1),(2,43,1)]) _ from ⟨_,rfl,rfl,fun x hx=>by simp only [U8,List.not_mem_nil,or_false] at hx;rcases hx with rfl | rfl | rfl<;>exact ⟨by kernel_rfl,by decide⟩⟩) (.agg #[(.int .i64 0),(.slice none 0 0),(.slice none 0 0)]) (by kernel_rfl) rfl rfl rfl rfl (by decide) (fun h=>by cases h)
def V4s:TyI:=⟨.struct [(0,3,1),(1,98,1),(2,43,1)],3,56,[(.int .i64 0),(.slice none 0 0),(.slice none 0 0)],false⟩
theorem Y06:TyOk Tryz.prog 322 V4s:=TyOk.of Tryz.underlying322 (show TK.ok _ (.struct [(0,3,1),(1,98,1),(2,43,1)]) _ from ⟨_,rfl,rfl,fun x hx=>by simp only [U8,List.not_mem_nil,or_false] at hx;rcases hx with rfl | rfl | rfl<;>exact ⟨by kernel_rfl,by decide⟩⟩) (.agg #[(.int .i64 0),(.slice none 0 0),(.slice none 0 0)]) (by kernel_rfl) rfl rfl rfl rfl (by decide) (fun h=>by cases h)
def V4r:TyI:=⟨.slice 9,1,24,[(.slice none 0 0)],false⟩
theorem Y05:TyOk Tryz.prog 357 V4r:=TyOk.of Tryz.underlying357 (show TK.ok _ (.slice 9) _ from rfl) (.slice none 0 0) (by kernel_rfl) rfl rfl rfl rfl (by decide) (fun h=>by cases h)
def V4q:TyI:=⟨.int .u64,1,8,[(.int .u64 0)],false⟩
theorem Y04:TyOk Tryz.prog 362 V4q:=TyOk.of Tryz.underlying362 (show TK.ok _ (.int .u64) _ from rfl) (.int .u64 0) (by kernel_rfl) rfl rfl rfl rfl (by decide) (fun h=>by cases h)
def V4p:TyI:=⟨.array 6 4,6,6,[(.bool false),(.bool false),(.bool false),(.bool false),(.bool false),(.bool false)],false⟩
theorem Y03:TyOk Tryz.prog 368 V4p:=TyOk.of Tryz.underlying368 (show TK.ok _ (.array 6 4) _ from rfl) (.agg #[(.bool false),(.bool false),(.bool false),(.bool false),(.bool false),(.bool false)]) (by kernel_rfl) rfl rfl rfl rfl (by decide) (fun h=>by cases h)
def V4o:TyI:=⟨.pointer 362,1,8,[(.pointer none)],false⟩
theorem Y02:TyOk Tryz.prog 390 V4o:=TyOk.of Tryz.underlying390 (show TK.ok _ (.pointer 362) _ from rfl) (.pointer none) (by kernel_rfl) rfl rfl rfl rfl (by decide) (fun h=>by cases h)
def V4n:TyI:=⟨.struct [(0,17,1),(1,17,1),(2,17,1),(3,9,1)],4,40,[(.pointer none),(.pointer none),(.pointer none),(.string .empty)],false⟩
theorem Y01:TyOk Tryz.prog 406 V4n:=TyOk.of Tryz.underlying406 (show TK.ok _ (.struct [(0,17,1),(1,17,1),(2,17,1),(3,9,1)]) _ from ⟨_,rfl,rfl,fun x hx=>by simp only [U8,List.not_mem_nil,or_false] at hx;rcases hx with rfl | rfl | rfl | rfl<;>exact ⟨by kernel_rfl,by decide⟩⟩) (.agg #[(.pointer none),(.pointer none),(.pointer none),(.string .empty)]) (by kernel_rfl) rfl rfl rfl rfl (by decide) (fun h=>by cases h)
def V4m:TyI:=⟨.struct [(0,17,1),(1,17,1),(2,17,1),(3,9,1)],4,40,[(.pointer none),(.pointer none),(.pointer none),(.string .empty)],false⟩
theorem Y00:TyOk Tryz.prog 407 V4m:=TyOk.of Tryz.underlying407 (show TK.ok _ (.struct [(0,17,1),(1,17,1),(2,17,1),(3,9,1)]) _ from ⟨_,rfl,rfl,fun x hx=>by simp only [U8,List.not_mem_nil,or_false] at hx;rcases hx with rfl | rfl | rfl | rfl<;>exact ⟨by kernel_rfl,by decide⟩⟩) (.agg #[(.pointer none),(.pointer none),(.pointer none),(.string .empty)]) (by kernel_rfl) rfl rfl rfl rfl (by decide) (fun h=>by cases h)
def V4l:TyI:=⟨.array 0 16,0,0,[],false⟩
theorem V9z:TyOk Tryz.prog 408 V4l:=TyOk.of Tryz.underlying408 (show TK.ok _ (.array 0 16) _ from rfl) (.agg #[]) (by kernel_rfl) rfl rfl rfl rfl (by decide) (fun h=>by cases h)
def V4k:TyI:=⟨.int .u8,1,1,[(.int .u8 0)],false⟩
theorem V9y:TyOk Tryz.prog 411 V4k:=TyOk.of Tryz.underlying411 (show TK.ok _ (.int .u8) _ from rfl) (.int .u8 0) (by kernel_rfl) rfl rfl rfl rfl (by decide) (fun h=>by cases h)
def V4j:TyI:=⟨.int .u8,1,1,[(.int .u8 0)],false⟩
theorem V9x:TyOk Tryz.prog 412 V4j:=TyOk.of Tryz.underlying412 (show TK.ok _ (.int .u8) _ from rfl) (.int .u8 0) (by kernel_rfl) rfl rfl rfl rfl (by decide) (fun h=>by cases h)
def V4i:TyI:=⟨.pointer 5,1,8,[(.pointer none)],false⟩
theorem V9w:TyOk Tryz.prog 414 V4i:=TyOk.of Tryz.underlying414 (show TK.ok _ (.pointer 5) _ from rfl) (.pointer none) (by kernel_rfl) rfl rfl rfl rfl (by decide) (fun h=>by cases h)
def V4h:TyI:=⟨.int .i32,1,4,[(.int .i32 0)],false⟩
theorem V9v:TyOk Tryz.prog 415 V4h:=TyOk.of Tryz.underlying415 (show TK.ok _ (.int .i32) _ from rfl) (.int .i32 0) (by kernel_rfl) rfl rfl rfl rfl (by decide) (fun h=>by cases h)
def V4g:TyI:=⟨.int .i32,1,4,[(.int .i32 0)],false⟩
theorem V9u:TyOk Tryz.prog 416 V4g:=TyOk.of Tryz.underlying416 (show TK.ok _ (.int .i32) _ from rfl) (.int .i32 0) (by kernel_rfl) rfl rfl rfl rfl (by decide) (fun h=>by cases h)
def Tys:Ty:=fun t=>match t with
 | 2=>some ti2
 | 3=>some ti3
 | 4=>some ti4
 | 5=>some ti5
 | 6=>some ti6
 | 7=>some ti7
 | 8=>some ti8
 | 9=>some ti9
 | 10=>some ti10
 | 11=>some ti11
 | 12=>some ti12
 | 13=>some ti13
 | 14=>some ti14
 | 15=>some ti15
 | 16=>some ti16
 | 17=>some ti17
 | 18=>some ti18
 | 19=>some ti19
 | 21=>some ti21
 | 22=>some ti22
 | 23=>some ti23
 | 24=>some ti24
 | 25=>some ti25
 | 26=>some ti26
 | 27=>some ti27
 | 28=>some ti28
 | 29=>some ti29
 | 32=>some ti32
 | 43=>some ti43
 | 44=>some ti44
 | 45=>some ti45
 | 46=>some ti46
 | 47=>some ti47
 | 48=>some ti48
 | 51=>some ti51
 | 57=>some ti57
 | 77=>some ti77
 | 81=>some ti81
 | 82=>some ti82
 | 86=>some ti86
 | 87=>some ti87
 | 94=>some ti94
 | 97=>some ti97
 | 98=>some ti98
 | 99=>some ti99
 | 100=>some V6e
 | 101=>some V6d
 | 102=>some V6c
 | 104=>some V6b
 | 105=>some V6a
 | 107=>some V69
 | 108=>some V68
 | 110=>some V67
 | 111=>some V66
 | 112=>some V65
 | 117=>some V64
 | 128=>some V63
 | 137=>some V62
 | 145=>some V61
 | 146=>some V60
 | 148=>some V5z
 | 149=>some V5y
 | 153=>some V5x
 | 158=>some V5w
 | 159=>some V5v
 | 160=>some V5u
 | 161=>some V5t
 | 175=>some V5s
 | 176=>some V5r
 | 177=>some V5q
 | 178=>some V5p
 | 179=>some V5o
 | 180=>some V5n
 | 181=>some V5m
 | 187=>some V5l
 | 189=>some V5k
 | 190=>some V5j
 | 193=>some V5i
 | 214=>some V5h
 | 215=>some V5g
 | 239=>some V5f
 | 247=>some V5e
 | 255=>some V5d
 | 256=>some V5c
 | 257=>some V5b
 | 258=>some V5a
 | 261=>some V59
 | 262=>some V58
 | 263=>some V57
 | 268=>some V56
 | 269=>some V55
 | 270=>some V54
 | 271=>some V53
 | 272=>some V52
 | 273=>some V51
 | 274=>some V50
 | 294=>some V4z
 | 302=>some V4y
 | 309=>some V4x
 | 311=>some V4w
 | 318=>some V4v
 | 319=>some V4u
 | 321=>some V4t
 | 322=>some V4s
 | 357=>some V4r
 | 362=>some V4q
 | 368=>some V4p
 | 390=>some V4o
 | 406=>some V4n
 | 407=>some V4m
 | 408=>some V4l
 | 411=>some V4k
 | 412=>some V4j
 | 414=>some V4i
 | 415=>some V4h
 | 416=>some V4g
 | _=>none
@[simp] theorem tys2:Tys 2=some ⟨.int .i64,1,8,[(.int .i64 0)],false⟩:=rfl
@[simp] theorem tys3:Tys 3=some ⟨.int .i64,1,8,[(.int .i64 0)],false⟩:=rfl
@[simp] theorem tys4:Tys 4=some ⟨.bool,1,1,[(.bool false)],false⟩:=rfl
@[simp] theorem tys5:Tys 5=some ⟨.int .u8,1,1,[(.int .u8 0)],false⟩:=rfl
@[simp] theorem tys6:Tys 6=some ⟨.int .u8,1,1,[(.int .u8 0)],false⟩:=rfl
@[simp] theorem tys7:Tys 7=some ⟨.struct [(0,2,1),(1,3,1),(2,4,1),(3,6,1)],4,24,[(.int .i64 0),(.int .i64 0),(.bool false),(.int .u8 0)],false⟩:=rfl
@[simp] theorem tys8:Tys 8=some ⟨.struct [(0,2,1),(1,3,1),(2,4,1),(3,6,1)],4,24,[(.int .i64 0),(.int .i64 0),(.bool false),(.int .u8 0)],false⟩:=rfl
@[simp] theorem tys9:Tys 9=some ⟨.string,1,16,[(.string .empty)],false⟩:=rfl
@[simp] theorem tys10:Tys 10=some ⟨.string,1,16,[(.string .empty)],false⟩:=rfl
@[simp] theorem tys11:Tys 11=some ⟨.string,1,16,[(.string .empty)],false⟩:=rfl
@[simp] theorem tys12:Tys 12=some ⟨.int .u64,1,8,[(.int .u64 0)],false⟩:=rfl
@[simp] theorem tys13:Tys 13=some ⟨.struct [(0,9,1),(1,12,1)],2,24,[(.string .empty),(.int .u64 0)],false⟩:=rfl
@[simp] theorem tys14:Tys 14=some ⟨.struct [(0,9,1),(1,12,1)],2,24,[(.string .empty),(.int .u64 0)],false⟩:=rfl
@[simp] theorem tys15:Tys 15=some ⟨.pointer 407,1,8,[(.pointer none)],false⟩:=rfl
@[simp] theorem tys16:Tys 16=some ⟨.pointer 410,1,8,[(.pointer none)],false⟩:=rfl
@[simp] theorem tys17:Tys 17=some ⟨.pointer 418,1,8,[(.pointer none)],false⟩:=rfl
@[simp] theorem tys18:Tys 18=some ⟨.struct [(0,17,1)],1,8,[(.pointer none)],false⟩:=rfl
@[simp] theorem tys19:Tys 19=some ⟨.struct [(0,17,1)],1,8,[(.pointer none)],false⟩:=rfl
@[simp] theorem tys21:Tys 21=some ⟨.int .i32,1,4,[(.int .i32 0)],false⟩:=rfl
@[simp] theorem tys22:Tys 22=some ⟨.slice 5,1,24,[(.slice none 0 0)],false⟩:=rfl
@[simp] theorem tys23:Tys 23=some ⟨.slice 273,1,24,[(.slice none 0 0)],false⟩:=rfl
@[simp] theorem tys24:Tys 24=some ⟨.struct [(0,3,1),(1,3,1)],2,16,[(.int .i64 0),(.int .i64 0)],false⟩:=rfl
@[simp] theorem tys25:Tys 25=some ⟨.struct [(0,3,1),(1,3,1)],2,16,[(.int .i64 0),(.int .i64 0)],true⟩:=rfl
@[simp] theorem tys26:Tys 26=some ⟨.slice 161,1,24,[(.slice none 0 0)],false⟩:=rfl
@[simp] theorem tys27:Tys 27=some ⟨.slice 29,1,24,[(.slice none 0 0)],false⟩:=rfl
@[simp] theorem tys28:Tys 28=some ⟨.struct [(0,3,1),(1,3,1),(2,27,1)],3,40,[(.int .i64 0),(.int .i64 0),(.slice none 0 0)],false⟩:=rfl
@[simp] theorem tys29:Tys 29=some ⟨.struct [(0,3,1),(1,3,1),(2,27,1)],3,40,[(.int .i64 0),(.int .i64 0),(.slice none 0 0)],false⟩:=rfl
@[simp] theorem tys32:Tys 32=some ⟨.slice 87,1,24,[(.slice none 0 0)],false⟩:=rfl
@[simp] theorem tys43:Tys 43=some ⟨.slice 149,1,24,[(.slice none 0 0)],false⟩:=rfl
@[simp] theorem tys44:Tys 44=some ⟨.slice 3,1,24,[(.slice none 0 0)],false⟩:=rfl
@[simp] theorem tys45:Tys 45=some ⟨.slice 179,1,24,[(.slice none 0 0)],false⟩:=rfl
@[simp] theorem tys46:Tys 46=some ⟨.slice 48,1,24,[(.slice none 0 0)],false⟩:=rfl
@[simp] theorem tys47:Tys 47=some ⟨.struct [(0,3,1),(1,3,1),(2,43,1),(3,44,1),(4,45,1),(5,46,1)],6,112,[(.int .i64 0),(.int .i64 0),(.slice none 0 0),(.slice none 0 0),(.slice none 0 0),(.slice none 0 0)],false⟩:=rfl
@[simp] theorem tys48:Tys 48=some ⟨.struct [(0,3,1),(1,3,1),(2,43,1),(3,44,1),(4,45,1),(5,46,1)],6,112,[(.int .i64 0),(.int .i64 0),(.slice none 0 0),(.slice none 0 0),(.slice none 0 0),(.slice none 0 0)],false⟩:=rfl
@[simp] theorem tys51:Tys 51=some ⟨.slice 177,1,24,[(.slice none 0 0)],false⟩:=rfl
@[simp] theorem tys57:Tys 57=some ⟨.slice 44,1,24,[(.slice none 0 0)],false⟩:=rfl
@[simp] theorem tys77:Tys 77=some ⟨.slice 82,1,24,[(.slice none 0 0)],false⟩:=rfl
@[simp] theorem tys81:Tys 81=some ⟨.struct [(0,3,1),(1,44,1),(2,3,1),(3,3,1),(4,3,1),(5,3,1),(6,43,1),(7,3,1)],8,96,[(.int .i64 0),(.slice none 0 0),(.int .i64 0),(.int .i64 0),(.int .i64 0),(.int .i64 0),(.slice none 0 0),(.int .i64 0)],false⟩:=rfl
@[simp] theorem tys82:Tys 82=some ⟨.struct [(0,3,1),(1,44,1),(2,3,1),(3,3,1),(4,3,1),(5,3,1),(6,43,1),(7,3,1)],8,96,[(.int .i64 0),(.slice none 0 0),(.int .i64 0),(.int .i64 0),(.int .i64 0),(.int .i64 0),(.slice none 0 0),(.int .i64 0)],false⟩:=rfl
@[simp] theorem tys86:Tys 86=some ⟨.struct [(0,3,1),(1,29,3)],4,48,[(.int .i64 0),(.int .i64 0),(.int .i64 0),(.slice none 0 0)],false⟩:=rfl
@[simp] theorem tys87:Tys 87=some ⟨.struct [(0,3,1),(1,29,3)],4,48,[(.int .i64 0),(.int .i64 0),(.int .i64 0),(.slice none 0 0)],false⟩:=rfl
@[simp] theorem tys94:Tys 94=some ⟨.slice 98,1,24,[(.slice none 0 0)],false⟩:=rfl
@[simp] theorem tys97:Tys 97=some ⟨.slice 102,1,24,[(.slice none 0 0)],false⟩:=rfl
@[simp] theorem tys98:Tys 98=some ⟨.slice 100,1,24,[(.slice none 0 0)],false⟩:=rfl
@[simp] theorem tys99:Tys 99=some ⟨.struct [(0,3,1),(1,3,1),(2,3,1),(3,3,1),(4,3,1),(5,98,1)],6,64,[(.int .i64 0),(.int .i64 0),(.int .i64 0),(.int .i64 0),(.int .i64 0),(.slice none 0 0)],false⟩:=rfl
@[simp] theorem tys100:Tys 100=some ⟨.struct [(0,3,1),(1,3,1),(2,3,1),(3,3,1),(4,3,1),(5,98,1)],6,64,[(.int .i64 0),(.int .i64 0),(.int .i64 0),(.int .i64 0),(.int .i64 0),(.slice none 0 0)],false⟩:=rfl
@[simp] theorem tys101:Tys 101=some ⟨.struct [(0,3,1),(1,98,1),(2,43,1)],3,56,[(.int .i64 0),(.slice none 0 0),(.slice none 0 0)],false⟩:=rfl
@[simp] theorem tys102:Tys 102=some ⟨.struct [(0,3,1),(1,98,1),(2,43,1)],3,56,[(.int .i64 0),(.slice none 0 0),(.slice none 0 0)],false⟩:=rfl
@[simp] theorem tys104:Tys 104=some ⟨.pointer 108,1,8,[(.pointer none)],false⟩:=rfl
@[simp] theorem tys105:Tys 105=some ⟨.pointer 190,1,8,[(.pointer none)],false⟩:=rfl
@[simp] theorem tys107:Tys 107=some ⟨.struct [(0,105,1),(1,26,1),(2,3,1),(3,3,1)],4,48,[(.pointer none),(.slice none 0 0),(.int .i64 0),(.int .i64 0)],false⟩:=rfl
@[simp] theorem tys108:Tys 108=some ⟨.struct [(0,105,1),(1,26,1),(2,3,1),(3,3,1)],4,48,[(.pointer none),(.slice none 0 0),(.int .i64 0),(.int .i64 0)],false⟩:=rfl
@[simp] theorem tys110:Tys 110=some ⟨.struct [(0,44,1),(1,25,2)],3,40,[(.slice none 0 0),(.int .i64 0),(.int .i64 0)],false⟩:=rfl
@[simp] theorem tys111:Tys 111=some ⟨.struct [(0,44,1),(1,25,2)],3,40,[(.slice none 0 0),(.int .i64 0),(.int .i64 0)],false⟩:=rfl
@[simp] theorem tys112:Tys 112=some ⟨.slice 111,1,24,[(.slice none 0 0)],false⟩:=rfl
@[simp] theorem tys117:Tys 117=some ⟨.pointer 51,1,8,[(.pointer none)],false⟩:=rfl
@[simp] theorem tys128:Tys 128=some ⟨.pointer 215,1,8,[(.pointer none)],false⟩:=rfl
@[simp] theorem tys137:Tys 137=some ⟨.array 8 4,8,8,[(.bool false),(.bool false),(.bool false),(.bool false),(.bool false),(.bool false),(.bool false),(.bool false)],false⟩:=rfl
@[simp] theorem tys145:Tys 145=some ⟨.pointer 77,1,8,[(.pointer none)],false⟩:=rfl
@[simp] theorem tys146:Tys 146=some ⟨.pointer 43,1,8,[(.pointer none)],false⟩:=rfl
@[simp] theorem tys148:Tys 148=some ⟨.struct [(0,3,1),(1,44,1)],2,32,[(.int .i64 0),(.slice none 0 0)],false⟩:=rfl
@[simp] theorem tys149:Tys 149=some ⟨.struct [(0,3,1),(1,44,1)],2,32,[(.int .i64 0),(.slice none 0 0)],false⟩:=rfl
@[simp] theorem tys153:Tys 153=some ⟨.pointer 3,1,8,[(.pointer none)],false⟩:=rfl
@[simp] theorem tys158:Tys 158=some ⟨.struct [(0,3,1),(1,3,1),(2,3,1)],3,24,[(.int .i64 0),(.int .i64 0),(.int .i64 0)],false⟩:=rfl
@[simp] theorem tys159:Tys 159=some ⟨.struct [(0,3,1),(1,3,1),(2,3,1)],3,24,[(.int .i64 0),(.int .i64 0),(.int .i64 0)],true⟩:=rfl
@[simp] theorem tys160:Tys 160=some ⟨.struct [(0,100,6),(6,159,3)],9,88,[(.int .i64 0),(.int .i64 0),(.int .i64 0),(.int .i64 0),(.int .i64 0),(.slice none 0 0),(.int .i64 0),(.int .i64 0),(.int .i64 0)],false⟩:=rfl
@[simp] theorem tys161:Tys 161=some ⟨.struct [(0,100,6),(6,159,3)],9,88,[(.int .i64 0),(.int .i64 0),(.int .i64 0),(.int .i64 0),(.int .i64 0),(.slice none 0 0),(.int .i64 0),(.int .i64 0),(.int .i64 0)],false⟩:=rfl
@[simp] theorem tys175:Tys 175=some ⟨.slice 181,1,24,[(.slice none 0 0)],false⟩:=rfl
@[simp] theorem tys176:Tys 176=some ⟨.struct [(0,3,1),(1,3,1),(2,43,1),(3,44,1),(4,175,1),(5,3,1)],6,96,[(.int .i64 0),(.int .i64 0),(.slice none 0 0),(.slice none 0 0),(.slice none 0 0),(.int .i64 0)],false⟩:=rfl
@[simp] theorem tys177:Tys 177=some ⟨.struct [(0,3,1),(1,3,1),(2,43,1),(3,44,1),(4,175,1),(5,3,1)],6,96,[(.int .i64 0),(.int .i64 0),(.slice none 0 0),(.slice none 0 0),(.slice none 0 0),(.int .i64 0)],false⟩:=rfl
@[simp] theorem tys178:Tys 178=some ⟨.struct [(0,3,1),(1,3,1),(2,3,1),(3,48,6)],9,136,[(.int .i64 0),(.int .i64 0),(.int .i64 0),(.int .i64 0),(.int .i64 0),(.slice none 0 0),(.slice none 0 0),(.slice none 0 0),(.slice none 0 0)],false⟩:=rfl
@[simp] theorem tys179:Tys 179=some ⟨.struct [(0,3,1),(1,3,1),(2,3,1),(3,48,6)],9,136,[(.int .i64 0),(.int .i64 0),(.int .i64 0),(.int .i64 0),(.int .i64 0),(.slice none 0 0),(.slice none 0 0),(.slice none 0 0),(.slice none 0 0)],false⟩:=rfl
@[simp] theorem tys180:Tys 180=some ⟨.struct [(0,3,1),(1,3,1),(2,3,1),(3,3,1)],4,32,[(.int .i64 0),(.int .i64 0),(.int .i64 0),(.int .i64 0)],false⟩:=rfl
@[simp] theorem tys181:Tys 181=some ⟨.struct [(0,3,1),(1,3,1),(2,3,1),(3,3,1)],4,32,[(.int .i64 0),(.int .i64 0),(.int .i64 0),(.int .i64 0)],true⟩:=rfl
@[simp] theorem tys187:Tys 187=some ⟨.pointer 263,1,8,[(.pointer none)],false⟩:=rfl
@[simp] theorem tys189:Tys 189=some ⟨.struct [(0,23,1),(1,187,1)],2,32,[(.slice none 0 0),(.pointer none)],false⟩:=rfl
@[simp] theorem tys190:Tys 190=some ⟨.struct [(0,23,1),(1,187,1)],2,32,[(.slice none 0 0),(.pointer none)],false⟩:=rfl
@[simp] theorem tys193:Tys 193=some ⟨.slice 25,1,24,[(.slice none 0 0)],false⟩:=rfl
@[simp] theorem tys214:Tys 214=some ⟨.struct [(0,22,1),(1,3,1)],2,32,[(.slice none 0 0),(.int .i64 0)],false⟩:=rfl
@[simp] theorem tys215:Tys 215=some ⟨.struct [(0,22,1),(1,3,1)],2,32,[(.slice none 0 0),(.int .i64 0)],false⟩:=rfl
@[simp] theorem tys239:Tys 239=some ⟨.int .u64,1,8,[(.int .u64 0)],false⟩:=rfl
@[simp] theorem tys247:Tys 247=some ⟨.slice 319,1,24,[(.slice none 0 0)],false⟩:=rfl
@[simp] theorem tys255:Tys 255=some ⟨.struct [(0,44,1),(1,25,2)],3,40,[(.slice none 0 0),(.int .i64 0),(.int .i64 0)],false⟩:=rfl
@[simp] theorem tys256:Tys 256=some ⟨.struct [(0,44,1),(1,25,2)],3,40,[(.slice none 0 0),(.int .i64 0),(.int .i64 0)],false⟩:=rfl
@[simp] theorem tys257:Tys 257=some ⟨.slice 256,1,24,[(.slice none 0 0)],false⟩:=rfl
@[simp] theorem tys258:Tys 258=some ⟨.slice 322,1,24,[(.slice none 0 0)],false⟩:=rfl
@[simp] theorem tys261:Tys 261=some ⟨.array 4 3,4,32,[(.int .i64 0),(.int .i64 0),(.int .i64 0),(.int .i64 0)],false⟩:=rfl
@[simp] theorem tys262:Tys 262=some ⟨.array 4 261,16,128,[(.int .i64 0),(.int .i64 0),(.int .i64 0),(.int .i64 0),(.int .i64 0),(.int .i64 0),(.int .i64 0),(.int .i64 0),(.int .i64 0),(.int .i64 0),(.int .i64 0),(.int .i64 0),(.int .i64 0),(.int .i64 0),(.int .i64 0),(.int .i64 0)],false⟩:=rfl
@[simp] theorem tys263:Tys 263=some ⟨.array 4 261,16,128,[(.int .i64 0),(.int .i64 0),(.int .i64 0),(.int .i64 0),(.int .i64 0),(.int .i64 0),(.int .i64 0),(.int .i64 0),(.int .i64 0),(.int .i64 0),(.int .i64 0),(.int .i64 0),(.int .i64 0),(.int .i64 0),(.int .i64 0),(.int .i64 0)],false⟩:=rfl
@[simp] theorem tys268:Tys 268=some ⟨.array 11 4,11,11,[(.bool false),(.bool false),(.bool false),(.bool false),(.bool false),(.bool false),(.bool false),(.bool false),(.bool false),(.bool false),(.bool false)],false⟩:=rfl
@[simp] theorem tys269:Tys 269=some ⟨.struct [(0,9,1),(1,193,1),(2,3,1)],3,48,[(.string .empty),(.slice none 0 0),(.int .i64 0)],false⟩:=rfl
@[simp] theorem tys270:Tys 270=some ⟨.struct [(0,9,1),(1,193,1),(2,3,1)],3,48,[(.string .empty),(.slice none 0 0),(.int .i64 0)],false⟩:=rfl
@[simp] theorem tys271:Tys 271=some ⟨.slice 270,1,24,[(.slice none 0 0)],false⟩:=rfl
@[simp] theorem tys272:Tys 272=some ⟨.struct [(0,9,1),(1,271,1)],2,40,[(.string .empty),(.slice none 0 0)],false⟩:=rfl
@[simp] theorem tys273:Tys 273=some ⟨.struct [(0,9,1),(1,271,1)],2,40,[(.string .empty),(.slice none 0 0)],false⟩:=rfl
@[simp] theorem tys274:Tys 274=some ⟨.slice 112,1,24,[(.slice none 0 0)],false⟩:=rfl
@[simp] theorem tys294:Tys 294=some ⟨.map 9 4,1,8,[(.map none)],false⟩:=rfl
@[simp] theorem tys302:Tys 302=some ⟨.int .i64,1,8,[(.int .i64 0)],false⟩:=rfl
@[simp] theorem tys309:Tys 309=some ⟨.int .u32,1,4,[(.int .u32 0)],false⟩:=rfl
@[simp] theorem tys311:Tys 311=some ⟨.int .u64,1,8,[(.int .u64 0)],false⟩:=rfl
@[simp] theorem tys318:Tys 318=some ⟨.struct [(0,3,1),(1,25,2)],3,24,[(.int .i64 0),(.int .i64 0),(.int .i64 0)],false⟩:=rfl
@[simp] theorem tys319:Tys 319=some ⟨.struct [(0,3,1),(1,25,2)],3,24,[(.int .i64 0),(.int .i64 0),(.int .i64 0)],true⟩:=rfl
@[simp] theorem tys321:Tys 321=some ⟨.struct [(0,3,1),(1,98,1),(2,43,1)],3,56,[(.int .i64 0),(.slice none 0 0),(.slice none 0 0)],false⟩:=rfl
@[simp] theorem tys322:Tys 322=some ⟨.struct [(0,3,1),(1,98,1),(2,43,1)],3,56,[(.int .i64 0),(.slice none 0 0),(.slice none 0 0)],false⟩:=rfl
@[simp] theorem tys357:Tys 357=some ⟨.slice 9,1,24,[(.slice none 0 0)],false⟩:=rfl
@[simp] theorem tys362:Tys 362=some ⟨.int .u64,1,8,[(.int .u64 0)],false⟩:=rfl
@[simp] theorem tys368:Tys 368=some ⟨.array 6 4,6,6,[(.bool false),(.bool false),(.bool false),(.bool false),(.bool false),(.bool false)],false⟩:=rfl
@[simp] theorem tys390:Tys 390=some ⟨.pointer 362,1,8,[(.pointer none)],false⟩:=rfl
@[simp] theorem tys406:Tys 406=some ⟨.struct [(0,17,1),(1,17,1),(2,17,1),(3,9,1)],4,40,[(.pointer none),(.pointer none),(.pointer none),(.string .empty)],false⟩:=rfl
@[simp] theorem tys407:Tys 407=some ⟨.struct [(0,17,1),(1,17,1),(2,17,1),(3,9,1)],4,40,[(.pointer none),(.pointer none),(.pointer none),(.string .empty)],false⟩:=rfl
@[simp] theorem tys408:Tys 408=some ⟨.array 0 16,0,0,[],false⟩:=rfl
@[simp] theorem tys411:Tys 411=some ⟨.int .u8,1,1,[(.int .u8 0)],false⟩:=rfl
@[simp] theorem tys412:Tys 412=some ⟨.int .u8,1,1,[(.int .u8 0)],false⟩:=rfl
@[simp] theorem tys414:Tys 414=some ⟨.pointer 5,1,8,[(.pointer none)],false⟩:=rfl
@[simp] theorem tys415:Tys 415=some ⟨.int .i32,1,4,[(.int .i32 0)],false⟩:=rfl
@[simp] theorem tys416:Tys 416=some ⟨.int .i32,1,4,[(.int .i32 0)],false⟩:=rfl
theorem X2j:Q99 Tryz.prog Tys:=fun t i h=>by
 unfold Tys at h
 split at h
 ·cases h;exact ty2
 ·cases h;exact ty3
 ·cases h;exact ty4
 ·cases h;exact ty5
 ·cases h;exact ty6
 ·cases h;exact ty7
 ·cases h;exact ty8
 ·cases h;exact ty9
 ·cases h;exact ty10
 ·cases h;exact ty11
 ·cases h;exact ty12
 ·cases h;exact ty13
 ·cases h;exact ty14
 ·cases h;exact ty15
 ·cases h;exact ty16
 ·cases h;exact ty17
 ·cases h;exact ty18
 ·cases h;exact ty19
 ·cases h;exact ty21
 ·cases h;exact ty22
 ·cases h;exact ty23
 ·cases h;exact ty24
 ·cases h;exact ty25
 ·cases h;exact ty26
 ·cases h;exact ty27
 ·cases h;exact ty28
 ·cases h;exact ty29
 ·cases h;exact ty32
 ·cases h;exact ty43
 ·cases h;exact ty44
 ·cases h;exact ty45
 ·cases h;exact ty46
 ·cases h;exact ty47
 ·cases h;exact ty48
 ·cases h;exact ty51
 ·cases h;exact ty57
 ·cases h;exact ty77
 ·cases h;exact ty81
 ·cases h;exact ty82
 ·cases h;exact ty86
 ·cases h;exact ty87
 ·cases h;exact ty94
 ·cases h;exact ty97
 ·cases h;exact ty98
 ·cases h;exact ty99
 ·cases h;exact Y1s
 ·cases h;exact Y1r
 ·cases h;exact Y1q
 ·cases h;exact Y1p
 ·cases h;exact Y1o
 ·cases h;exact Y1n
 ·cases h;exact Y1m
 ·cases h;exact Y1l
 ·cases h;exact Y1k
 ·cases h;exact Y1j
 ·cases h;exact Y1i
 ·cases h;exact Y1h
 ·cases h;exact Y1g
 ·cases h;exact Y1f
 ·cases h;exact Y1e
 ·cases h;exact Y1d
 ·cases h;exact Y1c
 ·cases h;exact Y1b
 ·cases h;exact Y1a
 ·cases h;exact Y19
 ·cases h;exact Y18
 ·cases h;exact Y17
 ·cases h;exact Y16
 ·cases h;exact Y15
 ·cases h;exact Y14
 ·cases h;exact Y13
 ·cases h;exact Y12
 ·cases h;exact Y11
 ·cases h;exact Y10
 ·cases h;exact Y0z
 ·cases h;exact Y0y
 ·cases h;exact Y0x
 ·cases h;exact Y0w
 ·cases h;exact Y0v
 ·cases h;exact Y0u
 ·cases h;exact Y0t
 ·cases h;exact Y0s
 ·cases h;exact Y0r
 ·cases h;exact Y0q
 ·cases h;exact Y0p
 ·cases h;exact Y0o
 ·cases h;exact Y0n
 ·cases h;exact Y0m
 ·cases h;exact Y0l
 ·cases h;exact Y0k
 ·cases h;exact Y0j
 ·cases h;exact Y0i
 ·cases h;exact Y0h
 ·cases h;exact Y0g
 ·cases h;exact Y0f
 ·cases h;exact Y0e
 ·cases h;exact Y0d
 ·cases h;exact Y0c
 ·cases h;exact Y0b
 ·cases h;exact Y0a
 ·cases h;exact Y09
 ·cases h;exact Y08
 ·cases h;exact Y07
 ·cases h;exact Y06
 ·cases h;exact Y05
 ·cases h;exact Y04
 ·cases h;exact Y03
 ·cases h;exact Y02
 ·cases h;exact Y01
 ·cases h;exact Y00
 ·cases h;exact V9z
 ·cases h;exact V9y
 ·cases h;exact V9x
 ·cases h;exact V9w
 ·cases h;exact V9v
 ·cases h;exact V9u
 ·cases h
theorem W7t:Tryz.prog.follows .mixedOrders=true:=rfl
end Go.Proofs.YtfhpjeogjcfkaaaGreat
