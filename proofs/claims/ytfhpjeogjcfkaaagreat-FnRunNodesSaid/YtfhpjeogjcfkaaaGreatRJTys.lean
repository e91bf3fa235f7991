import Derived.KernelRfl
import Derived.Test.YtfhpjeogjcfkaaaGreatProg
import Derived.Test.YtfhpjeogjcfkaaaGreatRJE1
set_option linter.unusedSimpArgs false
set_option linter.unusedVariables false
namespace Go.Proofs.YtfhpjeogjcfkaaaGreat
open Go Go.RowKit
def ti2:TyI:=⟨.int .i64,1,8,[(.int .i64 0)],false⟩
theorem ty2:TyOk Tryz.prog 2 ti2:=TyOk.of Tryz.underlying2 (show TK.ok _ (.int .i64) _ from rfl) (.int .i64 0) (by kernel_rfl) rfl rfl rfl rfl (by decide) (fun h=>by cases h)
def ti3:TyI:=⟨.int .i64,1,8,[(.int .i64 0)],false⟩
theorem ty3:TyOk Tryz.prog 3 ti3:=TyOk.of Tryz.underlying3 (show TK.ok _ (.int .i64) _ from rfl) (.int .i64 0) (by kernel_rfl) rfl rfl rfl rfl (by decide) (fun h=>by cases h)
def ti4:TyI:=⟨.bool,1,1,[(.bool false)],false⟩
theorem ty4:TyOk Tryz.prog 4 ti4:=TyOk.of Tryz.underlying4 (show TK.ok _ (.bool) _ from rfl) (.bool false) (by kernel_rfl) rfl rfl rfl rfl (by decide) (fun h=>by cases h)
def ti5:TyI:=⟨.int .u8,1,1,[(.int .u8 0)],false⟩
theorem ty5:TyOk Tryz.prog 5 ti5:=TyOk.of Tryz.underlying5 (show TK.ok _ (.int .u8) _ from rfl) (.int .u8 0) (by kernel_rfl) rfl rfl rfl rfl (by decide) (fun h=>by cases h)
def ti6:TyI:=⟨.int .u8,1,1,[(.int .u8 0)],false⟩
theorem ty6:TyOk Tryz.prog 6 ti6:=TyOk.of Tryz.underlying6 (show TK.ok _ (.int .u8) _ from rfl) (.int .u8 0) (by kernel_rfl) rfl rfl rfl rfl (by decide) (fun h=>by cases h)
def ti7:TyI:=⟨.struct [(0,2,1),(1,3,1),(2,4,1),(3,6,1)],4,24,[(.int .i64 0),(.int .i64 0),(.bool false),(.int .u8 0)],false⟩
theorem ty7:TyOk Tryz.prog 7 ti7:=TyOk.of Tryz.underlying7 (show TK.ok _ (.struct [(0,2,1),(1,3,1),(2,4,1),(3,6,1)]) _ from ⟨_,rfl,rfl,fun x hx=>by simp only [U8,List.not_mem_nil,or_false] at hx;rcases hx with rfl | rfl | rfl | rfl<;>exact ⟨by kernel_rfl,by decide⟩⟩) (.agg #[(.int .i64 0),(.int .i64 0),(.bool false),(.int .u8 0)]) (by kernel_rfl) rfl rfl rfl rfl (by decide) (fun h=>by cases h)
def ti8:TyI:=⟨.struct [(0,2,1),(1,3,1),(2,4,1),(3,6,1)],4,24,[(.int .i64 0),(.int .i64 0),(.bool false),(.int .u8 0)],false⟩
theorem ty8:TyOk Tryz.prog 8 ti8:=TyOk.of Tryz.underlying8 (show TK.ok _ (.struct [(0,2,1),(1,3,1),(2,4,1),(3,6,1)]) _ from ⟨_,rfl,rfl,fun x hx=>by simp only [U8,List.not_mem_nil,or_false] at hx;rcases hx with rfl | rfl | rfl | rfl<;>exact ⟨by kernel_rfl,by decide⟩⟩) (.agg #[(.int .i64 0),(.int .i64 0),(.bool false),(.int .u8 0)]) (by kernel_rfl) rfl rfl rfl rfl (by decide) (fun h=>by cases h)
def ti9:TyI:=⟨.string,1,16,[(.string .empty)],false⟩
theorem ty9:TyOk Tryz.prog 9 ti9:=TyOk.of Tryz.underlying9 (show TK.ok _ (.string) _ from rfl) (.string .empty) (by kernel_rfl) rfl rfl rfl rfl (by decide) (fun h=>by cases h)
def ti10:TyI:=⟨.string,1,16,[(.string .empty)],false⟩
theorem ty10:TyOk Tryz.prog 10 ti10:=TyOk.of Tryz.underlying10 (show TK.ok _ (.string) _ from rfl) (.string .empty) (by kernel_rfl) rfl rfl rfl rfl (by decide) (fun h=>by cases h)
def ti11:TyI:=⟨.string,1,16,[(.string .empty)],false⟩
theorem ty11:TyOk Tryz.prog 11 ti11:=TyOk.of Tryz.underlying11 (show TK.ok _ (.string) _ from rfl) (.string .empty) (by kernel_rfl) rfl rfl rfl rfl (by decide) (fun h=>by cases h)
def ti12:TyI:=⟨.int .u64,1,8,[(.int .u64 0)],false⟩
theorem ty12:TyOk Tryz.prog 12 ti12:=TyOk.of Tryz.underlying12 (show TK.ok _ (.int .u64) _ from rfl) (.int .u64 0) (by kernel_rfl) rfl rfl rfl rfl (by decide) (fun h=>by cases h)
def ti13:TyI:=⟨.struct [(0,9,1),(1,12,1)],2,24,[(.string .empty),(.int .u64 0)],false⟩
theorem ty13:TyOk Tryz.prog 13 ti13:=TyOk.of Tryz.underlying13 (show TK.ok _ (.struct [(0,9,1),(1,12,1)]) _ from ⟨_,rfl,rfl,fun x hx=>by simp only [U8,List.not_mem_nil,or_false] at hx;rcases hx with rfl | rfl<;>exact ⟨by kernel_rfl,by decide⟩⟩) (.agg #[(.string .empty),(.int .u64 0)]) (by kernel_rfl) rfl rfl rfl rfl (by decide) (fun h=>by cases h)
def ti14:TyI:=⟨.struct [(0,9,1),(1,12,1)],2,24,[(.string .empty),(.int .u64 0)],false⟩
theorem ty14:TyOk Tryz.prog 14 ti14:=TyOk.of Tryz.underlying14 (show TK.ok _ (.struct [(0,9,1),(1,12,1)]) _ from ⟨_,rfl,rfl,fun x hx=>by simp only [U8,List.not_mem_nil,or_false] at hx;rcases hx with rfl | rfl<;>exact ⟨by kernel_rfl,by decide⟩⟩) (.agg #[(.string .empty),(.int .u64 0)]) (by kernel_rfl) rfl rfl rfl rfl (by decide) (fun h=>by cases h)
def ti15:TyI:=⟨.pointer 407,1,8,[(.pointer none)],false⟩
theorem ty15:TyOk Tryz.prog 15 ti15:=TyOk.of Tryz.underlying15 (show TK.ok _ (.pointer 407) _ from rfl) (.pointer none) (by kernel_rfl) rfl rfl rfl rfl (by decide) (fun h=>by cases h)
def ti16:TyI:=⟨.pointer 410,1,8,[(.pointer none)],false⟩
theorem ty16:TyOk Tryz.prog 16 ti16:=TyOk.of Tryz.underlying16 (show TK.ok _ (.pointer 410) _ from rfl) (.pointer none) (by kernel_rfl) rfl rfl rfl rfl (by decide) (fun h=>by cases h)
def ti17:TyI:=⟨.pointer 418,1,8,[(.pointer none)],false⟩
theorem ty17:TyOk Tryz.prog 17 ti17:=TyOk.of Tryz.underlying17 (show TK.ok _ (.pointer 418) _ from rfl) (.pointer none) (by kernel_rfl) rfl rfl rfl rfl (by decide) (fun h=>by cases h)
def ti18:TyI:=⟨.struct [(0,17,1)],1,8,[(.pointer none)],false⟩
theorem ty18:TyOk Tryz.prog 18 ti18:=TyOk.of Tryz.underlying18 (show TK.ok _ (.struct [(0,17,1)]) _ from ⟨_,rfl,rfl,fun x hx=>by simp only [U8,List.not_mem_nil,or_false] at hx;rcases hx with rfl<;>exact ⟨by kernel_rfl,by decide⟩⟩) (.agg #[(.pointer none)]) (by kernel_rfl) rfl rfl rfl rfl (by decide) (fun h=>by cases h)
def ti19:TyI:=⟨.struct [(0,17,1)],1,8,[(.pointer none)],false⟩
theorem ty19:TyOk Tryz.prog 19 ti19:=TyOk.of Tryz.underlying19 (show TK.ok _ (.struct [(0,17,1)]) _ from ⟨_,rfl,rfl,fun x hx=>by simp only [U8,List.not_mem_nil,or_false] at hx;rcases hx with rfl<;>exact ⟨by kernel_rfl,by decide⟩⟩) (.agg #[(.pointer none)]) (by kernel_rfl) rfl rfl rfl rfl (by decide) (fun h=>by cases h)
def ti21:TyI:=⟨.int .i32,1,4,[(.int .i32 0)],false⟩
theorem ty21:TyOk Tryz.prog 21 ti21:=TyOk.of Tryz.underlying21 (show TK.ok _ (.int .i32) _ from rfl) (.int .i32 0) (by kernel_rfl) rfl rfl rfl rfl (by decide) (fun h=>by cases h)
def ti22:TyI:=⟨.slice 5,1,24,[(.slice none 0 0)],false⟩
theorem ty22:TyOk Tryz.prog 22 ti22:=TyOk.of Tryz.underlying22 (show TK.ok _ (.slice 5) _ from rfl) (.slice none 0 0) (by kernel_rfl) rfl rfl rfl rfl (by decide) (fun h=>by cases h)
def ti23:TyI:=⟨.slice 273,1,24,[(.slice none 0 0)],false⟩
theorem ty23:TyOk Tryz.prog 23 ti23:=TyOk.of Tryz.underlying23 (show TK.ok _ (.slice 273) _ from rfl) (.slice none 0 0) (by kernel_rfl) rfl rfl rfl rfl (by decide) (fun h=>by cases h)
def ti24:TyI:=⟨.struct [(0,3,1),(1,3,1)],2,16,[(.int .i64 0),(.int .i64 0)],false⟩
theorem ty24:TyOk Tryz.prog 24 ti24:=TyOk.of Tryz.underlying24 (show TK.ok _ (.struct [(0,3,1),(1,3,1)]) _ from ⟨_,rfl,rfl,fun x hx=>by simp only [U8,List.not_mem_nil,or_false] at hx;rcases hx with rfl | rfl<;>exact ⟨by kernel_rfl,by decide⟩⟩) (.agg #[(.int .i64 0),(.int .i64 0)]) (by kernel_rfl) rfl rfl rfl rfl (by decide) (fun h=>by cases h)
def ti25:TyI:=⟨.struct [(0,3,1),(1,3,1)],2,16,[(.int .i64 0),(.int .i64 0)],true⟩
theorem ty25:TyOk Tryz.prog 25 ti25:=TyOk.of Tryz.underlying25 (show TK.ok _ (.struct [(0,3,1),(1,3,1)]) _ from ⟨_,rfl,rfl,fun x hx=>by simp only [U8,List.not_mem_nil,or_false] at hx;rcases hx with rfl | rfl<;>exact ⟨by kernel_rfl,by decide⟩⟩) (.agg #[(.int .i64 0),(.int .i64 0)]) (by kernel_rfl) rfl rfl rfl rfl (by decide) (fun _ fs h=>by cases h;exact ⟨by kernel_rfl,by kernel_rfl,by kernel_rfl,by kernel_rfl⟩)
def ti26:TyI:=⟨.slice 161,1,24,[(.slice none 0 0)],false⟩
theorem ty26:TyOk Tryz.prog 26 ti26:=TyOk.of Tryz.underlying26 (show TK.ok _ (.slice 161) _ from rfl) (.slice none 0 0) (by kernel_rfl) rfl rfl rfl rfl (by decide) (fun h=>by cases h)
def ti27:TyI:=⟨.slice 29,1,24,[(.slice none 0 0)],false⟩
theorem ty27:TyOk Tryz.prog 27 ti27:=TyOk.of Tryz.underlying27 (show TK.ok _ (.slice 29) _ from rfl) (.slice none 0 0) (by kernel_rfl) rfl rfl rfl rfl (by decide) (fun h=>by cases h)
def ti28:TyI:=⟨.struct [(0,3,1),(1,3,1),(2,27,1)],3,40,[(.int .i64 0),(.int .i64 0),(.slice none 0 0)],false⟩
theorem ty28:TyOk Tryz.prog 28 ti28:=TyOk.of Tryz.underlying28 (show TK.ok _ (.struct [(0,3,1),(1,3,1),(2,27,1)]) _ from ⟨_,rfl,rfl,fun x hx=>by simp only [U8,List.not_mem_nil,or_false] at hx;rcases hx with rfl | rfl | rfl<;>exact ⟨by kernel_rfl,by decide⟩⟩) (.agg #[(.int .i64 0),(.int .i64 0),(.slice none 0 0)]) (by kernel_rfl) rfl rfl rfl rfl (by decide) (fun h=>by cases h)
def ti29:TyI:=⟨.struct [(0,3,1),(1,3,1),(2,27,1)],3,40,[(.int .i64 0),(.int .i64 0),(.slice none 0 0)],false⟩
theorem ty29:TyOk Tryz.prog 29 ti29:=TyOk.of Tryz.underlying29 (show TK.ok _ (.struct [(0,3,1),(1,3,1),(2,27,1)]) _ from ⟨_,rfl,rfl,fun x hx=>by simp only [U8,List.not_mem_nil,or_false] at hx;rcases hx with rfl | rfl | rfl<;>exact ⟨by kernel_rfl,by decide⟩⟩) (.agg #[(.int .i64 0),(.int .i64 0),(.slice none 0 0)]) (by kernel_rfl) rfl rfl rfl rfl (by decide) (fun h=>by cases h)
def ti32:TyI:=⟨.slice 87,1,24,[(.slice none 0 0)],false⟩
theorem ty32:TyOk Tryz.prog 32 ti32:=TyOk.of Tryz.underlying32 (show TK.ok _ (.slice 87) _ from rfl) (.slice none 0 0) (by kernel_rfl) rfl rfl rfl rfl (by decide) (fun h=>by cases h)
def ti43:TyI:=⟨.slice 149,1,24,[(.slice none 0 0)],false⟩
theorem ty43:TyOk Tryz.prog 43 ti43:=TyOk.of Tryz.underlying43 (show TK.ok _ (.slice 149) _ from rfl) (.slice none 0 0) (by kernel_rfl) rfl rfl rfl rfl (by decide) (fun h=>by cases h)
def ti44:TyI:=⟨.slice 3,1,24,[(.slice none 0 0)],false⟩
theorem ty44:TyOk Tryz.prog 44 ti44:=TyOk.of Tryz.underlying44 (show TK.ok _ (.slice 3) _ from rfl) (.slice none 0 0) (by kernel_rfl) rfl rfl rfl rfl (by decide) (fun h=>by cases h)
def ti45:TyI:=⟨.slice 179,1,24,[(.slice none 0 0)],false⟩
theorem ty45:TyOk Tryz.prog 45 ti45:=TyOk.of Tryz.underlying45 (show TK.ok _ (.slice 179) _ from rfl) (.slice none 0 0) (by kernel_rfl) rfl rfl rfl rfl (by decide) (fun h=>by cases h)
def ti46:TyI:=⟨.slice 48,1,24,[(.slice none 0 0)],false⟩
theorem ty46:TyOk Tryz.prog 46 ti46:=TyOk.of Tryz.underlying46 (show TK.ok _ (.slice 48) _ from rfl) (.slice none 0 0) (by kernel_rfl) rfl rfl rfl rfl (by decide) (fun h=>by cases h)
def ti47:TyI:=⟨.struct [(0,3,1),(1,3,1),(2,43,1),(3,44,1),(4,45,1),(5,46,1)],6,112,[(.int .i64 0),(.int .i64 0),(.slice none 0 0),(.slice none 0 0),(.slice none 0 0),(.slice none 0 0)],false⟩
theorem ty47:TyOk Tryz.prog 47 ti47:=TyOk.of Tryz.underlying47 (show TK.ok _ (.struct [(0,3,1),(1,3,1),(2,43,1),(3,44,1),(4,45,1),(5,46,1)]) _ from ⟨_,rfl,rfl,fun x hx=>by simp only [U8,List.not_mem_nil,or_false] at hx;rcases hx with rfl | rfl | rfl | rfl | rfl | rfl<;>exact ⟨by kernel_rfl,by decide⟩⟩) (.agg #[(.int .i64 0),(.int .i64 0),(.slice none 0 0),(.slice none 0 0),(.slice none 0 0),(.slice none 0 0)]) (by kernel_rfl) rfl rfl rfl rfl (by decide) (fun h=>by cases h)
def ti48:TyI:=⟨.struct [(0,3,1),(1,3,1),(2,43,1),(3,44,1),(4,45,1),(5,46,1)],6,112,[(.int .i64 0),(.int .i64 0),(.slice none 0 0),(.slice none 0 0),(.slice none 0 0),(.slice none 0 0)],false⟩
theorem ty48:TyOk Tryz.prog 48 ti48:=TyOk.of Tryz.underlying48 (show TK.ok _ (.struct [(0,3,1),(1,3,1),(2,43,1),(3,44,1),(4,45,1),(5,46,1)]) _ from ⟨_,rfl,rfl,fun x hx=>by simp only [U8,List.not_mem_nil,or_false] at hx;rcases hx with rfl | rfl | rfl | rfl | rfl | rfl<;>exact ⟨by kernel_rfl,by decide⟩⟩) (.agg #[(.int .i64 0),(.int .i64 0),(.slice none 0 0),(.slice none 0 0),(.slice none 0 0),(.slice none 0 0)]) (by kernel_rfl) rfl rfl rfl rfl (by decide) (fun h=>by cases h)
def ti51:TyI:=⟨.slice 177,1,24,[(.slice none 0 0)],false⟩
theorem ty51:TyOk Tryz.prog 51 ti51:=TyOk.of Tryz.underlying51 (show TK.ok _ (.slice 177) _ from rfl) (.slice none 0 0) (by kernel_rfl) rfl rfl rfl rfl (by decide) (fun h=>by cases h)
def ti57:TyI:=⟨.slice 44,1,24,[(.slice none 0 0)],false⟩
theorem ty57:TyOk Tryz.prog 57 ti57:=TyOk.of Tryz.underlying57 (show TK.ok _ (.slice 44) _ from rfl) (.slice none 0 0) (by kernel_rfl) rfl rfl rfl rfl (by decide) (fun h=>by cases h)
def ti77:TyI:=⟨.slice 82,1,24,[(.slice none 0 0)],false⟩
theorem ty77:TyOk Tryz.prog 77 ti77:=TyOk.of Tryz.underlying77 (show TK.ok _ (.slice 82) _ from rfl) (.slice none 0 0) (by kernel_rfl) rfl rfl rfl rfl (by decide) (fun h=>by cases h)
def ti81:TyI:=⟨.struct [(0,3,1),(1,44,1),(2,3,1),(3,3,1),(4,3,1),(5,3,1),(6,43,1),(7,3,1)],8,96,[(.int .i64 0),(.slice none 0 0),(.int .i64 0),(.int .i64 0),(.int .i64 0),(.int .i64 0),(.slice none 0 0),(.int .i64 0)],false⟩
theorem ty81:TyOk Tryz.prog 81 ti81:=TyOk.of Tryz.underlying81 (show TK.ok _ (.struct [(0,3,1),(1,44,1),(2,3,1),(3,3,1),(4,3,1),(5,3,1),(6,43,1),(7,3,1)]) _ from ⟨_,rfl,rfl,fun x hx=>by simp only [U8,List.not_mem_nil,or_false] at hx;rcases hx with rfl | rfl | rfl | rfl | rfl | rfl | rfl | rfl<;>exact ⟨by kernel_rfl,by decide⟩⟩) (.agg #[(.int .i64 0),(.slice none 0 0),(.int .i64 0),(.int .i64 0),(.int .i64 0),(.int .i64 0),(.slice none 0 0),(.int .i64 0)]) (by kernel_rfl) rfl rfl rfl rfl (by decide) (fun h=>by cases h)
def ti82:TyI:=⟨.struct [(0,3,1),(1,44,1),(2,3,1),(3,3,1),(4,3,1),(5,3,1),(6,43,1),(7,3,1)],8,96,[(.int .i64 0),(.slice none 0 0),(.int .i64 0),(.int .i64 0),(.int .i64 0),(.int .i64 0),(.slice none 0 0),(.int .i64 0)],false⟩
theorem ty82:TyOk Tryz.prog 82 ti82:=TyOk.of Tryz.underlying82 (show TK.ok _ (.struct [(0,3,1),(1,44,1),(2,3,1),(3,3,1),(4,3,1),(5,3,1),(6,43,1),(7,3,1)]) _ from ⟨_,rfl,rfl,fun x hx=>by simp only [U8,List.not_mem_nil,or_false] at hx;rcases hx with rfl | rfl | rfl | rfl | rfl | rfl | rfl | rfl<;>exact ⟨by kernel_rfl,by decide⟩⟩) (.agg #[(.int .i64 0),(.slice none 0 0),(.int .i64 0),(.int .i64 0),(.int .i64 0),(.int .i64 0),(.slice none 0 0),(.int .i64 0)]) (by kernel_rfl) rfl rfl rfl rfl (by decide) (fun h=>by cases h)
def ti86:TyI:=⟨.struct [(0,3,1),(1,29,3)],4,48,[(.int .i64 0),(.int .i64 0),(.int .i64 0),(.slice none 0 0)],false⟩
theorem ty86:TyOk Tryz.prog 86 ti86:=TyOk.of Tryz.underlying86 (show TK.ok _ (.struct [(0,3,1),(1,29,3)]) _ from ⟨_,rfl,rfl,fun x hx=>by simp only [U8,List.not_mem_nil,or_false] at hx;rcases hx with rfl | rfl<;>exact ⟨by kernel_rfl,by decide⟩⟩) (.agg #[(.int .i64 0),(.int .i64 0),(.int .i64 0),(.slice none 0 0)]) (by kernel_rfl) rfl rfl rfl rfl (by decide) (fun h=>by cases h)
def ti87:TyI:=⟨.struct [(0,3,1),(1,29,3)],4,48,[(.int .i64 0),(.int .i64 0),(.int .i64 0),(.slice none 0 0)],false⟩
theorem ty87:TyOk Tryz.prog 87 ti87:=TyOk.of Tryz.underlying87 (show TK.ok _ (.struct [(0,3,1),(1,29,3)]) _ from ⟨_,rfl,rfl,fun x hx=>by simp only [U8,List.not_mem_nil,or_false] at hx;rcases hx with rfl | rfl<;>exact ⟨by kernel_rfl,by decide⟩⟩) (.agg #[(.int .i64 0),(.int .i64 0),(.int .i64 0),(.slice none 0 0)]) (by kernel_rfl) rfl rfl rfl rfl (by decide) (fun h=>by cases h)
def ti94:TyI:=⟨.slice 98,1,24,[(.slice none 0 0)],false⟩
theorem ty94:TyOk Tryz.prog 94 ti94:=TyOk.of Tryz.underlying94 (show TK.ok _ (.slice 98) _ from rfl) (.slice none 0 0) (by kernel_rfl) rfl rfl rfl rfl (by decide) (fun h=>by cases h)
def ti97:TyI:=⟨.slice 102,1,24,[(.slice none 0 0)],false⟩
theorem ty97:TyOk Tryz.prog 97 ti97:=TyOk.of Tryz.underlying97 (show TK.ok _ (.slice 102) _ from rfl) (.slice none 0 0) (by kernel_rfl) rfl rfl rfl rfl (by decide) (fun h=>by cases h)
def ti98:TyI:=⟨.slice 100,1,24,[(.slice none 0 0)],false⟩
theorem ty98:TyOk Tryz.prog 98 ti98:=TyOk.of Tryz.underlying98 (show TK.ok _ (.slice 100) _ from rfl) (.slice none 0 0) (by kernel_rfl) rfl rfl rfl rfl (by decide) (fun h=>by cases h)
def ti99:TyI:=⟨.struct [(0,3,1),(1,3,1),(2,3,1),(3,3,1),(4,3,1),(5,98,1)],6,64,[(.int .i64 0),(.int .i64 0),(.int .i64 0),(.int .i64 0),(.int .i64 0),(.slice none 0 0)],false⟩
theorem ty99:TyOk Tryz.prog 99 ti99:=TyOk.of Tryz.underlying99 (show TK.ok _ (.struct [(0,3,1),(1,3,1),(2,3,1),(3,3,1),(4,3,1),(5,98,1)]) _ from ⟨_,rfl,rfl,fun x hx=>by simp only [U8,List.not_mem_nil,or_false] at hx;rcases hx with rfl | rfl | rfl | rfl | rfl | rfl<;>exact ⟨by kernel_rfl,by decide⟩⟩) (.agg #[(.int .i64 0),(.int .i64 0),(.int .i64 0),(.int .i64 0),(.int .i64 0),(.slice none 0 0)]) (by kernel_rfl) rfl rfl rfl rfl (by decide) (fun h=>by cases h)
def V3w:TyI:=⟨.struct [(0,3,1),(1,3,1),(2,3,1),(3,3,1),(4,3,1),(5,98,1)],6,64,[(.int .i64 0),(.int .i64 0),(.int .i64 0),(.int .i64 0),(.int .i64 0),(.slice none 0 0)],false⟩
theorem V9f:TyOk Tryz.prog 100 V3w:=TyOk.of Tryz.underlying100 (show TK.ok _ (.struct [(0,3,1),(1,3,1),(2,3,1),(3,3,1),(4,3,1),(5,98,1)]) _ from ⟨_,rfl,rfl,fun x hx=>by simp only [U8,List.not_mem_nil,or_false] at hx;rcases hx with rfl | rfl | rfl | rfl | rfl | rfl<;>exact ⟨by kernel_rfl,by decide⟩⟩) (.agg #[(.int .i64 0),(.int .i64 0),(.int .i64 0),(.int .i64 0),(.int .i64 0),(.slice none 0 0)]) (by kernel_rfl) rfl rfl rfl rfl (by decide) (fun h=>by cases h)
def V3v:TyI:=⟨.struct [(0,3,1),(1,98,1),(2,43,1)],3,56,[(.int .i64 0),(.slice none 0 0),(.slice none 0 0)],false⟩
theorem V9e:TyOk Tryz.prog 101 V3v:=TyOk.of Tryz.underlying101 (show TK.ok _ (.struct [(0,3,1),(1,98,1),(2,43,1)]) _ from ⟨_,rfl,rfl,fun x hx=>by simp only [U8,List.not_mem_nil,or_false] at hx;rcases hx with rfl | rfl | rfl<;>exact ⟨by kernel_rfl,by decide⟩⟩) (.agg #[(.int .i64 0),(.slice none 0 0),(.slice none 0 0)]) (by kernel_rfl) rfl rfl rfl rfl (by decide) (fun h=>by cases h)
def V3u:TyI:=⟨.struct [(0,3,1),(1,98,1),(2,43,1)],3,56,[(.int .i64 0),(.slice none 0 0),(.slice none 0 0)],false⟩
theorem V9d:TyOk Tryz.prog 102 V3u:=TyOk.of Tryz.underlying102 (show TK.ok _ (.struct [(0,3,1),(1,98,1),(2,43,1)]) _ from ⟨_,rfl,rfl,fun x hx=>by simp only [U8,List.not_mem_nil,or_false] at hx;rcases hx with rfl | rfl | rfl<;>exact ⟨by kernel_rfl,by decide⟩⟩) (.agg #[(.int .i64 0),(.slice none 0 0),(.slice none 0 0)]) (by kernel_rfl) rfl rfl rfl rfl (by decide) (fun h=>by cases h)
def V3t:TyI:=⟨.pointer 108,1,8,[(.pointer none)],false⟩
theorem V9c:TyOk Tryz.prog 104 V3t:=TyOk.of Tryz.underlying104 (show TK.ok _ (.pointer 108) _ from rfl) (.pointer none) (by kernel_rfl) rfl rfl rfl rfl (by decide) (fun h=>by cases h)
def V3s:TyI:=⟨.pointer 190,1,8,[(.pointer none)],false⟩
theorem V9b:TyOk Tryz.prog 105 V3s:=TyOk.of Tryz.underlying105 (show TK.ok _ (.pointer 190) _ from rfl) (.pointer none) (by kernel_rfl) rfl rfl rfl rfl (by decide) (fun h=>by cases h)
def V3r:TyI:=⟨.struct [(0,105,1),(1,26,1),(2,3,1),(3,3,1)],4,48,[(.pointer none),(.slice none 0 0),(.int .i64 0),(.int .i64 0)],false⟩
theorem V9a:TyOk Tryz.prog 107 V3r:=TyOk.of Tryz.underlying107 (show TK.ok _ (.struct [(0,105,1),(1,26,1),(2,3,1),(3,3,1)]) _ from ⟨_,rfl,rfl,fun x hx=>by simp only [U8,List.not_mem_nil,or_false] at hx;rcases hx with rfl | rfl | rfl | rfl<;>exact ⟨by kernel_rfl,by decide⟩⟩) (.agg #[(.pointer none),(.slice none 0 0),(.int .i64 0),(.int .i64 0)]) (by kernel_rfl) rfl rfl rfl rfl (by decide) (fun h=>by cases h)
def V3q:TyI:=⟨.struct [(0,105,1),(1,26,1),(2,3,1),(3,3,1)],4,48,[(.pointer none),(.slice none 0 0),(.int .i64 0),(.int .i64 0)],false⟩
theorem V99:TyOk Tryz.prog 108 V3q:=TyOk.of Tryz.underlying108 (show TK.ok _ (.struct [(0,105,1),(1,26,1),(2,3,1),(3,3,1)]) _ from ⟨_,rfl,rfl,fun x hx=>by simp only [U8,List.not_mem_nil,or_false] at hx;rcases hx with rfl | rfl | rfl | rfl<;>exact ⟨by kernel_rfl,by decide⟩⟩) (.agg #[(.pointer none),(.slice none 0 0),(.int .i64 0),(.int .i64 0)]) (by kernel_rfl) rfl rfl rfl rfl (by decide) (fun h=>by cases h)
def V3p:TyI:=⟨.struct [(0,44,1),(1,25,2)],3,40,[(.slice none 0 0),(.int .i64 0),(.int .i64 0)],false⟩
theorem V98:TyOk Tryz.prog 110 V3p:=TyOk.of Tryz.underlying110 (show TK.ok _ (.struct [(0,44,1),(1,25,2)]) _ from ⟨_,rfl,rfl,fun x hx=>by simp only [U8,List.not_mem_nil,or_false] at hx;rcases hx with rfl | rfl<;>exact ⟨by kernel_rfl,by decide⟩⟩) (.agg #[(.slice none 0 0),(.int .i64 0),(.int .i64 0)]) (by kernel_rfl) rfl rfl rfl rfl (by decide) (fun h=>by cases h)
def V3o:TyI:=⟨.struct [(0,44,1),(1,25,2)],3,40,[(.slice none 0 0),(.int .i64 0),(.int .i64 0)],false⟩
theorem V97:TyOk Tryz.prog 111 V3o:=TyOk.of Tryz.underlying111 (show TK.ok _ (.struct [(0,44,1),(1,25,2)]) _ from ⟨_,rfl,rfl,fun x hx=>by simp only [U8,List.not_mem_nil,or_false] at hx;rcases hx with rfl | rfl<;>exact ⟨by kernel_rfl,by decide⟩⟩) (.agg #[(.slice none 0 0),(.int .i64 0),(.int .i64 0)]) (by kernel_rfl) rfl rfl rfl rfl (by decide) (fun h=>by cases h)
def V3n:TyI:=⟨.slice 111,1,24,[(.slice none 0 0)],false⟩
theorem V96:TyOk Tryz.prog 112 V3n:=TyOk.of Tryz.underlying112 (show TK.ok _ (.slice 111) _ from rfl) (.slice none 0 0) (by kernel_rfl) rfl rfl rfl rfl (by decide) (fun h=>by cases h)
def V3m:TyI:=⟨.pointer 51,1,8,[(.pointer none)],false⟩
theorem V95:TyOk Tryz.prog 117 V3m:=TyOk.of Tryz.underlying117 (show TK.ok _ (.pointer 51) _ from rfl) (.pointer none) (by kernel_rfl) rfl rfl rfl rfl (by decide) (fun h=>by cases h)
def V3l:TyI:=⟨.pointer 215,1,8,[(.pointer none)],false⟩
theorem V94:TyOk Tryz.prog 128 V3l:=TyOk.of Tryz.underlying128 (show TK.ok _ (.pointer 215) _ from rfl) (.pointer none) (by kernel_rfl) rfl rfl rfl rfl (by decide) (fun h=>by cases h)
def V3k:TyI:=⟨.array 8 4,8,8,[(.bool false),(.bool false),(.bool false),(.bool false),(.bool false),(.bool false),(.bool false),(.bool false)],false⟩
theorem V93:TyOk Tryz.prog 137 V3k:=TyOk.of Tryz.underlying137 (show TK.ok _ (.array 8 4) _ from rfl) (.agg #[(.bool false),(.bool false),(.bool false),(.bool false),(.bool false),(.bool false),(.bool false),(.bool false)]) (by kernel_rfl) rfl rfl rfl rfl (by decide) (fun h=>by cases h)
def V3j:TyI:=⟨.pointer 77,1,8,[(.pointer none)],false⟩
theorem V92:TyOk Tryz.prog 145 V3j:=TyOk.of Tryz.underlying145 (show TK.ok _ (.pointer 77) _ from rfl) (.pointer none) (by kernel_rfl) rfl rfl rfl rfl (by decide) (fun h=>by cases h)
def V3i:TyI:=⟨.pointer 43,1,8,[(.pointer none)],false⟩
theorem V91:TyOk Tryz.prog 146 V3i:=TyOk.of Tryz.underlying146 (show TK.ok _ (.pointer 43) _ from rfl) (.pointer none) (by kernel_rfl) rfl rfl rfl rfl (by decide) (fun h=>by cases h)
def V3h:TyI:=⟨.struct [(0,3,1),(1,44,1)],2,32,[(.int .i64 0),(.slice none 0 0)],false⟩
theorem V90:TyOk Tryz.prog 148 V3h:=TyOk.of Tryz.underlying148 (show TK.ok _ (.struct [(0,3,1),(1,44,1)]) _ from ⟨_,rfl,rfl,fun x hx=>by simp only [U8,List.not_mem_nil,or_false] at hx;rcases hx with rfl | rfl<;>exact ⟨by kernel_rfl,by decide⟩⟩) (.agg #[(.int .i64 0),(.slice none 0 0)]) (by kernel_rfl) rfl rfl rfl rfl (by decide) (fun h=>by cases h)
def V3g:TyI:=⟨.struct [(0,3,1),(1,44,1)],2,32,[(.int .i64 0),(.slice none 0 0)],false⟩
theorem V8z:TyOk Tryz.prog 149 V3g:=TyOk.of Tryz.underlying149 (show TK.ok _ (.struct [(0,3,1),(1,44,1)]) _ from ⟨_,rfl,rfl,fun x hx=>by simp only [U8,List.not_mem_nil,or_false] at hx;rcases hx with rfl | rfl<;>exact ⟨by kernel_rfl,by decide⟩⟩) (.agg #[(.int .i64 0),(.slice none 0 0)]) (by kernel_rfl) rfl rfl rfl rfl (by decide) (fun h=>by cases h)
def V3f:TyI:=⟨.pointer 3,1,8,[(.pointer none)],false⟩
theorem V8y:TyOk Tryz.prog 153 V3f:=TyOk.of Tryz.underlying153 (show TK.ok _ (.pointer 3) _ from rfl) (.pointer none) (by kernel_rfl) rfl rfl rfl rfl (by decide) (fun h=>by cases h)
def V3e:TyI:=⟨.struct [(0,3,1),(1,3,1),(2,3,1)],3,24,[(.int .i64 0),(.int .i64 0),(.int .i64 0)],false⟩
theorem V8x:TyOk Tryz.prog 158 V3e:=TyOk.of Tryz.underlying158 (show TK.ok _ (.struct [(0,3,1),(1,3,1),(2,3,1)]) _ from ⟨_,rfl,rfl,fun x hx=>by simp only [U8,List.not_mem_nil,or_false] at hx;rcases hx with rfl | rfl | rfl<;>exact ⟨by kernel_rfl,by decide⟩⟩) (.agg #[(.int .i64 0),(.int .i64 0),(.int .i64 0)]) (by kernel_rfl) rfl rfl rfl rfl (by decide) (fun h=>by cases h)
def V3d:TyI:=⟨.struct [(0,3,1),(1,3,1),(2,3,1)],3,24,[(.int .i64 0),(.int .i64 0),(.int .i64 0)],true⟩
theorem V8w:TyOk Tryz.prog 159 V3d:=TyOk.of Tryz.underlying159 (show TK.ok _ (.struct [(0,3,1),(1,3,1),(2,3,1)]) _ from ⟨_,rfl,rfl,fun x hx=>by simp only [U8,List.not_mem_nil,or_false] at hx;rcases hx with rfl | rfl | rfl<;>exact ⟨by kernel_rfl,by decide⟩⟩) (.agg #[(.int .i64 0),(.int .i64 0),(.int .i64 0)]) (by kernel_rfl) rfl rfl rfl rfl (by decide) (fun _ fs h=>by cases h;exact ⟨by kernel_rfl,by kernel_rfl,by kernel_rfl,by kernel_rfl⟩)
def V3c:TyI:=⟨.struct [(0,100,6),(6,159,3)],9,88,[(.int .i64 0),(.int .i64 0),(.int .i64 0),(.int .i64 0),(.int .i64 0),(.slice none 0 0),(.int .i64 0),(.int .i64 0),(.int .i64 0)],false⟩
theorem V8v:TyOk Tryz.prog 160 V3c:=TyOk.of Tryz.underlying160 (show TK.ok _ (.struct [(0,100,6),(6,159,3)]) _ from ⟨_,rfl,rfl,fun x hx=>by simp only [U8,List.not_mem_nil,or_false] at hx;rcases hx with rfl | rfl<;>exact ⟨by kernel_rfl,by decide⟩⟩) (.agg #[(.int .i64 0),(.int .i64 0),(.int .i64 0),(.int .i64 0),(.int .i64 0),(.slice none 0 0),(.int .i64 0),(.int .i64 0),(.int .i64 0)]) (by kernel_rfl) rfl rfl rfl rfl (by decide) (fun h=>by cases h)
def V3b:TyI:=⟨.struct [(0,100,6),(6,159,3)],9,88,[(.int .i64 0),(.int .i64 0),(.int .i64 0),(.int .i64 0),(.int .i64 0),(.slice none 0 0),(.int .i64 0),(.int .i64 0),(.int .i64 0)],false⟩
theorem V8u:TyOk Tryz.prog 161 V3b:=TyOk.of Tryz.underlying161 (show TK.ok _ (.struct [(0,100,6),(6,159,3)]) _ from ⟨_,rfl,rfl,fun x hx=>by simp only [U8,List.not_mem_nil,or_false] at hx;rcases hx with rfl | rfl<;>exact ⟨by kernel_rfl,by decide⟩⟩) (.agg #[(.int .i64 0),(.int .i64 0),(.int .i64 0),(.int .i64 0),(.int .i64 0),(.slice none 0 0),(.int .i64 0),(.int .i64 0),(.int .i64 0)]) (by kernel_rfl) rfl rfl rfl rfl (by decide) (fun h=>by cases h)
def V3a:TyI:=⟨.slice 181,1,24,[(.slice none 0 0)],false⟩
theorem V8t:TyOk Tryz.prog 175 V3a:=TyOk.of Tryz.underlying175 (show TK.ok _ (.slice 181) _ from rfl) (.slice none 0 0) (by kernel_rfl) rfl rfl rfl rfl (by decide) (fun h=>by cases h)
def V39:TyI:=⟨.struct [(0,3,1),(1,3,1),(2,43,1),(3,44,1),(4,175,1),(5,3,1)],6,96,[(.int .i64 0),(.int .i64 0),(.slice none 0 0),(.slice none 0 0),(.slice none 0 0),(.int .i64 0)],false⟩
theorem V8s:TyOk Tryz.prog 176 V39:=TyOk.of Tryz.underlying176 (show TK.ok _ (.struct [(0,3,1),(1,3,1),(2,43,1),(3,44,1),(4,175,1),(5,3,1)]) _ from ⟨_,rfl,rfl,fun x hx=>by simp only [U8,List.not_mem_nil,or_false] at hx;rcases hx with rfl | rfl | rfl | rfl | rfl | rfl<;>exact ⟨by kernel_rfl,by decide⟩⟩) (.agg #[(.int .i64 0),(.int .i64 0),(.slice none 0 0),(.slice none 0 0),(.slice none 0 0),(.int .i64 0)]) (by kernel_rfl) rfl rfl rfl rfl (by decide) (fun h=>by cases h)
def V38:TyI:=⟨.struct [(0,3,1),(1,3,1),(2,43,1),(3,44,1),(4,175,1),(5,3,1)],6,96,[(.int .i64 0),(.int .i64 0),(.slice none 0 0),(.slice none 0 0),(.slice none 0 0),(.int .i64 0)],false⟩
theorem V8r:TyOk Tryz.prog 177 V38:=TyOk.of Tryz.underlying177 (show TK.ok _ (.struct [(0,3,1),(1,3,1),(2,43,1),(3,44,1),(4,175,1),(5,3,1)]) _ from ⟨_,rfl,rfl,fun x hx=>by simp only [U8,List.not_mem_nil,or_false] at hx;rcases hx with rfl | rfl | rfl | rfl | rfl | rfl<;>exact ⟨by kernel_rfl,by decide⟩⟩) (.agg #[(.int .i64 0),(.int .i64 0),(.slice none 0 0),(.slice none 0 0),(.slice none 0 0),(.int .i64 0)]) (by kernel_rfl) rfl rfl rfl rfl (by decide) (fun h=>by cases h)
def V37:TyI:=⟨.struct [(0,3,1),(1,3,1),(2,3,1),(3,48,6)],9,136,[(.int .i64 0),(.int .i64 0),(.int .i64 0),(.int .i64 0),(.int .i64 0),(.slice none 0 0),(.slice none 0 0),(.slice none 0 0),(.slice none 0 0)],false⟩
theorem V8q:TyOk Tryz.prog 178 V37:=TyOk.of Tryz.underlying178 (show TK.ok _ (.struct [(0,3,1),(1,3,1),(2,3,1),(3,48,6)]) _ from ⟨_,rfl,rfl,fun x hx=>by simp only [U8,List.not_mem_nil,or_false] at hx;rcases hx with rfl | rfl | rfl | rfl<;>exact ⟨by kernel_rfl,by decide⟩⟩) (.agg #[(.int .i64 0),(.int .i64 0),(.int .i64 0),(.int .i64 0),(.int .i64 0),(.slice none 0 0),(.slice none 0 0),(.slice none 0 0),(.slice none 0 0)]) (by kernel_rfl) rfl rfl rfl rfl (by decide) (fun h=>by cases h)
def V36:TyI:=⟨.struct [(0,3,1),(1,3,1),(2,3,1),(3,48,6)],9,136,[(.int .i64 0),(.int .i64 0),(.int .i64 0),(.int .i64 0),(.int .i64 0),(.slice none 0 0),(.slice none 0 0),(.slice none 0 0),(.slice none 0 0)],false⟩
theorem V8p:TyOk Tryz.prog 179 V36:=TyOk.of Tryz.underlying179 (show TK.ok _ (.struct [(0,3,1),(1,3,1),(2,3,1),(3,48,6)]) _ from ⟨_,rfl,rfl,fun x hx=>by simp only [U8,List.not_mem_nil,or_false] at hx;rcases hx with rfl | rfl | rfl | rfl<;>exact ⟨by kernel_rfl,by decide⟩⟩) (.agg #[(.int .i64 0),(.int .i64 0),(.int .i64 0),(.int .i64 0),(.int .i64 0),(.slice none 0 0),(.slice none 0 0),(.slice none 0 0),(.slice none 0 0)]) (by kernel_rfl) rfl rfl rfl rfl (by decide) (fun h=>by cases h)
def V35:TyI:=⟨.struct [(0,3,1),(1,3,1),(2,3,1),(3,3,1)],4,32,[(.int .i64 0),(.int .i64 0),(.int .i64 0),(.int .i64 0)],false⟩
theorem V8o:TyOk Tryz.prog 180 V35:=TyOk.of Tryz.underlying180 (show TK.ok _ (.struct [(0,3,1),(1,3,1),(2,3,1),(3,3,1)]) _ from ⟨_,rfl,rfl,fun x hx=>by simp only [U8,List.not_mem_nil,or_false] at hx;rcases hx with rfl | rfl | rfl | rfl<;>exact ⟨by kernel_rfl,by decide⟩⟩) (.agg #[(.int .i64 0),(.int .i64 0),(.int .i64 0),(.int .i64 0)]) (by kernel_rfl) rfl rfl rfl rfl (by decide) (fun h=>by cases h)
def V34:TyI:=⟨.struct [(0,3,1),(1,3,1),(2,3,1),(3,3,1)],4,32,[(.int .i64 0),(.int .i64 0),(.int .i64 0),(.int .i64 0)],true⟩
theorem V8n:TyOk Tryz.prog 181 V34:=TyOk.of Tryz.underlying181 (show TK.ok _ (.struct [(0,3,1),(1,3,1),(2,3,1),(3,3,1)]) _ from ⟨_,rfl,rfl,fun x hx=>by simp only [U8,List.not_mem_nil,or_false] at hx;rcases hx with rfl | rfl | rfl | rfl<;>exact ⟨by kernel_rfl,by decide⟩⟩) (.agg #[(.int .i64 0),(.int .i64 0),(.int .i64 0),(.int .i64 0)]) (by kernel_rfl) rfl rfl rfl rfl (by decide) (fun _ fs h=>by cases h;exact ⟨by kernel_rfl,by kernel_rfl,by kernel_rfl,by kernel_rfl⟩)
def V33:TyI:=⟨.pointer 263,1,8,[(.pointer none)],false⟩
theorem V8m:TyOk Tryz.prog 187 V33:=TyOk.of Tryz.underlying187 (show TK.ok _ (.pointer 263) _ from rfl) (.pointer none) (by kernel_rfl) rfl rfl rfl rfl (by decide) (fun h=>by cases h)
def V32:TyI:=⟨.struct [(0,23,1),(1,187,1)],2,32,[(.slice none 0 0),(.pointer none)],false⟩
theorem V8l:TyOk Tryz.prog 189 V32:=TyOk.of Tryz.underlying189 (show TK.ok _ (.struct [(0,23,1),(1,187,1)]) _ from ⟨_,rfl,rfl,fun x hx=>by simp only [U8,List.not_mem_nil,or_false] at hx;rcases hx with rfl | rfl<;>exact ⟨by kernel_rfl,by decide⟩⟩) (.agg #[(.slice none 0 0),(.pointer none)]) (by kernel_rfl) rfl rfl rfl rfl (by decide) (fun h=>by cases h)
def V31:TyI:=⟨.struct [(0,23,1),(1,187,1)],2,32,[(.slice none 0 0),(.pointer none)],false⟩
theorem V8k:TyOk Tryz.prog 190 V31:=TyOk.of Tryz.underlying190 (show TK.ok _ (.struct [(0,23,1),(1,187,1)]) _ from ⟨_,rfl,rfl,fun x hx=>by simp only [U8,List.not_mem_nil,or_false] at hx;rcases hx with rfl | rfl<;>exact ⟨by kernel_rfl,by decide⟩⟩) (.agg #[(.slice none 0 0),(.pointer none)]) (by kernel_rfl) rfl rfl rfl rfl (by decide) (fun h=>by cases h)
def V30:TyI:=⟨.slice 25,1,24,[(.slice none 0 0)],false⟩
theorem V8j:TyOk Tryz.prog 193 V30:=TyOk.of Tryz.underlying193 (show TK.ok _ (.slice 25) _ from rfl) (.slice none 0 0) (by kernel_rfl) rfl rfl rfl rfl (by decide) (fun h=>by cases h)
def V2z:TyI:=⟨.struct [(0,22,1),(1,3,1)],2,32,[(.slice none 0 0),(.int .i64 0)],false⟩
theorem V8i:TyOk Tryz.prog 214 V2z:=TyOk.of Tryz.underlying214 (show TK.ok _ (.struct [(0,22,1),(1,3,1)]) _ from ⟨_,rfl,rfl,fun x hx=>by simp only [U8,List.not_mem_nil,or_false] at hx;rcases hx with rfl | rfl<;>exact ⟨by kernel_rfl,by decide⟩⟩) (.agg #[(.slice none 0 0),(.int .i64 0)]) (by kernel_rfl) rfl rfl rfl rfl (by decide) (fun h=>by cases h)
def V2y:TyI:=⟨.struct [(0,22,1),(1,3,1)],2,32,[(.slice none 0 0),(.int .i64 0)],false⟩
theorem V8h:TyOk Tryz.prog 215 V2y:=TyOk.of Tryz.underlying215 (show TK.ok _ (.struct [(0,22,1),(1,3,1)]) _ from ⟨_,rfl,rfl,fun x hx=>by simp only [U8,List.not_mem_nil,or_false] at hx;rcases hx with rfl | rfl<;>exact ⟨by kernel_rfl,by decide⟩⟩) (.agg #[(.slice none 0 0),(.int .i64 0)]) (by kernel_rfl) rfl rfl rfl rfl (by decide) (fun h=>by cases h)
def V2x:TyI:=⟨.int .u64,1,8,[(.int .u64 0)],false⟩
theorem V8g:TyOk Tryz.prog 239 V2x:=TyOk.of Tryz.underlying239 (show TK.ok _ (.int .u64) _ from rfl) (.int .u64 0) (by kernel_rfl) rfl rfl rfl rfl (by decide) (fun h=>by cases h)
def V2w:TyI:=⟨.slice 319,1,24,[(.slice none 0 0)],false⟩
theorem V8f:TyOk Tryz.prog 247 V2w:=TyOk.of Tryz.underlying247 (show TK.ok _ (.slice 319) _ from rfl) (.slice none 0 0) (by kernel_rfl) rfl rfl rfl rfl (by decide) (fun h=>by cases h)
def V2v:TyI:=⟨.struct [(0,44,1),(1,25,2)],3,40,[(.slice none 0 0),(.int .i64 0),(.int .i64 0)],false⟩
theorem V8e:TyOk Tryz.prog 255 V2v:=TyOk.of Tryz.underlying255 (show TK.ok _ (.struct [(0,44,1),(1,25,2)]) _ from ⟨_,rfl,rfl,fun x hx=>by simp only [U8,List.not_mem_nil,or_false] at hx;rcases hx with rfl | rfl<;>exact ⟨by kernel_rfl,by decide⟩⟩) (.agg #[(.slice none 0 0),(.int .i64 0),(.int .i64 0)]) (by kernel_rfl) rfl rfl rfl rfl (by decide) (fun h=>by cases h)
def V2u:TyI:=⟨.struct [(0,44,1),(1,25,2)],3,40,[(.slice none 0 0),(.int .i64 0),(.int .i64 0)],false⟩
theorem V8d:TyOk Tryz.prog 256 V2u:=TyOk.of Tryz.underlying256 (show TK.ok _ (.struct [(0,44,1),(1,25,2)]) _ from ⟨_,rfl,rfl,fun x hx=>by simp only [U8,List.not_mem_nil,or_false] at hx;rcases hx with rfl | rfl<;>exact ⟨by kernel_rfl,by decide⟩⟩) (.agg #[(.slice none 0 0),(.int .i64 0),(.int .i64 0)]) (by kernel_rfl) rfl rfl rfl rfl (by decide) (fun h=>by cases h)
def V2t:TyI:=⟨.slice 256,1,24,[(.slice none 0 0)],false⟩
theorem V8c:TyOk Tryz.prog 257 V2t:=TyOk.of Tryz.underlying257 (show TK.ok _ (.slice 256) _ from rfl) (.slice none 0 0) (by kernel_rfl) rfl rfl rfl rfl (by decide) (fun h=>by cases h)
def V2s:TyI:=⟨.slice 322,1,24,[(.slice none 0 0)],false⟩
theorem V8b:TyOk Tryz.prog 258 V2s:=TyOk.of Tryz.underlying258 (show TK.ok _ (.slice 322) _ from rfl) (.slice none 0 0) (by kernel_rfl) rfl rfl rfl rfl (by decide) (fun h=>by cases h)
def V2r:TyI:=⟨.array 4 3,4,32,[(.int .i64 0),(.int .i64 0),(.int .i64 0),(.int .i64 0)],false⟩
theorem V8a:TyOk Tryz.prog 261 V2r:=TyOk.of Tryz.underlying261 (show TK.ok _ (.array 4 3) _ from rfl) (.agg #[(.int .i64 0),(.int .i64 0),(.int .i64 0),(.int .i64 0)]) (by kernel_rfl) rfl rfl rfl rfl (by decide) (fun h=>by cases h)
def V2q:TyI:=⟨.array 4 261,16,128,[(.int .i64 0),(.int .i64 0),(.int .i64 0),(.int .i64 0),(.int .i64 0),(.int .i64 0),(.int .i64 0),(.int .i64 0),(.int .i64 0),(.int .i64 0),(.int .i64 0),(.int .i64 0),(.int .i64 0),(.int .i64 0),(.int .i64 0),(.int .i64 0)],false⟩
theorem V89:TyOk Tryz.prog 262 V2q:=TyOk.of Tryz.underlying262 (show TK.ok _ (.array 4 261) _ from rfl) (.agg #[(.int .i64 0),(.int .i64 0),(.int .i64 0),(.int .i64 0),(.int .i64 0),(.int .i64 0),(.int .i64 0),(.int .i64 0),(.int .i64 0),(.int .i64 0),(.int .i64 0),(.int .i64 0),(.int .i64 0),(.int .i64 0),(.int .i64 0),(.int .i64 0)]) (by kernel_rfl) rfl rfl rfl rfl (by decide) (fun h=>by cases h)
def V2p:TyI:=⟨.array 4 261,16,128,[(.int .i64 0),(.int .i64 0),(.int .i64 0),(.int .i64 0),(.int .i64 0),(.int .i64 0),(.int .i64 0),(.int .i64 0),(.int .i64 0),(.int .i64 0),(.int .i64 0),(.int .i64 0),(.int .i64 0),(.int .i64 0),(.int .i64 0),(.int .i64 0)],false⟩
theorem V88:TyOk Tryz.prog 263 V2p:=TyOk.of Tryz.underlying263 (show TK.ok _ (.array 4 261) _ from rfl) (.agg #[(.int .i64 0),(.int .i64 0),(.int .i64 0),(.int .i64 0),(.int .i64 0),(.int .i64 0),(.int .i64 0),(.int .i64 0),(.int .i64 0),(.int .i64 0),(.int .i64 0),(.int .i64 0),(.int .i64 0),(.int .i64 0),(.int .i64 0),(.int .i64 0)]) (by kernel_rfl) rfl rfl rfl rfl (by decide) (fun h=>by cases h)
def V2o:TyI:=⟨.array 11 4,11,11,[(.bool false),(.bool false),(.bool false),(.bool false),(.bool false),(.bool false),(.bool false),(.bool false),(.bool false),(.bool false),(.bool false)],false⟩
theorem V87:TyOk Tryz.prog 268 V2o:=TyOk.of Tryz.underlying268 (show TK.ok _ (.array 11 4) _ from rfl) (.agg #[(.bool false),(.bool false),(.bool false),(.bool false),(.bool false),(.bool false),(.bool false),(.bool false),(.bool false),(.bool false),(.bool false)]) (by kernel_rfl) rfl rfl rfl rfl (by decide) (fun h=>by cases h)
def V2n:TyI:=⟨.struct [(0,9,1),(1,193,1),(2,3,1)],3,48,[(.string .empty),(.slice none 0 0),(.int .i64 0)],false⟩
theorem V86:TyOk Tryz.prog 269 V2n:=TyOk.of Tryz.underlying269 (show TK.ok _ (.struct [(0,9,1),(1,193,1),(2,3,1)]) _ from ⟨_,rfl,rfl,fun x hx=>by simp only [U8,List.not_mem_nil,or_false] at hx;rcases hx with rfl | rfl | rfl<;>exact ⟨by kernel_rfl,by decide⟩⟩) (.agg #[(.string .empty),(.slice none 0 0),(.int .i64 0)]) (by kernel_rfl) rfl rfl rfl rfl (by decide) (fun h=>by cases h)
def V2m:TyI:=⟨.struct [(0,9,1),(1,193,1),(2,3,1)],3,48,[(.string .empty),(.slice none 0 0),(.int .i64 0)],false⟩
theorem V85:TyOk Tryz.prog 270 V2m:=TyOk.of Tryz.underlying270 (show TK.ok _ (.struct [(0,9,1),(1,193,1),(2,3,1)]) _ from ⟨_,rfl,rfl,fun x hx=>by simp only [U8,List.not_mem_nil,or_false] at hx;rcases hx with rfl | rfl | rfl<;>exact ⟨by kernel_rfl,by decide⟩⟩) (.agg #[(.string .empty),(.slice none 0 0),(.int .i64 0)]) (by kernel_rfl) rfl rfl rfl rfl (by decide) (fun h=>by cases h)
def V2l:TyI:=⟨.slice 270,1,24,[(.slice none 0 0)],false⟩
theorem V84:TyOk Tryz.prog 271 V2l:=TyOk.of Tryz.underlying271 (show TK.ok _ (.slice 270) _ from rfl) (.slice none 0 0) (by kernel_rfl) rfl rfl rfl rfl (by decide) (fun h=>by cases h)
def V2k:TyI:=⟨.struct [(0,9,1),(1,271,1)],2,40,[(.string .empty),(.slice none 0 0)],false⟩
theorem V83:TyOk Tryz.prog 272 V2k:=TyOk.of Tryz.underlying272 (show TK.ok _ (.struct [(0,9,1),(1,271,1)]) _ from ⟨_,rfl,rfl,fun x hx=>by simp only [U8,List.not_mem_nil,or_false] at hx;rcases hx with rfl | rfl<;>exact ⟨by kernel_rfl,by decide⟩⟩) (.agg #[(.string .empty),(.slice none 0 0)]) (by kernel_rfl) rfl rfl rfl rfl (by decide) (fun h=>by cases h)
def V2j:TyI:=⟨.struct [(0,9,1),(1,271,1)],2,40,[(.string .empty),(.slice none 0 0)],false⟩
theorem V82:TyOk Tryz.prog 273 V2j:=TyOk.of Tryz.underlying273 (show TK.ok _ (.struct [(0,9,1),(1,271,1)]) _ from ⟨_,rfl,rfl,fun x hx=>by simp only [U8,List.not_mem_nil,or_false] at hx;rcases hx with rfl | rfl<;>exact ⟨by kernel_rfl,by decide⟩⟩) (.agg #[(.string .empty),(.slice none 0 0)]) (by kernel_rfl) rfl rfl rfl rfl (by decide) (fun h=>by cases h)
def V2i:TyI:=⟨.slice 112,1,24,[(.slice none 0 0)],false⟩
theorem V81:TyOk Tryz.prog 274 V2i:=TyOk.of Tryz.underlying274 (show TK.ok _ (.slice 112) _ from rfl) (.slice none 0 0) (by kernel_rfl) rfl rfl rfl rfl (by decide) (fun h=>by cases h)
def V2h:TyI:=⟨.map 9 4,1,8,[(.map none)],false⟩
theorem V80:TyOk Tryz.prog 294 V2h:=TyOk.of Tryz.underlying294 (show TK.ok _ (.map 9 4) _ from rfl) (.map none) (by kernel_rfl) rfl rfl rfl rfl (by decide) (fun h=>by cases h)
def V2g:TyI:=⟨.int .i64,1,8,[(.int .i64 0)],false⟩
theorem V7z:TyOk Tryz.prog 302 V2g:=TyOk.of Tryz.underlying302 (show TK.ok _ (.int .i64) _ from rfl) (.int .i64 0) (by kernel_rfl) rfl rfl rfl rfl (by decide) (fun h=>by cases h)
def V2f:TyI:=⟨.int .u32,1,4,[(.int .u32 0)],false⟩
theorem V7y:TyOk Tryz.prog 309 V2f:=TyOk.of Tryz.underlying309 (show TK.ok _ (.int .u32) _ from rfl) (.int .u32 0) (by kernel_rfl) rfl rfl rfl rfl (by decide) (fun h=>by cases h)
def V2e:TyI:=⟨.int .u64,1,8,[(.int .u64 0)],false⟩
theorem V7x:TyOk Tryz.prog 311 V2e:=TyOk.of Tryz.underlying311 (show TK.ok _ (.int .u64) _ from rfl) (.int .u64 0) (by kernel_rfl) rfl rfl rfl rfl (by decide) (fun h=>by cases h)
def V2d:TyI:=⟨.struct [(0,3,1),(1,25,2)],3,24,[(.int .i64 0),(.int .i64 0),(.int .i64 0)],false⟩
theorem V7w:TyOk Tryz.prog 318 V2d:=TyOk.of Tryz.underlying318 (show TK.ok _ (.struct [(0,3,1),(1,25,2)]) _ from ⟨_,rfl,rfl,fun x hx=>by simp only [U8,List.not_mem_nil,or_false] at hx;rcases hx with rfl | rfl<;>exact ⟨by kernel_rfl,by decide⟩⟩) (.agg #[(.int .i64 0),(.int .i64 0),(.int .i64 0)]) (by kernel_rfl) rfl rfl rfl rfl (by decide) (fun h=>by cases h)
def V2c:TyI:=⟨.struct [(0,3,1),(1,25,2)],3,24,[(.int .i64 0),(.int .i64 0),(.int .i64 0)],true⟩
theorem V7v:TyOk Tryz.prog 319 V2c:=TyOk.of Tryz.underlying319 (show TK.ok _ (.struct [(0,3,1),(1,25,2)]) _ from ⟨_,rfl,rfl,fun x hx=>by simp only [U8,List.not_mem_nil,or_false] at hx;rcases hx with rfl | rfl<;>exact ⟨by kernel_rfl,by decide⟩⟩) (.agg #[(.int .i64 0),(.int .i64 0),(.int .i64 0)]) (by kernel_rfl) rfl rfl rfl rfl (by decide) (fun _ fs h=>by cases h;exact ⟨by kernel_rfl,by kernel_rfl,by kernel_rfl,by kernel_rfl⟩)
def V2b:TyI:=⟨.struct [(0,3,1),(1,98,1),(2,43,1)],3,56,[(.int .i64 0),(.slice none 0 0),(.slice none 0 0)],false⟩
theorem V7u:TyOk Tryz.prog 321 V2b:=TyOk.of Tryz.underlying321 (show TK.ok _ (.struct [(0,3,1),(1,98,1),(2,43,1)]) _ from ⟨_,rfl,rfl,fun x hx=>by simp only [U8,List.not_mem_nil,or_false] at hx;rcases hx with rfl | rfl | rfl<;>exact ⟨by kernel_rfl,by decide⟩⟩) (.agg #[(.int .i64 0),(.slice none 0 0),(.slice none 0 0)]) (by kernel_rfl) rfl rfl rfl rfl (by decide) (fun h=>by cases h)
def V2a:TyI:=⟨.struct [(0,3,1),(1,98,1),(2,43,1)],3,56,[(.int .i64 0),(.slice none 0 0),(.slice none 0 0)],false⟩
theorem V7t:TyOk Tryz.prog 322 V2a:=TyOk.of Tryz.underlying322 (show TK.ok _ (.struct [(0,3,1),(1,98,1),(2,43,1)]) _ from ⟨_,rfl,rfl,fun x hx=>by simp only [U8,List.not_mem_nil,or_false] at hx;rcases hx with rfl | rfl | rfl<;>exact ⟨by kernel_rfl,by decide⟩⟩) (.agg #[(.int .i64 0),(.slice none 0 0),(.slice none 0 0)]) (by kernel_rfl) rfl rfl rfl rfl (by decide) (fun h=>by cases h)
def V29:TyI:=⟨.slice 9,1,24,[(.slice none 0 0)],false⟩
theorem V7s:TyOk Tryz.prog 357 V29:=TyOk.of Tryz.underlying357 (show TK.ok _ (.slice 9) _ from rfl) (.slice none 0 0) (by kernel_rfl) rfl rfl rfl rfl (by decide) (fun h=>by cases h)
def V28:TyI:=⟨.int .u64,1,8,[(.int .u64 0)],false⟩
theorem V7r:TyOk Tryz.prog 362 V28:=TyOk.of Tryz.underlying362 (show TK.ok _ (.int .u64) _ from rfl) (.int .u64 0) (by kernel_rfl) rfl rfl rfl rfl (by decide) (fun h=>by cases h)
def V27:TyI:=⟨.array 6 4,6,6,[(.bool false),(.bool false),(.bool false),(.bool false),(.bool false),(.bool false)],false⟩
theorem V7q:TyOk Tryz.prog 368 V27:=TyOk.of Tryz.underlying368 (show TK.ok _ (.array 6 4) _ from rfl) (.agg #[(.bool false),(.bool false),(.bool false),(.bool false),(.bool false),(.bool false)]) (by kernel_rfl) rfl rfl rfl rfl (by decide) (fun h=>by cases h)
def V26:TyI:=⟨.pointer 362,1,8,[(.pointer none)],false⟩
theorem V7p:TyOk Tryz.prog 390 V26:=TyOk.of Tryz.underlying390 (show TK.ok _ (.pointer 362) _ from rfl) (.pointer none) (by kernel_rfl) rfl rfl rfl rfl (by decide) (fun h=>by cases h)
def V25:TyI:=⟨.struct [(0,17,1),(1,17,1),(2,17,1),(3,9,1)],4,40,[(.pointer none),(.pointer none),(.pointer none),(.string .empty)],false⟩
theorem V7o:TyOk Tryz.prog 406 V25:=TyOk.of Tryz.underlying406 (show TK.ok _ (.struct [(0,17,1),(1,17,1),(2,17,1),(3,9,1)]) _ from ⟨_,rfl,rfl,fun x hx=>by simp only [U8,List.not_mem_nil,or_false] at hx;rcases hx with rfl | rfl | rfl | rfl<;>exact ⟨by kernel_rfl,by decide⟩⟩) (.agg #[(.pointer none),(.pointer none),(.pointer none),(.string .empty)]) (by kernel_rfl) rfl rfl rfl rfl (by decide) (fun h=>by cases h)
def V24:TyI:=⟨.struct [(0,17,1),(1,17,1),(2,17,1),(3,9,1)],4,40,[(.pointer none),(.pointer none),(.pointer none),(.string .empty)],false⟩
theorem V7n:TyOk Tryz.prog 407 V24:=TyOk.of Tryz.underlying407 (show TK.ok _ (.struct [(0,17,1),(1,17,1),(2,17,1),(3,9,1)]) _ from ⟨_,rfl,rfl,fun x hx=>by simp only [U8,List.not_mem_nil,or_false] at hx;rcases hx with rfl | rfl | rfl | rfl<;>exact ⟨by kernel_rfl,by decide⟩⟩) (.agg #[(.pointer none),(.pointer none),(.pointer none),(.string .empty)]) (by kernel_rfl) rfl rfl rfl rfl (by decide) (fun h=>by cases h)
def V23:TyI:=⟨.array 0 16,0,0,[],false⟩
theorem V7m:TyOk Tryz.prog 408 V23:=TyOk.of Tryz.underlying408 (show TK.ok _ (.array 0 16) _ from rfl) (.agg #[]) (by kernel_rfl) rfl rfl rfl rfl (by decide) (fun h=>by cases h)
def V22:TyI:=⟨.int .u8,1,1,[(.int .u8 0)],false⟩
theorem V7l:TyOk Tryz.prog 411 V22:=TyOk.of Tryz.underlying411 (show TK.ok _ (.int .u8) _ from rfl) (.int .u8 0) (by kernel_rfl) rfl rfl rfl rfl (by decide) (fun h=>by cases h)
def V21:TyI:=⟨.int .u8,1,1,[(.int .u8 0)],false⟩
theorem V7k:TyOk Tryz.prog 412 V21:=TyOk.of Tryz.underlying412 (show TK.ok _ (.int .u8) _ from rfl) (.int .u8 0) (by kernel_rfl) rfl rfl rfl rfl (by decide) (fun h=>by cases h)
def V20:TyI:=⟨.pointer 5,1,8,[(.pointer none)],false⟩
theorem V7j:TyOk Tryz.prog 414 V20:=TyOk.of Tryz.underlying414 (show TK.ok _ (.pointer 5) _ from rfl) (.pointer none) (by kernel_rfl) rfl rfl rfl rfl (by decide) (fun h=>by cases h)
def V1z:TyI:=⟨.int .i32,1,4,[(.int .i32 0)],false⟩
theorem V7i:TyOk Tryz.prog 415 V1z:=TyOk.of Tryz.underlying415 (show TK.ok _ (.int .i32) _ from rfl) (.int .i32 0) (by kernel_rfl) rfl rfl rfl rfl (by decide) (fun h=>by cases h)
def V1y:TyI:=⟨.int .i32,1,4,[(.int .i32 0)],false⟩
theorem V7h:TyOk Tryz.prog 416 V1y:=TyOk.of Tryz.underlying416 (show TK.ok _ (.int .i32) _ from rfl) (.int .i32 0) (by kernel_rfl) rfl rfl rfl rfl (by decide) (fun h=>by cases h)
def Tys:Ty:=fun t=>match t with
 | 2=>some ti2
 | 3=>some ti3
 | 4=>some ti4
 | 5=>some ti5
 | 6=>some ti6
 | 7=>some ti7
 | 8=>some ti8
 | 9=>some ti9
 | 10=>some ti10
 | 11=>some ti11
 | 12=>some ti12
 | 13=>some ti13
 | 14=>some ti14
 | 15=>some ti15
 | 16=>some ti16
 | 17=>some ti17
 | 18=>some ti18
 | 19=>some ti19
 | 21=>some ti21
 | 22=>some ti22
 | 23=>some ti23
 | 24=>some ti24
 | 25=>some ti25
 | 26=>some ti26
 | 27=>some ti27
 | 28=>some ti28
 | 29=>some ti29
 | 32=>some ti32
 | 43=>some ti43
 | 44=>some ti44
 | 45=>some ti45
 | 46=>some ti46
 | 47=>some ti47
 | 48=>some ti48
 | 51=>some ti51
 | 57=>some ti57
 | 77=>some ti77
 | 81=>some ti81
 | 82=>some ti82
 | 86=>some ti86
 | 87=>some ti87
 | 94=>some ti94
 | 97=>some ti97
 | 98=>some ti98
 | 99=>some ti99
 | 100=>some V3w
 | 101=>some V3v
 | 102=>some V3u
 | 104=>some V3t
 | 105=>some V3s
 | 107=>some V3r
 | 108=>some V3q
 | 110=>some V3p
 | 111=>some V3o
 | 112=>some V3n
 | 117=>some V3m
 | 128=>some V3l
 | 137=>some V3k
 | 145=>some V3j
 | 146=>some V3i
 | 148=>some V3h
 | 149=>some V3g
 | 153=>some V3f
 | 158=>some V3e
 | 159=>some V3d
 | 160=>some V3c
 | 161=>some V3b
 | 175=>some V3a
 | 176=>some V39
 | 177=>some V38
 | 178=>some V37
 | 179=>some V36
 | 180=>some V35
 | 181=>some V34
 | 187=>some V33
 | 189=>some V32
 | 190=>some V31
 | 193=>some V30
 | 214=>some V2z
 | 215=>some V2y
 | 239=>some V2x
 | 247=>some V2w
 | 255=>some V2v
 | 256=>some V2u
 | 257=>some V2t
 | 258=>some V2s
 | 261=>some V2r
 | 262=>some V2q
 | 263=>some V2p
 | 268=>some V2o
 | 269=>some V2n
 | 270=>some V2m
 | 271=>some V2l
 | 272=>some V2k
 | 273=>some V2j
 | 274=>some V2i
 | 294=>some V2h
 | 302=>some V2g
 | 309=>some V2f
 | 311=>some V2e
 | 318=>some V2d
 | 319=>some V2c
 | 321=>some V2b
 | 322=>some V2a
 | 357=>some V29
 | 362=>some V28
 | 368=>some V27
 | 390=>some V26
 | 406=>some V25
 | 407=>some V24
 | 408=>some V23
 | 411=>some V22
 | 412=>some V21
 | 414=>some V20
 | 415=>some V1z
 | 416=>some V1y
 | _=>none
@[simp] theorem tys2:Tys 2=some ⟨.int .i64,1,8,[(.int .i64 0)],false⟩:=rfl
@[simp] theorem tys3:Tys 3=some ⟨.int .i64,1,8,[(.int .i64 0)],false⟩:=rfl
@[simp] theorem tys4:Tys 4=some ⟨.bool,1,1,[(.bool false)],false⟩:=rfl
@[simp] theorem tys5:Tys 5=some ⟨.int .u8,1,1,[(.int .u8 0)],false⟩:=rfl
@[simp] theorem tys6:Tys 6=some ⟨.int .u8,1,1,[(.int .u8 0)],false⟩:=rfl
@[simp] theorem tys7:Tys 7=some ⟨.struct [(0,2,1),(1,3,1),(2,4,1),(3,6,1)],4,24,[(.int .i64 0),(.int .i64 0),(.bool false),(.int .u8 0)],false⟩:=rfl
@[simp] theorem tys8:Tys 8=some ⟨.struct [(0,2,1),(1,3,1),(2,4,1),(3,6,1)],4,24,[(.int .i64 0),(.int .i64 0),(.bool false),(.int .u8 0)],false⟩:=rfl
@[simp] theorem tys9:Tys 9=some ⟨.string,1,16,[(.string .empty)],false⟩:=rfl
@[simp] theorem tys10:Tys 10=some ⟨.string,1,16,[(.string .empty)],false⟩:=rfl
@[simp] theorem tys11:Tys 11=some ⟨.string,1,16,[(.string .empty)],false⟩:=rfl
@[simp] theorem tys12:Tys 12=some ⟨.int .u64,1,8,[(.int .u64 0)],false⟩:=rfl
@[simp] theorem tys13:Tys 13=some ⟨.struct [(0,9,1),(1,12,1)],2,24,[(.string .empty),(.int .u64 0)],false⟩:=rfl
@[simp] theorem tys14:Tys 14=some ⟨.struct [(0,9,1),(1,12,1)],2,24,[(.string .empty),(.int .u64 0)],false⟩:=rfl
@[simp] theorem tys15:Tys 15=some ⟨.pointer 407,1,8,[(.pointer none)],false⟩:=rfl
@[simp] theorem tys16:Tys 16=some ⟨.pointer 410,1,8,[(.pointer none)],false⟩:=rfl
@[simp] theorem tys17:Tys 17=some ⟨.pointer 418,1,8,[(.pointer none)],false⟩:=rfl
@[simp] theorem tys18:Tys 18=some ⟨.struct [(0,17,1)],1,8,[(.pointer none)],false⟩:=rfl
@[simp] theorem tys19:Tys 19=some ⟨.struct [(0,17,1)],1,8,[(.pointer none)],false⟩:=rfl
@[simp] theorem tys21:Tys 21=some ⟨.int .i32,1,4,[(.int .i32 0)],false⟩:=rfl
@[simp] theorem tys22:Tys 22=some ⟨.slice 5,1,24,[(.slice none 0 0)],false⟩:=rfl
@[simp] theorem tys23:Tys 23=some ⟨.slice 273,1,24,[(.slice none 0 0)],false⟩:=rfl
@[simp] theorem tys24:Tys 24=some ⟨.struct [(0,3,1),(1,3,1)],2,16,[(.int .i64 0),(.int .i64 0)],false⟩:=rfl
@[simp] theorem tys25:Tys 25=some ⟨.struct [(0,3,1),(1,3,1)],2,16,[(.int .i64 0),(.int .i64 0)],true⟩:=rfl
@[simp] theorem tys26:Tys 26=some ⟨.slice 161,1,24,[(.slice none 0 0)],false⟩:=rfl
@[simp] theorem tys27:Tys 27=some ⟨.slice 29,1,24,[(.slice none 0 0)],false⟩:=rfl
@[simp] theorem tys28:Tys 28=some ⟨.struct [(0,3,1),(1,3,1),(2,27,1)],3,40,[(.int .i64 0),(.int .i64 0),(.slice none 0 0)],false⟩:=rfl
@[simp] theorem tys29:Tys 29=some ⟨.struct [(0,3,1),(1,3,1),(2,27,1)],3,40,[(.int .i64 0),(.int .i64 0),(.slice none 0 0)],false⟩:=rfl
@[simp] theorem tys32:Tys 32=some ⟨.slice 87,1,24,[(.slice none 0 0)],false⟩:=rfl
@[simp] theorem tys43:Tys 43=some ⟨.slice 149,1,24,[(.slice none 0 0)],false⟩:=rfl
@[simp] theorem tys44:Tys 44=some ⟨.slice 3,1,24,[(.slice none 0 0)],false⟩:=rfl
@[simp] theorem tys45:Tys 45=some ⟨.slice 179,1,24,[(.slice none 0 0)],false⟩:=rfl
@[simp] theorem tys46:Tys 46=some ⟨.slice 48,1,24,[(.slice none 0 0)],false⟩:=rfl
@[simp] theorem tys47:Tys 47=some ⟨.struct [(0,3,1),(1,3,1),(2,43,1),(3,44,1),(4,45,1),(5,46,1)],6,112,[(.int .i64 0),(.int .i64 0),(.slice none 0 0),(.slice none 0 0),(.slice none 0 0),(.slice none 0 0)],false⟩:=rfl
@[simp] theorem tys48:Tys 48=some ⟨.struct [(0,3,1),(1,3,1),(2,43,1),(3,44,1),(4,45,1),(5,46,1)],6,112,[(.int .i64 0),(.int .i64 0),(.slice none 0 0),(.slice none 0 0),(.slice none 0 0),(.slice none 0 0)],false⟩:=rfl
@[simp] theorem tys51:Tys 51=some ⟨.slice 177,1,24,[(.slice none 0 0)],false⟩:=rfl
@[simp] theorem tys57:Tys 57=some ⟨.slice 44,1,24,[(.slice none 0 0)],false⟩:=rfl
@[simp] theorem tys77:Tys 77=some ⟨.slice 82,1,24,[(.slice none 0 0)],false⟩:=rfl
@[simp] theorem tys81:Tys 81=some ⟨.struct [(0,3,1),(1,44,1),(2,3,1),(3,3,1),(4,3,1),(5,3,1),(6,43,1),(7,3,1)],8,96,[(.int .i64 0),(.slice none 0 0),(.int .i64 0),(.int .i64 0),(.int .i64 0),(.int .i64 0),(.slice none 0 0),(.int .i64 0)],false⟩:=rfl
@[simp] theorem tys82:Tys 82=some ⟨.struct [(0,3,1),(1,44,1),(2,3,1),(3,3,1),(4,3,1),(5,3,1),(6,43,1),(7,3,1)],8,96,[(.int .i64 0),(.slice none 0 0),(.int .i64 0),(.int .i64 0),(.int .i64 0),(.int .i64 0),(.slice none 0 0),(.int .i64 0)],false⟩:=rfl
@[simp] theorem tys86:Tys 86=some ⟨.struct [(0,3,1),(1,29,3)],4,48,[(.int .i64 0),(.int .i64 0),(.int .i64 0),(.slice none 0 0)],false⟩:=rfl
@[simp] theorem tys87:Tys 87=some ⟨.struct [(0,3,1),(1,29,3)],4,48,[(.int .i64 0),(.int .i64 0),(.int .i64 0),(.slice none 0 0)],false⟩:=rfl
@[simp] theorem tys94:Tys 94=some ⟨.slice 98,1,24,[(.slice none 0 0)],false⟩:=rfl
@[simp] theorem tys97:Tys 97=some ⟨.slice 102,1,24,[(.slice none 0 0)],false⟩:=rfl
@[simp] theorem tys98:Tys 98=some ⟨.slice 100,1,24,[(.slice none 0 0)],false⟩:=rfl
@[simp] theorem tys99:Tys 99=some ⟨.struct [(0,3,1),(1,3,1),(2,3,1),(3,3,1),(4,3,1),(5,98,1)],6,64,[(.int .i64 0),(.int .i64 0),(.int .i64 0),(.int .i64 0),(.int .i64 0),(.slice none 0 0)],false⟩:=rfl
@[simp] theorem tys100:Tys 100=some ⟨.struct [(0,3,1),(1,3,1),(2,3,1),(3,3,1),(4,3,1),(5,98,1)],6,64,[(.int .i64 0),(.int .i64 0),(.int .i64 0),(.int .i64 0),(.int .i64 0),(.slice none 0 0)],false⟩:=rfl
@[simp] theorem tys101:Tys 101=some ⟨.struct [(0,3,1),(1,98,1),(2,43,1)],3,56,[(.int .i64 0),(.slice none 0 0),(.slice none 0 0)],false⟩:=rfl
@[simp] theorem tys102:Tys 102=some ⟨.struct [(0,3,1),(1,98,1),(2,43,1)],3,56,[(.int .i64 0),(.slice none 0 0),(.slice none 0 0)],false⟩:=rfl
@[simp] theorem tys104:Tys 104=some ⟨.pointer 108,1,8,[(.pointer none)],false⟩:=rfl
@[simp] theorem tys105:Tys 105=some ⟨.pointer 190,1,8,[(.pointer none)],false⟩:=rfl
@[simp] theorem tys107:Tys 107=some ⟨.struct [(0,105,1),(1,26,1),(2,3,1),(3,3,1)],4,48,[(.pointer none),(.slice none 0 0),(.int .i64 0),(.int .i64 0)],false⟩:=rfl
@[simp] theorem tys108:Tys 108=some ⟨.struct [(0,105,1),(1,26,1),(2,3,1),(3,3,1)],4,48,[(.pointer none),(.slice none 0 0),(.int .i64 0),(.int .i64 0)],false⟩:=rfl
@[simp] theorem tys110:Tys 110=some ⟨.struct [(0,44,1),(1,25,2)],3,40,[(.slice none 0 0),(.int .i64 0),(.int .i64 0)],false⟩:=rfl
@[simp] theorem tys111:Tys 111=some ⟨.struct [(0,44,1),(1,25,2)],3,40,[(.slice none 0 0),(.int .i64 0),(.int .i64 0)],false⟩:=rfl
@[simp] theorem tys112:Tys 112=some ⟨.slice 111,1,24,[(.slice none 0 0)],false⟩:=rfl
@[simp] theorem tys117:Tys 117=some ⟨.pointer 51,1,8,[(.pointer none)],false⟩:=rfl
@[simp] theorem tys128:Tys 128=some ⟨.pointer 215,1,8,[(.pointer none)],false⟩:=rfl
@[simp] theorem tys137:Tys 137=some ⟨.array 8 4,8,8,[(.bool false),(.bool false),(.bool false),(.bool false),(.bool false),(.bool false),(.bool false),(.bool false)],false⟩:=rfl
@[simp] theorem tys145:Tys 145=some ⟨.pointer 77,1,8,[(.pointer none)],false⟩:=rfl
@[simp] theorem tys146:Tys 146=some ⟨.pointer 43,1,8,[(.pointer none)],false⟩:=rfl
@[simp] theorem tys148:Tys 148=some ⟨.struct [(0,3,1),(1,44,1)],2,32,[(.int .i64 0),(.slice none 0 0)],false⟩:=rfl
@[simp] theorem tys149:Tys 149=some ⟨.struct [(0,3,1),(1,44,1)],2,32,[(.int .i64 0),(.slice none 0 0)],false⟩:=rfl
@[simp] theorem tys153:Tys 153=some ⟨.pointer 3,1,8,[(.pointer none)],false⟩:=rfl
@[simp] theorem tys158:Tys 158=some ⟨.struct [(0,3,1),(1,3,1),(2,3,1)],3,24,[(.int .i64 0),(.int .i64 0),(.int .i64 0)],false⟩:=rfl
@[simp] theorem tys159:Tys 159=some ⟨.struct [(0,3,1),(1,3,1),(2,3,1)],3,24,[(.int .i64 0),(.int .i64 0),(.int .i64 0)],true⟩:=rfl
@[simp] theorem tys160:Tys 160=some ⟨.struct [(0,100,6),(6,159,3)],9,88,[(.int .i64 0),(.int .i64 0),(.int .i64 0),(.int .i64 0),(.int .i64 0),(.slice none 0 0),(.int .i64 0),(.int .i64 0),(.int .i64 0)],false⟩:=rfl
@[simp] theorem tys161:Tys 161=some ⟨.struct [(0,100,6),(6,159,3)],9,88,[(.int .i64 0),(.int .i64 0),(.int .i64 0),(.int .i64 0),(.int .i64 0),(.slice none 0 0),(.int .i64 0),(.int .i64 0),(.int .i64 0)],false⟩:=rfl
@[simp] theorem tys175:Tys 175=some ⟨.slice 181,1,24,[(.slice none 0 0)],false⟩:=rfl
@[simp] theorem tys176:Tys 176=some ⟨.struct [(0,3,1),(1,3,1),(2,43,1),(3,44,1),(4,175,1),(5,3,1)],6,96,[(.int .i64 0),(.int .i64 0),(.slice none 0 0),(.slice none 0 0),(.slice none 0 0),(.int .i64 0)],false⟩:=rfl
@[simp] theorem tys177:Tys 177=some ⟨.struct [(0,3,1),(1,3,1),(2,43,1),(3,44,1),(4,175,1),(5,3,1)],6,96,[(.int .i64 0),(.int .i64 0),(.slice none 0 0),(.slice none 0 0),(.slice none 0 0),(.int .i64 0)],false⟩:=rfl
@[simp] theorem tys178:Tys 178=some ⟨.struct [(0,3,1),(1,3,1),(2,3,1),(3,48,6)],9,136,[(.int .i64 0),(.int .i64 0),(.int .i64 0),(.int .i64 0),(.int .i64 0),(.slice none 0 0),(.slice none 0 0),(.slice none 0 0),(.slice none 0 0)],false⟩:=rfl
@[simp] theorem tys179:Tys 179=some ⟨.struct [(0,3,1),(1,3,1),(2,3,1),(3,48,6)],9,136,[(.int .i64 0),(.int .i64 0),(.int .i64 0),(.int .i64 0),(.int .i64 0),(.slice none 0 0),(.slice none 0 0),(.slice none 0 0),(.slice none 0 0)],false⟩:=rfl
@[simp] theorem tys180:Tys 180=some ⟨.struct [(0,3,1),(1,3,1),(2,3,1),(3,3,1)],4,32,[(.int .i64 0),(.int .i64 0),(.int .i64 0),(.int .i64 0)],false⟩:=rfl
@[simp] theorem tys181:Tys 181=some ⟨.struct [(0,3,1),(1,3,1),(2,3,1),(3,3,1)],4,32,[(.int .i64 0),(.int .i64 0),(.int .i64 0),(.int .i64 0)],true⟩:=rfl
@[simp] theorem tys187:Tys 187=some ⟨.pointer 263,1,8,[(.pointer none)],false⟩:=rfl
@[simp] theorem tys189:Tys 189=some ⟨.struct [(0,23,1),(1,187,1)],2,32,[(.slice none 0 0),(.pointer none)],false⟩:=rfl
@[simp] theorem tys190:Tys 190=some ⟨.struct [(0,23,1),(1,187,1)],2,32,[(.slice none 0 0),(.pointer none)],false⟩:=rfl
@[simp] theorem tys193:Tys 193=some ⟨.slice 25,1,24,[(.slice none 0 0)],false⟩:=rfl
@[simp] theorem tys214:Tys 214=some ⟨.struct [(0,22,1),(1,3,1)],2,32,[(.slice none 0 0),(.int .i64 0)],false⟩:=rfl
@[simp] theorem tys215:Tys 215=some ⟨.struct [(0,22,1),(1,3,1)],2,32,[(.slice none 0 0),(.int .i64 0)],false⟩:=rfl
@[simp] theorem tys239:Tys 239=some ⟨.int .u64,1,8,[(.int .u64 0)],false⟩:=rfl
@[simp] theorem tys247:Tys 247=some ⟨.slice 319,1,24,[(.slice none 0 0)],false⟩:=rfl
@[simp] theorem tys255:Tys 255=some ⟨.struct [(0,44,1),(1,25,2)],3,40,[(.slice none 0 0),(.int .i64 0),(.int .i64 0)],false⟩:=rfl
@[simp] theorem tys256:Tys 256=some ⟨.struct [(0,44,1),(1,25,2)],3,40,[(.slice none 0 0),(.int .i64 0),(.int .i64 0)],false⟩:=rfl
@[simp] theorem tys257:Tys 257=some ⟨.slice 256,1,24,[(.slice none 0 0)],false⟩:=rfl
@[simp] theorem tys258:Tys 258=some ⟨.slice 322,1,24,[(.slice none 0 0)],false⟩:=rfl
@[simp] theorem tys261:Tys 261=some ⟨.array 4 3,4,32,[(.int .i64 0),(.int .i64 0),(.int .i64 0),(.int .i64 0)],false⟩:=rfl
@[simp] theorem tys262:Tys 262=some ⟨.array 4 261,16,128,[(.int .i64 0),(.int .i64 0),(.int .i64 0),(.int .i64 0),(.int .i64 0),(.int .i64 0),(.int .i64 0),(.int .i64 0),(.int .i64 0),(.int .i64 0),(.int .i64 0),(.int .i64 0),(.int .i64 0),(.int .i64 0),(.int .i64 0),(.int .i64 0)],false⟩:=rfl
@[simp] theorem tys263:Tys 263=some ⟨.array 4 261,16,128,[(.int .i64 0),(.int .i64 0),(.int .i64 0),(.int .i64 0),(.int .i64 0),(.int .i64 0),(.int .i64 0),(.int .i64 0),(.int .i64 0),(.int .i64 0),(.int .i64 0),(.int .i64 0),(.int .i64 0),(.int .i64 0),(.int .i64 0),(.int .i64 0)],false⟩:=rfl
@[simp] theorem tys268:Tys 268=some ⟨.array 11 4,11,11,[(.bool false),(.bool false),(.bool false),(.bool false),(.bool false),(.bool false),(.bool false),(.bool false),(.bool false),(.bool false),(.bool false)],false⟩:=rfl
@[simp] theorem tys269:Tys 269=some ⟨.struct [(0,9,1),(1,193,1),(2,3,1)],3,48,[(.string .empty),(.slice none 0 0),(.int .i64 0)],false⟩:=rfl
@[simp] theorem tys270:Tys 270=some ⟨.struct [(0,9,1),(1,193,1),(2,3,1)],3,48,[(.string .empty),(.slice none 0 0),(.int .i64 0)],false⟩:=rfl
@[simp] theorem tys271:Tys 271=some ⟨.slice 270,1,24,[(.slice none 0 0)],false⟩:=rfl
@[simp] theorem tys272:Tys 272=some ⟨.struct [(0,9,1),(1,271,1)],2,40,[(.string .empty),(.slice none 0 0)],false⟩:=rfl
@[simp] theorem tys273:Tys 273=some ⟨.struct [(0,9,1),(1,271,1)],2,40,[(.string .empty),(.slice none 0 0)],false⟩:=rfl
@[simp] theorem tys274:Tys 274=some ⟨.slice 112,1,24,[(.slice none 0 0)],false⟩:=rfl
@[simp] theorem tys294:Tys 294=some ⟨.map 9 4,1,8,[(.map none)],false⟩:=rfl
@[simp] theorem tys302:Tys 302=some ⟨.int .i64,1,8,[(.int .i64 0)],false⟩:=rfl
@[simp] theorem tys309:Tys 309=some ⟨.int .u32,1,4,[(.int .u32 0)],false⟩:=rfl
@[simp] theorem tys311:Tys 311=some ⟨.int .u64,1,8,[(.int .u64 0)],false⟩:=rfl
@[simp] theorem tys318:Tys 318=some ⟨.struct [(0,3,1),(1,25,2)],3,24,[(.int .i64 0),(.int .i64 0),(.int .i64 0)],false⟩:=rfl
@[simp] theorem tys319:Tys 319=some ⟨.struct [(0,3,1),(1,25,2)],3,24,[(.int .i64 0),(.int .i64 0),(.int .i64 0)],true⟩:=rfl
@[simp] theorem tys321:Tys 321=some ⟨.struct [(0,3,1),(1,98,1),(2,43,1)],3,56,[(.int .i64 0),(.slice none 0 0),(.slice none 0 0)],false⟩:=rfl
@[simp] theorem tys322:Tys 322=some ⟨.struct [(0,3,1),(1,98,1),(2,43,1)],3,56,[(.int .i64 0),(.slice none 0 0),(.slice none 0 0)],false⟩:=rfl
@[simp] theorem tys357:Tys 357=some ⟨.slice 9,1,24,[(.slice none 0 0)],false⟩:=rfl
@[simp] theorem tys362:Tys 362=some ⟨.int .u64,1,8,[(.int .u64 0)],false⟩:=rfl
@[simp] theorem tys368:Tys 368=some ⟨.array 6 4,6,6,[(.bool false),(.bool false),(.bool false),(.bool false),(.bool false),(.bool false)],false⟩:=rfl
@[simp] theorem tys390:Tys 390=some ⟨.pointer 362,1,8,[(.pointer none)],false⟩:=rfl
@[simp] theorem tys406:Tys 406=some ⟨.struct [(0,17,1),(1,17,1),(2,17,1),(3,9,1)],4,40,[(.pointer none),(.pointer none),(.pointer none),(.string .empty)],false⟩:=rfl
@[simp] theorem tys407:Tys 407=some ⟨.struct [(0,17,1),(1,17,1),(2,17,1),(3,9,1)],4,40,[(.pointer none),(.pointer none),(.pointer none),(.string .empty)],false⟩:=rfl
@[simp] theorem tys408:Tys 408=some ⟨.array 0 16,0,0,[],false⟩:=rfl
@[simp] theorem tys411:Tys 411=some ⟨.int .u8,1,1,[(.int .u8 0)],false⟩:=rfl
@[simp] theorem tys412:Tys 412=some ⟨.int .u8,1,1,[(.int .u8 0)],false⟩:=rfl
@[simp] theorem tys414:Tys 414=some ⟨.pointer 5,1,8,[(.pointer none)],false⟩:=rfl
@[simp] theorem tys415:Tys 415=some ⟨.int .i32,1,4,[(.int .i32 0)],false⟩:=rfl
@[simp] theorem tys416:Tys 416=some ⟨.int .i32,1,4,[(.int .i32 0)],false⟩:=rfl
theorem Q7c:Q8t Tryz.prog Tys:=fun t i h=>by
 unfold Tys at h
 split at h
 ·cases h;exact ty2
 ·cases h;exact ty3
 ·cases h;exact ty4
 ·cases h;exact ty5
 ·cases h;exact ty6
 ·cases h;exact ty7
 ·cases h;exact ty8
 ·cases h;exact ty9
 ·cases h;exact ty10
 ·cases h;exact ty11
 ·cases h;exact ty12
 ·cases h;exact ty13
 ·cases h;exact ty14
 ·cases h;exact ty15
 ·cases h;exact ty16
 ·cases h;exact ty17
 ·cases h;exact ty18
 ·cases h;exact ty19
 ·cases h;exact ty21
 ·cases h;exact ty22
 ·cases h;exact ty23
 ·cases h;exact ty24
 ·cases h;exact ty25
 ·cases h;exact ty26
 ·cases h;exact ty27
 ·cases h;exact ty28
 ·cases h;exact ty29
 ·cases h;exact ty32
 ·cases h;exact ty43
 ·cases h;exact ty44
 ·cases h;exact ty45
 ·cases h;exact ty46
 ·cases h;exact ty47
 ·cases h;exact ty48
 ·cases h;exact ty51
 ·cases h;exact ty57
 ·cases h;exact ty77
 ·cases h;exact ty81
 ·cases h;exact ty82
 ·cases h;exact ty86
 ·cases h;exact ty87
 ·cases h;exact ty94
 ·cases h;exact ty97
 ·cases h;exact ty98
 ·cases h;exact ty99
 ·cases h;exact V9f
 ·cases h;exact V9e
 ·cases h;exact V9d
 ·cases h;exact V9c
 ·cases h;exact V9b
 ·cases h;exact V9a
 ·cases h;exact V99
 ·cases h;exact V98
 ·cases h;exact V97
 ·cases h;exact V96
 ·cases h;exact V95
 ·cases h;exact V94
 ·cases h;exact V93
 ·cases h;exact V92
 ·cases h;exact V91
 ·cases h;exact V90
 ·cases h;exact V8z
 ·cases h;exact V8y
 ·cases h;exact V8x
 ·cases h;exact V8w
 ·cases h;exact V8v
 ·cases h;exact V8u
 ·cases h;exact V8t
 ·cases h;exact V8s
 ·cases h;exact V8r
 ·cases h;exact V8q
 ·cases h;exact V8p
 ·cases h;exact V8o
 ·cases h;exact V8n
 ·cases h;exact V8m
 ·cases h;exact V8l
 ·cases h;exact V8k
 ·cases h;exact V8j
 ·cases h;exact V8i
 ·cases h;exact V8h
 ·cases h;exact V8g
 ·cases h;exact V8f
 ·cases h;exact V8e
 ·cases h;exact V8d
 ·cases h;exact V8c
 ·cases h;exact V8b
 ·cases h;exact V8a
 ·cases h;exact V89
 ·cases h;exact V88
 ·cases h;exact V87
 ·cases h;exact V86
 ·cases h;exact V85
 ·cases h;exact V84
 ·cases h;exact V83
 ·cases h;exact V82
 ·cases h;exact V81
 ·cases h;exact V80
 ·cases h;exact V7z
 ·cases h;exact V7y
 ·cases h;exact V7x
 ·cases h;exact V7w
 ·cases h;exact V7v
 ·cases h;exact V7u
 ·cases h;exact V7t
 ·cases h;exact V7s
 ·cases h;exact V7r
 ·cases h;exact V7q
 ·cases h;exact V7p
 ·cases h;exact V7o
 ·cases h;exact V7n
 ·cases h;exact V7m
 ·cases h;exact V7l
 ·cases h;exact V7k
 ·cases h;exact V7j
 ·cases h;exact V7i
 ·cases h;exact V7h
 ·cases h
theorem W5j:Tryz.prog.follows .mixedOrders=true:=rfl
end Go.Proofs.YtfhpjeogjcfkaaaGreat
