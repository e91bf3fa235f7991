import Derived.KernelRfl
import Derived.Test.YtenmmbjgnlflnaaGreatProg
import Derived.Test.YtenmmbjgnlflnaaGreatBJE1
set_option linter.unusedSimpArgs false
set_option linter.unusedVariables false
namespace Go.Proofs.YtenmmbjgnlflnaaGreat
open Go Go.RowKit
def ti2:TyI:=⟨.int .i64,1,8,[(.int .i64 0)],false⟩
theorem ty2:TyOk Tryz.prog 2 ti2:=TyOk.of Tryz.underlying2 (show TK.ok _ (.int .i64) _ from rfl) (.int .i64 0) (by kernel_rfl) rfl rfl rfl rfl (by decide) (fun h=>by cases h)
def ti3:TyI:=⟨.int .i64,1,8,[(.int .i64 0)],false⟩
theorem ty3:TyOk Tryz.prog 3 ti3:=TyOk.of Tryz.underlying3 (show TK.ok _ (.int .i64) _ from rfl) (.int .i64 0) (by kernel_rfl) rfl rfl rfl rfl (by decide) (fun h=>by cases h)
def ti4:TyI:=⟨.bool,1,1,[(.bool false)],false⟩
theorem ty4:TyOk Tryz.prog 4 ti4:=TyOk.of Tryz.underlying4 (show TK.ok _ (.bool) _ from rfl) (.bool false) (by kernel_rfl) rfl rfl rfl rfl (by decide) (fun h=>by cases h)
def ti5:TyI:=⟨.int .u8,1,1,[(.int .u8 0)],false⟩
theorem ty5:TyOk Tryz.prog 5 ti5:=TyOk.of Tryz.underlying5 (show TK.ok _ (.int .u8) _ from rfl) (.int .u8 0) (by kernel_rfl) rfl rfl rfl rfl (by decide) (fun h=>by cases h)
def ti6:TyI:=⟨.int .u8,1,1,[(.int .u8 0)],false⟩
theorem ty6:TyOk Tryz.prog 6 ti6:=TyOk.of Tryz.underlying6 (show TK.ok _ (.int .u8) _ from rfl) (.int .u8 0) (by kernel_rfl) rfl rfl rfl rfl (by decide) (fun h=>by cases h)
def ti7:TyI:=⟨.struct [(0,2,1),(1,3,1),(2,4,1),(3,6,1)],4,24,[(.int .i64 0),(.int .i64 0),(.bool false),(.int .u8 0)],false⟩
theorem ty7:TyOk Tryz.prog 7 ti7:=TyOk.of Tryz.underlying7 (show TK.ok _ (.struct [(0,2,1),(1,3,1),(2,4,1),(3,6,1)]) _ from ⟨_,rfl,rfl,fun x hx=>by simp only [U8,List.not_mem_nil,or_false] at hx;rcases hx with rfl | rfl | rfl | rfl<;>exact ⟨by kernel_rfl,by decide⟩⟩) (.agg #[(.int .i64 0),(.int .i64 0),(.bool false),(.int .u8 0)]) (by kernel_rfl) rfl rfl rfl rfl (by decide) (fun h=>by cases h)
def ti8:TyI:=⟨.struct [(0,2,1),(1,3,1),(2,4,1),(3,6,1)],4,24,[(.int .i64 0),(.int .i64 0),(.bool false),(.int .u8 0)],false⟩
theorem ty8:TyOk Tryz.prog 8 ti8:=TyOk.of Tryz.underlying8 (show TK.ok _ (.struct [(0,2,1),(1,3,1),(2,4,1),(3,6,1)]) _ from ⟨_,rfl,rfl,fun x hx=>by simp only [U8,List.not_mem_nil,or_false] at hx;rcases hx with rfl | rfl | rfl | rfl<;>exact ⟨by kernel_rfl,by decide⟩⟩) (.agg #[(.int .i64 0),(.int .i64 0),(.bool false),(.int .u8 0)]) (by kernel_rfl) rfl rfl rfl rfl (by decide) (fun h=>by cases h)
def ti9:TyI:=⟨.string,1,16,[(.string .empty)],false⟩
theorem ty9:TyOk Tryz.prog 9 ti9:=TyOk.of Tryz.underlying9 (show TK.ok _ (.string) _ from rfl) (.string .empty) (by kernel_rfl) rfl rfl rfl rfl (by decide) (fun h=>by cases h)
def ti10:TyI:=⟨.string,1,16,[(.string .empty)],false⟩
theorem ty10:TyOk Tryz.prog 10 ti10:=TyOk.of Tryz.underlying10 (show TK.ok _ (.string) _ from rfl) (.string .empty) (by kernel_rfl) rfl rfl rfl rfl (by decide) (fun h=>by cases h)
def ti11:TyI:=⟨.string,1,16,[(.string .empty)],false⟩
theorem ty11:TyOk Tryz.prog 11 ti11:=TyOk.of Tryz.underlying11 (show TK.ok _ (.string) _ from rfl) (.string .empty) (by kernel_rfl) rfl rfl rfl rfl (by decide) (fun h=>by cases h)
def ti12:TyI:=⟨.int .u64,1,8,[(.int .u64 0)],false⟩
theorem ty12:TyOk Tryz.prog 12 ti12:=TyOk.of Tryz.underlying12 (show TK.ok _ (.int .u64) _ from rfl) (.int .u64 0) (by kernel_rfl) rfl rfl rfl rfl (by decide) (fun h=>by cases h)
def ti13:TyI:=⟨.struct [(0,9,1),(1,12,1)],2,24,[(.string .empty),(.int .u64 0)],false⟩
theorem ty13:TyOk Tryz.prog 13 ti13:=TyOk.of Tryz.underlying13 (show TK.ok _ (.struct [(0,9,1),(1,12,1)]) _ from ⟨_,rfl,rfl,fun x hx=>by simp only [U8,List.not_mem_nil,or_false] at hx;rcases hx with rfl | rfl<;>exact ⟨by kernel_rfl,by decide⟩⟩) (.agg #[(.string .empty),(.int .u64 0)]) (by kernel_rfl) rfl rfl rfl rfl (by decide) (fun h=>by cases h)
def ti14:TyI:=⟨.struct [(0,9,1),(1,12,1)],2,24,[(.string .empty),(.int .u64 0)],false⟩
theorem ty14:TyOk Tryz.prog 14 ti14:=TyOk.of Tryz.underlying14 (show TK.ok _ (.struct [(0,9,1),(1,12,1)]) _ from ⟨_,rfl,rfl,fun x hx=>by simp only [U8,List.not_mem_nil,or_false] at hx;rcases hx with rfl | rfl<;>exact ⟨by kernel_rfl,by decide⟩⟩) (.agg #[(.string .empty),(.int .u64 0)]) (by kernel_rfl) rfl rfl rfl rfl (by decide) (fun h=>by cases h)
def ti15:TyI:=⟨.pointer 432,1,8,[(.pointer none)],false⟩
theorem ty15:TyOk Tryz.prog 15 ti15:=TyOk.of Tryz.underlying15 (show TK.ok _ (.pointer 432) _ from rfl) (.pointer none) (by kernel_rfl) rfl rfl rfl rfl (by decide) (fun h=>by cases h)
def ti16:TyI:=⟨.pointer 435,1,8,[(.pointer none)],false⟩
theorem ty16:TyOk Tryz.prog 16 ti16:=TyOk.of Tryz.underlying16 (show TK.ok _ (.pointer 435) _ from rfl) (.pointer none) (by kernel_rfl) rfl rfl rfl rfl (by decide) (fun h=>by cases h)
def ti17:TyI:=⟨.pointer 444,1,8,[(.pointer none)],false⟩
theorem ty17:TyOk Tryz.prog 17 ti17:=TyOk.of Tryz.underlying17 (show TK.ok _ (.pointer 444) _ from rfl) (.pointer none) (by kernel_rfl) rfl rfl rfl rfl (by decide) (fun h=>by cases h)
def ti18:TyI:=⟨.struct [(0,17,1)],1,8,[(.pointer none)],false⟩
theorem ty18:TyOk Tryz.prog 18 ti18:=TyOk.of Tryz.underlying18 (show TK.ok _ (.struct [(0,17,1)]) _ from ⟨_,rfl,rfl,fun x hx=>by simp only [U8,List.not_mem_nil,or_false] at hx;rcases hx with rfl<;>exact ⟨by kernel_rfl,by decide⟩⟩) (.agg #[(.pointer none)]) (by kernel_rfl) rfl rfl rfl rfl (by decide) (fun h=>by cases h)
def ti19:TyI:=⟨.struct [(0,17,1)],1,8,[(.pointer none)],false⟩
theorem ty19:TyOk Tryz.prog 19 ti19:=TyOk.of Tryz.underlying19 (show TK.ok _ (.struct [(0,17,1)]) _ from ⟨_,rfl,rfl,fun x hx=>by simp only [U8,List.not_mem_nil,or_false] at hx;rcases hx with rfl<;>exact ⟨by kernel_rfl,by decide⟩⟩) (.agg #[(.pointer none)]) (by kernel_rfl) rfl rfl rfl rfl (by decide) (fun h=>by cases h)
def ti21:TyI:=⟨.int .i32,1,4,[(.int .i32 0)],false⟩
theorem ty21:TyOk Tryz.prog 21 ti21:=TyOk.of Tryz.underlying21 (show TK.ok _ (.int .i32) _ from rfl) (.int .i32 0) (by kernel_rfl) rfl rfl rfl rfl (by decide) (fun h=>by cases h)
def ti22:TyI:=⟨.slice 5,1,24,[(.slice none 0 0)],false⟩
theorem ty22:TyOk Tryz.prog 22 ti22:=TyOk.of Tryz.underlying22 (show TK.ok _ (.slice 5) _ from rfl) (.slice none 0 0) (by kernel_rfl) rfl rfl rfl rfl (by decide) (fun h=>by cases h)
def ti23:TyI:=⟨.slice 237,1,24,[(.slice none 0 0)],false⟩
theorem ty23:TyOk Tryz.prog 23 ti23:=TyOk.of Tryz.underlying23 (show TK.ok _ (.slice 237) _ from rfl) (.slice none 0 0) (by kernel_rfl) rfl rfl rfl rfl (by decide) (fun h=>by cases h)
def ti24:TyI:=⟨.slice 53,1,24,[(.slice none 0 0)],false⟩
theorem ty24:TyOk Tryz.prog 24 ti24:=TyOk.of Tryz.underlying24 (show TK.ok _ (.slice 53) _ from rfl) (.slice none 0 0) (by kernel_rfl) rfl rfl rfl rfl (by decide) (fun h=>by cases h)
def ti25:TyI:=⟨.slice 27,1,24,[(.slice none 0 0)],false⟩
theorem ty25:TyOk Tryz.prog 25 ti25:=TyOk.of Tryz.underlying25 (show TK.ok _ (.slice 27) _ from rfl) (.slice none 0 0) (by kernel_rfl) rfl rfl rfl rfl (by decide) (fun h=>by cases h)
def ti26:TyI:=⟨.struct [(0,3,1),(1,3,1),(2,25,1)],3,40,[(.int .i64 0),(.int .i64 0),(.slice none 0 0)],false⟩
theorem ty26:TyOk Tryz.prog 26 ti26:=TyOk.of Tryz.underlying26 (show TK.ok _ (.struct [(0,3,1),(1,3,1),(2,25,1)]) _ from ⟨_,rfl,rfl,fun x hx=>by simp only [U8,List.not_mem_nil,or_false] at hx;rcases hx with rfl | rfl | rfl<;>exact ⟨by kernel_rfl,by decide⟩⟩) (.agg #[(.int .i64 0),(.int .i64 0),(.slice none 0 0)]) (by kernel_rfl) rfl rfl rfl rfl (by decide) (fun h=>by cases h)
def ti27:TyI:=⟨.struct [(0,3,1),(1,3,1),(2,25,1)],3,40,[(.int .i64 0),(.int .i64 0),(.slice none 0 0)],false⟩
theorem ty27:TyOk Tryz.prog 27 ti27:=TyOk.of Tryz.underlying27 (show TK.ok _ (.struct [(0,3,1),(1,3,1),(2,25,1)]) _ from ⟨_,rfl,rfl,fun x hx=>by simp only [U8,List.not_mem_nil,or_false] at hx;rcases hx with rfl | rfl | rfl<;>exact ⟨by kernel_rfl,by decide⟩⟩) (.agg #[(.int .i64 0),(.int .i64 0),(.slice none 0 0)]) (by kernel_rfl) rfl rfl rfl rfl (by decide) (fun h=>by cases h)
def ti34:TyI:=⟨.struct [(0,3,1),(1,3,1)],2,16,[(.int .i64 0),(.int .i64 0)],false⟩
theorem ty34:TyOk Tryz.prog 34 ti34:=TyOk.of Tryz.underlying34 (show TK.ok _ (.struct [(0,3,1),(1,3,1)]) _ from ⟨_,rfl,rfl,fun x hx=>by simp only [U8,List.not_mem_nil,or_false] at hx;rcases hx with rfl | rfl<;>exact ⟨by kernel_rfl,by decide⟩⟩) (.agg #[(.int .i64 0),(.int .i64 0)]) (by kernel_rfl) rfl rfl rfl rfl (by decide) (fun h=>by cases h)
def ti35:TyI:=⟨.struct [(0,3,1),(1,3,1)],2,16,[(.int .i64 0),(.int .i64 0)],true⟩
theorem ty35:TyOk Tryz.prog 35 ti35:=TyOk.of Tryz.underlying35 (show TK.ok _ (.struct [(0,3,1),(1,3,1)]) _ from ⟨_,rfl,rfl,fun x hx=>by simp only [U8,List.not_mem_nil,or_false] at hx;rcases hx with rfl | rfl<;>exact ⟨by kernel_rfl,by decide⟩⟩) (.agg #[(.int .i64 0),(.int .i64 0)]) (by kernel_rfl) rfl rfl rfl rfl (by decide) (fun _ fs h=>by cases h;exact ⟨by kernel_rfl,by kernel_rfl,by kernel_rfl,by kernel_rfl⟩)
def ti36:TyI:=⟨.slice 72,1,24,[(.slice none 0 0)],false⟩
theorem ty36:TyOk Tryz.prog 36 ti36:=TyOk.of Tryz.underlying36 (show TK.ok _ (.slice 72) _ from rfl) (.slice none 0 0) (by kernel_rfl) rfl rfl rfl rfl (by decide) (fun h=>by cases h)
def ti39:TyI:=⟨.slice 44,1,24,[(.slice none 0 0)],false⟩
theorem ty39:TyOk Tryz.prog 39 ti39:=TyOk.of Tryz.underlying39 (show TK.ok _ (.slice 44) _ from rfl) (.slice none 0 0) (by kernel_rfl) rfl rfl rfl rfl (by decide) (fun h=>by cases h)
def ti44:TyI:=⟨.slice 3,1,24,[(.slice none 0 0)],false⟩
theorem ty44:TyOk Tryz.prog 44 ti44:=TyOk.of Tryz.underlying44 (show TK.ok _ (.slice 3) _ from rfl) (.slice none 0 0) (by kernel_rfl) rfl rfl rfl rfl (by decide) (fun h=>by cases h)
def ti49:TyI:=⟨.struct [(0,35,2),(2,35,2)],4,32,[(.int .i64 0),(.int .i64 0),(.int .i64 0),(.int .i64 0)],false⟩
theorem ty49:TyOk Tryz.prog 49 ti49:=TyOk.of Tryz.underlying49 (show TK.ok _ (.struct [(0,35,2),(2,35,2)]) _ from ⟨_,rfl,rfl,fun x hx=>by simp only [U8,List.not_mem_nil,or_false] at hx;rcases hx with rfl | rfl<;>exact ⟨by kernel_rfl,by decide⟩⟩) (.agg #[(.int .i64 0),(.int .i64 0),(.int .i64 0),(.int .i64 0)]) (by kernel_rfl) rfl rfl rfl rfl (by decide) (fun h=>by cases h)
def ti50:TyI:=⟨.struct [(0,35,2),(2,35,2)],4,32,[(.int .i64 0),(.int .i64 0),(.int .i64 0),(.int .i64 0)],true⟩
theorem ty50:TyOk Tryz.prog 50 ti50:=TyOk.of Tryz.underlying50 (show TK.ok _ (.struct [(0,35,2),(2,35,2)]) _ from ⟨_,rfl,rfl,fun x hx=>by simp only [U8,List.not_mem_nil,or_false] at hx;rcases hx with rfl | rfl<;>exact ⟨by kernel_rfl,by decide⟩⟩) (.agg #[(.int .i64 0),(.int .i64 0),(.int .i64 0),(.int .i64 0)]) (by kernel_rfl) rfl rfl rfl rfl (by decide) (fun _ fs h=>by cases h;exact ⟨by kernel_rfl,by kernel_rfl,by kernel_rfl,by kernel_rfl⟩)
def ti51:TyI:=⟨.slice 55,1,24,[(.slice none 0 0)],false⟩
theorem ty51:TyOk Tryz.prog 51 ti51:=TyOk.of Tryz.underlying51 (show TK.ok _ (.slice 55) _ from rfl) (.slice none 0 0) (by kernel_rfl) rfl rfl rfl rfl (by decide) (fun h=>by cases h)
def ti52:TyI:=⟨.struct [(0,50,4),(4,36,1),(5,51,1)],6,80,[(.int .i64 0),(.int .i64 0),(.int .i64 0),(.int .i64 0),(.slice none 0 0),(.slice none 0 0)],false⟩
theorem ty52:TyOk Tryz.prog 52 ti52:=TyOk.of Tryz.underlying52 (show TK.ok _ (.struct [(0,50,4),(4,36,1),(5,51,1)]) _ from ⟨_,rfl,rfl,fun x hx=>by simp only [U8,List.not_mem_nil,or_false] at hx;rcases hx with rfl | rfl | rfl<;>exact ⟨by kernel_rfl,by decide⟩⟩) (.agg #[(.int .i64 0),(.int .i64 0),(.int .i64 0),(.int .i64 0),(.slice none 0 0),(.slice none 0 0)]) (by kernel_rfl) rfl rfl rfl rfl (by decide) (fun h=>by cases h)
def ti53:TyI:=⟨.struct [(0,50,4),(4,36,1),(5,51,1)],6,80,[(.int .i64 0),(.int .i64 0),(.int .i64 0),(.int .i64 0),(.slice none 0 0),(.slice none 0 0)],false⟩
theorem ty53:TyOk Tryz.prog 53 ti53:=TyOk.of Tryz.underlying53 (show TK.ok _ (.struct [(0,50,4),(4,36,1),(5,51,1)]) _ from ⟨_,rfl,rfl,fun x hx=>by simp only [U8,List.not_mem_nil,or_false] at hx;rcases hx with rfl | rfl | rfl<;>exact ⟨by kernel_rfl,by decide⟩⟩) (.agg #[(.int .i64 0),(.int .i64 0),(.int .i64 0),(.int .i64 0),(.slice none 0 0),(.slice none 0 0)]) (by kernel_rfl) rfl rfl rfl rfl (by decide) (fun h=>by cases h)
def ti54:TyI:=⟨.struct [(0,3,1),(1,3,1),(2,3,1),(3,51,1)],4,48,[(.int .i64 0),(.int .i64 0),(.int .i64 0),(.slice none 0 0)],false⟩
theorem ty54:TyOk Tryz.prog 54 ti54:=TyOk.of Tryz.underlying54 (show TK.ok _ (.struct [(0,3,1),(1,3,1),(2,3,1),(3,51,1)]) _ from ⟨_,rfl,rfl,fun x hx=>by simp only [U8,List.not_mem_nil,or_false] at hx;rcases hx with rfl | rfl | rfl | rfl<;>exact ⟨by kernel_rfl,by decide⟩⟩) (.agg #[(.int .i64 0),(.int .i64 0),(.int .i64 0),(.slice none 0 0)]) (by kernel_rfl) rfl rfl rfl rfl (by decide) (fun h=>by cases h)
def ti55:TyI:=⟨.struct [(0,3,1),(1,3,1),(2,3,1),(3,51,1)],4,48,[(.int .i64 0),(.int .i64 0),(.int .i64 0),(.slice none 0 0)],false⟩
theorem ty55:TyOk Tryz.prog 55 ti55:=TyOk.of Tryz.underlying55 (show TK.ok _ (.struct [(0,3,1),(1,3,1),(2,3,1),(3,51,1)]) _ from ⟨_,rfl,rfl,fun x hx=>by simp only [U8,List.not_mem_nil,or_false] at hx;rcases hx with rfl | rfl | rfl | rfl<;>exact ⟨by kernel_rfl,by decide⟩⟩) (.agg #[(.int .i64 0),(.int .i64 0),(.int .i64 0),(.slice none 0 0)]) (by kernel_rfl) rfl rfl rfl rfl (by decide) (fun h=>by cases h)
def ti66:TyI:=⟨.slice 68,1,24,[(.slice none 0 0)],false⟩
theorem ty66:TyOk Tryz.prog 66 ti66:=TyOk.of Tryz.underlying66 (show TK.ok _ (.slice 68) _ from rfl) (.slice none 0 0) (by kernel_rfl) rfl rfl rfl rfl (by decide) (fun h=>by cases h)
def ti67:TyI:=⟨.struct [(0,3,1),(1,3,1),(2,3,1),(3,3,1),(4,3,1),(5,66,1)],6,64,[(.int .i64 0),(.int .i64 0),(.int .i64 0),(.int .i64 0),(.int .i64 0),(.slice none 0 0)],false⟩
theorem ty67:TyOk Tryz.prog 67 ti67:=TyOk.of Tryz.underlying67 (show TK.ok _ (.struct [(0,3,1),(1,3,1),(2,3,1),(3,3,1),(4,3,1),(5,66,1)]) _ from ⟨_,rfl,rfl,fun x hx=>by simp only [U8,List.not_mem_nil,or_false] at hx;rcases hx with rfl | rfl | rfl | rfl | rfl | rfl<;>exact ⟨by kernel_rfl,by decide⟩⟩) (.agg #[(.int .i64 0),(.int .i64 0),(.int .i64 0),(.int .i64 0),(.int .i64 0),(.slice none 0 0)]) (by kernel_rfl) rfl rfl rfl rfl (by decide) (fun h=>by cases h)
def ti68:TyI:=⟨.struct [(0,3,1),(1,3,1),(2,3,1),(3,3,1),(4,3,1),(5,66,1)],6,64,[(.int .i64 0),(.int .i64 0),(.int .i64 0),(.int .i64 0),(.int .i64 0),(.slice none 0 0)],false⟩
theorem ty68:TyOk Tryz.prog 68 ti68:=TyOk.of Tryz.underlying68 (show TK.ok _ (.struct [(0,3,1),(1,3,1),(2,3,1),(3,3,1),(4,3,1),(5,66,1)]) _ from ⟨_,rfl,rfl,fun x hx=>by simp only [U8,List.not_mem_nil,or_false] at hx;rcases hx with rfl | rfl | rfl | rfl | rfl | rfl<;>exact ⟨by kernel_rfl,by decide⟩⟩) (.agg #[(.int .i64 0),(.int .i64 0),(.int .i64 0),(.int .i64 0),(.int .i64 0),(.slice none 0 0)]) (by kernel_rfl) rfl rfl rfl rfl (by decide) (fun h=>by cases h)
def ti69:TyI:=⟨.struct [(0,3,1),(1,3,1),(2,3,1)],3,24,[(.int .i64 0),(.int .i64 0),(.int .i64 0)],false⟩
theorem ty69:TyOk Tryz.prog 69 ti69:=TyOk.of Tryz.underlying69 (show TK.ok _ (.struct [(0,3,1),(1,3,1),(2,3,1)]) _ from ⟨_,rfl,rfl,fun x hx=>by simp only [U8,List.not_mem_nil,or_false] at hx;rcases hx with rfl | rfl | rfl<;>exact ⟨by kernel_rfl,by decide⟩⟩) (.agg #[(.int .i64 0),(.int .i64 0),(.int .i64 0)]) (by kernel_rfl) rfl rfl rfl rfl (by decide) (fun h=>by cases h)
def ti70:TyI:=⟨.struct [(0,3,1),(1,3,1),(2,3,1)],3,24,[(.int .i64 0),(.int .i64 0),(.int .i64 0)],true⟩
theorem ty70:TyOk Tryz.prog 70 ti70:=TyOk.of Tryz.underlying70 (show TK.ok _ (.struct [(0,3,1),(1,3,1),(2,3,1)]) _ from ⟨_,rfl,rfl,fun x hx=>by simp only [U8,List.not_mem_nil,or_false] at hx;rcases hx with rfl | rfl | rfl<;>exact ⟨by kernel_rfl,by decide⟩⟩) (.agg #[(.int .i64 0),(.int .i64 0),(.int .i64 0)]) (by kernel_rfl) rfl rfl rfl rfl (by decide) (fun _ fs h=>by cases h;exact ⟨by kernel_rfl,by kernel_rfl,by kernel_rfl,by kernel_rfl⟩)
def ti71:TyI:=⟨.struct [(0,68,6),(6,70,3)],9,88,[(.int .i64 0),(.int .i64 0),(.int .i64 0),(.int .i64 0),(.int .i64 0),(.slice none 0 0),(.int .i64 0),(.int .i64 0),(.int .i64 0)],false⟩
theorem ty71:TyOk Tryz.prog 71 ti71:=TyOk.of Tryz.underlying71 (show TK.ok _ (.struct [(0,68,6),(6,70,3)]) _ from ⟨_,rfl,rfl,fun x hx=>by simp only [U8,List.not_mem_nil,or_false] at hx;rcases hx with rfl | rfl<;>exact ⟨by kernel_rfl,by decide⟩⟩) (.agg #[(.int .i64 0),(.int .i64 0),(.int .i64 0),(.int .i64 0),(.int .i64 0),(.slice none 0 0),(.int .i64 0),(.int .i64 0),(.int .i64 0)]) (by kernel_rfl) rfl rfl rfl rfl (by decide) (fun h=>by cases h)
def ti72:TyI:=⟨.struct [(0,68,6),(6,70,3)],9,88,[(.int .i64 0),(.int .i64 0),(.int .i64 0),(.int .i64 0),(.int .i64 0),(.slice none 0 0),(.int .i64 0),(.int .i64 0),(.int .i64 0)],false⟩
theorem ty72:TyOk Tryz.prog 72 ti72:=TyOk.of Tryz.underlying72 (show TK.ok _ (.struct [(0,68,6),(6,70,3)]) _ from ⟨_,rfl,rfl,fun x hx=>by simp only [U8,List.not_mem_nil,or_false] at hx;rcases hx with rfl | rfl<;>exact ⟨by kernel_rfl,by decide⟩⟩) (.agg #[(.int .i64 0),(.int .i64 0),(.int .i64 0),(.int .i64 0),(.int .i64 0),(.slice none 0 0),(.int .i64 0),(.int .i64 0),(.int .i64 0)]) (by kernel_rfl) rfl rfl rfl rfl (by decide) (fun h=>by cases h)
def ti76:TyI:=⟨.pointer 110,1,8,[(.pointer none)],false⟩
theorem ty76:TyOk Tryz.prog 76 ti76:=TyOk.of Tryz.underlying76 (show TK.ok _ (.pointer 110) _ from rfl) (.pointer none) (by kernel_rfl) rfl rfl rfl rfl (by decide) (fun h=>by cases h)
def ti80:TyI:=⟨.slice 88,1,24,[(.slice none 0 0)],false⟩
theorem ty80:TyOk Tryz.prog 80 ti80:=TyOk.of Tryz.underlying80 (show TK.ok _ (.slice 88) _ from rfl) (.slice none 0 0) (by kernel_rfl) rfl rfl rfl rfl (by decide) (fun h=>by cases h)
def ti83:TyI:=⟨.slice 209,1,24,[(.slice none 0 0)],false⟩
theorem ty83:TyOk Tryz.prog 83 ti83:=TyOk.of Tryz.underlying83 (show TK.ok _ (.slice 209) _ from rfl) (.slice none 0 0) (by kernel_rfl) rfl rfl rfl rfl (by decide) (fun h=>by cases h)
def ti86:TyI:=⟨.slice 171,1,24,[(.slice none 0 0)],false⟩
theorem ty86:TyOk Tryz.prog 86 ti86:=TyOk.of Tryz.underlying86 (show TK.ok _ (.slice 171) _ from rfl) (.slice none 0 0) (by kernel_rfl) rfl rfl rfl rfl (by decide) (fun h=>by cases h)
def ti87:TyI:=⟨.struct [(0,3,1),(1,44,1),(2,3,1),(3,3,1),(4,3,1),(5,3,1),(6,86,1),(7,3,1)],8,96,[(.int .i64 0),(.slice none 0 0),(.int .i64 0),(.int .i64 0),(.int .i64 0),(.int .i64 0),(.slice none 0 0),(.int .i64 0)],false⟩
theorem ty87:TyOk Tryz.prog 87 ti87:=TyOk.of Tryz.underlying87 (show TK.ok _ (.struct [(0,3,1),(1,44,1),(2,3,1),(3,3,1),(4,3,1),(5,3,1),(6,86,1),(7,3,1)]) _ from ⟨_,rfl,rfl,fun x hx=>by simp only [U8,List.not_mem_nil,or_false] at hx;rcases hx with rfl | rfl | rfl | rfl | rfl | rfl | rfl | rfl<;>exact ⟨by kernel_rfl,by decide⟩⟩) (.agg #[(.int .i64 0),(.slice none 0 0),(.int .i64 0),(.int .i64 0),(.int .i64 0),(.int .i64 0),(.slice none 0 0),(.int .i64 0)]) (by kernel_rfl) rfl rfl rfl rfl (by decide) (fun h=>by cases h)
def ti88:TyI:=⟨.struct [(0,3,1),(1,44,1),(2,3,1),(3,3,1),(4,3,1),(5,3,1),(6,86,1),(7,3,1)],8,96,[(.int .i64 0),(.slice none 0 0),(.int .i64 0),(.int .i64 0),(.int .i64 0),(.int .i64 0),(.slice none 0 0),(.int .i64 0)],false⟩
theorem ty88:TyOk Tryz.prog 88 ti88:=TyOk.of Tryz.underlying88 (show TK.ok _ (.struct [(0,3,1),(1,44,1),(2,3,1),(3,3,1),(4,3,1),(5,3,1),(6,86,1),(7,3,1)]) _ from ⟨_,rfl,rfl,fun x hx=>by simp only [U8,List.not_mem_nil,or_false] at hx;rcases hx with rfl | rfl | rfl | rfl | rfl | rfl | rfl | rfl<;>exact ⟨by kernel_rfl,by decide⟩⟩) (.agg #[(.int .i64 0),(.slice none 0 0),(.int .i64 0),(.int .i64 0),(.int .i64 0),(.int .i64 0),(.slice none 0 0),(.int .i64 0)]) (by kernel_rfl) rfl rfl rfl rfl (by decide) (fun h=>by cases h)
def ti99:TyI:=⟨.slice 206,1,24,[(.slice none 0 0)],false⟩
theorem ty99:TyOk Tryz.prog 99 ti99:=TyOk.of Tryz.underlying99 (show TK.ok _ (.slice 206) _ from rfl) (.slice none 0 0) (by kernel_rfl) rfl rfl rfl rfl (by decide) (fun h=>by cases h)
def Y29:TyI:=⟨.slice 102,1,24,[(.slice none 0 0)],false⟩
theorem Y7w:TyOk Tryz.prog 100 Y29:=TyOk.of Tryz.underlying100 (show TK.ok _ (.slice 102) _ from rfl) (.slice none 0 0) (by kernel_rfl) rfl rfl rfl rfl (by decide) (fun h=>by cases h)
def Y28:TyI:=⟨.struct [(0,3,1),(1,3,1),(2,86,1),(3,44,1),(4,99,1),(5,100,1)],6,112,[(.int .i64 0),(.int .i64 0),(.slice none 0 0),(.slice none 0 0),(.slice none 0 0),(.slice none 0 0)],false⟩
theorem Y7v:TyOk Tryz.prog 101 Y28:=TyOk.of Tryz.underlying101 (show TK.ok _ (.struct [(0,3,1),(1,3,1),(2,86,1),(3,44,1),(4,99,1),(5,100,1)]) _ from ⟨_,rfl,rfl,fun x hx=>by simp only [U8,List.not_mem_nil,or_false] at hx;rcases hx with rfl | rfl | rfl | rfl | rfl | rfl<;>exact ⟨by kernel_rfl,by decide⟩⟩) (.agg #[(.int .i64 0),(.int .i64 0),(.slice none 0 0),(.slice none 0 0),(.slice none 0 0),(.slice none 0 0)]) (by kernel_rfl) rfl rfl rfl rfl (by decide) (fun h=>by cases h)
def Y27:TyI:=⟨.struct [(0,3,1),(1,3,1),(2,86,1),(3,44,1),(4,99,1),(5,100,1)],6,112,[(.int .i64 0),(.int .i64 0),(.slice none 0 0),(.slice none 0 0),(.slice none 0 0),(.slice none 0 0)],false⟩
theorem Y7u:TyOk Tryz.prog 102 Y27:=TyOk.of Tryz.underlying102 (show TK.ok _ (.struct [(0,3,1),(1,3,1),(2,86,1),(3,44,1),(4,99,1),(5,100,1)]) _ from ⟨_,rfl,rfl,fun x hx=>by simp only [U8,List.not_mem_nil,or_false] at hx;rcases hx with rfl | rfl | rfl | rfl | rfl | rfl<;>exact ⟨by kernel_rfl,by decide⟩⟩) (.agg #[(.int .i64 0),(.int .i64 0),(.slice none 0 0),(.slice none 0 0),(.slice none 0 0),(.slice none 0 0)]) (by kernel_rfl) rfl rfl rfl rfl (by decide) (fun h=>by cases h)
def Y26:TyI:=⟨.func,1,8,[.nilFunc],false⟩
theorem Y7t:TyOk Tryz.prog 108 Y26:=TyOk.of Tryz.underlying108 (show TK.ok _ (.func) _ from ⟨_,_,_,rfl⟩) .nilFunc (by kernel_rfl) rfl rfl rfl rfl (by decide) (fun h=>by cases h)
def Y25:TyI:=⟨.struct [(0,23,1),(1,24,1),(2,3,1),(3,3,1),(4,3,1),(5,3,1),(6,108,1)],7,88,[(.slice none 0 0),(.slice none 0 0),(.int .i64 0),(.int .i64 0),(.int .i64 0),(.int .i64 0),.nilFunc],false⟩
theorem Y7s:TyOk Tryz.prog 109 Y25:=TyOk.of Tryz.underlying109 (show TK.ok _ (.struct [(0,23,1),(1,24,1),(2,3,1),(3,3,1),(4,3,1),(5,3,1),(6,108,1)]) _ from ⟨_,rfl,rfl,fun x hx=>by simp only [U8,List.not_mem_nil,or_false] at hx;rcases hx with rfl | rfl | rfl | rfl | rfl | rfl | rfl<;>exact ⟨by kernel_rfl,by decide⟩⟩) (.agg #[(.slice none 0 0),(.slice none 0 0),(.int .i64 0),(.int .i64 0),(.int .i64 0),(.int .i64 0),.nilFunc]) (by kernel_rfl) rfl rfl rfl rfl (by decide) (fun h=>by cases h)
def Y24:TyI:=⟨.struct [(0,23,1),(1,24,1),(2,3,1),(3,3,1),(4,3,1),(5,3,1),(6,108,1)],7,88,[(.slice none 0 0),(.slice none 0 0),(.int .i64 0),(.int .i64 0),(.int .i64 0),(.int .i64 0),.nilFunc],false⟩
theorem Y7r:TyOk Tryz.prog 110 Y24:=TyOk.of Tryz.underlying110 (show TK.ok _ (.struct [(0,23,1),(1,24,1),(2,3,1),(3,3,1),(4,3,1),(5,3,1),(6,108,1)]) _ from ⟨_,rfl,rfl,fun x hx=>by simp only [U8,List.not_mem_nil,or_false] at hx;rcases hx with rfl | rfl | rfl | rfl | rfl | rfl | rfl<;>exact ⟨by kernel_rfl,by decide⟩⟩) (.agg #[(.slice none 0 0),(.slice none 0 0),(.int .i64 0),(.int .i64 0),(.int .i64 0),(.int .i64 0),.nilFunc]) (by kernel_rfl) rfl rfl rfl rfl (by decide) (fun h=>by cases h)
def Y23:TyI:=⟨.struct [(0,23,1),(1,24,1),(2,100,1),(3,3,1),(4,3,1),(5,3,1),(6,3,1)],7,104,[(.slice none 0 0),(.slice none 0 0),(.slice none 0 0),(.int .i64 0),(.int .i64 0),(.int .i64 0),(.int .i64 0)],false⟩
theorem Y7q:TyOk Tryz.prog 111 Y23:=TyOk.of Tryz.underlying111 (show TK.ok _ (.struct [(0,23,1),(1,24,1),(2,100,1),(3,3,1),(4,3,1),(5,3,1),(6,3,1)]) _ from ⟨_,rfl,rfl,fun x hx=>by simp only [U8,List.not_mem_nil,or_false] at hx;rcases hx with rfl | rfl | rfl | rfl | rfl | rfl | rfl<;>exact ⟨by kernel_rfl,by decide⟩⟩) (.agg #[(.slice none 0 0),(.slice none 0 0),(.slice none 0 0),(.int .i64 0),(.int .i64 0),(.int .i64 0),(.int .i64 0)]) (by kernel_rfl) rfl rfl rfl rfl (by decide) (fun h=>by cases h)
def Y22:TyI:=⟨.struct [(0,23,1),(1,24,1),(2,100,1),(3,3,1),(4,3,1),(5,3,1),(6,3,1)],7,104,[(.slice none 0 0),(.slice none 0 0),(.slice none 0 0),(.int .i64 0),(.int .i64 0),(.int .i64 0),(.int .i64 0)],false⟩
theorem Y7p:TyOk Tryz.prog 112 Y22:=TyOk.of Tryz.underlying112 (show TK.ok _ (.struct [(0,23,1),(1,24,1),(2,100,1),(3,3,1),(4,3,1),(5,3,1),(6,3,1)]) _ from ⟨_,rfl,rfl,fun x hx=>by simp only [U8,List.not_mem_nil,or_false] at hx;rcases hx with rfl | rfl | rfl | rfl | rfl | rfl | rfl<;>exact ⟨by kernel_rfl,by decide⟩⟩) (.agg #[(.slice none 0 0),(.slice none 0 0),(.slice none 0 0),(.int .i64 0),(.int .i64 0),(.int .i64 0),(.int .i64 0)]) (by kernel_rfl) rfl rfl rfl rfl (by decide) (fun h=>by cases h)
def Y21:TyI:=⟨.slice 50,1,24,[(.slice none 0 0)],false⟩
theorem Y7o:TyOk Tryz.prog 120 Y21:=TyOk.of Tryz.underlying120 (show TK.ok _ (.slice 50) _ from rfl) (.slice none 0 0) (by kernel_rfl) rfl rfl rfl rfl (by decide) (fun h=>by cases h)
def Y20:TyI:=⟨.pointer 215,1,8,[(.pointer none)],false⟩
theorem Y7n:TyOk Tryz.prog 123 Y20:=TyOk.of Tryz.underlying123 (show TK.ok _ (.pointer 215) _ from rfl) (.pointer none) (by kernel_rfl) rfl rfl rfl rfl (by decide) (fun h=>by cases h)
def Y1z:TyI:=⟨.slice 156,1,24,[(.slice none 0 0)],false⟩
theorem Y7m:TyOk Tryz.prog 139 Y1z:=TyOk.of Tryz.underlying139 (show TK.ok _ (.slice 156) _ from rfl) (.slice none 0 0) (by kernel_rfl) rfl rfl rfl rfl (by decide) (fun h=>by cases h)
def Y1y:TyI:=⟨.struct [(0,23,1),(1,120,1),(2,139,1)],3,72,[(.slice none 0 0),(.slice none 0 0),(.slice none 0 0)],false⟩
theorem Y7l:TyOk Tryz.prog 140 Y1y:=TyOk.of Tryz.underlying140 (show TK.ok _ (.struct [(0,23,1),(1,120,1),(2,139,1)]) _ from ⟨_,rfl,rfl,fun x hx=>by simp only [U8,List.not_mem_nil,or_false] at hx;rcases hx with rfl | rfl | rfl<;>exact ⟨by kernel_rfl,by decide⟩⟩) (.agg #[(.slice none 0 0),(.slice none 0 0),(.slice none 0 0)]) (by kernel_rfl) rfl rfl rfl rfl (by decide) (fun h=>by cases h)
def Y1x:TyI:=⟨.struct [(0,23,1),(1,120,1),(2,139,1)],3,72,[(.slice none 0 0),(.slice none 0 0),(.slice none 0 0)],false⟩
theorem Y7k:TyOk Tryz.prog 141 Y1x:=TyOk.of Tryz.underlying141 (show TK.ok _ (.struct [(0,23,1),(1,120,1),(2,139,1)]) _ from ⟨_,rfl,rfl,fun x hx=>by simp only [U8,List.not_mem_nil,or_false] at hx;rcases hx with rfl | rfl | rfl<;>exact ⟨by kernel_rfl,by decide⟩⟩) (.agg #[(.slice none 0 0),(.slice none 0 0),(.slice none 0 0)]) (by kernel_rfl) rfl rfl rfl rfl (by decide) (fun h=>by cases h)
def Y1w:TyI:=⟨.slice 35,1,24,[(.slice none 0 0)],false⟩
theorem Y7j:TyOk Tryz.prog 152 Y1w:=TyOk.of Tryz.underlying152 (show TK.ok _ (.slice 35) _ from rfl) (.slice none 0 0) (by kernel_rfl) rfl rfl rfl rfl (by decide) (fun h=>by cases h)
def Y1v:TyI:=⟨.struct [(0,3,1),(1,35,2)],3,24,[(.int .i64 0),(.int .i64 0),(.int .i64 0)],false⟩
theorem Y7i:TyOk Tryz.prog 155 Y1v:=TyOk.of Tryz.underlying155 (show TK.ok _ (.struct [(0,3,1),(1,35,2)]) _ from ⟨_,rfl,rfl,fun x hx=>by simp only [U8,List.not_mem_nil,or_false] at hx;rcases hx with rfl | rfl<;>exact ⟨by kernel_rfl,by decide⟩⟩) (.agg #[(.int .i64 0),(.int .i64 0),(.int .i64 0)]) (by kernel_rfl) rfl rfl rfl rfl (by decide) (fun h=>by cases h)
def Y1u:TyI:=⟨.struct [(0,3,1),(1,35,2)],3,24,[(.int .i64 0),(.int .i64 0),(.int .i64 0)],true⟩
theorem Y7h:TyOk Tryz.prog 156 Y1u:=TyOk.of Tryz.underlying156 (show TK.ok _ (.struct [(0,3,1),(1,35,2)]) _ from ⟨_,rfl,rfl,fun x hx=>by simp only [U8,List.not_mem_nil,or_false] at hx;rcases hx with rfl | rfl<;>exact ⟨by kernel_rfl,by decide⟩⟩) (.agg #[(.int .i64 0),(.int .i64 0),(.int .i64 0)]) (by kernel_rfl) rfl rfl rfl rfl (by decide) (fun _ fs h=>by cases h;exact ⟨by kernel_rfl,by kernel_rfl,by kernel_rfl,by kernel_rfl⟩)
def Y1t:TyI:=⟨.slice 66,1,24,[(.slice none 0 0)],false⟩
theorem Y7g:TyOk Tryz.prog 163 Y1t:=TyOk.of Tryz.underlying163 (show TK.ok _ (.slice 66) _ from rfl) (.slice none 0 0) (by kernel_rfl) rfl rfl rfl rfl (by decide) (fun h=>by cases h)
def Y1s:TyI:=⟨.pointer 80,1,8,[(.pointer none)],false⟩
theorem Y7f:TyOk Tryz.prog 167 Y1s:=TyOk.of Tryz.underlying167 (show TK.ok _ (.pointer 80) _ from rfl) (.pointer none) (by kernel_rfl) rfl rfl rfl rfl (by decide) (fun h=>by cases h)
def Y1r:TyI:=⟨.pointer 86,1,8,[(.pointer none)],false⟩
theorem Y7e:TyOk Tryz.prog 168 Y1r:=TyOk.of Tryz.underlying168 (show TK.ok _ (.pointer 86) _ from rfl) (.pointer none) (by kernel_rfl) rfl rfl rfl rfl (by decide) (fun h=>by cases h)
def Y1q:TyI:=⟨.struct [(0,3,1),(1,44,1)],2,32,[(.int .i64 0),(.slice none 0 0)],false⟩
theorem Y7d:TyOk Tryz.prog 170 Y1q:=TyOk.of Tryz.underlying170 (show TK.ok _ (.struct [(0,3,1),(1,44,1)]) _ from ⟨_,rfl,rfl,fun x hx=>by simp only [U8,List.not_mem_nil,or_false] at hx;rcases hx with rfl | rfl<;>exact ⟨by kernel_rfl,by decide⟩⟩) (.agg #[(.int .i64 0),(.slice none 0 0)]) (by kernel_rfl) rfl rfl rfl rfl (by decide) (fun h=>by cases h)
def Y1p:TyI:=⟨.struct [(0,3,1),(1,44,1)],2,32,[(.int .i64 0),(.slice none 0 0)],false⟩
theorem Y7c:TyOk Tryz.prog 171 Y1p:=TyOk.of Tryz.underlying171 (show TK.ok _ (.struct [(0,3,1),(1,44,1)]) _ from ⟨_,rfl,rfl,fun x hx=>by simp only [U8,List.not_mem_nil,or_false] at hx;rcases hx with rfl | rfl<;>exact ⟨by kernel_rfl,by decide⟩⟩) (.agg #[(.int .i64 0),(.slice none 0 0)]) (by kernel_rfl) rfl rfl rfl rfl (by decide) (fun h=>by cases h)
def Y1o:TyI:=⟨.pointer 3,1,8,[(.pointer none)],false⟩
theorem Y7b:TyOk Tryz.prog 175 Y1o:=TyOk.of Tryz.underlying175 (show TK.ok _ (.pointer 3) _ from rfl) (.pointer none) (by kernel_rfl) rfl rfl rfl rfl (by decide) (fun h=>by cases h)
def Y1n:TyI:=⟨.slice 190,1,24,[(.slice none 0 0)],false⟩
theorem Y7a:TyOk Tryz.prog 188 Y1n:=TyOk.of Tryz.underlying188 (show TK.ok _ (.slice 190) _ from rfl) (.slice none 0 0) (by kernel_rfl) rfl rfl rfl rfl (by decide) (fun h=>by cases h)
def Y1m:TyI:=⟨.struct [(0,3,1),(1,66,1),(2,86,1)],3,56,[(.int .i64 0),(.slice none 0 0),(.slice none 0 0)],false⟩
theorem Y79:TyOk Tryz.prog 189 Y1m:=TyOk.of Tryz.underlying189 (show TK.ok _ (.struct [(0,3,1),(1,66,1),(2,86,1)]) _ from ⟨_,rfl,rfl,fun x hx=>by simp only [U8,List.not_mem_nil,or_false] at hx;rcases hx with rfl | rfl | rfl<;>exact ⟨by kernel_rfl,by decide⟩⟩) (.agg #[(.int .i64 0),(.slice none 0 0),(.slice none 0 0)]) (by kernel_rfl) rfl rfl rfl rfl (by decide) (fun h=>by cases h)
def Y1l:TyI:=⟨.struct [(0,3,1),(1,66,1),(2,86,1)],3,56,[(.int .i64 0),(.slice none 0 0),(.slice none 0 0)],false⟩
theorem Y78:TyOk Tryz.prog 190 Y1l:=TyOk.of Tryz.underlying190 (show TK.ok _ (.struct [(0,3,1),(1,66,1),(2,86,1)]) _ from ⟨_,rfl,rfl,fun x hx=>by simp only [U8,List.not_mem_nil,or_false] at hx;rcases hx with rfl | rfl | rfl<;>exact ⟨by kernel_rfl,by decide⟩⟩) (.agg #[(.int .i64 0),(.slice none 0 0),(.slice none 0 0)]) (by kernel_rfl) rfl rfl rfl rfl (by decide) (fun h=>by cases h)
def Y1k:TyI:=⟨.pointer 196,1,8,[(.pointer none)],false⟩
theorem Y77:TyOk Tryz.prog 192 Y1k:=TyOk.of Tryz.underlying192 (show TK.ok _ (.pointer 196) _ from rfl) (.pointer none) (by kernel_rfl) rfl rfl rfl rfl (by decide) (fun h=>by cases h)
def Y1j:TyI:=⟨.pointer 279,1,8,[(.pointer none)],false⟩
theorem Y76:TyOk Tryz.prog 193 Y1j:=TyOk.of Tryz.underlying193 (show TK.ok _ (.pointer 279) _ from rfl) (.pointer none) (by kernel_rfl) rfl rfl rfl rfl (by decide) (fun h=>by cases h)
def Y1i:TyI:=⟨.struct [(0,193,1),(1,36,1),(2,3,1),(3,3,1)],4,48,[(.pointer none),(.slice none 0 0),(.int .i64 0),(.int .i64 0)],false⟩
theorem Y75:TyOk Tryz.prog 195 Y1i:=TyOk.of Tryz.underlying195 (show TK.ok _ (.struct [(0,193,1),(1,36,1),(2,3,1),(3,3,1)]) _ from ⟨_,rfl,rfl,fun x hx=>by simp only [U8,List.not_mem_nil,or_false] at hx;rcases hx with rfl | rfl | rfl | rfl<;>exact ⟨by kernel_rfl,by decide⟩⟩) (.agg #[(.pointer none),(.slice none 0 0),(.int .i64 0),(.int .i64 0)]) (by kernel_rfl) rfl rfl rfl rfl (by decide) (fun h=>by cases h)
def Y1h:TyI:=⟨.struct [(0,193,1),(1,36,1),(2,3,1),(3,3,1)],4,48,[(.pointer none),(.slice none 0 0),(.int .i64 0),(.int .i64 0)],false⟩
theorem Y74:TyOk Tryz.prog 196 Y1h:=TyOk.of Tryz.underlying196 (show TK.ok _ (.struct [(0,193,1),(1,36,1),(2,3,1),(3,3,1)]) _ from ⟨_,rfl,rfl,fun x hx=>by simp only [U8,List.not_mem_nil,or_false] at hx;rcases hx with rfl | rfl | rfl | rfl<;>exact ⟨by kernel_rfl,by decide⟩⟩) (.agg #[(.pointer none),(.slice none 0 0),(.int .i64 0),(.int .i64 0)]) (by kernel_rfl) rfl rfl rfl rfl (by decide) (fun h=>by cases h)
def Y1g:TyI:=⟨.struct [(0,44,1),(1,35,2)],3,40,[(.slice none 0 0),(.int .i64 0),(.int .i64 0)],false⟩
theorem Y73:TyOk Tryz.prog 198 Y1g:=TyOk.of Tryz.underlying198 (show TK.ok _ (.struct [(0,44,1),(1,35,2)]) _ from ⟨_,rfl,rfl,fun x hx=>by simp only [U8,List.not_mem_nil,or_false] at hx;rcases hx with rfl | rfl<;>exact ⟨by kernel_rfl,by decide⟩⟩) (.agg #[(.slice none 0 0),(.int .i64 0),(.int .i64 0)]) (by kernel_rfl) rfl rfl rfl rfl (by decide) (fun h=>by cases h)
def Y1f:TyI:=⟨.struct [(0,44,1),(1,35,2)],3,40,[(.slice none 0 0),(.int .i64 0),(.int .i64 0)],false⟩
theorem Y72:TyOk Tryz.prog 199 Y1f:=TyOk.of Tryz.underlying199 (show TK.ok _ (.struct [(0,44,1),(1,35,2)]) _ from ⟨_,rfl,rfl,fun x hx=>by simp only [U8,List.not_mem_nil,or_false] at hx;rcases hx with rfl | rfl<;>exact ⟨by kernel_rfl,by decide⟩⟩) (.agg #[(.slice none 0 0),(.int .i64 0),(.int .i64 0)]) (by kernel_rfl) rfl rfl rfl rfl (by decide) (fun h=>by cases h)
def Y1e:TyI:=⟨.slice 199,1,24,[(.slice none 0 0)],false⟩
theorem Y71:TyOk Tryz.prog 200 Y1e:=TyOk.of Tryz.underlying200 (show TK.ok _ (.slice 199) _ from rfl) (.slice none 0 0) (by kernel_rfl) rfl rfl rfl rfl (by decide) (fun h=>by cases h)
def Y1d:TyI:=⟨.struct [(0,3,1),(1,3,1),(2,3,1),(3,102,6)],9,136,[(.int .i64 0),(.int .i64 0),(.int .i64 0),(.int .i64 0),(.int .i64 0),(.slice none 0 0),(.slice none 0 0),(.slice none 0 0),(.slice none 0 0)],false⟩
theorem Y70:TyOk Tryz.prog 205 Y1d:=TyOk.of Tryz.underlying205 (show TK.ok _ (.struct [(0,3,1),(1,3,1),(2,3,1),(3,102,6)]) _ from ⟨_,rfl,rfl,fun x hx=>by simp only [U8,List.not_mem_nil,or_false] at hx;rcases hx with rfl | rfl | rfl | rfl<;>exact ⟨by kernel_rfl,by decide⟩⟩) (.agg #[(.int .i64 0),(.int .i64 0),(.int .i64 0),(.int .i64 0),(.int .i64 0),(.slice none 0 0),(.slice none 0 0),(.slice none 0 0),(.slice none 0 0)]) (by kernel_rfl) rfl rfl rfl rfl (by decide) (fun h=>by cases h)
def Y1c:TyI:=⟨.struct [(0,3,1),(1,3,1),(2,3,1),(3,102,6)],9,136,[(.int .i64 0),(.int .i64 0),(.int .i64 0),(.int .i64 0),(.int .i64 0),(.slice none 0 0),(.slice none 0 0),(.slice none 0 0),(.slice none 0 0)],false⟩
theorem Y6z:TyOk Tryz.prog 206 Y1c:=TyOk.of Tryz.underlying206 (show TK.ok _ (.struct [(0,3,1),(1,3,1),(2,3,1),(3,102,6)]) _ from ⟨_,rfl,rfl,fun x hx=>by simp only [U8,List.not_mem_nil,or_false] at hx;rcases hx with rfl | rfl | rfl | rfl<;>exact ⟨by kernel_rfl,by decide⟩⟩) (.agg #[(.int .i64 0),(.int .i64 0),(.int .i64 0),(.int .i64 0),(.int .i64 0),(.slice none 0 0),(.slice none 0 0),(.slice none 0 0),(.slice none 0 0)]) (by kernel_rfl) rfl rfl rfl rfl (by decide) (fun h=>by cases h)
def Y1b:TyI:=⟨.struct [(0,3,1),(1,27,3)],4,48,[(.int .i64 0),(.int .i64 0),(.int .i64 0),(.slice none 0 0)],false⟩
theorem Y6y:TyOk Tryz.prog 208 Y1b:=TyOk.of Tryz.underlying208 (show TK.ok _ (.struct [(0,3,1),(1,27,3)]) _ from ⟨_,rfl,rfl,fun x hx=>by simp only [U8,List.not_mem_nil,or_false] at hx;rcases hx with rfl | rfl<;>exact ⟨by kernel_rfl,by decide⟩⟩) (.agg #[(.int .i64 0),(.int .i64 0),(.int .i64 0),(.slice none 0 0)]) (by kernel_rfl) rfl rfl rfl rfl (by decide) (fun h=>by cases h)
def Y1a:TyI:=⟨.struct [(0,3,1),(1,27,3)],4,48,[(.int .i64 0),(.int .i64 0),(.int .i64 0),(.slice none 0 0)],false⟩
theorem Y6x:TyOk Tryz.prog 209 Y1a:=TyOk.of Tryz.underlying209 (show TK.ok _ (.struct [(0,3,1),(1,27,3)]) _ from ⟨_,rfl,rfl,fun x hx=>by simp only [U8,List.not_mem_nil,or_false] at hx;rcases hx with rfl | rfl<;>exact ⟨by kernel_rfl,by decide⟩⟩) (.agg #[(.int .i64 0),(.int .i64 0),(.int .i64 0),(.slice none 0 0)]) (by kernel_rfl) rfl rfl rfl rfl (by decide) (fun h=>by cases h)
def Y19:TyI:=⟨.struct [(0,22,1),(1,3,1)],2,32,[(.slice none 0 0),(.int .i64 0)],false⟩
theorem Y6w:TyOk Tryz.prog 214 Y19:=TyOk.of Tryz.underlying214 (show TK.ok _ (.struct [(0,22,1),(1,3,1)]) _ from ⟨_,rfl,rfl,fun x hx=>by simp only [U8,List.not_mem_nil,or_false] at hx;rcases hx with rfl | rfl<;>exact ⟨by kernel_rfl,by decide⟩⟩) (.agg #[(.slice none 0 0),(.int .i64 0)]) (by kernel_rfl) rfl rfl rfl rfl (by decide) (fun h=>by cases h)
def Y18:TyI:=⟨.struct [(0,22,1),(1,3,1)],2,32,[(.slice none 0 0),(.int .i64 0)],false⟩
theorem Y6v:TyOk Tryz.prog 215 Y18:=TyOk.of Tryz.underlying215 (show TK.ok _ (.struct [(0,22,1),(1,3,1)]) _ from ⟨_,rfl,rfl,fun x hx=>by simp only [U8,List.not_mem_nil,or_false] at hx;rcases hx with rfl | rfl<;>exact ⟨by kernel_rfl,by decide⟩⟩) (.agg #[(.slice none 0 0),(.int .i64 0)]) (by kernel_rfl) rfl rfl rfl rfl (by decide) (fun h=>by cases h)
def Y17:TyI:=⟨.slice 220,1,24,[(.slice none 0 0)],false⟩
theorem Y6u:TyOk Tryz.prog 216 Y17:=TyOk.of Tryz.underlying216 (show TK.ok _ (.slice 220) _ from rfl) (.slice none 0 0) (by kernel_rfl) rfl rfl rfl rfl (by decide) (fun h=>by cases h)
def Y16:TyI:=⟨.slice 9,1,24,[(.slice none 0 0)],false⟩
theorem Y6t:TyOk Tryz.prog 220 Y16:=TyOk.of Tryz.underlying220 (show TK.ok _ (.slice 9) _ from rfl) (.slice none 0 0) (by kernel_rfl) rfl rfl rfl rfl (by decide) (fun h=>by cases h)
def Y15:TyI:=⟨.map 9 4,1,8,[(.map none)],false⟩
theorem Y6s:TyOk Tryz.prog 234 Y15:=TyOk.of Tryz.underlying234 (show TK.ok _ (.map 9 4) _ from rfl) (.map none) (by kernel_rfl) rfl rfl rfl rfl (by decide) (fun h=>by cases h)
def Y14:TyI:=⟨.slice 239,1,24,[(.slice none 0 0)],false⟩
theorem Y6r:TyOk Tryz.prog 235 Y14:=TyOk.of Tryz.underlying235 (show TK.ok _ (.slice 239) _ from rfl) (.slice none 0 0) (by kernel_rfl) rfl rfl rfl rfl (by decide) (fun h=>by cases h)
def Y13:TyI:=⟨.struct [(0,9,1),(1,235,1)],2,40,[(.string .empty),(.slice none 0 0)],false⟩
theorem Y6q:TyOk Tryz.prog 236 Y13:=TyOk.of Tryz.underlying236 (show TK.ok _ (.struct [(0,9,1),(1,235,1)]) _ from ⟨_,rfl,rfl,fun x hx=>by simp only [U8,List.not_mem_nil,or_false] at hx;rcases hx with rfl | rfl<;>exact ⟨by kernel_rfl,by decide⟩⟩) (.agg #[(.string .empty),(.slice none 0 0)]) (by kernel_rfl) rfl rfl rfl rfl (by decide) (fun h=>by cases h)
def Y12:TyI:=⟨.struct [(0,9,1),(1,235,1)],2,40,[(.string .empty),(.slice none 0 0)],false⟩
theorem Y6p:TyOk Tryz.prog 237 Y12:=TyOk.of Tryz.underlying237 (show TK.ok _ (.struct [(0,9,1),(1,235,1)]) _ from ⟨_,rfl,rfl,fun x hx=>by simp only [U8,List.not_mem_nil,or_false] at hx;rcases hx with rfl | rfl<;>exact ⟨by kernel_rfl,by decide⟩⟩) (.agg #[(.string .empty),(.slice none 0 0)]) (by kernel_rfl) rfl rfl rfl rfl (by decide) (fun h=>by cases h)
def Y11:TyI:=⟨.struct [(0,9,1),(1,152,1),(2,3,1)],3,48,[(.string .empty),(.slice none 0 0),(.int .i64 0)],false⟩
theorem Y6o:TyOk Tryz.prog 238 Y11:=TyOk.of Tryz.underlying238 (show TK.ok _ (.struct [(0,9,1),(1,152,1),(2,3,1)]) _ from ⟨_,rfl,rfl,fun x hx=>by simp only [U8,List.not_mem_nil,or_false] at hx;rcases hx with rfl | rfl | rfl<;>exact ⟨by kernel_rfl,by decide⟩⟩) (.agg #[(.string .empty),(.slice none 0 0),(.int .i64 0)]) (by kernel_rfl) rfl rfl rfl rfl (by decide) (fun h=>by cases h)
def Y10:TyI:=⟨.struct [(0,9,1),(1,152,1),(2,3,1)],3,48,[(.string .empty),(.slice none 0 0),(.int .i64 0)],false⟩
theorem Y6n:TyOk Tryz.prog 239 Y10:=TyOk.of Tryz.underlying239 (show TK.ok _ (.struct [(0,9,1),(1,152,1),(2,3,1)]) _ from ⟨_,rfl,rfl,fun x hx=>by simp only [U8,List.not_mem_nil,or_false] at hx;rcases hx with rfl | rfl | rfl<;>exact ⟨by kernel_rfl,by decide⟩⟩) (.agg #[(.string .empty),(.slice none 0 0),(.int .i64 0)]) (by kernel_rfl) rfl rfl rfl rfl (by decide) (fun h=>by cases h)
def Y0z:TyI:=⟨.array 6 4,6,6,[(.bool false),(.bool false),(.bool false),(.bool false),(.bool false),(.bool false)],false⟩
theorem Y6m:TyOk Tryz.prog 243 Y0z:=TyOk.of Tryz.underlying243 (show TK.ok _ (.array 6 4) _ from rfl) (.agg #[(.bool false),(.bool false),(.bool false),(.bool false),(.bool false),(.bool false)]) (by kernel_rfl) rfl rfl rfl rfl (by decide) (fun h=>by cases h)
def Y0y:TyI:=⟨.int .u64,1,8,[(.int .u64 0)],false⟩
theorem Y6l:TyOk Tryz.prog 268 Y0y:=TyOk.of Tryz.underlying268 (show TK.ok _ (.int .u64) _ from rfl) (.int .u64 0) (by kernel_rfl) rfl rfl rfl rfl (by decide) (fun h=>by cases h)
def Y0x:TyI:=⟨.pointer 334,1,8,[(.pointer none)],false⟩
theorem Y6k:TyOk Tryz.prog 276 Y0x:=TyOk.of Tryz.underlying276 (show TK.ok _ (.pointer 334) _ from rfl) (.pointer none) (by kernel_rfl) rfl rfl rfl rfl (by decide) (fun h=>by cases h)
def Y0w:TyI:=⟨.struct [(0,23,1),(1,276,1)],2,32,[(.slice none 0 0),(.pointer none)],false⟩
theorem Y6j:TyOk Tryz.prog 278 Y0w:=TyOk.of Tryz.underlying278 (show TK.ok _ (.struct [(0,23,1),(1,276,1)]) _ from ⟨_,rfl,rfl,fun x hx=>by simp only [U8,List.not_mem_nil,or_false] at hx;rcases hx with rfl | rfl<;>exact ⟨by kernel_rfl,by decide⟩⟩) (.agg #[(.slice none 0 0),(.pointer none)]) (by kernel_rfl) rfl rfl rfl rfl (by decide) (fun h=>by cases h)
def Y0v:TyI:=⟨.struct [(0,23,1),(1,276,1)],2,32,[(.slice none 0 0),(.pointer none)],false⟩
theorem Y6i:TyOk Tryz.prog 279 Y0v:=TyOk.of Tryz.underlying279 (show TK.ok _ (.struct [(0,23,1),(1,276,1)]) _ from ⟨_,rfl,rfl,fun x hx=>by simp only [U8,List.not_mem_nil,or_false] at hx;rcases hx with rfl | rfl<;>exact ⟨by kernel_rfl,by decide⟩⟩) (.agg #[(.slice none 0 0),(.pointer none)]) (by kernel_rfl) rfl rfl rfl rfl (by decide) (fun h=>by cases h)
def Y0u:TyI:=⟨.int .i64,1,8,[(.int .i64 0)],false⟩
theorem Y6h:TyOk Tryz.prog 318 Y0u:=TyOk.of Tryz.underlying318 (show TK.ok _ (.int .i64) _ from rfl) (.int .i64 0) (by kernel_rfl) rfl rfl rfl rfl (by decide) (fun h=>by cases h)
def Y0t:TyI:=⟨.int .u32,1,4,[(.int .u32 0)],false⟩
theorem Y6g:TyOk Tryz.prog 326 Y0t:=TyOk.of Tryz.underlying326 (show TK.ok _ (.int .u32) _ from rfl) (.int .u32 0) (by kernel_rfl) rfl rfl rfl rfl (by decide) (fun h=>by cases h)
def Y0s:TyI:=⟨.int .u64,1,8,[(.int .u64 0)],false⟩
theorem Y6f:TyOk Tryz.prog 328 Y0s:=TyOk.of Tryz.underlying328 (show TK.ok _ (.int .u64) _ from rfl) (.int .u64 0) (by kernel_rfl) rfl rfl rfl rfl (by decide) (fun h=>by cases h)
def Y0r:TyI:=⟨.array 4 3,4,32,[(.int .i64 0),(.int .i64 0),(.int .i64 0),(.int .i64 0)],false⟩
theorem Y6e:TyOk Tryz.prog 332 Y0r:=TyOk.of Tryz.underlying332 (show TK.ok _ (.array 4 3) _ from rfl) (.agg #[(.int .i64 0),(.int .i64 0),(.int .i64 0),(.int .i64 0)]) (by kernel_rfl) rfl rfl rfl rfl (by decide) (fun h=>by cases h)
def Y0q:TyI:=⟨.array 4 332,16,128,[(.int .i64 0),(.int .i64 0),(.int .i64 0),(.int .i64 0),(.int .i64 0),(.int .i64 0),(.int .i64 0),(.int .i64 0),(.int .i64 0),(.int .i64 0),(.int .i64 0),(.int .i64 0),(.int .i64 0),(.int .i64 0),(.int .i64 0),(.int .i64 0)],false⟩
theorem Y6d:TyOk Tryz.prog 333 Y0q:=TyOk.of Tryz.underlying333 (show TK.ok _ (.array 4 332) _ from rfl) (.agg #[(.int .i64 0),(.int .i64 0),(.int .i64 0),(.int .i64 0),(.int .i64 0),(.int .i64 0),(.int .i64 0),(.int .i64 0),(.int .i64 0),(.int .i64 0),(.int .i64 0),(.int .i64 0),(.int .i64 0),(.int .i64 0),(.int .i64 0),(.int .i64 0)]) (by kernel_rfl) rfl rfl rfl rfl (by decide) (fun h=>by cases h)
def Y0p:TyI:=⟨.array 4 332,16,128,[(.int .i64 0),(.int .i64 0),(.int .i64 0),(.int .i64 0),(.int .i64 0),(.int .i64 0),(.int .i64 0),(.int .i64 0),(.int .i64 0),(.int .i64 0),(.int .i64 0),(.int .i64 0),(.int .i64 0),(.int .i64 0),(.int .i64 0),(.int .i64 0)],false⟩
theorem Y6c:TyOk Tryz.prog 334 Y0p:=TyOk.of Tryz.underlying334 (show TK.ok _ (.array 4 332) _ from rfl) (.agg #[(.int .i64 0),(.int .i64 0),(.int .i64 0),(.int .i64 0),(.int .i64 0),(.int .i64 0),(.int .i64 0),(.int .i64 0),(.int .i64 0),(.int .i64 0),(.int .i64 0),(.int .i64 0),(.int .i64 0),(.int .i64 0),(.int .i64 0),(.int .i64 0)]) (by kernel_rfl) rfl rfl rfl rfl (by decide) (fun h=>by cases h)
def Y0o:TyI:=⟨.array 11 4,11,11,[(.bool false),(.bool false),(.bool false),(.bool false),(.bool false),(.bool false),(.bool false),(.bool false),(.bool false),(.bool false),(.bool false)],false⟩
theorem Y6b:TyOk Tryz.prog 339 Y0o:=TyOk.of Tryz.underlying339 (show TK.ok _ (.array 11 4) _ from rfl) (.agg #[(.bool false),(.bool false),(.bool false),(.bool false),(.bool false),(.bool false),(.bool false),(.bool false),(.bool false),(.bool false),(.bool false)]) (by kernel_rfl) rfl rfl rfl rfl (by decide) (fun h=>by cases h)
def Y0n:TyI:=⟨.slice 200,1,24,[(.slice none 0 0)],false⟩
theorem Y6a:TyOk Tryz.prog 340 Y0n:=TyOk.of Tryz.underlying340 (show TK.ok _ (.slice 200) _ from rfl) (.slice none 0 0) (by kernel_rfl) rfl rfl rfl rfl (by decide) (fun h=>by cases h)
def Y0m:TyI:=⟨.int .u64,1,8,[(.int .u64 0)],false⟩
theorem Y69:TyOk Tryz.prog 368 Y0m:=TyOk.of Tryz.underlying368 (show TK.ok _ (.int .u64) _ from rfl) (.int .u64 0) (by kernel_rfl) rfl rfl rfl rfl (by decide) (fun h=>by cases h)
def Y0l:TyI:=⟨.pointer 368,1,8,[(.pointer none)],false⟩
theorem Y68:TyOk Tryz.prog 410 Y0l:=TyOk.of Tryz.underlying410 (show TK.ok _ (.pointer 368) _ from rfl) (.pointer none) (by kernel_rfl) rfl rfl rfl rfl (by decide) (fun h=>by cases h)
def Y0k:TyI:=⟨.struct [(0,17,1),(1,17,1),(2,17,1),(3,9,1)],4,40,[(.pointer none),(.pointer none),(.pointer none),(.string .empty)],false⟩
theorem Y67:TyOk Tryz.prog 431 Y0k:=TyOk.of Tryz.underlying431 (show TK.ok _ (.struct [(0,17,1),(1,17,1),(2,17,1),(3,9,1)]) _ from ⟨_,rfl,rfl,fun x hx=>by simp only [U8,List.not_mem_nil,or_false] at hx;rcases hx with rfl | rfl | rfl | rfl<;>exact ⟨by kernel_rfl,by decide⟩⟩) (.agg #[(.pointer none),(.pointer none),(.pointer none),(.string .empty)]) (by kernel_rfl) rfl rfl rfl rfl (by decide) (fun h=>by cases h)
def Y0j:TyI:=⟨.struct [(0,17,1),(1,17,1),(2,17,1),(3,9,1)],4,40,[(.pointer none),(.pointer none),(.pointer none),(.string .empty)],false⟩
theorem Y66:TyOk Tryz.prog 432 Y0j:=TyOk.of Tryz.underlying432 (show TK.ok _ (.struct [(0,17,1),(1,17,1),(2,17,1),(3,9,1)]) _ from ⟨_,rfl,rfl,fun x hx=>by simp only [U8,List.not_mem_nil,or_false] at hx;rcases hx with rfl | rfl | rfl | rfl<;>exact ⟨by kernel_rfl,by decide⟩⟩) (.agg #[(.pointer none),(.pointer none),(.pointer none),(.string .empty)]) (by kernel_rfl) rfl rfl rfl rfl (by decide) (fun h=>by cases h)
def Y0i:TyI:=⟨.array 0 16,0,0,[],false⟩
theorem Y65:TyOk Tryz.prog 433 Y0i:=TyOk.of Tryz.underlying433 (show TK.ok _ (.array 0 16) _ from rfl) (.agg #[]) (by kernel_rfl) rfl rfl rfl rfl (by decide) (fun h=>by cases h)
def Y0h:TyI:=⟨.int .u8,1,1,[(.int .u8 0)],false⟩
theorem Y64:TyOk Tryz.prog 437 Y0h:=TyOk.of Tryz.underlying437 (show TK.ok _ (.int .u8) _ from rfl) (.int .u8 0) (by kernel_rfl) rfl rfl rfl rfl (by decide) (fun h=>by cases h)
def Y0g:TyI:=⟨.int .u8,1,1,[(.int .u8 0)],false⟩
theorem Y63:TyOk Tryz.prog 438 Y0g:=TyOk.of Tryz.underlying438 (show TK.ok _ (.int .u8) _ from rfl) (.int .u8 0) (by kernel_rfl) rfl rfl rfl rfl (by decide) (fun h=>by cases h)
def Y0f:TyI:=⟨.pointer 5,1,8,[(.pointer none)],false⟩
theorem Y62:TyOk Tryz.prog 440 Y0f:=TyOk.of Tryz.underlying440 (show TK.ok _ (.pointer 5) _ from rfl) (.pointer none) (by kernel_rfl) rfl rfl rfl rfl (by decide) (fun h=>by cases h)
def Y0e:TyI:=⟨.int .i32,1,4,[(.int .i32 0)],false⟩
theorem Y61:TyOk Tryz.prog 441 Y0e:=TyOk.of Tryz.underlying441 (show TK.ok _ (.int .i32) _ from rfl) (.int .i32 0) (by kernel_rfl) rfl rfl rfl rfl (by decide) (fun h=>by cases h)
def Y0d:TyI:=⟨.int .i32,1,4,[(.int .i32 0)],false⟩
theorem Y60:TyOk Tryz.prog 442 Y0d:=TyOk.of Tryz.underlying442 (show TK.ok _ (.int .i32) _ from rfl) (.int .i32 0) (by kernel_rfl) rfl rfl rfl rfl (by decide) (fun h=>by cases h)
def Y0c:TyI:=⟨.struct [(0,12,1),(1,12,1),(2,326,1),(3,437,1),(4,5,1),(5,5,1),(6,438,1),(7,439,1),(8,440,1),(9,441,1),(10,442,1)],11,48,[(.int .u64 0),(.int .u64 0),(.int .u32 0),(.int .u8 0),(.int .u8 0),(.int .u8 0),(.int .u8 0),.nilFunc,(.pointer none),(.int .i32 0),(.int .i32 0)],false⟩
theorem Y5z:TyOk Tryz.prog 443 Y0c:=TyOk.of Tryz.underlying443 (show TK.ok _ (.struct [(0,12,1),(1,12,1),(2,326,1),(3,437,1),(4,5,1),(5,5,1),(6,438,1),(7,439,1),(8,440,1),(9,441,1),(10,442,1)]) _ from ⟨_,rfl,rfl,fun x hx=>by simp only [U8,List.not_mem_nil,or_false] at hx;rcases hx with rfl | rfl | rfl | rfl | rfl | rfl | rfl | rfl | rfl | rfl | rfl<;>exact ⟨by kernel_rfl,by decide⟩⟩) (.agg #[(.int .u64 0),(.int .u64 0),(.int .u32 0),(.int .u8 0),(.int .u8 0),(.int .u8 0),(.int .u8 0),.nilFunc,(.pointer none),(.int .i32 0),(.int .i32 0)]) (by kernel_rfl) rfl rfl rfl rfl (by decide) (fun h=>by cases h)
def Y0b:TyI:=⟨.struct [(0,12,1),(1,12,1),(2,326,1),(3,437,1),(4,5,1),(5,5,1),(6,438,1),(7,439,1),(8,440,1),(9,441,1),(10,442,1)],11,48,[(.int .u64 0),(.int .u64 0),(.int .u32 0),(.int .u8 0),(.int .u8 0),(.int .u8 0),(.int .u8 0),.nilFunc,(.pointer none),(.int .i32 0),(.int .i32 0)],false⟩
theorem Y5y:TyOk Tryz.prog 444 Y0b:=TyOk.of Tryz.underlying444 (show TK.ok _ (.struct [(0,12,1),(1,12,1),(2,326,1),(3,437,1),(4,5,1),(5,5,1),(6,438,1),(7,439,1),(8,440,1),(9,441,1),(10,442,1)]) _ from ⟨_,rfl,rfl,fun x hx=>by simp only [U8,List.not_mem_nil,or_false] at hx;rcases hx with rfl | rfl | rfl | rfl | rfl | rfl | rfl | rfl | rfl | rfl | rfl<;>exact ⟨by kernel_rfl,by decide⟩⟩) (.agg #[(.int .u64 0),(.int .u64 0),(.int .u32 0),(.int .u8 0),(.int .u8 0),(.int .u8 0),(.int .u8 0),.nilFunc,(.pointer none),(.int .i32 0),(.int .i32 0)]) (by kernel_rfl) rfl rfl rfl rfl (by decide) (fun h=>by cases h)
def Tys:Ty:=fun t=>match t with
 | 2=>some ti2
 | 3=>some ti3
 | 4=>some ti4
 | 5=>some ti5
 | 6=>some ti6
 | 7=>some ti7
 | 8=>some ti8
 | 9=>some ti9
 | 10=>some ti10
 | 11=>some ti11
 | 12=>some ti12
 | 13=>some ti13
 | 14=>some ti14
 | 15=>some ti15
 | 16=>some ti16
 | 17=>some ti17
 | 18=>some ti18
 | 19=>some ti19
 | 21=>some ti21
 | 22=>some ti22
 | 23=>some ti23
 | 24=>some ti24
 | 25=>some ti25
 | 26=>some ti26
 | 27=>some ti27
 | 34=>some ti34
 | 35=>some ti35
 | 36=>some ti36
 | 39=>some ti39
 | 44=>some ti44
 | 49=>some ti49
 | 50=>some ti50
 | 51=>some ti51
 | 52=>some ti52
 | 53=>some ti53
 | 54=>some ti54
 | 55=>some ti55
 | 66=>some ti66
 | 67=>some ti67
 | 68=>some ti68
 | 69=>some ti69
 | 70=>some ti70
 | 71=>some ti71
 | 72=>some ti72
 | 76=>some ti76
 | 80=>some ti80
 | 83=>some ti83
 | 86=>some ti86
 | 87=>some ti87
 | 88=>some ti88
 | 99=>some ti99
 | 100=>some Y29
 | 101=>some Y28
 | 102=>some Y27
 | 108=>some Y26
 | 109=>some Y25
 | 110=>some Y24
 | 111=>some Y23
 | 112=>some Y22
 | 120=>some Y21
 | 123=>some Y20
 | 139=>some Y1z
 | 140=>some Y1y
 | 141=>some Y1x
 | 152=>some Y1w
 | 155=>some Y1v
 | 156=>some Y1u
 | 163=>some Y1t
 | 167=>some Y1s
 | 168=>some Y1r
 | 170=>some Y1q
 | 171=>some Y1p
 | 175=>some Y1o
 | 188=>some Y1n
 | 189=>some Y1m
 | 190=>some Y1l
 | 192=>some Y1k
 | 193=>some Y1j
 | 195=>some Y1i
 | 196=>some Y1h
 | 198=>some Y1g
 | 199=>some Y1f
 | 200=>some Y1e
 | 205=>some Y1d
 | 206=>some Y1c
 | 208=>some Y1b
 | 209=>some Y1a
 | 214=>some Y19
 | 215=>some Y18
 | 216=>some Y17
 | 220=>some Y16
 | 234=>some Y15
 | 235=>some Y14
 | 236=>some Y13
 | 237=>some Y12
 | 238=>some Y11
 | 239=>some Y10
 | 243=>some Y0z
 | 268=>some Y0y
 | 276=>some Y0x
 | 278=>some Y0w
 | 279=>some Y0v
 | 318=>some Y0u
 | 326=>some Y0t
 | 328=>some Y0s
 | 332=>some Y0r
 | 333=>some Y0q
 | 334=>some Y0p
 | 339=>some Y0o
 | 340=>some Y0n
 | 368=>some Y0m
 | 410=>some Y0l
 | 431=>some Y0k
 | 432=>some Y0j
 | 433=>some Y0i
 | 437=>some Y0h
 | 438=>some Y0g
 | 440=>some Y0f
 | 441=>some Y0e
 | 442=>some Y0d
 | 443=>some Y0c
 | 444=>some Y0b
 | _=>none
@[simp] theorem tys2:Tys 2=some ⟨.int .i64,1,8,[(.int .i64 0)],false⟩:=rfl
@[simp] theorem tys3:Tys 3=some ⟨.int .i64,1,8,[(.int .i64 0)],false⟩:=rfl
@[simp] theorem tys4:Tys 4=some ⟨.bool,1,1,[(.bool false)],false⟩:=rfl
@[simp] theorem tys5:Tys 5=some ⟨.int .u8,1,1,[(.int .u8 0)],false⟩:=rfl
@[simp] theorem tys6:Tys 6=some ⟨.int .u8,1,1,[(.int .u8 0)],false⟩:=rfl
@[simp] theorem tys7:Tys 7=some ⟨.struct [(0,2,1),(1,3,1),(2,4,1),(3,6,1)],4,24,[(.int .i64 0),(.int .i64 0),(.bool false),(.int .u8 0)],false⟩:=rfl
@[simp] theorem tys8:Tys 8=some ⟨.struct [(0,2,1),(1,3,1),(2,4,1),(3,6,1)],4,24,[(.int .i64 0),(.int .i64 0),(.bool false),(.int .u8 0)],false⟩:=rfl
@[simp] theorem tys9:Tys 9=some ⟨.string,1,16,[(.string .empty)],false⟩:=rfl
@[simp] theorem tys10:Tys 10=some ⟨.string,1,16,[(.string .empty)],false⟩:=rfl
@[simp] theorem tys11:Tys 11=some ⟨.string,1,16,[(.string .empty)],false⟩:=rfl
@[simp] theorem tys12:Tys 12=some ⟨.int .u64,1,8,[(.int .u64 0)],false⟩:=rfl
@[simp] theorem tys13:Tys 13=some ⟨.struct [(0,9,1),(1,12,1)],2,24,[(.string .empty),(.int .u64 0)],false⟩:=rfl
@[simp] theorem tys14:Tys 14=some ⟨.struct [(0,9,1),(1,12,1)],2,24,[(.string .empty),(.int .u64 0)],false⟩:=rfl
@[simp] theorem tys15:Tys 15=some ⟨.pointer 432,1,8,[(.pointer none)],false⟩:=rfl
@[simp] theorem tys16:Tys 16=some ⟨.pointer 435,1,8,[(.pointer none)],false⟩:=rfl
@[simp] theorem tys17:Tys 17=some ⟨.pointer 444,1,8,[(.pointer none)],false⟩:=rfl
@[simp] theorem tys18:Tys 18=some ⟨.struct [(0,17,1)],1,8,[(.pointer none)],false⟩:=rfl
@[simp] theorem tys19:Tys 19=some ⟨.struct [(0,17,1)],1,8,[(.pointer none)],false⟩:=rfl
@[simp] theorem tys21:Tys 21=some ⟨.int .i32,1,4,[(.int .i32 0)],false⟩:=rfl
@[simp] theorem tys22:Tys 22=some ⟨.slice 5,1,24,[(.slice none 0 0)],false⟩:=rfl
@[simp] theorem tys23:Tys 23=some ⟨.slice 237,1,24,[(.slice none 0 0)],false⟩:=rfl
@[simp] theorem tys24:Tys 24=some ⟨.slice 53,1,24,[(.slice none 0 0)],false⟩:=rfl
@[simp] theorem tys25:Tys 25=some ⟨.slice 27,1,24,[(.slice none 0 0)],false⟩:=rfl
@[simp] theorem tys26:Tys 26=some ⟨.struct [(0,3,1),(1,3,1),(2,25,1)],3,40,[(.int .i64 0),(.int .i64 0),(.slice none 0 0)],false⟩:=rfl
@[simp] theorem tys27:Tys 27=some ⟨.struct [(0,3,1),(1,3,1),(2,25,1)],3,40,[(.int .i64 0),(.int .i64 0),(.slice none 0 0)],false⟩:=rfl
@[simp] theorem tys34:Tys 34=some ⟨.struct [(0,3,1),(1,3,1)],2,16,[(.int .i64 0),(.int .i64 0)],false⟩:=rfl
@[simp] theorem tys35:Tys 35=some ⟨.struct [(0,3,1),(1,3,1)],2,16,[(.int .i64 0),(.int .i64 0)],true⟩:=rfl
@[simp] theorem tys36:Tys 36=some ⟨.slice 72,1,24,[(.slice none 0 0)],false⟩:=rfl
@[simp] theorem tys39:Tys 39=some ⟨.slice 44,1,24,[(.slice none 0 0)],false⟩:=rfl
@[simp] theorem tys44:Tys 44=some ⟨.slice 3,1,24,[(.slice none 0 0)],false⟩:=rfl
@[simp] theorem tys49:Tys 49=some ⟨.struct [(0,35,2),(2,35,2)],4,32,[(.int .i64 0),(.int .i64 0),(.int .i64 0),(.int .i64 0)],false⟩:=rfl
@[simp] theorem tys50:Tys 50=some ⟨.struct [(0,35,2),(2,35,2)],4,32,[(.int .i64 0),(.int .i64 0),(.int .i64 0),(.int .i64 0)],true⟩:=rfl
@[simp] theorem tys51:Tys 51=some ⟨.slice 55,1,24,[(.slice none 0 0)],false⟩:=rfl
@[simp] theorem tys52:Tys 52=some ⟨.struct [(0,50,4),(4,36,1),(5,51,1)],6,80,[(.int .i64 0),(.int .i64 0),(.int .i64 0),(.int .i64 0),(.slice none 0 0),(.slice none 0 0)],false⟩:=rfl
@[simp] theorem tys53:Tys 53=some ⟨.struct [(0,50,4),(4,36,1),(5,51,1)],6,80,[(.int .i64 0),(.int .i64 0),(.int .i64 0),(.int .i64 0),(.slice none 0 0),(.slice none 0 0)],false⟩:=rfl
@[simp] theorem tys54:Tys 54=some ⟨.struct [(0,3,1),(1,3,1),(2,3,1),(3,51,1)],4,48,[(.int .i64 0),(.int .i64 0),(.int .i64 0),(.slice none 0 0)],false⟩:=rfl
@[simp] theorem tys55:Tys 55=some ⟨.struct [(0,3,1),(1,3,1),(2,3,1),(3,51,1)],4,48,[(.int .i64 0),(.int .i64 0),(.int .i64 0),(.slice none 0 0)],false⟩:=rfl
@[simp] theorem tys66:Tys 66=some ⟨.slice 68,1,24,[(.slice none 0 0)],false⟩:=rfl
@[simp] theorem tys67:Tys 67=some ⟨.struct [(0,3,1),(1,3,1),(2,3,1),(3,3,1),(4,3,1),(5,66,1)],6,64,[(.int .i64 0),(.int .i64 0),(.int .i64 0),(.int .i64 0),(.int .i64 0),(.slice none 0 0)],false⟩:=rfl
@[simp] theorem tys68:Tys 68=some ⟨.struct [(0,3,1),(1,3,1),(2,3,1),(3,3,1),(4,3,1),(5,66,1)],6,64,[(.int .i64 0),(.int .i64 0),(.int .i64 0),(.int .i64 0),(.int .i64 0),(.slice none 0 0)],false⟩:=rfl
@[simp] theorem tys69:Tys 69=some ⟨.struct [(0,3,1),(1,3,1),(2,3,1)],3,24,[(.int .i64 0),(.int .i64 0),(.int .i64 0)],false⟩:=rfl
@[simp] theorem tys70:Tys 70=some ⟨.struct [(0,3,1),(1,3,1),(2,3,1)],3,24,[(.int .i64 0),(.int .i64 0),(.int .i64 0)],true⟩:=rfl
@[simp] theorem tys71:Tys 71=some ⟨.struct [(0,68,6),(6,70,3)],9,88,[(.int .i64 0),(.int .i64 0),(.int .i64 0),(.int .i64 0),(.int .i64 0),(.slice none 0 0),(.int .i64 0),(.int .i64 0),(.int .i64 0)],false⟩:=rfl
@[simp] theorem tys72:Tys 72=some ⟨.struct [(0,68,6),(6,70,3)],9,88,[(.int .i64 0),(.int .i64 0),(.int .i64 0),(.int .i64 0),(.int .i64 0),(.slice none 0 0),(.int .i64 0),(.int .i64 0),(.int .i64 0)],false⟩:=rfl
@[simp] theorem tys76:Tys 76=some ⟨.pointer 110,1,8,[(.pointer none)],false⟩:=rfl
@[simp] theorem tys80:Tys 80=some ⟨.slice 88,1,24,[(.slice none 0 0)],false⟩:=rfl
@[simp] theorem tys83:Tys 83=some ⟨.slice 209,1,24,[(.slice none 0 0)],false⟩:=rfl
@[simp] theorem tys86:Tys 86=some ⟨.slice 171,1,24,[(.slice none 0 0)],false⟩:=rfl
@[simp] theorem tys87:Tys 87=some ⟨.struct [(0,3,1),(1,44,1),(2,3,1),(3,3,1),(4,3,1),(5,3,1),(6,86,1),(7,3,1)],8,96,[(.int .i64 0),(.slice none 0 0),(.int .i64 0),(.int .i64 0),(.int .i64 0),(.int .i64 0),(.slice none 0 0),(.int .i64 0)],false⟩:=rfl
@[simp] theorem tys88:Tys 88=some ⟨.struct [(0,3,1),(1,44,1),(2,3,1),(3,3,1),(4,3,1),(5,3,1),(6,86,1),(7,3,1)],8,96,[(.int .i64 0),(.slice none 0 0),(.int .i64 0),(.int .i64 0),(.int .i64 0),(.int .i64 0),(.slice none 0 0),(.int .i64 0)],false⟩:=rfl
@[simp] theorem tys99:Tys 99=some ⟨.slice 206,1,24,[(.slice none 0 0)],false⟩:=rfl
@[simp] theorem tys100:Tys 100=some ⟨.slice 102,1,24,[(.slice none 0 0)],false⟩:=rfl
@[simp] theorem tys101:Tys 101=some ⟨.struct [(0,3,1),(1,3,1),(2,86,1),(3,44,1),(4,99,1),(5,100,1)],6,112,[(.int .i64 0),(.int .i64 0),(.slice none 0 0),(.slice none 0 0),(.slice none 0 0),(.slice none 0 0)],false⟩:=rfl
@[simp] theorem tys102:Tys 102=some ⟨.struct [(0,3,1),(1,3,1),(2,86,1),(3,44,1),(4,99,1),(5,100,1)],6,112,[(.int .i64 0),(.int .i64 0),(.slice none 0 0),(.slice none 0 0),(.slice none 0 0),(.slice none 0 0)],false⟩:=rfl
@[simp] theorem tys108:Tys 108=some ⟨.func,1,8,[.nilFunc],false⟩:=rfl
@[simp] theorem tys109:Tys 109=some ⟨.struct [(0,23,1),(1,24,1),(2,3,1),(3,3,1),(4,3,1),(5,3,1),(6,108,1)],7,88,[(.slice none 0 0),(.slice none 0 0),(.int .i64 0),(.int .i64 0),(.int .i64 0),(.int .i64 0),.nilFunc],false⟩:=rfl
@[simp] theorem tys110:Tys 110=some ⟨.struct [(0,23,1),(1,24,1),(2,3,1),(3,3,1),(4,3,1),(5,3,1),(6,108,1)],7,88,[(.slice none 0 0),(.slice none 0 0),(.int .i64 0),(.int .i64 0),(.int .i64 0),(.int .i64 0),.nilFunc],false⟩:=rfl
@[simp] theorem tys111:Tys 111=some ⟨.struct [(0,23,1),(1,24,1),(2,100,1),(3,3,1),(4,3,1),(5,3,1),(6,3,1)],7,104,[(.slice none 0 0),(.slice none 0 0),(.slice none 0 0),(.int .i64 0),(.int .i64 0),(.int .i64 0),(.int .i64 0)],false⟩:=rfl
@[simp] theorem tys112:Tys 112=some ⟨.struct [(0,23,1),(1,24,1),(2,100,1),(3,3,1),(4,3,1),(5,3,1),(6,3,1)],7,104,[(.slice none 0 0),(.slice none 0 0),(.slice none 0 0),(.int .i64 0),(.int .i64 0),(.int .i64 0),(.int .i64 0)],false⟩:=rfl
@[simp] theorem tys120:Tys 120=some ⟨.slice 50,1,24,[(.slice none 0 0)],false⟩:=rfl
@[simp] theorem tys123:Tys 123=some ⟨.pointer 215,1,8,[(.pointer none)],false⟩:=rfl
@[simp] theorem tys139:Tys 139=some ⟨.slice 156,1,24,[(.slice none 0 0)],false⟩:=rfl
@[simp] theorem tys140:Tys 140=some ⟨.struct [(0,23,1),(1,120,1),(2,139,1)],3,72,[(.slice none 0 0),(.slice none 0 0),(.slice none 0 0)],false⟩:=rfl
@[simp] theorem tys141:Tys 141=some ⟨.struct [(0,23,1),(1,120,1),(2,139,1)],3,72,[(.slice none 0 0),(.slice none 0 0),(.slice none 0 0)],false⟩:=rfl
@[simp] theorem tys152:Tys 152=some ⟨.slice 35,1,24,[(.slice none 0 0)],false⟩:=rfl
@[simp] theorem tys155:Tys 155=some ⟨.struct [(0,3,1),(1,35,2)],3,24,[(.int .i64 0),(.int .i64 0),(.int .i64 0)],false⟩:=rfl
@[simp] theorem tys156:Tys 156=some ⟨.struct [(0,3,1),(1,35,2)],3,24,[(.int .i64 0),(.int .i64 0),(.int .i64 0)],true⟩:=rfl
@[simp] theorem tys163:Tys 163=some ⟨.slice 66,1,24,[(.slice none 0 0)],false⟩:=rfl
@[simp] theorem tys167:Tys 167=some ⟨.pointer 80,1,8,[(.pointer none)],false⟩:=rfl
@[simp] theorem tys168:Tys 168=some ⟨.pointer 86,1,8,[(.pointer none)],false⟩:=rfl
@[simp] theorem tys170:Tys 170=some ⟨.struct [(0,3,1),(1,44,1)],2,32,[(.int .i64 0),(.slice none 0 0)],false⟩:=rfl
@[simp] theorem tys171:Tys 171=some ⟨.struct [(0,3,1),(1,44,1)],2,32,[(.int .i64 0),(.slice none 0 0)],false⟩:=rfl
@[simp] theorem tys175:Tys 175=some ⟨.pointer 3,1,8,[(.pointer none)],false⟩:=rfl
@[simp] theorem tys188:Tys 188=some ⟨.slice 190,1,24,[(.slice none 0 0)],false⟩:=rfl
@[simp] theorem tys189:Tys 189=some ⟨.struct [(0,3,1),(1,66,1),(2,86,1)],3,56,[(.int .i64 0),(.slice none 0 0),(.slice none 0 0)],false⟩:=rfl
@[simp] theorem tys190:Tys 190=some ⟨.struct [(0,3,1),(1,66,1),(2,86,1)],3,56,[(.int .i64 0),(.slice none 0 0),(.slice none 0 0)],false⟩:=rfl
@[simp] theorem tys192:Tys 192=some ⟨.pointer 196,1,8,[(.pointer none)],false⟩:=rfl
@[simp] theorem tys193:Tys 193=some ⟨.pointer 279,1,8,[(.pointer none)],false⟩:=rfl
@[simp] theorem tys195:Tys 195=some ⟨.struct [(0,193,1),(1,36,1),(2,3,1),(3,3,1)],4,48,[(.pointer none),(.slice none 0 0),(.int .i64 0),(.int .i64 0)],false⟩:=rfl
@[simp] theorem tys196:Tys 196=some ⟨.struct [(0,193,1),(1,36,1),(2,3,1),(3,3,1)],4,48,[(.pointer none),(.slice none 0 0),(.int .i64 0),(.int .i64 0)],false⟩:=rfl
@[simp] theorem tys198:Tys 198=some ⟨.struct [(0,44,1),(1,35,2)],3,40,[(.slice none 0 0),(.int .i64 0),(.int .i64 0)],false⟩:=rfl
@[simp] theorem tys199:Tys 199=some ⟨.struct [(0,44,1),(1,35,2)],3,40,[(.slice none 0 0),(.int .i64 0),(.int .i64 0)],false⟩:=rfl
@[simp] theorem tys200:Tys 200=some ⟨.slice 199,1,24,[(.slice none 0 0)],false⟩:=rfl
@[simp] theorem tys205:Tys 205=some ⟨.struct [(0,3,1),(1,3,1),(2,3,1),(3,102,6)],9,136,[(.int .i64 0),(.int .i64 0),(.int .i64 0),(.int .i64 0),(.int .i64 0),(.slice none 0 0),(.slice none 0 0),(.slice none 0 0),(.slice none 0 0)],false⟩:=rfl
@[simp] theorem tys206:Tys 206=some ⟨.struct [(0,3,1),(1,3,1),(2,3,1),(3,102,6)],9,136,[(.int .i64 0),(.int .i64 0),(.int .i64 0),(.int .i64 0),(.int .i64 0),(.slice none 0 0),(.slice none 0 0),(.slice none 0 0),(.slice none 0 0)],false⟩:=rfl
@[simp] theorem tys208:Tys 208=some ⟨.struct [(0,3,1),(1,27,3)],4,48,[(.int .i64 0),(.int .i64 0),(.int .i64 0),(.slice none 0 0)],false⟩:=rfl
@[simp] theorem tys209:Tys 209=some ⟨.struct [(0,3,1),(1,27,3)],4,48,[(.int .i64 0),(.int .i64 0),(.int .i64 0),(.slice none 0 0)],false⟩:=rfl
@[simp] theorem tys214:Tys 214=some ⟨.struct [(0,22,1),(1,3,1)],2,32,[(.slice none 0 0),(.int .i64 0)],false⟩:=rfl
@[simp] theorem tys215:Tys 215=some ⟨.struct [(0,22,1),(1,3,1)],2,32,[(.slice none 0 0),(.int .i64 0)],false⟩:=rfl
@[simp] theorem tys216:Tys 216=some ⟨.slice 220,1,24,[(.slice none 0 0)],false⟩:=rfl
@[simp] theorem tys220:Tys 220=some ⟨.slice 9,1,24,[(.slice none 0 0)],false⟩:=rfl
@[simp] theorem tys234:Tys 234=some ⟨.map 9 4,1,8,[(.map none)],false⟩:=rfl
@[simp] theorem tys235:Tys 235=some ⟨.slice 239,1,24,[(.slice none 0 0)],false⟩:=rfl
@[simp] theorem tys236:Tys 236=some ⟨.struct [(0,9,1),(1,235,1)],2,40,[(.string .empty),(.slice none 0 0)],false⟩:=rfl
@[simp] theorem tys237:Tys 237=some ⟨.struct [(0,9,1),(1,235,1)],2,40,[(.string .empty),(.slice none 0 0)],false⟩:=rfl
@[simp] theorem tys238:Tys 238=some ⟨.struct [(0,9,1),(1,152,1),(2,3,1)],3,48,[(.string .empty),(.slice none 0 0),(.int .i64 0)],false⟩:=rfl
@[simp] theorem tys239:Tys 239=some ⟨.struct [(0,9,1),(1,152,1),(2,3,1)],3,48,[(.string .empty),(.slice none 0 0),(.int .i64 0)],false⟩:=rfl
@[simp] theorem tys243:Tys 243=some ⟨.array 6 4,6,6,[(.bool false),(.bool false),(.bool false),(.bool false),(.bool false),(.bool false)],false⟩:=rfl
@[simp] theorem tys268:Tys 268=some ⟨.int .u64,1,8,[(.int .u64 0)],false⟩:=rfl
@[simp] theorem tys276:Tys 276=some ⟨.pointer 334,1,8,[(.pointer none)],false⟩:=rfl
@[simp] theorem tys278:Tys 278=some ⟨.struct [(0,23,1),(1,276,1)],2,32,[(.slice none 0 0),(.pointer none)],false⟩:=rfl
@[simp] theorem tys279:Tys 279=some ⟨.struct [(0,23,1),(1,276,1)],2,32,[(.slice none 0 0),(.pointer none)],false⟩:=rfl
@[simp] theorem tys318:Tys 318=some ⟨.int .i64,1,8,[(.int .i64 0)],false⟩:=rfl
@[simp] theorem tys326:Tys 326=some ⟨.int .u32,1,4,[(.int .u32 0)],false⟩:=rfl
@[simp] theorem tys328:Tys 328=some ⟨.int .u64,1,8,[(.int .u64 0)],false⟩:=rfl
@[simp] theorem tys332:Tys 332=some ⟨.array 4 3,4,32,[(.int .i64 0),(.int .i64 0),(.int .i64 0),(.int .i64 0)],false⟩:=rfl
@[simp] theorem tys333:Tys 333=some ⟨.array 4 332,16,128,[(.int .i64 0),(.int .i64 0),(.int .i64 0),(.int .i64 0),(.int .i64 0),(.int .i64 0),(.int .i64 0),(.int .i64 0),(.int .i64 0),(.int .i64 0),(.int .i64 0),(.int .i64 0),(.int .i64 0),(.int .i64 0),(.int .i64 0),(.int .i64 0)],false⟩:=rfl
@[simp] theorem tys334:Tys 334=some ⟨.array 4 332,16,128,[(.int .i64 0),(.int .i64 0),(.int .i64 0),(.int .i64 0),(.int .i64 0),(.int .i64 0),(.int .i64 0),(.int .i64 0),(.int .i64 0),(.int .i64 0),(.int .i64 0),(.int .i64 0),(.int .i64 0),(.int .i64 0),(.int .i64 0),(.int .i64 0)],false⟩:=rfl
@[simp] theorem tys339:Tys 339=some ⟨.array 11 4,11,11,[(.bool false),(.bool false),(.bool false),(.bool false),(.bool false),(.bool false),(.bool false),(.bool false),(.bool false),(.bool false),(.bool false)],false⟩:=rfl
@[simp] theorem tys340:Tys 340=some ⟨.slice 200,1,24,[(.slice none 0 0)],false⟩:=rfl
@[simp] theorem tys368:Tys 368=some ⟨.int .u64,1,8,[(.int .u64 0)],false⟩:=rfl
@[simp] theorem tys410:Tys 410=some ⟨.pointer 368,1,8,[(.pointer none)],false⟩:=rfl
@[simp] theorem tys431:Tys 431=some ⟨.struct [(0,17,1),(1,17,1),(2,17,1),(3,9,1)],4,40,[(.pointer none),(.pointer none),(.pointer none),(.string .empty)],false⟩:=rfl
@[simp] theorem tys432:Tys 432=some ⟨.struct [(0,17,1),(1,17,1),(2,17,1),(3,9,1)],4,40,[(.pointer none),(.pointer none),(.pointer none),(.string .empty)],false⟩:=rfl
@[simp] theorem tys433:Tys 433=some ⟨.array 0 16,0,0,[],false⟩:=rfl
@[simp] theorem tys437:Tys 437=some ⟨.int .u8,1,1,[(.int .u8 0)],false⟩:=rfl
@[simp] theorem tys438:Tys 438=some ⟨.int .u8,1,1,[(.int .u8 0)],false⟩:=rfl
@[simp] theorem tys440:Tys 440=some ⟨.pointer 5,1,8,[(.pointer none)],false⟩:=rfl
@[simp] theorem tys441:Tys 441=some ⟨.int .i32,1,4,[(.int .i32 0)],false⟩:=rfl
@[simp] theorem tys442:Tys 442=some ⟨.int .i32,1,4,[(.int .i32 0)],false⟩:=rfl
@[simp] theorem tys443:Tys 443=some ⟨.struct [(0,12,1),(1,12,1),(2,326,1),(3,437,1),(4,5,1),(5,5,1),(6,438,1),(7,439,1),(8,440,1),(9,441,1),(10,442,1)],11,48,[(.int .u64 0),(.int .u64 0),(.int .u32 0),(.int .u8 0),(.int .u8 0),(.int .u8 0),(.int .u8 0),.nilFunc,(.pointer none),(.int .i32 0),(.int .i32 0)],false⟩:=rfl
@[simp] theorem tys444:Tys 444=some ⟨.struct [(0,12,1),(1,12,1),(2,326,1),(3,437,1),(4,5,1),(5,5,1),(6,438,1),(7,439,1),(8,440,1),(9,441,1),(10,442,1)],11,48,[(.int .u64 0),(.int .u64 0),(.int .u32 0),(.int .u8 0),(.int .u8 0),(.int .u8 0),(.int .u8 0),.nilFunc,(.pointer none),(.int .i32 0),(.int .i32 0)],false⟩:=rfl
theorem Z73:Z0w Tryz.prog Tys:=fun t i h=>by
 unfold Tys at h
 split at h
 ·cases h;exact ty2
 ·cases h;exact ty3
 ·cases h;exact ty4
 ·cases h;exact ty5
 ·cases h;exact ty6
 ·cases h;exact ty7
 ·cases h;exact ty8
 ·cases h;exact ty9
 ·cases h;exact ty10
 ·cases h;exact ty11
 ·cases h;exact ty12
 ·cases h;exact ty13
 ·cases h;exact ty14
 ·cases h;exact ty15
 ·cases h;exact ty16
 ·cases h;exact ty17
 ·cases h;exact ty18
 ·cases h;exact ty19
 ·cases h;exact ty21
 ·cases h;exact ty22
 ·cases h;exact ty23
 ·cases h;exact ty24
 ·cases h;exact ty25
 ·cases h;exact ty26
 ·cases h;exact ty27
 ·cases h;exact ty34
 ·cases h;exact ty35
 ·cases h;exact ty36
 ·cases h;exact ty39
 ·cases h;exact ty44
 ·cases h;exact ty49
 ·cases h;exact ty50
 ·cases h;exact ty51
 ·cases h;exact ty52
 ·cases h;exact ty53
 ·cases h;exact ty54
 ·cases h;exact ty55
 ·cases h;exact ty66
 ·cases h;exact ty67
 ·cases h;exact ty68
 ·cases h;exact ty69
 ·cases h;exact ty70
 ·cases h;exact ty71
 ·cases h;exact ty72
 ·cases h;exact ty76
 ·cases h;exact ty80
 ·cases h;exact ty83
 ·cases h;exact ty86
 ·cases h;exact ty87
 ·cases h;exact ty88
 ·cases h;exact ty99
 ·cases h;exact Y7w
 ·cases h;exact Y7v
 ·cases h;exact Y7u
 ·cases h;exact Y7t
 ·cases h;exact Y7s
 ·cases h;exact Y7r
 ·cases h;exact Y7q
 ·cases h;exact Y7p
 ·cases h;exact Y7o
 ·cases h;exact Y7n
 ·cases h;exact Y7m
 ·cases h;exact Y7l
 ·cases h;exact Y7k
 ·cases h;exact Y7j
 ·cases h;exact Y7i
 ·cases h;exact Y7h
 ·cases h;exact Y7g
 ·cases h;exact Y7f
 ·cases h;exact Y7e
 ·cases h;exact Y7d
 ·cases h;exact Y7c
 ·cases h;exact Y7b
 ·cases h;exact Y7a
 ·cases h;exact Y79
 ·cases h;exact Y78
 ·cases h;exact Y77
 ·cases h;exact Y76
 ·cases h;exact Y75
 ·cases h;exact Y74
 ·cases h;exact Y73
 ·cases h;exact Y72
 ·cases h;exact Y71
 ·cases h;exact Y70
 ·cases h;exact Y6z
 ·cases h;exact Y6y
 ·cases h;exact Y6x
 ·cases h;exact Y6w
 ·cases h;exact Y6v
 ·cases h;exact Y6u
 ·cases h;exact Y6t
 ·cases h;exact Y6s
 ·cases h;exact Y6r
 ·cases h;exact Y6q
 ·cases h;exact Y6p
 ·cases h;exact Y6o
 ·cases h;exact Y6n
 ·cases h;exact Y6m
 ·cases h;exact Y6l
 ·cases h;exact Y6k
 ·cases h;exact Y6j
 ·cases h;exact Y6i
 ·cases h;exact Y6h
 ·cases h;exact Y6g
 ·cases h;exact Y6f
 ·cases h;exact Y6e
 ·cases h;exact Y6d
 ·cases h;exact Y6c
 ·cases h;exact Y6b
 ·cases h;exact Y6a
 ·cases h;exact Y69
 ·cases h;exact Y68
 ·cases h;exact Y67
 ·cases h;exact Y66
 ·cases h;exact Y65
 ·cases h;exact Y64
 ·cases h;exact Y63
 ·cases h;exact Y62
 ·cases h;exact Y61
 ·cases h;exact Y60
 ·cases h;exact Y5z
 ·cases h;exact Y5y
 ·cases h
theorem W3v:Tryz.prog.follows .mixedOrders=true:=rfl
end Go.Proofs.YtenmmbjgnlflnaaGreat
