import Derived.KernelRfl
import Derived.Test.YtenmmbjgnlflnaaGreatProg
import Derived.Test.YtenmmbjgnlflnaaGreatJE1
set_option linter.unusedSimpArgs false
set_option linter.unusedVariables false
namespace Go.Proofs.YtenmmbjgnlflnaaGreat
open Go Go.RowKit
def ti2:TyI:=⟨.int .i64,1,8,[(.int .i64 0)],false⟩
theorem ty2:TyOk Tryz.prog 2 ti2:=TyOk.of Tryz.underlying2 (show TK.ok _ (.int .i64) _ from rfl) (.int .i64 0) (by kernel_rfl) rfl rfl rfl rfl (by decide) (fun h=>by cases h)
def ti3:TyI:=⟨.int .i64,1,8,[(.int .i64 0)],false⟩
theorem ty3:TyOk Tryz.prog 3 ti3:=TyOk.of Tryz.underlying3 (show TK.ok _ (.int .i64) _ from rfl) (.int .i64 0) (by kernel_rfl) rfl rfl rfl rfl (by decide) (fun h=>by cases h)
def ti4:TyI:=⟨.bool,1,1,[(.bool false)],false⟩
theorem ty4:TyOk Tryz.prog 4 ti4:=TyOk.of Tryz.underlying4 (show TK.ok _ (.bool) _ from rfl) (.bool false) (by kernel_rfl) rfl rfl rfl rfl (by decide) (fun h=>by cases h)
def ti5:TyI:=⟨.int .u8,1,1,[(.int .u8 0)],false⟩
theorem ty5:TyOk Tryz.prog 5 ti5:=TyOk.of Tryz.underlying5 (show TK.ok _ (.int .u8) _ from rfl) (.int .u8 0) (by kernel_rfl) rfl rfl rfl rfl (by decide) (fun h=>by cases h)
def ti6:TyI:=⟨.int .u8,1,1,[(.int .u8 0)],false⟩
theorem ty6:TyOk Tryz.prog 6 ti6:=TyOk.of Tryz.underlying6 (show TK.ok _ (.int .u8) _ from rfl) (.int .u8 0) (by kernel_rfl) rfl rfl rfl rfl (by decide) (fun h=>by cases h)
def ti7:TyI:=⟨.struct [(0,2,1),(1,3,1),(2,4,1),(3,6,1)],4,24,[(.int .i64 0),(.int .i64 0),(.bool false),(.int .u8 0)],false⟩
theorem ty7:TyOk Tryz.prog 7 ti7:=TyOk.of Tryz.underlying7 (show TK.ok _ (.struct [(0,2,1),(1,3,1),(2,4,1),(3,6,1)]) _ from ⟨_,rfl,rfl,fun x hx=>by simp only [U7,List.not_mem_nil,or_false] at hx;rcases hx with rfl | rfl | rfl | rfl<;>exact ⟨by kernel_rfl,by decide⟩⟩) (.agg #[(.int .i64 0),(.int .i64 0),(.bool false),(.int .u8 0)]) (by kernel_rfl) rfl rfl rfl rfl (by decide) (fun h=>by cases h)
def ti8:TyI:=⟨.struct [(0,2,1),(1,3,1),(2,4,1),(3,6,1)],4,24,[(.int .i64 0),(.int .i64 0),(.bool false),(.int .u8 0)],false⟩
theorem ty8:TyOk Tryz.prog 8 ti8:=TyOk.of Tryz.underlying8 (show TK.ok _ (.struct [(0,2,1),(1,3,1),(2,4,1),(3,6,1)]) _ from ⟨_,rfl,rfl,fun x hx=>by simp only [U7,List.not_mem_nil,or_false] at hx;rcases hx with rfl | rfl | rfl | rfl<;>exact ⟨by kernel_rfl,by decide⟩⟩) (.agg #[(.int .i64 0),(.int .i64 0),(.bool false),(.int .u8 0)]) (by kernel_rfl) rfl rfl rfl rfl (by decide) (fun h=>by cases h)
def ti9:TyI:=⟨.string,1,16,[(.string .empty)],false⟩
theorem ty9:TyOk Tryz.prog 9 ti9:=TyOk.of Tryz.underlying9 (show TK.ok _ (.string) _ from rfl) (.string .empty) (by kernel_rfl) rfl rfl rfl rfl (by decide) (fun h=>by cases h)
def ti10:TyI:=⟨.string,1,16,[(.string .empty)],false⟩
theorem ty10:TyOk Tryz.prog 10 ti10:=TyOk.of Tryz.underlying10 (show TK.ok _ (.string) _ from rfl) (.string .empty) (by kernel_rfl) rfl rfl rfl rfl (by decide) (fun h=>by cases h)
def ti11:TyI:=⟨.string,1,16,[(.string .empty)],false⟩
theorem ty11:TyOk Tryz.prog 11 ti11:=TyOk.of Tryz.underlying11 (show TK.ok _ (.string) _ from rfl) (.string .empty) (by kernel_rfl) rfl rfl rfl rfl (by decide) (fun h=>by cases h)
def ti12:TyI:=⟨.int .u64,1,8,[(.int .u64 0)],false⟩
theorem ty12:TyOk Tryz.prog 12 ti12:=TyOk.of Tryz.underlying12 (show TK.ok _ (.int .u64) _ from rfl) (.int .u64 0) (by kernel_rfl) rfl rfl rfl rfl (by decide) (fun h=>by cases h)
def ti13:TyI:=⟨.struct [(0,9,1),(1,12,1)],2,24,[(.string .empty),(.int .u64 0)],false⟩
theorem ty13:TyOk Tryz.prog 13 ti13:=TyOk.of Tryz.underlying13 (show TK.ok _ (.struct [(0,9,1),(1,12,1)]) _ from ⟨_,rfl,rfl,fun x hx=>by simp only [U7,List.not_mem_nil,or_false] at hx;rcases hx with rfl | rfl<;>exact ⟨by kernel_rfl,by decide⟩⟩) (.agg #[(.string .empty),(.int .u64 0)]) (by kernel_rfl) rfl rfl rfl rfl (by decide) (fun h=>by cases h)
def ti14:TyI:=⟨.struct [(0,9,1),(1,12,1)],2,24,[(.string .empty),(.int .u64 0)],false⟩
theorem ty14:TyOk Tryz.prog 14 ti14:=TyOk.of Tryz.underlying14 (show TK.ok _ (.struct [(0,9,1),(1,12,1)]) _ from ⟨_,rfl,rfl,fun x hx=>by simp only [U7,List.not_mem_nil,or_false] at hx;rcases hx with rfl | rfl<;>exact ⟨by kernel_rfl,by decide⟩⟩) (.agg #[(.string .empty),(.int .u64 0)]) (by kernel_rfl) rfl rfl rfl rfl (by decide) (fun h=>by cases h)
def ti15:TyI:=⟨.pointer 432,1,8,[(.pointer none)],false⟩
theorem ty15:TyOk Tryz.prog 15 ti15:=TyOk.of Tryz.underlying15 (show TK.ok _ (.pointer 432) _ from rfl) (.pointer none) (by kernel_rfl) rfl rfl rfl rfl (by decide) (fun h=>by cases h)
def ti16:TyI:=⟨.pointer 435,1,8,[(.pointer none)],false⟩
theorem ty16:TyOk Tryz.prog 16 ti16:=TyOk.of Tryz.underlying16 (show TK.ok _ (.pointer 435) _ from rfl) (.pointer none) (by kernel_rfl) rfl rfl rfl rfl (by decide) (fun h=>by cases h)
def ti17:TyI:=⟨.pointer 444,1,8,[(.pointer none)],false⟩
theorem ty17:TyOk Tryz.prog 17 ti17:=TyOk.of Tryz.underlying17 (show TK.ok _ (.pointer 444) _ from rfl) (.pointer none) (by kernel_rfl) rfl rfl rfl rfl (by decide) (fun h=>by cases h)
def ti18:TyI:=⟨.struct [(0,17,1)],1,8,[(.pointer none)],false⟩
theorem ty18:TyOk Tryz.prog 18 ti18:=TyOk.of Tryz.underlying18 (show TK.ok _ (.struct [(0,17,1)]) _ from ⟨_,rfl,rfl,fun x hx=>by simp only [U7,List.not_mem_nil,or_false] at hx;rcases hx with rfl<;>exact ⟨by kernel_rfl,by decide⟩⟩) (.agg #[(.pointer none)]) (by kernel_rfl) rfl rfl rfl rfl (by decide) (fun h=>by cases h)
def ti19:TyI:=⟨.struct [(0,17,1)],1,8,[(.pointer none)],false⟩
theorem ty19:TyOk Tryz.prog 19 ti19:=TyOk.of Tryz.underlying19 (show TK.ok _ (.struct [(0,17,1)]) _ from ⟨_,rfl,rfl,fun x hx=>by simp only [U7,List.not_mem_nil,or_false] at hx;rcases hx with rfl<;>exact ⟨by kernel_rfl,by decide⟩⟩) (.agg #[(.pointer none)]) (by kernel_rfl) rfl rfl rfl rfl (by decide) (fun h=>by cases h)
def ti21:TyI:=⟨.int .i32,1,4,[(.int .i32 0)],false⟩
theorem ty21:TyOk Tryz.prog 21 ti21:=TyOk.of Tryz.underlying21 (show TK.ok _ (.int .i32) _ from rfl) (.int .i32 0) (by kernel_rfl) rfl rfl rfl rfl (by decide) (fun h=>by cases h)
def ti22:TyI:=⟨.slice 5,1,24,[(.slice none 0 0)],false⟩
theorem ty22:TyOk Tryz.prog 22 ti22:=TyOk.of Tryz.underlying22 (show TK.ok _ (.slice 5) _ from rfl) (.slice none 0 0) (by kernel_rfl) rfl rfl rfl rfl (by decide) (fun h=>by cases h)
def ti23:TyI:=⟨.slice 237,1,24,[(.slice none 0 0)],false⟩
theorem ty23:TyOk Tryz.prog 23 ti23:=TyOk.of Tryz.underlying23 (show TK.ok _ (.slice 237) _ from rfl) (.slice none 0 0) (by kernel_rfl) rfl rfl rfl rfl (by decide) (fun h=>by cases h)
def ti24:TyI:=⟨.slice 53,1,24,[(.slice none 0 0)],false⟩
theorem ty24:TyOk Tryz.prog 24 ti24:=TyOk.of Tryz.underlying24 (show TK.ok _ (.slice 53) _ from rfl) (.slice none 0 0) (by kernel_rfl) rfl rfl rfl rfl (by decide) (fun h=>by cases h)
def ti25:TyI:=⟨.slice 27,1,24,[(.slice none 0 0)],false⟩
theorem ty25:TyOk Tryz.prog 25 ti25:=TyOk.of Tryz.underlying25 (show TK.ok _ (.slice 27) _ from rfl) (.slice none 0 0) (by kernel_rfl) rfl rfl rfl rfl (by decide) (fun h=>by cases h)
def ti26:TyI:=⟨.struct [(0,3,1),(1,3,1),(2,25,1)],3,40,[(.int .i64 0),(.int .i64 0),(.slice none 0 0)],false⟩
theorem ty26:TyOk Tryz.prog 26 ti26:=TyOk.of Tryz.underlying26 (show TK.ok _ (.struct [(0,3,1),(1,3,1),(2,25,1)]) _ from ⟨_,rfl,rfl,fun x hx=>by simp only [U7,List.not_mem_nil,or_false] at hx;rcases hx with rfl | rfl | rfl<;>exact ⟨by kernel_rfl,by decide⟩⟩) (.agg #[(.int .i64 0),(.int .i64 0),(.slice none 0 0)]) (by kernel_rfl) rfl rfl rfl rfl (by decide) (fun h=>by cases h)
def ti27:TyI:=⟨.struct [(0,3,1),(1,3,1),(2,25,1)],3,40,[(.int .i64 0),(.int .i64 0),(.slice none 0 0)],false⟩
theorem ty27:TyOk Tryz.prog 27 ti27:=TyOk.of Tryz.underlying27 (show TK.ok _ (.struct [(0,3,1),(1,3,1),(2,25,1)]) _ from ⟨_,rfl,rfl,fun x hx=>by simp only [U7,List.not_mem_nil,or_false] at hx;rcases hx with rfl | rfl | rfl<;>exact ⟨by kernel_rfl,by decide⟩⟩) (.agg #[(.int .i64 0),(.int .i64 0),(.slice none 0 0)]) (by kernel_rfl) rfl rfl rfl rfl (by decide) (fun h=>by cases h)
def ti34:TyI:=⟨.struct [(0,3,1),(1,3,1)],2,16,[(.int .i64 0),(.int .i64 0)],false⟩
theorem ty34:TyOk Tryz.prog 34 ti34:=TyOk.of Tryz.underlying34 (show TK.ok _ (.struct [(0,3,1),(1,3,1)]) _ from ⟨_,rfl,rfl,fun x hx=>by simp only [U7,List.not_mem_nil,or_false] at hx;rcases hx with rfl | rfl<;>exact ⟨by kernel_rfl,by decide⟩⟩) (.agg #[(.int .i64 0),(.int .i64 0)]) (by kernel_rfl) rfl rfl rfl rfl (by decide) (fun h=>by cases h)
def ti35:TyI:=⟨.struct [(0,3,1),(1,3,1)],2,16,[(.int .i64 0),(.int .i64 0)],true⟩
theorem ty35:TyOk Tryz.prog 35 ti35:=TyOk.of Tryz.underlying35 (show TK.ok _ (.struct [(0,3,1),(1,3,1)]) _ from ⟨_,rfl,rfl,fun x hx=>by simp only [U7,List.not_mem_nil,or_false] at hx;rcases hx with rfl | rfl<;>exact ⟨by kernel_rfl,by decide⟩⟩) (.agg #[(.int .i64 0),(.int .i64 0)]) (by kernel_rfl) rfl rfl rfl rfl (by decide) (fun _ fs h=>by cases h;exact ⟨by kernel_rfl,by kernel_rfl,by kernel_rfl,by kernel_rfl⟩)
def ti36:TyI:=⟨.slice 72,1,24,[(.slice none 0 0)],false⟩
theorem ty36:TyOk Tryz.prog 36 ti36:=TyOk.of Tryz.underlying36 (show TK.ok _ (.slice 72) _ from rfl) (.slice none 0 0) (by kernel_rfl) rfl rfl rfl rfl (by decide) (fun h=>by cases h)
def ti39:TyI:=⟨.slice 44,1,24,[(.slice none 0 0)],false⟩
theorem ty39:TyOk Tryz.prog 39 ti39:=TyOk.of Tryz.underlying39 (show TK.ok _ (.slice 44) _ from rfl) (.slice none 0 0) (by kernel_rfl) rfl rfl rfl rfl (by decide) (fun h=>by cases h)
def ti44:TyI:=⟨.slice 3,1,24,[(.slice none 0 0)],false⟩
theorem ty44:TyOk Tryz.prog 44 ti44:=TyOk.of Tryz.underlying44 (show TK.ok _ (.slice 3) _ from rfl) (.slice none 0 0) (by kernel_rfl) rfl rfl rfl rfl (by decide) (fun h=>by cases h)
def ti49:TyI:=⟨.struct [(0,35,2),(2,35,2)],4,32,[(.int .i64 0),(.int .i64 0),(.int .i64 0),(.int .i64 0)],false⟩
theorem ty49:TyOk Tryz.prog 49 ti49:=TyOk.of Tryz.underlying49 (show TK.ok _ (.struct [(0,35,2),(2,35,2)]) _ from ⟨_,rfl,rfl,fun x hx=>by simp only [U7,List.not_mem_nil,or_false] at hx;rcases hx with rfl | rfl<;>exact ⟨by kernel_rfl,by decide⟩⟩) (.agg #[(.int .i64 0),(.int .i64 0),(.int .i64 0),(.int .i64 0)]) (by kernel_rfl) rfl rfl rfl rfl (by decide) (fun h=>by cases h)
def ti50:TyI:=⟨.struct [(0,35,2),(2,35,2)],4,32,[(.int .i64 0),(.int .i64 0),(.int .i64 0),(.int .i64 0)],true⟩
theorem ty50:TyOk Tryz.prog 50 ti50:=TyOk.of Tryz.underlying50 (show TK.ok _ (.struct [(0,35,2),(2,35,2)]) _ from ⟨_,rfl,rfl,fun x hx=>by simp only [U7,List.not_mem_nil,or_false] at hx;rcases hx with rfl | rfl<;>exact ⟨by kernel_rfl,by decide⟩⟩) (.agg #[(.int .i64 0),(.int .i64 0),(.int .i64 0),(.int .i64 0)]) (by kernel_rfl) rfl rfl rfl rfl (by decide) (fun _ fs h=>by cases h;exact ⟨by kernel_rfl,by kernel_rfl,by kernel_rfl,by kernel_rfl⟩)
def ti51:TyI:=⟨.slice 55,1,24,[(.slice none 0 0)],false⟩
theorem ty51:TyOk Tryz.prog 51 ti51:=TyOk.of Tryz.underlying51 (show TK.ok _ (.slice 55) _ from rfl) (.slice none 0 0) (by kernel_rfl) rfl rfl rfl rfl (by decide) (fun h=>by cases h)
def ti52:TyI:=⟨.struct [(0,50,4),(4,36,1),(5,51,1)],6,80,[(.int .i64 0),(.int .i64 0),(.int .i64 0),(.int .i64 0),(.slice none 0 0),(.slice none 0 0)],false⟩
theorem ty52:TyOk Tryz.prog 52 ti52:=TyOk.of Tryz.underlying52 (show TK.ok _ (.struct [(0,50,4),(4,36,1),(5,51,1)]) _ from ⟨_,rfl,rfl,fun x hx=>by simp only [U7,List.not_mem_nil,or_false] at hx;rcases hx with rfl | rfl | rfl<;>exact ⟨by kernel_rfl,by decide⟩⟩) (.agg #[(.int .i64 0),(.int .i64 0),(.int .i64 0),(.int .i64 0),(.slice none 0 0),(.slice none 0 0)]) (by kernel_rfl) rfl rfl rfl rfl (by decide) (fun h=>by cases h)
def ti53:TyI:=⟨.struct [(0,50,4),(4,36,1),(5,51,1)],6,80,[(.int .i64 0),(.int .i64 0),(.int .i64 0),(.int .i64 0),(.slice none 0 0),(.slice none 0 0)],false⟩
theorem ty53:TyOk Tryz.prog 53 ti53:=TyOk.of Tryz.underlying53 (show TK.ok _ (.struct [(0,50,4),(4,36,1),(5,51,1)]) _ from ⟨_,rfl,rfl,fun x hx=>by simp only [U7,List.not_mem_nil,or_false] at hx;rcases hx with rfl | rfl | rfl<;>exact ⟨by kernel_rfl,by decide⟩⟩) (.agg #[(.int .i64 0),(.int .i64 0),(.int .i64 0),(.int .i64 0),(.slice none 0 0),(.slice none 0 0)]) (by kernel_rfl) rfl rfl rfl rfl (by decide) (fun h=>by cases h)
def ti54:TyI:=⟨.struct [(0,3,1),(1,3,1),(2,3,1),(3,51,1)],4,48,[(.int .i64 0),(.int .i64 0),(.int .i64 0),(.slice none 0 0)],false⟩
theorem ty54:TyOk Tryz.prog 54 ti54:=TyOk.of Tryz.underlying54 (show TK.ok _ (.struct [(0,3,1),(1,3,1),(2,3,1),(3,51,1)]) _ from ⟨_,rfl,rfl,fun x hx=>by simp only [U7,List.not_mem_nil,or_false] at hx;rcases hx with rfl | rfl | rfl | rfl<;>exact ⟨by kernel_rfl,by decide⟩⟩) (.agg #[(.int .i64 0),(.int .i64 0),(.int .i64 0),(.slice none 0 0)]) (by kernel_rfl) rfl rfl rfl rfl (by decide) (fun h=>by cases h)
def ti55:TyI:=⟨.struct [(0,3,1),(1,3,1),(2,3,1),(3,51,1)],4,48,[(.int .i64 0),(.int .i64 0),(.int .i64 0),(.slice none 0 0)],false⟩
theorem ty55:TyOk Tryz.prog 55 ti55:=TyOk.of Tryz.underlying55 (show TK.ok _ (.struct [(0,3,1),(1,3,1),(2,3,1),(3,51,1)]) _ from ⟨_,rfl,rfl,fun x hx=>by simp only [U7,List.not_mem_nil,or_false] at hx;rcases hx with rfl | rfl | rfl | rfl<;>exact ⟨by kernel_rfl,by decide⟩⟩) (.agg #[(.int .i64 0),(.int .i64 0),(.int .i64 0),(.slice none 0 0)]) (by kernel_rfl) rfl rfl rfl rfl (by decide) (fun h=>by cases h)
def ti66:TyI:=⟨.slice 68,1,24,[(.slice none 0 0)],false⟩
theorem ty66:TyOk Tryz.prog 66 ti66:=TyOk.of Tryz.underlying66 (show TK.ok _ (.slice 68) _ from rfl) (.slice none 0 0) (by kernel_rfl) rfl rfl rfl rfl (by decide) (fun h=>by cases h)
def ti67:TyI:=⟨.struct [(0,3,1),(1,3,1),(2,3,1),(3,3,1),(4,3,1),(5,66,1)],6,64,[(.int .i64 0),(.int .i64 0),(.int .i64 0),(.int .i64 0),(.int .i64 0),(.slice none 0 0)],false⟩
theorem ty67:TyOk Tryz.prog 67 ti67:=TyOk.of Tryz.underlying67 (show TK.ok _ (.struct [(0,3,1),(1,3,1),(2,3,1),(3,3,1),(4,3,1),(5,66,1)]) _ from ⟨_,rfl,rfl,fun x hx=>by simp only [U7,List.not_mem_nil,or_false] at hx;rcases hx with rfl | rfl | rfl | rfl | rfl | rfl<;>exact ⟨by kernel_rfl,by decide⟩⟩) (.agg #[(.int .i64 0),(.int .i64 0),(.int .i64 0),(.int .i64 0),(.int .i64 0),(.slice none 0 0)]) (by kernel_rfl) rfl rfl rfl rfl (by decide) (fun h=>by cases h)
def ti68:TyI:=⟨.struct [(0,3,1),(1,3,1),(2,3,1),(3,3,1),(4,3,1),(5,66,1)],6,64,[(.int .i64 0),(.int .i64 0),(.int .i64 0),(.int .i64 0),(.int .i64 0),(.slice none 0 0)],false⟩
theorem ty68:TyOk Tryz.prog 68 ti68:=TyOk.of Tryz.underlying68 (show TK.ok _ (.struct [(0,3,1),(1,3,1),(2,3,1),(3,3,1),(4,3,1),(5,66,1)]) _ from ⟨_,rfl,rfl,fun x hx=>by simp only [U7,List.not_mem_nil,or_false] at hx;rcases hx with rfl | rfl | rfl | rfl | rfl | rfl<;>exact ⟨by kernel_rfl,by decide⟩⟩) (.agg #[(.int .i64 0),(.int .i64 0),(.int .i64 0),(.int .i64 0),(.int .i64 0),(.slice none 0 0)]) (by kernel_rfl) rfl rfl rfl rfl (by decide) (fun h=>by cases h)
def ti69:TyI:=⟨.struct [(0,3,1),(1,3,1),(2,3,1)],3,24,[(.int .i64 0),(.int .i64 0),(.int .i64 0)],false⟩
theorem ty69:TyOk Tryz.prog 69 ti69:=TyOk.of Tryz.underlying69 (show TK.ok _ (.struct [(0,3,1),(1,3,1),(2,3,1)]) _ from ⟨_,rfl,rfl,fun x hx=>by simp only [U7,List.not_mem_nil,or_false] at hx;rcases hx with rfl | rfl | rfl<;>exact ⟨by kernel_rfl,by decide⟩⟩) (.agg #[(.int .i64 0),(.int .i64 0),(.int .i64 0)]) (by kernel_rfl) rfl rfl rfl rfl (by decide) (fun h=>by cases h)
def ti70:TyI:=⟨.struct [(0,3,1),(1,3,1),(2,3,1)],3,24,[(.int .i64 0),(.int .i64 0),(.int .i64 0)],true⟩
theorem ty70:TyOk Tryz.prog 70 ti70:=TyOk.of Tryz.underlying70 (show TK.ok _ (.struct [(0,3,1),(1,3,1),(2,3,1)]) _ from ⟨_,rfl,rfl,fun x hx=>by simp only [U7,List.not_mem_nil,or_false] at hx;rcases hx with rfl | rfl | rfl<;>exact ⟨by kernel_rfl,by decide⟩⟩) (.agg #[(.int .i64 0),(.int .i64 0),(.int .i64 0)]) (by kernel_rfl) rfl rfl rfl rfl (by decide) (fun _ fs h=>by cases h;exact ⟨by kernel_rfl,by kernel_rfl,by kernel_rfl,by kernel_rfl⟩)
def ti71:TyI:=⟨.struct [(0,68,6),(6,70,3)],9,88,[(.int .i64 0),(.int .i64 0),(.int .i64 0),(.int .i64 0),(.int .i64 0),(.slice none 0 0),(.int .i64 0),(.int .i64 0),(.int .i64 0)],false⟩
theorem ty71:TyOk Tryz.prog 71 ti71:=TyOk.of Tryz.underlying71 (show TK.ok _ (.struct [(0,68,6),(6,70,3)]) _ from ⟨_,rfl,rfl,fun x hx=>by simp only [U7,List.not_mem_nil,or_false] at hx;rcases hx with rfl | rfl<;>exact ⟨by kernel_rfl,by decide⟩⟩) (.agg #[(.int .i64 0),(.int .i64 0),(.int .i64 0),(.int .i64 0),(.int .i64 0),(.slice none 0 0),(.int .i64 0),(.int .i64 0),(.int .i64 0)]) (by kernel_rfl) rfl rfl rfl rfl (by decide) (fun h=>by cases h)
def ti72:TyI:=⟨.struct [(0,68,6),(6,70,3)],9,88,[(.int .i64 0),(.int .i64 0),(.int .i64 0),(.int .i64 0),(.int .i64 0),(.slice none 0 0),(.int .i64 0),(.int .i64 0),(.int .i64 0)],false⟩
theorem ty72:TyOk Tryz.prog 72 ti72:=TyOk.of Tryz.underlying72 (show TK.ok _ (.struct [(0,68,6),(6,70,3)]) _ from ⟨_,rfl,rfl,fun x hx=>by simp only [U7,List.not_mem_nil,or_false] at hx;rcases hx with rfl | rfl<;>exact ⟨by kernel_rfl,by decide⟩⟩) (.agg #[(.int .i64 0),(.int .i64 0),(.int .i64 0),(.int .i64 0),(.int .i64 0),(.slice none 0 0),(.int .i64 0),(.int .i64 0),(.int .i64 0)]) (by kernel_rfl) rfl rfl rfl rfl (by decide) (fun h=>by cases h)
def ti76:TyI:=⟨.pointer 110,1,8,[(.pointer none)],false⟩
theorem ty76:TyOk Tryz.prog 76 ti76:=TyOk.of Tryz.underlying76 (show TK.ok _ (.pointer 110) _ from rfl) (.pointer none) (by kernel_rfl) rfl rfl rfl rfl (by decide) (fun h=>by cases h)
def ti80:TyI:=⟨.slice 88,1,24,[(.slice none 0 0)],false⟩
theorem ty80:TyOk Tryz.prog 80 ti80:=TyOk.of Tryz.underlying80 (show TK.ok _ (.slice 88) _ from rfl) (.slice none 0 0) (by kernel_rfl) rfl rfl rfl rfl (by decide) (fun h=>by cases h)
def ti83:TyI:=⟨.slice 209,1,24,[(.slice none 0 0)],false⟩
theorem ty83:TyOk Tryz.prog 83 ti83:=TyOk.of Tryz.underlying83 (show TK.ok _ (.slice 209) _ from rfl) (.slice none 0 0) (by kernel_rfl) rfl rfl rfl rfl (by decide) (fun h=>by cases h)
def ti86:TyI:=⟨.slice 171,1,24,[(.slice none 0 0)],false⟩
theorem ty86:TyOk Tryz.prog 86 ti86:=TyOk.of Tryz.underlying86 (show TK.ok _ (.slice 171) _ from rfl) (.slice none 0 0) (by kernel_rfl) rfl rfl rfl rfl (by decide) (fun h=>by cases h)
def ti87:TyI:=⟨.struct [(0,3,1),(1,44,1),(2,3,1),(3,3,1),(4,3,1),(5,3,1),(6,86,1),(7,3,1)],8,96,[(.int .i64 0),(.slice none 0 0),(.int .i64 0),(.int .i64 0),(.int .i64 0),(.int .i64 0),(.slice none 0 0),(.int .i64 0)],false⟩
theorem ty87:TyOk Tryz.prog 87 ti87:=TyOk.of Tryz.underlying87 (show TK.ok _ (.struct [(0,3,1),(1,44,1),(2,3,1),(3,3,1),(4,3,1),(5,3,1),(6,86,1),(7,3,1)]) _ from ⟨_,rfl,rfl,fun x hx=>by simp only [U7,List.not_mem_nil,or_false] at hx;rcases hx with rfl | rfl | rfl | rfl | rfl | rfl | rfl | rfl<;>exact ⟨by kernel_rfl,by decide⟩⟩) (.agg #[(.int .i64 0),(.slice none 0 0),(.int .i64 0),(.int .i64 0),(.int .i64 0),(.int .i64 0),(.slice none 0 0),(.int .i64 0)]) (by kernel_rfl) rfl rfl rfl rfl (by decide) (fun h=>by cases h)
def ti88:TyI:=⟨.struct [(0,3,1),(1,44,1),(2,3,1),(3,3,1),(4,3,1),(5,3,1),(6,86,1),(7,3,1)],8,96,[(.int .i64 0),(.slice none 0 0),(.int .i64 0),(.int .i64 0),(.int .i64 0),(.int .i64 0),(.slice none 0 0),(.int .i64 0)],false⟩
theorem ty88:TyOk Tryz.prog 88 ti88:=TyOk.of Tryz.underlying88 (show TK.ok _ (.struct [(0,3,1),(1,44,1),(2,3,1),(3,3,1),(4,3,1),(5,3,1),(6,86,1),(7,3,1)]) _ from ⟨_,rfl,rfl,fun x hx=>by simp only [U7,List.not_mem_nil,or_false] at hx;rcases hx with rfl | rfl | rfl | rfl | rfl | rfl | rfl | rfl<;>exact ⟨by kernel_rfl,by decide⟩⟩) (.agg #[(.int .i64 0),(.slice none 0 0),(.int .i64 0),(.int .i64 0),(.int .i64 0),(.int .i64 0),(.slice none 0 0),(.int .i64 0)]) (by kernel_rfl) rfl rfl rfl rfl (by decide) (fun h=>by cases h)
def ti99:TyI:=⟨.slice 206,1,24,[(.slice none 0 0)],false⟩
theorem ty99:TyOk Tryz.prog 99 ti99:=TyOk.of Tryz.underlying99 (show TK.ok _ (.slice 206) _ from rfl) (.slice none 0 0) (by kernel_rfl) rfl rfl rfl rfl (by decide) (fun h=>by cases h)
def V1d:TyI:=⟨.slice 102,1,24,[(.slice none 0 0)],false⟩
theorem V6x:TyOk Tryz.prog 100 V1d:=TyOk.of Tryz.underlying100 (show TK.ok _ (.slice 102) _ from rfl) (.slice none 0 0) (by kernel_rfl) rfl rfl rfl rfl (by decide) (fun h=>by cases h)
def V1c:TyI:=⟨.struct [(0,3,1),(1,3,1),(2,86,1),(3,44,1),(4,99,1),(5,100,1)],6,112,[(.int .i64 0),(.int .i64 0),(.slice none 0 0),(.slice none 0 0),(.slice none 0 0),(.slice none 0 0)],false⟩
theorem V6w:TyOk Tryz.prog 101 V1c:=TyOk.of Tryz.underlying101 (show TK.ok _ (.struct [(0,3,1),(1,3,1),(2,86,1),(3,44,1),(4,99,1),(5,100,1)]) _ from ⟨_,rfl,rfl,fun x hx=>by simp only [U7,List.not_mem_nil,or_false] at hx;rcases hx with rfl | rfl | rfl | rfl | rfl | rfl<;>exact ⟨by kernel_rfl,by decide⟩⟩) (.agg #[(.int .i64 0),(.int .i64 0),(.slice none 0 0),(.slice none 0 0),(.slice none 0 0),(.slice none 0 0)]) (by kernel_rfl) rfl rfl rfl rfl (by decide) (fun h=>by cases h)
def V1b:TyI:=⟨.struct [(0,3,1),(1,3,1),(2,86,1),(3,44,1),(4,99,1),(5,100,1)],6,112,[(.int .i64 0),(.int .i64 0),(.slice none 0 0),(.slice none 0 0),(.slice none 0 0),(.slice none 0 0)],false⟩
theorem V6v:TyOk Tryz.prog 102 V1b:=TyOk.of Tryz.underlying102 (show TK.ok _ (.struct [(0,3,1),(1,3,1),(2,86,1),(3,44,1),(4,99,1),(5,100,1)]) _ from ⟨_,rfl,rfl,fun x hx=>by simp only [U7,List.not_mem_nil,or_false] at hx;rcases hx with rfl | rfl | rfl | rfl | rfl | rfl<;>exact ⟨by kernel_rfl,by decide⟩⟩) (.agg #[(.int .i64 0),(.int .i64 0),(.slice none 0 0),(.slice none 0 0),(.slice none 0 0),(.slice none 0 0)]) (by kernel_rfl) rfl rfl rfl rfl (by decide) (fun h=>by cases h)
def V1a:TyI:=⟨.func,1,8,[.nilFunc],false⟩
theorem V6u:TyOk Tryz.prog 108 V1a:=TyOk.of Tryz.underlying108 (show TK.ok _ (.func) _ from ⟨_,_,_,rfl⟩) .nilFunc (by kernel_rfl) rfl rfl rfl rfl (by decide) (fun h=>by cases h)
def V19:TyI:=⟨.struct [(0,23,1),(1,24,1),(2,3,1),(3,3,1),(4,3,1),(5,3,1),(6,108,1)],7,88,[(.slice none 0 0),(.slice none 0 0),(.int .i64 0),(.int .i64 0),(.int .i64 0),(.int .i64 0),.nilFunc],false⟩
theorem V6t:TyOk Tryz.prog 109 V19:=TyOk.of Tryz.underlying109 (show TK.ok _ (.struct [(0,23,1),(1,24,1),(2,3,1),(3,3,1),(4,3,1),(5,3,1),(6,108,1)]) _ from ⟨_,rfl,rfl,fun x hx=>by simp only [U7,List.not_mem_nil,or_false] at hx;rcases hx with rfl | rfl | rfl | rfl | rfl | rfl | rfl<;>exact ⟨by kernel_rfl,by decide⟩⟩) (.agg #[(.slice none 0 0),(.slice none 0 0),(.int .i64 0),(.int .i64 0),(.int .i64 0),(.int .i64 0),.nilFunc]) (by kernel_rfl) rfl rfl rfl rfl (by decide) (fun h=>by cases h)
def V18:TyI:=⟨.struct [(0,23,1),(1,24,1),(2,3,1),(3,3,1),(4,3,1),(5,3,1),(6,108,1)],7,88,[(.slice none 0 0),(.slice none 0 0),(.int .i64 0),(.int .i64 0),(.int .i64 0),(.int .i64 0),.nilFunc],false⟩
theorem V6s:TyOk Tryz.prog 110 V18:=TyOk.of Tryz.underlying110 (show TK.ok _ (.struct [(0,23,1),(1,24,1),(2,3,1),(3,3,1),(4,3,1),(5,3,1),(6,108,1)]) _ from ⟨_,rfl,rfl,fun x hx=>by simp only [U7,List.not_mem_nil,or_false] at hx;rcases hx with rfl | rfl | rfl | rfl | rfl | rfl | rfl<;>exact ⟨by kernel_rfl,by decide⟩⟩) (.agg #[(.slice none 0 0),(.slice none 0 0),(.int .i64 0),(.int .i64 0),(.int .i64 0),(.int .i64 0),.nilFunc]) (by kernel_rfl) rfl rfl rfl rfl (by decide) (fun h=>by cases h)
def V17:TyI:=⟨.struct [(0,23,1),(1,24,1),(2,100,1),(3,3,1),(4,3,1),(5,3,1),(6,3,1)],7,104,[(.slice none 0 0),(.slice none 0 0),(.slice none 0 0),(.int .i64 0),(.int .i64 0),(.int .i64 0),(.int .i64 0)],false⟩
theorem V6r:TyOk Tryz.prog 111 V17:=TyOk.of Tryz.underlying111 (show TK.ok _ (.struct [(0,23,1),(1,24,1),(2,100,1),(3,3,1),(4,3,1),(5,3,1),(6,3,1)]) _ from ⟨_,rfl,rfl,fun x hx=>by simp only [U7,List.not_mem_nil,or_false] at hx;rcases hx with rfl | rfl | rfl | rfl | rfl | rfl | rfl<;>exact ⟨by kernel_rfl,by decide⟩⟩) (.agg #[(.slice none 0 0),(.slice none 0 0),(.slice none 0 0),(.int .i64 0),(.int .i64 0),(.int .i64 0),(.int .i64 0)]) (by kernel_rfl) rfl rfl rfl rfl (by decide) (fun h=>by cases h)
def V16:TyI:=⟨.struct [(0,23,1),(1,24,1),(2,100,1),(3,3,1),(4,3,1),(5,3,1),(6,3,1)],7,104,[(.slice none 0 0),(.slice none 0 0),(.slice none 0 0),(.int .i64 0),(.int .i64 0),(.int .i64 0),(.int .i64 0)],false⟩
theorem V6q:TyOk Tryz.prog 112 V16:=TyOk.of Tryz.underlying112 (show TK.ok _ (.struct [(0,23,1),(1,24,1),(2,100,1),(3,3,1),(4,3,1),(5,3,1),(6,3,1)]) _ from ⟨_,rfl,rfl,fun x hx=>by simp only [U7,List.not_mem_nil,or_false] at hx;rcases hx with rfl | rfl | rfl | rfl | rfl | rfl | rfl<;>exact ⟨by kernel_rfl,by decide⟩⟩) (.agg #[(.slice none 0 0),(.slice none 0 0),(.slice none 0 0),(.int .i64 0),(.int .i64 0),(.int .i64 0),(.int .i64 0)]) (by kernel_rfl) rfl rfl rfl rfl (by decide) (fun h=>by cases h)
def V15:TyI:=⟨.slice 50,1,24,[(.slice none 0 0)],false⟩
theorem V6p:TyOk Tryz.prog 120 V15:=TyOk.of Tryz.underlying120 (show TK.ok _ (.slice 50) _ from rfl) (.slice none 0 0) (by kernel_rfl) rfl rfl rfl rfl (by decide) (fun h=>by cases h)
def V14:TyI:=⟨.pointer 215,1,8,[(.pointer none)],false⟩
theorem V6o:TyOk Tryz.prog 123 V14:=TyOk.of Tryz.underlying123 (show TK.ok _ (.pointer 215) _ from rfl) (.pointer none) (by kernel_rfl) rfl rfl rfl rfl (by decide) (fun h=>by cases h)
def V13:TyI:=⟨.slice 156,1,24,[(.slice none 0 0)],false⟩
theorem V6n:TyOk Tryz.prog 139 V13:=TyOk.of Tryz.underlying139 (show TK.ok _ (.slice 156) _ from rfl) (.slice none 0 0) (by kernel_rfl) rfl rfl rfl rfl (by decide) (fun h=>by cases h)
def V12:TyI:=⟨.struct [(0,23,1),(1,120,1),(2,139,1)],3,72,[(.slice none 0 0),(.slice none 0 0),(.slice none 0 0)],false⟩
theorem V6m:TyOk Tryz.prog 140 V12:=TyOk.of Tryz.underlying140 (show TK.ok _ (.struct [(0,23,1),(1,120,1),(2,139,1)]) _ from ⟨_,rfl,rfl,fun x hx=>by simp only [U7,List.not_mem_nil,or_false] at hx;rcases hx with rfl | rfl | rfl<;>exact ⟨by kernel_rfl,by decide⟩⟩) (.agg #[(.slice none 0 0),(.slice none 0 0),(.slice none 0 0)]) (by kernel_rfl) rfl rfl rfl rfl (by decide) (fun h=>by cases h)
def V11:TyI:=⟨.struct [(0,23,1),(1,120,1),(2,139,1)],3,72,[(.slice none 0 0),(.slice none 0 0),(.slice none 0 0)],false⟩
theorem V6l:TyOk Tryz.prog 141 V11:=TyOk.of Tryz.underlying141 (show TK.ok _ (.struct [(0,23,1),(1,120,1),(2,139,1)]) _ from ⟨_,rfl,rfl,fun x hx=>by simp only [U7,List.not_mem_nil,or_false] at hx;rcases hx with rfl | rfl | rfl<;>exact ⟨by kernel_rfl,by decide⟩⟩) (.agg #[(.slice none 0 0),(.slice none 0 0),(.slice none 0 0)]) (by kernel_rfl) rfl rfl rfl rfl (by decide) (fun h=>by cases h)
def V10:TyI:=⟨.slice 35,1,24,[(.slice none 0 0)],false⟩
theorem V6k:TyOk Tryz.prog 152 V10:=TyOk.of Tryz.underlying152 (show TK.ok _ (.slice 35) _ from rfl) (.slice none 0 0) (by kernel_rfl) rfl rfl rfl rfl (by decide) (fun h=>by cases h)
def V0z:TyI:=⟨.struct [(0,3,1),(1,35,2)],3,24,[(.int .i64 0),(.int .i64 0),(.int .i64 0)],false⟩
theorem V6j:TyOk Tryz.prog 155 V0z:=TyOk.of Tryz.underlying155 (show TK.ok _ (.struct [(0,3,1),(1,35,2)]) _ from ⟨_,rfl,rfl,fun x hx=>by simp only [U7,List.not_mem_nil,or_false] at hx;rcases hx with rfl | rfl<;>exact ⟨by kernel_rfl,by decide⟩⟩) (.agg #[(.int .i64 0),(.int .i64 0),(.int .i64 0)]) (by kernel_rfl) rfl rfl rfl rfl (by decide) (fun h=>by cases h)
def V0y:TyI:=⟨.struct [(0,3,1),(1,35,2)],3,24,[(.int .i64 0),(.int .i64 0),(.int .i64 0)],true⟩
theorem V6i:TyOk Tryz.prog 156 V0y:=TyOk.of Tryz.underlying156 (show TK.ok _ (.struct [(0,3,1),(1,35,2)]) _ from ⟨_,rfl,rfl,fun x hx=>by simp only [U7,List.not_mem_nil,or_false] at hx;rcases hx with rfl | rfl<;>exact ⟨by kernel_rfl,by decide⟩⟩) (.agg #[(.int .i64 0),(.int .i64 0),(.int .i64 0)]) (by kernel_rfl) rfl rfl rfl rfl (by decide) (fun _ fs h=>by cases h;exact ⟨by kernel_rfl,by kernel_rfl,by kernel_rfl,by kernel_rfl⟩)
def V0x:TyI:=⟨.slice 66,1,24,[(.slice none 0 0)],false⟩
theorem V6h:TyOk Tryz.prog 163 V0x:=TyOk.of Tryz.underlying163 (show TK.ok _ (.slice 66) _ from rfl) (.slice none 0 0) (by kernel_rfl) rfl rfl rfl rfl (by decide) (fun h=>by cases h)
def V0w:TyI:=⟨.pointer 80,1,8,[(.pointer none)],false⟩
theorem V6g:TyOk Tryz.prog 167 V0w:=TyOk.of Tryz.underlying167 (show TK.ok _ (.pointer 80) _ from rfl) (.pointer none) (by kernel_rfl) rfl rfl rfl rfl (by decide) (fun h=>by cases h)
def V0v:TyI:=⟨.pointer 86,1,8,[(.pointer none)],false⟩
theorem V6f:TyOk Tryz.prog 168 V0v:=TyOk.of Tryz.underlying168 (show TK.ok _ (.pointer 86) _ from rfl) (.pointer none) (by kernel_rfl) rfl rfl rfl rfl (by decide) (fun h=>by cases h)
def V0u:TyI:=⟨.struct [(0,3,1),(1,44,1)],2,32,[(.int .i64 0),(.slice none 0 0)],false⟩
theorem V6e:TyOk Tryz.prog 170 V0u:=TyOk.of Tryz.underlying170 (show TK.ok _ (.struct [(0,3,1),(1,44,1)]) _ from ⟨_,rfl,rfl,fun x hx=>by simp only [U7,List.not_mem_nil,or_false] at hx;rcases hx with rfl | rfl<;>exact ⟨by kernel_rfl,by decide⟩⟩) (.agg #[(.int .i64 0),(.slice none 0 0)]) (by kernel_rfl) rfl rfl rfl rfl (by decide) (fun h=>by cases h)
def V0t:TyI:=⟨.struct [(0,3,1),(1,44,1)],2,32,[(.int .i64 0),(.slice none 0 0)],false⟩
theorem V6d:TyOk Tryz.prog 171 V0t:=TyOk.of Tryz.underlying171 (show TK.ok _ (.struct [(0,3,1),(1,44,1)]) _ from ⟨_,rfl,rfl,fun x hx=>by simp only [U7,List.not_mem_nil,or_false] at hx;rcases hx with rfl | rfl<;>exact ⟨by kernel_rfl,by decide⟩⟩) (.agg #[(.int .i64 0),(.slice none 0 0)]) (by kernel_rfl) rfl rfl rfl rfl (by decide) (fun h=>by cases h)
def V0s:TyI:=⟨.pointer 3,1,8,[(.pointer none)],false⟩
theorem V6c:TyOk Tryz.prog 175 V0s:=TyOk.of Tryz.underlying175 (show TK.ok _ (.pointer 3) _ from rfl) (.pointer none) (by kernel_rfl) rfl rfl rfl rfl (by decide) (fun h=>by cases h)
def V0r:TyI:=⟨.slice 190,1,24,[(.slice none 0 0)],false⟩
theorem V6b:TyOk Tryz.prog 188 V0r:=TyOk.of Tryz.underlying188 (show TK.ok _ (.slice 190) _ from rfl) (.slice none 0 0) (by kernel_rfl) rfl rfl rfl rfl (by decide) (fun h=>by cases h)
def V0q:TyI:=⟨.struct [(0,3,1),(1,66,1),(2,86,1)],3,56,[(.int .i64 0),(.slice none 0 0),(.slice none 0 0)],false⟩
theorem V6a:TyOk Tryz.prog 189 V0q:=TyOk.of Tryz.underlying189 (show TK.ok _ (.struct [(0,3,1),(1,66,1),(2,86,1)]) _ from ⟨_,rfl,rfl,fun x hx=>by simp only [U7,List.not_mem_nil,or_false] at hx;rcases hx with rfl | rfl | rfl<;>exact ⟨by kernel_rfl,by decide⟩⟩) (.agg #[(.int .i64 0),(.slice none 0 0),(.slice none 0 0)]) (by kernel_rfl) rfl rfl rfl rfl (by decide) (fun h=>by cases h)
def V0p:TyI:=⟨.struct [(0,3,1),(1,66,1),(2,86,1)],3,56,[(.int .i64 0),(.slice none 0 0),(.slice none 0 0)],false⟩
theorem V69:TyOk Tryz.prog 190 V0p:=TyOk.of Tryz.underlying190 (show TK.ok _ (.struct [(0,3,1),(1,66,1),(2,86,1)]) _ from ⟨_,rfl,rfl,fun x hx=>by simp only [U7,List.not_mem_nil,or_false] at hx;rcases hx with rfl | rfl | rfl<;>exact ⟨by kernel_rfl,by decide⟩⟩) (.agg #[(.int .i64 0),(.slice none 0 0),(.slice none 0 0)]) (by kernel_rfl) rfl rfl rfl rfl (by decide) (fun h=>by cases h)
def V0o:TyI:=⟨.pointer 196,1,8,[(.pointer none)],false⟩
theorem V68:TyOk Tryz.prog 192 V0o:=TyOk.of Tryz.underlying192 (show TK.ok _ (.pointer 196) _ from rfl) (.pointer none) (by kernel_rfl) rfl rfl rfl rfl (by decide) (fun h=>by cases h)
def V0n:TyI:=⟨.pointer 279,1,8,[(.pointer none)],false⟩
theorem V67:TyOk Tryz.prog 193 V0n:=TyOk.of Tryz.underlying193 (show TK.ok _ (.pointer 279) _ from rfl) (.pointer none) (by kernel_rfl) rfl rfl rfl rfl (by decide) (fun h=>by cases h)
def V0m:TyI:=⟨.struct [(0,193,1),(1,36,1),(2,3,1),(3,3,1)],4,48,[(.pointer none),(.slice none 0 0),(.int .i64 0),(.int .i64 0)],false⟩
theorem V66:TyOk Tryz.prog 195 V0m:=TyOk.of Tryz.underlying195 (show TK.ok _ (.struct [(0,193,1),(1,36,1),(2,3,1),(3,3,1)]) _ from ⟨_,rfl,rfl,fun x hx=>by simp only [U7,List.not_mem_nil,or_false] at hx;rcases hx with rfl | rfl | rfl | rfl<;>exact ⟨by kernel_rfl,by decide⟩⟩) (.agg #[(.pointer none),(.slice none 0 0),(.int .i64 0),(.int .i64 0)]) (by kernel_rfl) rfl rfl rfl rfl (by decide) (fun h=>by cases h)
def V0l:TyI:=⟨.struct [(0,193,1),(1,36,1),(2,3,1),(3,3,1)],4,48,[(.pointer none),(.slice none 0 0),(.int .i64 0),(.int .i64 0)],false⟩
theorem V65:TyOk Tryz.prog 196 V0l:=TyOk.of Tryz.underlying196 (show TK.ok _ (.struct [(0,193,1),(1,36,1),(2,3,1),(3,3,1)]) _ from ⟨_,rfl,rfl,fun x hx=>by simp only [U7,List.not_mem_nil,or_false] at hx;rcases hx with rfl | rfl | rfl | rfl<;>exact ⟨by kernel_rfl,by decide⟩⟩) (.agg #[(.pointer none),(.slice none 0 0),(.int .i64 0),(.int .i64 0)]) (by kernel_rfl) rfl rfl rfl rfl (by decide) (fun h=>by cases h)
def V0k:TyI:=⟨.struct [(0,44,1),(1,35,2)],3,40,[(.slice none 0 0),(.int .i64 0),(.int .i64 0)],false⟩
theorem V64:TyOk Tryz.prog 198 V0k:=TyOk.of Tryz.underlying198 (show TK.ok _ (.struct [(0,44,1),(1,35,2)]) _ from ⟨_,rfl,rfl,fun x hx=>by simp only [U7,List.not_mem_nil,or_false] at hx;rcases hx with rfl | rfl<;>exact ⟨by kernel_rfl,by decide⟩⟩) (.agg #[(.slice none 0 0),(.int .i64 0),(.int .i64 0)]) (by kernel_rfl) rfl rfl rfl rfl (by decide) (fun h=>by cases h)
def V0j:TyI:=⟨.struct [(0,44,1),(1,35,2)],3,40,[(.slice none 0 0),(.int .i64 0),(.int .i64 0)],false⟩
theorem V63:TyOk Tryz.prog 199 V0j:=TyOk.of Tryz.underlying199 (show TK.ok _ (.struct [(0,44,1),(1,35,2)]) _ from ⟨_,rfl,rfl,fun x hx=>by simp only [U7,List.not_mem_nil,or_false] at hx;rcases hx with rfl | rfl<;>exact ⟨by kernel_rfl,by decide⟩⟩) (.agg #[(.slice none 0 0),(.int .i64 0),(.int .i64 0)]) (by kernel_rfl) rfl rfl rfl rfl (by decide) (fun h=>by cases h)
def V0i:TyI:=⟨.slice 199,1,24,[(.slice none 0 0)],false⟩
theorem V62:TyOk Tryz.prog 200 V0i:=TyOk.of Tryz.underlying200 (show TK.ok _ (.slice 199) _ from rfl) (.slice none 0 0) (by kernel_rfl) rfl rfl rfl rfl (by decide) (fun h=>by cases h)
def V0h:TyI:=⟨.struct [(0,3,1),(1,3,1),(2,3,1),(3,102,6)],9,136,[(.int .i64 0),(.int .i64 0),(.int .i64 0),(.int .i64 0),(.int .i64 0),(.slice none 0 0),(.slice none 0 0),(.slice none 0 0),(.slice none 0 0)],false⟩
theorem V61:TyOk Tryz.prog 205 V0h:=TyOk.of Tryz.underlying205 (show TK.ok _ (.struct [(0,3,1),(1,3,1),(2,3,1),(3,102,6)]) _ from ⟨_,rfl,rfl,fun x hx=>by simp only [U7,List.not_mem_nil,or_false] at hx;rcases hx with rfl | rfl | rfl | rfl<;>exact ⟨by kernel_rfl,by decide⟩⟩) (.agg #[(.int .i64 0),(.int .i64 0),(.int .i64 0),(.int .i64 0),(.int .i64 0),(.slice none 0 0),(.slice none 0 0),(.slice none 0 0),(.slice none 0 0)]) (by kernel_rfl) rfl rfl rfl rfl (by decide) (fun h=>by cases h)
def V0g:TyI:=⟨.struct [(0,3,1),(1,3,1),(2,3,1),(3,102,6)],9,136,[(.int .i64 0),(.int .i64 0),(.int .i64 0),(.int .i64 0),(.int .i64 0),(.slice none 0 0),(.slice none 0 0),(.slice none 0 0),(.slice none 0 0)],false⟩
theorem V60:TyOk Tryz.prog 206 V0g:=TyOk.of Tryz.underlying206 (show TK.ok _ (.struct [(0,3,1),(1,3,1),(2,3,1),(3,102,6)]) _ from ⟨_,rfl,rfl,fun x hx=>by simp only [U7,List.not_mem_nil,or_false] at hx;rcases hx with rfl | rfl | rfl | rfl<;>exact ⟨by kernel_rfl,by decide⟩⟩) (.agg #[(.int .i64 0),(.int .i64 0),(.int .i64 0),(.int .i64 0),(.int .i64 0),(.slice none 0 0),(.slice none 0 0),(.slice none 0 0),(.slice none 0 0)]) (by kernel_rfl) rfl rfl rfl rfl (by decide) (fun h=>by cases h)
def V0f:TyI:=⟨.struct [(0,3,1),(1,27,3)],4,48,[(.int .i64 0),(.int .i64 0),(.int .i64 0),(.slice none 0 0)],false⟩
theorem V5z:TyOk Tryz.prog 208 V0f:=TyOk.of Tryz.underlying208 (show TK.ok _ (.struct [(0,3,1),(1,27,3)]) _ from ⟨_,rfl,rfl,fun x hx=>by simp only [U7,List.not_mem_nil,or_false] at hx;rcases hx with rfl | rfl<;>exact ⟨by kernel_rfl,by decide⟩⟩) (.agg #[(.int .i64 0),(.int .i64 0),(.int .i64 0),(.slice none 0 0)]) (by kernel_rfl) rfl rfl rfl rfl (by decide) (fun h=>by cases h)
def V0e:TyI:=⟨.struct [(0,3,1),(1,27,3)],4,48,[(.int .i64 0),(.int .i64 0),(.int .i64 0),(.slice none 0 0)],false⟩
theorem V5y:TyOk Tryz.prog 209 V0e:=TyOk.of Tryz.underlying209 (show TK.ok _ (.struct [(0,3,1),(1,27,3)]) _ from ⟨_,rfl,rfl,fun x hx=>by simp only [U7,List.not_mem_nil,or_false] at hx;rcases hx with rfl | rfl<;>exact ⟨by kernel_rfl,by decide⟩⟩) (.agg #[(.int .i64 0),(.int .i64 0),(.int .i64 0),(.slice none 0 0)]) (by kernel_rfl) rfl rfl rfl rfl (by decide) (fun h=>by cases h)
def V0d:TyI:=⟨.struct [(0,22,1),(1,3,1)],2,32,[(.slice none 0 0),(.int .i64 0)],false⟩
theorem V5x:TyOk Tryz.prog 214 V0d:=TyOk.of Tryz.underlying214 (show TK.ok _ (.struct [(0,22,1),(1,3,1)]) _ from ⟨_,rfl,rfl,fun x hx=>by simp only [U7,List.not_mem_nil,or_false] at hx;rcases hx with rfl | rfl<;>exact ⟨by kernel_rfl,by decide⟩⟩) (.agg #[(.slice none 0 0),(.int .i64 0)]) (by kernel_rfl) rfl rfl rfl rfl (by decide) (fun h=>by cases h)
def V0c:TyI:=⟨.struct [(0,22,1),(1,3,1)],2,32,[(.slice none 0 0),(.int .i64 0)],false⟩
theorem V5w:TyOk Tryz.prog 215 V0c:=TyOk.of Tryz.underlying215 (show TK.ok _ (.struct [(0,22,1),(1,3,1)]) _ from ⟨_,rfl,rfl,fun x hx=>by simp only [U7,List.not_mem_nil,or_false] at hx;rcases hx with rfl | rfl<;>exact ⟨by kernel_rfl,by decide⟩⟩) (.agg #[(.slice none 0 0),(.int .i64 0)]) (by kernel_rfl) rfl rfl rfl rfl (by decide) (fun h=>by cases h)
def V0b:TyI:=⟨.slice 220,1,24,[(.slice none 0 0)],false⟩
theorem V5v:TyOk Tryz.prog 216 V0b:=TyOk.of Tryz.underlying216 (show TK.ok _ (.slice 220) _ from rfl) (.slice none 0 0) (by kernel_rfl) rfl rfl rfl rfl (by decide) (fun h=>by cases h)
def V0a:TyI:=⟨.slice 9,1,24,[(.slice none 0 0)],false⟩
theorem V5u:TyOk Tryz.prog 220 V0a:=TyOk.of Tryz.underlying220 (show TK.ok _ (.slice 9) _ from rfl) (.slice none 0 0) (by kernel_rfl) rfl rfl rfl rfl (by decide) (fun h=>by cases h)
def V09:TyI:=⟨.map 9 4,1,8,[(.map none)],false⟩
theorem V5t:TyOk Tryz.prog 234 V09:=TyOk.of Tryz.underlying234 (show TK.ok _ (.map 9 4) _ from rfl) (.map none) (by kernel_rfl) rfl rfl rfl rfl (by decide) (fun h=>by cases h)
def V08:TyI:=⟨.slice 239,1,24,[(.slice none 0 0)],false⟩
theorem V5s:TyOk Tryz.prog 235 V08:=TyOk.of Tryz.underlying235 (show TK.ok _ (.slice 239) _ from rfl) (.slice none 0 0) (by kernel_rfl) rfl rfl rfl rfl (by decide) (fun h=>by cases h)
def V07:TyI:=⟨.struct [(0,9,1),(1,235,1)],2,40,[(.string .empty),(.slice none 0 0)],false⟩
theorem V5r:TyOk Tryz.prog 236 V07:=TyOk.of Tryz.underlying236 (show TK.ok _ (.struct [(0,9,1),(1,235,1)]) _ from ⟨_,rfl,rfl,fun x hx=>by simp only [U7,List.not_mem_nil,or_false] at hx;rcases hx with rfl | rfl<;>exact ⟨by kernel_rfl,by decide⟩⟩) (.agg #[(.string .empty),(.slice none 0 0)]) (by kernel_rfl) rfl rfl rfl rfl (by decide) (fun h=>by cases h)
def V06:TyI:=⟨.struct [(0,9,1),(1,235,1)],2,40,[(.string .empty),(.slice none 0 0)],false⟩
theorem V5q:TyOk Tryz.prog 237 V06:=TyOk.of Tryz.underlying237 (show TK.ok _ (.struct [(0,9,1),(1,235,1)]) _ from ⟨_,rfl,rfl,fun x hx=>by simp only [U7,List.not_mem_nil,or_false] at hx;rcases hx with rfl | rfl<;>exact ⟨by kernel_rfl,by decide⟩⟩) (.agg #[(.string .empty),(.slice none 0 0)]) (by kernel_rfl) rfl rfl rfl rfl (by decide) (fun h=>by cases h)
def V05:TyI:=⟨.struct [(0,9,1),(1,152,1),(2,3,1)],3,48,[(.string .empty),(.slice none 0 0),(.int .i64 0)],false⟩
theorem V5p:TyOk Tryz.prog 238 V05:=TyOk.of Tryz.underlying238 (show TK.ok _ (.struct [(0,9,1),(1,152,1),(2,3,1)]) _ from ⟨_,rfl,rfl,fun x hx=>by simp only [U7,List.not_mem_nil,or_false] at hx;rcases hx with rfl | rfl | rfl<;>exact ⟨by kernel_rfl,by decide⟩⟩) (.agg #[(.string .empty),(.slice none 0 0),(.int .i64 0)]) (by kernel_rfl) rfl rfl rfl rfl (by decide) (fun h=>by cases h)
def V04:TyI:=⟨.struct [(0,9,1),(1,152,1),(2,3,1)],3,48,[(.string .empty),(.slice none 0 0),(.int .i64 0)],false⟩
theorem V5o:TyOk Tryz.prog 239 V04:=TyOk.of Tryz.underlying239 (show TK.ok _ (.struct [(0,9,1),(1,152,1),(2,3,1)]) _ from ⟨_,rfl,rfl,fun x hx=>by simp only [U7,List.not_mem_nil,or_false] at hx;rcases hx with rfl | rfl | rfl<;>exact ⟨by kernel_rfl,by decide⟩⟩) (.agg #[(.string .empty),(.slice none 0 0),(.int .i64 0)]) (by kernel_rfl) rfl rfl rfl rfl (by decide) (fun h=>by cases h)
def V03:TyI:=⟨.array 6 4,6,6,[(.bool false),(.bool false),(.bool false),(.bool false),(.bool false),(.bool false)],false⟩
theorem V5n:TyOk Tryz.prog 243 V03:=TyOk.of Tryz.underlying243 (show TK.ok _ (.array 6 4) _ from rfl) (.agg #[(.bool false),(.bool false),(.bool false),(.bool false),(.bool false),(.bool false)]) (by kernel_rfl) rfl rfl rfl rfl (by decide) (fun h=>by cases h)
def V02:TyI:=⟨.int .u64,1,8,[(.int .u64 0)],false⟩
theorem V5m:TyOk Tryz.prog 268 V02:=TyOk.of Tryz.underlying268 (show TK.ok _ (.int .u64) _ from rfl) (.int .u64 0) (by kernel_rfl) rfl rfl rfl rfl (by decide) (fun h=>by cases h)
def V01:TyI:=⟨.pointer 334,1,8,[(.pointer none)],false⟩
theorem V5l:TyOk Tryz.prog 276 V01:=TyOk.of Tryz.underlying276 (show TK.ok _ (.pointer 334) _ from rfl) (.pointer none) (by kernel_rfl) rfl rfl rfl rfl (by decide) (fun h=>by cases h)
def V00:TyI:=⟨.struct [(0,23,1),(1,276,1)],2,32,[(.slice none 0 0),(.pointer none)],false⟩
theorem V5k:TyOk Tryz.prog 278 V00:=TyOk.of Tryz.underlying278 (show TK.ok _ (.struct [(0,23,1),(1,276,1)]) _ from ⟨_,rfl,rfl,fun x hx=>by simp only [U7,List.not_mem_nil,or_false] at hx;rcases hx with rfl | rfl<;>exact ⟨by kernel_rfl,by decide⟩⟩) (.agg #[(.slice none 0 0),(.pointer none)]) (by kernel_rfl) rfl rfl rfl rfl (by decide) (fun h=>by cases h)
def W9z:TyI:=⟨.struct [(0,23,1),(1,276,1)],2,32,[(.slice none 0 0),(.pointer none)],false⟩
theorem V5j:TyOk Tryz.prog 279 W9z:=TyOk.of Tryz.underlying279 (show TK.ok _ (.struct [(0,23,1),(1,276,1)]) _ from ⟨_,rfl,rfl,fun x hx=>by simp only [U7,List.not_mem_nil,or_false] at hx;rcases hx with rfl | rfl<;>exact ⟨by kernel_rfl,by decide⟩⟩) (.agg #[(.slice none 0 0),(.pointer none)]) (by kernel_rfl) rfl rfl rfl rfl (by decide) (fun h=>by cases h)
def W9y:TyI:=⟨.int .i64,1,8,[(.int .i64 0)],false⟩
theorem V5i:TyOk Tryz.prog 318 W9y:=TyOk.of Tryz.underlying318 (show TK.ok _ (.int .i64) _ from rfl) (.int .i64 0) (by kernel_rfl) rfl rfl rfl rfl (by decide) (fun h=>by cases h)
def W9x:TyI:=⟨.int .u32,1,4,[(.int .u32 0)],false⟩
theorem V5h:TyOk Tryz.prog 326 W9x:=TyOk.of Tryz.underlying326 (show TK.ok _ (.int .u32) _ from rfl) (.int .u32 0) (by kernel_rfl) rfl rfl rfl rfl (by decide) (fun h=>by cases h)
def W9w:TyI:=⟨.int .u64,1,8,[(.int .u64 0)],false⟩
theorem V5g:TyOk Tryz.prog 328 W9w:=TyOk.of Tryz.underlying328 (show TK.ok _ (.int .u64) _ from rfl) (.int .u64 0) (by kernel_rfl) rfl rfl rfl rfl (by decide) (fun h=>by cases h)
def W9v:TyI:=⟨.array 4 3,4,32,[(.int .i64 0),(.int .i64 0),(.int .i64 0),(.int .i64 0)],false⟩
theorem V5f:TyOk Tryz.prog 332 W9v:=TyOk.of Tryz.underlying332 (show TK.ok _ (.array 4 3) _ from rfl) (.agg #[(.int .i64 0),(.int .i64 0),(.int .i64 0),(.int .i64 0)]) (by kernel_rfl) rfl rfl rfl rfl (by decide) (fun h=>by cases h)
def W9u:TyI:=⟨.array 4 332,16,128,[(.int .i64 0),(.int .i64 0),(.int .i64 0),(.int .i64 0),(.int .i64 0),(.int .i64 0),(.int .i64 0),(.int .i64 0),(.int .i64 0),(.int .i64 0),(.int .i64 0),(.int .i64 0),(.int .i64 0),(.int .i64 0),(.int .i64 0),(.int .i64 0)],false⟩
theorem V5e:TyOk Tryz.prog 333 W9u:=TyOk.of Tryz.underlying333 (show TK.ok _ (.array 4 332) _ from rfl) (.agg #[(.int .i64 0),(.int .i64 0),(.int .i64 0),(.int .i64 0),(.int .i64 0),(.int .i64 0),(.int .i64 0),(.int .i64 0),(.int .i64 0),(.int .i64 0),(.int .i64 0),(.int .i64 0),(.int .i64 0),(.int .i64 0),(.int .i64 0),(.int .i64 0)]) (by kernel_rfl) rfl rfl rfl rfl (by decide) (fun h=>by cases h)
def W9t:TyI:=⟨.array 4 332,16,128,[(.int .i64 0),(.int .i64 0),(.int .i64 0),(.int .i64 0),(.int .i64 0),(.int .i64 0),(.int .i64 0),(.int .i64 0),(.int .i64 0),(.int .i64 0),(.int .i64 0),(.int .i64 0),(.int .i64 0),(.int .i64 0),(.int .i64 0),(.int .i64 0)],false⟩
theorem V5d:TyOk Tryz.prog 334 W9t:=TyOk.of Tryz.underlying334 (show TK.ok _ (.array 4 332) _ from rfl) (.agg #[(.int .i64 0),(.int .i64 0),(.int .i64 0),(.int .i64 0),(.int .i64 0),(.int .i64 0),(.int .i64 0),(.int .i64 0),(.int .i64 0),(.int .i64 0),(.int .i64 0),(.int .i64 0),(.int .i64 0),(.int .i64 0),(.int .i64 0),(.int .i64 0)]) (by kernel_rfl) rfl rfl rfl rfl (by decide) (fun h=>by cases h)
def W9s:TyI:=⟨.array 11 4,11,11,[(.bool false),(.bool false),(.bool false),(.bool false),(.bool false),(.bool false),(.bool false),(.bool false),(.bool false),(.bool false),(.bool false)],false⟩
theorem V5c:TyOk Tryz.prog 339 W9s:=TyOk.of Tryz.underlying339 (show TK.ok _ (.array 11 4) _ from rfl) (.agg #[(.bool false),(.bool false),(.bool false),(.bool false),(.bool false),(.bool false),(.bool false),(.bool false),(.bool false),(.bool false),(.bool false)]) (by kernel_rfl) rfl rfl rfl rfl (by decide) (fun h=>by cases h)
def W9r:TyI:=⟨.slice 200,1,24,[(.slice none 0 0)],false⟩
theorem V5b:TyOk Tryz.prog 340 W9r:=TyOk.of Tryz.underlying340 (show TK.ok _ (.slice 200) _ from rfl) (.slice none 0 0) (by kernel_rfl) rfl rfl rfl rfl (by decide) (fun h=>by cases h)
def W9q:TyI:=⟨.int .u64,1,8,[(.int .u64 0)],false⟩
theorem V5a:TyOk Tryz.prog 368 W9q:=TyOk.of Tryz.underlying368 (show TK.ok _ (.int .u64) _ from rfl) (.int .u64 0) (by kernel_rfl) rfl rfl rfl rfl (by decide) (fun h=>by cases h)
def W9p:TyI:=⟨.pointer 368,1,8,[(.pointer none)],false⟩
theorem V59:TyOk Tryz.prog 410 W9p:=TyOk.of Tryz.underlying410 (show TK.ok _ (.pointer 368) _ from rfl) (.pointer none) (by kernel_rfl) rfl rfl rfl rfl (by decide) (fun h=>by cases h)
def W9o:TyI:=⟨.struct [(0,17,1),(1,17,1),(2,17,1),(3,9,1)],4,40,[(.pointer none),(.pointer none),(.pointer none),(.string .empty)],false⟩
theorem V58:TyOk Tryz.prog 431 W9o:=TyOk.of Tryz.underlying431 (show TK.ok _ (.struct [(0,17,1),(1,17,1),(2,17,1),(3,9,1)]) _ from ⟨_,rfl,rfl,fun x hx=>by simp only [U7,List.not_mem_nil,or_false] at hx;rcases hx with rfl | rfl | rfl | rfl<;>exact ⟨by kernel_rfl,by decide⟩⟩) (.agg #[(.pointer none),(.pointer none),(.pointer none),(.string .empty)]) (by kernel_rfl) rfl rfl rfl rfl (by decide) (fun h=>by cases h)
def W9n:TyI:=⟨.struct [(0,17,1),(1,17,1),(2,17,1),(3,9,1)],4,40,[(.pointer none),(.pointer none),(.pointer none),(.string .empty)],false⟩
theorem V57:TyOk Tryz.prog 432 W9n:=TyOk.of Tryz.underlying432 (show TK.ok _ (.struct [(0,17,1),(1,17,1),(2,17,1),(3,9,1)]) _ from ⟨_,rfl,rfl,fun x hx=>by simp only [U7,List.not_mem_nil,or_false] at hx;rcases hx with rfl | rfl | rfl | rfl<;>exact ⟨by kernel_rfl,by decide⟩⟩) (.agg #[(.pointer none),(.pointer none),(.pointer none),(.string .empty)]) (by kernel_rfl) rfl rfl rfl rfl (by decide) (fun h=>by cases h)
def W9m:TyI:=⟨.array 0 16,0,0,[],false⟩
theorem V56:TyOk Tryz.prog 433 W9m:=TyOk.of Tryz.underlying433 (show TK.ok _ (.array 0 16) _ from rfl) (.agg #[]) (by kernel_rfl) rfl rfl rfl rfl (by decide) (fun h=>by cases h)
def W9l:TyI:=⟨.int .u8,1,1,[(.int .u8 0)],false⟩
theorem V55:TyOk Tryz.prog 437 W9l:=TyOk.of Tryz.underlying437 (show TK.ok _ (.int .u8) _ from rfl) (.int .u8 0) (by kernel_rfl) rfl rfl rfl rfl (by decide) (fun h=>by cases h)
def W9k:TyI:=⟨.int .u8,1,1,[(.int .u8 0)],false⟩
theorem V54:TyOk Tryz.prog 438 W9k:=TyOk.of Tryz.underlying438 (show TK.ok _ (.int .u8) _ from rfl) (.int .u8 0) (by kernel_rfl) rfl rfl rfl rfl (by decide) (fun h=>by cases h)
def W9j:TyI:=⟨.pointer 5,1,8,[(.pointer none)],false⟩
theorem V53:TyOk Tryz.prog 440 W9j:=TyOk.of Tryz.underlying440 (show TK.ok _ (.pointer 5) _ from rfl) (.pointer none) (by kernel_rfl) rfl rfl rfl rfl (by decide) (fun h=>by cases h)
def W9i:TyI:=⟨.int .i32,1,4,[(.int .i32 0)],false⟩
theorem V52:TyOk Tryz.prog 441 W9i:=TyOk.of Tryz.underlying441 (show TK.ok _ (.int .i32) _ from rfl) (.int .i32 0) (by kernel_rfl) rfl rfl rfl rfl (by decide) (fun h=>by cases h)
def W9h:TyI:=⟨.int .i32,1,4,[(.int .i32 0)],false⟩
theorem V51:TyOk Tryz.prog 442 W9h:=TyOk.of Tryz.underlying442 (show TK.ok _ (.int .i32) _ from rfl) (.int .i32 0) (by kernel_rfl) rfl rfl rfl rfl (by decide) (fun h=>by cases h)
def W9g:TyI:=⟨.struct [(0,12,1),(1,12,1),(2,326,1),(3,437,1),(4,5,1),(5,5,1),(6,438,1),(7,439,1),(8,440,1),(9,441,1),(10,442,1)],11,48,[(.int .u64 0),(.int .u64 0),(.int .u32 0),(.int .u8 0),(.int .u8 0),(.int .u8 0),(.int .u8 0),.nilFunc,(.pointer none),(.int .i32 0),(.int .i32 0)],false⟩
theorem V50:TyOk Tryz.prog 443 W9g:=TyOk.of Tryz.underlying443 (show TK.ok _ (.struct [(0,12,1),(1,12,1),(2,326,1),(3,437,1),(4,5,1),(5,5,1),(6,438,1),(7,439,1),(8,440,1),(9,441,1),(10,442,1)]) _ from ⟨_,rfl,rfl,fun x hx=>by simp only [U7,List.not_mem_nil,or_false] at hx;rcases hx with rfl | rfl | rfl | rfl | rfl | rfl | rfl | rfl | rfl | rfl | rfl<;>exact ⟨by kernel_rfl,by decide⟩⟩) (.agg #[(.int .u64 0),(.int .u64 0),(.int .u32 0),(.int .u8 0),(.int .u8 0),(.int .u8 0),(.int .u8 0),.nilFunc,(.pointer none),(.int .i32 0),(.int .i32 0)]) (by kernel_rfl) rfl rfl rfl rfl (by decide) (fun h=>by cases h)
def W9f:TyI:=⟨.struct [(0,12,1),(1,12,1),(2,326,1),(3,437,1),(4,5,1),(5,5,1),(6,438,1),(7,439,1),(8,440,1),(9,441,1),(10,442,1)],11,48,[(.int .u64 0),(.int .u64 0),(.int .u32 0),(.int .u8 0),(.int .u8 0),(.int .u8 0),(.int .u8 0),.nilFunc,(.pointer none),(.int .i32 0),(.int .i32 0)],false⟩
theorem V4z:TyOk Tryz.prog 444 W9f:=TyOk.of Tryz.underlying444 (show TK.ok _ (.struct [(0,12,1),(1,12,1),(2,326,1),(3,437,1),(4,5,1),(5,5,1),(6,438,1),(7,439,1),(8,440,1),(9,441,1),(10,442,1)]) _ from ⟨_,rfl,rfl,fun x hx=>by simp only [U7,List.not_mem_nil,or_false] at hx;rcases hx with rfl | rfl | rfl | rfl | rfl | rfl | rfl | rfl | rfl | rfl | rfl<;>exact ⟨by kernel_rfl,by decide⟩⟩) (.agg #[(.int .u64 0),(.int .u64 0),(.int .u32 0),(.int .u8 0),(.int .u8 0),(.int .u8 0),(.int .u8 0),.nilFunc,(.pointer none),(.int .i32 0),(.int .i32 0)]) (by kernel_rfl) rfl rfl rfl rfl (by decide) (fun h=>by cases h)
def Tys:Ty:=fun t=>match t with
 | 2=>some ti2
 | 3=>some ti3
 | 4=>some ti4
 | 5=>some ti5
 | 6=>some ti6
 | 7=>some ti7
 | 8=>some ti8
 | 9=>some ti9
 | 10=>some ti10
 | 11=>some ti11
 | 12=>some ti12
 | 13=>some ti13
 | 14=>some ti14
 | 15=>some ti15
 | 16=>some ti16
 | 17=>some ti17
 | 18=>some ti18
 | 19=>some ti19
 | 21=>some ti21
 | 22=>some ti22
 | 23=>some ti23
 | 24=>some ti24
 | 25=>some ti25
 | 26=>some ti26
 | 27=>some ti27
 | 34=>some ti34
 | 35=>some ti35
 | 36=>some ti36
 | 39=>some ti39
 | 44=>some ti44
 | 49=>some ti49
 | 50=>some ti50
 | 51=>some ti51
 | 52=>some ti52
 | 53=>some ti53
 | 54=>some ti54
 | 55=>some ti55
 | 66=>some ti66
 | 67=>some ti67
 | 68=>some ti68
 | 69=>some ti69
 | 70=>some ti70
 | 71=>some ti71
 | 72=>some ti72
 | 76=>some ti76
 | 80=>some ti80
 | 83=>some ti83
 | 86=>some ti86
 | 87=>some ti87
 | 88=>some ti88
 | 99=>some ti99
 | 100=>some V1d
 | 101=>some V1c
 | 102=>some V1b
 | 108=>some V1a
 | 109=>some V19
 | 110=>some V18
 | 111=>some V17
 | 112=>some V16
 | 120=>some V15
 | 123=>some V14
 | 139=>some V13
 | 140=>some V12
 | 141=>some V11
 | 152=>some V10
 | 155=>some V0z
 | 156=>some V0y
 | 163=>some V0x
 | 167=>some V0w
 | 168=>some V0v
 | 170=>some V0u
 | 171=>some V0t
 | 175=>some V0s
 | 188=>some V0r
 | 189=>some V0q
 | 190=>some V0p
 | 192=>some V0o
 | 193=>some V0n
 | 195=>some V0m
 | 196=>some V0l
 | 198=>some V0k
 | 199=>some V0j
 | 200=>some V0i
 | 205=>some V0h
 | 206=>some V0g
 | 208=>some V0f
 | 209=>some V0e
 | 214=>some V0d
 | 215=>some V0c
 | 216=>some V0b
 | 220=>some V0a
 | 234=>some V09
 | 235=>some V08
 | 236=>some V07
 | 237=>some V06
 | 238=>some V05
 | 239=>some V04
 | 243=>some V03
 | 268=>some V02
 | 276=>some V01
 | 278=>some V00
 | 279=>some W9z
 | 318=>some W9y
 | 326=>some W9x
 | 328=>some W9w
 | 332=>some W9v
 | 333=>some W9u
 | 334=>some W9t
 | 339=>some W9s
 | 340=>some W9r
 | 368=>some W9q
 | 410=>some W9p
 | 431=>some W9o
 | 432=>some W9n
 | 433=>some W9m
 | 437=>some W9l
 | 438=>some W9k
 | 440=>some W9j
 | 441=>some W9i
 | 442=>some W9h
 | 443=>some W9g
 | 444=>some W9f
 | _=>none
@[simp] theorem tys2:Tys 2=some ⟨.int .i64,1,8,[(.int .i64 0)],false⟩:=rfl
@[simp] theorem tys3:Tys 3=some ⟨.int .i64,1,8,[(.int .i64 0)],false⟩:=rfl
@[simp] theorem tys4:Tys 4=some ⟨.bool,1,1,[(.bool false)],false⟩:=rfl
@[simp] theorem tys5:Tys 5=some ⟨.int .u8,1,1,[(.int .u8 0)],false⟩:=rfl
@[simp] theorem tys6:Tys 6=some ⟨.int .u8,1,1,[(.int .u8 0)],false⟩:=rfl
@[simp] theorem tys7:Tys 7=some ⟨.struct [(0,2,1),(1,3,1),(2,4,1),(3,6,1)],4,24,[(.int .i64 0),(.int .i64 0),(.bool false),(.int .u8 0)],false⟩:=rfl
@[simp] theorem tys8:Tys 8=some ⟨.struct [(0,2,1),(1,3,1),(2,4,1),(3,6,1)],4,24,[(.int .i64 0),(.int .i64 0),(.bool false),(.int .u8 0)],false⟩:=rfl
@[simp] theorem tys9:Tys 9=some ⟨.string,1,16,[(.string .empty)],false⟩:=rfl
@[simp] theorem tys10:Tys 10=some ⟨.string,1,16,[(.string .empty)],false⟩:=rfl
@[simp] theorem tys11:Tys 11=some ⟨.string,1,16,[(.string .empty)],false⟩:=rfl
@[simp] theorem tys12:Tys 12=some ⟨.int .u64,1,8,[(.int .u64 0)],false⟩:=rfl
@[simp] theorem tys13:Tys 13=some ⟨.struct [(0,9,1),(1,12,1)],2,24,[(.string .empty),(.int .u64 0)],false⟩:=rfl
@[simp] theorem tys14:Tys 14=some ⟨.struct [(0,9,1),(1,12,1)],2,24,[(.string .empty),(.int .u64 0)],false⟩:=rfl
@[simp] theorem tys15:Tys 15=some ⟨.pointer 432,1,8,[(.pointer none)],false⟩:=rfl
@[simp] theorem tys16:Tys 16=some ⟨.pointer 435,1,8,[(.pointer none)],false⟩:=rfl
@[simp] theorem tys17:Tys 17=some ⟨.pointer 444,1,8,[(.pointer none)],false⟩:=rfl
@[simp] theorem tys18:Tys 18=some ⟨.struct [(0,17,1)],1,8,[(.pointer none)],false⟩:=rfl
@[simp] theorem tys19:Tys 19=some ⟨.struct [(0,17,1)],1,8,[(.pointer none)],false⟩:=rfl
@[simp] theorem tys21:Tys 21=some ⟨.int .i32,1,4,[(.int .i32 0)],false⟩:=rfl
@[simp] theorem tys22:Tys 22=some ⟨.slice 5,1,24,[(.slice none 0 0)],false⟩:=rfl
@[simp] theorem tys23:Tys 23=some ⟨.slice 237,1,24,[(.slice none 0 0)],false⟩:=rfl
@[simp] theorem tys24:Tys 24=some ⟨.slice 53,1,24,[(.slice none 0 0)],false⟩:=rfl
@[simp] theorem tys25:Tys 25=some ⟨.slice 27,1,24,[(.slice none 0 0)],false⟩:=rfl
@[simp] theorem tys26:Tys 26=some ⟨.struct [(0,3,1),(1,3,1),(2,25,1)],3,40,[(.int .i64 0),(.int .i64 0),(.slice none 0 0)],false⟩:=rfl
@[simp] theorem tys27:Tys 27=some ⟨.struct [(0,3,1),(1,3,1),(2,25,1)],3,40,[(.int .i64 0),(.int .i64 0),(.slice none 0 0)],false⟩:=rfl
@[simp] theorem tys34:Tys 34=some ⟨.struct [(0,3,1),(1,3,1)],2,16,[(.int .i64 0),(.int .i64 0)],false⟩:=rfl
@[simp] theorem tys35:Tys 35=some ⟨.struct [(0,3,1),(1,3,1)],2,16,[(.int .i64 0),(.int .i64 0)],true⟩:=rfl
@[simp] theorem tys36:Tys 36=some ⟨.slice 72,1,24,[(.slice none 0 0)],false⟩:=rfl
@[simp] theorem tys39:Tys 39=some ⟨.slice 44,1,24,[(.slice none 0 0)],false⟩:=rfl
@[simp] theorem tys44:Tys 44=some ⟨.slice 3,1,24,[(.slice none 0 0)],false⟩:=rfl
@[simp] theorem tys49:Tys 49=some ⟨.struct [(0,35,2),(2,35,2)],4,32,[(.int .i64 0),(.int .i64 0),(.int .i64 0),(.int .i64 0)],false⟩:=rfl
@[simp] theorem tys50:Tys 50=some ⟨.struct [(0,35,2),(2,35,2)],4,32,[(.int .i64 0),(.int .i64 0),(.int .i64 0),(.int .i64 0)],true⟩:=rfl
@[simp] theorem tys51:Tys 51=some ⟨.slice 55,1,24,[(.slice none 0 0)],false⟩:=rfl
@[simp] theorem tys52:Tys 52=some ⟨.struct [(0,50,4),(4,36,1),(5,51,1)],6,80,[(.int .i64 0),(.int .i64 0),(.int .i64 0),(.int .i64 0),(.slice none 0 0),(.slice none 0 0)],false⟩:=rfl
@[simp] theorem tys53:Tys 53=some ⟨.struct [(0,50,4),(4,36,1),(5,51,1)],6,80,[(.int .i64 0),(.int .i64 0),(.int .i64 0),(.int .i64 0),(.slice none 0 0),(.slice none 0 0)],false⟩:=rfl
@[simp] theorem tys54:Tys 54=some ⟨.struct [(0,3,1),(1,3,1),(2,3,1),(3,51,1)],4,48,[(.int .i64 0),(.int .i64 0),(.int .i64 0),(.slice none 0 0)],false⟩:=rfl
@[simp] theorem tys55:Tys 55=some ⟨.struct [(0,3,1),(1,3,1),(2,3,1),(3,51,1)],4,48,[(.int .i64 0),(.int .i64 0),(.int .i64 0),(.slice none 0 0)],false⟩:=rfl
@[simp] theorem tys66:Tys 66=some ⟨.slice 68,1,24,[(.slice none 0 0)],false⟩:=rfl
@[simp] theorem tys67:Tys 67=some ⟨.struct [(0,3,1),(1,3,1),(2,3,1),(3,3,1),(4,3,1),(5,66,1)],6,64,[(.int .i64 0),(.int .i64 0),(.int .i64 0),(.int .i64 0),(.int .i64 0),(.slice none 0 0)],false⟩:=rfl
@[simp] theorem tys68:Tys 68=some ⟨.struct [(0,3,1),(1,3,1),(2,3,1),(3,3,1),(4,3,1),(5,66,1)],6,64,[(.int .i64 0),(.int .i64 0),(.int .i64 0),(.int .i64 0),(.int .i64 0),(.slice none 0 0)],false⟩:=rfl
@[simp] theorem tys69:Tys 69=some ⟨.struct [(0,3,1),(1,3,1),(2,3,1)],3,24,[(.int .i64 0),(.int .i64 0),(.int .i64 0)],false⟩:=rfl
@[simp] theorem tys70:Tys 70=some ⟨.struct [(0,3,1),(1,3,1),(2,3,1)],3,24,[(.int .i64 0),(.int .i64 0),(.int .i64 0)],true⟩:=rfl
@[simp] theorem tys71:Tys 71=some ⟨.struct [(0,68,6),(6,70,3)],9,88,[(.int .i64 0),(.int .i64 0),(.int .i64 0),(.int .i64 0),(.int .i64 0),(.slice none 0 0),(.int .i64 0),(.int .i64 0),(.int .i64 0)],false⟩:=rfl
@[simp] theorem tys72:Tys 72=some ⟨.struct [(0,68,6),(6,70,3)],9,88,[(.int .i64 0),(.int .i64 0),(.int .i64 0),(.int .i64 0),(.int .i64 0),(.slice none 0 0),(.int .i64 0),(.int .i64 0),(.int .i64 0)],false⟩:=rfl
@[simp] theorem tys76:Tys 76=some ⟨.pointer 110,1,8,[(.pointer none)],false⟩:=rfl
@[simp] theorem tys80:Tys 80=some ⟨.slice 88,1,24,[(.slice none 0 0)],false⟩:=rfl
@[simp] theorem tys83:Tys 83=some ⟨.slice 209,1,24,[(.slice none 0 0)],false⟩:=rfl
@[simp] theorem tys86:Tys 86=some ⟨.slice 171,1,24,[(.slice none 0 0)],false⟩:=rfl
@[simp] theorem tys87:Tys 87=some ⟨.struct [(0,3,1),(1,44,1),(2,3,1),(3,3,1),(4,3,1),(5,3,1),(6,86,1),(7,3,1)],8,96,[(.int .i64 0),(.slice none 0 0),(.int .i64 0),(.int .i64 0),(.int .i64 0),(.int .i64 0),(.slice none 0 0),(.int .i64 0)],false⟩:=rfl
@[simp] theorem tys88:Tys 88=some ⟨.struct [(0,3,1),(1,44,1),(2,3,1),(3,3,1),(4,3,1),(5,3,1),(6,86,1),(7,3,1)],8,96,[(.int .i64 0),(.slice none 0 0),(.int .i64 0),(.int .i64 0),(.int .i64 0),(.int .i64 0),(.slice none 0 0),(.int .i64 0)],false⟩:=rfl
@[simp] theorem tys99:Tys 99=some ⟨.slice 206,1,24,[(.slice none 0 0)],false⟩:=rfl
@[simp] theorem tys100:Tys 100=some ⟨.slice 102,1,24,[(.slice none 0 0)],false⟩:=rfl
@[simp] theorem tys101:Tys 101=some ⟨.struct [(0,3,1),(1,3,1),(2,86,1),(3,44,1),(4,99,1),(5,100,1)],6,112,[(.int .i64 0),(.int .i64 0),(.slice none 0 0),(.slice none 0 0),(.slice none 0 0),(.slice none 0 0)],false⟩:=rfl
@[simp] theorem tys102:Tys 102=some ⟨.struct [(0,3,1),(1,3,1),(2,86,1),(3,44,1),(4,99,1),(5,100,1)],6,112,[(.int .i64 0),(.int .i64 0),(.slice none 0 0),(.slice none 0 0),(.slice none 0 0),(.slice none 0 0)],false⟩:=rfl
@[simp] theorem tys108:Tys 108=some ⟨.func,1,8,[.nilFunc],false⟩:=rfl
@[simp] theorem tys109:Tys 109=some ⟨.struct [(0,23,1),(1,24,1),(2,3,1),(3,3,1),(4,3,1),(5,3,1),(6,108,1)],7,88,[(.slice none 0 0),(.slice none 0 0),(.int .i64 0),(.int .i64 0),(.int .i64 0),(.int .i64 0),.nilFunc],false⟩:=rfl
@[simp] theorem tys110:Tys 110=some ⟨.struct [(0,23,1),(1,24,1),(2,3,1),(3,3,1),(4,3,1),(5,3,1),(6,108,1)],7,88,[(.slice none 0 0),(.slice none 0 0),(.int .i64 0),(.int .i64 0),(.int .i64 0),(.int .i64 0),.nilFunc],false⟩:=rfl
@[simp] theorem tys111:Tys 111=some ⟨.struct [(0,23,1),(1,24,1),(2,100,1),(3,3,1),(4,3,1),(5,3,1),(6,3,1)],7,104,[(.slice none 0 0),(.slice none 0 0),(.slice none 0 0),(.int .i64 0),(.int .i64 0),(.int .i64 0),(.int .i64 0)],false⟩:=rfl
@[simp] theorem tys112:Tys 112=some ⟨.struct [(0,23,1),(1,24,1),(2,100,1),(3,3,1),(4,3,1),(5,3,1),(6,3,1)],7,104,[(.slice none 0 0),(.slice none 0 0),(.slice none 0 0),(.int .i64 0),(.int .i64 0),(.int .i64 0),(.int .i64 0)],false⟩:=rfl
@[simp] theorem tys120:Tys 120=some ⟨.slice 50,1,24,[(.slice none 0 0)],false⟩:=rfl
@[simp] theorem tys123:Tys 123=some ⟨.pointer 215,1,8,[(.pointer none)],false⟩:=rfl
@[simp] theorem tys139:Tys 139=some ⟨.slice 156,1,24,[(.slice none 0 0)],false⟩:=rfl
@[simp] theorem tys140:Tys 140=some ⟨.struct [(0,23,1),(1,120,1),(2,139,1)],3,72,[(.slice none 0 0),(.slice none 0 0),(.slice none 0 0)],false⟩:=rfl
@[simp] theorem tys141:Tys 141=some ⟨.struct [(0,23,1),(1,120,1),(2,139,1)],3,72,[(.slice none 0 0),(.slice none 0 0),(.slice none 0 0)],false⟩:=rfl
@[simp] theorem tys152:Tys 152=some ⟨.slice 35,1,24,[(.slice none 0 0)],false⟩:=rfl
@[simp] theorem tys155:Tys 155=some ⟨.struct [(0,3,1),(1,35,2)],3,24,[(.int .i64 0),(.int .i64 0),(.int .i64 0)],false⟩:=rfl
@[simp] theorem tys156:Tys 156=some ⟨.struct [(0,3,1),(1,35,2)],3,24,[(.int .i64 0),(.int .i64 0),(.int .i64 0)],true⟩:=rfl
@[simp] theorem tys163:Tys 163=some ⟨.slice 66,1,24,[(.slice none 0 0)],false⟩:=rfl
@[simp] theorem tys167:Tys 167=some ⟨.pointer 80,1,8,[(.pointer none)],false⟩:=rfl
@[simp] theorem tys168:Tys 168=some ⟨.pointer 86,1,8,[(.pointer none)],false⟩:=rfl
@[simp] theorem tys170:Tys 170=some ⟨.struct [(0,3,1),(1,44,1)],2,32,[(.int .i64 0),(.slice none 0 0)],false⟩:=rfl
@[simp] theorem tys171:Tys 171=some ⟨.struct [(0,3,1),(1,44,1)],2,32,[(.int .i64 0),(.slice none 0 0)],false⟩:=rfl
@[simp] theorem tys175:Tys 175=some ⟨.pointer 3,1,8,[(.pointer none)],false⟩:=rfl
@[simp] theorem tys188:Tys 188=some ⟨.slice 190,1,24,[(.slice none 0 0)],false⟩:=rfl
@[simp] theorem tys189:Tys 189=some ⟨.struct [(0,3,1),(1,66,1),(2,86,1)],3,56,[(.int .i64 0),(.slice none 0 0),(.slice none 0 0)],false⟩:=rfl
@[simp] theorem tys190:Tys 190=some ⟨.struct [(0,3,1),(1,66,1),(2,86,1)],3,56,[(.int .i64 0),(.slice none 0 0),(.slice none 0 0)],false⟩:=rfl
@[simp] theorem tys192:Tys 192=some ⟨.pointer 196,1,8,[(.pointer none)],false⟩:=rfl
@[simp] theorem tys193:Tys 193=some ⟨.pointer 279,1,8,[(.pointer none)],false⟩:=rfl
@[simp] theorem tys195:Tys 195=some ⟨.struct [(0,193,1),(1,36,1),(2,3,1),(3,3,1)],4,48,[(.pointer none),(.slice none 0 0),(.int .i64 0),(.int .i64 0)],false⟩:=rfl
@[simp] theorem tys196:Tys 196=some ⟨.struct [(0,193,1),(1,36,1),(2,3,1),(3,3,1)],4,48,[(.pointer none),(.slice none 0 0),(.int .i64 0),(.int .i64 0)],false⟩:=rfl
@[simp] theorem tys198:Tys 198=some ⟨.struct [(0,44,1),(1,35,2)],3,40,[(.slice none 0 0),(.int .i64 0),(.int .i64 0)],false⟩:=rfl
@[simp] theorem tys199:Tys 199=some ⟨.struct [(0,44,1),(1,35,2)],3,40,[(.slice none 0 0),(.int .i64 0),(.int .i64 0)],false⟩:=rfl
@[simp] theorem tys200:Tys 200=some ⟨.slice 199,1,24,[(.slice none 0 0)],false⟩:=rfl
@[simp] theorem tys205:Tys 205=some ⟨.struct [(0,3,1),(1,3,1),(2,3,1),(3,102,6)],9,136,[(.int .i64 0),(.int .i64 0),(.int .i64 0),(.int .i64 0),(.int .i64 0),(.slice none 0 0),(.slice none 0 0),(.slice none 0 0),(.slice none 0 0)],false⟩:=rfl
@[simp] theorem tys206:Tys 206=some ⟨.struct [(0,3,1),(1,3,1),(2,3,1),(3,102,6)],9,136,[(.int .i64 0),(.int .i64 0),(.int .i64 0),(.int .i64 0),(.int .i64 0),(.slice none 0 0),(.slice none 0 0),(.slice none 0 0),(.slice none 0 0)],false⟩:=rfl
@[simp] theorem tys208:Tys 208=some ⟨.struct [(0,3,1),(1,27,3)],4,48,[(.int .i64 0),(.int .i64 0),(.int .i64 0),(.slice none 0 0)],false⟩:=rfl
@[simp] theorem tys209:Tys 209=some ⟨.struct [(0,3,1),(1,27,3)],4,48,[(.int .i64 0),(.int .i64 0),(.int .i64 0),(.slice none 0 0)],false⟩:=rfl
@[simp] theorem tys214:Tys 214=some ⟨.struct [(0,22,1),(1,3,1)],2,32,[(.slice none 0 0),(.int .i64 0)],false⟩:=rfl
@[simp] theorem tys215:Tys 215=some ⟨.struct [(0,22,1),(1,3,1)],2,32,[(.slice none 0 0),(.int .i64 0)],false⟩:=rfl
@[simp] theorem tys216:Tys 216=some ⟨.slice 220,1,24,[(.slice none 0 0)],false⟩:=rfl
@[simp] theorem tys220:Tys 220=some ⟨.slice 9,1,24,[(.slice none 0 0)],false⟩:=rfl
@[simp] theorem tys234:Tys 234=some ⟨.map 9 4,1,8,[(.map none)],false⟩:=rfl
@[simp] theorem tys235:Tys 235=some ⟨.slice 239,1,24,[(.slice none 0 0)],false⟩:=rfl
@[simp] theorem tys236:Tys 236=some ⟨.struct [(0,9,1),(1,235,1)],2,40,[(.string .empty),(.slice none 0 0)],false⟩:=rfl
@[simp] theorem tys237:Tys 237=some ⟨.struct [(0,9,1),(1,235,1)],2,40,[(.string .empty),(.slice none 0 0)],false⟩:=rfl
@[simp] theorem tys238:Tys 238=some ⟨.struct [(0,9,1),(1,152,1),(2,3,1)],3,48,[(.string .empty),(.slice none 0 0),(.int .i64 0)],false⟩:=rfl
@[simp] theorem tys239:Tys 239=some ⟨.struct [(0,9,1),(1,152,1),(2,3,1)],3,48,[(.string .empty),(.slice none 0 0),(.int .i64 0)],false⟩:=rfl
@[simp] theorem tys243:Tys 243=some ⟨.array 6 4,6,6,[(.bool false),(.bool false),(.bool false),(.bool false),(.bool false),(.bool false)],false⟩:=rfl
@[simp] theorem tys268:Tys 268=some ⟨.int .u64,1,8,[(.int .u64 0)],false⟩:=rfl
@[simp] theorem tys276:Tys 276=some ⟨.pointer 334,1,8,[(.pointer none)],false⟩:=rfl
@[simp] theorem tys278:Tys 278=some ⟨.struct [(0,23,1),(1,276,1)],2,32,[(.slice none 0 0),(.pointer none)],false⟩:=rfl
@[simp] theorem tys279:Tys 279=some ⟨.struct [(0,23,1),(1,276,1)],2,32,[(.slice none 0 0),(.pointer none)],false⟩:=rfl
@[simp] theorem tys318:Tys 318=some ⟨.int .i64,1,8,[(.int .i64 0)],false⟩:=rfl
@[simp] theorem tys326:Tys 326=some ⟨.int .u32,1,4,[(.int .u32 0)],false⟩:=rfl
@[simp] theorem tys328:Tys 328=some ⟨.int .u64,1,8,[(.int .u64 0)],false⟩:=rfl
@[simp] theorem tys332:Tys 332=some ⟨.array 4 3,4,32,[(.int .i64 0),(.int .i64 0),(.int .i64 0),(.int .i64 0)],false⟩:=rfl
@[simp] theorem tys333:Tys 333=some ⟨.array 4 332,16,128,[(.int .i64 0),(.int .i64 0),(.int .i64 0),(.int .i64 0),(.int .i64 0),(.int .i64 0),(.int .i64 0),(.int .i64 0),(.int .i64 0),(.int .i64 0),(.int .i64 0),(.int .i64 0),(.int .i64 0),(.int .i64 0),(.int .i64 0),(.int .i64 0)],false⟩:=rfl
@[simp] theorem tys334:Tys 334=some ⟨.array 4 332,16,128,[(.int .i64 0),(.int .i64 0),(.int .i64 0),(.int .i64 0),(.int .i64 0),(.int .i64 0),(.int .i64 0),(.int .i64 0),(.int .i64 0),(.int .i64 0),(.int .i64 0),(.int .i64 0),(.int .i64 0),(.int .i64 0),(.int .i64 0),(.int .i64 0)],false⟩:=rfl
@[simp] theorem tys339:Tys 339=some ⟨.array 11 4,11,11,[(.bool false),(.bool false),(.bool false),(.bool false),(.bool false),(.bool false),(.bool false),(.bool false),(.bool false),(.bool false),(.bool false)],false⟩:=rfl
@[simp] theorem tys340:Tys 340=some ⟨.slice 200,1,24,[(.slice none 0 0)],false⟩:=rfl
@[simp] theorem tys368:Tys 368=some ⟨.int .u64,1,8,[(.int .u64 0)],false⟩:=rfl
@[simp] theorem tys410:Tys 410=some ⟨.pointer 368,1,8,[(.pointer none)],false⟩:=rfl
@[simp] theorem tys431:Tys 431=some ⟨.struct [(0,17,1),(1,17,1),(2,17,1),(3,9,1)],4,40,[(.pointer none),(.pointer none),(.pointer none),(.string .empty)],false⟩:=rfl
@[simp] theorem tys432:Tys 432=some ⟨.struct [(0,17,1),(1,17,1),(2,17,1),(3,9,1)],4,40,[(.pointer none),(.pointer none),(.pointer none),(.string .empty)],false⟩:=rfl
@[simp] theorem tys433:Tys 433=some ⟨.array 0 16,0,0,[],false⟩:=rfl
@[simp] theorem tys437:Tys 437=some ⟨.int .u8,1,1,[(.int .u8 0)],false⟩:=rfl
@[simp] theorem tys438:Tys 438=some ⟨.int .u8,1,1,[(.int .u8 0)],false⟩:=rfl
@[simp] theorem tys440:Tys 440=some ⟨.pointer 5,1,8,[(.pointer none)],false⟩:=rfl
@[simp] theorem tys441:Tys 441=some ⟨.int .i32,1,4,[(.int .i32 0)],false⟩:=rfl
@[simp] theorem tys442:Tys 442=some ⟨.int .i32,1,4,[(.int .i32 0)],false⟩:=rfl
@[simp] theorem tys443:Tys 443=some ⟨.struct [(0,12,1),(1,12,1),(2,326,1),(3,437,1),(4,5,1),(5,5,1),(6,438,1),(7,439,1),(8,440,1),(9,441,1),(10,442,1)],11,48,[(.int .u64 0),(.int .u64 0),(.int .u32 0),(.int .u8 0),(.int .u8 0),(.int .u8 0),(.int .u8 0),.nilFunc,(.pointer none),(.int .i32 0),(.int .i32 0)],false⟩:=rfl
@[simp] theorem tys444:Tys 444=some ⟨.struct [(0,12,1),(1,12,1),(2,326,1),(3,437,1),(4,5,1),(5,5,1),(6,438,1),(7,439,1),(8,440,1),(9,441,1),(10,442,1)],11,48,[(.int .u64 0),(.int .u64 0),(.int .u32 0),(.int .u8 0),(.int .u8 0),(.int .u8 0),(.int .u8 0),.nilFunc,(.pointer none),(.int .i32 0),(.int .i32 0)],false⟩:=rfl
theorem Z24:Q7j Tryz.prog Tys:=fun t i h=>by
 unfold Tys at h
 split at h
 ·cases h;exact ty2
 ·cases h;exact ty3
 ·cases h;exact ty4
 ·cases h;exact ty5
 ·cases h;exact ty6
 ·cases h;exact ty7
 ·cases h;exact ty8
 ·cases h;exact ty9
 ·cases h;exact ty10
 ·cases h;exact ty11
 ·cases h;exact ty12
 ·cases h;exact ty13
 ·cases h;exact ty14
 ·cases h;exact ty15
 ·cases h;exact ty16
 ·cases h;exact ty17
 ·cases h;exact ty18
 ·cases h;exact ty19
 ·cases h;exact ty21
 ·cases h;exact ty22
 ·cases h;exact ty23
 ·cases h;exact ty24
 ·cases h;exact ty25
 ·cases h;exact ty26
 ·cases h;exact ty27
 ·cases h;exact ty34
 ·cases h;exact ty35
 ·cases h;exact ty36
 ·cases h;exact ty39
 ·cases h;exact ty44
 ·cases h;exact ty49
 ·cases h;exact ty50
 ·cases h;exact ty51
 ·cases h;exact ty52
 ·cases h;exact ty53
 ·cases h;exact ty54
 ·cases h;exact ty55
 ·cases h;exact ty66
 ·cases h;exact ty67
 ·cases h;exact ty68
 ·cases h;exact ty69
 ·cases h;exact ty70
 ·cases h;exact ty71
 ·cases h;exact ty72
 ·cases h;exact ty76
 ·cases h;exact ty80
 ·cases h;exact ty83
 ·cases h;exact ty86
 ·cases h;exact ty87
 ·cases h;exact ty88
 ·cases h;exact ty99
 ·cases h;exact V6x
 ·cases h;exact V6w
 ·cases h;exact V6v
 ·cases h;exact V6u
 ·cases h;exact V6t
 ·cases h;exact V6s
 ·cases h;exact V6r
 ·cases h;exact V6q
 ·cases h;exact V6p
 ·cases h;exact V6o
 ·cases h;exact V6n
 ·cases h;exact V6m
 ·cases h;exact V6l
 ·cases h;exact V6k
 ·cases h;exact V6j
 ·cases h;exact V6i
 ·cases h;exact V6h
 ·cases h;exact V6g
 ·cases h;exact V6f
 ·cases h;exact V6e
 ·cases h;exact V6d
 ·cases h;exact V6c
 ·cases h;exact V6b
 ·cases h;exact V6a
 ·cases h;exact V69
 ·cases h;exact V68
 ·cases h;exact V67
 ·cases h;exact V66
 ·cases h;exact V65
 ·cases h;exact V64
 ·cases h;exact V63
 ·cases h;exact V62
 ·cases h;exact V61
 ·cases h;exact V60
 ·cases h;exact V5z
 ·cases h;exact V5y
 ·cases h;exact V5x
 ·cases h;exact V5w
 ·cases h;exact V5v
 ·cases h;exact V5u
 ·cases h;exact V5t
 ·cases h;exact V5s
 ·cases h;exact V5r
 ·cases h;exact V5q
 ·cases h;exact V5p
 ·cases h;exact V5o
 ·cases h;exact V5n
 ·cases h;exact V5m
 ·cases h;exact V5l
 ·cases h;exact V5k
 ·cases h;exact V5j
 ·cases h;exact V5i
 ·cases h;exact V5h
 ·cases h;exact V5g
 ·cases h;exact V5f
 ·cases h;exact V5e
 ·cases h;exact V5d
 ·cases h;exact V5c
 ·cases h;exact V5b
 ·cases h;exact V5a
 ·cases h;exact V59
 ·cases h;exact V58
 ·cases h;exact V57
 ·cases h;exact V56
 ·cases h;exact V55
 ·cases h;exact V54
 ·cases h;exact V53
 ·cases h;exact V52
 ·cases h;exact V51
 ·cases h;exact V50
 ·cases h;exact V4z
 ·cases h
theorem X5p:Tryz.prog.follows .mixedOrders=true:=rfl
end Go.Proofs.YtenmmbjgnlflnaaGreat
