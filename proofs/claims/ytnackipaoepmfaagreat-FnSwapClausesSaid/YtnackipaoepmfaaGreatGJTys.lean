import Derived.KernelRfl
import Derived.Test.YtnackipaoepmfaaGreatProg
import Derived.Test.YtnackipaoepmfaaGreatGJE1
set_option linter.unusedSimpArgs false
set_option linter.unusedVariables false
namespace Go.Proofs.YtnackipaoepmfaaGreat
open Go Go.RowKit
def ti2 : TyI := ⟨.int .i64, 1, 8, [(.int .i64 0)], false⟩
theorem ty2 : TyOk Tryz.prog 2 ti2 := TyOk.of Tryz.underlying2 (show TK.ok _ (.int .i64) _ from rfl) (.int .i64 0) (by kernel_rfl) rfl rfl rfl rfl (by decide) (fun h => by cases h)
def ti3 : TyI := ⟨.int .i64, 1, 8, [(.int .i64 0)], false⟩
theorem ty3 : TyOk Tryz.prog 3 ti3 := TyOk.of Tryz.underlying3 (show TK.ok _ (.int .i64) _ from rfl) (.int .i64 0) (by kernel_rfl) rfl rfl rfl rfl (by decide) (fun h => by cases h)
def ti4 : TyI := ⟨.bool, 1, 1, [(.bool false)], false⟩
theorem ty4 : TyOk Tryz.prog 4 ti4 := TyOk.of Tryz.underlying4 (show TK.ok _ (.bool) _ from rfl) (.bool false) (by kernel_rfl) rfl rfl rfl rfl (by decide) (fun h => by cases h)
def ti5 : TyI := ⟨.int .u8, 1, 1, [(.int .u8 0)], false⟩
theorem ty5 : TyOk Tryz.prog 5 ti5 := TyOk.of Tryz.underlying5 (show TK.ok _ (.int .u8) _ from rfl) (.int .u8 0) (by kernel_rfl) rfl rfl rfl rfl (by decide) (fun h => by cases h)
def ti6 : TyI := ⟨.int .u8, 1, 1, [(.int .u8 0)], false⟩
theorem ty6 : TyOk Tryz.prog 6 ti6 := TyOk.of Tryz.underlying6 (show TK.ok _ (.int .u8) _ from rfl) (.int .u8 0) (by kernel_rfl) rfl rfl rfl rfl (by decide) (fun h => by cases h)
def ti7 : TyI := ⟨.struct [(0, 2, 1), (1, 3, 1), (2, 4, 1), (3, 6, 1)], 4, 24, [(.int .i64 0), (.int .i64 0), (.bool false), (.int .u8 0)], false⟩
theorem ty7 : TyOk Tryz.prog 7 ti7 := TyOk.of Tryz.underlying7 (show TK.ok _ (.struct [(0, 2, 1), (1, 3, 1), (2, 4, 1), (3, 6, 1)]) _ from ⟨_, rfl, rfl, fun x hx => by simp only [List.mem_cons, List.not_mem_nil, or_false] at hx; rcases hx with rfl | rfl | rfl | rfl <;> exact ⟨by kernel_rfl, by decide⟩⟩) (.agg #[(.int .i64 0), (.int .i64 0), (.bool false), (.int .u8 0)]) (by kernel_rfl) rfl rfl rfl rfl (by decide) (fun h => by cases h)
def ti8 : TyI := ⟨.struct [(0, 2, 1), (1, 3, 1), (2, 4, 1), (3, 6, 1)], 4, 24, [(.int .i64 0), (.int .i64 0), (.bool false), (.int .u8 0)], false⟩
theorem ty8 : TyOk Tryz.prog 8 ti8 := TyOk.of Tryz.underlying8 (show TK.ok _ (.struct [(0, 2, 1), (1, 3, 1), (2, 4, 1), (3, 6, 1)]) _ from ⟨_, rfl, rfl, fun x hx => by simp only [List.mem_cons, List.not_mem_nil, or_false] at hx; rcases hx with rfl | rfl | rfl | rfl <;> exact ⟨by kernel_rfl, by decide⟩⟩) (.agg #[(.int .i64 0), (.int .i64 0), (.bool false), (.int .u8 0)]) (by kernel_rfl) rfl rfl rfl rfl (by decide) (fun h => by cases h)
def ti9 : TyI := ⟨.string, 1, 16, [(.string .empty)], false⟩
theorem ty9 : TyOk Tryz.prog 9 ti9 := TyOk.of Tryz.underlying9 (show TK.ok _ (.string) _ from rfl) (.string .empty) (by kernel_rfl) rfl rfl rfl rfl (by decide) (fun h => by cases h)
def ti10 : TyI := ⟨.string, 1, 16, [(.string .empty)], false⟩
theorem ty10 : TyOk Tryz.prog 10 ti10 := TyOk.of Tryz.underlying10 (show TK.ok _ (.string) _ from rfl) (.string .empty) (by kernel_rfl) rfl rfl rfl rfl (by decide) (fun h => by cases h)
def ti11 : TyI := ⟨.string, 1, 16, [(.string .empty)], false⟩
theorem ty11 : TyOk Tryz.prog 11 ti11 := TyOk.of Tryz.underlying11 (show TK.ok _ (.string) _ from rfl) (.string .empty) (by kernel_rfl) rfl rfl rfl rfl (by decide) (fun h => by cases h)
def ti12 : TyI := ⟨.int .u64, 1, 8, [(.int .u64 0)], false⟩
theorem ty12 : TyOk Tryz.prog 12 ti12 := TyOk.of Tryz.underlying12 (show TK.ok _ (.int .u64) _ from rfl) (.int .u64 0) (by kernel_rfl) rfl rfl rfl rfl (by decide) (fun h => by cases h)
def ti13 : TyI := ⟨.struct [(0, 9, 1), (1, 12, 1)], 2, 24, [(.string .empty), (.int .u64 0)], false⟩
theorem ty13 : TyOk Tryz.prog 13 ti13 := TyOk.of Tryz.underlying13 (show TK.ok _ (.struct [(0, 9, 1), (1, 12, 1)]) _ from ⟨_, rfl, rfl, fun x hx => by simp only [List.mem_cons, List.not_mem_nil, or_false] at hx; rcases hx with rfl | rfl <;> exact ⟨by kernel_rfl, by decide⟩⟩) (.agg #[(.string .empty), (.int .u64 0)]) (by kernel_rfl) rfl rfl rfl rfl (by decide) (fun h => by cases h)
def ti14 : TyI := ⟨.struct [(0, 9, 1), (1, 12, 1)], 2, 24, [(.string .empty), (.int .u64 0)], false⟩
theorem ty14 : TyOk Tryz.prog 14 ti14 := TyOk.of Tryz.underlying14 (show TK.ok _ (.struct [(0, 9, 1), (1, 12, 1)]) _ from ⟨_, rfl, rfl, fun x hx => by simp only [List.mem_cons, List.not_mem_nil, or_false] at hx; rcases hx with rfl | rfl <;> exact ⟨by kernel_rfl, by decide⟩⟩) (.agg #[(.string .empty), (.int .u64 0)]) (by kernel_rfl) rfl rfl rfl rfl (by decide) (fun h => by cases h)
def ti15 : TyI := ⟨.pointer 428, 1, 8, [(.pointer none)], false⟩
theorem ty15 : TyOk Tryz.prog 15 ti15 := TyOk.of Tryz.underlying15 (show TK.ok _ (.pointer 428) _ from rfl) (.pointer none) (by kernel_rfl) rfl rfl rfl rfl (by decide) (fun h => by cases h)
def ti16 : TyI := ⟨.pointer 431, 1, 8, [(.pointer none)], false⟩
theorem ty16 : TyOk Tryz.prog 16 ti16 := TyOk.of Tryz.underlying16 (show TK.ok _ (.pointer 431) _ from rfl) (.pointer none) (by kernel_rfl) rfl rfl rfl rfl (by decide) (fun h => by cases h)
def ti17 : TyI := ⟨.pointer 440, 1, 8, [(.pointer none)], false⟩
theorem ty17 : TyOk Tryz.prog 17 ti17 := TyOk.of Tryz.underlying17 (show TK.ok _ (.pointer 440) _ from rfl) (.pointer none) (by kernel_rfl) rfl rfl rfl rfl (by decide) (fun h => by cases h)
def ti18 : TyI := ⟨.struct [(0, 17, 1)], 1, 8, [(.pointer none)], false⟩
theorem ty18 : TyOk Tryz.prog 18 ti18 := TyOk.of Tryz.underlying18 (show TK.ok _ (.struct [(0, 17, 1)]) _ from ⟨_, rfl, rfl, fun x hx => by simp only [List.mem_cons, List.not_mem_nil, or_false] at hx; rcases hx with rfl <;> exact ⟨by kernel_rfl, by decide⟩⟩) (.agg #[(.pointer none)]) (by kernel_rfl) rfl rfl rfl rfl (by decide) (fun h => by cases h)
def ti19 : TyI := ⟨.struct [(0, 17, 1)], 1, 8, [(.pointer none)], false⟩
theorem ty19 : TyOk Tryz.prog 19 ti19 := TyOk.of Tryz.underlying19 (show TK.ok _ (.struct [(0, 17, 1)]) _ from ⟨_, rfl, rfl, fun x hx => by simp only [List.mem_cons, List.not_mem_nil, or_false] at hx; rcases hx with rfl <;> exact ⟨by kernel_rfl, by decide⟩⟩) (.agg #[(.pointer none)]) (by kernel_rfl) rfl rfl rfl rfl (by decide) (fun h => by cases h)
def ti21 : TyI := ⟨.int .i32, 1, 4, [(.int .i32 0)], false⟩
theorem ty21 : TyOk Tryz.prog 21 ti21 := TyOk.of Tryz.underlying21 (show TK.ok _ (.int .i32) _ from rfl) (.int .i32 0) (by kernel_rfl) rfl rfl rfl rfl (by decide) (fun h => by cases h)
def ti22 : TyI := ⟨.slice 5, 1, 24, [(.slice none 0 0)], false⟩
theorem ty22 : TyOk Tryz.prog 22 ti22 := TyOk.of Tryz.underlying22 (show TK.ok _ (.slice 5) _ from rfl) (.slice none 0 0) (by kernel_rfl) rfl rfl rfl rfl (by decide) (fun h => by cases h)
def ti23 : TyI := ⟨.slice 158, 1, 24, [(.slice none 0 0)], false⟩
theorem ty23 : TyOk Tryz.prog 23 ti23 := TyOk.of Tryz.underlying23 (show TK.ok _ (.slice 158) _ from rfl) (.slice none 0 0) (by kernel_rfl) rfl rfl rfl rfl (by decide) (fun h => by cases h)
def ti24 : TyI := ⟨.struct [(0, 3, 1), (1, 3, 1)], 2, 16, [(.int .i64 0), (.int .i64 0)], false⟩
theorem ty24 : TyOk Tryz.prog 24 ti24 := TyOk.of Tryz.underlying24 (show TK.ok _ (.struct [(0, 3, 1), (1, 3, 1)]) _ from ⟨_, rfl, rfl, fun x hx => by simp only [List.mem_cons, List.not_mem_nil, or_false] at hx; rcases hx with rfl | rfl <;> exact ⟨by kernel_rfl, by decide⟩⟩) (.agg #[(.int .i64 0), (.int .i64 0)]) (by kernel_rfl) rfl rfl rfl rfl (by decide) (fun h => by cases h)
def ti25 : TyI := ⟨.struct [(0, 3, 1), (1, 3, 1)], 2, 16, [(.int .i64 0), (.int .i64 0)], true⟩
theorem ty25 : TyOk Tryz.prog 25 ti25 := TyOk.of Tryz.underlying25 (show TK.ok _ (.struct [(0, 3, 1), (1, 3, 1)]) _ from ⟨_, rfl, rfl, fun x hx => by simp only [List.mem_cons, List.not_mem_nil, or_false] at hx; rcases hx with rfl | rfl <;> exact ⟨by kernel_rfl, by decide⟩⟩) (.agg #[(.int .i64 0), (.int .i64 0)]) (by kernel_rfl) rfl rfl rfl rfl (by decide) (fun _ fs h => by cases h; exact ⟨by kernel_rfl, by kernel_rfl, by kernel_rfl, by kernel_rfl⟩)
def ti26 : TyI := ⟨.slice 55, 1, 24, [(.slice none 0 0)], false⟩
theorem ty26 : TyOk Tryz.prog 26 ti26 := TyOk.of Tryz.underlying26 (show TK.ok _ (.slice 55) _ from rfl) (.slice none 0 0) (by kernel_rfl) rfl rfl rfl rfl (by decide) (fun h => by cases h)
def ti27 : TyI := ⟨.slice 47, 1, 24, [(.slice none 0 0)], false⟩
theorem ty27 : TyOk Tryz.prog 27 ti27 := TyOk.of Tryz.underlying27 (show TK.ok _ (.slice 47) _ from rfl) (.slice none 0 0) (by kernel_rfl) rfl rfl rfl rfl (by decide) (fun h => by cases h)
def ti30 : TyI := ⟨.slice 3, 1, 24, [(.slice none 0 0)], false⟩
theorem ty30 : TyOk Tryz.prog 30 ti30 := TyOk.of Tryz.underlying30 (show TK.ok _ (.slice 3) _ from rfl) (.slice none 0 0) (by kernel_rfl) rfl rfl rfl rfl (by decide) (fun h => by cases h)
def ti43 : TyI := ⟨.slice 126, 1, 24, [(.slice none 0 0)], false⟩
theorem ty43 : TyOk Tryz.prog 43 ti43 := TyOk.of Tryz.underlying43 (show TK.ok _ (.slice 126) _ from rfl) (.slice none 0 0) (by kernel_rfl) rfl rfl rfl rfl (by decide) (fun h => by cases h)
def ti46 : TyI := ⟨.struct [(0, 3, 1), (1, 3, 1), (2, 27, 1)], 3, 40, [(.int .i64 0), (.int .i64 0), (.slice none 0 0)], false⟩
theorem ty46 : TyOk Tryz.prog 46 ti46 := TyOk.of Tryz.underlying46 (show TK.ok _ (.struct [(0, 3, 1), (1, 3, 1), (2, 27, 1)]) _ from ⟨_, rfl, rfl, fun x hx => by simp only [List.mem_cons, List.not_mem_nil, or_false] at hx; rcases hx with rfl | rfl | rfl <;> exact ⟨by kernel_rfl, by decide⟩⟩) (.agg #[(.int .i64 0), (.int .i64 0), (.slice none 0 0)]) (by kernel_rfl) rfl rfl rfl rfl (by decide) (fun h => by cases h)
def ti47 : TyI := ⟨.struct [(0, 3, 1), (1, 3, 1), (2, 27, 1)], 3, 40, [(.int .i64 0), (.int .i64 0), (.slice none 0 0)], false⟩
theorem ty47 : TyOk Tryz.prog 47 ti47 := TyOk.of Tryz.underlying47 (show TK.ok _ (.struct [(0, 3, 1), (1, 3, 1), (2, 27, 1)]) _ from ⟨_, rfl, rfl, fun x hx => by simp only [List.mem_cons, List.not_mem_nil, or_false] at hx; rcases hx with rfl | rfl | rfl <;> exact ⟨by kernel_rfl, by decide⟩⟩) (.agg #[(.int .i64 0), (.int .i64 0), (.slice none 0 0)]) (by kernel_rfl) rfl rfl rfl rfl (by decide) (fun h => by cases h)
def ti49 : TyI := ⟨.slice 51, 1, 24, [(.slice none 0 0)], false⟩
theorem ty49 : TyOk Tryz.prog 49 ti49 := TyOk.of Tryz.underlying49 (show TK.ok _ (.slice 51) _ from rfl) (.slice none 0 0) (by kernel_rfl) rfl rfl rfl rfl (by decide) (fun h => by cases h)
def ti50 : TyI := ⟨.struct [(0, 3, 1), (1, 3, 1), (2, 3, 1), (3, 3, 1), (4, 3, 1), (5, 49, 1)], 6, 64, [(.int .i64 0), (.int .i64 0), (.int .i64 0), (.int .i64 0), (.int .i64 0), (.slice none 0 0)], false⟩
theorem ty50 : TyOk Tryz.prog 50 ti50 := TyOk.of Tryz.underlying50 (show TK.ok _ (.struct [(0, 3, 1), (1, 3, 1), (2, 3, 1), (3, 3, 1), (4, 3, 1), (5, 49, 1)]) _ from ⟨_, rfl, rfl, fun x hx => by simp only [List.mem_cons, List.not_mem_nil, or_false] at hx; rcases hx with rfl | rfl | rfl | rfl | rfl | rfl <;> exact ⟨by kernel_rfl, by decide⟩⟩) (.agg #[(.int .i64 0), (.int .i64 0), (.int .i64 0), (.int .i64 0), (.int .i64 0), (.slice none 0 0)]) (by kernel_rfl) rfl rfl rfl rfl (by decide) (fun h => by cases h)
def ti51 : TyI := ⟨.struct [(0, 3, 1), (1, 3, 1), (2, 3, 1), (3, 3, 1), (4, 3, 1), (5, 49, 1)], 6, 64, [(.int .i64 0), (.int .i64 0), (.int .i64 0), (.int .i64 0), (.int .i64 0), (.slice none 0 0)], false⟩
theorem ty51 : TyOk Tryz.prog 51 ti51 := TyOk.of Tryz.underlying51 (show TK.ok _ (.struct [(0, 3, 1), (1, 3, 1), (2, 3, 1), (3, 3, 1), (4, 3, 1), (5, 49, 1)]) _ from ⟨_, rfl, rfl, fun x hx => by simp only [List.mem_cons, List.not_mem_nil, or_false] at hx; rcases hx with rfl | rfl | rfl | rfl | rfl | rfl <;> exact ⟨by kernel_rfl, by decide⟩⟩) (.agg #[(.int .i64 0), (.int .i64 0), (.int .i64 0), (.int .i64 0), (.int .i64 0), (.slice none 0 0)]) (by kernel_rfl) rfl rfl rfl rfl (by decide) (fun h => by cases h)
def ti52 : TyI := ⟨.struct [(0, 3, 1), (1, 3, 1), (2, 3, 1)], 3, 24, [(.int .i64 0), (.int .i64 0), (.int .i64 0)], false⟩
theorem ty52 : TyOk Tryz.prog 52 ti52 := TyOk.of Tryz.underlying52 (show TK.ok _ (.struct [(0, 3, 1), (1, 3, 1), (2, 3, 1)]) _ from ⟨_, rfl, rfl, fun x hx => by simp only [List.mem_cons, List.not_mem_nil, or_false] at hx; rcases hx with rfl | rfl | rfl <;> exact ⟨by kernel_rfl, by decide⟩⟩) (.agg #[(.int .i64 0), (.int .i64 0), (.int .i64 0)]) (by kernel_rfl) rfl rfl rfl rfl (by decide) (fun h => by cases h)
def ti53 : TyI := ⟨.struct [(0, 3, 1), (1, 3, 1), (2, 3, 1)], 3, 24, [(.int .i64 0), (.int .i64 0), (.int .i64 0)], true⟩
theorem ty53 : TyOk Tryz.prog 53 ti53 := TyOk.of Tryz.underlying53 (show TK.ok _ (.struct [(0, 3, 1), (1, 3, 1), (2, 3, 1)]) _ from ⟨_, rfl, rfl, fun x hx => by simp only [List.mem_cons, List.not_mem_nil, or_false] at hx; rcases hx with rfl | rfl | rfl <;> exact ⟨by kernel_rfl, by decide⟩⟩) (.agg #[(.int .i64 0), (.int .i64 0), (.int .i64 0)]) (by kernel_rfl) rfl rfl rfl rfl (by decide) (fun _ fs h => by cases h; exact ⟨by kernel_rfl, by kernel_rfl, by kernel_rfl, by kernel_rfl⟩)
def ti54 : TyI := ⟨.struct [(0, 51, 6), (6, 53, 3)], 9, 88, [(.int .i64 0), (.int .i64 0), (.int .i64 0), (.int .i64 0), (.int .i64 0), (.slice none 0 0), (.int .i64 0), (.int .i64 0), (.int .i64 0)], false⟩
theorem ty54 : TyOk Tryz.prog 54 ti54 := TyOk.of Tryz.underlying54 (show TK.ok _ (.struct [(0, 51, 6), (6, 53, 3)]) _ from ⟨_, rfl, rfl, fun x hx => by simp only [List.mem_cons, List.not_mem_nil, or_false] at hx; rcases hx with rfl | rfl <;> exact ⟨by kernel_rfl, by decide⟩⟩) (.agg #[(.int .i64 0), (.int .i64 0), (.int .i64 0), (.int .i64 0), (.int .i64 0), (.slice none 0 0), (.int .i64 0), (.int .i64 0), (.int .i64 0)]) (by kernel_rfl) rfl rfl rfl rfl (by decide) (fun h => by cases h)
def ti55 : TyI := ⟨.struct [(0, 51, 6), (6, 53, 3)], 9, 88, [(.int .i64 0), (.int .i64 0), (.int .i64 0), (.int .i64 0), (.int .i64 0), (.slice none 0 0), (.int .i64 0), (.int .i64 0), (.int .i64 0)], false⟩
theorem ty55 : TyOk Tryz.prog 55 ti55 := TyOk.of Tryz.underlying55 (show TK.ok _ (.struct [(0, 51, 6), (6, 53, 3)]) _ from ⟨_, rfl, rfl, fun x hx => by simp only [List.mem_cons, List.not_mem_nil, or_false] at hx; rcases hx with rfl | rfl <;> exact ⟨by kernel_rfl, by decide⟩⟩) (.agg #[(.int .i64 0), (.int .i64 0), (.int .i64 0), (.int .i64 0), (.int .i64 0), (.slice none 0 0), (.int .i64 0), (.int .i64 0), (.int .i64 0)]) (by kernel_rfl) rfl rfl rfl rfl (by decide) (fun h => by cases h)
def ti77 : TyI := ⟨.slice 148, 1, 24, [(.slice none 0 0)], false⟩
theorem ty77 : TyOk Tryz.prog 77 ti77 := TyOk.of Tryz.underlying77 (show TK.ok _ (.slice 148) _ from rfl) (.slice none 0 0) (by kernel_rfl) rfl rfl rfl rfl (by decide) (fun h => by cases h)
def ti78 : TyI := ⟨.struct [(0, 3, 1), (1, 3, 1)], 2, 16, [(.int .i64 0), (.int .i64 0)], true⟩
theorem ty78 : TyOk Tryz.prog 78 ti78 := TyOk.of Tryz.underlying78 (show TK.ok _ (.struct [(0, 3, 1), (1, 3, 1)]) _ from ⟨_, rfl, rfl, fun x hx => by simp only [List.mem_cons, List.not_mem_nil, or_false] at hx; rcases hx with rfl | rfl <;> exact ⟨by kernel_rfl, by decide⟩⟩) (.agg #[(.int .i64 0), (.int .i64 0)]) (by kernel_rfl) rfl rfl rfl rfl (by decide) (fun _ fs h => by cases h; exact ⟨by kernel_rfl, by kernel_rfl, by kernel_rfl, by kernel_rfl⟩)
def ti79 : TyI := ⟨.slice 155, 1, 24, [(.slice none 0 0)], false⟩
theorem ty79 : TyOk Tryz.prog 79 ti79 := TyOk.of Tryz.underlying79 (show TK.ok _ (.slice 155) _ from rfl) (.slice none 0 0) (by kernel_rfl) rfl rfl rfl rfl (by decide) (fun h => by cases h)
def ti82 : TyI := ⟨.slice 266, 1, 24, [(.slice none 0 0)], false⟩
theorem ty82 : TyOk Tryz.prog 82 ti82 := TyOk.of Tryz.underlying82 (show TK.ok _ (.slice 266) _ from rfl) (.slice none 0 0) (by kernel_rfl) rfl rfl rfl rfl (by decide) (fun h => by cases h)
def ti83 : TyI := ⟨.slice 234, 1, 24, [(.slice none 0 0)], false⟩
theorem ty83 : TyOk Tryz.prog 83 ti83 := TyOk.of Tryz.underlying83 (show TK.ok _ (.slice 234) _ from rfl) (.slice none 0 0) (by kernel_rfl) rfl rfl rfl rfl (by decide) (fun h => by cases h)
def ti84 : TyI := ⟨.slice 86, 1, 24, [(.slice none 0 0)], false⟩
theorem ty84 : TyOk Tryz.prog 84 ti84 := TyOk.of Tryz.underlying84 (show TK.ok _ (.slice 86) _ from rfl) (.slice none 0 0) (by kernel_rfl) rfl rfl rfl rfl (by decide) (fun h => by cases h)
def ti85 : TyI := ⟨.struct [(0, 3, 1), (1, 3, 1), (2, 82, 1), (3, 30, 1), (4, 83, 1), (5, 84, 1)], 6, 112, [(.int .i64 0), (.int .i64 0), (.slice none 0 0), (.slice none 0 0), (.slice none 0 0), (.slice none 0 0)], false⟩
theorem ty85 : TyOk Tryz.prog 85 ti85 := TyOk.of Tryz.underlying85 (show TK.ok _ (.struct [(0, 3, 1), (1, 3, 1), (2, 82, 1), (3, 30, 1), (4, 83, 1), (5, 84, 1)]) _ from ⟨_, rfl, rfl, fun x hx => by simp only [List.mem_cons, List.not_mem_nil, or_false] at hx; rcases hx with rfl | rfl | rfl | rfl | rfl | rfl <;> exact ⟨by kernel_rfl, by decide⟩⟩) (.agg #[(.int .i64 0), (.int .i64 0), (.slice none 0 0), (.slice none 0 0), (.slice none 0 0), (.slice none 0 0)]) (by kernel_rfl) rfl rfl rfl rfl (by decide) (fun h => by cases h)
def ti86 : TyI := ⟨.struct [(0, 3, 1), (1, 3, 1), (2, 82, 1), (3, 30, 1), (4, 83, 1), (5, 84, 1)], 6, 112, [(.int .i64 0), (.int .i64 0), (.slice none 0 0), (.slice none 0 0), (.slice none 0 0), (.slice none 0 0)], false⟩
theorem ty86 : TyOk Tryz.prog 86 ti86 := TyOk.of Tryz.underlying86 (show TK.ok _ (.struct [(0, 3, 1), (1, 3, 1), (2, 82, 1), (3, 30, 1), (4, 83, 1), (5, 84, 1)]) _ from ⟨_, rfl, rfl, fun x hx => by simp only [List.mem_cons, List.not_mem_nil, or_false] at hx; rcases hx with rfl | rfl | rfl | rfl | rfl | rfl <;> exact ⟨by kernel_rfl, by decide⟩⟩) (.agg #[(.int .i64 0), (.int .i64 0), (.slice none 0 0), (.slice none 0 0), (.slice none 0 0), (.slice none 0 0)]) (by kernel_rfl) rfl rfl rfl rfl (by decide) (fun h => by cases h)
def V3w : TyI := ⟨.pointer 196, 1, 8, [(.pointer none)], false⟩
theorem V97 : TyOk Tryz.prog 101 V3w := TyOk.of Tryz.underlying101 (show TK.ok _ (.pointer 196) _ from rfl) (.pointer none) (by kernel_rfl) rfl rfl rfl rfl (by decide) (fun h => by cases h)
def V3v : TyI := ⟨.array 8 4, 8, 8, [(.bool false), (.bool false), (.bool false), (.bool false), (.bool false), (.bool false), (.bool false), (.bool false)], false⟩
theorem V96 : TyOk Tryz.prog 110 V3v := TyOk.of Tryz.underlying110 (show TK.ok _ (.array 8 4) _ from rfl) (.agg #[(.bool false), (.bool false), (.bool false), (.bool false), (.bool false), (.bool false), (.bool false), (.bool false)]) (by kernel_rfl) rfl rfl rfl rfl (by decide) (fun h => by cases h)
def V3u : TyI := ⟨.slice 4, 1, 24, [(.slice none 0 0)], false⟩
theorem V95 : TyOk Tryz.prog 114 V3u := TyOk.of Tryz.underlying114 (show TK.ok _ (.slice 4) _ from rfl) (.slice none 0 0) (by kernel_rfl) rfl rfl rfl rfl (by decide) (fun h => by cases h)
def V3t : TyI := ⟨.struct [(0, 3, 1), (1, 47, 3)], 4, 48, [(.int .i64 0), (.int .i64 0), (.int .i64 0), (.slice none 0 0)], false⟩
theorem V94 : TyOk Tryz.prog 125 V3t := TyOk.of Tryz.underlying125 (show TK.ok _ (.struct [(0, 3, 1), (1, 47, 3)]) _ from ⟨_, rfl, rfl, fun x hx => by simp only [List.mem_cons, List.not_mem_nil, or_false] at hx; rcases hx with rfl | rfl <;> exact ⟨by kernel_rfl, by decide⟩⟩) (.agg #[(.int .i64 0), (.int .i64 0), (.int .i64 0), (.slice none 0 0)]) (by kernel_rfl) rfl rfl rfl rfl (by decide) (fun h => by cases h)
def V3s : TyI := ⟨.struct [(0, 3, 1), (1, 47, 3)], 4, 48, [(.int .i64 0), (.int .i64 0), (.int .i64 0), (.slice none 0 0)], false⟩
theorem V93 : TyOk Tryz.prog 126 V3s := TyOk.of Tryz.underlying126 (show TK.ok _ (.struct [(0, 3, 1), (1, 47, 3)]) _ from ⟨_, rfl, rfl, fun x hx => by simp only [List.mem_cons, List.not_mem_nil, or_false] at hx; rcases hx with rfl | rfl <;> exact ⟨by kernel_rfl, by decide⟩⟩) (.agg #[(.int .i64 0), (.int .i64 0), (.int .i64 0), (.slice none 0 0)]) (by kernel_rfl) rfl rfl rfl rfl (by decide) (fun h => by cases h)
def V3r : TyI := ⟨.pointer 244, 1, 8, [(.pointer none)], false⟩
theorem V92 : TyOk Tryz.prog 138 V3r := TyOk.of Tryz.underlying138 (show TK.ok _ (.pointer 244) _ from rfl) (.pointer none) (by kernel_rfl) rfl rfl rfl rfl (by decide) (fun h => by cases h)
def V3q : TyI := ⟨.slice 323, 1, 24, [(.slice none 0 0)], false⟩
theorem V91 : TyOk Tryz.prog 146 V3q := TyOk.of Tryz.underlying146 (show TK.ok _ (.slice 323) _ from rfl) (.slice none 0 0) (by kernel_rfl) rfl rfl rfl rfl (by decide) (fun h => by cases h)
def V3p : TyI := ⟨.struct [(0, 9, 1), (1, 146, 1)], 2, 40, [(.string .empty), (.slice none 0 0)], false⟩
theorem V90 : TyOk Tryz.prog 147 V3p := TyOk.of Tryz.underlying147 (show TK.ok _ (.struct [(0, 9, 1), (1, 146, 1)]) _ from ⟨_, rfl, rfl, fun x hx => by simp only [List.mem_cons, List.not_mem_nil, or_false] at hx; rcases hx with rfl | rfl <;> exact ⟨by kernel_rfl, by decide⟩⟩) (.agg #[(.string .empty), (.slice none 0 0)]) (by kernel_rfl) rfl rfl rfl rfl (by decide) (fun h => by cases h)
def V3o : TyI := ⟨.struct [(0, 9, 1), (1, 146, 1)], 2, 40, [(.string .empty), (.slice none 0 0)], false⟩
theorem V8z : TyOk Tryz.prog 148 V3o := TyOk.of Tryz.underlying148 (show TK.ok _ (.struct [(0, 9, 1), (1, 146, 1)]) _ from ⟨_, rfl, rfl, fun x hx => by simp only [List.mem_cons, List.not_mem_nil, or_false] at hx; rcases hx with rfl | rfl <;> exact ⟨by kernel_rfl, by decide⟩⟩) (.agg #[(.string .empty), (.slice none 0 0)]) (by kernel_rfl) rfl rfl rfl rfl (by decide) (fun h => by cases h)
def V3n : TyI := ⟨.slice 152, 1, 24, [(.slice none 0 0)], false⟩
theorem V8y : TyOk Tryz.prog 150 V3n := TyOk.of Tryz.underlying150 (show TK.ok _ (.slice 152) _ from rfl) (.slice none 0 0) (by kernel_rfl) rfl rfl rfl rfl (by decide) (fun h => by cases h)
def V3m : TyI := ⟨.struct [(0, 3, 1), (1, 3, 1), (2, 3, 1), (3, 3, 1), (4, 3, 1), (5, 150, 1)], 6, 64, [(.int .i64 0), (.int .i64 0), (.int .i64 0), (.int .i64 0), (.int .i64 0), (.slice none 0 0)], false⟩
theorem V8x : TyOk Tryz.prog 151 V3m := TyOk.of Tryz.underlying151 (show TK.ok _ (.struct [(0, 3, 1), (1, 3, 1), (2, 3, 1), (3, 3, 1), (4, 3, 1), (5, 150, 1)]) _ from ⟨_, rfl, rfl, fun x hx => by simp only [List.mem_cons, List.not_mem_nil, or_false] at hx; rcases hx with rfl | rfl | rfl | rfl | rfl | rfl <;> exact ⟨by kernel_rfl, by decide⟩⟩) (.agg #[(.int .i64 0), (.int .i64 0), (.int .i64 0), (.int .i64 0), (.int .i64 0), (.slice none 0 0)]) (by kernel_rfl) rfl rfl rfl rfl (by decide) (fun h => by cases h)
def V3l : TyI := ⟨.struct [(0, 3, 1), (1, 3, 1), (2, 3, 1), (3, 3, 1), (4, 3, 1), (5, 150, 1)], 6, 64, [(.int .i64 0), (.int .i64 0), (.int .i64 0), (.int .i64 0), (.int .i64 0), (.slice none 0 0)], false⟩
theorem V8w : TyOk Tryz.prog 152 V3l := TyOk.of Tryz.underlying152 (show TK.ok _ (.struct [(0, 3, 1), (1, 3, 1), (2, 3, 1), (3, 3, 1), (4, 3, 1), (5, 150, 1)]) _ from ⟨_, rfl, rfl, fun x hx => by simp only [List.mem_cons, List.not_mem_nil, or_false] at hx; rcases hx with rfl | rfl | rfl | rfl | rfl | rfl <;> exact ⟨by kernel_rfl, by decide⟩⟩) (.agg #[(.int .i64 0), (.int .i64 0), (.int .i64 0), (.int .i64 0), (.int .i64 0), (.slice none 0 0)]) (by kernel_rfl) rfl rfl rfl rfl (by decide) (fun h => by cases h)
def V3k : TyI := ⟨.struct [(0, 3, 1), (1, 3, 1), (2, 3, 1)], 3, 24, [(.int .i64 0), (.int .i64 0), (.int .i64 0)], true⟩
theorem V8v : TyOk Tryz.prog 153 V3k := TyOk.of Tryz.underlying153 (show TK.ok _ (.struct [(0, 3, 1), (1, 3, 1), (2, 3, 1)]) _ from ⟨_, rfl, rfl, fun x hx => by simp only [List.mem_cons, List.not_mem_nil, or_false] at hx; rcases hx with rfl | rfl | rfl <;> exact ⟨by kernel_rfl, by decide⟩⟩) (.agg #[(.int .i64 0), (.int .i64 0), (.int .i64 0)]) (by kernel_rfl) rfl rfl rfl rfl (by decide) (fun _ fs h => by cases h; exact ⟨by kernel_rfl, by kernel_rfl, by kernel_rfl, by kernel_rfl⟩)
def V3j : TyI := ⟨.struct [(0, 152, 6), (6, 153, 3)], 9, 88, [(.int .i64 0), (.int .i64 0), (.int .i64 0), (.int .i64 0), (.int .i64 0), (.slice none 0 0), (.int .i64 0), (.int .i64 0), (.int .i64 0)], false⟩
theorem V8u : TyOk Tryz.prog 154 V3j := TyOk.of Tryz.underlying154 (show TK.ok _ (.struct [(0, 152, 6), (6, 153, 3)]) _ from ⟨_, rfl, rfl, fun x hx => by simp only [List.mem_cons, List.not_mem_nil, or_false] at hx; rcases hx with rfl | rfl <;> exact ⟨by kernel_rfl, by decide⟩⟩) (.agg #[(.int .i64 0), (.int .i64 0), (.int .i64 0), (.int .i64 0), (.int .i64 0), (.slice none 0 0), (.int .i64 0), (.int .i64 0), (.int .i64 0)]) (by kernel_rfl) rfl rfl rfl rfl (by decide) (fun h => by cases h)
def V3i : TyI := ⟨.struct [(0, 152, 6), (6, 153, 3)], 9, 88, [(.int .i64 0), (.int .i64 0), (.int .i64 0), (.int .i64 0), (.int .i64 0), (.slice none 0 0), (.int .i64 0), (.int .i64 0), (.int .i64 0)], false⟩
theorem V8t : TyOk Tryz.prog 155 V3i := TyOk.of Tryz.underlying155 (show TK.ok _ (.struct [(0, 152, 6), (6, 153, 3)]) _ from ⟨_, rfl, rfl, fun x hx => by simp only [List.mem_cons, List.not_mem_nil, or_false] at hx; rcases hx with rfl | rfl <;> exact ⟨by kernel_rfl, by decide⟩⟩) (.agg #[(.int .i64 0), (.int .i64 0), (.int .i64 0), (.int .i64 0), (.int .i64 0), (.slice none 0 0), (.int .i64 0), (.int .i64 0), (.int .i64 0)]) (by kernel_rfl) rfl rfl rfl rfl (by decide) (fun h => by cases h)
def V3h : TyI := ⟨.slice 278, 1, 24, [(.slice none 0 0)], false⟩
theorem V8s : TyOk Tryz.prog 156 V3h := TyOk.of Tryz.underlying156 (show TK.ok _ (.slice 278) _ from rfl) (.slice none 0 0) (by kernel_rfl) rfl rfl rfl rfl (by decide) (fun h => by cases h)
def V3g : TyI := ⟨.struct [(0, 9, 1), (1, 156, 1)], 2, 40, [(.string .empty), (.slice none 0 0)], false⟩
theorem V8r : TyOk Tryz.prog 157 V3g := TyOk.of Tryz.underlying157 (show TK.ok _ (.struct [(0, 9, 1), (1, 156, 1)]) _ from ⟨_, rfl, rfl, fun x hx => by simp only [List.mem_cons, List.not_mem_nil, or_false] at hx; rcases hx with rfl | rfl <;> exact ⟨by kernel_rfl, by decide⟩⟩) (.agg #[(.string .empty), (.slice none 0 0)]) (by kernel_rfl) rfl rfl rfl rfl (by decide) (fun h => by cases h)
def V3f : TyI := ⟨.struct [(0, 9, 1), (1, 156, 1)], 2, 40, [(.string .empty), (.slice none 0 0)], false⟩
theorem V8q : TyOk Tryz.prog 158 V3f := TyOk.of Tryz.underlying158 (show TK.ok _ (.struct [(0, 9, 1), (1, 156, 1)]) _ from ⟨_, rfl, rfl, fun x hx => by simp only [List.mem_cons, List.not_mem_nil, or_false] at hx; rcases hx with rfl | rfl <;> exact ⟨by kernel_rfl, by decide⟩⟩) (.agg #[(.string .empty), (.slice none 0 0)]) (by kernel_rfl) rfl rfl rfl rfl (by decide) (fun h => by cases h)
def V3e : TyI := ⟨.slice 49, 1, 24, [(.slice none 0 0)], false⟩
theorem V8p : TyOk Tryz.prog 161 V3e := TyOk.of Tryz.underlying161 (show TK.ok _ (.slice 49) _ from rfl) (.slice none 0 0) (by kernel_rfl) rfl rfl rfl rfl (by decide) (fun h => by cases h)
def V3d : TyI := ⟨.slice 166, 1, 24, [(.slice none 0 0)], false⟩
theorem V8o : TyOk Tryz.prog 164 V3d := TyOk.of Tryz.underlying164 (show TK.ok _ (.slice 166) _ from rfl) (.slice none 0 0) (by kernel_rfl) rfl rfl rfl rfl (by decide) (fun h => by cases h)
def V3c : TyI := ⟨.struct [(0, 3, 1), (1, 49, 1), (2, 82, 1)], 3, 56, [(.int .i64 0), (.slice none 0 0), (.slice none 0 0)], false⟩
theorem V8n : TyOk Tryz.prog 165 V3c := TyOk.of Tryz.underlying165 (show TK.ok _ (.struct [(0, 3, 1), (1, 49, 1), (2, 82, 1)]) _ from ⟨_, rfl, rfl, fun x hx => by simp only [List.mem_cons, List.not_mem_nil, or_false] at hx; rcases hx with rfl | rfl | rfl <;> exact ⟨by kernel_rfl, by decide⟩⟩) (.agg #[(.int .i64 0), (.slice none 0 0), (.slice none 0 0)]) (by kernel_rfl) rfl rfl rfl rfl (by decide) (fun h => by cases h)
def V3b : TyI := ⟨.struct [(0, 3, 1), (1, 49, 1), (2, 82, 1)], 3, 56, [(.int .i64 0), (.slice none 0 0), (.slice none 0 0)], false⟩
theorem V8m : TyOk Tryz.prog 166 V3b := TyOk.of Tryz.underlying166 (show TK.ok _ (.struct [(0, 3, 1), (1, 49, 1), (2, 82, 1)]) _ from ⟨_, rfl, rfl, fun x hx => by simp only [List.mem_cons, List.not_mem_nil, or_false] at hx; rcases hx with rfl | rfl | rfl <;> exact ⟨by kernel_rfl, by decide⟩⟩) (.agg #[(.int .i64 0), (.slice none 0 0), (.slice none 0 0)]) (by kernel_rfl) rfl rfl rfl rfl (by decide) (fun h => by cases h)
def V3a : TyI := ⟨.pointer 170, 1, 8, [(.pointer none)], false⟩
theorem V8l : TyOk Tryz.prog 168 V3a := TyOk.of Tryz.underlying168 (show TK.ok _ (.pointer 170) _ from rfl) (.pointer none) (by kernel_rfl) rfl rfl rfl rfl (by decide) (fun h => by cases h)
def V39 : TyI := ⟨.struct [(0, 138, 1), (1, 26, 1), (2, 3, 1), (3, 3, 1)], 4, 48, [(.pointer none), (.slice none 0 0), (.int .i64 0), (.int .i64 0)], false⟩
theorem V8k : TyOk Tryz.prog 169 V39 := TyOk.of Tryz.underlying169 (show TK.ok _ (.struct [(0, 138, 1), (1, 26, 1), (2, 3, 1), (3, 3, 1)]) _ from ⟨_, rfl, rfl, fun x hx => by simp only [List.mem_cons, List.not_mem_nil, or_false] at hx; rcases hx with rfl | rfl | rfl | rfl <;> exact ⟨by kernel_rfl, by decide⟩⟩) (.agg #[(.pointer none), (.slice none 0 0), (.int .i64 0), (.int .i64 0)]) (by kernel_rfl) rfl rfl rfl rfl (by decide) (fun h => by cases h)
def V38 : TyI := ⟨.struct [(0, 138, 1), (1, 26, 1), (2, 3, 1), (3, 3, 1)], 4, 48, [(.pointer none), (.slice none 0 0), (.int .i64 0), (.int .i64 0)], false⟩
theorem V8j : TyOk Tryz.prog 170 V38 := TyOk.of Tryz.underlying170 (show TK.ok _ (.struct [(0, 138, 1), (1, 26, 1), (2, 3, 1), (3, 3, 1)]) _ from ⟨_, rfl, rfl, fun x hx => by simp only [List.mem_cons, List.not_mem_nil, or_false] at hx; rcases hx with rfl | rfl | rfl | rfl <;> exact ⟨by kernel_rfl, by decide⟩⟩) (.agg #[(.pointer none), (.slice none 0 0), (.int .i64 0), (.int .i64 0)]) (by kernel_rfl) rfl rfl rfl rfl (by decide) (fun h => by cases h)
def V37 : TyI := ⟨.struct [(0, 30, 1), (1, 25, 2)], 3, 40, [(.slice none 0 0), (.int .i64 0), (.int .i64 0)], false⟩
theorem V8i : TyOk Tryz.prog 172 V37 := TyOk.of Tryz.underlying172 (show TK.ok _ (.struct [(0, 30, 1), (1, 25, 2)]) _ from ⟨_, rfl, rfl, fun x hx => by simp only [List.mem_cons, List.not_mem_nil, or_false] at hx; rcases hx with rfl | rfl <;> exact ⟨by kernel_rfl, by decide⟩⟩) (.agg #[(.slice none 0 0), (.int .i64 0), (.int .i64 0)]) (by kernel_rfl) rfl rfl rfl rfl (by decide) (fun h => by cases h)
def V36 : TyI := ⟨.struct [(0, 30, 1), (1, 25, 2)], 3, 40, [(.slice none 0 0), (.int .i64 0), (.int .i64 0)], false⟩
theorem V8h : TyOk Tryz.prog 173 V36 := TyOk.of Tryz.underlying173 (show TK.ok _ (.struct [(0, 30, 1), (1, 25, 2)]) _ from ⟨_, rfl, rfl, fun x hx => by simp only [List.mem_cons, List.not_mem_nil, or_false] at hx; rcases hx with rfl | rfl <;> exact ⟨by kernel_rfl, by decide⟩⟩) (.agg #[(.slice none 0 0), (.int .i64 0), (.int .i64 0)]) (by kernel_rfl) rfl rfl rfl rfl (by decide) (fun h => by cases h)
def V35 : TyI := ⟨.slice 173, 1, 24, [(.slice none 0 0)], false⟩
theorem V8g : TyOk Tryz.prog 174 V35 := TyOk.of Tryz.underlying174 (show TK.ok _ (.slice 173) _ from rfl) (.slice none 0 0) (by kernel_rfl) rfl rfl rfl rfl (by decide) (fun h => by cases h)
def V34 : TyI := ⟨.struct [(0, 22, 1), (1, 3, 1)], 2, 32, [(.slice none 0 0), (.int .i64 0)], false⟩
theorem V8f : TyOk Tryz.prog 195 V34 := TyOk.of Tryz.underlying195 (show TK.ok _ (.struct [(0, 22, 1), (1, 3, 1)]) _ from ⟨_, rfl, rfl, fun x hx => by simp only [List.mem_cons, List.not_mem_nil, or_false] at hx; rcases hx with rfl | rfl <;> exact ⟨by kernel_rfl, by decide⟩⟩) (.agg #[(.slice none 0 0), (.int .i64 0)]) (by kernel_rfl) rfl rfl rfl rfl (by decide) (fun h => by cases h)
def V33 : TyI := ⟨.struct [(0, 22, 1), (1, 3, 1)], 2, 32, [(.slice none 0 0), (.int .i64 0)], false⟩
theorem V8e : TyOk Tryz.prog 196 V33 := TyOk.of Tryz.underlying196 (show TK.ok _ (.struct [(0, 22, 1), (1, 3, 1)]) _ from ⟨_, rfl, rfl, fun x hx => by simp only [List.mem_cons, List.not_mem_nil, or_false] at hx; rcases hx with rfl | rfl <;> exact ⟨by kernel_rfl, by decide⟩⟩) (.agg #[(.slice none 0 0), (.int .i64 0)]) (by kernel_rfl) rfl rfl rfl rfl (by decide) (fun h => by cases h)
def V32 : TyI := ⟨.slice 25, 1, 24, [(.slice none 0 0)], false⟩
theorem V8d : TyOk Tryz.prog 203 V32 := TyOk.of Tryz.underlying203 (show TK.ok _ (.slice 25) _ from rfl) (.slice none 0 0) (by kernel_rfl) rfl rfl rfl rfl (by decide) (fun h => by cases h)
def V31 : TyI := ⟨.pointer 3, 1, 8, [(.pointer none)], false⟩
theorem V8c : TyOk Tryz.prog 206 V31 := TyOk.of Tryz.underlying206 (show TK.ok _ (.pointer 3) _ from rfl) (.pointer none) (by kernel_rfl) rfl rfl rfl rfl (by decide) (fun h => by cases h)
def V30 : TyI := ⟨.struct [(0, 3, 1), (1, 3, 1), (2, 3, 1), (3, 86, 6)], 9, 136, [(.int .i64 0), (.int .i64 0), (.int .i64 0), (.int .i64 0), (.int .i64 0), (.slice none 0 0), (.slice none 0 0), (.slice none 0 0), (.slice none 0 0)], false⟩
theorem V8b : TyOk Tryz.prog 233 V30 := TyOk.of Tryz.underlying233 (show TK.ok _ (.struct [(0, 3, 1), (1, 3, 1), (2, 3, 1), (3, 86, 6)]) _ from ⟨_, rfl, rfl, fun x hx => by simp only [List.mem_cons, List.not_mem_nil, or_false] at hx; rcases hx with rfl | rfl | rfl | rfl <;> exact ⟨by kernel_rfl, by decide⟩⟩) (.agg #[(.int .i64 0), (.int .i64 0), (.int .i64 0), (.int .i64 0), (.int .i64 0), (.slice none 0 0), (.slice none 0 0), (.slice none 0 0), (.slice none 0 0)]) (by kernel_rfl) rfl rfl rfl rfl (by decide) (fun h => by cases h)
def V2z : TyI := ⟨.struct [(0, 3, 1), (1, 3, 1), (2, 3, 1), (3, 86, 6)], 9, 136, [(.int .i64 0), (.int .i64 0), (.int .i64 0), (.int .i64 0), (.int .i64 0), (.slice none 0 0), (.slice none 0 0), (.slice none 0 0), (.slice none 0 0)], false⟩
theorem V8a : TyOk Tryz.prog 234 V2z := TyOk.of Tryz.underlying234 (show TK.ok _ (.struct [(0, 3, 1), (1, 3, 1), (2, 3, 1), (3, 86, 6)]) _ from ⟨_, rfl, rfl, fun x hx => by simp only [List.mem_cons, List.not_mem_nil, or_false] at hx; rcases hx with rfl | rfl | rfl | rfl <;> exact ⟨by kernel_rfl, by decide⟩⟩) (.agg #[(.int .i64 0), (.int .i64 0), (.int .i64 0), (.int .i64 0), (.int .i64 0), (.slice none 0 0), (.slice none 0 0), (.slice none 0 0), (.slice none 0 0)]) (by kernel_rfl) rfl rfl rfl rfl (by decide) (fun h => by cases h)
def V2y : TyI := ⟨.pointer 311, 1, 8, [(.pointer none)], false⟩
theorem V89 : TyOk Tryz.prog 241 V2y := TyOk.of Tryz.underlying241 (show TK.ok _ (.pointer 311) _ from rfl) (.pointer none) (by kernel_rfl) rfl rfl rfl rfl (by decide) (fun h => by cases h)
def V2x : TyI := ⟨.struct [(0, 23, 1), (1, 241, 1)], 2, 32, [(.slice none 0 0), (.pointer none)], false⟩
theorem V88 : TyOk Tryz.prog 243 V2x := TyOk.of Tryz.underlying243 (show TK.ok _ (.struct [(0, 23, 1), (1, 241, 1)]) _ from ⟨_, rfl, rfl, fun x hx => by simp only [List.mem_cons, List.not_mem_nil, or_false] at hx; rcases hx with rfl | rfl <;> exact ⟨by kernel_rfl, by decide⟩⟩) (.agg #[(.slice none 0 0), (.pointer none)]) (by kernel_rfl) rfl rfl rfl rfl (by decide) (fun h => by cases h)
def V2w : TyI := ⟨.struct [(0, 23, 1), (1, 241, 1)], 2, 32, [(.slice none 0 0), (.pointer none)], false⟩
theorem V87 : TyOk Tryz.prog 244 V2w := TyOk.of Tryz.underlying244 (show TK.ok _ (.struct [(0, 23, 1), (1, 241, 1)]) _ from ⟨_, rfl, rfl, fun x hx => by simp only [List.mem_cons, List.not_mem_nil, or_false] at hx; rcases hx with rfl | rfl <;> exact ⟨by kernel_rfl, by decide⟩⟩) (.agg #[(.slice none 0 0), (.pointer none)]) (by kernel_rfl) rfl rfl rfl rfl (by decide) (fun h => by cases h)
def V2v : TyI := ⟨.struct [(0, 30, 1), (1, 25, 2)], 3, 40, [(.slice none 0 0), (.int .i64 0), (.int .i64 0)], false⟩
theorem V86 : TyOk Tryz.prog 256 V2v := TyOk.of Tryz.underlying256 (show TK.ok _ (.struct [(0, 30, 1), (1, 25, 2)]) _ from ⟨_, rfl, rfl, fun x hx => by simp only [List.mem_cons, List.not_mem_nil, or_false] at hx; rcases hx with rfl | rfl <;> exact ⟨by kernel_rfl, by decide⟩⟩) (.agg #[(.slice none 0 0), (.int .i64 0), (.int .i64 0)]) (by kernel_rfl) rfl rfl rfl rfl (by decide) (fun h => by cases h)
def V2u : TyI := ⟨.struct [(0, 30, 1), (1, 25, 2)], 3, 40, [(.slice none 0 0), (.int .i64 0), (.int .i64 0)], false⟩
theorem V85 : TyOk Tryz.prog 257 V2u := TyOk.of Tryz.underlying257 (show TK.ok _ (.struct [(0, 30, 1), (1, 25, 2)]) _ from ⟨_, rfl, rfl, fun x hx => by simp only [List.mem_cons, List.not_mem_nil, or_false] at hx; rcases hx with rfl | rfl <;> exact ⟨by kernel_rfl, by decide⟩⟩) (.agg #[(.slice none 0 0), (.int .i64 0), (.int .i64 0)]) (by kernel_rfl) rfl rfl rfl rfl (by decide) (fun h => by cases h)
def V2t : TyI := ⟨.slice 257, 1, 24, [(.slice none 0 0)], false⟩
theorem V84 : TyOk Tryz.prog 258 V2t := TyOk.of Tryz.underlying258 (show TK.ok _ (.slice 257) _ from rfl) (.slice none 0 0) (by kernel_rfl) rfl rfl rfl rfl (by decide) (fun h => by cases h)
def V2s : TyI := ⟨.slice 327, 1, 24, [(.slice none 0 0)], false⟩
theorem V83 : TyOk Tryz.prog 259 V2s := TyOk.of Tryz.underlying259 (show TK.ok _ (.slice 327) _ from rfl) (.slice none 0 0) (by kernel_rfl) rfl rfl rfl rfl (by decide) (fun h => by cases h)
def V2r : TyI := ⟨.struct [(0, 3, 1), (1, 30, 1)], 2, 32, [(.int .i64 0), (.slice none 0 0)], false⟩
theorem V82 : TyOk Tryz.prog 265 V2r := TyOk.of Tryz.underlying265 (show TK.ok _ (.struct [(0, 3, 1), (1, 30, 1)]) _ from ⟨_, rfl, rfl, fun x hx => by simp only [List.mem_cons, List.not_mem_nil, or_false] at hx; rcases hx with rfl | rfl <;> exact ⟨by kernel_rfl, by decide⟩⟩) (.agg #[(.int .i64 0), (.slice none 0 0)]) (by kernel_rfl) rfl rfl rfl rfl (by decide) (fun h => by cases h)
def V2q : TyI := ⟨.struct [(0, 3, 1), (1, 30, 1)], 2, 32, [(.int .i64 0), (.slice none 0 0)], false⟩
theorem V81 : TyOk Tryz.prog 266 V2q := TyOk.of Tryz.underlying266 (show TK.ok _ (.struct [(0, 3, 1), (1, 30, 1)]) _ from ⟨_, rfl, rfl, fun x hx => by simp only [List.mem_cons, List.not_mem_nil, or_false] at hx; rcases hx with rfl | rfl <;> exact ⟨by kernel_rfl, by decide⟩⟩) (.agg #[(.int .i64 0), (.slice none 0 0)]) (by kernel_rfl) rfl rfl rfl rfl (by decide) (fun h => by cases h)
def V2p : TyI := ⟨.struct [(0, 9, 1), (1, 203, 1), (2, 3, 1)], 3, 48, [(.string .empty), (.slice none 0 0), (.int .i64 0)], false⟩
theorem V80 : TyOk Tryz.prog 277 V2p := TyOk.of Tryz.underlying277 (show TK.ok _ (.struct [(0, 9, 1), (1, 203, 1), (2, 3, 1)]) _ from ⟨_, rfl, rfl, fun x hx => by simp only [List.mem_cons, List.not_mem_nil, or_false] at hx; rcases hx with rfl | rfl | rfl <;> exact ⟨by kernel_rfl, by decide⟩⟩) (.agg #[(.string .empty), (.slice none 0 0), (.int .i64 0)]) (by kernel_rfl) rfl rfl rfl rfl (by decide) (fun h => by cases h)
def V2o : TyI := ⟨.struct [(0, 9, 1), (1, 203, 1), (2, 3, 1)], 3, 48, [(.string .empty), (.slice none 0 0), (.int .i64 0)], false⟩
theorem V7z : TyOk Tryz.prog 278 V2o := TyOk.of Tryz.underlying278 (show TK.ok _ (.struct [(0, 9, 1), (1, 203, 1), (2, 3, 1)]) _ from ⟨_, rfl, rfl, fun x hx => by simp only [List.mem_cons, List.not_mem_nil, or_false] at hx; rcases hx with rfl | rfl | rfl <;> exact ⟨by kernel_rfl, by decide⟩⟩) (.agg #[(.string .empty), (.slice none 0 0), (.int .i64 0)]) (by kernel_rfl) rfl rfl rfl rfl (by decide) (fun h => by cases h)
def V2n : TyI := ⟨.slice 356, 1, 24, [(.slice none 0 0)], false⟩
theorem V7y : TyOk Tryz.prog 293 V2n := TyOk.of Tryz.underlying293 (show TK.ok _ (.slice 356) _ from rfl) (.slice none 0 0) (by kernel_rfl) rfl rfl rfl rfl (by decide) (fun h => by cases h)
def V2m : TyI := ⟨.map 9 4, 1, 8, [(.map none)], false⟩
theorem V7x : TyOk Tryz.prog 305 V2m := TyOk.of Tryz.underlying305 (show TK.ok _ (.map 9 4) _ from rfl) (.map none) (by kernel_rfl) rfl rfl rfl rfl (by decide) (fun h => by cases h)
def V2l : TyI := ⟨.array 4 3, 4, 32, [(.int .i64 0), (.int .i64 0), (.int .i64 0), (.int .i64 0)], false⟩
theorem V7w : TyOk Tryz.prog 309 V2l := TyOk.of Tryz.underlying309 (show TK.ok _ (.array 4 3) _ from rfl) (.agg #[(.int .i64 0), (.int .i64 0), (.int .i64 0), (.int .i64 0)]) (by kernel_rfl) rfl rfl rfl rfl (by decide) (fun h => by cases h)
def V2k : TyI := ⟨.array 4 309, 16, 128, [(.int .i64 0), (.int .i64 0), (.int .i64 0), (.int .i64 0), (.int .i64 0), (.int .i64 0), (.int .i64 0), (.int .i64 0), (.int .i64 0), (.int .i64 0), (.int .i64 0), (.int .i64 0), (.int .i64 0), (.int .i64 0), (.int .i64 0), (.int .i64 0)], false⟩
theorem V7v : TyOk Tryz.prog 310 V2k := TyOk.of Tryz.underlying310 (show TK.ok _ (.array 4 309) _ from rfl) (.agg #[(.int .i64 0), (.int .i64 0), (.int .i64 0), (.int .i64 0), (.int .i64 0), (.int .i64 0), (.int .i64 0), (.int .i64 0), (.int .i64 0), (.int .i64 0), (.int .i64 0), (.int .i64 0), (.int .i64 0), (.int .i64 0), (.int .i64 0), (.int .i64 0)]) (by kernel_rfl) rfl rfl rfl rfl (by decide) (fun h => by cases h)
def V2j : TyI := ⟨.array 4 309, 16, 128, [(.int .i64 0), (.int .i64 0), (.int .i64 0), (.int .i64 0), (.int .i64 0), (.int .i64 0), (.int .i64 0), (.int .i64 0), (.int .i64 0), (.int .i64 0), (.int .i64 0), (.int .i64 0), (.int .i64 0), (.int .i64 0), (.int .i64 0), (.int .i64 0)], false⟩
theorem V7u : TyOk Tryz.prog 311 V2j := TyOk.of Tryz.underlying311 (show TK.ok _ (.array 4 309) _ from rfl) (.agg #[(.int .i64 0), (.int .i64 0), (.int .i64 0), (.int .i64 0), (.int .i64 0), (.int .i64 0), (.int .i64 0), (.int .i64 0), (.int .i64 0), (.int .i64 0), (.int .i64 0), (.int .i64 0), (.int .i64 0), (.int .i64 0), (.int .i64 0), (.int .i64 0)]) (by kernel_rfl) rfl rfl rfl rfl (by decide) (fun h => by cases h)
def V2i : TyI := ⟨.slice 27, 1, 24, [(.slice none 0 0)], false⟩
theorem V7t : TyOk Tryz.prog 318 V2i := TyOk.of Tryz.underlying318 (show TK.ok _ (.slice 27) _ from rfl) (.slice none 0 0) (by kernel_rfl) rfl rfl rfl rfl (by decide) (fun h => by cases h)
def V2h : TyI := ⟨.slice 78, 1, 24, [(.slice none 0 0)], false⟩
theorem V7s : TyOk Tryz.prog 321 V2h := TyOk.of Tryz.underlying321 (show TK.ok _ (.slice 78) _ from rfl) (.slice none 0 0) (by kernel_rfl) rfl rfl rfl rfl (by decide) (fun h => by cases h)
def V2g : TyI := ⟨.struct [(0, 9, 1), (1, 321, 1), (2, 3, 1)], 3, 48, [(.string .empty), (.slice none 0 0), (.int .i64 0)], false⟩
theorem V7r : TyOk Tryz.prog 322 V2g := TyOk.of Tryz.underlying322 (show TK.ok _ (.struct [(0, 9, 1), (1, 321, 1), (2, 3, 1)]) _ from ⟨_, rfl, rfl, fun x hx => by simp only [List.mem_cons, List.not_mem_nil, or_false] at hx; rcases hx with rfl | rfl | rfl <;> exact ⟨by kernel_rfl, by decide⟩⟩) (.agg #[(.string .empty), (.slice none 0 0), (.int .i64 0)]) (by kernel_rfl) rfl rfl rfl rfl (by decide) (fun h => by cases h)
def V2f : TyI := ⟨.struct [(0, 9, 1), (1, 321, 1), (2, 3, 1)], 3, 48, [(.string .empty), (.slice none 0 0), (.int .i64 0)], false⟩
theorem V7q : TyOk Tryz.prog 323 V2f := TyOk.of Tryz.underlying323 (show TK.ok _ (.struct [(0, 9, 1), (1, 321, 1), (2, 3, 1)]) _ from ⟨_, rfl, rfl, fun x hx => by simp only [List.mem_cons, List.not_mem_nil, or_false] at hx; rcases hx with rfl | rfl | rfl <;> exact ⟨by kernel_rfl, by decide⟩⟩) (.agg #[(.string .empty), (.slice none 0 0), (.int .i64 0)]) (by kernel_rfl) rfl rfl rfl rfl (by decide) (fun h => by cases h)
def V2e : TyI := ⟨.struct [(0, 3, 1), (1, 49, 1), (2, 82, 1)], 3, 56, [(.int .i64 0), (.slice none 0 0), (.slice none 0 0)], false⟩
theorem V7p : TyOk Tryz.prog 326 V2e := TyOk.of Tryz.underlying326 (show TK.ok _ (.struct [(0, 3, 1), (1, 49, 1), (2, 82, 1)]) _ from ⟨_, rfl, rfl, fun x hx => by simp only [List.mem_cons, List.not_mem_nil, or_false] at hx; rcases hx with rfl | rfl | rfl <;> exact ⟨by kernel_rfl, by decide⟩⟩) (.agg #[(.int .i64 0), (.slice none 0 0), (.slice none 0 0)]) (by kernel_rfl) rfl rfl rfl rfl (by decide) (fun h => by cases h)
def V2d : TyI := ⟨.struct [(0, 3, 1), (1, 49, 1), (2, 82, 1)], 3, 56, [(.int .i64 0), (.slice none 0 0), (.slice none 0 0)], false⟩
theorem V7o : TyOk Tryz.prog 327 V2d := TyOk.of Tryz.underlying327 (show TK.ok _ (.struct [(0, 3, 1), (1, 49, 1), (2, 82, 1)]) _ from ⟨_, rfl, rfl, fun x hx => by simp only [List.mem_cons, List.not_mem_nil, or_false] at hx; rcases hx with rfl | rfl | rfl <;> exact ⟨by kernel_rfl, by decide⟩⟩) (.agg #[(.int .i64 0), (.slice none 0 0), (.slice none 0 0)]) (by kernel_rfl) rfl rfl rfl rfl (by decide) (fun h => by cases h)
def V2c : TyI := ⟨.array 11 4, 11, 11, [(.bool false), (.bool false), (.bool false), (.bool false), (.bool false), (.bool false), (.bool false), (.bool false), (.bool false), (.bool false), (.bool false)], false⟩
theorem V7n : TyOk Tryz.prog 343 V2c := TyOk.of Tryz.underlying343 (show TK.ok _ (.array 11 4) _ from rfl) (.agg #[(.bool false), (.bool false), (.bool false), (.bool false), (.bool false), (.bool false), (.bool false), (.bool false), (.bool false), (.bool false), (.bool false)]) (by kernel_rfl) rfl rfl rfl rfl (by decide) (fun h => by cases h)
def V2b : TyI := ⟨.slice 174, 1, 24, [(.slice none 0 0)], false⟩
theorem V7m : TyOk Tryz.prog 344 V2b := TyOk.of Tryz.underlying344 (show TK.ok _ (.slice 174) _ from rfl) (.slice none 0 0) (by kernel_rfl) rfl rfl rfl rfl (by decide) (fun h => by cases h)
def V2a : TyI := ⟨.slice 9, 1, 24, [(.slice none 0 0)], false⟩
theorem V7l : TyOk Tryz.prog 351 V2a := TyOk.of Tryz.underlying351 (show TK.ok _ (.slice 9) _ from rfl) (.slice none 0 0) (by kernel_rfl) rfl rfl rfl rfl (by decide) (fun h => by cases h)
def V29 : TyI := ⟨.struct [(0, 3, 1), (1, 25, 2)], 3, 24, [(.int .i64 0), (.int .i64 0), (.int .i64 0)], false⟩
theorem V7k : TyOk Tryz.prog 355 V29 := TyOk.of Tryz.underlying355 (show TK.ok _ (.struct [(0, 3, 1), (1, 25, 2)]) _ from ⟨_, rfl, rfl, fun x hx => by simp only [List.mem_cons, List.not_mem_nil, or_false] at hx; rcases hx with rfl | rfl <;> exact ⟨by kernel_rfl, by decide⟩⟩) (.agg #[(.int .i64 0), (.int .i64 0), (.int .i64 0)]) (by kernel_rfl) rfl rfl rfl rfl (by decide) (fun h => by cases h)
def V28 : TyI := ⟨.struct [(0, 3, 1), (1, 25, 2)], 3, 24, [(.int .i64 0), (.int .i64 0), (.int .i64 0)], true⟩
theorem V7j : TyOk Tryz.prog 356 V28 := TyOk.of Tryz.underlying356 (show TK.ok _ (.struct [(0, 3, 1), (1, 25, 2)]) _ from ⟨_, rfl, rfl, fun x hx => by simp only [List.mem_cons, List.not_mem_nil, or_false] at hx; rcases hx with rfl | rfl <;> exact ⟨by kernel_rfl, by decide⟩⟩) (.agg #[(.int .i64 0), (.int .i64 0), (.int .i64 0)]) (by kernel_rfl) rfl rfl rfl rfl (by decide) (fun _ fs h => by cases h; exact ⟨by kernel_rfl, by kernel_rfl, by kernel_rfl, by kernel_rfl⟩)
def V27 : TyI := ⟨.int .u64, 1, 8, [(.int .u64 0)], false⟩
theorem V7i : TyOk Tryz.prog 361 V27 := TyOk.of Tryz.underlying361 (show TK.ok _ (.int .u64) _ from rfl) (.int .u64 0) (by kernel_rfl) rfl rfl rfl rfl (by decide) (fun h => by cases h)
def V26 : TyI := ⟨.array 6 4, 6, 6, [(.bool false), (.bool false), (.bool false), (.bool false), (.bool false), (.bool false)], false⟩
theorem V7h : TyOk Tryz.prog 387 V26 := TyOk.of Tryz.underlying387 (show TK.ok _ (.array 6 4) _ from rfl) (.agg #[(.bool false), (.bool false), (.bool false), (.bool false), (.bool false), (.bool false)]) (by kernel_rfl) rfl rfl rfl rfl (by decide) (fun h => by cases h)
def V25 : TyI := ⟨.int .i64, 1, 8, [(.int .i64 0)], false⟩
theorem V7g : TyOk Tryz.prog 390 V25 := TyOk.of Tryz.underlying390 (show TK.ok _ (.int .i64) _ from rfl) (.int .i64 0) (by kernel_rfl) rfl rfl rfl rfl (by decide) (fun h => by cases h)
def V24 : TyI := ⟨.int .u32, 1, 4, [(.int .u32 0)], false⟩
theorem V7f : TyOk Tryz.prog 397 V24 := TyOk.of Tryz.underlying397 (show TK.ok _ (.int .u32) _ from rfl) (.int .u32 0) (by kernel_rfl) rfl rfl rfl rfl (by decide) (fun h => by cases h)
def V23 : TyI := ⟨.int .u64, 1, 8, [(.int .u64 0)], false⟩
theorem V7e : TyOk Tryz.prog 399 V23 := TyOk.of Tryz.underlying399 (show TK.ok _ (.int .u64) _ from rfl) (.int .u64 0) (by kernel_rfl) rfl rfl rfl rfl (by decide) (fun h => by cases h)
def V22 : TyI := ⟨.int .u64, 1, 8, [(.int .u64 0)], false⟩
theorem V7d : TyOk Tryz.prog 413 V22 := TyOk.of Tryz.underlying413 (show TK.ok _ (.int .u64) _ from rfl) (.int .u64 0) (by kernel_rfl) rfl rfl rfl rfl (by decide) (fun h => by cases h)
def V21 : TyI := ⟨.pointer 413, 1, 8, [(.pointer none)], false⟩
theorem V7c : TyOk Tryz.prog 423 V21 := TyOk.of Tryz.underlying423 (show TK.ok _ (.pointer 413) _ from rfl) (.pointer none) (by kernel_rfl) rfl rfl rfl rfl (by decide) (fun h => by cases h)
def V20 : TyI := ⟨.struct [(0, 17, 1), (1, 17, 1), (2, 17, 1), (3, 9, 1)], 4, 40, [(.pointer none), (.pointer none), (.pointer none), (.string .empty)], false⟩
theorem V7b : TyOk Tryz.prog 427 V20 := TyOk.of Tryz.underlying427 (show TK.ok _ (.struct [(0, 17, 1), (1, 17, 1), (2, 17, 1), (3, 9, 1)]) _ from ⟨_, rfl, rfl, fun x hx => by simp only [List.mem_cons, List.not_mem_nil, or_false] at hx; rcases hx with rfl | rfl | rfl | rfl <;> exact ⟨by kernel_rfl, by decide⟩⟩) (.agg #[(.pointer none), (.pointer none), (.pointer none), (.string .empty)]) (by kernel_rfl) rfl rfl rfl rfl (by decide) (fun h => by cases h)
def V1z : TyI := ⟨.struct [(0, 17, 1), (1, 17, 1), (2, 17, 1), (3, 9, 1)], 4, 40, [(.pointer none), (.pointer none), (.pointer none), (.string .empty)], false⟩
theorem V7a : TyOk Tryz.prog 428 V1z := TyOk.of Tryz.underlying428 (show TK.ok _ (.struct [(0, 17, 1), (1, 17, 1), (2, 17, 1), (3, 9, 1)]) _ from ⟨_, rfl, rfl, fun x hx => by simp only [List.mem_cons, List.not_mem_nil, or_false] at hx; rcases hx with rfl | rfl | rfl | rfl <;> exact ⟨by kernel_rfl, by decide⟩⟩) (.agg #[(.pointer none), (.pointer none), (.pointer none), (.string .empty)]) (by kernel_rfl) rfl rfl rfl rfl (by decide) (fun h => by cases h)
def V1y : TyI := ⟨.array 0 16, 0, 0, [], false⟩
theorem V79 : TyOk Tryz.prog 429 V1y := TyOk.of Tryz.underlying429 (show TK.ok _ (.array 0 16) _ from rfl) (.agg #[]) (by kernel_rfl) rfl rfl rfl rfl (by decide) (fun h => by cases h)
def V1x : TyI := ⟨.int .u8, 1, 1, [(.int .u8 0)], false⟩
theorem V78 : TyOk Tryz.prog 433 V1x := TyOk.of Tryz.underlying433 (show TK.ok _ (.int .u8) _ from rfl) (.int .u8 0) (by kernel_rfl) rfl rfl rfl rfl (by decide) (fun h => by cases h)
def V1w : TyI := ⟨.int .u8, 1, 1, [(.int .u8 0)], false⟩
theorem V77 : TyOk Tryz.prog 434 V1w := TyOk.of Tryz.underlying434 (show TK.ok _ (.int .u8) _ from rfl) (.int .u8 0) (by kernel_rfl) rfl rfl rfl rfl (by decide) (fun h => by cases h)
def V1v : TyI := ⟨.pointer 5, 1, 8, [(.pointer none)], false⟩
theorem V76 : TyOk Tryz.prog 436 V1v := TyOk.of Tryz.underlying436 (show TK.ok _ (.pointer 5) _ from rfl) (.pointer none) (by kernel_rfl) rfl rfl rfl rfl (by decide) (fun h => by cases h)
def V1u : TyI := ⟨.int .i32, 1, 4, [(.int .i32 0)], false⟩
theorem V75 : TyOk Tryz.prog 437 V1u := TyOk.of Tryz.underlying437 (show TK.ok _ (.int .i32) _ from rfl) (.int .i32 0) (by kernel_rfl) rfl rfl rfl rfl (by decide) (fun h => by cases h)
def V1t : TyI := ⟨.int .i32, 1, 4, [(.int .i32 0)], false⟩
theorem V74 : TyOk Tryz.prog 438 V1t := TyOk.of Tryz.underlying438 (show TK.ok _ (.int .i32) _ from rfl) (.int .i32 0) (by kernel_rfl) rfl rfl rfl rfl (by decide) (fun h => by cases h)
def Tys : Ty := fun t => match t with
 | 2 => some ti2
 | 3 => some ti3
 | 4 => some ti4
 | 5 => some ti5
 | 6 => some ti6
 | 7 => some ti7
 | 8 => some ti8
 | 9 => some ti9
 | 10 => some ti10
 | 11 => some ti11
 | 12 => some ti12
 | 13 => some ti13
 | 14 => some ti14
 | 15 => some ti15
 | 16 => some ti16
 | 17 => some ti17
 | 18 => some ti18
 | 19 => some ti19
 | 21 => some ti21
 | 22 => some ti22
 | 23 => some ti23
 | 24 => some ti24
 | 25 => some ti25
 | 26 => some ti26
 | 27 => some ti27
 | 30 => some ti30
 | 43 => some ti43
 | 46 => some ti46
 | 47 => some ti47
 | 49 => some ti49
 | 50 => some ti50
 | 51 => some ti51
 | 52 => some ti52
 | 53 => some ti53
 | 54 => some ti54
 | 55 => some ti55
 | 77 => some ti77
 | 78 => some ti78
 | 79 => some ti79
 | 82 => some ti82
 | 83 => some ti83
 | 84 => some ti84
 | 85 => some ti85
 | 86 => some ti86
 | 101 => some V3w
 | 110 => some V3v
 | 114 => some V3u
 | 125 => some V3t
 | 126 => some V3s
 | 138 => some V3r
 | 146 => some V3q
 | 147 => some V3p
 | 148 => some V3o
 | 150 => some V3n
 | 151 => some V3m
 | 152 => some V3l
 | 153 => some V3k
 | 154 => some V3j
 | 155 => some V3i
 | 156 => some V3h
 | 157 => some V3g
 | 158 => some V3f
 | 161 => some V3e
 | 164 => some V3d
 | 165 => some V3c
 | 166 => some V3b
 | 168 => some V3a
 | 169 => some V39
 | 170 => some V38
 | 172 => some V37
 | 173 => some V36
 | 174 => some V35
 | 195 => some V34
 | 196 => some V33
 | 203 => some V32
 | 206 => some V31
 | 233 => some V30
 | 234 => some V2z
 | 241 => some V2y
 | 243 => some V2x
 | 244 => some V2w
 | 256 => some V2v
 | 257 => some V2u
 | 258 => some V2t
 | 259 => some V2s
 | 265 => some V2r
 | 266 => some V2q
 | 277 => some V2p
 | 278 => some V2o
 | 293 => some V2n
 | 305 => some V2m
 | 309 => some V2l
 | 310 => some V2k
 | 311 => some V2j
 | 318 => some V2i
 | 321 => some V2h
 | 322 => some V2g
 | 323 => some V2f
 | 326 => some V2e
 | 327 => some V2d
 | 343 => some V2c
 | 344 => some V2b
 | 351 => some V2a
 | 355 => some V29
 | 356 => some V28
 | 361 => some V27
 | 387 => some V26
 | 390 => some V25
 | 397 => some V24
 | 399 => some V23
 | 413 => some V22
 | 423 => some V21
 | 427 => some V20
 | 428 => some V1z
 | 429 => some V1y
 | 433 => some V1x
 | 434 => some V1w
 | 436 => some V1v
 | 437 => some V1u
 | 438 => some V1t
 | _ => none
@[simp] theorem tys2 : Tys 2 = some ⟨.int .i64, 1, 8, [(.int .i64 0)], false⟩ := rfl
@[simp] theorem tys3 : Tys 3 = some ⟨.int .i64, 1, 8, [(.int .i64 0)], false⟩ := rfl
@[simp] theorem tys4 : Tys 4 = some ⟨.bool, 1, 1, [(.bool false)], false⟩ := rfl
@[simp] theorem tys5 : Tys 5 = some ⟨.int .u8, 1, 1, [(.int .u8 0)], false⟩ := rfl
@[simp] theorem tys6 : Tys 6 = some ⟨.int .u8, 1, 1, [(.int .u8 0)], false⟩ := rfl
@[simp] theorem tys7 : Tys 7 = some ⟨.struct [(0, 2, 1), (1, 3, 1), (2, 4, 1), (3, 6, 1)], 4, 24, [(.int .i64 0), (.int .i64 0), (.bool false), (.int .u8 0)], false⟩ := rfl
@[simp] theorem tys8 : Tys 8 = some ⟨.struct [(0, 2, 1), (1, 3, 1), (2, 4, 1), (3, 6, 1)], 4, 24, [(.int .i64 0), (.int .i64 0), (.bool false), (.int .u8 0)], false⟩ := rfl
@[simp] theorem tys9 : Tys 9 = some ⟨.string, 1, 16, [(.string .empty)], false⟩ := rfl
@[simp] theorem tys10 : Tys 10 = some ⟨.string, 1, 16, [(.string .empty)], false⟩ := rfl
@[simp] theorem tys11 : Tys 11 = some ⟨.string, 1, 16, [(.string .empty)], false⟩ := rfl
@[simp] theorem tys12 : Tys 12 = some ⟨.int .u64, 1, 8, [(.int .u64 0)], false⟩ := rfl
@[simp] theorem tys13 : Tys 13 = some ⟨.struct [(0, 9, 1), (1, 12, 1)], 2, 24, [(.string .empty), (.int .u64 0)], false⟩ := rfl
@[simp] theorem tys14 : Tys 14 = some ⟨.struct [(0, 9, 1), (1, 12, 1)], 2, 24, [(.string .empty), (.int .u64 0)], false⟩ := rfl
@[simp] theorem tys15 : Tys 15 = some ⟨.pointer 428, 1, 8, [(.pointer none)], false⟩ := rfl
@[simp] theorem tys16 : Tys 16 = some ⟨.pointer 431, 1, 8, [(.pointer none)], false⟩ := rfl
@[simp] theorem tys17 : Tys 17 = some ⟨.pointer 440, 1, 8, [(.pointer none)], false⟩ := rfl
@[simp] theorem tys18 : Tys 18 = some ⟨.struct [(0, 17, 1)], 1, 8, [(.pointer none)], false⟩ := rfl
@[simp] theorem tys19 : Tys 19 = some ⟨.struct [(0, 17, 1)], 1, 8, [(.pointer none)], false⟩ := rfl
@[simp] theorem tys21 : Tys 21 = some ⟨.int .i32, 1, 4, [(.int .i32 0)], false⟩ := rfl
@[simp] theorem tys22 : Tys 22 = some ⟨.slice 5, 1, 24, [(.slice none 0 0)], false⟩ := rfl
@[simp] theorem tys23 : Tys 23 = some ⟨.slice 158, 1, 24, [(.slice none 0 0)], false⟩ := rfl
@[simp] theorem tys24 : Tys 24 = some ⟨.struct [(0, 3, 1), (1, 3, 1)], 2, 16, [(.int .i64 0), (.int .i64 0)], false⟩ := rfl
@[simp] theorem tys25 : Tys 25 = some ⟨.struct [(0, 3, 1), (1, 3, 1)], 2, 16, [(.int .i64 0), (.int .i64 0)], true⟩ := rfl
@[simp] theorem tys26 : Tys 26 = some ⟨.slice 55, 1, 24, [(.slice none 0 0)], false⟩ := rfl
@[simp] theorem tys27 : Tys 27 = some ⟨.slice 47, 1, 24, [(.slice none 0 0)], false⟩ := rfl
@[simp] theorem tys30 : Tys 30 = some ⟨.slice 3, 1, 24, [(.slice none 0 0)], false⟩ := rfl
@[simp] theorem tys43 : Tys 43 = some ⟨.slice 126, 1, 24, [(.slice none 0 0)], false⟩ := rfl
@[simp] theorem tys46 : Tys 46 = some ⟨.struct [(0, 3, 1), (1, 3, 1), (2, 27, 1)], 3, 40, [(.int .i64 0), (.int .i64 0), (.slice none 0 0)], false⟩ := rfl
@[simp] theorem tys47 : Tys 47 = some ⟨.struct [(0, 3, 1), (1, 3, 1), (2, 27, 1)], 3, 40, [(.int .i64 0), (.int .i64 0), (.slice none 0 0)], false⟩ := rfl
@[simp] theorem tys49 : Tys 49 = some ⟨.slice 51, 1, 24, [(.slice none 0 0)], false⟩ := rfl
@[simp] theorem tys50 : Tys 50 = some ⟨.struct [(0, 3, 1), (1, 3, 1), (2, 3, 1), (3, 3, 1), (4, 3, 1), (5, 49, 1)], 6, 64, [(.int .i64 0), (.int .i64 0), (.int .i64 0), (.int .i64 0), (.int .i64 0), (.slice none 0 0)], false⟩ := rfl
@[simp] theorem tys51 : Tys 51 = some ⟨.struct [(0, 3, 1), (1, 3, 1), (2, 3, 1), (3, 3, 1), (4, 3, 1), (5, 49, 1)], 6, 64, [(.int .i64 0), (.int .i64 0), (.int .i64 0), (.int .i64 0), (.int .i64 0), (.slice none 0 0)], false⟩ := rfl
@[simp] theorem tys52 : Tys 52 = some ⟨.struct [(0, 3, 1), (1, 3, 1), (2, 3, 1)], 3, 24, [(.int .i64 0), (.int .i64 0), (.int .i64 0)], false⟩ := rfl
@[simp] theorem tys53 : Tys 53 = some ⟨.struct [(0, 3, 1), (1, 3, 1), (2, 3, 1)], 3, 24, [(.int .i64 0), (.int .i64 0), (.int .i64 0)], true⟩ := rfl
@[simp] theorem tys54 : Tys 54 = some ⟨.struct [(0, 51, 6), (6, 53, 3)], 9, 88, [(.int .i64 0), (.int .i64 0), (.int .i64 0), (.int .i64 0), (.int .i64 0), (.slice none 0 0), (.int .i64 0), (.int .i64 0), (.int .i64 0)], false⟩ := rfl
@[simp] theorem tys55 : Tys 55 = some ⟨.struct [(0, 51, 6), (6, 53, 3)], 9, 88, [(.int .i64 0), (.int .i64 0), (.int .i64 0), (.int .i64 0), (.int .i64 0), (.slice none 0 0), (.int .i64 0), (.int .i64 0), (.int .i64 0)], false⟩ := rfl
@[simp] theorem tys77 : Tys 77 = some ⟨.slice 148, 1, 24, [(.slice none 0 0)], false⟩ := rfl
@[simp] theorem tys78 : Tys 78 = some ⟨.struct [(0, 3, 1), (1, 3, 1)], 2, 16, [(.int .i64 0), (.int .i64 0)], true⟩ := rfl
@[simp] theorem tys79 : Tys 79 = some ⟨.slice 155, 1, 24, [(.slice none 0 0)], false⟩ := rfl
@[simp] theorem tys82 : Tys 82 = some ⟨.slice 266, 1, 24, [(.slice none 0 0)], false⟩ := rfl
@[simp] theorem tys83 : Tys 83 = some ⟨.slice 234, 1, 24, [(.slice none 0 0)], false⟩ := rfl
@[simp] theorem tys84 : Tys 84 = some ⟨.slice 86, 1, 24, [(.slice none 0 0)], false⟩ := rfl
@[simp] theorem tys85 : Tys 85 = some ⟨.struct [(0, 3, 1), (1, 3, 1), (2, 82, 1), (3, 30, 1), (4, 83, 1), (5, 84, 1)], 6, 112, [(.int .i64 0), (.int .i64 0), (.slice none 0 0), (.slice none 0 0), (.slice none 0 0), (.slice none 0 0)], false⟩ := rfl
@[simp] theorem tys86 : Tys 86 = some ⟨.struct [(0, 3, 1), (1, 3, 1), (2, 82, 1), (3, 30, 1), (4, 83, 1), (5, 84, 1)], 6, 112, [(.int .i64 0), (.int .i64 0), (.slice none 0 0), (.slice none 0 0), (.slice none 0 0), (.slice none 0 0)], false⟩ := rfl
@[simp] theorem tys101 : Tys 101 = some ⟨.pointer 196, 1, 8, [(.pointer none)], false⟩ := rfl
@[simp] theorem tys110 : Tys 110 = some ⟨.array 8 4, 8, 8, [(.bool false), (.bool false), (.bool false), (.bool false), (.bool false), (.bool false), (.bool false), (.bool false)], false⟩ := rfl
@[simp] theorem tys114 : Tys 114 = some ⟨.slice 4, 1, 24, [(.slice none 0 0)], false⟩ := rfl
@[simp] theorem tys125 : Tys 125 = some ⟨.struct [(0, 3, 1), (1, 47, 3)], 4, 48, [(.int .i64 0), (.int .i64 0), (.int .i64 0), (.slice none 0 0)], false⟩ := rfl
@[simp] theorem tys126 : Tys 126 = some ⟨.struct [(0, 3, 1), (1, 47, 3)], 4, 48, [(.int .i64 0), (.int .i64 0), (.int .i64 0), (.slice none 0 0)], false⟩ := rfl
@[simp] theorem tys138 : Tys 138 = some ⟨.pointer 244, 1, 8, [(.pointer none)], false⟩ := rfl
@[simp] theorem tys146 : Tys 146 = some ⟨.slice 323, 1, 24, [(.slice none 0 0)], false⟩ := rfl
@[simp] theorem tys147 : Tys 147 = some ⟨.struct [(0, 9, 1), (1, 146, 1)], 2, 40, [(.string .empty), (.slice none 0 0)], false⟩ := rfl
@[simp] theorem tys148 : Tys 148 = some ⟨.struct [(0, 9, 1), (1, 146, 1)], 2, 40, [(.string .empty), (.slice none 0 0)], false⟩ := rfl
@[simp] theorem tys150 : Tys 150 = some ⟨.slice 152, 1, 24, [(.slice none 0 0)], false⟩ := rfl
@[simp] theorem tys151 : Tys 151 = some ⟨.struct [(0, 3, 1), (1, 3, 1), (2, 3, 1), (3, 3, 1), (4, 3, 1), (5, 150, 1)], 6, 64, [(.int .i64 0), (.int .i64 0), (.int .i64 0), (.int .i64 0), (.int .i64 0), (.slice none 0 0)], false⟩ := rfl
@[simp] theorem tys152 : Tys 152 = some ⟨.struct [(0, 3, 1), (1, 3, 1), (2, 3, 1), (3, 3, 1), (4, 3, 1), (5, 150, 1)], 6, 64, [(.int .i64 0), (.int .i64 0), (.int .i64 0), (.int .i64 0), (.int .i64 0), (.slice none 0 0)], false⟩ := rfl
@[simp] theorem tys153 : Tys 153 = some ⟨.struct [(0, 3, 1), (1, 3, 1), (2, 3, 1)], 3, 24, [(.int .i64 0), (.int .i64 0), (.int .i64 0)], true⟩ := rfl
@[simp] theorem tys154 : Tys 154 = some ⟨.struct [(0, 152, 6), (6, 153, 3)], 9, 88, [(.int .i64 0), (.int .i64 0), (.int .i64 0), (.int .i64 0), (.int .i64 0), (.slice none 0 0), (.int .i64 0), (.int .i64 0), (.int .i64 0)], false⟩ := rfl
@[simp] theorem tys155 : Tys 155 = some ⟨.struct [(0, 152, 6), (6, 153, 3)], 9, 88, [(.int .i64 0), (.int .i64 0), (.int .i64 0), (.int .i64 0), (.int .i64 0), (.slice none 0 0), (.int .i64 0), (.int .i64 0), (.int .i64 0)], false⟩ := rfl
@[simp] theorem tys156 : Tys 156 = some ⟨.slice 278, 1, 24, [(.slice none 0 0)], false⟩ := rfl
@[simp] theorem tys157 : Tys 157 = some ⟨.struct [(0, 9, 1), (1, 156, 1)], 2, 40, [(.string .empty), (.slice none 0 0)], false⟩ := rfl
@[simp] theorem tys158 : Tys 158 = some ⟨.struct [(0, 9, 1), (1, 156, 1)], 2, 40, [(.string .empty), (.slice none 0 0)], false⟩ := rfl
@[simp] theorem tys161 : Tys 161 = some ⟨.slice 49, 1, 24, [(.slice none 0 0)], false⟩ := rfl
@[simp] theorem tys164 : Tys 164 = some ⟨.slice 166, 1, 24, [(.slice none 0 0)], false⟩ := rfl
@[simp] theorem tys165 : Tys 165 = some ⟨.struct [(0, 3, 1), (1, 49, 1), (2, 82, 1)], 3, 56, [(.int .i64 0), (.slice none 0 0), (.slice none 0 0)], false⟩ := rfl
@[simp] theorem tys166 : Tys 166 = some ⟨.struct [(0, 3, 1), (1, 49, 1), (2, 82, 1)], 3, 56, [(.int .i64 0), (.slice none 0 0), (.slice none 0 0)], false⟩ := rfl
@[simp] theorem tys168 : Tys 168 = some ⟨.pointer 170, 1, 8, [(.pointer none)], false⟩ := rfl
@[simp] theorem tys169 : Tys 169 = some ⟨.struct [(0, 138, 1), (1, 26, 1), (2, 3, 1), (3, 3, 1)], 4, 48, [(.pointer none), (.slice none 0 0), (.int .i64 0), (.int .i64 0)], false⟩ := rfl
@[simp] theorem tys170 : Tys 170 = some ⟨.struct [(0, 138, 1), (1, 26, 1), (2, 3, 1), (3, 3, 1)], 4, 48, [(.pointer none), (.slice none 0 0), (.int .i64 0), (.int .i64 0)], false⟩ := rfl
@[simp] theorem tys172 : Tys 172 = some ⟨.struct [(0, 30, 1), (1, 25, 2)], 3, 40, [(.slice none 0 0), (.int .i64 0), (.int .i64 0)], false⟩ := rfl
@[simp] theorem tys173 : Tys 173 = some ⟨.struct [(0, 30, 1), (1, 25, 2)], 3, 40, [(.slice none 0 0), (.int .i64 0), (.int .i64 0)], false⟩ := rfl
@[simp] theorem tys174 : Tys 174 = some ⟨.slice 173, 1, 24, [(.slice none 0 0)], false⟩ := rfl
@[simp] theorem tys195 : Tys 195 = some ⟨.struct [(0, 22, 1), (1, 3, 1)], 2, 32, [(.slice none 0 0), (.int .i64 0)], false⟩ := rfl
@[simp] theorem tys196 : Tys 196 = some ⟨.struct [(0, 22, 1), (1, 3, 1)], 2, 32, [(.slice none 0 0), (.int .i64 0)], false⟩ := rfl
@[simp] theorem tys203 : Tys 203 = some ⟨.slice 25, 1, 24, [(.slice none 0 0)], false⟩ := rfl
@[simp] theorem tys206 : Tys 206 = some ⟨.pointer 3, 1, 8, [(.pointer none)], false⟩ := rfl
@[simp] theorem tys233 : Tys 233 = some ⟨.struct [(0, 3, 1), (1, 3, 1), (2, 3, 1), (3, 86, 6)], 9, 136, [(.int .i64 0), (.int .i64 0), (.int .i64 0), (.int .i64 0), (.int .i64 0), (.slice none 0 0), (.slice none 0 0), (.slice none 0 0), (.slice none 0 0)], false⟩ := rfl
@[simp] theorem tys234 : Tys 234 = some ⟨.struct [(0, 3, 1), (1, 3, 1), (2, 3, 1), (3, 86, 6)], 9, 136, [(.int .i64 0), (.int .i64 0), (.int .i64 0), (.int .i64 0), (.int .i64 0), (.slice none 0 0), (.slice none 0 0), (.slice none 0 0), (.slice none 0 0)], false⟩ := rfl
@[simp] theorem tys241 : Tys 241 = some ⟨.pointer 311, 1, 8, [(.pointer none)], false⟩ := rfl
@[simp] theorem tys243 : Tys 243 = some ⟨.struct [(0, 23, 1), (1, 241, 1)], 2, 32, [(.slice none 0 0), (.pointer none)], false⟩ := rfl
@[simp] theorem tys244 : Tys 244 = some ⟨.struct [(0, 23, 1), (1, 241, 1)], 2, 32, [(.slice none 0 0), (.pointer none)], false⟩ := rfl
@[simp] theorem tys256 : Tys 256 = some ⟨.struct [(0, 30, 1), (1, 25, 2)], 3, 40, [(.slice none 0 0), (.int .i64 0), (.int .i64 0)], false⟩ := rfl
@[simp] theorem tys257 : Tys 257 = some ⟨.struct [(0, 30, 1), (1, 25, 2)], 3, 40, [(.slice none 0 0), (.int .i64 0), (.int .i64 0)], false⟩ := rfl
@[simp] theorem tys258 : Tys 258 = some ⟨.slice 257, 1, 24, [(.slice none 0 0)], false⟩ := rfl
@[simp] theorem tys259 : Tys 259 = some ⟨.slice 327, 1, 24, [(.slice none 0 0)], false⟩ := rfl
@[simp] theorem tys265 : Tys 265 = some ⟨.struct [(0, 3, 1), (1, 30, 1)], 2, 32, [(.int .i64 0), (.slice none 0 0)], false⟩ := rfl
@[simp] theorem tys266 : Tys 266 = some ⟨.struct [(0, 3, 1), (1, 30, 1)], 2, 32, [(.int .i64 0), (.slice none 0 0)], false⟩ := rfl
@[simp] theorem tys277 : Tys 277 = some ⟨.struct [(0, 9, 1), (1, 203, 1), (2, 3, 1)], 3, 48, [(.string .empty), (.slice none 0 0), (.int .i64 0)], false⟩ := rfl
@[simp] theorem tys278 : Tys 278 = some ⟨.struct [(0, 9, 1), (1, 203, 1), (2, 3, 1)], 3, 48, [(.string .empty), (.slice none 0 0), (.int .i64 0)], false⟩ := rfl
@[simp] theorem tys293 : Tys 293 = some ⟨.slice 356, 1, 24, [(.slice none 0 0)], false⟩ := rfl
@[simp] theorem tys305 : Tys 305 = some ⟨.map 9 4, 1, 8, [(.map none)], false⟩ := rfl
@[simp] theorem tys309 : Tys 309 = some ⟨.array 4 3, 4, 32, [(.int .i64 0), (.int .i64 0), (.int .i64 0), (.int .i64 0)], false⟩ := rfl
@[simp] theorem tys310 : Tys 310 = some ⟨.array 4 309, 16, 128, [(.int .i64 0), (.int .i64 0), (.int .i64 0), (.int .i64 0), (.int .i64 0), (.int .i64 0), (.int .i64 0), (.int .i64 0), (.int .i64 0), (.int .i64 0), (.int .i64 0), (.int .i64 0), (.int .i64 0), (.int .i64 0), (.int .i64 0), (.int .i64 0)], false⟩ := rfl
@[simp] theorem tys311 : Tys 311 = some ⟨.array 4 309, 16, 128, [(.int .i64 0), (.int .i64 0), (.int .i64 0), (.int .i64 0), (.int .i64 0), (.int .i64 0), (.int .i64 0), (.int .i64 0), (.int .i64 0), (.int .i64 0), (.int .i64 0), (.int .i64 0), (.int .i64 0), (.int .i64 0), (.int .i64 0), (.int .i64 0)], false⟩ := rfl
@[simp] theorem tys318 : Tys 318 = some ⟨.slice 27, 1, 24, [(.slice none 0 0)], false⟩ := rfl
@[simp] theorem tys321 : Tys 321 = some ⟨.slice 78, 1, 24, [(.slice none 0 0)], false⟩ := rfl
@[simp] theorem tys322 : Tys 322 = some ⟨.struct [(0, 9, 1), (1, 321, 1), (2, 3, 1)], 3, 48, [(.string .empty), (.slice none 0 0), (.int .i64 0)], false⟩ := rfl
@[simp] theorem tys323 : Tys 323 = some ⟨.struct [(0, 9, 1), (1, 321, 1), (2, 3, 1)], 3, 48, [(.string .empty), (.slice none 0 0), (.int .i64 0)], false⟩ := rfl
@[simp] theorem tys326 : Tys 326 = some ⟨.struct [(0, 3, 1), (1, 49, 1), (2, 82, 1)], 3, 56, [(.int .i64 0), (.slice none 0 0), (.slice none 0 0)], false⟩ := rfl
@[simp] theorem tys327 : Tys 327 = some ⟨.struct [(0, 3, 1), (1, 49, 1), (2, 82, 1)], 3, 56, [(.int .i64 0), (.slice none 0 0), (.slice none 0 0)], false⟩ := rfl
@[simp] theorem tys343 : Tys 343 = some ⟨.array 11 4, 11, 11, [(.bool false), (.bool false), (.bool false), (.bool false), (.bool false), (.bool false), (.bool false), (.bool false), (.bool false), (.bool false), (.bool false)], false⟩ := rfl
@[simp] theorem tys344 : Tys 344 = some ⟨.slice 174, 1, 24, [(.slice none 0 0)], false⟩ := rfl
@[simp] theorem tys351 : Tys 351 = some ⟨.slice 9, 1, 24, [(.slice none 0 0)], false⟩ := rfl
@[simp] theorem tys355 : Tys 355 = some ⟨.struct [(0, 3, 1), (1, 25, 2)], 3, 24, [(.int .i64 0), (.int .i64 0), (.int .i64 0)], false⟩ := rfl
@[simp] theorem tys356 : Tys 356 = some ⟨.struct [(0, 3, 1), (1, 25, 2)], 3, 24, [(.int .i64 0), (.int .i64 0), (.int .i64 0)], true⟩ := rfl
@[simp] theorem tys361 : Tys 361 = some ⟨.int .u64, 1, 8, [(.int .u64 0)], false⟩ := rfl
@[simp] theorem tys387 : Tys 387 = some ⟨.array 6 4, 6, 6, [(.bool false), (.bool false), (.bool false), (.bool false), (.bool false), (.bool false)], false⟩ := rfl
@[simp] theorem tys390 : Tys 390 = some ⟨.int .i64, 1, 8, [(.int .i64 0)], false⟩ := rfl
@[simp] theorem tys397 : Tys 397 = some ⟨.int .u32, 1, 4, [(.int .u32 0)], false⟩ := rfl
@[simp] theorem tys399 : Tys 399 = some ⟨.int .u64, 1, 8, [(.int .u64 0)], false⟩ := rfl
@[simp] theorem tys413 : Tys 413 = some ⟨.int .u64, 1, 8, [(.int .u64 0)], false⟩ := rfl
@[simp] theorem tys423 : Tys 423 = some ⟨.pointer 413, 1, 8, [(.pointer none)], false⟩ := rfl
@[simp] theorem tys427 : Tys 427 = some ⟨.struct [(0, 17, 1), (1, 17, 1), (2, 17, 1), (3, 9, 1)], 4, 40, [(.pointer none), (.pointer none), (.pointer none), (.string .empty)], false⟩ := rfl
@[simp] theorem tys428 : Tys 428 = some ⟨.struct [(0, 17, 1), (1, 17, 1), (2, 17, 1), (3, 9, 1)], 4, 40, [(.pointer none), (.pointer none), (.pointer none), (.string .empty)], false⟩ := rfl
@[simp] theorem tys429 : Tys 429 = some ⟨.array 0 16, 0, 0, [], false⟩ := rfl
@[simp] theorem tys433 : Tys 433 = some ⟨.int .u8, 1, 1, [(.int .u8 0)], false⟩ := rfl
@[simp] theorem tys434 : Tys 434 = some ⟨.int .u8, 1, 1, [(.int .u8 0)], false⟩ := rfl
@[simp] theorem tys436 : Tys 436 = some ⟨.pointer 5, 1, 8, [(.pointer none)], false⟩ := rfl
@[simp] theorem tys437 : Tys 437 = some ⟨.int .i32, 1, 4, [(.int .i32 0)], false⟩ := rfl
@[simp] theorem tys438 : Tys 438 = some ⟨.int .i32, 1, 4, [(.int .i32 0)], false⟩ := rfl
theorem X0j : Q8e Tryz.prog Tys := fun t i h => by
 unfold Tys at h
 split at h
 ·cases h; exact ty2
 ·cases h; exact ty3
 ·cases h; exact ty4
 ·cases h; exact ty5
 ·cases h; exact ty6
 ·cases h; exact ty7
 ·cases h; exact ty8
 ·cases h; exact ty9
 ·cases h; exact ty10
 ·cases h; exact ty11
 ·cases h; exact ty12
 ·cases h; exact ty13
 ·cases h; exact ty14
 ·cases h; exact ty15
 ·cases h; exact ty16
 ·cases h; exact ty17
 ·cases h; exact ty18
 ·cases h; exact ty19
 ·cases h; exact ty21
 ·cases h; exact ty22
 ·cases h; exact ty23
 ·cases h; exact ty24
 ·cases h; exact ty25
 ·cases h; exact ty26
 ·cases h; exact ty27
 ·cases h; exact ty30
 ·cases h; exact ty43
 ·cases h; exact ty46
 ·cases h; exact ty47
 ·cases h; exact ty49
 ·cases h; exact ty50
 ·cases h; exact ty51
 ·cases h; exact ty52
 ·cases h; exact ty53
 ·cases h; exact ty54
 ·cases h; exact ty55
 ·cases h; exact ty77
 ·cases h; exact ty78
 ·cases h; exact ty79
 ·cases h; exact ty82
 ·cases h; exact ty83
 ·cases h; exact ty84
 ·cases h; exact ty85
 ·cases h; exact ty86
 ·cases h; exact V97
 ·cases h; exact V96
 ·cases h; exact V95
 ·cases h; exact V94
 ·cases h; exact V93
 ·cases h; exact V92
 ·cases h; exact V91
 ·cases h; exact V90
 ·cases h; exact V8z
 ·cases h; exact V8y
 ·cases h; exact V8x
 ·cases h; exact V8w
 ·cases h; exact V8v
 ·cases h; exact V8u
 ·cases h; exact V8t
 ·cases h; exact V8s
 ·cases h; exact V8r
 ·cases h; exact V8q
 ·cases h; exact V8p
 ·cases h; exact V8o
 ·cases h; exact V8n
 ·cases h; exact V8m
 ·cases h; exact V8l
 ·cases h; exact V8k
 ·cases h; exact V8j
 ·cases h; exact V8i
 ·cases h; exact V8h
 ·cases h; exact V8g
 ·cases h; exact V8f
 ·cases h; exact V8e
 ·cases h; exact V8d
 ·cases h; exact V8c
 ·cases h; exact V8b
 ·cases h; exact V8a
 ·cases h; exact V89
 ·cases h; exact V88
 ·cases h; exact V87
 ·cases h; exact V86
 ·cases h; exact V85
 ·cases h; exact V84
 ·cases h; exact V83
 ·cases h; exact V82
 ·cases h; exact V81
 ·cases h; exact V80
 ·cases h; exact V7z
 ·cases h; exact V7y
 ·cases h; exact V7x
 ·cases h; exact V7w
 ·cases h; exact V7v
 ·cases h; exact V7u
 ·cases h; exact V7t
 ·cases h; exact V7s
 ·cases h; exact V7r
 ·cases h; exact V7q
 ·cases h; exact V7p
 ·cases h; exact V7o
 ·cases h; exact V7n
 ·cases h; exact V7m
 ·cases h; exact V7l
 ·cases h; exact V7k
 ·cases h; exact V7j
 ·cases h; exact V7i
 ·cases h; exact V7h
 ·cases h; exact V7g
 ·cases h; exact V7f
 ·cases h; exact V7e
 ·cases h; exact V7d
 ·cases h; exact V7c
 ·cases h; exact V7b
 ·cases h; exact V7a
 ·cases h; exact V79
 ·cases h; exact V78
 ·cases h; exact V77
 ·cases h; exact V76
 ·cases h; exact V75
 ·cases h; exact V74
 ·cases h
theorem W58 : Tryz.prog.follows .mixedOrders = true := rfl
end Go.Proofs.YtnackipaoepmfaaGreat
