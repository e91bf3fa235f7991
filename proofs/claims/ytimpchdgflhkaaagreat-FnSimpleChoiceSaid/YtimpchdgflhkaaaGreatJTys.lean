import Derived.KernelRfl
import Derived.Test.YtimpchdgflhkaaaGreatProg
import Derived.Test.YtimpchdgflhkaaaGreatJE1
set_option linter.unusedSimpArgs false
set_option linter.unusedVariables false
namespace Go.Proofs.YtimpchdgflhkaaaGreat
open Go Go.RowKit
def ti2 : TyI := ⟨.int .i64, 1, 8, [(.int .i64 0)], false⟩
theorem ty2 : TyOk Tryz.prog 2 ti2 := TyOk.of Tryz.underlying2 (show TK.ok _ (.int .i64) _ from rfl) (.int .i64 0) (by kernel_rfl) rfl rfl rfl rfl (by decide) (fun h => by cases h)
def ti3 : TyI := ⟨.int .i64, 1, 8, [(.int .i64 0)], false⟩
theorem ty3 : TyOk Tryz.prog 3 ti3 := TyOk.of Tryz.underlying3 (show TK.ok _ (.int .i64) _ from rfl) (.int .i64 0) (by kernel_rfl) rfl rfl rfl rfl (by decide) (fun h => by cases h)
def ti4 : TyI := ⟨.bool, 1, 1, [(.bool false)], false⟩
theorem ty4 : TyOk Tryz.prog 4 ti4 := TyOk.of Tryz.underlying4 (show TK.ok _ (.bool) _ from rfl) (.bool false) (by kernel_rfl) rfl rfl rfl rfl (by decide) (fun h => by cases h)
def ti5 : TyI := ⟨.int .u8, 1, 1, [(.int .u8 0)], false⟩
theorem ty5 : TyOk Tryz.prog 5 ti5 := TyOk.of Tryz.underlying5 (show TK.ok _ (.int .u8) _ from rfl) (.int .u8 0) (by kernel_rfl) rfl rfl rfl rfl (by decide) (fun h => by cases h)
def ti6 : TyI := ⟨.int .u8, 1, 1, [(.int .u8 0)], false⟩
theorem ty6 : TyOk Tryz.prog 6 ti6 := TyOk.of Tryz.underlying6 (show TK.ok _ (.int .u8) _ from rfl) (.int .u8 0) (by kernel_rfl) rfl rfl rfl rfl (by decide) (fun h => by cases h)
def ti7 : TyI := ⟨.struct [(0, 2, 1), (1, 3, 1), (2, 4, 1), (3, 6, 1)], 4, 24, [(.int .i64 0), (.int .i64 0), (.bool false), (.int .u8 0)], false⟩
theorem ty7 : TyOk Tryz.prog 7 ti7 := TyOk.of Tryz.underlying7 (show TK.ok _ (.struct [(0, 2, 1), (1, 3, 1), (2, 4, 1), (3, 6, 1)]) _ from ⟨_, rfl, rfl, fun x hx => by simp only [List.mem_cons, List.not_mem_nil, or_false] at hx; rcases hx with rfl | rfl | rfl | rfl <;> exact ⟨by kernel_rfl, by decide⟩⟩) (.agg #[(.int .i64 0), (.int .i64 0), (.bool false), (.int .u8 0)]) (by kernel_rfl) rfl rfl rfl rfl (by decide) (fun h => by cases h)
def ti8 : TyI := ⟨.struct [(0, 2, 1), (1, 3, 1), (2, 4, 1), (3, 6, 1)], 4, 24, [(.int .i64 0), (.int .i64 0), (.bool false), (.int .u8 0)], false⟩
theorem ty8 : TyOk Tryz.prog 8 ti8 := TyOk.of Tryz.underlying8 (show TK.ok _ (.struct [(0, 2, 1), (1, 3, 1), (2, 4, 1), (3, 6, 1)]) _ from ⟨_, rfl, rfl, fun x hx => by simp only [List.mem_cons, List.not_mem_nil, or_false] at hx; rcases hx with rfl | rfl | rfl | rfl <;> exact ⟨by kernel_rfl, by decide⟩⟩) (.agg #[(.int .i64 0), (.int .i64 0), (.bool false), (.int .u8 0)]) (by kernel_rfl) rfl rfl rfl rfl (by decide) (fun h => by cases h)
def ti9 : TyI := ⟨.string, 1, 16, [(.string .empty)], false⟩
theorem ty9 : TyOk Tryz.prog 9 ti9 := TyOk.of Tryz.underlying9 (show TK.ok _ (.string) _ from rfl) (.string .empty) (by kernel_rfl) rfl rfl rfl rfl (by decide) (fun h => by cases h)
def ti10 : TyI := ⟨.string, 1, 16, [(.string .empty)], false⟩
theorem ty10 : TyOk Tryz.prog 10 ti10 := TyOk.of Tryz.underlying10 (show TK.ok _ (.string) _ from rfl) (.string .empty) (by kernel_rfl) rfl rfl rfl rfl (by decide) (fun h => by cases h)
def ti11 : TyI := ⟨.string, 1, 16, [(.string .empty)], false⟩
theorem ty11 : TyOk Tryz.prog 11 ti11 := TyOk.of Tryz.underlying11 (show TK.ok _ (.string) _ from rfl) (.string .empty) (by kernel_rfl) rfl rfl rfl rfl (by decide) (fun h => by cases h)
def ti12 : TyI := ⟨.int .u64, 1, 8, [(.int .u64 0)], false⟩
theorem ty12 : TyOk Tryz.prog 12 ti12 := TyOk.of Tryz.underlying12 (show TK.ok _ (.int .u64) _ from rfl) (.int .u64 0) (by kernel_rfl) rfl rfl rfl rfl (by decide) (fun h => by cases h)
def ti13 : TyI := ⟨.struct [(0, 9, 1), (1, 12, 1)], 2, 24, [(.string .empty), (.int .u64 0)], false⟩
theorem ty13 : TyOk Tryz.prog 13 ti13 := TyOk.of Tryz.underlying13 (show TK.ok _ (.struct [(0, 9, 1), (1, 12, 1)]) _ from ⟨_, rfl, rfl, fun x hx => by simp only [List.mem_cons, List.not_mem_nil, or_false] at hx; rcases hx with rfl | rfl <;> exact ⟨by kernel_rfl, by decide⟩⟩) (.agg #[(.string .empty), (.int .u64 0)]) (by kernel_rfl) rfl rfl rfl rfl (by decide) (fun h => by cases h)
def ti14 : TyI := ⟨.struct [(0, 9, 1), (1, 12, 1)], 2, 24, [(.string .empty), (.int .u64 0)], false⟩
theorem ty14 : TyOk Tryz.prog 14 ti14 := TyOk.of Tryz.underlying14 (show TK.ok _ (.struct [(0, 9, 1), (1, 12, 1)]) _ from ⟨_, rfl, rfl, fun x hx => by simp only [List.mem_cons, List.not_mem_nil, or_false] at hx; rcases hx with rfl | rfl <;> exact ⟨by kernel_rfl, by decide⟩⟩) (.agg #[(.string .empty), (.int .u64 0)]) (by kernel_rfl) rfl rfl rfl rfl (by decide) (fun h => by cases h)
def ti15 : TyI := ⟨.pointer 197, 1, 8, [(.pointer none)], false⟩
theorem ty15 : TyOk Tryz.prog 15 ti15 := TyOk.of Tryz.underlying15 (show TK.ok _ (.pointer 197) _ from rfl) (.pointer none) (by kernel_rfl) rfl rfl rfl rfl (by decide) (fun h => by cases h)
def ti16 : TyI := ⟨.pointer 200, 1, 8, [(.pointer none)], false⟩
theorem ty16 : TyOk Tryz.prog 16 ti16 := TyOk.of Tryz.underlying16 (show TK.ok _ (.pointer 200) _ from rfl) (.pointer none) (by kernel_rfl) rfl rfl rfl rfl (by decide) (fun h => by cases h)
def ti17 : TyI := ⟨.pointer 209, 1, 8, [(.pointer none)], false⟩
theorem ty17 : TyOk Tryz.prog 17 ti17 := TyOk.of Tryz.underlying17 (show TK.ok _ (.pointer 209) _ from rfl) (.pointer none) (by kernel_rfl) rfl rfl rfl rfl (by decide) (fun h => by cases h)
def ti18 : TyI := ⟨.struct [(0, 17, 1)], 1, 8, [(.pointer none)], false⟩
theorem ty18 : TyOk Tryz.prog 18 ti18 := TyOk.of Tryz.underlying18 (show TK.ok _ (.struct [(0, 17, 1)]) _ from ⟨_, rfl, rfl, fun x hx => by simp only [List.mem_cons, List.not_mem_nil, or_false] at hx; rcases hx with rfl <;> exact ⟨by kernel_rfl, by decide⟩⟩) (.agg #[(.pointer none)]) (by kernel_rfl) rfl rfl rfl rfl (by decide) (fun h => by cases h)
def ti19 : TyI := ⟨.struct [(0, 17, 1)], 1, 8, [(.pointer none)], false⟩
theorem ty19 : TyOk Tryz.prog 19 ti19 := TyOk.of Tryz.underlying19 (show TK.ok _ (.struct [(0, 17, 1)]) _ from ⟨_, rfl, rfl, fun x hx => by simp only [List.mem_cons, List.not_mem_nil, or_false] at hx; rcases hx with rfl <;> exact ⟨by kernel_rfl, by decide⟩⟩) (.agg #[(.pointer none)]) (by kernel_rfl) rfl rfl rfl rfl (by decide) (fun h => by cases h)
def ti21 : TyI := ⟨.int .i32, 1, 4, [(.int .i32 0)], false⟩
theorem ty21 : TyOk Tryz.prog 21 ti21 := TyOk.of Tryz.underlying21 (show TK.ok _ (.int .i32) _ from rfl) (.int .i32 0) (by kernel_rfl) rfl rfl rfl rfl (by decide) (fun h => by cases h)
def ti22 : TyI := ⟨.slice 5, 1, 24, [(.slice none 0 0)], false⟩
theorem ty22 : TyOk Tryz.prog 22 ti22 := TyOk.of Tryz.underlying22 (show TK.ok _ (.slice 5) _ from rfl) (.slice none 0 0) (by kernel_rfl) rfl rfl rfl rfl (by decide) (fun h => by cases h)
def ti23 : TyI := ⟨.slice 111, 1, 24, [(.slice none 0 0)], false⟩
theorem ty23 : TyOk Tryz.prog 23 ti23 := TyOk.of Tryz.underlying23 (show TK.ok _ (.slice 111) _ from rfl) (.slice none 0 0) (by kernel_rfl) rfl rfl rfl rfl (by decide) (fun h => by cases h)
def ti24 : TyI := ⟨.struct [(0, 3, 1), (1, 3, 1)], 2, 16, [(.int .i64 0), (.int .i64 0)], false⟩
theorem ty24 : TyOk Tryz.prog 24 ti24 := TyOk.of Tryz.underlying24 (show TK.ok _ (.struct [(0, 3, 1), (1, 3, 1)]) _ from ⟨_, rfl, rfl, fun x hx => by simp only [List.mem_cons, List.not_mem_nil, or_false] at hx; rcases hx with rfl | rfl <;> exact ⟨by kernel_rfl, by decide⟩⟩) (.agg #[(.int .i64 0), (.int .i64 0)]) (by kernel_rfl) rfl rfl rfl rfl (by decide) (fun h => by cases h)
def ti25 : TyI := ⟨.struct [(0, 3, 1), (1, 3, 1)], 2, 16, [(.int .i64 0), (.int .i64 0)], true⟩
theorem ty25 : TyOk Tryz.prog 25 ti25 := TyOk.of Tryz.underlying25 (show TK.ok _ (.struct [(0, 3, 1), (1, 3, 1)]) _ from ⟨_, rfl, rfl, fun x hx => by simp only [List.mem_cons, List.not_mem_nil, or_false] at hx; rcases hx with rfl | rfl <;> exact ⟨by kernel_rfl, by decide⟩⟩) (.agg #[(.int .i64 0), (.int .i64 0)]) (by kernel_rfl) rfl rfl rfl rfl (by decide) (fun _ fs h => by cases h; exact ⟨by kernel_rfl, by kernel_rfl, by kernel_rfl, by kernel_rfl⟩)
def ti26 : TyI := ⟨.slice 38, 1, 24, [(.slice none 0 0)], false⟩
theorem ty26 : TyOk Tryz.prog 26 ti26 := TyOk.of Tryz.underlying26 (show TK.ok _ (.slice 38) _ from rfl) (.slice none 0 0) (by kernel_rfl) rfl rfl rfl rfl (by decide) (fun h => by cases h)
def ti30 : TyI := ⟨.slice 32, 1, 24, [(.slice none 0 0)], false⟩
theorem ty30 : TyOk Tryz.prog 30 ti30 := TyOk.of Tryz.underlying30 (show TK.ok _ (.slice 32) _ from rfl) (.slice none 0 0) (by kernel_rfl) rfl rfl rfl rfl (by decide) (fun h => by cases h)
def ti31 : TyI := ⟨.struct [(0, 3, 1), (1, 3, 1), (2, 3, 1), (3, 3, 1), (4, 3, 1), (5, 30, 1)], 6, 64, [(.int .i64 0), (.int .i64 0), (.int .i64 0), (.int .i64 0), (.int .i64 0), (.slice none 0 0)], false⟩
theorem ty31 : TyOk Tryz.prog 31 ti31 := TyOk.of Tryz.underlying31 (show TK.ok _ (.struct [(0, 3, 1), (1, 3, 1), (2, 3, 1), (3, 3, 1), (4, 3, 1), (5, 30, 1)]) _ from ⟨_, rfl, rfl, fun x hx => by simp only [List.mem_cons, List.not_mem_nil, or_false] at hx; rcases hx with rfl | rfl | rfl | rfl | rfl | rfl <;> exact ⟨by kernel_rfl, by decide⟩⟩) (.agg #[(.int .i64 0), (.int .i64 0), (.int .i64 0), (.int .i64 0), (.int .i64 0), (.slice none 0 0)]) (by kernel_rfl) rfl rfl rfl rfl (by decide) (fun h => by cases h)
def ti32 : TyI := ⟨.struct [(0, 3, 1), (1, 3, 1), (2, 3, 1), (3, 3, 1), (4, 3, 1), (5, 30, 1)], 6, 64, [(.int .i64 0), (.int .i64 0), (.int .i64 0), (.int .i64 0), (.int .i64 0), (.slice none 0 0)], false⟩
theorem ty32 : TyOk Tryz.prog 32 ti32 := TyOk.of Tryz.underlying32 (show TK.ok _ (.struct [(0, 3, 1), (1, 3, 1), (2, 3, 1), (3, 3, 1), (4, 3, 1), (5, 30, 1)]) _ from ⟨_, rfl, rfl, fun x hx => by simp only [List.mem_cons, List.not_mem_nil, or_false] at hx; rcases hx with rfl | rfl | rfl | rfl | rfl | rfl <;> exact ⟨by kernel_rfl, by decide⟩⟩) (.agg #[(.int .i64 0), (.int .i64 0), (.int .i64 0), (.int .i64 0), (.int .i64 0), (.slice none 0 0)]) (by kernel_rfl) rfl rfl rfl rfl (by decide) (fun h => by cases h)
def ti35 : TyI := ⟨.struct [(0, 3, 1), (1, 3, 1), (2, 3, 1)], 3, 24, [(.int .i64 0), (.int .i64 0), (.int .i64 0)], false⟩
theorem ty35 : TyOk Tryz.prog 35 ti35 := TyOk.of Tryz.underlying35 (show TK.ok _ (.struct [(0, 3, 1), (1, 3, 1), (2, 3, 1)]) _ from ⟨_, rfl, rfl, fun x hx => by simp only [List.mem_cons, List.not_mem_nil, or_false] at hx; rcases hx with rfl | rfl | rfl <;> exact ⟨by kernel_rfl, by decide⟩⟩) (.agg #[(.int .i64 0), (.int .i64 0), (.int .i64 0)]) (by kernel_rfl) rfl rfl rfl rfl (by decide) (fun h => by cases h)
def ti36 : TyI := ⟨.struct [(0, 3, 1), (1, 3, 1), (2, 3, 1)], 3, 24, [(.int .i64 0), (.int .i64 0), (.int .i64 0)], true⟩
theorem ty36 : TyOk Tryz.prog 36 ti36 := TyOk.of Tryz.underlying36 (show TK.ok _ (.struct [(0, 3, 1), (1, 3, 1), (2, 3, 1)]) _ from ⟨_, rfl, rfl, fun x hx => by simp only [List.mem_cons, List.not_mem_nil, or_false] at hx; rcases hx with rfl | rfl | rfl <;> exact ⟨by kernel_rfl, by decide⟩⟩) (.agg #[(.int .i64 0), (.int .i64 0), (.int .i64 0)]) (by kernel_rfl) rfl rfl rfl rfl (by decide) (fun _ fs h => by cases h; exact ⟨by kernel_rfl, by kernel_rfl, by kernel_rfl, by kernel_rfl⟩)
def ti37 : TyI := ⟨.struct [(0, 32, 6), (6, 36, 3)], 9, 88, [(.int .i64 0), (.int .i64 0), (.int .i64 0), (.int .i64 0), (.int .i64 0), (.slice none 0 0), (.int .i64 0), (.int .i64 0), (.int .i64 0)], false⟩
theorem ty37 : TyOk Tryz.prog 37 ti37 := TyOk.of Tryz.underlying37 (show TK.ok _ (.struct [(0, 32, 6), (6, 36, 3)]) _ from ⟨_, rfl, rfl, fun x hx => by simp only [List.mem_cons, List.not_mem_nil, or_false] at hx; rcases hx with rfl | rfl <;> exact ⟨by kernel_rfl, by decide⟩⟩) (.agg #[(.int .i64 0), (.int .i64 0), (.int .i64 0), (.int .i64 0), (.int .i64 0), (.slice none 0 0), (.int .i64 0), (.int .i64 0), (.int .i64 0)]) (by kernel_rfl) rfl rfl rfl rfl (by decide) (fun h => by cases h)
def ti38 : TyI := ⟨.struct [(0, 32, 6), (6, 36, 3)], 9, 88, [(.int .i64 0), (.int .i64 0), (.int .i64 0), (.int .i64 0), (.int .i64 0), (.slice none 0 0), (.int .i64 0), (.int .i64 0), (.int .i64 0)], false⟩
theorem ty38 : TyOk Tryz.prog 38 ti38 := TyOk.of Tryz.underlying38 (show TK.ok _ (.struct [(0, 32, 6), (6, 36, 3)]) _ from ⟨_, rfl, rfl, fun x hx => by simp only [List.mem_cons, List.not_mem_nil, or_false] at hx; rcases hx with rfl | rfl <;> exact ⟨by kernel_rfl, by decide⟩⟩) (.agg #[(.int .i64 0), (.int .i64 0), (.int .i64 0), (.int .i64 0), (.int .i64 0), (.slice none 0 0), (.int .i64 0), (.int .i64 0), (.int .i64 0)]) (by kernel_rfl) rfl rfl rfl rfl (by decide) (fun h => by cases h)
def ti40 : TyI := ⟨.slice 47, 1, 24, [(.slice none 0 0)], false⟩
theorem ty40 : TyOk Tryz.prog 40 ti40 := TyOk.of Tryz.underlying40 (show TK.ok _ (.slice 47) _ from rfl) (.slice none 0 0) (by kernel_rfl) rfl rfl rfl rfl (by decide) (fun h => by cases h)
def ti43 : TyI := ⟨.slice 66, 1, 24, [(.slice none 0 0)], false⟩
theorem ty43 : TyOk Tryz.prog 43 ti43 := TyOk.of Tryz.underlying43 (show TK.ok _ (.slice 66) _ from rfl) (.slice none 0 0) (by kernel_rfl) rfl rfl rfl rfl (by decide) (fun h => by cases h)
def ti46 : TyI := ⟨.struct [(0, 3, 1), (1, 3, 1), (2, 40, 1)], 3, 40, [(.int .i64 0), (.int .i64 0), (.slice none 0 0)], false⟩
theorem ty46 : TyOk Tryz.prog 46 ti46 := TyOk.of Tryz.underlying46 (show TK.ok _ (.struct [(0, 3, 1), (1, 3, 1), (2, 40, 1)]) _ from ⟨_, rfl, rfl, fun x hx => by simp only [List.mem_cons, List.not_mem_nil, or_false] at hx; rcases hx with rfl | rfl | rfl <;> exact ⟨by kernel_rfl, by decide⟩⟩) (.agg #[(.int .i64 0), (.int .i64 0), (.slice none 0 0)]) (by kernel_rfl) rfl rfl rfl rfl (by decide) (fun h => by cases h)
def ti47 : TyI := ⟨.struct [(0, 3, 1), (1, 3, 1), (2, 40, 1)], 3, 40, [(.int .i64 0), (.int .i64 0), (.slice none 0 0)], false⟩
theorem ty47 : TyOk Tryz.prog 47 ti47 := TyOk.of Tryz.underlying47 (show TK.ok _ (.struct [(0, 3, 1), (1, 3, 1), (2, 40, 1)]) _ from ⟨_, rfl, rfl, fun x hx => by simp only [List.mem_cons, List.not_mem_nil, or_false] at hx; rcases hx with rfl | rfl | rfl <;> exact ⟨by kernel_rfl, by decide⟩⟩) (.agg #[(.int .i64 0), (.int .i64 0), (.slice none 0 0)]) (by kernel_rfl) rfl rfl rfl rfl (by decide) (fun h => by cases h)
def ti65 : TyI := ⟨.struct [(0, 3, 1), (1, 47, 3)], 4, 48, [(.int .i64 0), (.int .i64 0), (.int .i64 0), (.slice none 0 0)], false⟩
theorem ty65 : TyOk Tryz.prog 65 ti65 := TyOk.of Tryz.underlying65 (show TK.ok _ (.struct [(0, 3, 1), (1, 47, 3)]) _ from ⟨_, rfl, rfl, fun x hx => by simp only [List.mem_cons, List.not_mem_nil, or_false] at hx; rcases hx with rfl | rfl <;> exact ⟨by kernel_rfl, by decide⟩⟩) (.agg #[(.int .i64 0), (.int .i64 0), (.int .i64 0), (.slice none 0 0)]) (by kernel_rfl) rfl rfl rfl rfl (by decide) (fun h => by cases h)
def ti66 : TyI := ⟨.struct [(0, 3, 1), (1, 47, 3)], 4, 48, [(.int .i64 0), (.int .i64 0), (.int .i64 0), (.slice none 0 0)], false⟩
theorem ty66 : TyOk Tryz.prog 66 ti66 := TyOk.of Tryz.underlying66 (show TK.ok _ (.struct [(0, 3, 1), (1, 47, 3)]) _ from ⟨_, rfl, rfl, fun x hx => by simp only [List.mem_cons, List.not_mem_nil, or_false] at hx; rcases hx with rfl | rfl <;> exact ⟨by kernel_rfl, by decide⟩⟩) (.agg #[(.int .i64 0), (.int .i64 0), (.int .i64 0), (.slice none 0 0)]) (by kernel_rfl) rfl rfl rfl rfl (by decide) (fun h => by cases h)
def ti68 : TyI := ⟨.pointer 102, 1, 8, [(.pointer none)], false⟩
theorem ty68 : TyOk Tryz.prog 68 ti68 := TyOk.of Tryz.underlying68 (show TK.ok _ (.pointer 102) _ from rfl) (.pointer none) (by kernel_rfl) rfl rfl rfl rfl (by decide) (fun h => by cases h)
def ti77 : TyI := ⟨.slice 118, 1, 24, [(.slice none 0 0)], false⟩
theorem ty77 : TyOk Tryz.prog 77 ti77 := TyOk.of Tryz.underlying77 (show TK.ok _ (.slice 118) _ from rfl) (.slice none 0 0) (by kernel_rfl) rfl rfl rfl rfl (by decide) (fun h => by cases h)
def ti82 : TyI := ⟨.slice 25, 1, 24, [(.slice none 0 0)], false⟩
theorem ty82 : TyOk Tryz.prog 82 ti82 := TyOk.of Tryz.underlying82 (show TK.ok _ (.slice 25) _ from rfl) (.slice none 0 0) (by kernel_rfl) rfl rfl rfl rfl (by decide) (fun h => by cases h)
def ti86 : TyI := ⟨.slice 3, 1, 24, [(.slice none 0 0)], false⟩
theorem ty86 : TyOk Tryz.prog 86 ti86 := TyOk.of Tryz.underlying86 (show TK.ok _ (.slice 3) _ from rfl) (.slice none 0 0) (by kernel_rfl) rfl rfl rfl rfl (by decide) (fun h => by cases h)
def ti96 : TyI := ⟨.pointer 3, 1, 8, [(.pointer none)], false⟩
theorem ty96 : TyOk Tryz.prog 96 ti96 := TyOk.of Tryz.underlying96 (show TK.ok _ (.pointer 3) _ from rfl) (.pointer none) (by kernel_rfl) rfl rfl rfl rfl (by decide) (fun h => by cases h)
def ti101 : TyI := ⟨.struct [(0, 22, 1), (1, 3, 1)], 2, 32, [(.slice none 0 0), (.int .i64 0)], false⟩
theorem ty101 : TyOk Tryz.prog 101 ti101 := TyOk.of Tryz.underlying101 (show TK.ok _ (.struct [(0, 22, 1), (1, 3, 1)]) _ from ⟨_, rfl, rfl, fun x hx => by simp only [List.mem_cons, List.not_mem_nil, or_false] at hx; rcases hx with rfl | rfl <;> exact ⟨by kernel_rfl, by decide⟩⟩) (.agg #[(.slice none 0 0), (.int .i64 0)]) (by kernel_rfl) rfl rfl rfl rfl (by decide) (fun h => by cases h)
def ti102 : TyI := ⟨.struct [(0, 22, 1), (1, 3, 1)], 2, 32, [(.slice none 0 0), (.int .i64 0)], false⟩
theorem ty102 : TyOk Tryz.prog 102 ti102 := TyOk.of Tryz.underlying102 (show TK.ok _ (.struct [(0, 22, 1), (1, 3, 1)]) _ from ⟨_, rfl, rfl, fun x hx => by simp only [List.mem_cons, List.not_mem_nil, or_false] at hx; rcases hx with rfl | rfl <;> exact ⟨by kernel_rfl, by decide⟩⟩) (.agg #[(.slice none 0 0), (.int .i64 0)]) (by kernel_rfl) rfl rfl rfl rfl (by decide) (fun h => by cases h)
def ti108 : TyI := ⟨.map 9 4, 1, 8, [(.map none)], false⟩
theorem ty108 : TyOk Tryz.prog 108 ti108 := TyOk.of Tryz.underlying108 (show TK.ok _ (.map 9 4) _ from rfl) (.map none) (by kernel_rfl) rfl rfl rfl rfl (by decide) (fun h => by cases h)
def ti109 : TyI := ⟨.slice 113, 1, 24, [(.slice none 0 0)], false⟩
theorem ty109 : TyOk Tryz.prog 109 ti109 := TyOk.of Tryz.underlying109 (show TK.ok _ (.slice 113) _ from rfl) (.slice none 0 0) (by kernel_rfl) rfl rfl rfl rfl (by decide) (fun h => by cases h)
def ti110 : TyI := ⟨.struct [(0, 9, 1), (1, 109, 1)], 2, 40, [(.string .empty), (.slice none 0 0)], false⟩
theorem ty110 : TyOk Tryz.prog 110 ti110 := TyOk.of Tryz.underlying110 (show TK.ok _ (.struct [(0, 9, 1), (1, 109, 1)]) _ from ⟨_, rfl, rfl, fun x hx => by simp only [List.mem_cons, List.not_mem_nil, or_false] at hx; rcases hx with rfl | rfl <;> exact ⟨by kernel_rfl, by decide⟩⟩) (.agg #[(.string .empty), (.slice none 0 0)]) (by kernel_rfl) rfl rfl rfl rfl (by decide) (fun h => by cases h)
def ti111 : TyI := ⟨.struct [(0, 9, 1), (1, 109, 1)], 2, 40, [(.string .empty), (.slice none 0 0)], false⟩
theorem ty111 : TyOk Tryz.prog 111 ti111 := TyOk.of Tryz.underlying111 (show TK.ok _ (.struct [(0, 9, 1), (1, 109, 1)]) _ from ⟨_, rfl, rfl, fun x hx => by simp only [List.mem_cons, List.not_mem_nil, or_false] at hx; rcases hx with rfl | rfl <;> exact ⟨by kernel_rfl, by decide⟩⟩) (.agg #[(.string .empty), (.slice none 0 0)]) (by kernel_rfl) rfl rfl rfl rfl (by decide) (fun h => by cases h)
def ti112 : TyI := ⟨.struct [(0, 9, 1), (1, 82, 1), (2, 3, 1)], 3, 48, [(.string .empty), (.slice none 0 0), (.int .i64 0)], false⟩
theorem ty112 : TyOk Tryz.prog 112 ti112 := TyOk.of Tryz.underlying112 (show TK.ok _ (.struct [(0, 9, 1), (1, 82, 1), (2, 3, 1)]) _ from ⟨_, rfl, rfl, fun x hx => by simp only [List.mem_cons, List.not_mem_nil, or_false] at hx; rcases hx with rfl | rfl | rfl <;> exact ⟨by kernel_rfl, by decide⟩⟩) (.agg #[(.string .empty), (.slice none 0 0), (.int .i64 0)]) (by kernel_rfl) rfl rfl rfl rfl (by decide) (fun h => by cases h)
def ti113 : TyI := ⟨.struct [(0, 9, 1), (1, 82, 1), (2, 3, 1)], 3, 48, [(.string .empty), (.slice none 0 0), (.int .i64 0)], false⟩
theorem ty113 : TyOk Tryz.prog 113 ti113 := TyOk.of Tryz.underlying113 (show TK.ok _ (.struct [(0, 9, 1), (1, 82, 1), (2, 3, 1)]) _ from ⟨_, rfl, rfl, fun x hx => by simp only [List.mem_cons, List.not_mem_nil, or_false] at hx; rcases hx with rfl | rfl | rfl <;> exact ⟨by kernel_rfl, by decide⟩⟩) (.agg #[(.string .empty), (.slice none 0 0), (.int .i64 0)]) (by kernel_rfl) rfl rfl rfl rfl (by decide) (fun h => by cases h)
def ti117 : TyI := ⟨.struct [(0, 3, 1), (1, 25, 2)], 3, 24, [(.int .i64 0), (.int .i64 0), (.int .i64 0)], false⟩
theorem ty117 : TyOk Tryz.prog 117 ti117 := TyOk.of Tryz.underlying117 (show TK.ok _ (.struct [(0, 3, 1), (1, 25, 2)]) _ from ⟨_, rfl, rfl, fun x hx => by simp only [List.mem_cons, List.not_mem_nil, or_false] at hx; rcases hx with rfl | rfl <;> exact ⟨by kernel_rfl, by decide⟩⟩) (.agg #[(.int .i64 0), (.int .i64 0), (.int .i64 0)]) (by kernel_rfl) rfl rfl rfl rfl (by decide) (fun h => by cases h)
def ti118 : TyI := ⟨.struct [(0, 3, 1), (1, 25, 2)], 3, 24, [(.int .i64 0), (.int .i64 0), (.int .i64 0)], true⟩
theorem ty118 : TyOk Tryz.prog 118 ti118 := TyOk.of Tryz.underlying118 (show TK.ok _ (.struct [(0, 3, 1), (1, 25, 2)]) _ from ⟨_, rfl, rfl, fun x hx => by simp only [List.mem_cons, List.not_mem_nil, or_false] at hx; rcases hx with rfl | rfl <;> exact ⟨by kernel_rfl, by decide⟩⟩) (.agg #[(.int .i64 0), (.int .i64 0), (.int .i64 0)]) (by kernel_rfl) rfl rfl rfl rfl (by decide) (fun _ fs h => by cases h; exact ⟨by kernel_rfl, by kernel_rfl, by kernel_rfl, by kernel_rfl⟩)
def ti144 : TyI := ⟨.array 6 4, 6, 6, [(.bool false), (.bool false), (.bool false), (.bool false), (.bool false), (.bool false)], false⟩
theorem ty144 : TyOk Tryz.prog 144 ti144 := TyOk.of Tryz.underlying144 (show TK.ok _ (.array 6 4) _ from rfl) (.agg #[(.bool false), (.bool false), (.bool false), (.bool false), (.bool false), (.bool false)]) (by kernel_rfl) rfl rfl rfl rfl (by decide) (fun h => by cases h)
def ti153 : TyI := ⟨.int .u64, 1, 8, [(.int .u64 0)], false⟩
theorem ty153 : TyOk Tryz.prog 153 ti153 := TyOk.of Tryz.underlying153 (show TK.ok _ (.int .u64) _ from rfl) (.int .u64 0) (by kernel_rfl) rfl rfl rfl rfl (by decide) (fun h => by cases h)
def ti154 : TyI := ⟨.slice 9, 1, 24, [(.slice none 0 0)], false⟩
theorem ty154 : TyOk Tryz.prog 154 ti154 := TyOk.of Tryz.underlying154 (show TK.ok _ (.slice 9) _ from rfl) (.slice none 0 0) (by kernel_rfl) rfl rfl rfl rfl (by decide) (fun h => by cases h)
def ti164 : TyI := ⟨.int .i64, 1, 8, [(.int .i64 0)], false⟩
theorem ty164 : TyOk Tryz.prog 164 ti164 := TyOk.of Tryz.underlying164 (show TK.ok _ (.int .i64) _ from rfl) (.int .i64 0) (by kernel_rfl) rfl rfl rfl rfl (by decide) (fun h => by cases h)
def ti172 : TyI := ⟨.int .u32, 1, 4, [(.int .u32 0)], false⟩
theorem ty172 : TyOk Tryz.prog 172 ti172 := TyOk.of Tryz.underlying172 (show TK.ok _ (.int .u32) _ from rfl) (.int .u32 0) (by kernel_rfl) rfl rfl rfl rfl (by decide) (fun h => by cases h)
def ti174 : TyI := ⟨.int .u64, 1, 8, [(.int .u64 0)], false⟩
theorem ty174 : TyOk Tryz.prog 174 ti174 := TyOk.of Tryz.underlying174 (show TK.ok _ (.int .u64) _ from rfl) (.int .u64 0) (by kernel_rfl) rfl rfl rfl rfl (by decide) (fun h => by cases h)
def ti182 : TyI := ⟨.int .u64, 1, 8, [(.int .u64 0)], false⟩
theorem ty182 : TyOk Tryz.prog 182 ti182 := TyOk.of Tryz.underlying182 (show TK.ok _ (.int .u64) _ from rfl) (.int .u64 0) (by kernel_rfl) rfl rfl rfl rfl (by decide) (fun h => by cases h)
def ti189 : TyI := ⟨.pointer 182, 1, 8, [(.pointer none)], false⟩
theorem ty189 : TyOk Tryz.prog 189 ti189 := TyOk.of Tryz.underlying189 (show TK.ok _ (.pointer 182) _ from rfl) (.pointer none) (by kernel_rfl) rfl rfl rfl rfl (by decide) (fun h => by cases h)
def ti196 : TyI := ⟨.struct [(0, 17, 1), (1, 17, 1), (2, 17, 1), (3, 9, 1)], 4, 40, [(.pointer none), (.pointer none), (.pointer none), (.string .empty)], false⟩
theorem ty196 : TyOk Tryz.prog 196 ti196 := TyOk.of Tryz.underlying196 (show TK.ok _ (.struct [(0, 17, 1), (1, 17, 1), (2, 17, 1), (3, 9, 1)]) _ from ⟨_, rfl, rfl, fun x hx => by simp only [List.mem_cons, List.not_mem_nil, or_false] at hx; rcases hx with rfl | rfl | rfl | rfl <;> exact ⟨by kernel_rfl, by decide⟩⟩) (.agg #[(.pointer none), (.pointer none), (.pointer none), (.string .empty)]) (by kernel_rfl) rfl rfl rfl rfl (by decide) (fun h => by cases h)
def ti197 : TyI := ⟨.struct [(0, 17, 1), (1, 17, 1), (2, 17, 1), (3, 9, 1)], 4, 40, [(.pointer none), (.pointer none), (.pointer none), (.string .empty)], false⟩
theorem ty197 : TyOk Tryz.prog 197 ti197 := TyOk.of Tryz.underlying197 (show TK.ok _ (.struct [(0, 17, 1), (1, 17, 1), (2, 17, 1), (3, 9, 1)]) _ from ⟨_, rfl, rfl, fun x hx => by simp only [List.mem_cons, List.not_mem_nil, or_false] at hx; rcases hx with rfl | rfl | rfl | rfl <;> exact ⟨by kernel_rfl, by decide⟩⟩) (.agg #[(.pointer none), (.pointer none), (.pointer none), (.string .empty)]) (by kernel_rfl) rfl rfl rfl rfl (by decide) (fun h => by cases h)
def ti198 : TyI := ⟨.array 0 16, 0, 0, [], false⟩
theorem ty198 : TyOk Tryz.prog 198 ti198 := TyOk.of Tryz.underlying198 (show TK.ok _ (.array 0 16) _ from rfl) (.agg #[]) (by kernel_rfl) rfl rfl rfl rfl (by decide) (fun h => by cases h)
def ti202 : TyI := ⟨.int .u8, 1, 1, [(.int .u8 0)], false⟩
theorem ty202 : TyOk Tryz.prog 202 ti202 := TyOk.of Tryz.underlying202 (show TK.ok _ (.int .u8) _ from rfl) (.int .u8 0) (by kernel_rfl) rfl rfl rfl rfl (by decide) (fun h => by cases h)
def ti203 : TyI := ⟨.int .u8, 1, 1, [(.int .u8 0)], false⟩
theorem ty203 : TyOk Tryz.prog 203 ti203 := TyOk.of Tryz.underlying203 (show TK.ok _ (.int .u8) _ from rfl) (.int .u8 0) (by kernel_rfl) rfl rfl rfl rfl (by decide) (fun h => by cases h)
def ti205 : TyI := ⟨.pointer 5, 1, 8, [(.pointer none)], false⟩
theorem ty205 : TyOk Tryz.prog 205 ti205 := TyOk.of Tryz.underlying205 (show TK.ok _ (.pointer 5) _ from rfl) (.pointer none) (by kernel_rfl) rfl rfl rfl rfl (by decide) (fun h => by cases h)
def ti206 : TyI := ⟨.int .i32, 1, 4, [(.int .i32 0)], false⟩
theorem ty206 : TyOk Tryz.prog 206 ti206 := TyOk.of Tryz.underlying206 (show TK.ok _ (.int .i32) _ from rfl) (.int .i32 0) (by kernel_rfl) rfl rfl rfl rfl (by decide) (fun h => by cases h)
def ti207 : TyI := ⟨.int .i32, 1, 4, [(.int .i32 0)], false⟩
theorem ty207 : TyOk Tryz.prog 207 ti207 := TyOk.of Tryz.underlying207 (show TK.ok _ (.int .i32) _ from rfl) (.int .i32 0) (by kernel_rfl) rfl rfl rfl rfl (by decide) (fun h => by cases h)
def Tys : Ty := fun t => match t with
  | 2 => some ti2
  | 3 => some ti3
  | 4 => some ti4
  | 5 => some ti5
  | 6 => some ti6
  | 7 => some ti7
  | 8 => some ti8
  | 9 => some ti9
  | 10 => some ti10
  | 11 => some ti11
  | 12 => some ti12
  | 13 => some ti13
  | 14 => some ti14
  | 15 => some ti15
  | 16 => some ti16
  | 17 => some ti17
  | 18 => some ti18
  | 19 => some ti19
  | 21 => some ti21
  | 22 => some ti22
  | 23 => some ti23
  | 24 => some ti24
  | 25 => some ti25
  | 26 => some ti26
  | 30 => some ti30
  | 31 => some ti31
  | 32 => some ti32
  | 35 => some ti35
  | 36 => some ti36
  | 37 => some ti37
  | 38 => some ti38
  | 40 => some ti40
  | 43 => some ti43
  | 46 => some ti46
  | 47 => some ti47
  | 65 => some ti65
  | 66 => some ti66
  | 68 => some ti68
  | 77 => some ti77
  | 82 => some ti82
  | 86 => some ti86
  | 96 => some ti96
  | 101 => some ti101
  | 102 => some ti102
  | 108 => some ti108
  | 109 => some ti109
  | 110 => some ti110
  | 111 => some ti111
  | 112 => some ti112
  | 113 => some ti113
  | 117 => some ti117
  | 118 => some ti118
  | 144 => some ti144
  | 153 => some ti153
  | 154 => some ti154
  | 164 => some ti164
  | 172 => some ti172
  | 174 => some ti174
  | 182 => some ti182
  | 189 => some ti189
  | 196 => some ti196
  | 197 => some ti197
  | 198 => some ti198
  | 202 => some ti202
  | 203 => some ti203
  | 205 => some ti205
  | 206 => some ti206
  | 207 => some ti207
  | _ => none
@[simp] theorem tys2 : Tys 2 = some ⟨.int .i64, 1, 8, [(.int .i64 0)], false⟩ := rfl
@[simp] theorem tys3 : Tys 3 = some ⟨.int .i64, 1, 8, [(.int .i64 0)], false⟩ := rfl
@[simp] theorem tys4 : Tys 4 = some ⟨.bool, 1, 1, [(.bool false)], false⟩ := rfl
@[simp] theorem tys5 : Tys 5 = some ⟨.int .u8, 1, 1, [(.int .u8 0)], false⟩ := rfl
@[simp] theorem tys6 : Tys 6 = some ⟨.int .u8, 1, 1, [(.int .u8 0)], false⟩ := rfl
@[simp] theorem tys7 : Tys 7 = some ⟨.struct [(0, 2, 1), (1, 3, 1), (2, 4, 1), (3, 6, 1)], 4, 24, [(.int .i64 0), (.int .i64 0), (.bool false), (.int .u8 0)], false⟩ := rfl
@[simp] theorem tys8 : Tys 8 = some ⟨.struct [(0, 2, 1), (1, 3, 1), (2, 4, 1), (3, 6, 1)], 4, 24, [(.int .i64 0), (.int .i64 0), (.bool false), (.int .u8 0)], false⟩ := rfl
@[simp] theorem tys9 : Tys 9 = some ⟨.string, 1, 16, [(.string .empty)], false⟩ := rfl
@[simp] theorem tys10 : Tys 10 = some ⟨.string, 1, 16, [(.string .empty)], false⟩ := rfl
@[simp] theorem tys11 : Tys 11 = some ⟨.string, 1, 16, [(.string .empty)], false⟩ := rfl
@[simp] theorem tys12 : Tys 12 = some ⟨.int .u64, 1, 8, [(.int .u64 0)], false⟩ := rfl
@[simp] theorem tys13 : Tys 13 = some ⟨.struct [(0, 9, 1), (1, 12, 1)], 2, 24, [(.string .empty), (.int .u64 0)], false⟩ := rfl
@[simp] theorem tys14 : Tys 14 = some ⟨.struct [(0, 9, 1), (1, 12, 1)], 2, 24, [(.string .empty), (.int .u64 0)], false⟩ := rfl
@[simp] theorem tys15 : Tys 15 = some ⟨.pointer 197, 1, 8, [(.pointer none)], false⟩ := rfl
@[simp] theorem tys16 : Tys 16 = some ⟨.pointer 200, 1, 8, [(.pointer none)], false⟩ := rfl
@[simp] theorem tys17 : Tys 17 = some ⟨.pointer 209, 1, 8, [(.pointer none)], false⟩ := rfl
@[simp] theorem tys18 : Tys 18 = some ⟨.struct [(0, 17, 1)], 1, 8, [(.pointer none)], false⟩ := rfl
@[simp] theorem tys19 : Tys 19 = some ⟨.struct [(0, 17, 1)], 1, 8, [(.pointer none)], false⟩ := rfl
@[simp] theorem tys21 : Tys 21 = some ⟨.int .i32, 1, 4, [(.int .i32 0)], false⟩ := rfl
@[simp] theorem tys22 : Tys 22 = some ⟨.slice 5, 1, 24, [(.slice none 0 0)], false⟩ := rfl
@[simp] theorem tys23 : Tys 23 = some ⟨.slice 111, 1, 24, [(.slice none 0 0)], false⟩ := rfl
@[simp] theorem tys24 : Tys 24 = some ⟨.struct [(0, 3, 1), (1, 3, 1)], 2, 16, [(.int .i64 0), (.int .i64 0)], false⟩ := rfl
@[simp] theorem tys25 : Tys 25 = some ⟨.struct [(0, 3, 1), (1, 3, 1)], 2, 16, [(.int .i64 0), (.int .i64 0)], true⟩ := rfl
@[simp] theorem tys26 : Tys 26 = some ⟨.slice 38, 1, 24, [(.slice none 0 0)], false⟩ := rfl
@[simp] theorem tys30 : Tys 30 = some ⟨.slice 32, 1, 24, [(.slice none 0 0)], false⟩ := rfl
@[simp] theorem tys31 : Tys 31 = some ⟨.struct [(0, 3, 1), (1, 3, 1), (2, 3, 1), (3, 3, 1), (4, 3, 1), (5, 30, 1)], 6, 64, [(.int .i64 0), (.int .i64 0), (.int .i64 0), (.int .i64 0), (.int .i64 0), (.slice none 0 0)], false⟩ := rfl
@[simp] theorem tys32 : Tys 32 = some ⟨.struct [(0, 3, 1), (1, 3, 1), (2, 3, 1), (3, 3, 1), (4, 3, 1), (5, 30, 1)], 6, 64, [(.int .i64 0), (.int .i64 0), (.int .i64 0), (.int .i64 0), (.int .i64 0), (.slice none 0 0)], false⟩ := rfl
@[simp] theorem tys35 : Tys 35 = some ⟨.struct [(0, 3, 1), (1, 3, 1), (2, 3, 1)], 3, 24, [(.int .i64 0), (.int .i64 0), (.int .i64 0)], false⟩ := rfl
@[simp] theorem tys36 : Tys 36 = some ⟨.struct [(0, 3, 1), (1, 3, 1), (2, 3, 1)], 3, 24, [(.int .i64 0), (.int .i64 0), (.int .i64 0)], true⟩ := rfl
@[simp] theorem tys37 : Tys 37 = some ⟨.struct [(0, 32, 6), (6, 36, 3)], 9, 88, [(.int .i64 0), (.int .i64 0), (.int .i64 0), (.int .i64 0), (.int .i64 0), (.slice none 0 0), (.int .i64 0), (.int .i64 0), (.int .i64 0)], false⟩ := rfl
@[simp] theorem tys38 : Tys 38 = some ⟨.struct [(0, 32, 6), (6, 36, 3)], 9, 88, [(.int .i64 0), (.int .i64 0), (.int .i64 0), (.int .i64 0), (.int .i64 0), (.slice none 0 0), (.int .i64 0), (.int .i64 0), (.int .i64 0)], false⟩ := rfl
@[simp] theorem tys40 : Tys 40 = some ⟨.slice 47, 1, 24, [(.slice none 0 0)], false⟩ := rfl
@[simp] theorem tys43 : Tys 43 = some ⟨.slice 66, 1, 24, [(.slice none 0 0)], false⟩ := rfl
@[simp] theorem tys46 : Tys 46 = some ⟨.struct [(0, 3, 1), (1, 3, 1), (2, 40, 1)], 3, 40, [(.int .i64 0), (.int .i64 0), (.slice none 0 0)], false⟩ := rfl
@[simp] theorem tys47 : Tys 47 = some ⟨.struct [(0, 3, 1), (1, 3, 1), (2, 40, 1)], 3, 40, [(.int .i64 0), (.int .i64 0), (.slice none 0 0)], false⟩ := rfl
@[simp] theorem tys65 : Tys 65 = some ⟨.struct [(0, 3, 1), (1, 47, 3)], 4, 48, [(.int .i64 0), (.int .i64 0), (.int .i64 0), (.slice none 0 0)], false⟩ := rfl
@[simp] theorem tys66 : Tys 66 = some ⟨.struct [(0, 3, 1), (1, 47, 3)], 4, 48, [(.int .i64 0), (.int .i64 0), (.int .i64 0), (.slice none 0 0)], false⟩ := rfl
@[simp] theorem tys68 : Tys 68 = some ⟨.pointer 102, 1, 8, [(.pointer none)], false⟩ := rfl
@[simp] theorem tys77 : Tys 77 = some ⟨.slice 118, 1, 24, [(.slice none 0 0)], false⟩ := rfl
@[simp] theorem tys82 : Tys 82 = some ⟨.slice 25, 1, 24, [(.slice none 0 0)], false⟩ := rfl
@[simp] theorem tys86 : Tys 86 = some ⟨.slice 3, 1, 24, [(.slice none 0 0)], false⟩ := rfl
@[simp] theorem tys96 : Tys 96 = some ⟨.pointer 3, 1, 8, [(.pointer none)], false⟩ := rfl
@[simp] theorem tys101 : Tys 101 = some ⟨.struct [(0, 22, 1), (1, 3, 1)], 2, 32, [(.slice none 0 0), (.int .i64 0)], false⟩ := rfl
@[simp] theorem tys102 : Tys 102 = some ⟨.struct [(0, 22, 1), (1, 3, 1)], 2, 32, [(.slice none 0 0), (.int .i64 0)], false⟩ := rfl
@[simp] theorem tys108 : Tys 108 = some ⟨.map 9 4, 1, 8, [(.map none)], false⟩ := rfl
@[simp] theorem tys109 : Tys 109 = some ⟨.slice 113, 1, 24, [(.slice none 0 0)], false⟩ := rfl
@[simp] theorem tys110 : Tys 110 = some ⟨.struct [(0, 9, 1), (1, 109, 1)], 2, 40, [(.string .empty), (.slice none 0 0)], false⟩ := rfl
@[simp] theorem tys111 : Tys 111 = some ⟨.struct [(0, 9, 1), (1, 109, 1)], 2, 40, [(.string .empty), (.slice none 0 0)], false⟩ := rfl
@[simp] theorem tys112 : Tys 112 = some ⟨.struct [(0, 9, 1), (1, 82, 1), (2, 3, 1)], 3, 48, [(.string .empty), (.slice none 0 0), (.int .i64 0)], false⟩ := rfl
@[simp] theorem tys113 : Tys 113 = some ⟨.struct [(0, 9, 1), (1, 82, 1), (2, 3, 1)], 3, 48, [(.string .empty), (.slice none 0 0), (.int .i64 0)], false⟩ := rfl
@[simp] theorem tys117 : Tys 117 = some ⟨.struct [(0, 3, 1), (1, 25, 2)], 3, 24, [(.int .i64 0), (.int .i64 0), (.int .i64 0)], false⟩ := rfl
@[simp] theorem tys118 : Tys 118 = some ⟨.struct [(0, 3, 1), (1, 25, 2)], 3, 24, [(.int .i64 0), (.int .i64 0), (.int .i64 0)], true⟩ := rfl
@[simp] theorem tys144 : Tys 144 = some ⟨.array 6 4, 6, 6, [(.bool false), (.bool false), (.bool false), (.bool false), (.bool false), (.bool false)], false⟩ := rfl
@[simp] theorem tys153 : Tys 153 = some ⟨.int .u64, 1, 8, [(.int .u64 0)], false⟩ := rfl
@[simp] theorem tys154 : Tys 154 = some ⟨.slice 9, 1, 24, [(.slice none 0 0)], false⟩ := rfl
@[simp] theorem tys164 : Tys 164 = some ⟨.int .i64, 1, 8, [(.int .i64 0)], false⟩ := rfl
@[simp] theorem tys172 : Tys 172 = some ⟨.int .u32, 1, 4, [(.int .u32 0)], false⟩ := rfl
@[simp] theorem tys174 : Tys 174 = some ⟨.int .u64, 1, 8, [(.int .u64 0)], false⟩ := rfl
@[simp] theorem tys182 : Tys 182 = some ⟨.int .u64, 1, 8, [(.int .u64 0)], false⟩ := rfl
@[simp] theorem tys189 : Tys 189 = some ⟨.pointer 182, 1, 8, [(.pointer none)], false⟩ := rfl
@[simp] theorem tys196 : Tys 196 = some ⟨.struct [(0, 17, 1), (1, 17, 1), (2, 17, 1), (3, 9, 1)], 4, 40, [(.pointer none), (.pointer none), (.pointer none), (.string .empty)], false⟩ := rfl
@[simp] theorem tys197 : Tys 197 = some ⟨.struct [(0, 17, 1), (1, 17, 1), (2, 17, 1), (3, 9, 1)], 4, 40, [(.pointer none), (.pointer none), (.pointer none), (.string .empty)], false⟩ := rfl
@[simp] theorem tys198 : Tys 198 = some ⟨.array 0 16, 0, 0, [], false⟩ := rfl
@[simp] theorem tys202 : Tys 202 = some ⟨.int .u8, 1, 1, [(.int .u8 0)], false⟩ := rfl
@[simp] theorem tys203 : Tys 203 = some ⟨.int .u8, 1, 1, [(.int .u8 0)], false⟩ := rfl
@[simp] theorem tys205 : Tys 205 = some ⟨.pointer 5, 1, 8, [(.pointer none)], false⟩ := rfl
@[simp] theorem tys206 : Tys 206 = some ⟨.int .i32, 1, 4, [(.int .i32 0)], false⟩ := rfl
@[simp] theorem tys207 : Tys 207 = some ⟨.int .i32, 1, 4, [(.int .i32 0)], false⟩ := rfl
theorem tysOk : TyAll Tryz.prog Tys := fun t i h => by
  unfold Tys at h
  split at h
  · cases h; exact ty2
  · cases h; exact ty3
  · cases h; exact ty4
  · cases h; exact ty5
  · cases h; exact ty6
  · cases h; exact ty7
  · cases h; exact ty8
  · cases h; exact ty9
  · cases h; exact ty10
  · cases h; exact ty11
  · cases h; exact ty12
  · cases h; exact ty13
  · cases h; exact ty14
  · cases h; exact ty15
  · cases h; exact ty16
  · cases h; exact ty17
  · cases h; exact ty18
  · cases h; exact ty19
  · cases h; exact ty21
  · cases h; exact ty22
  · cases h; exact ty23
  · cases h; exact ty24
  · cases h; exact ty25
  · cases h; exact ty26
  · cases h; exact ty30
  · cases h; exact ty31
  · cases h; exact ty32
  · cases h; exact ty35
  · cases h; exact ty36
  · cases h; exact ty37
  · cases h; exact ty38
  · cases h; exact ty40
  · cases h; exact ty43
  · cases h; exact ty46
  · cases h; exact ty47
  · cases h; exact ty65
  · cases h; exact ty66
  · cases h; exact ty68
  · cases h; exact ty77
  · cases h; exact ty82
  · cases h; exact ty86
  · cases h; exact ty96
  · cases h; exact ty101
  · cases h; exact ty102
  · cases h; exact ty108
  · cases h; exact ty109
  · cases h; exact ty110
  · cases h; exact ty111
  · cases h; exact ty112
  · cases h; exact ty113
  · cases h; exact ty117
  · cases h; exact ty118
  · cases h; exact ty144
  · cases h; exact ty153
  · cases h; exact ty154
  · cases h; exact ty164
  · cases h; exact ty172
  · cases h; exact ty174
  · cases h; exact ty182
  · cases h; exact ty189
  · cases h; exact ty196
  · cases h; exact ty197
  · cases h; exact ty198
  · cases h; exact ty202
  · cases h; exact ty203
  · cases h; exact ty205
  · cases h; exact ty206
  · cases h; exact ty207
  · cases h
theorem mixed : Tryz.prog.follows .mixedOrders = true := rfl
end Go.Proofs.YtimpchdgflhkaaaGreat
