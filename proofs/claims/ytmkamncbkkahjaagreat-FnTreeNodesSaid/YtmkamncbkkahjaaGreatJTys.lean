import Derived.KernelRfl
import Derived.Test.YtmkamncbkkahjaaGreatProg
import Derived.Test.YtmkamncbkkahjaaGreatJE1
set_option linter.unusedSimpArgs false
set_option linter.unusedVariables false
namespace Go.Proofs.YtmkamncbkkahjaaGreat
open Go Go.RowKit
def ti2 : TyI := ⟨.int .i64, 1, 8, [(.int .i64 0)], false⟩
theorem ty2 : TyOk Tryz.prog 2 ti2 := TyOk.of Tryz.underlying2 (show TK.ok _ (.int .i64) _ from rfl) (.int .i64 0) (by kernel_rfl) rfl rfl rfl rfl (by decide) (fun h => by cases h)
def ti3 : TyI := ⟨.int .i64, 1, 8, [(.int .i64 0)], false⟩
theorem ty3 : TyOk Tryz.prog 3 ti3 := TyOk.of Tryz.underlying3 (show TK.ok _ (.int .i64) _ from rfl) (.int .i64 0) (by kernel_rfl) rfl rfl rfl rfl (by decide) (fun h => by cases h)
def ti4 : TyI := ⟨.bool, 1, 1, [(.bool false)], false⟩
theorem ty4 : TyOk Tryz.prog 4 ti4 := TyOk.of Tryz.underlying4 (show TK.ok _ (.bool) _ from rfl) (.bool false) (by kernel_rfl) rfl rfl rfl rfl (by decide) (fun h => by cases h)
def ti5 : TyI := ⟨.int .u8, 1, 1, [(.int .u8 0)], false⟩
theorem ty5 : TyOk Tryz.prog 5 ti5 := TyOk.of Tryz.underlying5 (show TK.ok _ (.int .u8) _ from rfl) (.int .u8 0) (by kernel_rfl) rfl rfl rfl rfl (by decide) (fun h => by cases h)
def ti6 : TyI := ⟨.int .u8, 1, 1, [(.int .u8 0)], false⟩
theorem ty6 : TyOk Tryz.prog 6 ti6 := TyOk.of Tryz.underlying6 (show TK.ok _ (.int .u8) _ from rfl) (.int .u8 0) (by kernel_rfl) rfl rfl rfl rfl (by decide) (fun h => by cases h)
def ti7 : TyI := ⟨.struct [(0, 2, 1), (1, 3, 1), (2, 4, 1), (3, 6, 1)], 4, 24, [(.int .i64 0), (.int .i64 0), (.bool false), (.int .u8 0)], false⟩
theorem ty7 : TyOk Tryz.prog 7 ti7 := TyOk.of Tryz.underlying7 (show TK.ok _ (.struct [(0, 2, 1), (1, 3, 1), (2, 4, 1), (3, 6, 1)]) _ from ⟨_, rfl, rfl, fun x hx => by simp only [List.mem_cons, List.not_mem_nil, or_false] at hx; rcases hx with rfl | rfl | rfl | rfl <;> exact ⟨by kernel_rfl, by decide⟩⟩) (.agg #[(.int .i64 0), (.int .i64 0), (.bool false), (.int .u8 0)]) (by kernel_rfl) rfl rfl rfl rfl (by decide) (fun h => by cases h)
def ti8 : TyI := ⟨.struct [(0, 2, 1), (1, 3, 1), (2, 4, 1), (3, 6, 1)], 4, 24, [(.int .i64 0), (.int .i64 0), (.bool false), (.int .u8 0)], false⟩
theorem ty8 : TyOk Tryz.prog 8 ti8 := TyOk.of Tryz.underlying8 (show TK.ok _ (.struct [(0, 2, 1), (1, 3, 1), (2, 4, 1), (3, 6, 1)]) _ from ⟨_, rfl, rfl, fun x hx => by simp only [List.mem_cons, List.not_mem_nil, or_false] at hx; rcases hx with rfl | rfl | rfl | rfl <;> exact ⟨by kernel_rfl, by decide⟩⟩) (.agg #[(.int .i64 0), (.int .i64 0), (.bool false), (.int .u8 0)]) (by kernel_rfl) rfl rfl rfl rfl (by decide) (fun h => by cases h)
def ti9 : TyI := ⟨.string, 1, 16, [(.string .empty)], false⟩
theorem ty9 : TyOk Tryz.prog 9 ti9 := TyOk.of Tryz.underlying9 (show TK.ok _ (.string) _ from rfl) (.string .empty) (by kernel_rfl) rfl rfl rfl rfl (by decide) (fun h => by cases h)
def ti10 : TyI := ⟨.string, 1, 16, [(.string .empty)], false⟩
theorem ty10 : TyOk Tryz.prog 10 ti10 := TyOk.of Tryz.underlying10 (show TK.ok _ (.string) _ from rfl) (.string .empty) (by kernel_rfl) rfl rfl rfl rfl (by decide) (fun h => by cases h)
def ti11 : TyI := ⟨.string, 1, 16, [(.string .empty)], false⟩
theorem ty11 : TyOk Tryz.prog 11 ti11 := TyOk.of Tryz.underlying11 (show TK.ok _ (.string) _ from rfl) (.string .empty) (by kernel_rfl) rfl rfl rfl rfl (by decide) (fun h => by cases h)
def ti12 : TyI := ⟨.int .u64, 1, 8, [(.int .u64 0)], false⟩
theorem ty12 : TyOk Tryz.prog 12 ti12 := TyOk.of Tryz.underlying12 (show TK.ok _ (.int .u64) _ from rfl) (.int .u64 0) (by kernel_rfl) rfl rfl rfl rfl (by decide) (fun h => by cases h)
def ti13 : TyI := ⟨.struct [(0, 9, 1), (1, 12, 1)], 2, 24, [(.string .empty), (.int .u64 0)], false⟩
theorem ty13 : TyOk Tryz.prog 13 ti13 := TyOk.of Tryz.underlying13 (show TK.ok _ (.struct [(0, 9, 1), (1, 12, 1)]) _ from ⟨_, rfl, rfl, fun x hx => by simp only [List.mem_cons, List.not_mem_nil, or_false] at hx; rcases hx with rfl | rfl <;> exact ⟨by kernel_rfl, by decide⟩⟩) (.agg #[(.string .empty), (.int .u64 0)]) (by kernel_rfl) rfl rfl rfl rfl (by decide) (fun h => by cases h)
def ti14 : TyI := ⟨.struct [(0, 9, 1), (1, 12, 1)], 2, 24, [(.string .empty), (.int .u64 0)], false⟩
theorem ty14 : TyOk Tryz.prog 14 ti14 := TyOk.of Tryz.underlying14 (show TK.ok _ (.struct [(0, 9, 1), (1, 12, 1)]) _ from ⟨_, rfl, rfl, fun x hx => by simp only [List.mem_cons, List.not_mem_nil, or_false] at hx; rcases hx with rfl | rfl <;> exact ⟨by kernel_rfl, by decide⟩⟩) (.agg #[(.string .empty), (.int .u64 0)]) (by kernel_rfl) rfl rfl rfl rfl (by decide) (fun h => by cases h)
def ti15 : TyI := ⟨.pointer 371, 1, 8, [(.pointer none)], false⟩
theorem ty15 : TyOk Tryz.prog 15 ti15 := TyOk.of Tryz.underlying15 (show TK.ok _ (.pointer 371) _ from rfl) (.pointer none) (by kernel_rfl) rfl rfl rfl rfl (by decide) (fun h => by cases h)
def ti16 : TyI := ⟨.pointer 374, 1, 8, [(.pointer none)], false⟩
theorem ty16 : TyOk Tryz.prog 16 ti16 := TyOk.of Tryz.underlying16 (show TK.ok _ (.pointer 374) _ from rfl) (.pointer none) (by kernel_rfl) rfl rfl rfl rfl (by decide) (fun h => by cases h)
def ti17 : TyI := ⟨.pointer 383, 1, 8, [(.pointer none)], false⟩
theorem ty17 : TyOk Tryz.prog 17 ti17 := TyOk.of Tryz.underlying17 (show TK.ok _ (.pointer 383) _ from rfl) (.pointer none) (by kernel_rfl) rfl rfl rfl rfl (by decide) (fun h => by cases h)
def ti18 : TyI := ⟨.struct [(0, 17, 1)], 1, 8, [(.pointer none)], false⟩
theorem ty18 : TyOk Tryz.prog 18 ti18 := TyOk.of Tryz.underlying18 (show TK.ok _ (.struct [(0, 17, 1)]) _ from ⟨_, rfl, rfl, fun x hx => by simp only [List.mem_cons, List.not_mem_nil, or_false] at hx; rcases hx with rfl <;> exact ⟨by kernel_rfl, by decide⟩⟩) (.agg #[(.pointer none)]) (by kernel_rfl) rfl rfl rfl rfl (by decide) (fun h => by cases h)
def ti19 : TyI := ⟨.struct [(0, 17, 1)], 1, 8, [(.pointer none)], false⟩
theorem ty19 : TyOk Tryz.prog 19 ti19 := TyOk.of Tryz.underlying19 (show TK.ok _ (.struct [(0, 17, 1)]) _ from ⟨_, rfl, rfl, fun x hx => by simp only [List.mem_cons, List.not_mem_nil, or_false] at hx; rcases hx with rfl <;> exact ⟨by kernel_rfl, by decide⟩⟩) (.agg #[(.pointer none)]) (by kernel_rfl) rfl rfl rfl rfl (by decide) (fun h => by cases h)
def ti21 : TyI := ⟨.int .i32, 1, 4, [(.int .i32 0)], false⟩
theorem ty21 : TyOk Tryz.prog 21 ti21 := TyOk.of Tryz.underlying21 (show TK.ok _ (.int .i32) _ from rfl) (.int .i32 0) (by kernel_rfl) rfl rfl rfl rfl (by decide) (fun h => by cases h)
def ti22 : TyI := ⟨.slice 5, 1, 24, [(.slice none 0 0)], false⟩
theorem ty22 : TyOk Tryz.prog 22 ti22 := TyOk.of Tryz.underlying22 (show TK.ok _ (.slice 5) _ from rfl) (.slice none 0 0) (by kernel_rfl) rfl rfl rfl rfl (by decide) (fun h => by cases h)
def ti23 : TyI := ⟨.slice 190, 1, 24, [(.slice none 0 0)], false⟩
theorem ty23 : TyOk Tryz.prog 23 ti23 := TyOk.of Tryz.underlying23 (show TK.ok _ (.slice 190) _ from rfl) (.slice none 0 0) (by kernel_rfl) rfl rfl rfl rfl (by decide) (fun h => by cases h)
def ti24 : TyI := ⟨.struct [(0, 3, 1), (1, 3, 1)], 2, 16, [(.int .i64 0), (.int .i64 0)], false⟩
theorem ty24 : TyOk Tryz.prog 24 ti24 := TyOk.of Tryz.underlying24 (show TK.ok _ (.struct [(0, 3, 1), (1, 3, 1)]) _ from ⟨_, rfl, rfl, fun x hx => by simp only [List.mem_cons, List.not_mem_nil, or_false] at hx; rcases hx with rfl | rfl <;> exact ⟨by kernel_rfl, by decide⟩⟩) (.agg #[(.int .i64 0), (.int .i64 0)]) (by kernel_rfl) rfl rfl rfl rfl (by decide) (fun h => by cases h)
def ti25 : TyI := ⟨.struct [(0, 3, 1), (1, 3, 1)], 2, 16, [(.int .i64 0), (.int .i64 0)], true⟩
theorem ty25 : TyOk Tryz.prog 25 ti25 := TyOk.of Tryz.underlying25 (show TK.ok _ (.struct [(0, 3, 1), (1, 3, 1)]) _ from ⟨_, rfl, rfl, fun x hx => by simp only [List.mem_cons, List.not_mem_nil, or_false] at hx; rcases hx with rfl | rfl <;> exact ⟨by kernel_rfl, by decide⟩⟩) (.agg #[(.int .i64 0), (.int .i64 0)]) (by kernel_rfl) rfl rfl rfl rfl (by decide) (fun _ fs h => by cases h; exact ⟨by kernel_rfl, by kernel_rfl, by kernel_rfl, by kernel_rfl⟩)
def ti26 : TyI := ⟨.slice 45, 1, 24, [(.slice none 0 0)], false⟩
theorem ty26 : TyOk Tryz.prog 26 ti26 := TyOk.of Tryz.underlying26 (show TK.ok _ (.slice 45) _ from rfl) (.slice none 0 0) (by kernel_rfl) rfl rfl rfl rfl (by decide) (fun h => by cases h)
def ti27 : TyI := ⟨.slice 29, 1, 24, [(.slice none 0 0)], false⟩
theorem ty27 : TyOk Tryz.prog 27 ti27 := TyOk.of Tryz.underlying27 (show TK.ok _ (.slice 29) _ from rfl) (.slice none 0 0) (by kernel_rfl) rfl rfl rfl rfl (by decide) (fun h => by cases h)
def ti28 : TyI := ⟨.struct [(0, 3, 1), (1, 3, 1), (2, 27, 1)], 3, 40, [(.int .i64 0), (.int .i64 0), (.slice none 0 0)], false⟩
theorem ty28 : TyOk Tryz.prog 28 ti28 := TyOk.of Tryz.underlying28 (show TK.ok _ (.struct [(0, 3, 1), (1, 3, 1), (2, 27, 1)]) _ from ⟨_, rfl, rfl, fun x hx => by simp only [List.mem_cons, List.not_mem_nil, or_false] at hx; rcases hx with rfl | rfl | rfl <;> exact ⟨by kernel_rfl, by decide⟩⟩) (.agg #[(.int .i64 0), (.int .i64 0), (.slice none 0 0)]) (by kernel_rfl) rfl rfl rfl rfl (by decide) (fun h => by cases h)
def ti29 : TyI := ⟨.struct [(0, 3, 1), (1, 3, 1), (2, 27, 1)], 3, 40, [(.int .i64 0), (.int .i64 0), (.slice none 0 0)], false⟩
theorem ty29 : TyOk Tryz.prog 29 ti29 := TyOk.of Tryz.underlying29 (show TK.ok _ (.struct [(0, 3, 1), (1, 3, 1), (2, 27, 1)]) _ from ⟨_, rfl, rfl, fun x hx => by simp only [List.mem_cons, List.not_mem_nil, or_false] at hx; rcases hx with rfl | rfl | rfl <;> exact ⟨by kernel_rfl, by decide⟩⟩) (.agg #[(.int .i64 0), (.int .i64 0), (.slice none 0 0)]) (by kernel_rfl) rfl rfl rfl rfl (by decide) (fun h => by cases h)
def ti32 : TyI := ⟨.slice 87, 1, 24, [(.slice none 0 0)], false⟩
theorem ty32 : TyOk Tryz.prog 32 ti32 := TyOk.of Tryz.underlying32 (show TK.ok _ (.slice 87) _ from rfl) (.slice none 0 0) (by kernel_rfl) rfl rfl rfl rfl (by decide) (fun h => by cases h)
def ti39 : TyI := ⟨.slice 41, 1, 24, [(.slice none 0 0)], false⟩
theorem ty39 : TyOk Tryz.prog 39 ti39 := TyOk.of Tryz.underlying39 (show TK.ok _ (.slice 41) _ from rfl) (.slice none 0 0) (by kernel_rfl) rfl rfl rfl rfl (by decide) (fun h => by cases h)
def ti40 : TyI := ⟨.struct [(0, 3, 1), (1, 3, 1), (2, 3, 1), (3, 3, 1), (4, 3, 1), (5, 39, 1)], 6, 64, [(.int .i64 0), (.int .i64 0), (.int .i64 0), (.int .i64 0), (.int .i64 0), (.slice none 0 0)], false⟩
theorem ty40 : TyOk Tryz.prog 40 ti40 := TyOk.of Tryz.underlying40 (show TK.ok _ (.struct [(0, 3, 1), (1, 3, 1), (2, 3, 1), (3, 3, 1), (4, 3, 1), (5, 39, 1)]) _ from ⟨_, rfl, rfl, fun x hx => by simp only [List.mem_cons, List.not_mem_nil, or_false] at hx; rcases hx with rfl | rfl | rfl | rfl | rfl | rfl <;> exact ⟨by kernel_rfl, by decide⟩⟩) (.agg #[(.int .i64 0), (.int .i64 0), (.int .i64 0), (.int .i64 0), (.int .i64 0), (.slice none 0 0)]) (by kernel_rfl) rfl rfl rfl rfl (by decide) (fun h => by cases h)
def ti41 : TyI := ⟨.struct [(0, 3, 1), (1, 3, 1), (2, 3, 1), (3, 3, 1), (4, 3, 1), (5, 39, 1)], 6, 64, [(.int .i64 0), (.int .i64 0), (.int .i64 0), (.int .i64 0), (.int .i64 0), (.slice none 0 0)], false⟩
theorem ty41 : TyOk Tryz.prog 41 ti41 := TyOk.of Tryz.underlying41 (show TK.ok _ (.struct [(0, 3, 1), (1, 3, 1), (2, 3, 1), (3, 3, 1), (4, 3, 1), (5, 39, 1)]) _ from ⟨_, rfl, rfl, fun x hx => by simp only [List.mem_cons, List.not_mem_nil, or_false] at hx; rcases hx with rfl | rfl | rfl | rfl | rfl | rfl <;> exact ⟨by kernel_rfl, by decide⟩⟩) (.agg #[(.int .i64 0), (.int .i64 0), (.int .i64 0), (.int .i64 0), (.int .i64 0), (.slice none 0 0)]) (by kernel_rfl) rfl rfl rfl rfl (by decide) (fun h => by cases h)
def ti42 : TyI := ⟨.struct [(0, 3, 1), (1, 3, 1), (2, 3, 1)], 3, 24, [(.int .i64 0), (.int .i64 0), (.int .i64 0)], false⟩
theorem ty42 : TyOk Tryz.prog 42 ti42 := TyOk.of Tryz.underlying42 (show TK.ok _ (.struct [(0, 3, 1), (1, 3, 1), (2, 3, 1)]) _ from ⟨_, rfl, rfl, fun x hx => by simp only [List.mem_cons, List.not_mem_nil, or_false] at hx; rcases hx with rfl | rfl | rfl <;> exact ⟨by kernel_rfl, by decide⟩⟩) (.agg #[(.int .i64 0), (.int .i64 0), (.int .i64 0)]) (by kernel_rfl) rfl rfl rfl rfl (by decide) (fun h => by cases h)
def ti43 : TyI := ⟨.struct [(0, 3, 1), (1, 3, 1), (2, 3, 1)], 3, 24, [(.int .i64 0), (.int .i64 0), (.int .i64 0)], true⟩
theorem ty43 : TyOk Tryz.prog 43 ti43 := TyOk.of Tryz.underlying43 (show TK.ok _ (.struct [(0, 3, 1), (1, 3, 1), (2, 3, 1)]) _ from ⟨_, rfl, rfl, fun x hx => by simp only [List.mem_cons, List.not_mem_nil, or_false] at hx; rcases hx with rfl | rfl | rfl <;> exact ⟨by kernel_rfl, by decide⟩⟩) (.agg #[(.int .i64 0), (.int .i64 0), (.int .i64 0)]) (by kernel_rfl) rfl rfl rfl rfl (by decide) (fun _ fs h => by cases h; exact ⟨by kernel_rfl, by kernel_rfl, by kernel_rfl, by kernel_rfl⟩)
def ti44 : TyI := ⟨.struct [(0, 41, 6), (6, 43, 3)], 9, 88, [(.int .i64 0), (.int .i64 0), (.int .i64 0), (.int .i64 0), (.int .i64 0), (.slice none 0 0), (.int .i64 0), (.int .i64 0), (.int .i64 0)], false⟩
theorem ty44 : TyOk Tryz.prog 44 ti44 := TyOk.of Tryz.underlying44 (show TK.ok _ (.struct [(0, 41, 6), (6, 43, 3)]) _ from ⟨_, rfl, rfl, fun x hx => by simp only [List.mem_cons, List.not_mem_nil, or_false] at hx; rcases hx with rfl | rfl <;> exact ⟨by kernel_rfl, by decide⟩⟩) (.agg #[(.int .i64 0), (.int .i64 0), (.int .i64 0), (.int .i64 0), (.int .i64 0), (.slice none 0 0), (.int .i64 0), (.int .i64 0), (.int .i64 0)]) (by kernel_rfl) rfl rfl rfl rfl (by decide) (fun h => by cases h)
def ti45 : TyI := ⟨.struct [(0, 41, 6), (6, 43, 3)], 9, 88, [(.int .i64 0), (.int .i64 0), (.int .i64 0), (.int .i64 0), (.int .i64 0), (.slice none 0 0), (.int .i64 0), (.int .i64 0), (.int .i64 0)], false⟩
theorem ty45 : TyOk Tryz.prog 45 ti45 := TyOk.of Tryz.underlying45 (show TK.ok _ (.struct [(0, 41, 6), (6, 43, 3)]) _ from ⟨_, rfl, rfl, fun x hx => by simp only [List.mem_cons, List.not_mem_nil, or_false] at hx; rcases hx with rfl | rfl <;> exact ⟨by kernel_rfl, by decide⟩⟩) (.agg #[(.int .i64 0), (.int .i64 0), (.int .i64 0), (.int .i64 0), (.int .i64 0), (.slice none 0 0), (.int .i64 0), (.int .i64 0), (.int .i64 0)]) (by kernel_rfl) rfl rfl rfl rfl (by decide) (fun h => by cases h)
def ti57 : TyI := ⟨.slice 3, 1, 24, [(.slice none 0 0)], false⟩
theorem ty57 : TyOk Tryz.prog 57 ti57 := TyOk.of Tryz.underlying57 (show TK.ok _ (.slice 3) _ from rfl) (.slice none 0 0) (by kernel_rfl) rfl rfl rfl rfl (by decide) (fun h => by cases h)
def ti65 : TyI := ⟨.slice 140, 1, 24, [(.slice none 0 0)], false⟩
theorem ty65 : TyOk Tryz.prog 65 ti65 := TyOk.of Tryz.underlying65 (show TK.ok _ (.slice 140) _ from rfl) (.slice none 0 0) (by kernel_rfl) rfl rfl rfl rfl (by decide) (fun h => by cases h)
def ti66 : TyI := ⟨.slice 142, 1, 24, [(.slice none 0 0)], false⟩
theorem ty66 : TyOk Tryz.prog 66 ti66 := TyOk.of Tryz.underlying66 (show TK.ok _ (.slice 142) _ from rfl) (.slice none 0 0) (by kernel_rfl) rfl rfl rfl rfl (by decide) (fun h => by cases h)
def ti67 : TyI := ⟨.slice 69, 1, 24, [(.slice none 0 0)], false⟩
theorem ty67 : TyOk Tryz.prog 67 ti67 := TyOk.of Tryz.underlying67 (show TK.ok _ (.slice 69) _ from rfl) (.slice none 0 0) (by kernel_rfl) rfl rfl rfl rfl (by decide) (fun h => by cases h)
def ti68 : TyI := ⟨.struct [(0, 3, 1), (1, 3, 1), (2, 65, 1), (3, 57, 1), (4, 66, 1), (5, 67, 1)], 6, 112, [(.int .i64 0), (.int .i64 0), (.slice none 0 0), (.slice none 0 0), (.slice none 0 0), (.slice none 0 0)], false⟩
theorem ty68 : TyOk Tryz.prog 68 ti68 := TyOk.of Tryz.underlying68 (show TK.ok _ (.struct [(0, 3, 1), (1, 3, 1), (2, 65, 1), (3, 57, 1), (4, 66, 1), (5, 67, 1)]) _ from ⟨_, rfl, rfl, fun x hx => by simp only [List.mem_cons, List.not_mem_nil, or_false] at hx; rcases hx with rfl | rfl | rfl | rfl | rfl | rfl <;> exact ⟨by kernel_rfl, by decide⟩⟩) (.agg #[(.int .i64 0), (.int .i64 0), (.slice none 0 0), (.slice none 0 0), (.slice none 0 0), (.slice none 0 0)]) (by kernel_rfl) rfl rfl rfl rfl (by decide) (fun h => by cases h)
def ti69 : TyI := ⟨.struct [(0, 3, 1), (1, 3, 1), (2, 65, 1), (3, 57, 1), (4, 66, 1), (5, 67, 1)], 6, 112, [(.int .i64 0), (.int .i64 0), (.slice none 0 0), (.slice none 0 0), (.slice none 0 0), (.slice none 0 0)], false⟩
theorem ty69 : TyOk Tryz.prog 69 ti69 := TyOk.of Tryz.underlying69 (show TK.ok _ (.struct [(0, 3, 1), (1, 3, 1), (2, 65, 1), (3, 57, 1), (4, 66, 1), (5, 67, 1)]) _ from ⟨_, rfl, rfl, fun x hx => by simp only [List.mem_cons, List.not_mem_nil, or_false] at hx; rcases hx with rfl | rfl | rfl | rfl | rfl | rfl <;> exact ⟨by kernel_rfl, by decide⟩⟩) (.agg #[(.int .i64 0), (.int .i64 0), (.slice none 0 0), (.slice none 0 0), (.slice none 0 0), (.slice none 0 0)]) (by kernel_rfl) rfl rfl rfl rfl (by decide) (fun h => by cases h)
def ti75 : TyI := ⟨.slice 81, 1, 24, [(.slice none 0 0)], false⟩
theorem ty75 : TyOk Tryz.prog 75 ti75 := TyOk.of Tryz.underlying75 (show TK.ok _ (.slice 81) _ from rfl) (.slice none 0 0) (by kernel_rfl) rfl rfl rfl rfl (by decide) (fun h => by cases h)
def ti80 : TyI := ⟨.struct [(0, 3, 1), (1, 57, 1), (2, 3, 1), (3, 3, 1), (4, 3, 1), (5, 3, 1), (6, 65, 1), (7, 3, 1)], 8, 96, [(.int .i64 0), (.slice none 0 0), (.int .i64 0), (.int .i64 0), (.int .i64 0), (.int .i64 0), (.slice none 0 0), (.int .i64 0)], false⟩
theorem ty80 : TyOk Tryz.prog 80 ti80 := TyOk.of Tryz.underlying80 (show TK.ok _ (.struct [(0, 3, 1), (1, 57, 1), (2, 3, 1), (3, 3, 1), (4, 3, 1), (5, 3, 1), (6, 65, 1), (7, 3, 1)]) _ from ⟨_, rfl, rfl, fun x hx => by simp only [List.mem_cons, List.not_mem_nil, or_false] at hx; rcases hx with rfl | rfl | rfl | rfl | rfl | rfl | rfl | rfl <;> exact ⟨by kernel_rfl, by decide⟩⟩) (.agg #[(.int .i64 0), (.slice none 0 0), (.int .i64 0), (.int .i64 0), (.int .i64 0), (.int .i64 0), (.slice none 0 0), (.int .i64 0)]) (by kernel_rfl) rfl rfl rfl rfl (by decide) (fun h => by cases h)
def ti81 : TyI := ⟨.struct [(0, 3, 1), (1, 57, 1), (2, 3, 1), (3, 3, 1), (4, 3, 1), (5, 3, 1), (6, 65, 1), (7, 3, 1)], 8, 96, [(.int .i64 0), (.slice none 0 0), (.int .i64 0), (.int .i64 0), (.int .i64 0), (.int .i64 0), (.slice none 0 0), (.int .i64 0)], false⟩
theorem ty81 : TyOk Tryz.prog 81 ti81 := TyOk.of Tryz.underlying81 (show TK.ok _ (.struct [(0, 3, 1), (1, 57, 1), (2, 3, 1), (3, 3, 1), (4, 3, 1), (5, 3, 1), (6, 65, 1), (7, 3, 1)]) _ from ⟨_, rfl, rfl, fun x hx => by simp only [List.mem_cons, List.not_mem_nil, or_false] at hx; rcases hx with rfl | rfl | rfl | rfl | rfl | rfl | rfl | rfl <;> exact ⟨by kernel_rfl, by decide⟩⟩) (.agg #[(.int .i64 0), (.slice none 0 0), (.int .i64 0), (.int .i64 0), (.int .i64 0), (.int .i64 0), (.slice none 0 0), (.int .i64 0)]) (by kernel_rfl) rfl rfl rfl rfl (by decide) (fun h => by cases h)
def ti83 : TyI := ⟨.slice 57, 1, 24, [(.slice none 0 0)], false⟩
theorem ty83 : TyOk Tryz.prog 83 ti83 := TyOk.of Tryz.underlying83 (show TK.ok _ (.slice 57) _ from rfl) (.slice none 0 0) (by kernel_rfl) rfl rfl rfl rfl (by decide) (fun h => by cases h)
def ti86 : TyI := ⟨.struct [(0, 3, 1), (1, 29, 3)], 4, 48, [(.int .i64 0), (.int .i64 0), (.int .i64 0), (.slice none 0 0)], false⟩
theorem ty86 : TyOk Tryz.prog 86 ti86 := TyOk.of Tryz.underlying86 (show TK.ok _ (.struct [(0, 3, 1), (1, 29, 3)]) _ from ⟨_, rfl, rfl, fun x hx => by simp only [List.mem_cons, List.not_mem_nil, or_false] at hx; rcases hx with rfl | rfl <;> exact ⟨by kernel_rfl, by decide⟩⟩) (.agg #[(.int .i64 0), (.int .i64 0), (.int .i64 0), (.slice none 0 0)]) (by kernel_rfl) rfl rfl rfl rfl (by decide) (fun h => by cases h)
def ti87 : TyI := ⟨.struct [(0, 3, 1), (1, 29, 3)], 4, 48, [(.int .i64 0), (.int .i64 0), (.int .i64 0), (.slice none 0 0)], false⟩
theorem ty87 : TyOk Tryz.prog 87 ti87 := TyOk.of Tryz.underlying87 (show TK.ok _ (.struct [(0, 3, 1), (1, 29, 3)]) _ from ⟨_, rfl, rfl, fun x hx => by simp only [List.mem_cons, List.not_mem_nil, or_false] at hx; rcases hx with rfl | rfl <;> exact ⟨by kernel_rfl, by decide⟩⟩) (.agg #[(.int .i64 0), (.int .i64 0), (.int .i64 0), (.slice none 0 0)]) (by kernel_rfl) rfl rfl rfl rfl (by decide) (fun h => by cases h)
def ti103 : TyI := ⟨.pointer 186, 1, 8, [(.pointer none)], false⟩
theorem ty103 : TyOk Tryz.prog 103 ti103 := TyOk.of Tryz.underlying103 (show TK.ok _ (.pointer 186) _ from rfl) (.pointer none) (by kernel_rfl) rfl rfl rfl rfl (by decide) (fun h => by cases h)
def ti108 : TyI := ⟨.slice 9, 1, 24, [(.slice none 0 0)], false⟩
theorem ty108 : TyOk Tryz.prog 108 ti108 := TyOk.of Tryz.underlying108 (show TK.ok _ (.slice 9) _ from rfl) (.slice none 0 0) (by kernel_rfl) rfl rfl rfl rfl (by decide) (fun h => by cases h)
def ti118 : TyI := ⟨.array 8 4, 8, 8, [(.bool false), (.bool false), (.bool false), (.bool false), (.bool false), (.bool false), (.bool false), (.bool false)], false⟩
theorem ty118 : TyOk Tryz.prog 118 ti118 := TyOk.of Tryz.underlying118 (show TK.ok _ (.array 8 4) _ from rfl) (.agg #[(.bool false), (.bool false), (.bool false), (.bool false), (.bool false), (.bool false), (.bool false), (.bool false)]) (by kernel_rfl) rfl rfl rfl rfl (by decide) (fun h => by cases h)
def ti119 : TyI := ⟨.slice 4, 1, 24, [(.slice none 0 0)], false⟩
theorem ty119 : TyOk Tryz.prog 119 ti119 := TyOk.of Tryz.underlying119 (show TK.ok _ (.slice 4) _ from rfl) (.slice none 0 0) (by kernel_rfl) rfl rfl rfl rfl (by decide) (fun h => by cases h)
def ti122 : TyI := ⟨.slice 39, 1, 24, [(.slice none 0 0)], false⟩
theorem ty122 : TyOk Tryz.prog 122 ti122 := TyOk.of Tryz.underlying122 (show TK.ok _ (.slice 39) _ from rfl) (.slice none 0 0) (by kernel_rfl) rfl rfl rfl rfl (by decide) (fun h => by cases h)
def ti125 : TyI := ⟨.slice 127, 1, 24, [(.slice none 0 0)], false⟩
theorem ty125 : TyOk Tryz.prog 125 ti125 := TyOk.of Tryz.underlying125 (show TK.ok _ (.slice 127) _ from rfl) (.slice none 0 0) (by kernel_rfl) rfl rfl rfl rfl (by decide) (fun h => by cases h)
def ti126 : TyI := ⟨.struct [(0, 3, 1), (1, 39, 1), (2, 65, 1)], 3, 56, [(.int .i64 0), (.slice none 0 0), (.slice none 0 0)], false⟩
theorem ty126 : TyOk Tryz.prog 126 ti126 := TyOk.of Tryz.underlying126 (show TK.ok _ (.struct [(0, 3, 1), (1, 39, 1), (2, 65, 1)]) _ from ⟨_, rfl, rfl, fun x hx => by simp only [List.mem_cons, List.not_mem_nil, or_false] at hx; rcases hx with rfl | rfl | rfl <;> exact ⟨by kernel_rfl, by decide⟩⟩) (.agg #[(.int .i64 0), (.slice none 0 0), (.slice none 0 0)]) (by kernel_rfl) rfl rfl rfl rfl (by decide) (fun h => by cases h)
def ti127 : TyI := ⟨.struct [(0, 3, 1), (1, 39, 1), (2, 65, 1)], 3, 56, [(.int .i64 0), (.slice none 0 0), (.slice none 0 0)], false⟩
theorem ty127 : TyOk Tryz.prog 127 ti127 := TyOk.of Tryz.underlying127 (show TK.ok _ (.struct [(0, 3, 1), (1, 39, 1), (2, 65, 1)]) _ from ⟨_, rfl, rfl, fun x hx => by simp only [List.mem_cons, List.not_mem_nil, or_false] at hx; rcases hx with rfl | rfl | rfl <;> exact ⟨by kernel_rfl, by decide⟩⟩) (.agg #[(.int .i64 0), (.slice none 0 0), (.slice none 0 0)]) (by kernel_rfl) rfl rfl rfl rfl (by decide) (fun h => by cases h)
def ti129 : TyI := ⟨.pointer 133, 1, 8, [(.pointer none)], false⟩
theorem ty129 : TyOk Tryz.prog 129 ti129 := TyOk.of Tryz.underlying129 (show TK.ok _ (.pointer 133) _ from rfl) (.pointer none) (by kernel_rfl) rfl rfl rfl rfl (by decide) (fun h => by cases h)
def ti130 : TyI := ⟨.pointer 226, 1, 8, [(.pointer none)], false⟩
theorem ty130 : TyOk Tryz.prog 130 ti130 := TyOk.of Tryz.underlying130 (show TK.ok _ (.pointer 226) _ from rfl) (.pointer none) (by kernel_rfl) rfl rfl rfl rfl (by decide) (fun h => by cases h)
def ti132 : TyI := ⟨.struct [(0, 130, 1), (1, 26, 1), (2, 3, 1), (3, 3, 1)], 4, 48, [(.pointer none), (.slice none 0 0), (.int .i64 0), (.int .i64 0)], false⟩
theorem ty132 : TyOk Tryz.prog 132 ti132 := TyOk.of Tryz.underlying132 (show TK.ok _ (.struct [(0, 130, 1), (1, 26, 1), (2, 3, 1), (3, 3, 1)]) _ from ⟨_, rfl, rfl, fun x hx => by simp only [List.mem_cons, List.not_mem_nil, or_false] at hx; rcases hx with rfl | rfl | rfl | rfl <;> exact ⟨by kernel_rfl, by decide⟩⟩) (.agg #[(.pointer none), (.slice none 0 0), (.int .i64 0), (.int .i64 0)]) (by kernel_rfl) rfl rfl rfl rfl (by decide) (fun h => by cases h)
def ti133 : TyI := ⟨.struct [(0, 130, 1), (1, 26, 1), (2, 3, 1), (3, 3, 1)], 4, 48, [(.pointer none), (.slice none 0 0), (.int .i64 0), (.int .i64 0)], false⟩
theorem ty133 : TyOk Tryz.prog 133 ti133 := TyOk.of Tryz.underlying133 (show TK.ok _ (.struct [(0, 130, 1), (1, 26, 1), (2, 3, 1), (3, 3, 1)]) _ from ⟨_, rfl, rfl, fun x hx => by simp only [List.mem_cons, List.not_mem_nil, or_false] at hx; rcases hx with rfl | rfl | rfl | rfl <;> exact ⟨by kernel_rfl, by decide⟩⟩) (.agg #[(.pointer none), (.slice none 0 0), (.int .i64 0), (.int .i64 0)]) (by kernel_rfl) rfl rfl rfl rfl (by decide) (fun h => by cases h)
def ti135 : TyI := ⟨.struct [(0, 57, 1), (1, 25, 2)], 3, 40, [(.slice none 0 0), (.int .i64 0), (.int .i64 0)], false⟩
theorem ty135 : TyOk Tryz.prog 135 ti135 := TyOk.of Tryz.underlying135 (show TK.ok _ (.struct [(0, 57, 1), (1, 25, 2)]) _ from ⟨_, rfl, rfl, fun x hx => by simp only [List.mem_cons, List.not_mem_nil, or_false] at hx; rcases hx with rfl | rfl <;> exact ⟨by kernel_rfl, by decide⟩⟩) (.agg #[(.slice none 0 0), (.int .i64 0), (.int .i64 0)]) (by kernel_rfl) rfl rfl rfl rfl (by decide) (fun h => by cases h)
def ti136 : TyI := ⟨.struct [(0, 57, 1), (1, 25, 2)], 3, 40, [(.slice none 0 0), (.int .i64 0), (.int .i64 0)], false⟩
theorem ty136 : TyOk Tryz.prog 136 ti136 := TyOk.of Tryz.underlying136 (show TK.ok _ (.struct [(0, 57, 1), (1, 25, 2)]) _ from ⟨_, rfl, rfl, fun x hx => by simp only [List.mem_cons, List.not_mem_nil, or_false] at hx; rcases hx with rfl | rfl <;> exact ⟨by kernel_rfl, by decide⟩⟩) (.agg #[(.slice none 0 0), (.int .i64 0), (.int .i64 0)]) (by kernel_rfl) rfl rfl rfl rfl (by decide) (fun h => by cases h)
def ti137 : TyI := ⟨.slice 136, 1, 24, [(.slice none 0 0)], false⟩
theorem ty137 : TyOk Tryz.prog 137 ti137 := TyOk.of Tryz.underlying137 (show TK.ok _ (.slice 136) _ from rfl) (.slice none 0 0) (by kernel_rfl) rfl rfl rfl rfl (by decide) (fun h => by cases h)
def ti139 : TyI := ⟨.struct [(0, 3, 1), (1, 57, 1)], 2, 32, [(.int .i64 0), (.slice none 0 0)], false⟩
theorem ty139 : TyOk Tryz.prog 139 ti139 := TyOk.of Tryz.underlying139 (show TK.ok _ (.struct [(0, 3, 1), (1, 57, 1)]) _ from ⟨_, rfl, rfl, fun x hx => by simp only [List.mem_cons, List.not_mem_nil, or_false] at hx; rcases hx with rfl | rfl <;> exact ⟨by kernel_rfl, by decide⟩⟩) (.agg #[(.int .i64 0), (.slice none 0 0)]) (by kernel_rfl) rfl rfl rfl rfl (by decide) (fun h => by cases h)
def ti140 : TyI := ⟨.struct [(0, 3, 1), (1, 57, 1)], 2, 32, [(.int .i64 0), (.slice none 0 0)], false⟩
theorem ty140 : TyOk Tryz.prog 140 ti140 := TyOk.of Tryz.underlying140 (show TK.ok _ (.struct [(0, 3, 1), (1, 57, 1)]) _ from ⟨_, rfl, rfl, fun x hx => by simp only [List.mem_cons, List.not_mem_nil, or_false] at hx; rcases hx with rfl | rfl <;> exact ⟨by kernel_rfl, by decide⟩⟩) (.agg #[(.int .i64 0), (.slice none 0 0)]) (by kernel_rfl) rfl rfl rfl rfl (by decide) (fun h => by cases h)
def ti141 : TyI := ⟨.struct [(0, 3, 1), (1, 3, 1), (2, 3, 1), (3, 69, 6)], 9, 136, [(.int .i64 0), (.int .i64 0), (.int .i64 0), (.int .i64 0), (.int .i64 0), (.slice none 0 0), (.slice none 0 0), (.slice none 0 0), (.slice none 0 0)], false⟩
theorem ty141 : TyOk Tryz.prog 141 ti141 := TyOk.of Tryz.underlying141 (show TK.ok _ (.struct [(0, 3, 1), (1, 3, 1), (2, 3, 1), (3, 69, 6)]) _ from ⟨_, rfl, rfl, fun x hx => by simp only [List.mem_cons, List.not_mem_nil, or_false] at hx; rcases hx with rfl | rfl | rfl | rfl <;> exact ⟨by kernel_rfl, by decide⟩⟩) (.agg #[(.int .i64 0), (.int .i64 0), (.int .i64 0), (.int .i64 0), (.int .i64 0), (.slice none 0 0), (.slice none 0 0), (.slice none 0 0), (.slice none 0 0)]) (by kernel_rfl) rfl rfl rfl rfl (by decide) (fun h => by cases h)
def ti142 : TyI := ⟨.struct [(0, 3, 1), (1, 3, 1), (2, 3, 1), (3, 69, 6)], 9, 136, [(.int .i64 0), (.int .i64 0), (.int .i64 0), (.int .i64 0), (.int .i64 0), (.slice none 0 0), (.slice none 0 0), (.slice none 0 0), (.slice none 0 0)], false⟩
theorem ty142 : TyOk Tryz.prog 142 ti142 := TyOk.of Tryz.underlying142 (show TK.ok _ (.struct [(0, 3, 1), (1, 3, 1), (2, 3, 1), (3, 69, 6)]) _ from ⟨_, rfl, rfl, fun x hx => by simp only [List.mem_cons, List.not_mem_nil, or_false] at hx; rcases hx with rfl | rfl | rfl | rfl <;> exact ⟨by kernel_rfl, by decide⟩⟩) (.agg #[(.int .i64 0), (.int .i64 0), (.int .i64 0), (.int .i64 0), (.int .i64 0), (.slice none 0 0), (.slice none 0 0), (.slice none 0 0), (.slice none 0 0)]) (by kernel_rfl) rfl rfl rfl rfl (by decide) (fun h => by cases h)
def ti145 : TyI := ⟨.pointer 118, 1, 8, [(.pointer none)], false⟩
theorem ty145 : TyOk Tryz.prog 145 ti145 := TyOk.of Tryz.underlying145 (show TK.ok _ (.pointer 118) _ from rfl) (.pointer none) (by kernel_rfl) rfl rfl rfl rfl (by decide) (fun h => by cases h)
def ti148 : TyI := ⟨.pointer 75, 1, 8, [(.pointer none)], false⟩
theorem ty148 : TyOk Tryz.prog 148 ti148 := TyOk.of Tryz.underlying148 (show TK.ok _ (.pointer 75) _ from rfl) (.pointer none) (by kernel_rfl) rfl rfl rfl rfl (by decide) (fun h => by cases h)
def ti149 : TyI := ⟨.pointer 65, 1, 8, [(.pointer none)], false⟩
theorem ty149 : TyOk Tryz.prog 149 ti149 := TyOk.of Tryz.underlying149 (show TK.ok _ (.pointer 65) _ from rfl) (.pointer none) (by kernel_rfl) rfl rfl rfl rfl (by decide) (fun h => by cases h)
def ti154 : TyI := ⟨.pointer 3, 1, 8, [(.pointer none)], false⟩
theorem ty154 : TyOk Tryz.prog 154 ti154 := TyOk.of Tryz.underlying154 (show TK.ok _ (.pointer 3) _ from rfl) (.pointer none) (by kernel_rfl) rfl rfl rfl rfl (by decide) (fun h => by cases h)
def ti176 : TyI := ⟨.slice 25, 1, 24, [(.slice none 0 0)], false⟩
theorem ty176 : TyOk Tryz.prog 176 ti176 := TyOk.of Tryz.underlying176 (show TK.ok _ (.slice 25) _ from rfl) (.slice none 0 0) (by kernel_rfl) rfl rfl rfl rfl (by decide) (fun h => by cases h)
def ti182 : TyI := ⟨.slice 273, 1, 24, [(.slice none 0 0)], false⟩
theorem ty182 : TyOk Tryz.prog 182 ti182 := TyOk.of Tryz.underlying182 (show TK.ok _ (.slice 273) _ from rfl) (.slice none 0 0) (by kernel_rfl) rfl rfl rfl rfl (by decide) (fun h => by cases h)
def ti185 : TyI := ⟨.struct [(0, 22, 1), (1, 3, 1)], 2, 32, [(.slice none 0 0), (.int .i64 0)], false⟩
theorem ty185 : TyOk Tryz.prog 185 ti185 := TyOk.of Tryz.underlying185 (show TK.ok _ (.struct [(0, 22, 1), (1, 3, 1)]) _ from ⟨_, rfl, rfl, fun x hx => by simp only [List.mem_cons, List.not_mem_nil, or_false] at hx; rcases hx with rfl | rfl <;> exact ⟨by kernel_rfl, by decide⟩⟩) (.agg #[(.slice none 0 0), (.int .i64 0)]) (by kernel_rfl) rfl rfl rfl rfl (by decide) (fun h => by cases h)
def ti186 : TyI := ⟨.struct [(0, 22, 1), (1, 3, 1)], 2, 32, [(.slice none 0 0), (.int .i64 0)], false⟩
theorem ty186 : TyOk Tryz.prog 186 ti186 := TyOk.of Tryz.underlying186 (show TK.ok _ (.struct [(0, 22, 1), (1, 3, 1)]) _ from ⟨_, rfl, rfl, fun x hx => by simp only [List.mem_cons, List.not_mem_nil, or_false] at hx; rcases hx with rfl | rfl <;> exact ⟨by kernel_rfl, by decide⟩⟩) (.agg #[(.slice none 0 0), (.int .i64 0)]) (by kernel_rfl) rfl rfl rfl rfl (by decide) (fun h => by cases h)
def ti188 : TyI := ⟨.slice 192, 1, 24, [(.slice none 0 0)], false⟩
theorem ty188 : TyOk Tryz.prog 188 ti188 := TyOk.of Tryz.underlying188 (show TK.ok _ (.slice 192) _ from rfl) (.slice none 0 0) (by kernel_rfl) rfl rfl rfl rfl (by decide) (fun h => by cases h)
def ti189 : TyI := ⟨.struct [(0, 9, 1), (1, 188, 1)], 2, 40, [(.string .empty), (.slice none 0 0)], false⟩
theorem ty189 : TyOk Tryz.prog 189 ti189 := TyOk.of Tryz.underlying189 (show TK.ok _ (.struct [(0, 9, 1), (1, 188, 1)]) _ from ⟨_, rfl, rfl, fun x hx => by simp only [List.mem_cons, List.not_mem_nil, or_false] at hx; rcases hx with rfl | rfl <;> exact ⟨by kernel_rfl, by decide⟩⟩) (.agg #[(.string .empty), (.slice none 0 0)]) (by kernel_rfl) rfl rfl rfl rfl (by decide) (fun h => by cases h)
def ti190 : TyI := ⟨.struct [(0, 9, 1), (1, 188, 1)], 2, 40, [(.string .empty), (.slice none 0 0)], false⟩
theorem ty190 : TyOk Tryz.prog 190 ti190 := TyOk.of Tryz.underlying190 (show TK.ok _ (.struct [(0, 9, 1), (1, 188, 1)]) _ from ⟨_, rfl, rfl, fun x hx => by simp only [List.mem_cons, List.not_mem_nil, or_false] at hx; rcases hx with rfl | rfl <;> exact ⟨by kernel_rfl, by decide⟩⟩) (.agg #[(.string .empty), (.slice none 0 0)]) (by kernel_rfl) rfl rfl rfl rfl (by decide) (fun h => by cases h)
def ti191 : TyI := ⟨.struct [(0, 9, 1), (1, 176, 1), (2, 3, 1)], 3, 48, [(.string .empty), (.slice none 0 0), (.int .i64 0)], false⟩
theorem ty191 : TyOk Tryz.prog 191 ti191 := TyOk.of Tryz.underlying191 (show TK.ok _ (.struct [(0, 9, 1), (1, 176, 1), (2, 3, 1)]) _ from ⟨_, rfl, rfl, fun x hx => by simp only [List.mem_cons, List.not_mem_nil, or_false] at hx; rcases hx with rfl | rfl | rfl <;> exact ⟨by kernel_rfl, by decide⟩⟩) (.agg #[(.string .empty), (.slice none 0 0), (.int .i64 0)]) (by kernel_rfl) rfl rfl rfl rfl (by decide) (fun h => by cases h)
def ti192 : TyI := ⟨.struct [(0, 9, 1), (1, 176, 1), (2, 3, 1)], 3, 48, [(.string .empty), (.slice none 0 0), (.int .i64 0)], false⟩
theorem ty192 : TyOk Tryz.prog 192 ti192 := TyOk.of Tryz.underlying192 (show TK.ok _ (.struct [(0, 9, 1), (1, 176, 1), (2, 3, 1)]) _ from ⟨_, rfl, rfl, fun x hx => by simp only [List.mem_cons, List.not_mem_nil, or_false] at hx; rcases hx with rfl | rfl | rfl <;> exact ⟨by kernel_rfl, by decide⟩⟩) (.agg #[(.string .empty), (.slice none 0 0), (.int .i64 0)]) (by kernel_rfl) rfl rfl rfl rfl (by decide) (fun h => by cases h)
def ti223 : TyI := ⟨.pointer 288, 1, 8, [(.pointer none)], false⟩
theorem ty223 : TyOk Tryz.prog 223 ti223 := TyOk.of Tryz.underlying223 (show TK.ok _ (.pointer 288) _ from rfl) (.pointer none) (by kernel_rfl) rfl rfl rfl rfl (by decide) (fun h => by cases h)
def ti225 : TyI := ⟨.struct [(0, 23, 1), (1, 223, 1)], 2, 32, [(.slice none 0 0), (.pointer none)], false⟩
theorem ty225 : TyOk Tryz.prog 225 ti225 := TyOk.of Tryz.underlying225 (show TK.ok _ (.struct [(0, 23, 1), (1, 223, 1)]) _ from ⟨_, rfl, rfl, fun x hx => by simp only [List.mem_cons, List.not_mem_nil, or_false] at hx; rcases hx with rfl | rfl <;> exact ⟨by kernel_rfl, by decide⟩⟩) (.agg #[(.slice none 0 0), (.pointer none)]) (by kernel_rfl) rfl rfl rfl rfl (by decide) (fun h => by cases h)
def ti226 : TyI := ⟨.struct [(0, 23, 1), (1, 223, 1)], 2, 32, [(.slice none 0 0), (.pointer none)], false⟩
theorem ty226 : TyOk Tryz.prog 226 ti226 := TyOk.of Tryz.underlying226 (show TK.ok _ (.struct [(0, 23, 1), (1, 223, 1)]) _ from ⟨_, rfl, rfl, fun x hx => by simp only [List.mem_cons, List.not_mem_nil, or_false] at hx; rcases hx with rfl | rfl <;> exact ⟨by kernel_rfl, by decide⟩⟩) (.agg #[(.slice none 0 0), (.pointer none)]) (by kernel_rfl) rfl rfl rfl rfl (by decide) (fun h => by cases h)
def ti234 : TyI := ⟨.struct [(0, 57, 1), (1, 25, 2)], 3, 40, [(.slice none 0 0), (.int .i64 0), (.int .i64 0)], false⟩
theorem ty234 : TyOk Tryz.prog 234 ti234 := TyOk.of Tryz.underlying234 (show TK.ok _ (.struct [(0, 57, 1), (1, 25, 2)]) _ from ⟨_, rfl, rfl, fun x hx => by simp only [List.mem_cons, List.not_mem_nil, or_false] at hx; rcases hx with rfl | rfl <;> exact ⟨by kernel_rfl, by decide⟩⟩) (.agg #[(.slice none 0 0), (.int .i64 0), (.int .i64 0)]) (by kernel_rfl) rfl rfl rfl rfl (by decide) (fun h => by cases h)
def ti235 : TyI := ⟨.struct [(0, 57, 1), (1, 25, 2)], 3, 40, [(.slice none 0 0), (.int .i64 0), (.int .i64 0)], false⟩
theorem ty235 : TyOk Tryz.prog 235 ti235 := TyOk.of Tryz.underlying235 (show TK.ok _ (.struct [(0, 57, 1), (1, 25, 2)]) _ from ⟨_, rfl, rfl, fun x hx => by simp only [List.mem_cons, List.not_mem_nil, or_false] at hx; rcases hx with rfl | rfl <;> exact ⟨by kernel_rfl, by decide⟩⟩) (.agg #[(.slice none 0 0), (.int .i64 0), (.int .i64 0)]) (by kernel_rfl) rfl rfl rfl rfl (by decide) (fun h => by cases h)
def ti236 : TyI := ⟨.slice 235, 1, 24, [(.slice none 0 0)], false⟩
theorem ty236 : TyOk Tryz.prog 236 ti236 := TyOk.of Tryz.underlying236 (show TK.ok _ (.slice 235) _ from rfl) (.slice none 0 0) (by kernel_rfl) rfl rfl rfl rfl (by decide) (fun h => by cases h)
def ti237 : TyI := ⟨.slice 296, 1, 24, [(.slice none 0 0)], false⟩
theorem ty237 : TyOk Tryz.prog 237 ti237 := TyOk.of Tryz.underlying237 (show TK.ok _ (.slice 296) _ from rfl) (.slice none 0 0) (by kernel_rfl) rfl rfl rfl rfl (by decide) (fun h => by cases h)
def ti242 : TyI := ⟨.int .u64, 1, 8, [(.int .u64 0)], false⟩
theorem ty242 : TyOk Tryz.prog 242 ti242 := TyOk.of Tryz.underlying242 (show TK.ok _ (.int .u64) _ from rfl) (.int .u64 0) (by kernel_rfl) rfl rfl rfl rfl (by decide) (fun h => by cases h)
def ti253 : TyI := ⟨.map 9 4, 1, 8, [(.map none)], false⟩
theorem ty253 : TyOk Tryz.prog 253 ti253 := TyOk.of Tryz.underlying253 (show TK.ok _ (.map 9 4) _ from rfl) (.map none) (by kernel_rfl) rfl rfl rfl rfl (by decide) (fun h => by cases h)
def ti272 : TyI := ⟨.struct [(0, 3, 1), (1, 25, 2)], 3, 24, [(.int .i64 0), (.int .i64 0), (.int .i64 0)], false⟩
theorem ty272 : TyOk Tryz.prog 272 ti272 := TyOk.of Tryz.underlying272 (show TK.ok _ (.struct [(0, 3, 1), (1, 25, 2)]) _ from ⟨_, rfl, rfl, fun x hx => by simp only [List.mem_cons, List.not_mem_nil, or_false] at hx; rcases hx with rfl | rfl <;> exact ⟨by kernel_rfl, by decide⟩⟩) (.agg #[(.int .i64 0), (.int .i64 0), (.int .i64 0)]) (by kernel_rfl) rfl rfl rfl rfl (by decide) (fun h => by cases h)
def ti273 : TyI := ⟨.struct [(0, 3, 1), (1, 25, 2)], 3, 24, [(.int .i64 0), (.int .i64 0), (.int .i64 0)], true⟩
theorem ty273 : TyOk Tryz.prog 273 ti273 := TyOk.of Tryz.underlying273 (show TK.ok _ (.struct [(0, 3, 1), (1, 25, 2)]) _ from ⟨_, rfl, rfl, fun x hx => by simp only [List.mem_cons, List.not_mem_nil, or_false] at hx; rcases hx with rfl | rfl <;> exact ⟨by kernel_rfl, by decide⟩⟩) (.agg #[(.int .i64 0), (.int .i64 0), (.int .i64 0)]) (by kernel_rfl) rfl rfl rfl rfl (by decide) (fun _ fs h => by cases h; exact ⟨by kernel_rfl, by kernel_rfl, by kernel_rfl, by kernel_rfl⟩)
def ti286 : TyI := ⟨.array 4 3, 4, 32, [(.int .i64 0), (.int .i64 0), (.int .i64 0), (.int .i64 0)], false⟩
theorem ty286 : TyOk Tryz.prog 286 ti286 := TyOk.of Tryz.underlying286 (show TK.ok _ (.array 4 3) _ from rfl) (.agg #[(.int .i64 0), (.int .i64 0), (.int .i64 0), (.int .i64 0)]) (by kernel_rfl) rfl rfl rfl rfl (by decide) (fun h => by cases h)
def ti287 : TyI := ⟨.array 4 286, 16, 128, [(.int .i64 0), (.int .i64 0), (.int .i64 0), (.int .i64 0), (.int .i64 0), (.int .i64 0), (.int .i64 0), (.int .i64 0), (.int .i64 0), (.int .i64 0), (.int .i64 0), (.int .i64 0), (.int .i64 0), (.int .i64 0), (.int .i64 0), (.int .i64 0)], false⟩
theorem ty287 : TyOk Tryz.prog 287 ti287 := TyOk.of Tryz.underlying287 (show TK.ok _ (.array 4 286) _ from rfl) (.agg #[(.int .i64 0), (.int .i64 0), (.int .i64 0), (.int .i64 0), (.int .i64 0), (.int .i64 0), (.int .i64 0), (.int .i64 0), (.int .i64 0), (.int .i64 0), (.int .i64 0), (.int .i64 0), (.int .i64 0), (.int .i64 0), (.int .i64 0), (.int .i64 0)]) (by kernel_rfl) rfl rfl rfl rfl (by decide) (fun h => by cases h)
def ti288 : TyI := ⟨.array 4 286, 16, 128, [(.int .i64 0), (.int .i64 0), (.int .i64 0), (.int .i64 0), (.int .i64 0), (.int .i64 0), (.int .i64 0), (.int .i64 0), (.int .i64 0), (.int .i64 0), (.int .i64 0), (.int .i64 0), (.int .i64 0), (.int .i64 0), (.int .i64 0), (.int .i64 0)], false⟩
theorem ty288 : TyOk Tryz.prog 288 ti288 := TyOk.of Tryz.underlying288 (show TK.ok _ (.array 4 286) _ from rfl) (.agg #[(.int .i64 0), (.int .i64 0), (.int .i64 0), (.int .i64 0), (.int .i64 0), (.int .i64 0), (.int .i64 0), (.int .i64 0), (.int .i64 0), (.int .i64 0), (.int .i64 0), (.int .i64 0), (.int .i64 0), (.int .i64 0), (.int .i64 0), (.int .i64 0)]) (by kernel_rfl) rfl rfl rfl rfl (by decide) (fun h => by cases h)
def ti292 : TyI := ⟨.array 11 4, 11, 11, [(.bool false), (.bool false), (.bool false), (.bool false), (.bool false), (.bool false), (.bool false), (.bool false), (.bool false), (.bool false), (.bool false)], false⟩
theorem ty292 : TyOk Tryz.prog 292 ti292 := TyOk.of Tryz.underlying292 (show TK.ok _ (.array 11 4) _ from rfl) (.agg #[(.bool false), (.bool false), (.bool false), (.bool false), (.bool false), (.bool false), (.bool false), (.bool false), (.bool false), (.bool false), (.bool false)]) (by kernel_rfl) rfl rfl rfl rfl (by decide) (fun h => by cases h)
def ti293 : TyI := ⟨.slice 137, 1, 24, [(.slice none 0 0)], false⟩
theorem ty293 : TyOk Tryz.prog 293 ti293 := TyOk.of Tryz.underlying293 (show TK.ok _ (.slice 137) _ from rfl) (.slice none 0 0) (by kernel_rfl) rfl rfl rfl rfl (by decide) (fun h => by cases h)
def ti295 : TyI := ⟨.struct [(0, 3, 1), (1, 39, 1), (2, 65, 1)], 3, 56, [(.int .i64 0), (.slice none 0 0), (.slice none 0 0)], false⟩
theorem ty295 : TyOk Tryz.prog 295 ti295 := TyOk.of Tryz.underlying295 (show TK.ok _ (.struct [(0, 3, 1), (1, 39, 1), (2, 65, 1)]) _ from ⟨_, rfl, rfl, fun x hx => by simp only [List.mem_cons, List.not_mem_nil, or_false] at hx; rcases hx with rfl | rfl | rfl <;> exact ⟨by kernel_rfl, by decide⟩⟩) (.agg #[(.int .i64 0), (.slice none 0 0), (.slice none 0 0)]) (by kernel_rfl) rfl rfl rfl rfl (by decide) (fun h => by cases h)
def ti296 : TyI := ⟨.struct [(0, 3, 1), (1, 39, 1), (2, 65, 1)], 3, 56, [(.int .i64 0), (.slice none 0 0), (.slice none 0 0)], false⟩
theorem ty296 : TyOk Tryz.prog 296 ti296 := TyOk.of Tryz.underlying296 (show TK.ok _ (.struct [(0, 3, 1), (1, 39, 1), (2, 65, 1)]) _ from ⟨_, rfl, rfl, fun x hx => by simp only [List.mem_cons, List.not_mem_nil, or_false] at hx; rcases hx with rfl | rfl | rfl <;> exact ⟨by kernel_rfl, by decide⟩⟩) (.agg #[(.int .i64 0), (.slice none 0 0), (.slice none 0 0)]) (by kernel_rfl) rfl rfl rfl rfl (by decide) (fun h => by cases h)
def ti306 : TyI := ⟨.int .i64, 1, 8, [(.int .i64 0)], false⟩
theorem ty306 : TyOk Tryz.prog 306 ti306 := TyOk.of Tryz.underlying306 (show TK.ok _ (.int .i64) _ from rfl) (.int .i64 0) (by kernel_rfl) rfl rfl rfl rfl (by decide) (fun h => by cases h)
def ti314 : TyI := ⟨.int .u32, 1, 4, [(.int .u32 0)], false⟩
theorem ty314 : TyOk Tryz.prog 314 ti314 := TyOk.of Tryz.underlying314 (show TK.ok _ (.int .u32) _ from rfl) (.int .u32 0) (by kernel_rfl) rfl rfl rfl rfl (by decide) (fun h => by cases h)
def ti316 : TyI := ⟨.int .u64, 1, 8, [(.int .u64 0)], false⟩
theorem ty316 : TyOk Tryz.prog 316 ti316 := TyOk.of Tryz.underlying316 (show TK.ok _ (.int .u64) _ from rfl) (.int .u64 0) (by kernel_rfl) rfl rfl rfl rfl (by decide) (fun h => by cases h)
def ti325 : TyI := ⟨.array 6 4, 6, 6, [(.bool false), (.bool false), (.bool false), (.bool false), (.bool false), (.bool false)], false⟩
theorem ty325 : TyOk Tryz.prog 325 ti325 := TyOk.of Tryz.underlying325 (show TK.ok _ (.array 6 4) _ from rfl) (.agg #[(.bool false), (.bool false), (.bool false), (.bool false), (.bool false), (.bool false)]) (by kernel_rfl) rfl rfl rfl rfl (by decide) (fun h => by cases h)
def ti349 : TyI := ⟨.int .u64, 1, 8, [(.int .u64 0)], false⟩
theorem ty349 : TyOk Tryz.prog 349 ti349 := TyOk.of Tryz.underlying349 (show TK.ok _ (.int .u64) _ from rfl) (.int .u64 0) (by kernel_rfl) rfl rfl rfl rfl (by decide) (fun h => by cases h)
def ti363 : TyI := ⟨.pointer 349, 1, 8, [(.pointer none)], false⟩
theorem ty363 : TyOk Tryz.prog 363 ti363 := TyOk.of Tryz.underlying363 (show TK.ok _ (.pointer 349) _ from rfl) (.pointer none) (by kernel_rfl) rfl rfl rfl rfl (by decide) (fun h => by cases h)
def ti370 : TyI := ⟨.struct [(0, 17, 1), (1, 17, 1), (2, 17, 1), (3, 9, 1)], 4, 40, [(.pointer none), (.pointer none), (.pointer none), (.string .empty)], false⟩
theorem ty370 : TyOk Tryz.prog 370 ti370 := TyOk.of Tryz.underlying370 (show TK.ok _ (.struct [(0, 17, 1), (1, 17, 1), (2, 17, 1), (3, 9, 1)]) _ from ⟨_, rfl, rfl, fun x hx => by simp only [List.mem_cons, List.not_mem_nil, or_false] at hx; rcases hx with rfl | rfl | rfl | rfl <;> exact ⟨by kernel_rfl, by decide⟩⟩) (.agg #[(.pointer none), (.pointer none), (.pointer none), (.string .empty)]) (by kernel_rfl) rfl rfl rfl rfl (by decide) (fun h => by cases h)
def ti371 : TyI := ⟨.struct [(0, 17, 1), (1, 17, 1), (2, 17, 1), (3, 9, 1)], 4, 40, [(.pointer none), (.pointer none), (.pointer none), (.string .empty)], false⟩
theorem ty371 : TyOk Tryz.prog 371 ti371 := TyOk.of Tryz.underlying371 (show TK.ok _ (.struct [(0, 17, 1), (1, 17, 1), (2, 17, 1), (3, 9, 1)]) _ from ⟨_, rfl, rfl, fun x hx => by simp only [List.mem_cons, List.not_mem_nil, or_false] at hx; rcases hx with rfl | rfl | rfl | rfl <;> exact ⟨by kernel_rfl, by decide⟩⟩) (.agg #[(.pointer none), (.pointer none), (.pointer none), (.string .empty)]) (by kernel_rfl) rfl rfl rfl rfl (by decide) (fun h => by cases h)
def ti372 : TyI := ⟨.array 0 16, 0, 0, [], false⟩
theorem ty372 : TyOk Tryz.prog 372 ti372 := TyOk.of Tryz.underlying372 (show TK.ok _ (.array 0 16) _ from rfl) (.agg #[]) (by kernel_rfl) rfl rfl rfl rfl (by decide) (fun h => by cases h)
def ti376 : TyI := ⟨.int .u8, 1, 1, [(.int .u8 0)], false⟩
theorem ty376 : TyOk Tryz.prog 376 ti376 := TyOk.of Tryz.underlying376 (show TK.ok _ (.int .u8) _ from rfl) (.int .u8 0) (by kernel_rfl) rfl rfl rfl rfl (by decide) (fun h => by cases h)
def ti377 : TyI := ⟨.int .u8, 1, 1, [(.int .u8 0)], false⟩
theorem ty377 : TyOk Tryz.prog 377 ti377 := TyOk.of Tryz.underlying377 (show TK.ok _ (.int .u8) _ from rfl) (.int .u8 0) (by kernel_rfl) rfl rfl rfl rfl (by decide) (fun h => by cases h)
def ti379 : TyI := ⟨.pointer 5, 1, 8, [(.pointer none)], false⟩
theorem ty379 : TyOk Tryz.prog 379 ti379 := TyOk.of Tryz.underlying379 (show TK.ok _ (.pointer 5) _ from rfl) (.pointer none) (by kernel_rfl) rfl rfl rfl rfl (by decide) (fun h => by cases h)
def ti380 : TyI := ⟨.int .i32, 1, 4, [(.int .i32 0)], false⟩
theorem ty380 : TyOk Tryz.prog 380 ti380 := TyOk.of Tryz.underlying380 (show TK.ok _ (.int .i32) _ from rfl) (.int .i32 0) (by kernel_rfl) rfl rfl rfl rfl (by decide) (fun h => by cases h)
def ti381 : TyI := ⟨.int .i32, 1, 4, [(.int .i32 0)], false⟩
theorem ty381 : TyOk Tryz.prog 381 ti381 := TyOk.of Tryz.underlying381 (show TK.ok _ (.int .i32) _ from rfl) (.int .i32 0) (by kernel_rfl) rfl rfl rfl rfl (by decide) (fun h => by cases h)
def Tys : Ty := fun t => match t with
  | 2 => some ti2
  | 3 => some ti3
  | 4 => some ti4
  | 5 => some ti5
  | 6 => some ti6
  | 7 => some ti7
  | 8 => some ti8
  | 9 => some ti9
  | 10 => some ti10
  | 11 => some ti11
  | 12 => some ti12
  | 13 => some ti13
  | 14 => some ti14
  | 15 => some ti15
  | 16 => some ti16
  | 17 => some ti17
  | 18 => some ti18
  | 19 => some ti19
  | 21 => some ti21
  | 22 => some ti22
  | 23 => some ti23
  | 24 => some ti24
  | 25 => some ti25
  | 26 => some ti26
  | 27 => some ti27
  | 28 => some ti28
  | 29 => some ti29
  | 32 => some ti32
  | 39 => some ti39
  | 40 => some ti40
  | 41 => some ti41
  | 42 => some ti42
  | 43 => some ti43
  | 44 => some ti44
  | 45 => some ti45
  | 57 => some ti57
  | 65 => some ti65
  | 66 => some ti66
  | 67 => some ti67
  | 68 => some ti68
  | 69 => some ti69
  | 75 => some ti75
  | 80 => some ti80
  | 81 => some ti81
  | 83 => some ti83
  | 86 => some ti86
  | 87 => some ti87
  | 103 => some ti103
  | 108 => some ti108
  | 118 => some ti118
  | 119 => some ti119
  | 122 => some ti122
  | 125 => some ti125
  | 126 => some ti126
  | 127 => some ti127
  | 129 => some ti129
  | 130 => some ti130
  | 132 => some ti132
  | 133 => some ti133
  | 135 => some ti135
  | 136 => some ti136
  | 137 => some ti137
  | 139 => some ti139
  | 140 => some ti140
  | 141 => some ti141
  | 142 => some ti142
  | 145 => some ti145
  | 148 => some ti148
  | 149 => some ti149
  | 154 => some ti154
  | 176 => some ti176
  | 182 => some ti182
  | 185 => some ti185
  | 186 => some ti186
  | 188 => some ti188
  | 189 => some ti189
  | 190 => some ti190
  | 191 => some ti191
  | 192 => some ti192
  | 223 => some ti223
  | 225 => some ti225
  | 226 => some ti226
  | 234 => some ti234
  | 235 => some ti235
  | 236 => some ti236
  | 237 => some ti237
  | 242 => some ti242
  | 253 => some ti253
  | 272 => some ti272
  | 273 => some ti273
  | 286 => some ti286
  | 287 => some ti287
  | 288 => some ti288
  | 292 => some ti292
  | 293 => some ti293
  | 295 => some ti295
  | 296 => some ti296
  | 306 => some ti306
  | 314 => some ti314
  | 316 => some ti316
  | 325 => some ti325
  | 349 => some ti349
  | 363 => some ti363
  | 370 => some ti370
  | 371 => some ti371
  | 372 => some ti372
  | 376 => some ti376
  | 377 => some ti377
  | 379 => some ti379
  | 380 => some ti380
  | 381 => some ti381
  | _ => none
@[simp] theorem tys2 : Tys 2 = some ⟨.int .i64, 1, 8, [(.int .i64 0)], false⟩ := rfl
@[simp] theorem tys3 : Tys 3 = some ⟨.int .i64, 1, 8, [(.int .i64 0)], false⟩ := rfl
@[simp] theorem tys4 : Tys 4 = some ⟨.bool, 1, 1, [(.bool false)], false⟩ := rfl
@[simp] theorem tys5 : Tys 5 = some ⟨.int .u8, 1, 1, [(.int .u8 0)], false⟩ := rfl
@[simp] theorem tys6 : Tys 6 = some ⟨.int .u8, 1, 1, [(.int .u8 0)], false⟩ := rfl
@[simp] theorem tys7 : Tys 7 = some ⟨.struct [(0, 2, 1), (1, 3, 1), (2, 4, 1), (3, 6, 1)], 4, 24, [(.int .i64 0), (.int .i64 0), (.bool false), (.int .u8 0)], false⟩ := rfl
@[simp] theorem tys8 : Tys 8 = some ⟨.struct [(0, 2, 1), (1, 3, 1), (2, 4, 1), (3, 6, 1)], 4, 24, [(.int .i64 0), (.int .i64 0), (.bool false), (.int .u8 0)], false⟩ := rfl
@[simp] theorem tys9 : Tys 9 = some ⟨.string, 1, 16, [(.string .empty)], false⟩ := rfl
@[simp] theorem tys10 : Tys 10 = some ⟨.string, 1, 16, [(.string .empty)], false⟩ := rfl
@[simp] theorem tys11 : Tys 11 = some ⟨.string, 1, 16, [(.string .empty)], false⟩ := rfl
@[simp] theorem tys12 : Tys 12 = some ⟨.int .u64, 1, 8, [(.int .u64 0)], false⟩ := rfl
@[simp] theorem tys13 : Tys 13 = some ⟨.struct [(0, 9, 1), (1, 12, 1)], 2, 24, [(.string .empty), (.int .u64 0)], false⟩ := rfl
@[simp] theorem tys14 : Tys 14 = some ⟨.struct [(0, 9, 1), (1, 12, 1)], 2, 24, [(.string .empty), (.int .u64 0)], false⟩ := rfl
@[simp] theorem tys15 : Tys 15 = some ⟨.pointer 371, 1, 8, [(.pointer none)], false⟩ := rfl
@[simp] theorem tys16 : Tys 16 = some ⟨.pointer 374, 1, 8, [(.pointer none)], false⟩ := rfl
@[simp] theorem tys17 : Tys 17 = some ⟨.pointer 383, 1, 8, [(.pointer none)], false⟩ := rfl
@[simp] theorem tys18 : Tys 18 = some ⟨.struct [(0, 17, 1)], 1, 8, [(.pointer none)], false⟩ := rfl
@[simp] theorem tys19 : Tys 19 = some ⟨.struct [(0, 17, 1)], 1, 8, [(.pointer none)], false⟩ := rfl
@[simp] theorem tys21 : Tys 21 = some ⟨.int .i32, 1, 4, [(.int .i32 0)], false⟩ := rfl
@[simp] theorem tys22 : Tys 22 = some ⟨.slice 5, 1, 24, [(.slice none 0 0)], false⟩ := rfl
@[simp] theorem tys23 : Tys 23 = some ⟨.slice 190, 1, 24, [(.slice none 0 0)], false⟩ := rfl
@[simp] theorem tys24 : Tys 24 = some ⟨.struct [(0, 3, 1), (1, 3, 1)], 2, 16, [(.int .i64 0), (.int .i64 0)], false⟩ := rfl
@[simp] theorem tys25 : Tys 25 = some ⟨.struct [(0, 3, 1), (1, 3, 1)], 2, 16, [(.int .i64 0), (.int .i64 0)], true⟩ := rfl
@[simp] theorem tys26 : Tys 26 = some ⟨.slice 45, 1, 24, [(.slice none 0 0)], false⟩ := rfl
@[simp] theorem tys27 : Tys 27 = some ⟨.slice 29, 1, 24, [(.slice none 0 0)], false⟩ := rfl
@[simp] theorem tys28 : Tys 28 = some ⟨.struct [(0, 3, 1), (1, 3, 1), (2, 27, 1)], 3, 40, [(.int .i64 0), (.int .i64 0), (.slice none 0 0)], false⟩ := rfl
@[simp] theorem tys29 : Tys 29 = some ⟨.struct [(0, 3, 1), (1, 3, 1), (2, 27, 1)], 3, 40, [(.int .i64 0), (.int .i64 0), (.slice none 0 0)], false⟩ := rfl
@[simp] theorem tys32 : Tys 32 = some ⟨.slice 87, 1, 24, [(.slice none 0 0)], false⟩ := rfl
@[simp] theorem tys39 : Tys 39 = some ⟨.slice 41, 1, 24, [(.slice none 0 0)], false⟩ := rfl
@[simp] theorem tys40 : Tys 40 = some ⟨.struct [(0, 3, 1), (1, 3, 1), (2, 3, 1), (3, 3, 1), (4, 3, 1), (5, 39, 1)], 6, 64, [(.int .i64 0), (.int .i64 0), (.int .i64 0), (.int .i64 0), (.int .i64 0), (.slice none 0 0)], false⟩ := rfl
@[simp] theorem tys41 : Tys 41 = some ⟨.struct [(0, 3, 1), (1, 3, 1), (2, 3, 1), (3, 3, 1), (4, 3, 1), (5, 39, 1)], 6, 64, [(.int .i64 0), (.int .i64 0), (.int .i64 0), (.int .i64 0), (.int .i64 0), (.slice none 0 0)], false⟩ := rfl
@[simp] theorem tys42 : Tys 42 = some ⟨.struct [(0, 3, 1), (1, 3, 1), (2, 3, 1)], 3, 24, [(.int .i64 0), (.int .i64 0), (.int .i64 0)], false⟩ := rfl
@[simp] theorem tys43 : Tys 43 = some ⟨.struct [(0, 3, 1), (1, 3, 1), (2, 3, 1)], 3, 24, [(.int .i64 0), (.int .i64 0), (.int .i64 0)], true⟩ := rfl
@[simp] theorem tys44 : Tys 44 = some ⟨.struct [(0, 41, 6), (6, 43, 3)], 9, 88, [(.int .i64 0), (.int .i64 0), (.int .i64 0), (.int .i64 0), (.int .i64 0), (.slice none 0 0), (.int .i64 0), (.int .i64 0), (.int .i64 0)], false⟩ := rfl
@[simp] theorem tys45 : Tys 45 = some ⟨.struct [(0, 41, 6), (6, 43, 3)], 9, 88, [(.int .i64 0), (.int .i64 0), (.int .i64 0), (.int .i64 0), (.int .i64 0), (.slice none 0 0), (.int .i64 0), (.int .i64 0), (.int .i64 0)], false⟩ := rfl
@[simp] theorem tys57 : Tys 57 = some ⟨.slice 3, 1, 24, [(.slice none 0 0)], false⟩ := rfl
@[simp] theorem tys65 : Tys 65 = some ⟨.slice 140, 1, 24, [(.slice none 0 0)], false⟩ := rfl
@[simp] theorem tys66 : Tys 66 = some ⟨.slice 142, 1, 24, [(.slice none 0 0)], false⟩ := rfl
@[simp] theorem tys67 : Tys 67 = some ⟨.slice 69, 1, 24, [(.slice none 0 0)], false⟩ := rfl
@[simp] theorem tys68 : Tys 68 = some ⟨.struct [(0, 3, 1), (1, 3, 1), (2, 65, 1), (3, 57, 1), (4, 66, 1), (5, 67, 1)], 6, 112, [(.int .i64 0), (.int .i64 0), (.slice none 0 0), (.slice none 0 0), (.slice none 0 0), (.slice none 0 0)], false⟩ := rfl
@[simp] theorem tys69 : Tys 69 = some ⟨.struct [(0, 3, 1), (1, 3, 1), (2, 65, 1), (3, 57, 1), (4, 66, 1), (5, 67, 1)], 6, 112, [(.int .i64 0), (.int .i64 0), (.slice none 0 0), (.slice none 0 0), (.slice none 0 0), (.slice none 0 0)], false⟩ := rfl
@[simp] theorem tys75 : Tys 75 = some ⟨.slice 81, 1, 24, [(.slice none 0 0)], false⟩ := rfl
@[simp] theorem tys80 : Tys 80 = some ⟨.struct [(0, 3, 1), (1, 57, 1), (2, 3, 1), (3, 3, 1), (4, 3, 1), (5, 3, 1), (6, 65, 1), (7, 3, 1)], 8, 96, [(.int .i64 0), (.slice none 0 0), (.int .i64 0), (.int .i64 0), (.int .i64 0), (.int .i64 0), (.slice none 0 0), (.int .i64 0)], false⟩ := rfl
@[simp] theorem tys81 : Tys 81 = some ⟨.struct [(0, 3, 1), (1, 57, 1), (2, 3, 1), (3, 3, 1), (4, 3, 1), (5, 3, 1), (6, 65, 1), (7, 3, 1)], 8, 96, [(.int .i64 0), (.slice none 0 0), (.int .i64 0), (.int .i64 0), (.int .i64 0), (.int .i64 0), (.slice none 0 0), (.int .i64 0)], false⟩ := rfl
@[simp] theorem tys83 : Tys 83 = some ⟨.slice 57, 1, 24, [(.slice none 0 0)], false⟩ := rfl
@[simp] theorem tys86 : Tys 86 = some ⟨.struct [(0, 3, 1), (1, 29, 3)], 4, 48, [(.int .i64 0), (.int .i64 0), (.int .i64 0), (.slice none 0 0)], false⟩ := rfl
@[simp] theorem tys87 : Tys 87 = some ⟨.struct [(0, 3, 1), (1, 29, 3)], 4, 48, [(.int .i64 0), (.int .i64 0), (.int .i64 0), (.slice none 0 0)], false⟩ := rfl
@[simp] theorem tys103 : Tys 103 = some ⟨.pointer 186, 1, 8, [(.pointer none)], false⟩ := rfl
@[simp] theorem tys108 : Tys 108 = some ⟨.slice 9, 1, 24, [(.slice none 0 0)], false⟩ := rfl
@[simp] theorem tys118 : Tys 118 = some ⟨.array 8 4, 8, 8, [(.bool false), (.bool false), (.bool false), (.bool false), (.bool false), (.bool false), (.bool false), (.bool false)], false⟩ := rfl
@[simp] theorem tys119 : Tys 119 = some ⟨.slice 4, 1, 24, [(.slice none 0 0)], false⟩ := rfl
@[simp] theorem tys122 : Tys 122 = some ⟨.slice 39, 1, 24, [(.slice none 0 0)], false⟩ := rfl
@[simp] theorem tys125 : Tys 125 = some ⟨.slice 127, 1, 24, [(.slice none 0 0)], false⟩ := rfl
@[simp] theorem tys126 : Tys 126 = some ⟨.struct [(0, 3, 1), (1, 39, 1), (2, 65, 1)], 3, 56, [(.int .i64 0), (.slice none 0 0), (.slice none 0 0)], false⟩ := rfl
@[simp] theorem tys127 : Tys 127 = some ⟨.struct [(0, 3, 1), (1, 39, 1), (2, 65, 1)], 3, 56, [(.int .i64 0), (.slice none 0 0), (.slice none 0 0)], false⟩ := rfl
@[simp] theorem tys129 : Tys 129 = some ⟨.pointer 133, 1, 8, [(.pointer none)], false⟩ := rfl
@[simp] theorem tys130 : Tys 130 = some ⟨.pointer 226, 1, 8, [(.pointer none)], false⟩ := rfl
@[simp] theorem tys132 : Tys 132 = some ⟨.struct [(0, 130, 1), (1, 26, 1), (2, 3, 1), (3, 3, 1)], 4, 48, [(.pointer none), (.slice none 0 0), (.int .i64 0), (.int .i64 0)], false⟩ := rfl
@[simp] theorem tys133 : Tys 133 = some ⟨.struct [(0, 130, 1), (1, 26, 1), (2, 3, 1), (3, 3, 1)], 4, 48, [(.pointer none), (.slice none 0 0), (.int .i64 0), (.int .i64 0)], false⟩ := rfl
@[simp] theorem tys135 : Tys 135 = some ⟨.struct [(0, 57, 1), (1, 25, 2)], 3, 40, [(.slice none 0 0), (.int .i64 0), (.int .i64 0)], false⟩ := rfl
@[simp] theorem tys136 : Tys 136 = some ⟨.struct [(0, 57, 1), (1, 25, 2)], 3, 40, [(.slice none 0 0), (.int .i64 0), (.int .i64 0)], false⟩ := rfl
@[simp] theorem tys137 : Tys 137 = some ⟨.slice 136, 1, 24, [(.slice none 0 0)], false⟩ := rfl
@[simp] theorem tys139 : Tys 139 = some ⟨.struct [(0, 3, 1), (1, 57, 1)], 2, 32, [(.int .i64 0), (.slice none 0 0)], false⟩ := rfl
@[simp] theorem tys140 : Tys 140 = some ⟨.struct [(0, 3, 1), (1, 57, 1)], 2, 32, [(.int .i64 0), (.slice none 0 0)], false⟩ := rfl
@[simp] theorem tys141 : Tys 141 = some ⟨.struct [(0, 3, 1), (1, 3, 1), (2, 3, 1), (3, 69, 6)], 9, 136, [(.int .i64 0), (.int .i64 0), (.int .i64 0), (.int .i64 0), (.int .i64 0), (.slice none 0 0), (.slice none 0 0), (.slice none 0 0), (.slice none 0 0)], false⟩ := rfl
@[simp] theorem tys142 : Tys 142 = some ⟨.struct [(0, 3, 1), (1, 3, 1), (2, 3, 1), (3, 69, 6)], 9, 136, [(.int .i64 0), (.int .i64 0), (.int .i64 0), (.int .i64 0), (.int .i64 0), (.slice none 0 0), (.slice none 0 0), (.slice none 0 0), (.slice none 0 0)], false⟩ := rfl
@[simp] theorem tys145 : Tys 145 = some ⟨.pointer 118, 1, 8, [(.pointer none)], false⟩ := rfl
@[simp] theorem tys148 : Tys 148 = some ⟨.pointer 75, 1, 8, [(.pointer none)], false⟩ := rfl
@[simp] theorem tys149 : Tys 149 = some ⟨.pointer 65, 1, 8, [(.pointer none)], false⟩ := rfl
@[simp] theorem tys154 : Tys 154 = some ⟨.pointer 3, 1, 8, [(.pointer none)], false⟩ := rfl
@[simp] theorem tys176 : Tys 176 = some ⟨.slice 25, 1, 24, [(.slice none 0 0)], false⟩ := rfl
@[simp] theorem tys182 : Tys 182 = some ⟨.slice 273, 1, 24, [(.slice none 0 0)], false⟩ := rfl
@[simp] theorem tys185 : Tys 185 = some ⟨.struct [(0, 22, 1), (1, 3, 1)], 2, 32, [(.slice none 0 0), (.int .i64 0)], false⟩ := rfl
@[simp] theorem tys186 : Tys 186 = some ⟨.struct [(0, 22, 1), (1, 3, 1)], 2, 32, [(.slice none 0 0), (.int .i64 0)], false⟩ := rfl
@[simp] theorem tys188 : Tys 188 = some ⟨.slice 192, 1, 24, [(.slice none 0 0)], false⟩ := rfl
@[simp] theorem tys189 : Tys 189 = some ⟨.struct [(0, 9, 1), (1, 188, 1)], 2, 40, [(.string .empty), (.slice none 0 0)], false⟩ := rfl
@[simp] theorem tys190 : Tys 190 = some ⟨.struct [(0, 9, 1), (1, 188, 1)], 2, 40, [(.string .empty), (.slice none 0 0)], false⟩ := rfl
@[simp] theorem tys191 : Tys 191 = some ⟨.struct [(0, 9, 1), (1, 176, 1), (2, 3, 1)], 3, 48, [(.string .empty), (.slice none 0 0), (.int .i64 0)], false⟩ := rfl
@[simp] theorem tys192 : Tys 192 = some ⟨.struct [(0, 9, 1), (1, 176, 1), (2, 3, 1)], 3, 48, [(.string .empty), (.slice none 0 0), (.int .i64 0)], false⟩ := rfl
@[simp] theorem tys223 : Tys 223 = some ⟨.pointer 288, 1, 8, [(.pointer none)], false⟩ := rfl
@[simp] theorem tys225 : Tys 225 = some ⟨.struct [(0, 23, 1), (1, 223, 1)], 2, 32, [(.slice none 0 0), (.pointer none)], false⟩ := rfl
@[simp] theorem tys226 : Tys 226 = some ⟨.struct [(0, 23, 1), (1, 223, 1)], 2, 32, [(.slice none 0 0), (.pointer none)], false⟩ := rfl
@[simp] theorem tys234 : Tys 234 = some ⟨.struct [(0, 57, 1), (1, 25, 2)], 3, 40, [(.slice none 0 0), (.int .i64 0), (.int .i64 0)], false⟩ := rfl
@[simp] theorem tys235 : Tys 235 = some ⟨.struct [(0, 57, 1), (1, 25, 2)], 3, 40, [(.slice none 0 0), (.int .i64 0), (.int .i64 0)], false⟩ := rfl
@[simp] theorem tys236 : Tys 236 = some ⟨.slice 235, 1, 24, [(.slice none 0 0)], false⟩ := rfl
@[simp] theorem tys237 : Tys 237 = some ⟨.slice 296, 1, 24, [(.slice none 0 0)], false⟩ := rfl
@[simp] theorem tys242 : Tys 242 = some ⟨.int .u64, 1, 8, [(.int .u64 0)], false⟩ := rfl
@[simp] theorem tys253 : Tys 253 = some ⟨.map 9 4, 1, 8, [(.map none)], false⟩ := rfl
@[simp] theorem tys272 : Tys 272 = some ⟨.struct [(0, 3, 1), (1, 25, 2)], 3, 24, [(.int .i64 0), (.int .i64 0), (.int .i64 0)], false⟩ := rfl
@[simp] theorem tys273 : Tys 273 = some ⟨.struct [(0, 3, 1), (1, 25, 2)], 3, 24, [(.int .i64 0), (.int .i64 0), (.int .i64 0)], true⟩ := rfl
@[simp] theorem tys286 : Tys 286 = some ⟨.array 4 3, 4, 32, [(.int .i64 0), (.int .i64 0), (.int .i64 0), (.int .i64 0)], false⟩ := rfl
@[simp] theorem tys287 : Tys 287 = some ⟨.array 4 286, 16, 128, [(.int .i64 0), (.int .i64 0), (.int .i64 0), (.int .i64 0), (.int .i64 0), (.int .i64 0), (.int .i64 0), (.int .i64 0), (.int .i64 0), (.int .i64 0), (.int .i64 0), (.int .i64 0), (.int .i64 0), (.int .i64 0), (.int .i64 0), (.int .i64 0)], false⟩ := rfl
@[simp] theorem tys288 : Tys 288 = some ⟨.array 4 286, 16, 128, [(.int .i64 0), (.int .i64 0), (.int .i64 0), (.int .i64 0), (.int .i64 0), (.int .i64 0), (.int .i64 0), (.int .i64 0), (.int .i64 0), (.int .i64 0), (.int .i64 0), (.int .i64 0), (.int .i64 0), (.int .i64 0), (.int .i64 0), (.int .i64 0)], false⟩ := rfl
@[simp] theorem tys292 : Tys 292 = some ⟨.array 11 4, 11, 11, [(.bool false), (.bool false), (.bool false), (.bool false), (.bool false), (.bool false), (.bool false), (.bool false), (.bool false), (.bool false), (.bool false)], false⟩ := rfl
@[simp] theorem tys293 : Tys 293 = some ⟨.slice 137, 1, 24, [(.slice none 0 0)], false⟩ := rfl
@[simp] theorem tys295 : Tys 295 = some ⟨.struct [(0, 3, 1), (1, 39, 1), (2, 65, 1)], 3, 56, [(.int .i64 0), (.slice none 0 0), (.slice none 0 0)], false⟩ := rfl
@[simp] theorem tys296 : Tys 296 = some ⟨.struct [(0, 3, 1), (1, 39, 1), (2, 65, 1)], 3, 56, [(.int .i64 0), (.slice none 0 0), (.slice none 0 0)], false⟩ := rfl
@[simp] theorem tys306 : Tys 306 = some ⟨.int .i64, 1, 8, [(.int .i64 0)], false⟩ := rfl
@[simp] theorem tys314 : Tys 314 = some ⟨.int .u32, 1, 4, [(.int .u32 0)], false⟩ := rfl
@[simp] theorem tys316 : Tys 316 = some ⟨.int .u64, 1, 8, [(.int .u64 0)], false⟩ := rfl
@[simp] theorem tys325 : Tys 325 = some ⟨.array 6 4, 6, 6, [(.bool false), (.bool false), (.bool false), (.bool false), (.bool false), (.bool false)], false⟩ := rfl
@[simp] theorem tys349 : Tys 349 = some ⟨.int .u64, 1, 8, [(.int .u64 0)], false⟩ := rfl
@[simp] theorem tys363 : Tys 363 = some ⟨.pointer 349, 1, 8, [(.pointer none)], false⟩ := rfl
@[simp] theorem tys370 : Tys 370 = some ⟨.struct [(0, 17, 1), (1, 17, 1), (2, 17, 1), (3, 9, 1)], 4, 40, [(.pointer none), (.pointer none), (.pointer none), (.string .empty)], false⟩ := rfl
@[simp] theorem tys371 : Tys 371 = some ⟨.struct [(0, 17, 1), (1, 17, 1), (2, 17, 1), (3, 9, 1)], 4, 40, [(.pointer none), (.pointer none), (.pointer none), (.string .empty)], false⟩ := rfl
@[simp] theorem tys372 : Tys 372 = some ⟨.array 0 16, 0, 0, [], false⟩ := rfl
@[simp] theorem tys376 : Tys 376 = some ⟨.int .u8, 1, 1, [(.int .u8 0)], false⟩ := rfl
@[simp] theorem tys377 : Tys 377 = some ⟨.int .u8, 1, 1, [(.int .u8 0)], false⟩ := rfl
@[simp] theorem tys379 : Tys 379 = some ⟨.pointer 5, 1, 8, [(.pointer none)], false⟩ := rfl
@[simp] theorem tys380 : Tys 380 = some ⟨.int .i32, 1, 4, [(.int .i32 0)], false⟩ := rfl
@[simp] theorem tys381 : Tys 381 = some ⟨.int .i32, 1, 4, [(.int .i32 0)], false⟩ := rfl
theorem tysOk : TyAll Tryz.prog Tys := fun t i h => by
  unfold Tys at h
  split at h
  · cases h; exact ty2
  · cases h; exact ty3
  · cases h; exact ty4
  · cases h; exact ty5
  · cases h; exact ty6
  · cases h; exact ty7
  · cases h; exact ty8
  · cases h; exact ty9
  · cases h; exact ty10
  · cases h; exact ty11
  · cases h; exact ty12
  · cases h; exact ty13
  · cases h; exact ty14
  · cases h; exact ty15
  · cases h; exact ty16
  · cases h; exact ty17
  · cases h; exact ty18
  · cases h; exact ty19
  · cases h; exact ty21
  · cases h; exact ty22
  · cases h; exact ty23
  · cases h; exact ty24
  · cases h; exact ty25
  · cases h; exact ty26
  · cases h; exact ty27
  · cases h; exact ty28
  · cases h; exact ty29
  · cases h; exact ty32
  · cases h; exact ty39
  · cases h; exact ty40
  · cases h; exact ty41
  · cases h; exact ty42
  · cases h; exact ty43
  · cases h; exact ty44
  · cases h; exact ty45
  · cases h; exact ty57
  · cases h; exact ty65
  · cases h; exact ty66
  · cases h; exact ty67
  · cases h; exact ty68
  · cases h; exact ty69
  · cases h; exact ty75
  · cases h; exact ty80
  · cases h; exact ty81
  · cases h; exact ty83
  · cases h; exact ty86
  · cases h; exact ty87
  · cases h; exact ty103
  · cases h; exact ty108
  · cases h; exact ty118
  · cases h; exact ty119
  · cases h; exact ty122
  · cases h; exact ty125
  · cases h; exact ty126
  · cases h; exact ty127
  · cases h; exact ty129
  · cases h; exact ty130
  · cases h; exact ty132
  · cases h; exact ty133
  · cases h; exact ty135
  · cases h; exact ty136
  · cases h; exact ty137
  · cases h; exact ty139
  · cases h; exact ty140
  · cases h; exact ty141
  · cases h; exact ty142
  · cases h; exact ty145
  · cases h; exact ty148
  · cases h; exact ty149
  · cases h; exact ty154
  · cases h; exact ty176
  · cases h; exact ty182
  · cases h; exact ty185
  · cases h; exact ty186
  · cases h; exact ty188
  · cases h; exact ty189
  · cases h; exact ty190
  · cases h; exact ty191
  · cases h; exact ty192
  · cases h; exact ty223
  · cases h; exact ty225
  · cases h; exact ty226
  · cases h; exact ty234
  · cases h; exact ty235
  · cases h; exact ty236
  · cases h; exact ty237
  · cases h; exact ty242
  · cases h; exact ty253
  · cases h; exact ty272
  · cases h; exact ty273
  · cases h; exact ty286
  · cases h; exact ty287
  · cases h; exact ty288
  · cases h; exact ty292
  · cases h; exact ty293
  · cases h; exact ty295
  · cases h; exact ty296
  · cases h; exact ty306
  · cases h; exact ty314
  · cases h; exact ty316
  · cases h; exact ty325
  · cases h; exact ty349
  · cases h; exact ty363
  · cases h; exact ty370
  · cases h; exact ty371
  · cases h; exact ty372
  · cases h; exact ty376
  · cases h; exact ty377
  · cases h; exact ty379
  · cases h; exact ty380
  · cases h; exact ty381
  · cases h
theorem mixed : Tryz.prog.follows .mixedOrders = true := rfl
end Go.Proofs.YtmkamncbkkahjaaGreat
