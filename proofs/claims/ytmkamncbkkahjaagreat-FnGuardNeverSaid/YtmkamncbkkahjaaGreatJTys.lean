import Derived.KernelRfl
import Derived.Test.YtmkamncbkkahjaaGreatProg
import Derived.Test.YtmkamncbkkahjaaGreatJE1
set_option linter.unusedSimpArgs false
set_option linter.unusedVariables false
namespace Go.Proofs.YtmkamncbkkahjaaGreat
open Go Go.RowKit
def ti2 : TyI := ⟨.int .i64, 1, 8, [(.int .i64 0)], false⟩
theorem ty2 : TyOk Tryz.prog 2 ti2 := TyOk.of Tryz.underlying2 (show TK.ok _ (.int .i64) _ from rfl) (.int .i64 0) (by kernel_rfl) rfl rfl rfl rfl (by decide) (fun h => by cases h)
def ti3 : TyI := ⟨.int .i64, 1, 8, [(.int .i64 0)], false⟩
theorem ty3 : TyOk Tryz.prog 3 ti3 := TyOk.of Tryz.underlying3 (show TK.ok _ (.int .i64) _ from rfl) (.int .i64 0) (by kernel_rfl) rfl rfl rfl rfl (by decide) (fun h => by cases h)
def ti4 : TyI := ⟨.bool, 1, 1, [(.bool false)], false⟩
theorem ty4 : TyOk Tryz.prog 4 ti4 := TyOk.of Tryz.underlying4 (show TK.ok _ (.bool) _ from rfl) (.bool false) (by kernel_rfl) rfl rfl rfl rfl (by decide) (fun h => by cases h)
def ti5 : TyI := ⟨.int .u8, 1, 1, [(.int .u8 0)], false⟩
theorem ty5 : TyOk Tryz.prog 5 ti5 := TyOk.of Tryz.underlying5 (show TK.ok _ (.int .u8) _ from rfl) (.int .u8 0) (by kernel_rfl) rfl rfl rfl rfl (by decide) (fun h => by cases h)
def ti6 : TyI := ⟨.int .u8, 1, 1, [(.int .u8 0)], false⟩
theorem ty6 : TyOk Tryz.prog 6 ti6 := TyOk.of Tryz.underlying6 (show TK.ok _ (.int .u8) _ from rfl) (.int .u8 0) (by kernel_rfl) rfl rfl rfl rfl (by decide) (fun h => by cases h)
def ti7 : TyI := ⟨.struct [(0, 2, 1), (1, 3, 1), (2, 4, 1), (3, 6, 1)], 4, 24, [(.int .i64 0), (.int .i64 0), (.bool false), (.int .u8 0)], false⟩
theorem ty7 : TyOk Tryz.prog 7 ti7 := TyOk.of Tryz.underlying7 (show TK.ok _ (.struct [(0, 2, 1), (1, 3, 1), (2, 4, 1), (3, 6, 1)]) _ from ⟨_, rfl, rfl, fun x hx => by simp only [List.mem_cons, List.not_mem_nil, or_false] at hx; rcases hx with rfl | rfl | rfl | rfl <;> exact ⟨by kernel_rfl, by decide⟩⟩) (.agg #[(.int .i64 0), (.int .i64 0), (.bool false), (.int .u8 0)]) (by kernel_rfl) rfl rfl rfl rfl (by decide) (fun h => by cases h)
def ti8 : TyI := ⟨.struct [(0, 2, 1), (1, 3, 1), (2, 4, 1), (3, 6, 1)], 4, 24, [(.int .i64 0), (.int .i64 0), (.bool false), (.int .u8 0)], false⟩
theorem ty8 : TyOk Tryz.prog 8 ti8 := TyOk.of Tryz.underlying8 (show TK.ok _ (.struct [(0, 2, 1), (1, 3, 1), (2, 4, 1), (3, 6, 1)]) _ from ⟨_, rfl, rfl, fun x hx => by simp only [List.mem_cons, List.not_mem_nil, or_false] at hx; rcases hx with rfl | rfl | rfl | rfl <;> exact ⟨by kernel_rfl, by decide⟩⟩) (.agg #[(.int .i64 0), (.int .i64 0), (.bool false), (.int .u8 0)]) (by kernel_rfl) rfl rfl rfl rfl (by decide) (fun h => by cases h)
def ti9 : TyI := ⟨.string, 1, 16, [(.string .empty)], false⟩
theorem ty9 : TyOk Tryz.prog 9 ti9 := TyOk.of Tryz.underlying9 (show TK.ok _ (.string) _ from rfl) (.string .empty) (by kernel_rfl) rfl rfl rfl rfl (by decide) (fun h => by cases h)
def ti10 : TyI := ⟨.string, 1, 16, [(.string .empty)], false⟩
theorem ty10 : TyOk Tryz.prog 10 ti10 := TyOk.of Tryz.underlying10 (show TK.ok _ (.string) _ from rfl) (.string .empty) (by kernel_rfl) rfl rfl rfl rfl (by decide) (fun h => by cases h)
def ti11 : TyI := ⟨.string, 1, 16, [(.string .empty)], false⟩
theorem ty11 : TyOk Tryz.prog 11 ti11 := TyOk.of Tryz.underlying11 (show TK.ok _ (.string) _ from rfl) (.string .empty) (by kernel_rfl) rfl rfl rfl rfl (by decide) (fun h => by cases h)
def ti12 : TyI := ⟨.int .u64, 1, 8, [(.int .u64 0)], false⟩
theorem ty12 : TyOk Tryz.prog 12 ti12 := TyOk.of Tryz.underlying12 (show TK.ok _ (.int .u64) _ from rfl) (.int .u64 0) (by kernel_rfl) rfl rfl rfl rfl (by decide) (fun h => by cases h)
def ti22 : TyI := ⟨.slice 5, 1, 24, [(.slice none 0 0)], false⟩
theorem ty22 : TyOk Tryz.prog 22 ti22 := TyOk.of Tryz.underlying22 (show TK.ok _ (.slice 5) _ from rfl) (.slice none 0 0) (by kernel_rfl) rfl rfl rfl rfl (by decide) (fun h => by cases h)
def ti23 : TyI := ⟨.slice 190, 1, 24, [(.slice none 0 0)], false⟩
theorem ty23 : TyOk Tryz.prog 23 ti23 := TyOk.of Tryz.underlying23 (show TK.ok _ (.slice 190) _ from rfl) (.slice none 0 0) (by kernel_rfl) rfl rfl rfl rfl (by decide) (fun h => by cases h)
def ti24 : TyI := ⟨.struct [(0, 3, 1), (1, 3, 1)], 2, 16, [(.int .i64 0), (.int .i64 0)], false⟩
theorem ty24 : TyOk Tryz.prog 24 ti24 := TyOk.of Tryz.underlying24 (show TK.ok _ (.struct [(0, 3, 1), (1, 3, 1)]) _ from ⟨_, rfl, rfl, fun x hx => by simp only [List.mem_cons, List.not_mem_nil, or_false] at hx; rcases hx with rfl | rfl <;> exact ⟨by kernel_rfl, by decide⟩⟩) (.agg #[(.int .i64 0), (.int .i64 0)]) (by kernel_rfl) rfl rfl rfl rfl (by decide) (fun h => by cases h)
def ti25 : TyI := ⟨.struct [(0, 3, 1), (1, 3, 1)], 2, 16, [(.int .i64 0), (.int .i64 0)], true⟩
theorem ty25 : TyOk Tryz.prog 25 ti25 := TyOk.of Tryz.underlying25 (show TK.ok _ (.struct [(0, 3, 1), (1, 3, 1)]) _ from ⟨_, rfl, rfl, fun x hx => by simp only [List.mem_cons, List.not_mem_nil, or_false] at hx; rcases hx with rfl | rfl <;> exact ⟨by kernel_rfl, by decide⟩⟩) (.agg #[(.int .i64 0), (.int .i64 0)]) (by kernel_rfl) rfl rfl rfl rfl (by decide) (fun _ fs h => by cases h; exact ⟨by kernel_rfl, by kernel_rfl, by kernel_rfl, by kernel_rfl⟩)
def ti26 : TyI := ⟨.slice 45, 1, 24, [(.slice none 0 0)], false⟩
theorem ty26 : TyOk Tryz.prog 26 ti26 := TyOk.of Tryz.underlying26 (show TK.ok _ (.slice 45) _ from rfl) (.slice none 0 0) (by kernel_rfl) rfl rfl rfl rfl (by decide) (fun h => by cases h)
def ti27 : TyI := ⟨.slice 29, 1, 24, [(.slice none 0 0)], false⟩
theorem ty27 : TyOk Tryz.prog 27 ti27 := TyOk.of Tryz.underlying27 (show TK.ok _ (.slice 29) _ from rfl) (.slice none 0 0) (by kernel_rfl) rfl rfl rfl rfl (by decide) (fun h => by cases h)
def ti28 : TyI := ⟨.struct [(0, 3, 1), (1, 3, 1), (2, 27, 1)], 3, 40, [(.int .i64 0), (.int .i64 0), (.slice none 0 0)], false⟩
theorem ty28 : TyOk Tryz.prog 28 ti28 := TyOk.of Tryz.underlying28 (show TK.ok _ (.struct [(0, 3, 1), (1, 3, 1), (2, 27, 1)]) _ from ⟨_, rfl, rfl, fun x hx => by simp only [List.mem_cons, List.not_mem_nil, or_false] at hx; rcases hx with rfl | rfl | rfl <;> exact ⟨by kernel_rfl, by decide⟩⟩) (.agg #[(.int .i64 0), (.int .i64 0), (.slice none 0 0)]) (by kernel_rfl) rfl rfl rfl rfl (by decide) (fun h => by cases h)
def ti29 : TyI := ⟨.struct [(0, 3, 1), (1, 3, 1), (2, 27, 1)], 3, 40, [(.int .i64 0), (.int .i64 0), (.slice none 0 0)], false⟩
theorem ty29 : TyOk Tryz.prog 29 ti29 := TyOk.of Tryz.underlying29 (show TK.ok _ (.struct [(0, 3, 1), (1, 3, 1), (2, 27, 1)]) _ from ⟨_, rfl, rfl, fun x hx => by simp only [List.mem_cons, List.not_mem_nil, or_false] at hx; rcases hx with rfl | rfl | rfl <;> exact ⟨by kernel_rfl, by decide⟩⟩) (.agg #[(.int .i64 0), (.int .i64 0), (.slice none 0 0)]) (by kernel_rfl) rfl rfl rfl rfl (by decide) (fun h => by cases h)
def ti32 : TyI := ⟨.slice 87, 1, 24, [(.slice none 0 0)], false⟩
theorem ty32 : TyOk Tryz.prog 32 ti32 := TyOk.of Tryz.underlying32 (show TK.ok _ (.slice 87) _ from rfl) (.slice none 0 0) (by kernel_rfl) rfl rfl rfl rfl (by decide) (fun h => by cases h)
def ti39 : TyI := ⟨.slice 41, 1, 24, [(.slice none 0 0)], false⟩
theorem ty39 : TyOk Tryz.prog 39 ti39 := TyOk.of Tryz.underlying39 (show TK.ok _ (.slice 41) _ from rfl) (.slice none 0 0) (by kernel_rfl) rfl rfl rfl rfl (by decide) (fun h => by cases h)
def ti40 : TyI := ⟨.struct [(0, 3, 1), (1, 3, 1), (2, 3, 1), (3, 3, 1), (4, 3, 1), (5, 39, 1)], 6, 64, [(.int .i64 0), (.int .i64 0), (.int .i64 0), (.int .i64 0), (.int .i64 0), (.slice none 0 0)], false⟩
theorem ty40 : TyOk Tryz.prog 40 ti40 := TyOk.of Tryz.underlying40 (show TK.ok _ (.struct [(0, 3, 1), (1, 3, 1), (2, 3, 1), (3, 3, 1), (4, 3, 1), (5, 39, 1)]) _ from ⟨_, rfl, rfl, fun x hx => by simp only [List.mem_cons, List.not_mem_nil, or_false] at hx; rcases hx with rfl | rfl | rfl | rfl | rfl | rfl <;> exact ⟨by kernel_rfl, by decide⟩⟩) (.agg #[(.int .i64 0), (.int .i64 0), (.int .i64 0), (.int .i64 0), (.int .i64 0), (.slice none 0 0)]) (by kernel_rfl) rfl rfl rfl rfl (by decide) (fun h => by cases h)
def ti41 : TyI := ⟨.struct [(0, 3, 1), (1, 3, 1), (2, 3, 1), (3, 3, 1), (4, 3, 1), (5, 39, 1)], 6, 64, [(.int .i64 0), (.int .i64 0), (.int .i64 0), (.int .i64 0), (.int .i64 0), (.slice none 0 0)], false⟩
theorem ty41 : TyOk Tryz.prog 41 ti41 := TyOk.of Tryz.underlying41 (show TK.ok _ (.struct [(0, 3, 1), (1, 3, 1), (2, 3, 1), (3, 3, 1), (4, 3, 1), (5, 39, 1)]) _ from ⟨_, rfl, rfl, fun x hx => by simp only [List.mem_cons, List.not_mem_nil, or_false] at hx; rcases hx with rfl | rfl | rfl | rfl | rfl | rfl <;> exact ⟨by kernel_rfl, by decide⟩⟩) (.agg #[(.int .i64 0), (.int .i64 0), (.int .i64 0), (.int .i64 0), (.int .i64 0), (.slice none 0 0)]) (by kernel_rfl) rfl rfl rfl rfl (by decide) (fun h => by cases h)
def ti42 : TyI := ⟨.struct [(0, 3, 1), (1, 3, 1), (2, 3, 1)], 3, 24, [(.int .i64 0), (.int .i64 0), (.int .i64 0)], false⟩
theorem ty42 : TyOk Tryz.prog 42 ti42 := TyOk.of Tryz.underlying42 (show TK.ok _ (.struct [(0, 3, 1), (1, 3, 1), (2, 3, 1)]) _ from ⟨_, rfl, rfl, fun x hx => by simp only [List.mem_cons, List.not_mem_nil, or_false] at hx; rcases hx with rfl | rfl | rfl <;> exact ⟨by kernel_rfl, by decide⟩⟩) (.agg #[(.int .i64 0), (.int .i64 0), (.int .i64 0)]) (by kernel_rfl) rfl rfl rfl rfl (by decide) (fun h => by cases h)
def ti43 : TyI := ⟨.struct [(0, 3, 1), (1, 3, 1), (2, 3, 1)], 3, 24, [(.int .i64 0), (.int .i64 0), (.int .i64 0)], true⟩
theorem ty43 : TyOk Tryz.prog 43 ti43 := TyOk.of Tryz.underlying43 (show TK.ok _ (.struct [(0, 3, 1), (1, 3, 1), (2, 3, 1)]) _ from ⟨_, rfl, rfl, fun x hx => by simp only [List.mem_cons, List.not_mem_nil, or_false] at hx; rcases hx with rfl | rfl | rfl <;> exact ⟨by kernel_rfl, by decide⟩⟩) (.agg #[(.int .i64 0), (.int .i64 0), (.int .i64 0)]) (by kernel_rfl) rfl rfl rfl rfl (by decide) (fun _ fs h => by cases h; exact ⟨by kernel_rfl, by kernel_rfl, by kernel_rfl, by kernel_rfl⟩)
def ti44 : TyI := ⟨.struct [(0, 41, 6), (6, 43, 3)], 9, 88, [(.int .i64 0), (.int .i64 0), (.int .i64 0), (.int .i64 0), (.int .i64 0), (.slice none 0 0), (.int .i64 0), (.int .i64 0), (.int .i64 0)], false⟩
theorem ty44 : TyOk Tryz.prog 44 ti44 := TyOk.of Tryz.underlying44 (show TK.ok _ (.struct [(0, 41, 6), (6, 43, 3)]) _ from ⟨_, rfl, rfl, fun x hx => by simp only [List.mem_cons, List.not_mem_nil, or_false] at hx; rcases hx with rfl | rfl <;> exact ⟨by kernel_rfl, by decide⟩⟩) (.agg #[(.int .i64 0), (.int .i64 0), (.int .i64 0), (.int .i64 0), (.int .i64 0), (.slice none 0 0), (.int .i64 0), (.int .i64 0), (.int .i64 0)]) (by kernel_rfl) rfl rfl rfl rfl (by decide) (fun h => by cases h)
def ti45 : TyI := ⟨.struct [(0, 41, 6), (6, 43, 3)], 9, 88, [(.int .i64 0), (.int .i64 0), (.int .i64 0), (.int .i64 0), (.int .i64 0), (.slice none 0 0), (.int .i64 0), (.int .i64 0), (.int .i64 0)], false⟩
theorem ty45 : TyOk Tryz.prog 45 ti45 := TyOk.of Tryz.underlying45 (show TK.ok _ (.struct [(0, 41, 6), (6, 43, 3)]) _ from ⟨_, rfl, rfl, fun x hx => by simp only [List.mem_cons, List.not_mem_nil, or_false] at hx; rcases hx with rfl | rfl <;> exact ⟨by kernel_rfl, by decide⟩⟩) (.agg #[(.int .i64 0), (.int .i64 0), (.int .i64 0), (.int .i64 0), (.int .i64 0), (.slice none 0 0), (.int .i64 0), (.int .i64 0), (.int .i64 0)]) (by kernel_rfl) rfl rfl rfl rfl (by decide) (fun h => by cases h)
def ti57 : TyI := ⟨.slice 3, 1, 24, [(.slice none 0 0)], false⟩
theorem ty57 : TyOk Tryz.prog 57 ti57 := TyOk.of Tryz.underlying57 (show TK.ok _ (.slice 3) _ from rfl) (.slice none 0 0) (by kernel_rfl) rfl rfl rfl rfl (by decide) (fun h => by cases h)
def ti86 : TyI := ⟨.struct [(0, 3, 1), (1, 29, 3)], 4, 48, [(.int .i64 0), (.int .i64 0), (.int .i64 0), (.slice none 0 0)], false⟩
theorem ty86 : TyOk Tryz.prog 86 ti86 := TyOk.of Tryz.underlying86 (show TK.ok _ (.struct [(0, 3, 1), (1, 29, 3)]) _ from ⟨_, rfl, rfl, fun x hx => by simp only [List.mem_cons, List.not_mem_nil, or_false] at hx; rcases hx with rfl | rfl <;> exact ⟨by kernel_rfl, by decide⟩⟩) (.agg #[(.int .i64 0), (.int .i64 0), (.int .i64 0), (.slice none 0 0)]) (by kernel_rfl) rfl rfl rfl rfl (by decide) (fun h => by cases h)
def ti87 : TyI := ⟨.struct [(0, 3, 1), (1, 29, 3)], 4, 48, [(.int .i64 0), (.int .i64 0), (.int .i64 0), (.slice none 0 0)], false⟩
theorem ty87 : TyOk Tryz.prog 87 ti87 := TyOk.of Tryz.underlying87 (show TK.ok _ (.struct [(0, 3, 1), (1, 29, 3)]) _ from ⟨_, rfl, rfl, fun x hx => by simp only [List.mem_cons, List.not_mem_nil, or_false] at hx; rcases hx with rfl | rfl <;> exact ⟨by kernel_rfl, by decide⟩⟩) (.agg #[(.int .i64 0), (.int .i64 0), (.int .i64 0), (.slice none 0 0)]) (by kernel_rfl) rfl rfl rfl rfl (by decide) (fun h => by cases h)
def ti103 : TyI := ⟨.pointer 186, 1, 8, [(.pointer none)], false⟩
theorem ty103 : TyOk Tryz.prog 103 ti103 := TyOk.of Tryz.underlying103 (show TK.ok _ (.pointer 186) _ from rfl) (.pointer none) (by kernel_rfl) rfl rfl rfl rfl (by decide) (fun h => by cases h)
def ti108 : TyI := ⟨.slice 9, 1, 24, [(.slice none 0 0)], false⟩
theorem ty108 : TyOk Tryz.prog 108 ti108 := TyOk.of Tryz.underlying108 (show TK.ok _ (.slice 9) _ from rfl) (.slice none 0 0) (by kernel_rfl) rfl rfl rfl rfl (by decide) (fun h => by cases h)
def ti154 : TyI := ⟨.pointer 3, 1, 8, [(.pointer none)], false⟩
theorem ty154 : TyOk Tryz.prog 154 ti154 := TyOk.of Tryz.underlying154 (show TK.ok _ (.pointer 3) _ from rfl) (.pointer none) (by kernel_rfl) rfl rfl rfl rfl (by decide) (fun h => by cases h)
def ti176 : TyI := ⟨.slice 25, 1, 24, [(.slice none 0 0)], false⟩
theorem ty176 : TyOk Tryz.prog 176 ti176 := TyOk.of Tryz.underlying176 (show TK.ok _ (.slice 25) _ from rfl) (.slice none 0 0) (by kernel_rfl) rfl rfl rfl rfl (by decide) (fun h => by cases h)
def ti182 : TyI := ⟨.slice 273, 1, 24, [(.slice none 0 0)], false⟩
theorem ty182 : TyOk Tryz.prog 182 ti182 := TyOk.of Tryz.underlying182 (show TK.ok _ (.slice 273) _ from rfl) (.slice none 0 0) (by kernel_rfl) rfl rfl rfl rfl (by decide) (fun h => by cases h)
def ti185 : TyI := ⟨.struct [(0, 22, 1), (1, 3, 1)], 2, 32, [(.slice none 0 0), (.int .i64 0)], false⟩
theorem ty185 : TyOk Tryz.prog 185 ti185 := TyOk.of Tryz.underlying185 (show TK.ok _ (.struct [(0, 22, 1), (1, 3, 1)]) _ from ⟨_, rfl, rfl, fun x hx => by simp only [List.mem_cons, List.not_mem_nil, or_false] at hx; rcases hx with rfl | rfl <;> exact ⟨by kernel_rfl, by decide⟩⟩) (.agg #[(.slice none 0 0), (.int .i64 0)]) (by kernel_rfl) rfl rfl rfl rfl (by decide) (fun h => by cases h)
def ti186 : TyI := ⟨.struct [(0, 22, 1), (1, 3, 1)], 2, 32, [(.slice none 0 0), (.int .i64 0)], false⟩
theorem ty186 : TyOk Tryz.prog 186 ti186 := TyOk.of Tryz.underlying186 (show TK.ok _ (.struct [(0, 22, 1), (1, 3, 1)]) _ from ⟨_, rfl, rfl, fun x hx => by simp only [List.mem_cons, List.not_mem_nil, or_false] at hx; rcases hx with rfl | rfl <;> exact ⟨by kernel_rfl, by decide⟩⟩) (.agg #[(.slice none 0 0), (.int .i64 0)]) (by kernel_rfl) rfl rfl rfl rfl (by decide) (fun h => by cases h)
def ti188 : TyI := ⟨.slice 192, 1, 24, [(.slice none 0 0)], false⟩
theorem ty188 : TyOk Tryz.prog 188 ti188 := TyOk.of Tryz.underlying188 (show TK.ok _ (.slice 192) _ from rfl) (.slice none 0 0) (by kernel_rfl) rfl rfl rfl rfl (by decide) (fun h => by cases h)
def ti189 : TyI := ⟨.struct [(0, 9, 1), (1, 188, 1)], 2, 40, [(.string .empty), (.slice none 0 0)], false⟩
theorem ty189 : TyOk Tryz.prog 189 ti189 := TyOk.of Tryz.underlying189 (show TK.ok _ (.struct [(0, 9, 1), (1, 188, 1)]) _ from ⟨_, rfl, rfl, fun x hx => by simp only [List.mem_cons, List.not_mem_nil, or_false] at hx; rcases hx with rfl | rfl <;> exact ⟨by kernel_rfl, by decide⟩⟩) (.agg #[(.string .empty), (.slice none 0 0)]) (by kernel_rfl) rfl rfl rfl rfl (by decide) (fun h => by cases h)
def ti190 : TyI := ⟨.struct [(0, 9, 1), (1, 188, 1)], 2, 40, [(.string .empty), (.slice none 0 0)], false⟩
theorem ty190 : TyOk Tryz.prog 190 ti190 := TyOk.of Tryz.underlying190 (show TK.ok _ (.struct [(0, 9, 1), (1, 188, 1)]) _ from ⟨_, rfl, rfl, fun x hx => by simp only [List.mem_cons, List.not_mem_nil, or_false] at hx; rcases hx with rfl | rfl <;> exact ⟨by kernel_rfl, by decide⟩⟩) (.agg #[(.string .empty), (.slice none 0 0)]) (by kernel_rfl) rfl rfl rfl rfl (by decide) (fun h => by cases h)
def ti191 : TyI := ⟨.struct [(0, 9, 1), (1, 176, 1), (2, 3, 1)], 3, 48, [(.string .empty), (.slice none 0 0), (.int .i64 0)], false⟩
theorem ty191 : TyOk Tryz.prog 191 ti191 := TyOk.of Tryz.underlying191 (show TK.ok _ (.struct [(0, 9, 1), (1, 176, 1), (2, 3, 1)]) _ from ⟨_, rfl, rfl, fun x hx => by simp only [List.mem_cons, List.not_mem_nil, or_false] at hx; rcases hx with rfl | rfl | rfl <;> exact ⟨by kernel_rfl, by decide⟩⟩) (.agg #[(.string .empty), (.slice none 0 0), (.int .i64 0)]) (by kernel_rfl) rfl rfl rfl rfl (by decide) (fun h => by cases h)
def ti192 : TyI := ⟨.struct [(0, 9, 1), (1, 176, 1), (2, 3, 1)], 3, 48, [(.string .empty), (.slice none 0 0), (.int .i64 0)], false⟩
theorem ty192 : TyOk Tryz.prog 192 ti192 := TyOk.of Tryz.underlying192 (show TK.ok _ (.struct [(0, 9, 1), (1, 176, 1), (2, 3, 1)]) _ from ⟨_, rfl, rfl, fun x hx => by simp only [List.mem_cons, List.not_mem_nil, or_false] at hx; rcases hx with rfl | rfl | rfl <;> exact ⟨by kernel_rfl, by decide⟩⟩) (.agg #[(.string .empty), (.slice none 0 0), (.int .i64 0)]) (by kernel_rfl) rfl rfl rfl rfl (by decide) (fun h => by cases h)
def ti242 : TyI := ⟨.int .u64, 1, 8, [(.int .u64 0)], false⟩
theorem ty242 : TyOk Tryz.prog 242 ti242 := TyOk.of Tryz.underlying242 (show TK.ok _ (.int .u64) _ from rfl) (.int .u64 0) (by kernel_rfl) rfl rfl rfl rfl (by decide) (fun h => by cases h)
def ti253 : TyI := ⟨.map 9 4, 1, 8, [(.map none)], false⟩
theorem ty253 : TyOk Tryz.prog 253 ti253 := TyOk.of Tryz.underlying253 (show TK.ok _ (.map 9 4) _ from rfl) (.map none) (by kernel_rfl) rfl rfl rfl rfl (by decide) (fun h => by cases h)
def ti272 : TyI := ⟨.struct [(0, 3, 1), (1, 25, 2)], 3, 24, [(.int .i64 0), (.int .i64 0), (.int .i64 0)], false⟩
theorem ty272 : TyOk Tryz.prog 272 ti272 := TyOk.of Tryz.underlying272 (show TK.ok _ (.struct [(0, 3, 1), (1, 25, 2)]) _ from ⟨_, rfl, rfl, fun x hx => by simp only [List.mem_cons, List.not_mem_nil, or_false] at hx; rcases hx with rfl | rfl <;> exact ⟨by kernel_rfl, by decide⟩⟩) (.agg #[(.int .i64 0), (.int .i64 0), (.int .i64 0)]) (by kernel_rfl) rfl rfl rfl rfl (by decide) (fun h => by cases h)
def ti273 : TyI := ⟨.struct [(0, 3, 1), (1, 25, 2)], 3, 24, [(.int .i64 0), (.int .i64 0), (.int .i64 0)], true⟩
theorem ty273 : TyOk Tryz.prog 273 ti273 := TyOk.of Tryz.underlying273 (show TK.ok _ (.struct [(0, 3, 1), (1, 25, 2)]) _ from ⟨_, rfl, rfl, fun x hx => by simp only [List.mem_cons, List.not_mem_nil, or_false] at hx; rcases hx with rfl | rfl <;> exact ⟨by kernel_rfl, by decide⟩⟩) (.agg #[(.int .i64 0), (.int .i64 0), (.int .i64 0)]) (by kernel_rfl) rfl rfl rfl rfl (by decide) (fun _ fs h => by cases h; exact ⟨by kernel_rfl, by kernel_rfl, by kernel_rfl, by kernel_rfl⟩)
def ti306 : TyI := ⟨.int .i64, 1, 8, [(.int .i64 0)], false⟩
theorem ty306 : TyOk Tryz.prog 306 ti306 := TyOk.of Tryz.underlying306 (show TK.ok _ (.int .i64) _ from rfl) (.int .i64 0) (by kernel_rfl) rfl rfl rfl rfl (by decide) (fun h => by cases h)
def ti314 : TyI := ⟨.int .u32, 1, 4, [(.int .u32 0)], false⟩
theorem ty314 : TyOk Tryz.prog 314 ti314 := TyOk.of Tryz.underlying314 (show TK.ok _ (.int .u32) _ from rfl) (.int .u32 0) (by kernel_rfl) rfl rfl rfl rfl (by decide) (fun h => by cases h)
def ti316 : TyI := ⟨.int .u64, 1, 8, [(.int .u64 0)], false⟩
theorem ty316 : TyOk Tryz.prog 316 ti316 := TyOk.of Tryz.underlying316 (show TK.ok _ (.int .u64) _ from rfl) (.int .u64 0) (by kernel_rfl) rfl rfl rfl rfl (by decide) (fun h => by cases h)
def ti325 : TyI := ⟨.array 6 4, 6, 6, [(.bool false), (.bool false), (.bool false), (.bool false), (.bool false), (.bool false)], false⟩
theorem ty325 : TyOk Tryz.prog 325 ti325 := TyOk.of Tryz.underlying325 (show TK.ok _ (.array 6 4) _ from rfl) (.agg #[(.bool false), (.bool false), (.bool false), (.bool false), (.bool false), (.bool false)]) (by kernel_rfl) rfl rfl rfl rfl (by decide) (fun h => by cases h)
def Tys : Ty := fun t => match t with
  | 2 => some ti2
  | 3 => some ti3
  | 4 => some ti4
  | 5 => some ti5
  | 6 => some ti6
  | 7 => some ti7
  | 8 => some ti8
  | 9 => some ti9
  | 10 => some ti10
  | 11 => some ti11
  | 12 => some ti12
  | 22 => some ti22
  | 23 => some ti23
  | 24 => some ti24
  | 25 => some ti25
  | 26 => some ti26
  | 27 => some ti27
  | 28 => some ti28
  | 29 => some ti29
  | 32 => some ti32
  | 39 => some ti39
  | 40 => some ti40
  | 41 => some ti41
  | 42 => some ti42
  | 43 => some ti43
  | 44 => some ti44
  | 45 => some ti45
  | 57 => some ti57
  | 86 => some ti86
  | 87 => some ti87
  | 103 => some ti103
  | 108 => some ti108
  | 154 => some ti154
  | 176 => some ti176
  | 182 => some ti182
  | 185 => some ti185
  | 186 => some ti186
  | 188 => some ti188
  | 189 => some ti189
  | 190 => some ti190
  | 191 => some ti191
  | 192 => some ti192
  | 242 => some ti242
  | 253 => some ti253
  | 272 => some ti272
  | 273 => some ti273
  | 306 => some ti306
  | 314 => some ti314
  | 316 => some ti316
  | 325 => some ti325
  | _ => none
@[simp] theorem tys2 : Tys 2 = some ⟨.int .i64, 1, 8, [(.int .i64 0)], false⟩ := rfl
@[simp] theorem tys3 : Tys 3 = some ⟨.int .i64, 1, 8, [(.int .i64 0)], false⟩ := rfl
@[simp] theorem tys4 : Tys 4 = some ⟨.bool, 1, 1, [(.bool false)], false⟩ := rfl
@[simp] theorem tys5 : Tys 5 = some ⟨.int .u8, 1, 1, [(.int .u8 0)], false⟩ := rfl
@[simp] theorem tys6 : Tys 6 = some ⟨.int .u8, 1, 1, [(.int .u8 0)], false⟩ := rfl
@[simp] theorem tys7 : Tys 7 = some ⟨.struct [(0, 2, 1), (1, 3, 1), (2, 4, 1), (3, 6, 1)], 4, 24, [(.int .i64 0), (.int .i64 0), (.bool false), (.int .u8 0)], false⟩ := rfl
@[simp] theorem tys8 : Tys 8 = some ⟨.struct [(0, 2, 1), (1, 3, 1), (2, 4, 1), (3, 6, 1)], 4, 24, [(.int .i64 0), (.int .i64 0), (.bool false), (.int .u8 0)], false⟩ := rfl
@[simp] theorem tys9 : Tys 9 = some ⟨.string, 1, 16, [(.string .empty)], false⟩ := rfl
@[simp] theorem tys10 : Tys 10 = some ⟨.string, 1, 16, [(.string .empty)], false⟩ := rfl
@[simp] theorem tys11 : Tys 11 = some ⟨.string, 1, 16, [(.string .empty)], false⟩ := rfl
@[simp] theorem tys12 : Tys 12 = some ⟨.int .u64, 1, 8, [(.int .u64 0)], false⟩ := rfl
@[simp] theorem tys22 : Tys 22 = some ⟨.slice 5, 1, 24, [(.slice none 0 0)], false⟩ := rfl
@[simp] theorem tys23 : Tys 23 = some ⟨.slice 190, 1, 24, [(.slice none 0 0)], false⟩ := rfl
@[simp] theorem tys24 : Tys 24 = some ⟨.struct [(0, 3, 1), (1, 3, 1)], 2, 16, [(.int .i64 0), (.int .i64 0)], false⟩ := rfl
@[simp] theorem tys25 : Tys 25 = some ⟨.struct [(0, 3, 1), (1, 3, 1)], 2, 16, [(.int .i64 0), (.int .i64 0)], true⟩ := rfl
@[simp] theorem tys26 : Tys 26 = some ⟨.slice 45, 1, 24, [(.slice none 0 0)], false⟩ := rfl
@[simp] theorem tys27 : Tys 27 = some ⟨.slice 29, 1, 24, [(.slice none 0 0)], false⟩ := rfl
@[simp] theorem tys28 : Tys 28 = some ⟨.struct [(0, 3, 1), (1, 3, 1), (2, 27, 1)], 3, 40, [(.int .i64 0), (.int .i64 0), (.slice none 0 0)], false⟩ := rfl
@[simp] theorem tys29 : Tys 29 = some ⟨.struct [(0, 3, 1), (1, 3, 1), (2, 27, 1)], 3, 40, [(.int .i64 0), (.int .i64 0), (.slice none 0 0)], false⟩ := rfl
@[simp] theorem tys32 : Tys 32 = some ⟨.slice 87, 1, 24, [(.slice none 0 0)], false⟩ := rfl
@[simp] theorem tys39 : Tys 39 = some ⟨.slice 41, 1, 24, [(.slice none 0 0)], false⟩ := rfl
@[simp] theorem tys40 : Tys 40 = some ⟨.struct [(0, 3, 1), (1, 3, 1), (2, 3, 1), (3, 3, 1), (4, 3, 1), (5, 39, 1)], 6, 64, [(.int .i64 0), (.int .i64 0), (.int .i64 0), (.int .i64 0), (.int .i64 0), (.slice none 0 0)], false⟩ := rfl
@[simp] theorem tys41 : Tys 41 = some ⟨.struct [(0, 3, 1), (1, 3, 1), (2, 3, 1), (3, 3, 1), (4, 3, 1), (5, 39, 1)], 6, 64, [(.int .i64 0), (.int .i64 0), (.int .i64 0), (.int .i64 0), (.int .i64 0), (.slice none 0 0)], false⟩ := rfl
@[simp] theorem tys42 : Tys 42 = some ⟨.struct [(0, 3, 1), (1, 3, 1), (2, 3, 1)], 3, 24, [(.int .i64 0), (.int .i64 0), (.int .i64 0)], false⟩ := rfl
@[simp] theorem tys43 : Tys 43 = some ⟨.struct [(0, 3, 1), (1, 3, 1), (2, 3, 1)], 3, 24, [(.int .i64 0), (.int .i64 0), (.int .i64 0)], true⟩ := rfl
@[simp] theorem tys44 : Tys 44 = some ⟨.struct [(0, 41, 6), (6, 43, 3)], 9, 88, [(.int .i64 0), (.int .i64 0), (.int .i64 0), (.int .i64 0), (.int .i64 0), (.slice none 0 0), (.int .i64 0), (.int .i64 0), (.int .i64 0)], false⟩ := rfl
@[simp] theorem tys45 : Tys 45 = some ⟨.struct [(0, 41, 6), (6, 43, 3)], 9, 88, [(.int .i64 0), (.int .i64 0), (.int .i64 0), (.int .i64 0), (.int .i64 0), (.slice none 0 0), (.int .i64 0), (.int .i64 0), (.int .i64 0)], false⟩ := rfl
@[simp] theorem tys57 : Tys 57 = some ⟨.slice 3, 1, 24, [(.slice none 0 0)], false⟩ := rfl
@[simp] theorem tys86 : Tys 86 = some ⟨.struct [(0, 3, 1), (1, 29, 3)], 4, 48, [(.int .i64 0), (.int .i64 0), (.int .i64 0), (.slice none 0 0)], false⟩ := rfl
@[simp] theorem tys87 : Tys 87 = some ⟨.struct [(0, 3, 1), (1, 29, 3)], 4, 48, [(.int .i64 0), (.int .i64 0), (.int .i64 0), (.slice none 0 0)], false⟩ := rfl
@[simp] theorem tys103 : Tys 103 = some ⟨.pointer 186, 1, 8, [(.pointer none)], false⟩ := rfl
@[simp] theorem tys108 : Tys 108 = some ⟨.slice 9, 1, 24, [(.slice none 0 0)], false⟩ := rfl
@[simp] theorem tys154 : Tys 154 = some ⟨.pointer 3, 1, 8, [(.pointer none)], false⟩ := rfl
@[simp] theorem tys176 : Tys 176 = some ⟨.slice 25, 1, 24, [(.slice none 0 0)], false⟩ := rfl
@[simp] theorem tys182 : Tys 182 = some ⟨.slice 273, 1, 24, [(.slice none 0 0)], false⟩ := rfl
@[simp] theorem tys185 : Tys 185 = some ⟨.struct [(0, 22, 1), (1, 3, 1)], 2, 32, [(.slice none 0 0), (.int .i64 0)], false⟩ := rfl
@[simp] theorem tys186 : Tys 186 = some ⟨.struct [(0, 22, 1), (1, 3, 1)], 2, 32, [(.slice none 0 0), (.int .i64 0)], false⟩ := rfl
@[simp] theorem tys188 : Tys 188 = some ⟨.slice 192, 1, 24, [(.slice none 0 0)], false⟩ := rfl
@[simp] theorem tys189 : Tys 189 = some ⟨.struct [(0, 9, 1), (1, 188, 1)], 2, 40, [(.string .empty), (.slice none 0 0)], false⟩ := rfl
@[simp] theorem tys190 : Tys 190 = some ⟨.struct [(0, 9, 1), (1, 188, 1)], 2, 40, [(.string .empty), (.slice none 0 0)], false⟩ := rfl
@[simp] theorem tys191 : Tys 191 = some ⟨.struct [(0, 9, 1), (1, 176, 1), (2, 3, 1)], 3, 48, [(.string .empty), (.slice none 0 0), (.int .i64 0)], false⟩ := rfl
@[simp] theorem tys192 : Tys 192 = some ⟨.struct [(0, 9, 1), (1, 176, 1), (2, 3, 1)], 3, 48, [(.string .empty), (.slice none 0 0), (.int .i64 0)], false⟩ := rfl
@[simp] theorem tys242 : Tys 242 = some ⟨.int .u64, 1, 8, [(.int .u64 0)], false⟩ := rfl
@[simp] theorem tys253 : Tys 253 = some ⟨.map 9 4, 1, 8, [(.map none)], false⟩ := rfl
@[simp] theorem tys272 : Tys 272 = some ⟨.struct [(0, 3, 1), (1, 25, 2)], 3, 24, [(.int .i64 0), (.int .i64 0), (.int .i64 0)], false⟩ := rfl
@[simp] theorem tys273 : Tys 273 = some ⟨.struct [(0, 3, 1), (1, 25, 2)], 3, 24, [(.int .i64 0), (.int .i64 0), (.int .i64 0)], true⟩ := rfl
@[simp] theorem tys306 : Tys 306 = some ⟨.int .i64, 1, 8, [(.int .i64 0)], false⟩ := rfl
@[simp] theorem tys314 : Tys 314 = some ⟨.int .u32, 1, 4, [(.int .u32 0)], false⟩ := rfl
@[simp] theorem tys316 : Tys 316 = some ⟨.int .u64, 1, 8, [(.int .u64 0)], false⟩ := rfl
@[simp] theorem tys325 : Tys 325 = some ⟨.array 6 4, 6, 6, [(.bool false), (.bool false), (.bool false), (.bool false), (.bool false), (.bool false)], false⟩ := rfl
theorem tysOk : TyAll Tryz.prog Tys := fun t i h => by
  unfold Tys at h
  split at h
  · cases h; exact ty2
  · cases h; exact ty3
  · cases h; exact ty4
  · cases h; exact ty5
  · cases h; exact ty6
  · cases h; exact ty7
  · cases h; exact ty8
  · cases h; exact ty9
  · cases h; exact ty10
  · cases h; exact ty11
  · cases h; exact ty12
  · cases h; exact ty22
  · cases h; exact ty23
  · cases h; exact ty24
  · cases h; exact ty25
  · cases h; exact ty26
  · cases h; exact ty27
  · cases h; exact ty28
  · cases h; exact ty29
  · cases h; exact ty32
  · cases h; exact ty39
  · cases h; exact ty40
  · cases h; exact ty41
  · cases h; exact ty42
  · cases h; exact ty43
  · cases h; exact ty44
  · cases h; exact ty45
  · cases h; exact ty57
  · cases h; exact ty86
  · cases h; exact ty87
  · cases h; exact ty103
  · cases h; exact ty108
  · cases h; exact ty154
  · cases h; exact ty176
  · cases h; exact ty182
  · cases h; exact ty185
  · cases h; exact ty186
  · cases h; exact ty188
  · cases h; exact ty189
  · cases h; exact ty190
  · cases h; exact ty191
  · cases h; exact ty192
  · cases h; exact ty242
  · cases h; exact ty253
  · cases h; exact ty272
  · cases h; exact ty273
  · cases h; exact ty306
  · cases h; exact ty314
  · cases h; exact ty316
  · cases h; exact ty325
  · cases h
theorem mixed : Tryz.prog.follows .mixedOrders = true := rfl
end Go.Proofs.YtmkamncbkkahjaaGreat
