import Derived.Test.YtimpchdgflhkaaaGreatJMir
import Derived.Test.YtimpchdgflhkaaaGreatJZap
import Derived.Test.YtimpchdgflhkaaaGreatJC1
import Derived.Test.YtimpchdgflhkaaaGreatJC3
set_option linter.unusedSimpArgs false
set_option linter.unusedVariables false
namespace Go.Proofs.YtimpchdgflhkaaaGreat
open Go Go.RowKit
set_option maxRecDepth 100000
set_option maxHeartbeats 20000000
set_option maxRecDepth 100000 in
theorem c_spec_l4List (n : Nat) (p0 : Gl17Rd) (p1 : (List GData)) (p2 : GType) (res : (List GClause) × Gl17Rd) (h : m_spec_l4List n p0 p1 p2 = some res) : CallsH Tryz.prog 0o00110 [⟨2, [(rGl17Rd p0)], 0, 0x0066⟩] [.ptr 2 0 0 0, (.slice 2 (List.map rGData p1)), (.agg (rGType p2))] (fun H d => H = [some ⟨2, [(rGl17Rd res.2)], 0, 0x0066⟩, some ⟨9, List.map rGClause res.1, 0, 0x0026⟩] ∧ d = .sl 9 1 res.1.length) := by
 unfold m_spec_l4List at h
 refine CH Tryz.func72 [.tmp 6] 1 fun β hβ => ?_
 refine sZ ?_
 refine sZ ?_
 apply sq
 apply sq
 obtain ⟨i, v, h⟩ := bindE h
 refine rk fun K hK => ?_
 simp
 refine callK (.cons (.same _ _) (.cons (.sl _ _ _ _ _ (by simp; rfl) rfl (by simp []) (by simp)) (.nil _))) (.same _ _) [0] (c_spec_l17Rd_num p0 [3, 2, 4, 5, 1, 0] _ v) (by decide) (.cons (locRen_eq (by simp) (by simp) (by simp)) .nil) (.cons (ren_ptr rfl) (.cons (ren_le (by simp) (by simp)) .nil)) (fun A E u => ?_)
 obtain ⟨rfl, rfl⟩ := u
 refine ⟨by simp, [some ⟨2, [(rGl17Rd i.2)], 0, 0x0066⟩], (eI i.1), (.cons (optRen_same (by simp)) .nil), (ren_free (by simp)), ?_⟩
 simp [setMany, newNames]
 apply hK
 obtain ⟨x, r, h⟩ := bindE h
 obtain ⟨p, m⟩ : ∃ S : (Gl17Rd × (List GClause) × Int) → St, S = fun c => ⟨(updD (fun _ => .any) 7 (.sl 9 1 (c.2.1).length)), hOfO [some ⟨2, [(rGl17Rd c.1)], 0, 0x0066⟩, some ⟨9, (List.map rGClause c.2.1), 0, 0x0026⟩], 2, 25⟩ := ⟨_, rfl⟩
 refine TrD.joinQ p (fun z => x = Ctl.brk z) (fun _ _ hg h => TrD.ghost hg h) ?_ (fun c hz => ?_)
 ·apply TrD.block
  obtain ⟨q, k⟩ : ∃ S : (Gl17Rd × (List GClause) × Int) → St, S = fun a => ⟨(updD (updD (updD (updD (updD (fun _ => .any) 0 (.ptr 2 0 0 0)) 1 (.slice 2 (List.map rGData p1))) 5 (.ptr 2 1 0 0)) 7 (.sl 9 2 (a.2.1).length)) 8 (eI a.2.2)), hOfO [some ⟨2, [(rGl17Rd a.1)], 0, 0x0066⟩, some ⟨2, [(rGType p2)], 0, 0x0019⟩, some ⟨9, (List.map rGClause a.2.1), 0, 0x0026⟩], 3, 25⟩ := ⟨_, rfl⟩
  refine TrD.whileL q r ?_ (fun a C e B s => ?_)
  ·rw [k]
   exact gC [0, 1, 17]
  rw [congrFun k a]
  apply sq
  refine sZ ?_
  refine TrD.cond (b := ilt 0 a.2.2) (by simp) (fun f => ?_) (fun f => ?_)
  ·rw [if_pos f] at e
   apply TrD.skip
   apply sq
   apply TrD.block
   obtain ⟨j, w, e⟩ := bindE e
   obtain ⟨l, g, e⟩ := bindE e
   have o := (app_some g).2
   try simp only [List.length_cons, List.length_nil, Nat.zero_add] at o
   refine rk fun K hK => ?_
   simp [f]
   refine callK (views_same _ _) (.same _ _) [0] (c_spec_l4Clause n a.1 p1 p2 _ w) (by decide) (.cons (locRen_eq (by simp) (by simp) (by simp)) .nil) (.cons (ren_ptr rfl) (.cons (ren_le (by simp) (by simp)) (.cons (ren_le (by simp) (by simp)) .nil))) (fun y D t => ?_)
   obtain ⟨rfl, rfl⟩ := t
   refine ⟨by simp, [some ⟨2, [(rGl17Rd j.2)], 0, 0x0066⟩], (.agg (rGClause j.1)), (.cons (optRen_same (by simp)) .nil), (ren_free (by simp)), ?_⟩
   simp [setMany, newNames, o]
   apply hK
   refine rZ ?_
   cases e
   refine ToAny.mk (j.2, l, wsub .i64 a.2.2 1) rfl ?_
   rw [k]
   exact gc [0, 1, 67] hβ (((((va.p 0).f).p 1).s 67 (by simp [(app_some g).1])).f) (((ln.f (by simp [(app_some g).1])).f).f)
  rw [iN f] at e
  refine TrD.exit ?_
  try simp only [↓reduceIte, Nat.reduceEqDiff, Nat.zero_ne_one, Nat.one_ne_zero, OfNat.ofNat_ne_zero, OfNat.zero_ne_ofNat, OfNat.one_ne_ofNat, OfNat.ofNat_ne_one]
  cases e
  obtain rfl := s _ rfl
  refine ToAny.mk (a.1, a.2.1, a.2.2) rfl ?_
  rw [m]
  exact gC [0, 2]
 subst hz
 try dsimp only at h
 rw [congrFun m c]
 refine sZ ?_
 cases h
 apply TrD.ret
 refine exitHG (σ' := ⟨(updD (fun _ => .any) 6 (.sl 9 1 (c.2.1).length)), hOfO [some ⟨2, [(rGl17Rd c.1)], 0, 0x0066⟩, some ⟨9, (List.map rGClause c.2.1), 0, 0x0026⟩], 2, 25⟩) ?_ ?_
 ·exact gC [0, 1]
 dsimp only [resD]
 exact eA
set_option maxRecDepth 100000 in
theorem c_spec_l1Texts  (res : (List ByteArray)) (h : m_spec_l1Texts  = some res) : CallsD Tryz.prog 0o00174 [] (fun d => d = (.slice 1 (List.map rS res))) := by
 unfold m_spec_l1Texts at h
 refine CD Tryz.func124 [.tmp 0] fun β hβ => ?_
 refine sZ ?_
 refine sZ ?_
 cases h
 apply TrD.ret
 refine exitDG (σ' := ⟨(updD (fun _ => .any) 0 (.slice 1 (List.map rS [(ByteArray.mk #[76, 61, 78, 105, 108, 124, 67, 111, 110, 115, 40, 73, 44, 76, 41]), (ByteArray.mk #[66, 61, 84, 114, 117, 124, 70, 108, 115, 59, 84, 61, 76, 101, 97, 102, 124, 78, 111, 100, 101, 40, 84, 44, 66, 44, 84, 41]), (ByteArray.mk #[69, 61, 78, 117, 109, 40, 73, 41, 58, 49, 124, 66, 111, 108, 40, 66, 41, 58, 50, 124, 65, 100, 100, 40, 69, 49, 44, 69, 49, 41, 58, 49, 124, 73, 102, 40, 69, 50, 44, 69, 42, 44, 69, 42, 41, 59, 66, 61, 84, 114, 117, 124, 70, 108, 115]), (ByteArray.mk #[79, 61, 78, 111, 110, 124, 83, 111, 109, 40, 73, 41, 59, 80, 61, 80, 97, 105, 114, 40, 79, 44, 79, 41]), (ByteArray.mk #[86, 61, 69, 110, 100, 58, 49, 124, 83, 111, 109, 101, 40, 73, 44, 86, 49, 41, 58, 50, 124, 84, 119, 111, 40, 86, 42, 41]), (ByteArray.mk #[78, 61, 78, 101, 118, 101, 114, 40, 78, 41, 59, 66, 61, 84, 114, 117, 124, 70, 108, 115, 124, 77, 97, 121, 40, 78, 41]), (ByteArray.mk #[83, 61, 82, 101, 100, 124, 71, 114, 101, 101, 110, 124, 66, 108, 117, 101, 124, 77, 105, 120, 40, 83, 44, 83, 41]), (ByteArray.mk #[])]))), hOfO [], 0, 2⟩) ?_ ?_
 ·refine (Ghost.raise 8 (by simp; rfl)).trans ?_
  exact gC [] (ht := (va.u (d0 := (.sl 1 8 ([(ByteArray.mk #[76, 61, 78, 105, 108, 124, 67, 111, 110, 115, 40, 73, 44, 76, 41]), (ByteArray.mk #[66, 61, 84, 114, 117, 124, 70, 108, 115, 59, 84, 61, 76, 101, 97, 102, 124, 78, 111, 100, 101, 40, 84, 44, 66, 44, 84, 41]), (ByteArray.mk #[69, 61, 78, 117, 109, 40, 73, 41, 58, 49, 124, 66, 111, 108, 40, 66, 41, 58, 50, 124, 65, 100, 100, 40, 69, 49, 44, 69, 49, 41, 58, 49, 124, 73, 102, 40, 69, 50, 44, 69, 42, 44, 69, 42, 41, 59, 66, 61, 84, 114, 117, 124, 70, 108, 115]), (ByteArray.mk #[79, 61, 78, 111, 110, 124, 83, 111, 109, 40, 73, 41, 59, 80, 61, 80, 97, 105, 114, 40, 79, 44, 79, 41]), (ByteArray.mk #[86, 61, 69, 110, 100, 58, 49, 124, 83, 111, 109, 101, 40, 73, 44, 86, 49, 41, 58, 50, 124, 84, 119, 111, 40, 86, 42, 41]), (ByteArray.mk #[78, 61, 78, 101, 118, 101, 114, 40, 78, 41, 59, 66, 61, 84, 114, 117, 124, 70, 108, 115, 124, 77, 97, 121, 40, 78, 41]), (ByteArray.mk #[83, 61, 82, 101, 100, 124, 71, 114, 101, 101, 110, 124, 66, 108, 117, 101, 124, 77, 105, 120, 40, 83, 44, 83, 41]), (ByteArray.mk #[])]).length)) (by simp) (v_frz (L := ⟨1, (List.map rS [(ByteArray.mk #[76, 61, 78, 105, 108, 124, 67, 111, 110, 115, 40, 73, 44, 76, 41]), (ByteArray.mk #[66, 61, 84, 114, 117, 124, 70, 108, 115, 59, 84, 61, 76, 101, 97, 102, 124, 78, 111, 100, 101, 40, 84, 44, 66, 44, 84, 41]), (ByteArray.mk #[69, 61, 78, 117, 109, 40, 73, 41, 58, 49, 124, 66, 111, 108, 40, 66, 41, 58, 50, 124, 65, 100, 100, 40, 69, 49, 44, 69, 49, 41, 58, 49, 124, 73, 102, 40, 69, 50, 44, 69, 42, 44, 69, 42, 41, 59, 66, 61, 84, 114, 117, 124, 70, 108, 115]), (ByteArray.mk #[79, 61, 78, 111, 110, 124, 83, 111, 109, 40, 73, 41, 59, 80, 61, 80, 97, 105, 114, 40, 79, 44, 79, 41]), (ByteArray.mk #[86, 61, 69, 110, 100, 58, 49, 124, 83, 111, 109, 101, 40, 73, 44, 86, 49, 41, 58, 50, 124, 84, 119, 111, 40, 86, 42, 41]), (ByteArray.mk #[78, 61, 78, 101, 118, 101, 114, 40, 78, 41, 59, 66, 61, 84, 114, 117, 124, 70, 108, 115, 124, 77, 97, 121, 40, 78, 41]), (ByteArray.mk #[83, 61, 82, 101, 100, 124, 71, 114, 101, 101, 110, 124, 66, 108, 117, 101, 124, 77, 105, 120, 40, 83, 44, 83, 41]), (ByteArray.mk #[])]), ([(ByteArray.mk #[76, 61, 78, 105, 108, 124, 67, 111, 110, 115, 40, 73, 44, 76, 41]), (ByteArray.mk #[66, 61, 84, 114, 117, 124, 70, 108, 115, 59, 84, 61, 76, 101, 97, 102, 124, 78, 111, 100, 101, 40, 84, 44, 66, 44, 84, 41]), (ByteArray.mk #[69, 61, 78, 117, 109, 40, 73, 41, 58, 49, 124, 66, 111, 108, 40, 66, 41, 58, 50, 124, 65, 100, 100, 40, 69, 49, 44, 69, 49, 41, 58, 49, 124, 73, 102, 40, 69, 50, 44, 69, 42, 44, 69, 42, 41, 59, 66, 61, 84, 114, 117, 124, 70, 108, 115]), (ByteArray.mk #[79, 61, 78, 111, 110, 124, 83, 111, 109, 40, 73, 41, 59, 80, 61, 80, 97, 105, 114, 40, 79, 44, 79, 41]), (ByteArray.mk #[86, 61, 69, 110, 100, 58, 49, 124, 83, 111, 109, 101, 40, 73, 44, 86, 49, 41, 58, 50, 124, 84, 119, 111, 40, 86, 42, 41]), (ByteArray.mk #[78, 61, 78, 101, 118, 101, 114, 40, 78, 41, 59, 66, 61, 84, 114, 117, 124, 70, 108, 115, 124, 77, 97, 121, 40, 78, 41]), (ByteArray.mk #[83, 61, 82, 101, 100, 124, 71, 114, 101, 101, 110, 124, 66, 108, 117, 101, 124, 77, 105, 120, 40, 83, 44, 83, 41]), (ByteArray.mk #[])]).length * 1, 0x0009⟩) (by simp) rfl (by simp) (by simp) (rv_free (by simp) (by simp)))))
 dsimp only [resD]
 exact eF
set_option maxRecDepth 100000 in
theorem c_spec_l17Dec : ∀ (n : Nat) (p0 : Int) (res : ByteArray), m_spec_l17Dec n p0 = some res → CallsD Tryz.prog 0o00236 [(eI p0)] (fun d => d = (eS res)) := by
 intro n
 induction n with
 | zero => intro p0 res h; cases h
 | succ n ih =>
  intro p0 res h
  rw [m_spec_l17Dec.eq_2] at h
  refine CD Tryz.func158 [.tmp 2] fun β hβ => ?_
  refine sZ ?_
  apply sq
  refine sZ ?_
  refine TrD.cond (b := ilt p0 (-9223372036854775807)) (by simp) (fun hb2 => ?_) (fun hb2 => ?_)
  ·rw [if_pos hb2] at h
   refine sZ ?_ fun K hK => by simp [hb2]; exact hK
   cases h
   apply TrD.ret
   exact xD
  rw [iN hb2] at h
  apply TrD.skip
  apply sq
  refine sZ ?_ fun K hK => by simp [hb2]; exact hK
  refine TrD.cond (b := ilt p0 0) (by simp) (fun hb7 => ?_) (fun hb7 => ?_)
  ·rw [if_pos hb7] at h
   apply sq
   obtain ⟨r8, hr8, h⟩ := bindE h
   obtain ⟨x9, hx9, h⟩ := bindE h
   refine rk fun K hK => ?_
   simp [hb7]
   refine cp (ih (wneg .i64 p0) _ hr8) ?_
   simp [← (scat_some hx9).1, (scat_some hx9).2]
   apply hK
   cases h
   apply TrD.ret
   exact xD
  rw [iN hb7] at h
  apply TrD.skip
  refine sZ ?_ fun K hK => by simp [hb7]; exact hK
  obtain ⟨u, r, h⟩ := bindE h
  obtain ⟨p, i⟩ : ∃ S : (Int × ByteArray) → St, S = fun f => ⟨(updD (updD (fun _ => .any) 0 (eI f.1)) 3 (eS f.2)), hOfO [], 0, 31⟩ := ⟨_, rfl⟩
  refine TrD.join p (fun z => u = Ctl.brk z) ?_ (fun f hz => ?_)
  ·apply TrD.block
   obtain ⟨q, g⟩ : ∃ S : (Int × ByteArray) → St, S = fun a => ⟨(updD (updD (fun _ => .any) 0 (eI a.1)) 3 (eS a.2)), hOfO [], 0, 31⟩ := ⟨_, rfl⟩
   refine TrD.whileL q r ?_ (fun a w c v s => ?_)
   ·rw [g]
    exact gC []
   rw [congrFun g a]
   apply sq
   refine sZ ?_
   refine TrD.cond (b := ilt 9 a.1) (by simp) (fun e => ?_) (fun e => ?_)
   ·rw [if_pos e] at c
    apply TrD.skip
    apply TrD.block
    apply sq
    obtain ⟨m, j, c⟩ := bindE c
    refine rZ ?_ fun K hK => by simp [e, show ieq 10 0 = false from rfl, ← (scat_some j).1, (scat_some j).2]; exact hK
    refine rZ ?_ fun K hK => by simp [show ieq 10 0 = false from rfl]; exact hK
    cases c
    refine ToAny.mk (wquo .i64 a.1 10, m) rfl ?_
    rw [g]
    exact gC []
   rw [iN e] at c
   refine TrD.exit ?_
   try simp only [↓reduceIte, Nat.reduceEqDiff, Nat.zero_ne_one, Nat.one_ne_zero, OfNat.ofNat_ne_zero, OfNat.zero_ne_ofNat, OfNat.one_ne_ofNat, OfNat.ofNat_ne_one]
   cases c
   obtain rfl := s _ rfl
   refine ToAny.mk (a.1, a.2) rfl ?_
   rw [i]
   exact gC []
  subst hz
  try dsimp only at h
  rw [congrFun i f]
  apply sq
  obtain ⟨o, l, h⟩ := bindE h
  refine rZ ?_ fun K hK => by simp [← (scat_some l).1, (scat_some l).2]; exact hK
  cases h
  apply TrD.ret
  exact xD
set_option maxRecDepth 100000 in
theorem c_spec_l1Index (n : Nat) (p0 : Int) (res : ByteArray) (h : m_spec_l1Index n p0 = some res) : CallsD Tryz.prog 0o00237 [(eI p0)] (fun d => d = (eS res)) := by
 unfold m_spec_l1Index at h
 refine CD Tryz.func159 [.tmp 2] fun β hβ => ?_
 refine sZ ?_
 apply sq
 refine sZ ?_
 apply TrD.block
 refine sZ ?_
 refine TrD.cond (b := ieq p0 0) (by simp) (fun hb3 => ?_) (fun hb3 => ?_)
 ·rw [if_pos hb3] at h
  refine sZ ?_ fun K hK => by simp [hb3]; exact hK
  cases h
  apply TrD.ret
  exact xD
 rw [iN hb3] at h
 refine sZ ?_ fun K hK => by simp [hb3]; exact hK
 refine TrD.cond (b := ieq p0 (-1)) (by simp) (fun hb4 => ?_) (fun hb4 => ?_)
 ·rw [if_pos hb4] at h
  refine sZ ?_ fun K hK => by simp [hb4]; exact hK
  cases h
  apply TrD.ret
  exact xD
 rw [iN hb4] at h
 apply TrD.skip
 apply sq
 obtain ⟨r5, hr5, h⟩ := bindE h
 refine rk fun K hK => ?_
 simp [hb4]
 refine cp (c_spec_l17Dec n p0 _ hr5) ?_
 simp
 apply hK
 cases h
 apply TrD.ret
 exact xD
set_option maxRecDepth 100000 in
theorem c_spec_l1Type (n : Nat) (p0 : (List GData)) (p1 : GType) (res : ByteArray) (h : m_spec_l1Type n p0 p1 = some res) : CallsD Tryz.prog 0o00235 [(.slice 2 (List.map rGData p0)), (.agg (rGType p1))] (fun d => d = (eS res)) := by
 unfold m_spec_l1Type at h
 refine CD Tryz.func157 [.tmp 4] fun β hβ => ?_
 refine sZ ?_
 apply sq
 refine sZ ?_
 refine TrD.cond (b := ieq p1.data (-1)) (by simp) (fun hb2 => ?_) (fun hb2 => ?_)
 ·rw [if_pos hb2] at h
  refine sZ ?_ fun K hK => by simp [hb2]; exact hK
  cases h
  apply TrD.ret
  exact xD
 rw [iN hb2] at h
 apply TrD.skip
 apply sq
 refine TrD.ghost (σ' := ⟨(updD (updD (fun _ => .any) 0 (.slice 2 (List.map rGData p0))) 3 (.ptr 2 0 0 0)), hOfO [some ⟨2, [(rGType p1)], 0, 0x0019⟩], 1, 18⟩) ?_ ?_
 ·exact gC [0]
 obtain ⟨x3, hx3, h⟩ := bindE h
 obtain ⟨r4, hr4, h⟩ := bindE h
 obtain ⟨x5, hx5, h⟩ := bindE h
 refine TrD.draw tysOk mixed [0, 1, 2, 3, 4, 5, 6, 7, 8, 9, 10] [0] [] (by rfl) rfl (fun K hK => ?_)
 simp [idx_inb hx3, idx_row hx3]
 refine cp (c_spec_l1Index n p1.index _ hr4) ?_
 simp [← (scat_some hx5).1, (scat_some hx5).2]
 apply hK
 cases h
 apply TrD.ret
 exact xD
theorem c_spec_l1CtorText (n : Nat) (p0 : (List GData)) (p1 : GCtor) (res : ByteArray) (h : m_spec_l1CtorText n p0 p1 = some res) : CallsD Tryz.prog 0o00232 [(.slice 2 (List.map rGData p0)), (.agg (rGCtor p1))] (fun d => d = (eS res)) := by
 unfold m_spec_l1CtorText at h
 refine CD Tryz.func154 [.tmp 4] fun β hβ => ?_
 refine sZ ?_
 refine sZ ?_
 apply sq
 refine sZ ?_
 obtain ⟨ab, V, h⟩ := bindE h
 obtain ⟨P, y⟩ : ∃ S : ByteArray → St, S = fun p => ⟨(updD (updD (fun _ => .any) 3 (.ptr 3 0 0 0)) 5 (eS p)), hOfO [some ⟨3, [(rGCtor p1)], 0, 0x0071⟩], 1, 47⟩ := ⟨_, rfl⟩
 refine TrD.joinQ P (fun z => ab = Ctl.brk z) (fun _ _ hg h => TrD.ghost hg h) ?_ (fun p hz => ?_)
 ·apply TrD.block
  obtain ⟨Q, s⟩ : ∃ S : Nat → ByteArray → St, S = fun f g => ⟨(updD (updD (updD (updD (fun _ => .any) 0 (.slice 2 (List.map rGData p0))) 3 (.ptr 3 0 0 0)) 5 (eS g)) 6 (eI (f : Int))), hOfO [some ⟨3, [(rGCtor p1)], 0, 0x0071⟩], 1, 47⟩ := ⟨_, rfl⟩
  refine TrD.limS (sz := 2) (rows := List.map rGType p1.args) (seen_cell (d := .slice 2 (List.map rGType p1.args)) 0 0 1 (by simp; rfl) rfl (by simp)) (fun hlim => ?_)
  rw [List.length_map] at hlim
  refine TrD.forL Q V hlim ?_ (fun f ag g G aj ak aa o al c ai ah => ?_) (fun g af => ?_)
  ·rw [s]
   exact gC [0]
  ·rw [congrFun (congrFun s f) g]
   apply sq
   refine sZ ?_ fun K hK => by simp [aa]; exact hK
   refine cT ?_
   apply TrD.skip
   apply sq
   apply TrD.block
   obtain ⟨ac, e, c⟩ := bindE c
   obtain ⟨R, t⟩ : ∃ S : ByteArray → St, S = fun w => ⟨(updD (updD (updD (updD (fun _ => .any) 0 (.slice 2 (List.map rGData p0))) 3 (.ptr 3 0 0 0)) 5 (eS w)) 6 (eI (f : Int))), hOfO [some ⟨3, [(rGCtor p1)], 0, 0x0071⟩], 1, 47⟩ := ⟨_, rfl⟩
   refine TrD.join R (fun z => ac = Ctl.brk z) ?_ (fun w hz => ?_)
   ·refine sZ ?_
    refine TrD.cond (b := ieq (f : Int) 0) (by simp) (fun l => ?_) (fun l => ?_)
    ·rw [if_pos l] at e
     obtain ⟨H, A, e⟩ := bindE e
     refine rZ ?_ fun K hK => by simp [l, ← (scat_some A).1, (scat_some A).2]; exact hK
     cases e
     refine ToAny.mk H rfl ?_
     rw [t]
     exact gC [0]
    rw [iN l] at e
    obtain ⟨I, B, e⟩ := bindE e
    refine rZ ?_ fun K hK => by simp [l, ← (scat_some B).1, (scat_some B).2]; exact hK
    cases e
    refine ToAny.mk I rfl ?_
    rw [t]
    exact gC [0]
   subst hz
   try dsimp only at c
   rw [congrFun t w]
   obtain ⟨ao, Y, c⟩ := bindE c
   obtain ⟨J, C, c⟩ := bindE c
   refine rk fun K hK => ?_
   simp [idx_inb G, idx_row G]
   refine cp (c_spec_l1Type n p0 ag _ Y) ?_
   simp [← (scat_some C).1, (scat_some C).2]
   apply hK
   refine rZ ?_
   cases c
   refine ToAny.mk J rfl ?_
   rw [s]
   exact gc [0] hβ ((((va.f (by simp [o])).p 0 (by simp [o])).f (by simp [o])).f (by simp [o])) ln.f
  rw [congrFun (congrFun s _) g]
  apply sq
  refine sZ ?_ fun K hK => by simp [ilt_len p1.args.length]; exact hK
  refine cF ?_
  refine TrD.exit ?_
  try simp only [↓reduceIte, Nat.reduceEqDiff, Nat.zero_ne_one, Nat.one_ne_zero, OfNat.ofNat_ne_zero, OfNat.zero_ne_ofNat, OfNat.one_ne_ofNat, OfNat.ofNat_ne_one]
  refine ToAny.mk g af ?_
  rw [y]
  exact gC [0]
 subst hz
 try dsimp only at h
 rw [congrFun y p]
 obtain ⟨ad, i, h⟩ := bindE h
 obtain ⟨T, u⟩ : ∃ S : ByteArray → St, S = fun q => ⟨(updD (updD (fun _ => .any) 3 (.ptr 3 0 0 0)) 5 (eS q)), hOfO [some ⟨3, [(rGCtor p1)], 0, 0x0071⟩], 1, 47⟩ := ⟨_, rfl⟩
 refine TrD.join T (fun z => ad = Ctl.brk z) ?_ (fun q hz => ?_)
 ·refine sZ ?_
  refine TrD.cond (b := ilt 0 (lenZ p1.args.length)) (by simp) (fun j => ?_) (fun j => ?_)
  ·rw [if_pos j] at i
   obtain ⟨N, D, i⟩ := bindE i
   refine rZ ?_ fun K hK => by simp [j, ← (scat_some D).1, (scat_some D).2]; exact hK
   cases i
   refine ToAny.mk N rfl ?_
   rw [u]
   exact gC [0]
  rw [iN j] at i
  apply TrD.skip
  cases i
  refine ToAny.mk p rfl ?_
  rw [u]
  exact gC [0]
 subst hz
 try dsimp only at h
 rw [congrFun u q]
 obtain ⟨ae, a, h⟩ := bindE h
 obtain ⟨U, v⟩ : ∃ S : ByteArray → St, S = fun r => ⟨(updD (fun _ => .any) 5 (eS r)), hOfO [], 0, 47⟩ := ⟨_, rfl⟩
 refine TrD.join U (fun z => ae = Ctl.brk z) ?_ (fun r hz => ?_)
 ·refine sZ ?_
  refine TrD.cond (b := ilt 0 p1.index) (by simp) (fun m => ?_) (fun m => ?_)
  ·rw [if_pos m] at a
   obtain ⟨aq, E, a⟩ := bindE a
   obtain ⟨ap, Z, a⟩ := bindE a
   obtain ⟨O, F, a⟩ := bindE a
   refine rk fun K hK => ?_
   simp [m, ← (scat_some E).1, (scat_some E).2]
   refine cp (c_spec_l17Dec n p1.index _ Z) ?_
   simp [← (scat_some F).1, (scat_some F).2]
   apply hK
   cases a
   refine ToAny.mk O rfl ?_
   rw [v]
   exact gC []
  rw [iN m] at a
  apply TrD.skip
  cases a
  refine ToAny.mk q rfl ?_
  rw [v]
  exact gC []
 subst hz
 try dsimp only at h
 rw [congrFun v r]
 refine sZ ?_
 cases h
 apply TrD.ret
 exact xD
theorem c_spec_l1Text (n : Nat) (p0 : (List GData)) (res : ByteArray) (h : m_spec_l1Text n p0 = some res) : CallsD Tryz.prog 0o00220 [(.slice 2 (List.map rGData p0))] (fun d => d = (eS res)) := by
 unfold m_spec_l1Text at h
 refine CD Tryz.func144 [.tmp 2] fun β hβ => ?_
 refine sZ ?_
 refine sZ ?_
 apply sq
 refine sZ ?_
 obtain ⟨ad, X, h⟩ := bindE h
 obtain ⟨Q, D⟩ : ∃ S : ByteArray → St, S = fun r => ⟨(updD (fun _ => .any) 3 (eS r)), hOfO [], 0, 51⟩ := ⟨_, rfl⟩
 refine TrD.joinQ Q (fun z => ad = Ctl.brk z) (fun _ _ hg h => TrD.ghost hg h) ?_ (fun r hz => ?_)
 ·apply TrD.block
  obtain ⟨T, t⟩ : ∃ S : Nat → ByteArray → St, S = fun a f => ⟨(updD (updD (updD (fun _ => .any) 0 (.slice 2 (List.map rGData p0))) 3 (eS f)) 4 (eI (a : Int))), hOfO [], 0, 51⟩ := ⟨_, rfl⟩
  refine TrD.limS (sz := 2) (rows := List.map rGData p0) (seen_slot (d := .slice 2 (List.map rGData p0)) 0 (by simp)) (fun hlim => ?_)
  rw [List.length_map] at hlim
  refine TrD.forL T X hlim ?_ (fun a C f e ap aq ab v av c an al => ?_) (fun f ah => ?_)
  ·rw [t]
   exact gC []
  ·rw [congrFun (congrFun t a) f]
   apply sq
   refine sZ ?_ fun K hK => by simp [ab]; exact hK
   refine cT ?_
   apply TrD.skip
   apply sq
   apply TrD.block
   obtain ⟨ae, o, c⟩ := bindE c
   obtain ⟨U, w⟩ : ∃ S : ByteArray → St, S = fun A => ⟨(updD (updD (updD (fun _ => .any) 0 (.slice 2 (List.map rGData p0))) 3 (eS A)) 4 (eI (a : Int))), hOfO [], 0, 51⟩ := ⟨_, rfl⟩
   refine TrD.join U (fun z => ae = Ctl.brk z) ?_ (fun A hz => ?_)
   ·refine sZ ?_
    refine TrD.cond (b := ilt 0 (a : Int)) (by simp) (fun m => ?_) (fun m => ?_)
    ·rw [if_pos m] at o
     obtain ⟨N, F, o⟩ := bindE o
     refine rZ ?_ fun K hK => by simp [m, ← (scat_some F).1, (scat_some F).2]; exact hK
     cases o
     refine ToAny.mk N rfl ?_
     rw [w]
     exact gC []
    rw [iN m] at o
    apply TrD.skip
    cases o
    refine ToAny.mk f rfl ?_
    rw [w]
    exact gC []
   subst hz
   try dsimp only at c
   rw [congrFun w A]
   apply sq
   obtain ⟨az, G, c⟩ := bindE c
   obtain ⟨aj, H, c⟩ := bindE c
   refine rZ ?_ fun K hK => by simp [idx_inb e, idx_row e, ← (scat_some G).1, (scat_some G).2, ← (scat_some H).1, (scat_some H).2]; exact hK
   refine sZ ?_
   obtain ⟨af, Y, c⟩ := bindE c
   obtain ⟨R, E⟩ : ∃ S : ByteArray → St, S = fun s => ⟨(updD (updD (updD (fun _ => .any) 0 (.slice 2 (List.map rGData p0))) 3 (eS s)) 4 (eI (a : Int))), hOfO [], 0, 51⟩ := ⟨_, rfl⟩
   refine TrD.joinQ R (fun z => af = Ctl.brk z) (fun _ _ hg h => TrD.ghost hg h) ?_ (fun s hz => ?_)
   ·apply TrD.block
    obtain ⟨V, u⟩ : ∃ S : Nat → ByteArray → St, S = fun l g => ⟨(updD (updD (updD (updD (fun _ => .any) 0 (.slice 2 (List.map rGData p0))) 3 (eS g)) 4 (eI (a : Int))) 5 (eI (l : Int))), hOfO [], 0, 51⟩ := ⟨_, rfl⟩
    refine TrD.limS (sz := 3) (rows := List.map rGCtor C.ctors) (seen_elem (d := .slice 3 (List.map rGCtor C.ctors)) (seen_slot (d := .slice 2 (List.map rGData p0)) 0 (by simp)) e 1 (rGData_eq _) rfl) (fun hlim => ?_)
    rw [List.length_map] at hlim
    refine TrD.forL V Y hlim ?_ (fun l ak g L ar au ac q aw i ao am => ?_) (fun g ai => ?_)
    ·rw [u]
     exact gC []
    ·rw [congrFun (congrFun u l) g]
     apply sq
     refine sZ ?_ fun K hK => by simp [idx_inb e, idx_row e, ac]; exact hK
     refine cT ?_
     apply TrD.skip
     apply sq
     apply TrD.block
     obtain ⟨ag, p, i⟩ := bindE i
     obtain ⟨W, y⟩ : ∃ S : ByteArray → St, S = fun B => ⟨(updD (updD (updD (updD (fun _ => .any) 0 (.slice 2 (List.map rGData p0))) 3 (eS B)) 4 (eI (a : Int))) 5 (eI (l : Int))), hOfO [], 0, 51⟩ := ⟨_, rfl⟩
     refine TrD.join W (fun z => ag = Ctl.brk z) ?_ (fun B hz => ?_)
     ·refine sZ ?_
      refine TrD.cond (b := ilt 0 (l : Int)) (by simp) (fun j => ?_) (fun j => ?_)
      ·rw [if_pos j] at p
       obtain ⟨O, I, p⟩ := bindE p
       refine rZ ?_ fun K hK => by simp [j, ← (scat_some I).1, (scat_some I).2]; exact hK
       cases p
       refine ToAny.mk O rfl ?_
       rw [y]
       exact gC []
      rw [iN j] at p
      apply TrD.skip
      cases p
      refine ToAny.mk g rfl ?_
      rw [y]
      exact gC []
     subst hz
     try dsimp only at i
     rw [congrFun y B]
     obtain ⟨ay, aa, i⟩ := bindE i
     obtain ⟨P, J, i⟩ := bindE i
     refine rk fun K hK => ?_
     simp [idx_inb e, idx_row e, idx_inb L, idx_row L]
     refine cp (c_spec_l1CtorText n p0 ak _ aa) ?_
     simp [← (scat_some J).1, (scat_some J).2]
     apply hK
     refine rZ ?_
     cases i
     refine ToAny.mk P rfl ?_
     rw [u]
     exact gc [] hβ ((((va.f (by simp [q])).f (by simp [q])).f (by simp [q])).f (by simp [q])) ln
    rw [congrFun (congrFun u _) g]
    apply sq
    refine sZ ?_ fun K hK => by simp [idx_inb e, idx_row e, ilt_len C.ctors.length]; exact hK
    refine cF ?_
    refine TrD.exit ?_
    try simp only [↓reduceIte, Nat.reduceEqDiff, Nat.zero_ne_one, Nat.one_ne_zero, OfNat.ofNat_ne_zero, OfNat.zero_ne_ofNat, OfNat.one_ne_ofNat, OfNat.ofNat_ne_one]
    refine ToAny.mk g ai ?_
    rw [E]
    exact gC []
   subst hz
   try dsimp only at c
   rw [congrFun E s]
   refine rZ ?_
   cases c
   refine ToAny.mk s rfl ?_
   rw [t]
   exact gc [] hβ (((va.f (by simp [v])).f (by simp [v])).f (by simp [v])) ln
  rw [congrFun (congrFun t _) f]
  apply sq
  refine sZ ?_ fun K hK => by simp [ilt_len p0.length]; exact hK
  refine cF ?_
  refine TrD.exit ?_
  try simp only [↓reduceIte, Nat.reduceEqDiff, Nat.zero_ne_one, Nat.one_ne_zero, OfNat.ofNat_ne_zero, OfNat.zero_ne_ofNat, OfNat.one_ne_ofNat, OfNat.ofNat_ne_one]
  refine ToAny.mk f ah ?_
  rw [D]
  exact gC []
 subst hz
 try dsimp only at h
 rw [congrFun D r]
 refine sZ ?_
 cases h
 apply TrD.ret
 exact xD
theorem c_spec_l1Twice (n : Nat) (p0 : (List GData)) (p1 : Int) (p2 : Int) (res : Bool) (h : m_spec_l1Twice n p0 p1 p2 = some res) : CallsD Tryz.prog 0o00120 [(.slice 2 (List.map rGData p0)), (eI p1), (eI p2)] (fun d => d = (eB res)) := by
 unfold m_spec_l1Twice at h
 refine CD Tryz.func80 [.tmp 6] fun β hβ => ?_
 refine sZ ?_
 apply sq
 refine sZ ?_
 obtain ⟨ah, ac, h⟩ := bindE h
 obtain ⟨V, G⟩ : ∃ S : Int → St, S = fun P => ⟨(fun _ => .any), hOfO [], 0, 79⟩ := ⟨_, rfl⟩
 refine TrD.joinQ V (fun z => ah = Ctl.brk z) (fun _ _ hg h => TrD.ghost hg h) ?_ (fun P hz => ?_)
 ·apply TrD.block
  obtain ⟨X, B⟩ : ∃ S : Int → St, S = fun a => ⟨(updD (updD (updD (updD (fun _ => .any) 0 (.slice 2 (List.map rGData p0))) 1 (eI p1)) 2 (eI p2)) 7 (eI a)), hOfO [], 0, 79⟩ := ⟨_, rfl⟩
  refine TrD.whileL X ac ?_ (fun a aw c H ae => ?_)
  ·rw [B]
   exact gC []
  rw [congrFun B a]
  apply sq
  refine sZ ?_
  refine TrD.cond (b := ile a p1) (by simp) (fun q => ?_) (fun q => ?_)
  ·rw [if_pos q] at c
   apply TrD.skip
   apply sq
   apply TrD.block
   obtain ⟨ai, g, c⟩ := bindE c
   obtain ⟨Y, C⟩ : ∃ S : Unit → St, S = fun Q => ⟨(updD (updD (updD (updD (fun _ => .any) 0 (.slice 2 (List.map rGData p0))) 1 (eI p1)) 2 (eI p2)) 7 (eI a)), hOfO [], 0, 79⟩ := ⟨_, rfl⟩
   refine TrD.join Y (fun z => ai = Ctl.brk z) ?_ (fun Q hz => ?_)
   ·apply sq
    refine TrD.ghost (σ' := ⟨(updD (updD (updD (updD (fun _ => .any) 0 (.slice 2 (List.map rGData p0))) 1 (eI p1)) 2 (eI p2)) 7 (eI a)), hOfO [], 0, 79⟩) ?_ ?_
    ·exact gC []
    rcases bb (ilt a p1) with s | s
    ·rw [if_pos s] at g
     obtain ⟨an, I, g⟩ := bindE g
     obtain ⟨ao, J, g⟩ := bindE g
     refine TrD.draw tysOk mixed [0, 1, 2, 3, 4, 5, 6, 7, 8, 9, 10, 11, 12, 13, 14, 15] [] [] (by rfl) rfl (fun K hK => ?_)
     simp [s, idx_inb I, idx_row I, idx_inb J, idx_row J]
     apply hK
     refine TrD.cond (b := seq2 an.name ao.name) (by simp) (fun o => ?_) (fun o => ?_)
     ·rw [if_pos o] at g
      refine sZ ?_ fun K hK => by simp [o]; exact hK
      cases g
      cases c
      obtain rfl := H _ rfl
      cases h
      apply TrD.ret
      exact xD
     rw [iN o] at g
     apply TrD.skip
     cases g
     refine ToAny.mk () rfl ?_
     rw [C]
     exact gC []
    rw [iN s] at g
    refine TrD.draw tysOk mixed [0, 1, 2, 3, 4, 5, 6, 7, 8, 9, 10, 11, 12, 13, 14, 15] [] [] (by rfl) rfl (fun K hK => ?_)
    simp [s]
    apply hK
    refine cF ?_
    apply TrD.skip
    cases g
    refine ToAny.mk () rfl ?_
    rw [C]
    exact gC []
   subst hz
   try dsimp only at c
   rw [congrFun C Q]
   refine sZ ?_
   obtain ⟨F, m, c⟩ := bindE c
   obtain ⟨aj, ad, c⟩ := bindE c
   obtain ⟨W, A⟩ : ∃ S : Unit → St, S = fun R => ⟨(updD (updD (updD (updD (fun _ => .any) 0 (.slice 2 (List.map rGData p0))) 1 (eI p1)) 2 (eI p2)) 7 (eI a)), hOfO [], 0, 79⟩ := ⟨_, rfl⟩
   refine TrD.joinQ W (fun z => aj = Ctl.brk z) (fun _ _ hg h => TrD.ghost hg h) ?_ (fun R hz => ?_)
   ·apply TrD.block
    obtain ⟨Z, w⟩ : ∃ S : Nat → Unit → St, S = fun e v => ⟨(updD (updD (updD (updD (updD (fun _ => .any) 0 (.slice 2 (List.map rGData p0))) 1 (eI p1)) 2 (eI p2)) 7 (eI a)) 8 (eI (e : Int))), hOfO [], 0, 79⟩ := ⟨_, rfl⟩
    refine TrD.limS (sz := 3) (rows := List.map rGCtor F.ctors) (seen_elem (d := .slice 3 (List.map rGCtor F.ctors)) (seen_slot (d := .slice 2 (List.map rGData p0)) 0 (by simp)) m 1 (rGData_eq _) rfl) (fun hlim => ?_)
    rw [List.length_map] at hlim
    refine TrD.forL Z ad hlim ?_ (fun e ap v N au av O r ax j ag af => ?_) (fun v am => ?_)
    ·rw [w]
     exact gC []
    ·rw [congrFun (congrFun w e) v]
     obtain ⟨ak, p, j⟩ := bindE j
     obtain ⟨aa, D⟩ : ∃ S : Unit → St, S = fun T => ⟨(updD (updD (updD (updD (updD (fun _ => .any) 0 (.slice 2 (List.map rGData p0))) 1 (eI p1)) 2 (eI p2)) 7 (eI a)) 8 (eI (e : Int))), hOfO [], 0, 79⟩ := ⟨_, rfl⟩
     refine TrD.join aa (fun z => ak = Ctl.brk z) ?_ (fun T hz => ?_)
     ·apply sq
      rcases bb (ilt a p1) with t | t
      ·rw [if_pos t] at p
       refine rZ ?_ fun K hK => by simp [idx_inb m, idx_row m, O, t]; exact hK
       refine cT ?_
       apply TrD.skip
       cases p
       refine ToAny.mk () rfl ?_
       rw [D]
       exact gC []
      rw [iN t] at p
      refine rZ ?_ fun K hK => by simp [idx_inb m, idx_row m, O, t]; exact hK
      refine TrD.cond (b := ilt (e : Int) p2) (by simp) (fun f => ?_) (fun f => ?_)
      ·rw [if_pos f] at p
       apply TrD.skip
       cases p
       refine ToAny.mk () rfl ?_
       rw [D]
       exact gC []
      rw [iN f] at p
      refine TrD.exit ?_
      try simp only [↓reduceIte, Nat.reduceEqDiff, Nat.zero_ne_one, Nat.one_ne_zero, OfNat.ofNat_ne_zero, OfNat.zero_ne_ofNat, OfNat.one_ne_ofNat, OfNat.ofNat_ne_one]
      cases p
      cases j
      obtain rfl := af _ rfl
      refine ToAny.mk () rfl ?_
      rw [A]
      exact gC []
     subst hz
     try dsimp only at j
     rw [congrFun D T]
     obtain ⟨al, i, j⟩ := bindE j
     obtain ⟨ab, E⟩ : ∃ S : Unit → St, S = fun U => ⟨(updD (updD (updD (updD (updD (fun _ => .any) 0 (.slice 2 (List.map rGData p0))) 1 (eI p1)) 2 (eI p2)) 7 (eI a)) 8 (eI (e : Int))), hOfO [], 0, 79⟩ := ⟨_, rfl⟩
     refine TrD.join ab (fun z => al = Ctl.brk z) ?_ (fun U hz => ?_)
     ·apply TrD.block
      apply sq
      refine TrD.ghost (σ' := ⟨(updD (updD (updD (updD (updD (fun _ => .any) 0 (.slice 2 (List.map rGData p0))) 1 (eI p1)) 2 (eI p2)) 7 (eI a)) 8 (eI (e : Int))), hOfO [], 0, 79⟩) ?_ ?_
      ·exact gC []
      obtain ⟨aq, y, i⟩ := bindE i
      rcases bb (ilt p2 (lenZ aq.ctors.length)) with u | u
      ·rw [if_pos u] at i
       obtain ⟨ar, L, i⟩ := bindE i
       refine TrD.draw tysOk mixed [0, 1, 2, 3, 4, 5, 6, 7, 8, 9, 10, 11, 12, 13, 14, 15, 16, 17, 18, 19, 20, 21, 22, 23, 24, 25, 26, 27, 28] [] [] (by rfl) rfl (fun K hK => ?_)
       simp [idx_inb m, idx_row m, idx_inb N, idx_row N, idx_inb y, idx_row y, u, idx_inb L, idx_row L]
       apply hK
       refine TrD.cond (b := seq2 ap.name ar.name) (by simp) (fun l => ?_) (fun l => ?_)
       ·rw [if_pos l] at i
        refine sZ ?_ fun K hK => by simp [l]; exact hK
        cases i
        cases j
        obtain rfl := ag _ rfl
        cases c
        obtain rfl := H _ rfl
        cases h
        apply TrD.ret
        exact xD
       rw [iN l] at i
       apply TrD.skip
       cases i
       refine ToAny.mk () rfl ?_
       rw [E]
       exact gC []
      rw [iN u] at i
      refine TrD.draw tysOk mixed [0, 1, 2, 3, 4, 5, 6, 7, 8, 9, 10, 11, 12, 13, 14, 15, 16, 17, 18, 19, 20, 21, 22, 23, 24, 25, 26, 27, 28] [] [] (by rfl) rfl (fun K hK => ?_)
      simp [idx_inb y, idx_row y, u]
      apply hK
      refine cF ?_
      apply TrD.skip
      cases i
      refine ToAny.mk () rfl ?_
      rw [E]
      exact gC []
     subst hz
     try dsimp only at j
     rw [congrFun E U]
     refine rZ ?_
     cases j
     refine ToAny.mk () rfl ?_
     rw [w]
     exact gc [] hβ (((((va.f (by simp [r])).f (by simp [r])).f (by simp [r])).f (by simp [r])).f (by simp [r])) ln
    rw [congrFun (congrFun w _) v]
    apply sq
    refine sZ ?_ fun K hK => by simp [idx_inb m, idx_row m, ilt_len F.ctors.length]; exact hK
    refine cF ?_
    refine TrD.exit ?_
    try simp only [↓reduceIte, Nat.reduceEqDiff, Nat.zero_ne_one, Nat.one_ne_zero, OfNat.ofNat_ne_zero, OfNat.zero_ne_ofNat, OfNat.one_ne_ofNat, OfNat.ofNat_ne_one]
    refine ToAny.mk v am ?_
    rw [A]
    exact gC []
   subst hz
   try dsimp only at c
   rw [congrFun A R]
   refine rZ ?_
   cases c
   refine ToAny.mk (wadd .i64 a 1) rfl ?_
   rw [B]
   exact gC []
  rw [iN q] at c
  refine TrD.exit ?_
  try simp only [↓reduceIte, Nat.reduceEqDiff, Nat.zero_ne_one, Nat.one_ne_zero, OfNat.ofNat_ne_zero, OfNat.zero_ne_ofNat, OfNat.one_ne_ofNat, OfNat.ofNat_ne_one]
  cases c
  obtain rfl := ae _ rfl
  refine ToAny.mk a rfl ?_
  rw [G]
  exact gC []
 subst hz
 try dsimp only at h
 rw [congrFun G P]
 refine sZ ?_
 cases h
 apply TrD.ret
 exact xD
set_option maxRecDepth 100000 in
theorem c_spec_l1Big (p0 : Int) (res : Bool) (h : m_spec_l1Big p0 = some res) : CallsD Tryz.prog 0o00160 [(.val (.int .u8 p0))] (fun d => d = (eB res)) := by
 unfold m_spec_l1Big at h
 refine CD Tryz.func112 [.tmp 2] fun β hβ => ?_
 refine sZ ?_
 apply sq
 rcases bb (ile 65 p0) with hb2 | hb2
 ·rw [if_pos hb2] at h
  refine rZ ?_ fun K hK => by simp [hb2]; exact hK
  cases h
  apply TrD.ret
  exact xD
 rw [iN hb2] at h
 refine rZ ?_ fun K hK => by simp [hb2]; exact hK
 cases h
 apply TrD.ret
 exact xD
set_option maxRecDepth 100000 in
theorem c_spec_l1Data (p0 : ByteArray) (res : Bool) (h : m_spec_l1Data p0 = some res) : CallsD Tryz.prog 0o00116 [(eS p0)] (fun d => d = (eB res)) := by
 unfold m_spec_l1Data at h
 refine CD Tryz.func78 [.tmp 2] fun β hβ => ?_
 refine sZ ?_
 apply sq
 rcases bb (ieq (lenZ p0.size) 1) with hb7 | hb7
 ·rw [if_pos hb7] at h
  obtain ⟨x8, hx8, h⟩ := bindE h
  obtain ⟨r9, hr9, h⟩ := bindE h
  rcases bb r9 with a | a
  ·rw [if_pos a] at h
   refine rk fun K hK => ?_
   simp [hb7, ← (sidx_some hx8).1, (sidx_some hx8).2]
   refine cp (c_spec_l1Big x8 _ hr9) ?_
   simp [hb7, a]
   apply hK
   cases h
   apply TrD.ret
   exact xD
  rw [iN a] at h
  refine rk fun K hK => ?_
  simp [hb7, ← (sidx_some hx8).1, (sidx_some hx8).2]
  refine cp (c_spec_l1Big x8 _ hr9) ?_
  simp [hb7, a]
  apply hK
  cases h
  apply TrD.ret
  exact xD
 rw [iN hb7] at h
 refine rZ ?_ fun K hK => by simp [hb7]; exact hK
 cases h
 apply TrD.ret
 exact xD
set_option maxRecDepth 100000 in
theorem c_spec_l1Arg (p0 : Int) (p1 : GType) (res : Bool) (h : m_spec_l1Arg p0 p1 = some res) : CallsD Tryz.prog 0o00121 [(eI p0), (.agg (rGType p1))] (fun d => d = (eB res)) := by
 unfold m_spec_l1Arg at h
 refine CD Tryz.func81 [.tmp 4] fun β hβ => ?_
 refine sZ ?_
 apply sq
 refine sZ ?_
 refine TrD.cond (b := ieq p1.data (-1)) (by simp) (fun hb2 => ?_) (fun hb2 => ?_)
 ·rw [if_pos hb2] at h
  refine sZ ?_ fun K hK => by simp [hb2]; exact hK
  cases h
  apply TrD.ret
  exact xD
 rw [iN hb2] at h
 apply TrD.skip
 apply sq
 rcases bb (ile 0 p1.data) with hb6 | hb6
 ·rw [if_pos hb6] at h
  rcases bb (ilt p1.data p0) with hb7 | hb7
  ·rw [if_pos hb7] at h
   rcases bb (ile (-1) p1.index) with hb8 | hb8
   ·rw [if_pos hb8] at h
    refine rZ ?_ fun K hK => by simp [hb2, hb6, hb7, hb8]; exact hK
    cases h
    apply TrD.ret
    exact xD
   rw [iN hb8] at h
   refine rZ ?_ fun K hK => by simp [hb2, hb6, hb7, hb8]; exact hK
   cases h
   apply TrD.ret
   exact xD
  rw [iN hb7] at h
  refine rZ ?_ fun K hK => by simp [hb2, hb6, hb7]; exact hK
  cases h
  apply TrD.ret
  exact xD
 rw [iN hb6] at h
 refine rZ ?_ fun K hK => by simp [hb2, hb6]; exact hK
 cases h
 apply TrD.ret
 exact xD
end Go.Proofs.YtimpchdgflhkaaaGreat
