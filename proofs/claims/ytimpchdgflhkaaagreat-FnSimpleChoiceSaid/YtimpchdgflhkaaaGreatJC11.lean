import Derived.Test.YtimpchdgflhkaaaGreatJMir
import Derived.Test.YtimpchdgflhkaaaGreatJZap
import Derived.Test.YtimpchdgflhkaaaGreatJC9
set_option linter.unusedSimpArgs false
set_option linter.unusedVariables false
namespace Go.Proofs.YtimpchdgflhkaaaGreat
open Go Go.RowKit
set_option maxRecDepth 100000
set_option maxHeartbeats 20000000
set_option maxRecDepth 100000 in
theorem c_impl_ownPattern : ∀ (n : Nat) (p0 : GPattern) (res : GPattern), m_impl_ownPattern n p0 = some res → CallsD Tryz.prog 0o00025 [(.agg (rGPattern p0))] (fun d => d = (.agg (rGPattern res))) := by
 intro n
 induction n with
 | zero => intro p0 res h; cases h
 | succ n ih =>
  intro p0 res h
  rw [m_impl_ownPattern.eq_2] at h
  refine CD Tryz.func21 [.cell 2 32] fun β hβ => ?_
  refine sZ ?_
  refine sZ ?_
  refine sZ ?_
  apply sq
  refine sZ ?_
  obtain ⟨A, u, h⟩ := bindE h
  obtain ⟨s, p⟩ : ∃ S : (List GPattern) → St, S = fun f => ⟨(updD (updD (fun _ => .any) 1 (.ptr 6 0 0 0)) 2 (.ptr 6 2 0 0)), hOfO [some ⟨6, [[(eI p0.op), (eI p0.ctor), (eI p0.n), (eI p0.m), (eI p0.var), (.sl 6 1 (f).length)]], 0, 0x0020⟩, some ⟨6, (List.map rGPattern f), 0, 0x0020⟩, some ⟨6, [[(eI 0), (eI 0), (eI 0), (eI 0), (eI 0), .nil]], 0, 0x0020⟩], 3, 24⟩ := ⟨_, rfl⟩
  refine TrD.joinQ s (fun z => A = Ctl.brk z) (fun _ _ hg h => TrD.ghost hg h) ?_ (fun f hz => ?_)
  ·apply TrD.block
   obtain ⟨t, i⟩ : ∃ S : Nat → (List GPattern) → St, S = fun c a => ⟨(updD (updD (updD (updD (updD (fun _ => .any) 1 (.ptr 6 0 0 0)) 2 (.ptr 6 2 0 0)) 9 (.slice 6 (List.map rGPattern p0.kids))) 10 (eI (lenZ p0.kids.length))) 11 (eI (c : Int))), hOfO [some ⟨6, [[(eI p0.op), (eI p0.ctor), (eI p0.n), (eI p0.m), (eI p0.var), (.sl 6 1 (a).length)]], 0, 0x0020⟩, some ⟨6, (List.map rGPattern a), 0, 0x0020⟩, some ⟨6, [[(eI 0), (eI 0), (eI 0), (eI 0), (eI 0), .nil]], 0, 0x0020⟩], 3, 24⟩ := ⟨_, rfl⟩
   refine TrD.limS (sz := 6) (rows := List.map rGPattern p0.kids) (seen_slot (d := .slice 6 (List.map rGPattern p0.kids)) 7 (by simp)) (fun hlim => ?_)
   rw [List.length_map] at hlim
   refine TrD.forL t u hlim ?_ (fun c l a r E F y e G g D C => ?_) (fun a B => ?_)
   ·rw [i]
    refine (Ghost.ownNilCell 0 5 6 0x0020 (by simp; rfl) rfl (by simp) (by simp)).trans ?_
    exact gC [0, 80, 8]
   ·rw [congrFun (congrFun i c) a]
    refine sZ ?_ fun K hK => by simp [y]; exact hK
    apply sq
    refine cT ?_
    apply TrD.skip
    apply sq
    apply TrD.block
    refine sZ ?_ fun K hK => by simp [idx_inb r, idx_row r]; exact hK
    refine TrD.ghost (σ' := ⟨(updD (updD (updD (updD (updD (updD (fun _ => .any) 1 (.ptr 6 0 0 0)) 2 (.ptr 6 2 0 0)) 5 (.ptr 6 3 0 0)) 9 (.slice 6 (List.map rGPattern p0.kids))) 10 (eI (lenZ p0.kids.length))) 11 (eI (c : Int))), hOfO [some ⟨6, [[(eI p0.op), (eI p0.ctor), (eI p0.n), (eI p0.m), (eI p0.var), (.sl 6 1 (a).length)]], 0, 0x0020⟩, some ⟨6, (List.map rGPattern a), 0, 0x0020⟩, some ⟨6, [[(eI 0), (eI 0), (eI 0), (eI 0), (eI 0), .nil]], 0, 0x0020⟩, some ⟨6, [(rGPattern l)], 0, 0x0020⟩], 4, 24⟩) ?_ ?_
    ·exact gC [0, 1, 2, 27]
    obtain ⟨I, w, g⟩ := bindE g
    obtain ⟨o, j, g⟩ := bindE g
    have q := (app_some j).2
    try simp only [List.length_cons, List.length_nil, Nat.zero_add] at q
    refine TrD.draw tysOk mixed [0, 1, 2, 3, 4, 5, 6, 7] [0, 3] [21] (by rfl) rfl (fun K hK => ?_)
    simp
    refine cp (ih l _ w) ?_
    simp [q]
    apply hK
    refine rZ ?_
    cases g
    refine ToAny.mk o rfl ?_
    rw [i]
    exact gc [0, 20, 2] hβ (((((va.p 0 (by simp [e])).p 2 (by simp [e])).f (by simp [e])).f (by simp [e])).f (by simp [e])) (((ln.c (lv (L := ⟨6, [[(eI 0), (eI 0), (eI 0), (eI 0), (eI 0), .nil]], 0, 0x0020⟩) (by simp) rfl rfl (by simp) (rv_cons (.cons (v_free (by simp) (by simp)) (.cons (v_free (by simp) (by simp)) (.cons (v_free (by simp) (by simp)) (.cons (v_free (by simp) (by simp)) (.cons (v_free (by simp) (by simp)) (.cons (v_free (by simp) (by simp)) .nil)))))) rv_nil))).f (by simp [(app_some j).1])).c (lv (L := ⟨6, [[(eI p0.op), (eI p0.ctor), (eI p0.n), (eI p0.m), (eI p0.var), (.sl 6 20 (o).length)]], 0, 0x0020⟩) (by simp [(app_some j).1]) rfl rfl (by simp) (rv_cons (.cons (v_free (by simp) (by simp)) (.cons (v_free (by simp) (by simp)) (.cons (v_free (by simp) (by simp)) (.cons (v_free (by simp) (by simp)) (.cons (v_free (by simp) (by simp)) (.cons (v_sl rfl) .nil)))))) rv_nil)))
   rw [congrFun (congrFun i _) a]
   refine sZ ?_ fun K hK => by simp [ilt_len p0.kids.length]; exact hK
   apply sq
   refine cF ?_
   refine TrD.exit ?_
   try simp only [↓reduceIte, Nat.reduceEqDiff, Nat.zero_ne_one, Nat.one_ne_zero, OfNat.ofNat_ne_zero, OfNat.zero_ne_ofNat, OfNat.one_ne_ofNat, OfNat.ofNat_ne_one]
   refine ToAny.mk a B ?_
   rw [p]
   exact gC [0, 1, 2]
  subst hz
  try dsimp only at h
  rw [congrFun p f]
  refine sZ ?_
  cases h
  apply TrD.ret
  refine exitDG (σ' := ⟨(updD (fun _ => .any) 2 (.ptr 6 0 0 0)), hOfO [some ⟨6, [(rGPattern (GPattern.mk p0.op p0.ctor p0.n p0.m p0.var f))], 0, 0x0020⟩], 1, 24⟩) ?_ ?_
  ·refine (Ghost.raise 1 (by simp; rfl)).trans ?_
   exact gC [2] (hh := (ln.c (lv (L := ⟨6, [[(eI p0.op), (eI p0.ctor), (eI p0.n), (eI p0.m), (eI p0.var), (.sl 6 1 (f).length)]], 0, 0x0020⟩) (by simp) rfl rfl (by simp) (rv_consr (rGPattern_eq _) (.cons (v_free (by simp) (by simp)) (.cons (v_free (by simp) (by simp)) (.cons (v_free (by simp) (by simp)) (.cons (v_free (by simp) (by simp)) (.cons (v_free (by simp) (by simp)) (.cons (v_frz (by simp; rfl) rfl (by simp) (by simp) (rv_free (by simp) (by simp))) .nil)))))) rv_nil))))
  simp [resD]
  exact eF
set_option maxRecDepth 100000 in
theorem c_impl_kidTypes (p0 : (List GData)) (p1 : GType) (p2 : GPattern) (res : (List GType)) (h : m_impl_kidTypes p0 p1 p2 = some res) : CallsD Tryz.prog 0o00062 [(.slice 2 (List.map rGData p0)), (.agg (rGType p1)), (.agg (rGPattern p2))] (fun d => d = (.slice 2 (List.map rGType res))) := by
 unfold m_impl_kidTypes at h
 refine CD Tryz.func50 [.tmp 6] fun β hβ => ?_
 refine sZ ?_
 apply sq
 obtain ⟨r1, hr1, h⟩ := bindE h
 refine rk fun K hK => ?_
 simp
 refine cp (c_impl_shape p0 p1 p2 _ hr1) ?_
 simp
 apply hK
 refine sZ ?_
 cases h
 apply TrD.ret
 exact xD
set_option maxRecDepth 100000 in
theorem c_impl_anyPattern  (res : GPattern) (h : m_impl_anyPattern  = some res) : CallsD Tryz.prog 0o00066 [] (fun d => d = (.agg (rGPattern res))) := by
 unfold m_impl_anyPattern at h
 refine CD Tryz.func54 [.cell 0 32] fun β hβ => ?_
 refine sZ ?_
 refine sZ ?_
 cases h
 apply TrD.ret
 refine exitDG (σ' := ⟨(updD (fun _ => .any) 0 (.ptr 6 0 0 0)), hOfO [some ⟨6, [(rGPattern (GPattern.mk 1 0 0 0 0 []))], 0, 0x0020⟩], 1, 2⟩) ?_ ?_
 ·exact gC [0]
 simp [resD]
 exact eF
set_option maxRecDepth 100000 in
theorem c_impl_ranged (p0 : Int) (p1 : Int) (res : GPattern) (h : m_impl_ranged p0 p1 = some res) : CallsD Tryz.prog 0o00063 [(eI p0), (eI p1)] (fun d => d = (.agg (rGPattern res))) := by
 unfold m_impl_ranged at h
 refine CD Tryz.func51 [.cell 4 32] fun β hβ => ?_
 refine sZ ?_
 obtain ⟨n, a, h⟩ := bindE h
 obtain ⟨j, f⟩ : ∃ S : Unit → St, S = fun i => ⟨(updD (updD (updD (fun _ => .any) 0 (eI p0)) 1 (eI p1)) 4 (.ptr 6 0 0 0)), hOfO [some ⟨6, [[(eI 0), (eI 0), (eI 0), (eI 0), (eI 0), .nil]], 0, 0x0020⟩], 1, 15⟩ := ⟨_, rfl⟩
 refine TrD.join j (fun z => n = Ctl.brk z) ?_ (fun i hz => ?_)
 ·apply sq
  rcases bb (ieq p0 0) with e | e
  ·rw [if_pos e] at a
   refine rZ ?_ fun K hK => by simp [e]; exact hK
   refine TrD.cond (b := ieq p1 9) (by simp) (fun c => ?_) (fun c => ?_)
   ·rw [if_pos c] at a
    apply sq
    obtain ⟨g, m, a⟩ := bindE a
    refine rk fun K hK => ?_
    simp [c]
    refine cp (c_impl_anyPattern _ m) ?_
    simp
    apply hK
    cases a
    cases h
    apply TrD.ret
    exact xD
   rw [iN c] at a
   apply TrD.skip
   cases a
   refine ToAny.mk () rfl ?_
   rw [f]
   exact gC [0]
  rw [iN e] at a
  refine rZ ?_ fun K hK => by simp [e]; exact hK
  refine cF ?_
  apply TrD.skip
  cases a
  refine ToAny.mk () rfl ?_
  rw [f]
  exact gC [0]
 subst hz
 try dsimp only at h
 rw [congrFun f i]
 refine sZ ?_
 cases h
 apply TrD.ret
 refine exitDG (σ' := ⟨(updD (fun _ => .any) 4 (.ptr 6 0 0 0)), hOfO [some ⟨6, [(rGPattern (GPattern.mk 3 0 p0 p1 0 []))], 0, 0x0020⟩], 1, 15⟩) ?_ ?_
 ·exact gC [0]
 simp [resD]
 exact eF
set_option maxRecDepth 100000 in
theorem c_slices_IndexFunc_Pattern (p0 : (List GPattern)) (p1_f : FuncId) (p1_c : List D) (p1_x : ∀ d ∈ p1_c, Free d) (p1 : (GPattern → Option Bool)) (p1_h : ∀ a0 r, p1 a0 = some r → CallsD Tryz.prog p1_f ([(.agg (rGPattern a0))] ++ p1_c) (fun d => d = (eB r))) (res : Int) (h : m_slices_IndexFunc_Pattern p0 p1 = some res) : CallsD Tryz.prog 0o00167 [(.slice 6 (List.map rGPattern p0)), .clos p1_f p1_c] (fun d => d = (eI res)) := by
 unfold m_slices_IndexFunc_Pattern at h
 have p1_y : Free (.clos p1_f p1_c) := free_clos p1_x
 have p1_z := eq_true p1_x
 refine CD Tryz.func119 [.tmp 4] fun β hβ => ?_
 refine sZ ?_
 apply sq
 refine sZ ?_
 obtain ⟨v, p, h⟩ := bindE h
 obtain ⟨n, j⟩ : ∃ S : Unit → St, S = fun m => ⟨(fun _ => .any), hOfO [], 0, 19⟩ := ⟨_, rfl⟩
 refine TrD.joinQ n (fun z => v = Ctl.brk z) (fun _ _ hg h => TrD.ghost hg h) ?_ (fun m hz => ?_)
 ·apply TrD.block
  obtain ⟨o, i⟩ : ∃ S : Nat → Unit → St, S = fun c g => ⟨(updD (updD (updD (updD (fun _ => .any) 0 (.slice 6 (List.map rGPattern p0))) 1 (.clos p1_f p1_c)) 7 (eI (lenZ p0.length))) 8 (eI (c : Int))), hOfO [], 0, 19⟩ := ⟨_, rfl⟩
  refine TrD.limS (sz := 6) (rows := List.map rGPattern p0) (seen_slot (d := .slice 6 (List.map rGPattern p0)) 0 (by simp)) (fun hlim => ?_)
  rw [List.length_map] at hlim
  refine TrD.forL o p hlim ?_ (fun c A g l C E u f F a t B => ?_) (fun g y => ?_)
  ·rw [i]
   exact gc [] hβ (((va.f.f (by simp) (by simp [p1_y])).f).f) ln
  ·rw [congrFun (congrFun i c) g]
   refine sZ ?_ fun K hK => by simp [u]; exact hK
   apply sq
   refine cT ?_
   apply TrD.skip
   apply sq
   apply TrD.block
   refine sZ ?_
   apply sq
   obtain ⟨w, s, a⟩ := bindE a
   refine rk fun K hK => ?_
   simp [idx_inb l, idx_row l]
   refine cp (p1_h A _ s) ?_ (by simp) (by simp [p1_z])
   simp
   apply hK
   refine TrD.cond (b := w) (by simp) (fun e => ?_) (fun e => ?_)
   ·rw [if_pos e] at a
    refine sZ ?_ fun K hK => by simp [e]; exact hK
    cases a
    obtain rfl := t _ rfl
    cases h
    apply TrD.ret
    exact xD
   rw [iN e] at a
   apply TrD.skip
   refine rZ ?_ fun K hK => by simp [e]; exact hK
   cases a
   refine ToAny.mk () rfl ?_
   rw [i]
   exact gc [] hβ ((((va.f (by simp [f])).f (by simp [f]) (by simp [p1_y])).f (by simp [f])).f (by simp [f])) ln
  rw [congrFun (congrFun i _) g]
  refine sZ ?_ fun K hK => by simp [ilt_len p0.length]; exact hK
  apply sq
  refine cF ?_
  refine TrD.exit ?_
  try simp only [↓reduceIte, Nat.reduceEqDiff, Nat.zero_ne_one, Nat.one_ne_zero, OfNat.ofNat_ne_zero, OfNat.zero_ne_ofNat, OfNat.one_ne_ofNat, OfNat.ofNat_ne_one]
  refine ToAny.mk g y ?_
  rw [j]
  exact gC []
 subst hz
 try dsimp only at h
 rw [congrFun j m]
 refine sZ ?_
 cases h
 apply TrD.ret
 exact xD
set_option maxRecDepth 100000 in
theorem c_slices_ContainsFunc_Pattern (p0 : (List GPattern)) (p1_f : FuncId) (p1_c : List D) (p1_x : ∀ d ∈ p1_c, Free d) (p1 : (GPattern → Option Bool)) (p1_h : ∀ a0 r, p1 a0 = some r → CallsD Tryz.prog p1_f ([(.agg (rGPattern a0))] ++ p1_c) (fun d => d = (eB r))) (res : Bool) (h : m_slices_ContainsFunc_Pattern p0 p1 = some res) : CallsD Tryz.prog 0o00130 [(.slice 6 (List.map rGPattern p0)), .clos p1_f p1_c] (fun d => d = (eB res)) := by
 unfold m_slices_ContainsFunc_Pattern at h
 have p1_y : Free (.clos p1_f p1_c) := free_clos p1_x
 have p1_z := eq_true p1_x
 refine CD Tryz.func88 [.tmp 4] fun β hβ => ?_
 refine sZ ?_
 apply sq
 obtain ⟨r1, hr1, h⟩ := bindE h
 refine rk fun K hK => ?_
 simp
 refine cp (c_slices_IndexFunc_Pattern p0 p1_f p1_c p1_x p1 p1_h _ hr1) ?_ (by simp) (by simp [p1_y])
 simp
 apply hK
 cases h
 apply TrD.ret
 exact xD
set_option maxRecDepth 100000 in
theorem c_impl_allAny_1 (p0 : GPattern) (res : Bool) (h : m_impl_allAny_1 p0 = some res) : CallsD Tryz.prog 0o00131 [(.agg (rGPattern p0))] (fun d => d = (eB res)) := by
 unfold m_impl_allAny_1 at h
 refine CD Tryz.func89 [.tmp 2] fun β hβ => ?_
 refine sZ ?_
 refine sZ ?_
 cases h
 apply TrD.ret
 exact xD
set_option maxRecDepth 100000 in
theorem c_impl_allAny (p0 : (List GPattern)) (res : Bool) (h : m_impl_allAny p0 = some res) : CallsD Tryz.prog 0o00064 [(.slice 6 (List.map rGPattern p0))] (fun d => d = (eB res)) := by
 unfold m_impl_allAny at h
 refine CD Tryz.func52 [.tmp 2] fun β hβ => ?_
 refine sZ ?_
 apply sq
 obtain ⟨r1, hr1, h⟩ := bindE h
 refine rk fun K hK => ?_
 simp
 refine cp (c_slices_ContainsFunc_Pattern p0 _ [] (by simp) (fun a0 => m_impl_allAny_1 a0) (fun a0 r hr => c_impl_allAny_1 a0 r hr) _ hr1) ?_
 simp
 apply hK
 cases h
 apply TrD.ret
 exact xD
set_option maxRecDepth 100000 in
theorem c_slices_EqualFunc_Pattern (p0 : (List GPattern)) (p1 : (List GPattern)) (p2_f : FuncId) (p2_c : List D) (p2_x : ∀ d ∈ p2_c, Free d) (p2 : (GPattern → GPattern → Option Bool)) (p2_h : ∀ a0 a1 r, p2 a0 a1 = some r → CallsD Tryz.prog p2_f ([(.agg (rGPattern a0)), (.agg (rGPattern a1))] ++ p2_c) (fun d => d = (eB r))) (res : Bool) (h : m_slices_EqualFunc_Pattern p0 p1 p2 = some res) : CallsD Tryz.prog 0o00032 [(.slice 6 (List.map rGPattern p0)), (.slice 6 (List.map rGPattern p1)), .clos p2_f p2_c] (fun d => d = (eB res)) := by
 unfold m_slices_EqualFunc_Pattern at h
 have p2_y : Free (.clos p2_f p2_c) := free_clos p2_x
 have p2_z := eq_true p2_x
 refine CD Tryz.func26 [.tmp 6] fun β hβ => ?_
 refine sZ ?_
 apply sq
 refine sZ ?_
 refine TrD.cond (b := !ieq (lenZ p0.length) (lenZ p1.length)) (by simp) (fun hb2 => ?_) (fun hb2 => ?_)
 ·rw [if_pos hb2] at h
  refine sZ ?_ fun K hK => by simp [hb2]; exact hK
  cases h
  apply TrD.ret
  exact xD
 rw [iN hb2] at h
 apply TrD.skip
 apply sq
 refine sZ ?_ fun K hK => by simp [hb2]; exact hK
 obtain ⟨w, q, h⟩ := bindE h
 obtain ⟨o, j⟩ : ∃ S : Unit → St, S = fun n => ⟨(fun _ => .any), hOfO [], 0, 32⟩ := ⟨_, rfl⟩
 refine TrD.joinQ o (fun z => w = Ctl.brk z) (fun _ _ hg h => TrD.ghost hg h) ?_ (fun n hz => ?_)
 ·apply TrD.block
  obtain ⟨p, g⟩ : ∃ S : Nat → Unit → St, S = fun i f => ⟨(updD (updD (updD (updD (updD (fun _ => .any) 1 (.slice 6 (List.map rGPattern p1))) 2 (.clos p2_f p2_c)) 15 (.slice 6 (List.map rGPattern p0))) 16 (eI (lenZ p0.length))) 17 (eI (i : Int))), hOfO [], 0, 32⟩ := ⟨_, rfl⟩
  refine TrD.limS (sz := 6) (rows := List.map rGPattern p0) (seen_slot (d := .slice 6 (List.map rGPattern p0)) 0 (by simp)) (fun hlim => ?_)
  rw [List.length_map] at hlim
  refine TrD.forL p q hlim ?_ (fun i B f m F G v c H a u E => ?_) (fun f A => ?_)
  ·rw [g]
   exact gc [] hβ ((((va.f.f (by simp) (by simp [p2_y])).f).f).f) ln
  ·rw [congrFun (congrFun g i) f]
   refine sZ ?_ fun K hK => by simp [v]; exact hK
   apply sq
   refine cT ?_
   apply TrD.skip
   apply sq
   apply TrD.block
   refine sZ ?_ fun K hK => by simp [idx_inb m, idx_row m]; exact hK
   apply sq
   obtain ⟨C, l, a⟩ := bindE a
   refine rZ ?_ fun K hK => by simp [idx_inb l, idx_row l]; exact hK
   apply sq
   obtain ⟨y, t, a⟩ := bindE a
   refine rk fun K hK => ?_
   simp
   refine cp (p2_h B C _ t) ?_ (by simp) (by simp [p2_z])
   simp
   apply hK
   refine TrD.cond (b := (!y)) (by simp) (fun e => ?_) (fun e => ?_)
   ·rw [if_pos e] at a
    refine sZ ?_ fun K hK => by simp [e]; exact hK
    cases a
    obtain rfl := u _ rfl
    cases h
    apply TrD.ret
    exact xD
   rw [iN e] at a
   apply TrD.skip
   refine rZ ?_ fun K hK => by simp [e]; exact hK
   cases a
   refine ToAny.mk () rfl ?_
   rw [g]
   exact gc [] hβ (((((va.f (by simp [c])).f (by simp [c]) (by simp [p2_y])).f (by simp [c])).f (by simp [c])).f (by simp [c])) ln
  rw [congrFun (congrFun g _) f]
  refine sZ ?_ fun K hK => by simp [ilt_len p0.length]; exact hK
  apply sq
  refine cF ?_
  refine TrD.exit ?_
  try simp only [↓reduceIte, Nat.reduceEqDiff, Nat.zero_ne_one, Nat.one_ne_zero, OfNat.ofNat_ne_zero, OfNat.zero_ne_ofNat, OfNat.one_ne_ofNat, OfNat.ofNat_ne_one]
  refine ToAny.mk f A ?_
  rw [j]
  exact gC []
 subst hz
 try dsimp only at h
 rw [congrFun j n]
 refine sZ ?_
 cases h
 apply TrD.ret
 exact xD
set_option maxRecDepth 100000 in
theorem c_impl_PatternSame : ∀ (n : Nat) (p0 : GPattern) (p1 : GPattern) (res : Bool), m_impl_PatternSame n p0 p1 = some res → CallsD Tryz.prog 0o00011 [(.agg (rGPattern p0)), (.agg (rGPattern p1))] (fun d => d = (eB res)) := by
 intro n
 induction n with
 | zero => intro p0 p1 res h; cases h
 | succ n ih =>
  intro p0 p1 res h
  rw [m_impl_PatternSame.eq_2] at h
  refine CD Tryz.func9 [.tmp 4] fun β hβ => ?_
  refine sZ ?_
  apply sq
  rcases bb (ieq p0.op p1.op) with hb8 | hb8
  ·rw [if_pos hb8] at h
   rcases bb (ieq p0.ctor p1.ctor) with hb9 | hb9
   ·rw [if_pos hb9] at h
    rcases bb (ieq p0.n p1.n) with a | a
    ·rw [if_pos a] at h
     rcases bb (ieq p0.m p1.m) with b | b
     ·rw [if_pos b] at h
      rcases bb (ieq p0.var p1.var) with c | c
      ·rw [if_pos c] at h
       obtain ⟨e, g, h⟩ := bindE h
       refine rk fun K hK => ?_
       simp [hb8, hb9, a, b, c]
       refine cp (c_slices_EqualFunc_Pattern p0.kids p1.kids _ [] (by simp) (fun a0 a1 => m_impl_PatternSame n a0 a1) (fun a0 a1 r hr => ih a0 a1 r hr) _ g) ?_
       simp [hb8, hb9, a, b, c]
       apply hK
       cases h
       apply TrD.ret
       exact xD
      rw [iN c] at h
      refine rZ ?_ fun K hK => by simp [hb8, hb9, a, b, c]; exact hK
      cases h
      apply TrD.ret
      exact xD
     rw [iN b] at h
     refine rZ ?_ fun K hK => by simp [hb8, hb9, a, b]; exact hK
     cases h
     apply TrD.ret
     exact xD
    rw [iN a] at h
    refine rZ ?_ fun K hK => by simp [hb8, hb9, a]; exact hK
    cases h
    apply TrD.ret
    exact xD
   rw [iN hb9] at h
   refine rZ ?_ fun K hK => by simp [hb8, hb9]; exact hK
   cases h
   apply TrD.ret
   exact xD
  rw [iN hb8] at h
  refine rZ ?_ fun K hK => by simp [hb8]; exact hK
  cases h
  apply TrD.ret
  exact xD
set_option maxRecDepth 100000 in
theorem c_impl_hasVars : ∀ (n : Nat) (p0 : GPattern) (res : Bool), m_impl_hasVars n p0 = some res → CallsD Tryz.prog 0o00132 [(.agg (rGPattern p0))] (fun d => d = (eB res)) := by
 intro n
 induction n with
 | zero => intro p0 res h; cases h
 | succ n ih =>
  intro p0 res h
  rw [m_impl_hasVars.eq_2] at h
  refine CD Tryz.func90 [.tmp 2] fun β hβ => ?_
  refine sZ ?_
  apply sq
  rcases bb (ieq p0.op 2) with hb5 | hb5
  ·rw [if_pos hb5] at h
   refine rZ ?_ fun K hK => by simp [hb5]; exact hK
   cases h
   apply TrD.ret
   exact xD
  rw [iN hb5] at h
  rcases bb (ieq p0.op 6) with hb6 | hb6
  ·rw [if_pos hb6] at h
   refine rZ ?_ fun K hK => by simp [hb5, hb6]; exact hK
   cases h
   apply TrD.ret
   exact xD
  rw [iN hb6] at h
  obtain ⟨r7, hr7, h⟩ := bindE h
  refine rk fun K hK => ?_
  simp [hb5, hb6]
  refine cp (c_slices_ContainsFunc_Pattern p0.kids _ [] (by simp) (fun a0 => m_impl_hasVars n a0) (fun a0 r hr => ih a0 r hr) _ hr7) ?_
  simp [hb5, hb6]
  apply hK
  cases h
  apply TrD.ret
  exact xD
end Go.Proofs.YtimpchdgflhkaaaGreat
