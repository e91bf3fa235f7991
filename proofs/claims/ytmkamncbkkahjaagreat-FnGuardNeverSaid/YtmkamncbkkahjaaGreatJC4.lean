import Derived.Test.YtmkamncbkkahjaaGreatJMir
import Derived.Test.YtmkamncbkkahjaaGreatJZap
import Derived.Test.YtmkamncbkkahjaaGreatJC1
import Derived.Test.YtmkamncbkkahjaaGreatJC3
set_option linter.unusedSimpArgs false
set_option linter.unusedVariables false
namespace Go.Proofs.YtmkamncbkkahjaaGreat
open Go Go.RowKit
set_option maxRecDepth 100000
set_option maxHeartbeats 20000000
theorem c_slices_IndexFunc_Type (p0 : (List GType)) (p1_f : FuncId) (p1_c : List D) (p1_x : ∀ d ∈ p1_c, Free d) (p1 : (GType → Option Bool)) (p1_h : ∀ a0 r, p1 a0 = some r → CallsD Tryz.prog p1_f ([(.agg (rGType a0))] ++ p1_c) (fun d => d = (eB r))) (res : Int) (h : m_slices_IndexFunc_Type p0 p1 = some res) : CallsD Tryz.prog 0o00271 [(.slice 2 (List.map rGType p0)), .clos p1_f p1_c] (fun d => d = (eI res)) := by
 unfold m_slices_IndexFunc_Type at h
 have p1_y : Free (.clos p1_f p1_c) := free_clos p1_x
 have p1_z := eq_true p1_x
 refine CD Tryz.func185 [.tmp 4] fun β hβ => ?_
 refine sZ ?_
 apply sq
 refine sZ ?_
 obtain ⟨v, p, h⟩ := bindE h
 obtain ⟨n, j⟩ : ∃ S : Unit → St, S = fun m => ⟨(fun _ => .any), hOfO [], 0, 19⟩ := ⟨_, rfl⟩
 refine TrD.joinQ n (fun z => v = Ctl.brk z) (fun _ _ hg h => TrD.ghost hg h) ?_ (fun m hz => ?_)
 ·apply TrD.block
  obtain ⟨o, i⟩ : ∃ S : Nat → Unit → St, S = fun c g => ⟨(updD (updD (updD (updD (fun _ => .any) 0 (.slice 2 (List.map rGType p0))) 1 (.clos p1_f p1_c)) 7 (eI (lenZ p0.length))) 8 (eI (c : Int))), hOfO [], 0, 19⟩ := ⟨_, rfl⟩
  refine TrD.limS (sz := 2) (rows := List.map rGType p0) (seen_slot (d := .slice 2 (List.map rGType p0)) 0 (by simp)) (fun hlim => ?_)
  rw [List.length_map] at hlim
  refine TrD.forL o p hlim ?_ (fun c A g l C E u f F a t B => ?_) (fun g y => ?_)
  ·rw [i]
   exact gc [] hβ (((va.f.f (by simp) (by simp [p1_y])).f).f) ln
  ·rw [congrFun (congrFun i c) g]
   refine sZ ?_ fun K hK => by simp [u]; exact hK
   apply sq
   refine cT ?_
   apply TrD.skip
   apply sq
   apply TrD.block
   refine sZ ?_
   apply sq
   obtain ⟨w, s, a⟩ := bindE a
   refine rk fun K hK => ?_
   simp [idx_inb l, idx_row l]
   refine cp (p1_h A _ s) ?_ (by simp) (by simp [p1_z])
   simp
   apply hK
   refine TrD.cond (b := w) (by simp) (fun e => ?_) (fun e => ?_)
   ·rw [if_pos e] at a
    refine sZ ?_ fun K hK => by simp [e]; exact hK
    cases a
    obtain rfl := t _ rfl
    cases h
    apply TrD.ret
    exact xD
   rw [iN e] at a
   apply TrD.skip
   refine rZ ?_ fun K hK => by simp [e]; exact hK
   cases a
   refine ToAny.mk () rfl ?_
   rw [i]
   exact gc [] hβ ((((va.f (by simp [f])).f (by simp [f]) (by simp [p1_y])).f (by simp [f])).f (by simp [f])) ln
  rw [congrFun (congrFun i _) g]
  refine sZ ?_ fun K hK => by simp [ilt_len p0.length]; exact hK
  apply sq
  refine cF ?_
  refine TrD.exit ?_
  try simp only [↓reduceIte, Nat.reduceEqDiff, Nat.zero_ne_one, Nat.one_ne_zero, OfNat.ofNat_ne_zero, OfNat.zero_ne_ofNat, OfNat.one_ne_ofNat, OfNat.ofNat_ne_one]
  refine ToAny.mk g y ?_
  rw [j]
  exact gC []
 subst hz
 try dsimp only at h
 rw [congrFun j m]
 refine sZ ?_
 cases h
 apply TrD.ret
 exact xD
theorem c_slices_ContainsFunc_Type (p0 : (List GType)) (p1_f : FuncId) (p1_c : List D) (p1_x : ∀ d ∈ p1_c, Free d) (p1 : (GType → Option Bool)) (p1_h : ∀ a0 r, p1 a0 = some r → CallsD Tryz.prog p1_f ([(.agg (rGType a0))] ++ p1_c) (fun d => d = (eB r))) (res : Bool) (h : m_slices_ContainsFunc_Type p0 p1 = some res) : CallsD Tryz.prog 0o00165 [(.slice 2 (List.map rGType p0)), .clos p1_f p1_c] (fun d => d = (eB res)) := by
 unfold m_slices_ContainsFunc_Type at h
 have p1_y : Free (.clos p1_f p1_c) := free_clos p1_x
 have p1_z := eq_true p1_x
 refine CD Tryz.func117 [.tmp 4] fun β hβ => ?_
 refine sZ ?_
 apply sq
 obtain ⟨r1, hr1, h⟩ := bindE h
 refine rk fun K hK => ?_
 simp
 refine cp (c_slices_IndexFunc_Type p0 p1_f p1_c p1_x p1 p1_h _ hr1) ?_ (by simp) (by simp [p1_y])
 simp
 apply hK
 cases h
 apply TrD.ret
 exact xD
theorem c_impl_NameValid (n : Nat) (p0 : ByteArray) (res : Bool) (h : m_impl_NameValid n p0 = some res) : CallsD Tryz.prog 0o00365 [(eS p0)] (fun d => d = (eB res)) := by
 unfold m_impl_NameValid at h
 refine CD Tryz.func245 [.tmp 2] fun β hβ => ?_
 refine sZ ?_
 apply sq
 apply sq
 obtain ⟨G, q, h⟩ := bindE h
 rcases bb (!G) with e | e
 ·rw [if_pos e] at h
  refine rk fun K hK => ?_
  simp
  refine cp (c_impl_within (lenZ p0.size) 1 5 _ q) ?_
  simp [e]
  apply hK
  refine cT ?_
  refine sZ ?_
  cases h
  apply TrD.ret
  exact xD
 rw [iN e] at h
 obtain ⟨v, o, h⟩ := bindE h
 rcases bb (ilt v 65) with j | j
 ·rw [if_pos j] at h
  refine rk fun K hK => ?_
  simp
  refine cp (c_impl_within (lenZ p0.size) 1 5 _ q) ?_
  simp [e, ← (sidx_some o).1, (sidx_some o).2, j]
  apply hK
  refine cT ?_
  refine sZ ?_
  cases h
  apply TrD.ret
  exact xD
 rw [iN j] at h
 refine rk fun K hK => ?_
 simp
 refine cp (c_impl_within (lenZ p0.size) 1 5 _ q) ?_
 simp [e, ← (sidx_some o).1, (sidx_some o).2, j]
 apply hK
 refine TrD.cond (b := ilt 90 v) (by simp) (fun l => ?_) (fun l => ?_)
 ·rw [if_pos l] at h
  refine sZ ?_ fun K hK => by simp [l]; exact hK
  cases h
  apply TrD.ret
  exact xD
 rw [iN l] at h
 apply TrD.skip
 apply sq
 refine sZ ?_ fun K hK => by simp [l]; exact hK
 obtain ⟨F, A, h⟩ := bindE h
 obtain ⟨w, r⟩ : ∃ S : Int → St, S = fun t => ⟨(fun _ => .any), hOfO [], 0, 34⟩ := ⟨_, rfl⟩
 refine TrD.joinQ w (fun z => F = Ctl.brk z) (fun _ _ hg h => TrD.ghost hg h) ?_ (fun t hz => ?_)
 ·apply TrD.block
  obtain ⟨y, p⟩ : ∃ S : Int → St, S = fun c => ⟨(updD (updD (fun _ => .any) 0 (eS p0)) 3 (eI c)), hOfO [], 0, 34⟩ := ⟨_, rfl⟩
  refine TrD.whileL y A ?_ (fun c H a s B => ?_)
  ·rw [p]
   exact gC []
  rw [congrFun p c]
  apply sq
  refine sZ ?_
  refine TrD.cond (b := ilt c (lenZ p0.size)) (by simp) (fun f => ?_) (fun f => ?_)
  ·rw [if_pos f] at a
   apply TrD.skip
   apply sq
   apply TrD.block
   apply sq
   obtain ⟨u, m, a⟩ := bindE a
   rcases bb (ilt u 97) with g | g
   ·rw [if_pos g] at a
    refine rZ ?_ fun K hK => by simp [f, ← (sidx_some m).1, (sidx_some m).2, g]; exact hK
    refine cT ?_
    refine sZ ?_
    cases a
    obtain rfl := s _ rfl
    cases h
    apply TrD.ret
    exact xD
   rw [iN g] at a
   refine rZ ?_ fun K hK => by simp [f, ← (sidx_some m).1, (sidx_some m).2, g]; exact hK
   refine TrD.cond (b := ilt 122 u) (by simp) (fun i => ?_) (fun i => ?_)
   ·rw [if_pos i] at a
    refine sZ ?_ fun K hK => by simp [i]; exact hK
    cases a
    obtain rfl := s _ rfl
    cases h
    apply TrD.ret
    exact xD
   rw [iN i] at a
   apply TrD.skip
   refine rZ ?_ fun K hK => by simp [i]; exact hK
   cases a
   refine ToAny.mk (wadd .i64 c 1) rfl ?_
   rw [p]
   exact gC []
  rw [iN f] at a
  refine TrD.exit ?_
  try simp only [↓reduceIte, Nat.reduceEqDiff, Nat.zero_ne_one, Nat.one_ne_zero, OfNat.ofNat_ne_zero, OfNat.zero_ne_ofNat, OfNat.one_ne_ofNat, OfNat.ofNat_ne_one]
  cases a
  obtain rfl := B _ rfl
  refine ToAny.mk c rfl ?_
  rw [r]
  exact gC []
 subst hz
 try dsimp only at h
 rw [congrFun r t]
 refine sZ ?_
 cases h
 apply TrD.ret
 exact xD
theorem c_impl_argOk (p0 : (List GData)) (p1 : GType) (res : Bool) (h : m_impl_argOk p0 p1 = some res) : CallsD Tryz.prog 0o00367 [(.slice 2 (List.map rGData p0)), (.agg (rGType p1))] (fun d => d = (eB res)) := by
 unfold m_impl_argOk at h
 refine CD Tryz.func247 [.tmp 4] fun β hβ => ?_
 refine sZ ?_
 apply sq
 rcases bb (eqAll [ieq p1.data (-1), ieq p1.index 0]) with hb8 | hb8
 ·rw [if_pos hb8] at h
  refine rZ ?_ fun K hK => by simp [hb8]; exact hK
  cases h
  apply TrD.ret
  exact xD
 rw [iN hb8] at h
 obtain ⟨r9, hr9, h⟩ := bindE h
 rcases bb r9 with a | a
 ·rw [if_pos a] at h
  obtain ⟨b, g, h⟩ := bindE h
  refine rk fun K hK => ?_
  simp [hb8]
  refine cp (c_impl_within p1.data 0 (wsub .i64 (lenZ p0.length) 1) _ hr9) ?_
  simp [a]
  refine cp (c_impl_within p1.index (-1) 3 _ g) ?_
  simp [a]
  apply hK
  cases h
  apply TrD.ret
  exact xD
 rw [iN a] at h
 refine rk fun K hK => ?_
 simp [hb8]
 refine cp (c_impl_within p1.data 0 (wsub .i64 (lenZ p0.length) 1) _ hr9) ?_
 simp [a]
 apply hK
 cases h
 apply TrD.ret
 exact xD
theorem c_impl_ctorOk_1 (p0 : GType) (q0 : (List GData)) (res : Bool) (h : m_impl_ctorOk_1 p0 q0 = some res) : CallsD Tryz.prog 0o00366 [(.agg (rGType p0)), .cptr [(.slice 2 (List.map rGData q0))]] (fun d => d = (eB res)) := by
 unfold m_impl_ctorOk_1 at h
 refine CD Tryz.func246 [.tmp 3] fun β hβ => ?_
 refine sZ ?_
 apply sq
 obtain ⟨r1, hr1, h⟩ := bindE h
 refine rk fun K hK => ?_
 simp
 refine cp (c_impl_argOk q0 p0 _ hr1) ?_
 simp
 apply hK
 cases h
 apply TrD.ret
 exact xD
theorem c_impl_ctorOk (n : Nat) (p0 : (List GData)) (p1 : GCtor) (res : Bool) (h : m_impl_ctorOk n p0 p1 = some res) : CallsD Tryz.prog 0o00270 [(.slice 2 (List.map rGData p0)), (.agg (rGCtor p1))] (fun d => d = (eB res)) := by
 unfold m_impl_ctorOk at h
 refine CD Tryz.func184 [.tmp 4] fun β hβ => ?_
 refine sZ ?_
 apply sq
 obtain ⟨t, e, h⟩ := bindE h
 rcases bb t with a | a
 ·rw [if_pos a] at h
  rcases bb (ile (lenZ p1.args.length) 3) with b | b
  ·rw [if_pos b] at h
   obtain ⟨u, f, h⟩ := bindE h
   rcases bb u with c | c
   ·rw [if_pos c] at h
    obtain ⟨g, s, h⟩ := bindE h
    refine rk fun K hK => ?_
    simp
    refine cp (c_impl_NameValid n p1.name _ e) ?_
    simp [a, b]
    refine cp (c_impl_within p1.index 0 3 _ f) ?_
    simp [a, c]
    refine callB (.cons (.same _ _) (.cons (.clos _ _ _ _ 0 _ _ rfl (.ptr _ _ _ _ _ _ _ (by simp; rfl) rfl rfl (by simp))) (.nil _))) (c_slices_ContainsFunc_Type p1.args _ [.cptr [(.slice 2 (List.map rGData p0))]] (by simp) (fun a0 => m_impl_ctorOk_1 a0 p0) (fun a0 r hr => c_impl_ctorOk_1 a0 p0 r hr) _ s) (by simp) (by simp) (fun y l => ?_)
    subst l
    refine ⟨by simp, ?_⟩
    simp [a, c]
    apply hK
    cases h
    apply TrD.ret
    exact xD
   rw [iN c] at h
   refine rk fun K hK => ?_
   simp
   refine cp (c_impl_NameValid n p1.name _ e) ?_
   simp [a, b]
   refine cp (c_impl_within p1.index 0 3 _ f) ?_
   simp [a, c]
   apply hK
   cases h
   apply TrD.ret
   exact xD
  rw [iN b] at h
  refine rk fun K hK => ?_
  simp
  refine cp (c_impl_NameValid n p1.name _ e) ?_
  simp [a, b]
  apply hK
  cases h
  apply TrD.ret
  exact xD
 rw [iN a] at h
 refine rk fun K hK => ?_
 simp
 refine cp (c_impl_NameValid n p1.name _ e) ?_
 simp [a]
 apply hK
 cases h
 apply TrD.ret
 exact xD
theorem c_impl_WorldValid (n : Nat) (p0 : (List GData)) (res : Bool) (h : m_impl_WorldValid n p0 = some res) : CallsD Tryz.prog 0o00160 [(.slice 2 (List.map rGData p0))] (fun d => d = (eB res)) := by
 unfold m_impl_WorldValid at h
 refine CD Tryz.func112 [.tmp 2] fun β hβ => ?_
 refine sZ ?_
 apply sq
 refine sZ ?_
 refine TrD.cond (b := ilt 4 (lenZ p0.length)) (by simp) (fun hb2 => ?_) (fun hb2 => ?_)
 ·rw [if_pos hb2] at h
  refine sZ ?_ fun K hK => by simp [hb2]; exact hK
  cases h
  apply TrD.ret
  exact xD
 rw [iN hb2] at h
 apply TrD.skip
 refine sZ ?_ fun K hK => by simp [hb2]; exact hK
 refine sZ ?_
 apply sq
 refine sZ ?_
 obtain ⟨ac, U, h⟩ := bindE h
 obtain ⟨P, E⟩ : ∃ S : ((List (ByteArray × Bool)) × (List (ByteArray × Bool))) → St, S = fun N => ⟨(fun _ => .any), hOfO [], 0, 79⟩ := ⟨_, rfl⟩
 refine TrD.joinQ P (fun z => ac = Ctl.brk z) (fun _ _ hg h => TrD.ghost hg h) ?_ (fun N hz => ?_)
 ·apply TrD.block
  obtain ⟨R, B⟩ : ∃ S : Nat → ((List (ByteArray × Bool)) × (List (ByteArray × Bool))) → St, S = fun m e => ⟨(updD (updD (updD (updD (updD (updD (fun _ => .any) 0 (.slice 2 (List.map rGData p0))) 3 (.mp 0)) 4 (.mp 1)) 14 (.slice 2 (List.map rGData p0))) 15 (eI (lenZ p0.length))) 16 (eI (m : Int))), hOfO [some ⟨0, List.map rSB e.1, 0, 0x00fd⟩, some ⟨0, List.map rSB e.2, 0, 0x00fd⟩], 2, 79⟩ := ⟨_, rfl⟩
  refine TrD.limS (sz := 2) (rows := List.map rGData p0) (seen_slot (d := .slice 2 (List.map rGData p0)) 0 (by simp)) (fun hlim => ?_)
  rw [List.length_map] at hlim
  refine TrD.forL R U hlim ?_ (fun m c e I ak al aa s ao a p ai => ?_) (fun e ag => ?_)
  ·rw [B]
   exact gC [32, 48]
  ·rw [congrFun (congrFun B m) e]
   refine sZ ?_ fun K hK => by simp [aa]; exact hK
   apply sq
   refine cT ?_
   apply TrD.skip
   apply sq
   apply TrD.block
   refine sZ ?_ fun K hK => by simp [idx_inb I, idx_row I]; exact hK
   apply sq
   apply sq
   rcases bb (!ieq (lenZ c.name.size) 1) with l | l
   ·rw [if_pos l] at a
    refine rZ ?_ fun K hK => by simp [l]; exact hK
    refine cT ?_
    refine sZ ?_
    cases a
    obtain rfl := p _ rfl
    cases h
    apply TrD.ret
    exact xD
   rw [iN l] at a
   obtain ⟨O, f, a⟩ := bindE a
   rcases bb (ilt O 65) with o | o
   ·rw [if_pos o] at a
    refine rZ ?_ fun K hK => by simp [l, ← (sidx_some f).1, (sidx_some f).2, o]; exact hK
    refine cT ?_
    refine sZ ?_
    cases a
    obtain rfl := p _ rfl
    cases h
    apply TrD.ret
    exact xD
   rw [iN o] at a
   rcases bb (ilt 90 O) with q | q
   ·rw [if_pos q] at a
    refine rZ ?_ fun K hK => by simp [l, ← (sidx_some f).1, (sidx_some f).2, o, q]; exact hK
    refine cT ?_
    refine sZ ?_
    cases a
    obtain rfl := p _ rfl
    cases h
    apply TrD.ret
    exact xD
   rw [iN q] at a
   rcases bb (seq2 c.name (ByteArray.mk #[73])) with r | r
   ·rw [if_pos r] at a
    refine rZ ?_ fun K hK => by simp [l, ← (sidx_some f).1, (sidx_some f).2, o, q, r]; exact hK
    refine cT ?_
    refine sZ ?_
    cases a
    obtain rfl := p _ rfl
    cases h
    apply TrD.ret
    exact xD
   rw [iN r] at a
   rcases bb (mget e.2 c.name false) with t | t
   ·rw [if_pos t] at a
    refine rZ ?_ fun K hK => by simp [l, ← (sidx_some f).1, (sidx_some f).2, o, q, r, t]; exact hK
    refine cT ?_
    refine sZ ?_
    cases a
    obtain rfl := p _ rfl
    cases h
    apply TrD.ret
    exact xD
   rw [iN t] at a
   obtain ⟨ae, Z, a⟩ := bindE a
   refine rk fun K hK => ?_
   simp [l, ← (sidx_some f).1, (sidx_some f).2, o, q, r, t]
   refine cp (c_impl_within (lenZ c.ctors.length) 1 4 _ Z) ?_
   simp [r]
   apply hK
   refine TrD.cond (b := (!ae)) (by simp) (fun u => ?_) (fun u => ?_)
   ·rw [if_pos u] at a
    refine sZ ?_ fun K hK => by simp [u]; exact hK
    cases a
    obtain rfl := p _ rfl
    cases h
    apply TrD.ret
    exact xD
   rw [iN u] at a
   apply TrD.skip
   refine sZ ?_ fun K hK => by simp [u]; exact hK
   refine sZ ?_
   obtain ⟨ad, V, a⟩ := bindE a
   obtain ⟨Q, F⟩ : ∃ S : ((List (ByteArray × Bool))) → St, S = fun y => ⟨(updD (updD (updD (updD (updD (updD (fun _ => .any) 0 (.slice 2 (List.map rGData p0))) 3 (.mp 0)) 4 (.mp 1)) 14 (.slice 2 (List.map rGData p0))) 15 (eI (lenZ p0.length))) 16 (eI (m : Int))), hOfO [some ⟨0, List.map rSB y, 0, 0x00fd⟩, some ⟨0, List.map rSB (mset e.2 c.name true), 0, 0x00fd⟩], 2, 79⟩ := ⟨_, rfl⟩
   refine TrD.joinQ Q (fun z => ad = Ctl.brk z) (fun _ _ hg h => TrD.ghost hg h) ?_ (fun y hz => ?_)
   ·apply TrD.block
    obtain ⟨T, C⟩ : ∃ S : Nat → ((List (ByteArray × Bool))) → St, S = fun D i => ⟨(updD (updD (updD (updD (updD (updD (updD (updD (updD (fun _ => .any) 0 (.slice 2 (List.map rGData p0))) 3 (.mp 0)) 4 (.mp 1)) 14 (.slice 2 (List.map rGData p0))) 15 (eI (lenZ p0.length))) 16 (eI (m : Int))) 58 (.slice 3 (List.map rGCtor c.ctors))) 59 (eI (lenZ c.ctors.length))) 60 (eI (D : Int))), hOfO [some ⟨0, List.map rSB i, 0, 0x00fd⟩, some ⟨0, List.map rSB (mset e.2 c.name true), 0, 0x00fd⟩], 2, 79⟩ := ⟨_, rfl⟩
    refine TrD.limS (sz := 3) (rows := List.map rGCtor c.ctors) (seen_slot (d := .slice 3 (List.map rGCtor c.ctors)) 49 (by simp)) (fun hlim => ?_)
    rw [List.length_map] at hlim
    refine TrD.forL T V hlim ?_ (fun D A i J am an ab g ap j H aj => ?_) (fun i ah => ?_)
    ·rw [C]
     exact gC [0, 1]
    ·rw [congrFun (congrFun C D) i]
     refine sZ ?_ fun K hK => by simp [ab]; exact hK
     apply sq
     refine cT ?_
     apply TrD.skip
     apply sq
     apply TrD.block
     refine sZ ?_ fun K hK => by simp [idx_inb J, idx_row J]; exact hK
     apply sq
     apply sq
     obtain ⟨af, G, j⟩ := bindE j
     rcases bb (!af) with v | v
     ·rw [if_pos v] at j
      refine rk fun K hK => ?_
      simp
      refine cp (c_impl_ctorOk n p0 A _ G) ?_
      simp [v]
      apply hK
      refine cT ?_
      refine sZ ?_
      cases j
      obtain rfl := H _ rfl
      cases a
      obtain rfl := p _ rfl
      cases h
      apply TrD.ret
      exact xD
     rw [iN v] at j
     refine rk fun K hK => ?_
     simp
     refine cp (c_impl_ctorOk n p0 A _ G) ?_
     simp [v]
     apply hK
     refine TrD.cond (b := mget i A.name false) (by simp) (fun w => ?_) (fun w => ?_)
     ·rw [if_pos w] at j
      refine sZ ?_ fun K hK => by simp [w]; exact hK
      cases j
      obtain rfl := H _ rfl
      cases a
      obtain rfl := p _ rfl
      cases h
      apply TrD.ret
      exact xD
     rw [iN w] at j
     apply TrD.skip
     refine rZ ?_ fun K hK => by simp [w]; exact hK
     refine rZ ?_
     cases j
     refine ToAny.mk (mset i A.name true) rfl ?_
     rw [C]
     exact gc [0, 1] hβ (((((((((va.f (by simp [g])).m 0 (by simp [g])).m 1 (by simp [g])).f (by simp [g])).f (by simp [g])).f (by simp [g])).f (by simp [g])).f (by simp [g])).f (by simp [g])) ln.f.f
    rw [congrFun (congrFun C _) i]
    refine sZ ?_ fun K hK => by simp [ilt_len c.ctors.length]; exact hK
    apply sq
    refine cF ?_
    refine TrD.exit ?_
    try simp only [↓reduceIte, Nat.reduceEqDiff, Nat.zero_ne_one, Nat.one_ne_zero, OfNat.ofNat_ne_zero, OfNat.zero_ne_ofNat, OfNat.one_ne_ofNat, OfNat.ofNat_ne_one]
    refine ToAny.mk i ah ?_
    rw [F]
    exact gC [0, 1]
   subst hz
   try dsimp only at a
   rw [congrFun F y]
   refine rZ ?_
   cases a
   refine ToAny.mk (y, mset e.2 c.name true) rfl ?_
   rw [B]
   exact gc [0, 1] hβ ((((((va.f (by simp [s])).m 0 (by simp [s])).m 1 (by simp [s])).f (by simp [s])).f (by simp [s])).f (by simp [s])) ln.f.f
  rw [congrFun (congrFun B _) e]
  refine sZ ?_ fun K hK => by simp [ilt_len p0.length]; exact hK
  apply sq
  refine cF ?_
  refine TrD.exit ?_
  try simp only [↓reduceIte, Nat.reduceEqDiff, Nat.zero_ne_one, Nat.one_ne_zero, OfNat.ofNat_ne_zero, OfNat.zero_ne_ofNat, OfNat.one_ne_ofNat, OfNat.ofNat_ne_one]
  refine ToAny.mk e ag ?_
  rw [E]
  exact gC []
 subst hz
 try dsimp only at h
 rw [congrFun E N]
 refine sZ ?_
 cases h
 apply TrD.ret
 exact xD
theorem c_impl_typeOk (p0 : (List GData)) (p1 : GType) (res : Bool) (h : m_impl_typeOk p0 p1 = some res) : CallsD Tryz.prog 0o00161 [(.slice 2 (List.map rGData p0)), (.agg (rGType p1))] (fun d => d = (eB res)) := by
 unfold m_impl_typeOk at h
 refine CD Tryz.func113 [.tmp 4] fun β hβ => ?_
 refine sZ ?_
 apply sq
 rcases bb (eqAll [ieq p1.data (-1), ieq p1.index 0]) with hb8 | hb8
 ·rw [if_pos hb8] at h
  refine rZ ?_ fun K hK => by simp [hb8]; exact hK
  cases h
  apply TrD.ret
  exact xD
 rw [iN hb8] at h
 obtain ⟨r9, hr9, h⟩ := bindE h
 rcases bb r9 with a | a
 ·rw [if_pos a] at h
  obtain ⟨b, g, h⟩ := bindE h
  refine rk fun K hK => ?_
  simp [hb8]
  refine cp (c_impl_within p1.data 0 (wsub .i64 (lenZ p0.length) 1) _ hr9) ?_
  simp [a]
  refine cp (c_impl_within p1.index 0 3 _ g) ?_
  simp [a]
  apply hK
  cases h
  apply TrD.ret
  exact xD
 rw [iN a] at h
 refine rk fun K hK => ?_
 simp [hb8]
 refine cp (c_impl_within p1.data 0 (wsub .i64 (lenZ p0.length) 1) _ hr9) ?_
 simp [a]
 apply hK
 cases h
 apply TrD.ret
 exact xD
theorem c_impl_TypeValid (n : Nat) (p0 : (List GData)) (p1 : GType) (res : Bool) (h : m_impl_TypeValid n p0 p1 = some res) : CallsD Tryz.prog 0o00063 [(.slice 2 (List.map rGData p0)), (.agg (rGType p1))] (fun d => d = (eB res)) := by
 unfold m_impl_TypeValid at h
 refine CD Tryz.func51 [.tmp 4] fun β hβ => ?_
 refine sZ ?_
 apply sq
 obtain ⟨r7, hr7, h⟩ := bindE h
 rcases bb r7 with hb8 | hb8
 ·rw [if_pos hb8] at h
  obtain ⟨r9, hr9, h⟩ := bindE h
  refine rk fun K hK => ?_
  simp
  refine cp (c_impl_WorldValid n p0 _ hr7) ?_
  simp [hb8]
  refine cp (c_impl_typeOk p0 p1 _ hr9) ?_
  simp [hb8]
  apply hK
  cases h
  apply TrD.ret
  exact xD
 rw [iN hb8] at h
 refine rk fun K hK => ?_
 simp
 refine cp (c_impl_WorldValid n p0 _ hr7) ?_
 simp [hb8]
 apply hK
 cases h
 apply TrD.ret
 exact xD
theorem c_slices_IndexFunc_Clause (p0 : (List GClause)) (p1_f : FuncId) (p1_c : List D) (p1_x : ∀ d ∈ p1_c, Free d) (p1 : (GClause → Option Bool)) (p1_h : ∀ a0 r, p1 a0 = some r → CallsD Tryz.prog p1_f ([(.agg (rGClause a0))] ++ p1_c) (fun d => d = (eB r))) (res : Int) (h : m_slices_IndexFunc_Clause p0 p1 = some res) : CallsD Tryz.prog 0o00261 [(.slice 9 (List.map rGClause p0)), .clos p1_f p1_c] (fun d => d = (eI res)) := by
 unfold m_slices_IndexFunc_Clause at h
 have p1_y : Free (.clos p1_f p1_c) := free_clos p1_x
 have p1_z := eq_true p1_x
 refine CD Tryz.func177 [.tmp 4] fun β hβ => ?_
 refine sZ ?_
 apply sq
 refine sZ ?_
 obtain ⟨v, p, h⟩ := bindE h
 obtain ⟨n, j⟩ : ∃ S : Unit → St, S = fun m => ⟨(fun _ => .any), hOfO [], 0, 19⟩ := ⟨_, rfl⟩
 refine TrD.joinQ n (fun z => v = Ctl.brk z) (fun _ _ hg h => TrD.ghost hg h) ?_ (fun m hz => ?_)
 ·apply TrD.block
  obtain ⟨o, i⟩ : ∃ S : Nat → Unit → St, S = fun c g => ⟨(updD (updD (updD (updD (fun _ => .any) 0 (.slice 9 (List.map rGClause p0))) 1 (.clos p1_f p1_c)) 7 (eI (lenZ p0.length))) 8 (eI (c : Int))), hOfO [], 0, 19⟩ := ⟨_, rfl⟩
  refine TrD.limS (sz := 9) (rows := List.map rGClause p0) (seen_slot (d := .slice 9 (List.map rGClause p0)) 0 (by simp)) (fun hlim => ?_)
  rw [List.length_map] at hlim
  refine TrD.forL o p hlim ?_ (fun c A g l C E u f F a t B => ?_) (fun g y => ?_)
  ·rw [i]
   exact gc [] hβ (((va.f.f (by simp) (by simp [p1_y])).f).f) ln
  ·rw [congrFun (congrFun i c) g]
   refine sZ ?_ fun K hK => by simp [u]; exact hK
   apply sq
   refine cT ?_
   apply TrD.skip
   apply sq
   apply TrD.block
   refine sZ ?_
   apply sq
   obtain ⟨w, s, a⟩ := bindE a
   refine rk fun K hK => ?_
   simp [idx_inb l, idx_row l]
   refine cp (p1_h A _ s) ?_ (by simp) (by simp [p1_z])
   simp
   apply hK
   refine TrD.cond (b := w) (by simp) (fun e => ?_) (fun e => ?_)
   ·rw [if_pos e] at a
    refine sZ ?_ fun K hK => by simp [e]; exact hK
    cases a
    obtain rfl := t _ rfl
    cases h
    apply TrD.ret
    exact xD
   rw [iN e] at a
   apply TrD.skip
   refine rZ ?_ fun K hK => by simp [e]; exact hK
   cases a
   refine ToAny.mk () rfl ?_
   rw [i]
   exact gc [] hβ ((((va.f (by simp [f])).f (by simp [f]) (by simp [p1_y])).f (by simp [f])).f (by simp [f])) ln
  rw [congrFun (congrFun i _) g]
  refine sZ ?_ fun K hK => by simp [ilt_len p0.length]; exact hK
  apply sq
  refine cF ?_
  refine TrD.exit ?_
  try simp only [↓reduceIte, Nat.reduceEqDiff, Nat.zero_ne_one, Nat.one_ne_zero, OfNat.ofNat_ne_zero, OfNat.zero_ne_ofNat, OfNat.one_ne_ofNat, OfNat.ofNat_ne_one]
  refine ToAny.mk g y ?_
  rw [j]
  exact gC []
 subst hz
 try dsimp only at h
 rw [congrFun j m]
 refine sZ ?_
 cases h
 apply TrD.ret
 exact xD
theorem c_slices_ContainsFunc_Clause (p0 : (List GClause)) (p1_f : FuncId) (p1_c : List D) (p1_x : ∀ d ∈ p1_c, Free d) (p1 : (GClause → Option Bool)) (p1_h : ∀ a0 r, p1 a0 = some r → CallsD Tryz.prog p1_f ([(.agg (rGClause a0))] ++ p1_c) (fun d => d = (eB r))) (res : Bool) (h : m_slices_ContainsFunc_Clause p0 p1 = some res) : CallsD Tryz.prog 0o00147 [(.slice 9 (List.map rGClause p0)), .clos p1_f p1_c] (fun d => d = (eB res)) := by
 unfold m_slices_ContainsFunc_Clause at h
 have p1_y : Free (.clos p1_f p1_c) := free_clos p1_x
 have p1_z := eq_true p1_x
 refine CD Tryz.func103 [.tmp 4] fun β hβ => ?_
 refine sZ ?_
 apply sq
 obtain ⟨r1, hr1, h⟩ := bindE h
 refine rk fun K hK => ?_
 simp
 refine cp (c_slices_IndexFunc_Clause p0 p1_f p1_c p1_x p1 p1_h _ hr1) ?_ (by simp) (by simp [p1_y])
 simp
 apply hK
 cases h
 apply TrD.ret
 exact xD
theorem c_impl_ClausesValid (n : Nat) (p0 : (List GData)) (p1 : GType) (p2 : (List GClause)) (res : Bool) (h : m_impl_ClausesValid n p0 p1 p2 = some res) : CallsD Tryz.prog 0o00055 [(.slice 2 (List.map rGData p0)), (.agg (rGType p1)), (.slice 9 (List.map rGClause p2))] (fun d => d = (eB res)) := by
 unfold m_impl_ClausesValid at h
 refine CD Tryz.func45 [.tmp 6] fun β hβ => ?_
 refine sZ ?_
 apply sq
 obtain ⟨r9, hr9, h⟩ := bindE h
 rcases bb r9 with a | a
 ·rw [if_pos a] at h
  rcases bb (ile (lenZ p2.length) 8) with b | b
  ·rw [if_pos b] at h
   obtain ⟨c, j, h⟩ := bindE h
   refine rk fun K hK => ?_
   simp
   refine cp (c_impl_TypeValid n p0 p1 _ hr9) ?_
   simp [a, b]
   refine callB (.cons (.same _ _) (.cons (.trans _ _ _ _ _ _ (.clos _ _ _ _ 0 _ _ rfl (.ptr _ _ _ _ _ _ _ (by simp; rfl) rfl rfl (by simp))) (.clos _ _ _ _ 1 _ _ rfl (.ptr _ _ _ _ _ _ _ (by simp; rfl) rfl rfl (by simp)))) (.nil _))) (c_slices_ContainsFunc_Clause p2 _ [.cptr [(.slice 2 (List.map rGData p0))], .cptr (rGType p1)] (by simp) (fun a0 => m_impl_ClausesValid_1 n a0 p0 p1) (fun a0 r hr => c_impl_ClausesValid_1 n a0 p0 p1 r hr) _ j) (by simp) (by simp) (fun m f => ?_)
   subst f
   refine ⟨by simp, ?_⟩
   simp [a]
   apply hK
   cases h
   apply TrD.ret
   exact xD
  rw [iN b] at h
  refine rk fun K hK => ?_
  simp
  refine cp (c_impl_TypeValid n p0 p1 _ hr9) ?_
  simp [a, b]
  apply hK
  cases h
  apply TrD.ret
  exact xD
 rw [iN a] at h
 refine rk fun K hK => ?_
 simp
 refine cp (c_impl_TypeValid n p0 p1 _ hr9) ?_
 simp [a]
 apply hK
 cases h
 apply TrD.ret
 exact xD
end Go.Proofs.YtmkamncbkkahjaaGreat
