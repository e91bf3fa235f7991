import Derived.Test.YtmkamncbkkahjaaGreatJMir
import Derived.Test.YtmkamncbkkahjaaGreatJZap
import Derived.Test.YtmkamncbkkahjaaGreatJC1
set_option linter.unusedSimpArgs false
set_option linter.unusedVariables false
namespace Go.Proofs.YtmkamncbkkahjaaGreat
open Go Go.RowKit
set_option maxRecDepth 100000
set_option maxHeartbeats 20000000
theorem c_impl_matched (n : Nat) (p0 : GPattern) (p1 : GValue) (res : (List GBind) × Bool) (h : m_impl_matched n p0 p1 = some res) : CallsD Tryz.prog 0o00151 [(.agg (rGPattern p0)), (.agg (rGValue p1))] (fun d => d = .tup [(.slice 4 (List.map rGBind res.1)), (eB res.2)]) := by
 unfold m_impl_matched at h
 refine CD Tryz.func105 [.tmp 4, .tmp 5] fun β hβ => ?_
 refine sZ ?_
 apply sq
 obtain ⟨r1, hr1, h⟩ := bindE h
 refine rk fun K hK => ?_
 simp
 refine callK (views_same _ _) (.same _ _) [] (c_impl_match n p0 p1 _ hr1) (by decide) .nil (.cons (ren_le (by simp) (by simp)) (.cons (ren_le (by simp) (by simp)) .nil)) (fun E Q v => ?_)
 obtain ⟨rfl, rfl⟩ := v
 refine ⟨by simp, [some ⟨4, (List.map rGBind r1.1), 0, 0x0057⟩], (.tup [(.sl 4 49 (r1.1).length), (eB r1.2)]), (.cons (optRen_same (by simp)) .nil), (ren_tup (.cons (ren_sl (by rfl)) (.cons (ren_free (by simp)) .nil))), ?_⟩
 simp [setMany, newNames]
 apply hK
 apply sq
 refine sZ ?_
 refine TrD.cond (b := (!r1.2)) (by simp) (fun hb3 => ?_) (fun hb3 => ?_)
 ·rw [if_pos hb3] at h
  refine sZ ?_ fun K hK => by simp [hb3]; exact hK
  cases h
  apply TrD.ret
  refine exitDG (σ' := ⟨(updD (updD (fun _ => .any) 4 (.slice 4 (List.map rGBind []))) 5 (eB false)), hOfO [], 0, 36⟩) ?_ ?_
  ·exact gC []
  dsimp only [resD]
  exact eF
 rw [iN hb3] at h
 apply TrD.skip
 apply sq
 obtain ⟨r4, hr4, h⟩ := bindE h
 obtain ⟨x5, hx5, h⟩ := bindE h
 refine rk fun K hK => ?_
 simp [hb3]
 refine callK (views_same _ _) (.same _ _) [49] (c_slices_SortFunc_Bind n r1.1 _ [] (by simp) (fun a0 a1 => m_impl_matched_1 a0 a1) (fun a0 a1 r hr => c_impl_matched_1 a0 a1 r hr) _ hr4) (by decide) (.cons (locRen_eq (by simp) (by simp) (by simp)) .nil) (.cons (ren_sl rfl) (.cons (ren_le (by simp) (by simp)) .nil)) (fun D P u => ?_)
 obtain ⟨rfl, rfl⟩ := u
 refine ⟨by simp, [some ⟨4, (List.map rGBind r4), 0, 0x0057⟩], (.tup []), (.cons (optRen_same (by simp)) .nil), (ren_free (by simp)), ?_⟩
 simp [setMany, newNames]
 apply hK
 apply sq
 refine sZ ?_
 obtain ⟨A, s, h⟩ := bindE h
 obtain ⟨p, o⟩ : ∃ S : (List GBind) → St, S = fun g => ⟨(updD (fun _ => .any) 6 (.sl 4 0 (g).length)), hOfO [some ⟨4, (List.map rGBind g), 0, 0x0057⟩], 1, 36⟩ := ⟨_, rfl⟩
 refine TrD.joinQ p (fun z => A = Ctl.brk z) (fun _ _ hg h => TrD.ghost hg h) ?_ (fun g hz => ?_)
 ·apply TrD.block
  obtain ⟨q, j⟩ : ∃ S : Nat → (List GBind) → St, S = fun c a => ⟨(updD (updD (updD (updD (fun _ => .any) 6 (.sl 4 0 (a).length)) 20 (.sl 4 0 (a).length)) 21 (eI (lenZ r4.length))) 22 (eI (c : Int))), hOfO [some ⟨4, (List.map rGBind a), 0, 0x0057⟩], 1, 36⟩ := ⟨_, rfl⟩
  refine TrD.limL (L := ⟨4, (List.map rGBind r4), 0, 0x0057⟩) 49 (by simp) (by simp) (fun hlim => ?_)
  simp at hlim
  refine TrD.forL q s hlim ?_ (fun c T a I H J y i N e G F => ?_) (fun a B => ?_)
  ·rw [j]
   exact gc [49] hβ ((((va.s 49 (by simp [chk_len hx5])).s 49 (by simp [chk_len hx5])).f (by simp [chk_len hx5])).f) ln.f
  ·rw [congrFun (congrFun j c) a]
   refine sZ ?_ fun K hK => by simp [y]; exact hK
   apply sq
   refine cT ?_
   apply TrD.skip
   apply sq
   apply TrD.block
   apply sq
   obtain ⟨C, f, e⟩ := bindE e
   refine rZ ?_ fun K hK => by simp [idx_inb f, idx_ltN c f, elt (idx_getN c f)]; exact hK
   obtain ⟨R, w, e⟩ := bindE e
   obtain ⟨m, l, e⟩ := bindE e
   refine rk fun K hK => ?_
   simp
   refine cp (c_impl_ownValue n C.value _ w) ?_
   simp [idx_inb f, idx_ltN c f, elt (idx_getN c f)]
   apply hK
   refine rZ ?_
   cases e
   refine ToAny.mk m rfl ?_
   rw [j]
   exact gc [0] hβ ((((va.s 0 (by simp [(setI_some l).1, i])).s 0 (by simp [(setI_some l).1, i])).f (by simp [i])).f (by simp [i])) (ln.f (by simp [(setI_some l).1]))
  rw [congrFun (congrFun j _) a]
  refine sZ ?_ fun K hK => by simp [ilt_len r4.length]; exact hK
  apply sq
  refine cF ?_
  refine TrD.exit ?_
  try simp only [↓reduceIte, Nat.reduceEqDiff, Nat.zero_ne_one, Nat.one_ne_zero, OfNat.ofNat_ne_zero, OfNat.zero_ne_ofNat, OfNat.one_ne_ofNat, OfNat.ofNat_ne_one]
  refine ToAny.mk a B ?_
  rw [o]
  exact gC [0]
 subst hz
 try dsimp only at h
 rw [congrFun o g]
 refine sZ ?_
 cases h
 apply TrD.ret
 refine exitDG (σ' := ⟨(updD (updD (fun _ => .any) 4 (.slice 4 (List.map rGBind g))) 5 (eB true)), hOfO [], 0, 36⟩) ?_ ?_
 ·refine (Ghost.raise 0 (by simp; rfl)).trans ?_
  exact gC [] (ht := ((va.u (d0 := (.sl 4 0 (g).length)) (by simp) (v_frz (by simp; rfl) rfl (by simp) (by simp) (rv_free (by simp) (by simp)))).f))
 dsimp only [resD]
 exact eF
theorem c_slices_IndexFunc_Bind (p0 : (List GBind)) (p1_f : FuncId) (p1_c : List D) (p1_x : ∀ d ∈ p1_c, Free d) (p1 : (GBind → Option Bool)) (p1_h : ∀ a0 r, p1 a0 = some r → CallsD Tryz.prog p1_f ([(.agg (rGBind a0))] ++ p1_c) (fun d => d = (eB r))) (res : Int) (h : m_slices_IndexFunc_Bind p0 p1 = some res) : CallsD Tryz.prog 0o00251 [(.slice 4 (List.map rGBind p0)), .clos p1_f p1_c] (fun d => d = (eI res)) := by
 unfold m_slices_IndexFunc_Bind at h
 have p1_y : Free (.clos p1_f p1_c) := free_clos p1_x
 have p1_z := eq_true p1_x
 refine CD Tryz.func169 [.tmp 4] fun β hβ => ?_
 refine sZ ?_
 apply sq
 refine sZ ?_
 obtain ⟨v, p, h⟩ := bindE h
 obtain ⟨n, j⟩ : ∃ S : Unit → St, S = fun m => ⟨(fun _ => .any), hOfO [], 0, 19⟩ := ⟨_, rfl⟩
 refine TrD.joinQ n (fun z => v = Ctl.brk z) (fun _ _ hg h => TrD.ghost hg h) ?_ (fun m hz => ?_)
 ·apply TrD.block
  obtain ⟨o, i⟩ : ∃ S : Nat → Unit → St, S = fun c g => ⟨(updD (updD (updD (updD (fun _ => .any) 0 (.slice 4 (List.map rGBind p0))) 1 (.clos p1_f p1_c)) 7 (eI (lenZ p0.length))) 8 (eI (c : Int))), hOfO [], 0, 19⟩ := ⟨_, rfl⟩
  refine TrD.limS (sz := 4) (rows := List.map rGBind p0) (seen_slot (d := .slice 4 (List.map rGBind p0)) 0 (by simp)) (fun hlim => ?_)
  rw [List.length_map] at hlim
  refine TrD.forL o p hlim ?_ (fun c A g l C E u f F a t B => ?_) (fun g y => ?_)
  ·rw [i]
   exact gc [] hβ (((va.f.f (by simp) (by simp [p1_y])).f).f) ln
  ·rw [congrFun (congrFun i c) g]
   refine sZ ?_ fun K hK => by simp [u]; exact hK
   apply sq
   refine cT ?_
   apply TrD.skip
   apply sq
   apply TrD.block
   refine sZ ?_
   apply sq
   obtain ⟨w, s, a⟩ := bindE a
   refine rk fun K hK => ?_
   simp [idx_inb l, idx_row l]
   refine cp (p1_h A _ s) ?_ (by simp) (by simp [p1_z])
   simp
   apply hK
   refine TrD.cond (b := w) (by simp) (fun e => ?_) (fun e => ?_)
   ·rw [if_pos e] at a
    refine sZ ?_ fun K hK => by simp [e]; exact hK
    cases a
    obtain rfl := t _ rfl
    cases h
    apply TrD.ret
    exact xD
   rw [iN e] at a
   apply TrD.skip
   refine rZ ?_ fun K hK => by simp [e]; exact hK
   cases a
   refine ToAny.mk () rfl ?_
   rw [i]
   exact gc [] hβ ((((va.f (by simp [f])).f (by simp [f]) (by simp [p1_y])).f (by simp [f])).f (by simp [f])) ln
  rw [congrFun (congrFun i _) g]
  refine sZ ?_ fun K hK => by simp [ilt_len p0.length]; exact hK
  apply sq
  refine cF ?_
  refine TrD.exit ?_
  try simp only [↓reduceIte, Nat.reduceEqDiff, Nat.zero_ne_one, Nat.one_ne_zero, OfNat.ofNat_ne_zero, OfNat.zero_ne_ofNat, OfNat.one_ne_ofNat, OfNat.ofNat_ne_one]
  refine ToAny.mk g y ?_
  rw [j]
  exact gC []
 subst hz
 try dsimp only at h
 rw [congrFun j m]
 refine sZ ?_
 cases h
 apply TrD.ret
 exact xD
theorem c_impl_GuardHolds_1 (p0 : GBind) (q0 : GGuard) (res : Bool) (h : m_impl_GuardHolds_1 p0 q0 = some res) : CallsD Tryz.prog 0o00252 [(.agg (rGBind p0)), .cptr (rGGuard q0)] (fun d => d = (eB res)) := by
 unfold m_impl_GuardHolds_1 at h
 refine CD Tryz.func170 [.tmp 3] fun β hβ => ?_
 refine sZ ?_
 refine sZ ?_
 cases h
 apply TrD.ret
 exact xD
theorem c_impl_GuardHolds (p0 : GGuard) (p1 : (List GBind)) (res : Bool) (h : m_impl_GuardHolds p0 p1 = some res) : CallsD Tryz.prog 0o00135 [(.agg (rGGuard p0)), (.slice 4 (List.map rGBind p1))] (fun d => d = (eB res)) := by
 unfold m_impl_GuardHolds at h
 refine CD Tryz.func93 [.tmp 4] fun β hβ => ?_
 refine sZ ?_
 apply sq
 refine sZ ?_
 refine TrD.cond (b := ieq p0.op 0) (by simp) (fun hb2 => ?_) (fun hb2 => ?_)
 ·rw [if_pos hb2] at h
  refine sZ ?_ fun K hK => by simp [hb2]; exact hK
  cases h
  apply TrD.ret
  exact xD
 rw [iN hb2] at h
 apply TrD.skip
 apply sq
 obtain ⟨r3, hr3, h⟩ := bindE h
 refine rk fun K hK => ?_
 simp [hb2]
 refine callB (.cons (.same _ _) (.cons (.clos _ _ _ _ 0 _ _ rfl (.ptr _ _ _ _ _ _ _ (by simp; rfl) rfl rfl (by simp))) (.nil _))) (c_slices_IndexFunc_Bind p1 _ [.cptr (rGGuard p0)] (by simp) (fun a0 => m_impl_GuardHolds_1 a0 p0) (fun a0 r hr => c_impl_GuardHolds_1 a0 p0 r hr) _ hr3) (by simp) (by simp) (fun o m => ?_)
 subst m
 refine ⟨by simp, ?_⟩
 simp
 apply hK
 apply sq
 apply sq
 rcases bb (ilt r3 0) with f | f
 ·rw [if_pos f] at h
  refine rZ ?_ fun K hK => by simp [f]; exact hK
  refine cT ?_
  refine sZ ?_
  cases h
  apply TrD.ret
  exact xD
 rw [iN f] at h
 obtain ⟨e, l, h⟩ := bindE h
 refine rZ ?_ fun K hK => by simp [f, idx_inb l, idx_row l]; exact hK
 refine TrD.cond (b := !ieq e.value.ctor (-1)) (by simp) (fun g => ?_) (fun g => ?_)
 ·rw [if_pos g] at h
  refine sZ ?_ fun K hK => by simp [g]; exact hK
  cases h
  apply TrD.ret
  exact xD
 rw [iN g] at h
 apply TrD.skip
 refine sZ ?_ fun K hK => by simp [idx_inb l, idx_row l, g]; exact hK
 apply sq
 rcases bb (ieq p0.op 1) with a | a
 ·rw [if_pos a] at h
  rcases bb (ilt e.value.n p0.n) with c | c
  ·rw [if_pos c] at h
   refine rZ ?_ fun K hK => by simp [a, c]; exact hK
   cases h
   apply TrD.ret
   exact xD
  rw [iN c] at h
  rcases bb (ieq p0.op 2) with i | i
  ·rw [if_pos i] at h
   refine rZ ?_ fun K hK => by simp [a, c, i]; exact hK
   cases h
   apply TrD.ret
   exact xD
  rw [iN i] at h
  refine rZ ?_ fun K hK => by simp [a, c, i]; exact hK
  cases h
  apply TrD.ret
  exact xD
 rw [iN a] at h
 rcases bb (ieq p0.op 2) with j | j
 ·rw [if_pos j] at h
  refine rZ ?_ fun K hK => by simp [a, j]; exact hK
  cases h
  apply TrD.ret
  exact xD
 rw [iN j] at h
 refine rZ ?_ fun K hK => by simp [a, j]; exact hK
 cases h
 apply TrD.ret
 exact xD
theorem c_impl_run (n : Nat) (p0 : (List GClause)) (p1 : GValue) (res : Int × (List GBind)) (h : m_impl_run n p0 p1 = some res) : CallsD Tryz.prog 0o00056 [(.slice 9 (List.map rGClause p0)), (.agg (rGValue p1))] (fun d => d = .tup [(eI res.1), (.slice 4 (List.map rGBind res.2))]) := by
 unfold m_impl_run at h
 refine CD Tryz.func46 [.tmp 4, .tmp 5] fun β hβ => ?_
 refine sZ ?_
 apply sq
 refine sZ ?_
 obtain ⟨G, y, h⟩ := bindE h
 obtain ⟨u, p⟩ : ∃ S : Unit → St, S = fun r => ⟨(fun _ => .any), hOfO [], 0, 34⟩ := ⟨_, rfl⟩
 refine TrD.joinQ u (fun z => G = Ctl.brk z) (fun _ _ hg h => TrD.ghost hg h) ?_ (fun r hz => ?_)
 ·apply TrD.block
  obtain ⟨v, l⟩ : ∃ S : Nat → Unit → St, S = fun c j => ⟨(updD (updD (updD (updD (fun _ => .any) 3 (.ptr 3 0 0 0)) 10 (.slice 9 (List.map rGClause p0))) 11 (eI (lenZ p0.length))) 12 (eI (c : Int))), hOfO [some ⟨3, [(rGValue p1)], 0, 0x001d⟩], 1, 34⟩ := ⟨_, rfl⟩
  refine TrD.limS (sz := 9) (rows := List.map rGClause p0) (seen_slot (d := .slice 9 (List.map rGClause p0)) 0 (by simp)) (fun hlim => ?_)
  rw [List.length_map] at hlim
  refine TrD.forL v y hlim ?_ (fun c t j q O P F i Q f E N => ?_) (fun j J => ?_)
  ·rw [l]
   exact gC [0]
  ·rw [congrFun (congrFun l c) j]
   refine sZ ?_ fun K hK => by simp [F]; exact hK
   apply sq
   refine cT ?_
   apply TrD.skip
   obtain ⟨H, a, f⟩ := bindE f
   obtain ⟨w, o⟩ : ∃ S : Unit → St, S = fun s => ⟨(updD (updD (updD (updD (fun _ => .any) 3 (.ptr 3 0 0 0)) 10 (.slice 9 (List.map rGClause p0))) 11 (eI (lenZ p0.length))) 12 (eI (c : Int))), hOfO [some ⟨3, [(rGValue p1)], 0, 0x001d⟩], 1, 34⟩ := ⟨_, rfl⟩
   refine TrD.join w (fun z => H = Ctl.brk z) ?_ (fun s hz => ?_)
   ·apply TrD.block
    refine sZ ?_ fun K hK => by simp [idx_inb q, idx_row q]; exact hK
    apply sq
    obtain ⟨m, C, a⟩ := bindE a
    refine rk fun K hK => ?_
    simp
    refine cp (c_impl_matched n t.pat p1 _ C) ?_
    simp
    apply hK
    apply sq
    rcases bb m.2 with g | g
    ·rw [if_pos g] at a
     obtain ⟨I, D, a⟩ := bindE a
     refine rk fun K hK => ?_
     simp [g]
     refine cp (c_impl_GuardHolds t.guard m.1 _ D) ?_
     simp
     apply hK
     refine TrD.cond (b := I) (by simp) (fun e => ?_) (fun e => ?_)
     ·rw [if_pos e] at a
      refine sZ ?_ fun K hK => by simp [e]; exact hK
      cases a
      cases f
      obtain rfl := E _ rfl
      cases h
      apply TrD.ret
      exact xD
     rw [iN e] at a
     apply TrD.skip
     cases a
     refine ToAny.mk () rfl ?_
     rw [o]
     exact gC [0]
    rw [iN g] at a
    refine rZ ?_ fun K hK => by simp [g]; exact hK
    refine cF ?_
    apply TrD.skip
    cases a
    refine ToAny.mk () rfl ?_
    rw [o]
    exact gC [0]
   subst hz
   try dsimp only at f
   rw [congrFun o s]
   refine rZ ?_
   cases f
   refine ToAny.mk () rfl ?_
   rw [l]
   exact gc [0] hβ ((((va.p 0 (by simp [i])).f (by simp [i])).f (by simp [i])).f (by simp [i])) ln.f
  rw [congrFun (congrFun l _) j]
  refine sZ ?_ fun K hK => by simp [ilt_len p0.length]; exact hK
  apply sq
  refine cF ?_
  refine TrD.exit ?_
  try simp only [↓reduceIte, Nat.reduceEqDiff, Nat.zero_ne_one, Nat.one_ne_zero, OfNat.ofNat_ne_zero, OfNat.zero_ne_ofNat, OfNat.one_ne_ofNat, OfNat.ofNat_ne_one]
  refine ToAny.mk j J ?_
  rw [p]
  exact gC []
 subst hz
 try dsimp only at h
 rw [congrFun p r]
 refine sZ ?_
 cases h
 apply TrD.ret
 refine exitDG (σ' := ⟨(updD (updD (fun _ => .any) 4 (eI (-1))) 5 (.slice 4 (List.map rGBind []))), hOfO [], 0, 34⟩) ?_ ?_
 ·exact gC []
 dsimp only [resD]
 exact eF
theorem c_impl_only (p0 : GPattern) (p1 : Bool) (p2 : Bool) (p3 : Bool) (p4 : Int) (res : Bool) (h : m_impl_only p0 p1 p2 p3 p4 = some res) : CallsD Tryz.prog 0o00445 [(.agg (rGPattern p0)), (eB p1), (eB p2), (eB p3), (eI p4)] (fun d => d = (eB res)) := by
 unfold m_impl_only at h
 refine CD Tryz.func293 [.tmp 10] fun β hβ => ?_
 refine sZ ?_
 apply sq
 rcases bb p1 with a | a
 ·rw [if_pos a] at h
  rcases bb p2 with c | c
  ·rw [if_pos c] at h
   rcases bb p3 with l | l
   ·rw [if_pos l] at h
    refine rZ ?_ fun K hK => by simp [a, c, l]; exact hK
    cases h
    apply TrD.ret
    exact xD
   rw [iN l] at h
   rcases bb (ieq p0.var 0) with r | r
   ·rw [if_pos r] at h
    refine rZ ?_ fun K hK => by simp [a, c, l, r]; exact hK
    cases h
    apply TrD.ret
    exact xD
   rw [iN r] at h
   refine rZ ?_ fun K hK => by simp [a, c, l, r]; exact hK
   cases h
   apply TrD.ret
   exact xD
  rw [iN c] at h
  rcases bb (ieq p0.n 0) with f | f
  ·rw [if_pos f] at h
   rcases bb (ieq p0.m 0) with i | i
   ·rw [if_pos i] at h
    rcases bb p3 with o | o
    ·rw [if_pos o] at h
     refine rZ ?_ fun K hK => by simp [a, c, f, i, o]; exact hK
     cases h
     apply TrD.ret
     exact xD
    rw [iN o] at h
    rcases bb (ieq p0.var 0) with s | s
    ·rw [if_pos s] at h
     refine rZ ?_ fun K hK => by simp [a, c, f, i, o, s]; exact hK
     cases h
     apply TrD.ret
     exact xD
    rw [iN s] at h
    refine rZ ?_ fun K hK => by simp [a, c, f, i, o, s]; exact hK
    cases h
    apply TrD.ret
    exact xD
   rw [iN i] at h
   refine rZ ?_ fun K hK => by simp [a, c, f, i]; exact hK
   cases h
   apply TrD.ret
   exact xD
  rw [iN f] at h
  refine rZ ?_ fun K hK => by simp [a, c, f]; exact hK
  cases h
  apply TrD.ret
  exact xD
 rw [iN a] at h
 rcases bb (ieq p0.ctor 0) with b | b
 ·rw [if_pos b] at h
  rcases bb p2 with e | e
  ·rw [if_pos e] at h
   rcases bb p3 with p | p
   ·rw [if_pos p] at h
    refine rZ ?_ fun K hK => by simp [a, b, e, p]; exact hK
    cases h
    apply TrD.ret
    exact xD
   rw [iN p] at h
   rcases bb (ieq p0.var 0) with t | t
   ·rw [if_pos t] at h
    refine rZ ?_ fun K hK => by simp [a, b, e, p, t]; exact hK
    cases h
    apply TrD.ret
    exact xD
   rw [iN t] at h
   refine rZ ?_ fun K hK => by simp [a, b, e, p, t]; exact hK
   cases h
   apply TrD.ret
   exact xD
  rw [iN e] at h
  rcases bb (ieq p0.n 0) with g | g
  ·rw [if_pos g] at h
   rcases bb (ieq p0.m 0) with j | j
   ·rw [if_pos j] at h
    rcases bb p3 with q | q
    ·rw [if_pos q] at h
     refine rZ ?_ fun K hK => by simp [a, b, e, g, j, q]; exact hK
     cases h
     apply TrD.ret
     exact xD
    rw [iN q] at h
    rcases bb (ieq p0.var 0) with u | u
    ·rw [if_pos u] at h
     refine rZ ?_ fun K hK => by simp [a, b, e, g, j, q, u]; exact hK
     cases h
     apply TrD.ret
     exact xD
    rw [iN u] at h
    refine rZ ?_ fun K hK => by simp [a, b, e, g, j, q, u]; exact hK
    cases h
    apply TrD.ret
    exact xD
   rw [iN j] at h
   refine rZ ?_ fun K hK => by simp [a, b, e, g, j]; exact hK
   cases h
   apply TrD.ret
   exact xD
  rw [iN g] at h
  refine rZ ?_ fun K hK => by simp [a, b, e, g]; exact hK
  cases h
  apply TrD.ret
  exact xD
 rw [iN b] at h
 refine rZ ?_ fun K hK => by simp [a, b]; exact hK
 cases h
 apply TrD.ret
 exact xD
theorem c_impl_isVar (p0 : Int) (res : Bool) (h : m_impl_isVar p0 = some res) : CallsD Tryz.prog 0o00446 [(eI p0)] (fun d => d = (eB res)) := by
 unfold m_impl_isVar at h
 refine CD Tryz.func294 [.tmp 2] fun β hβ => ?_
 refine sZ ?_
 apply sq
 obtain ⟨r1, hr1, h⟩ := bindE h
 refine rk fun K hK => ?_
 simp
 refine cp (c_impl_within p0 0 5 _ hr1) ?_
 simp
 apply hK
 cases h
 apply TrD.ret
 exact xD
theorem c_slices_Index_int (p0 : (List Int)) (p1 : Int) (res : Int) (h : m_slices_Index_int p0 p1 = some res) : CallsD Tryz.prog 0o00360 [(.slice 1 (List.map rI p0)), (eI p1)] (fun d => d = (eI res)) := by
 unfold m_slices_Index_int at h
 refine CD Tryz.func240 [.tmp 4] fun β hβ => ?_
 refine sZ ?_
 apply sq
 refine sZ ?_
 obtain ⟨s, p, h⟩ := bindE h
 obtain ⟨n, j⟩ : ∃ S : Unit → St, S = fun m => ⟨(fun _ => .any), hOfO [], 0, 19⟩ := ⟨_, rfl⟩
 refine TrD.joinQ n (fun z => s = Ctl.brk z) (fun _ _ hg h => TrD.ghost hg h) ?_ (fun m hz => ?_)
 ·apply TrD.block
  obtain ⟨o, i⟩ : ∃ S : Nat → Unit → St, S = fun a f => ⟨(updD (updD (updD (updD (fun _ => .any) 0 (.slice 1 (List.map rI p0))) 1 (eI p1)) 7 (eI (lenZ p0.length))) 8 (eI (a : Int))), hOfO [], 0, 19⟩ := ⟨_, rfl⟩
  refine TrD.limS (sz := 1) (rows := List.map rI p0) (seen_slot (d := .slice 1 (List.map rI p0)) 0 (by simp)) (fun hlim => ?_)
  rw [List.length_map] at hlim
  refine TrD.forL o p hlim ?_ (fun a u f l w y r e A g q v => ?_) (fun f t => ?_)
  ·rw [i]
   exact gC []
  ·rw [congrFun (congrFun i a) f]
   refine sZ ?_ fun K hK => by simp [r]; exact hK
   apply sq
   refine cT ?_
   apply TrD.skip
   apply sq
   apply TrD.block
   refine sZ ?_
   refine sZ ?_ fun K hK => by simp [idx_inb l, idx_row l]; exact hK
   refine TrD.cond (b := ieq p1 u) (by simp) (fun c => ?_) (fun c => ?_)
   ·rw [if_pos c] at g
    refine sZ ?_ fun K hK => by simp [c]; exact hK
    cases g
    obtain rfl := q _ rfl
    cases h
    apply TrD.ret
    exact xD
   rw [iN c] at g
   apply TrD.skip
   refine rZ ?_ fun K hK => by simp [c]; exact hK
   cases g
   refine ToAny.mk () rfl ?_
   rw [i]
   exact gc [] hβ ((((va.f (by simp [e])).f (by simp [e])).f (by simp [e])).f (by simp [e])) ln
  rw [congrFun (congrFun i _) f]
  refine sZ ?_ fun K hK => by simp [ilt_len p0.length]; exact hK
  apply sq
  refine cF ?_
  refine TrD.exit ?_
  try simp only [↓reduceIte, Nat.reduceEqDiff, Nat.zero_ne_one, Nat.one_ne_zero, OfNat.ofNat_ne_zero, OfNat.zero_ne_ofNat, OfNat.one_ne_ofNat, OfNat.ofNat_ne_one]
  refine ToAny.mk f t ?_
  rw [j]
  exact gC []
 subst hz
 try dsimp only at h
 rw [congrFun j m]
 refine sZ ?_
 cases h
 apply TrD.ret
 exact xD
theorem c_slices_Contains_int (p0 : (List Int)) (p1 : Int) (res : Bool) (h : m_slices_Contains_int p0 p1 = some res) : CallsD Tryz.prog 0o00250 [(.slice 1 (List.map rI p0)), (eI p1)] (fun d => d = (eB res)) := by
 unfold m_slices_Contains_int at h
 refine CD Tryz.func168 [.tmp 4] fun β hβ => ?_
 refine sZ ?_
 apply sq
 obtain ⟨r1, hr1, h⟩ := bindE h
 refine rk fun K hK => ?_
 simp
 refine cp (c_slices_Index_int p0 p1 _ hr1) ?_
 simp
 apply hK
 cases h
 apply TrD.ret
 exact xD
theorem c_impl_ctorsOf (p0 : (List GData)) (p1 : GType) (res : (List Int)) (h : m_impl_ctorsOf p0 p1 = some res) : CallsD Tryz.prog 0o00162 [(.slice 2 (List.map rGData p0)), (.agg (rGType p1))] (fun d => d = (.slice 1 (List.map rI res))) := by
 unfold m_impl_ctorsOf at h
 refine CD Tryz.func114 [.tmp 4] fun β hβ => ?_
 refine sZ ?_
 refine sZ ?_
 obtain ⟨V, f, h⟩ := bindE h
 obtain ⟨P, A⟩ : ∃ S : (List Int) → St, S = fun p => ⟨(updD (fun _ => .any) 5 (.sl 1 0 (p).length)), hOfO [some ⟨1, (List.map rI p), 0, 0x0003⟩], 1, 44⟩ := ⟨_, rfl⟩
 refine TrD.join P (fun z => V = Ctl.brk z) ?_ (fun p hz => ?_)
 ·refine sZ ?_
  refine TrD.cond (b := !ieq p1.data (-1)) (by simp) (fun m => ?_) (fun m => ?_)
  ·rw [if_pos m] at f
   apply sq
   obtain ⟨a, F, f⟩ := bindE f
   refine rZ ?_ fun K hK => by simp [m, idx_inb F, idx_row F]; exact hK
   obtain ⟨W, T, f⟩ := bindE f
   obtain ⟨O, E⟩ : ∃ S : (List Int) → St, S = fun j => ⟨(updD (fun _ => .any) 5 (.sl 1 0 (j).length)), hOfO [some ⟨1, (List.map rI j), 0, 0x0003⟩], 1, 44⟩ := ⟨_, rfl⟩
   refine TrD.joinQ O (fun z => W = Ctl.brk z) (fun _ _ hg h => ToAny.ghost hg h) ?_ (fun j hz => ?_)
   ·apply TrD.block
    obtain ⟨Q, u⟩ : ∃ S : Nat → (List Int) → St, S = fun i e => ⟨(updD (updD (updD (updD (updD (fun _ => .any) 3 (.ptr 2 0 0 0)) 5 (.sl 1 1 (e).length)) 16 (.slice 3 (List.map rGCtor a.ctors))) 17 (eI (lenZ a.ctors.length))) 18 (eI (i : Int))), hOfO [some ⟨2, [(rGType p1)], 0, 0x0019⟩, some ⟨1, (List.map rI e), 0, 0x0003⟩], 2, 44⟩ := ⟨_, rfl⟩
    refine TrD.limS (sz := 3) (rows := List.map rGCtor a.ctors) (seen_slot (d := .slice 3 (List.map rGCtor a.ctors)) 16 (by simp)) (fun hlim => ?_)
    rw [List.length_map] at hlim
    refine TrD.forL Q T hlim ?_ (fun i N e J ab ac U o ad t aa Z => ?_) (fun e Y => ?_)
    ·rw [u]
     refine (Ghost.ownNil (s := 5) (by simp) 1 0x0003).trans ?_
     exact gC [0, 112]
    ·rw [congrFun (congrFun u i) e]
     refine sZ ?_ fun K hK => by simp [U]; exact hK
     apply sq
     refine cT ?_
     apply TrD.skip
     obtain ⟨X, c, t⟩ := bindE t
     obtain ⟨R, q⟩ : ∃ S : (List Int) → St, S = fun l => ⟨(updD (updD (updD (updD (updD (fun _ => .any) 3 (.ptr 2 0 0 0)) 5 (.sl 1 1 (l).length)) 16 (.slice 3 (List.map rGCtor a.ctors))) 17 (eI (lenZ a.ctors.length))) 18 (eI (i : Int))), hOfO [some ⟨2, [(rGType p1)], 0, 0x0019⟩, some ⟨1, (List.map rI l), 0, 0x0003⟩], 2, 44⟩ := ⟨_, rfl⟩
     refine TrD.join R (fun z => X = Ctl.brk z) ?_ (fun l hz => ?_)
     ·apply TrD.block
      refine sZ ?_ fun K hK => by simp [idx_inb J, idx_row J]; exact hK
      apply sq
      rcases bb (ieq p1.index 0) with n | n
      ·rw [if_pos n] at c
       refine rZ ?_ fun K hK => by simp [n]; exact hK
       refine cT ?_
       obtain ⟨B, v, c⟩ := bindE c
       have G := (app_some v).2
       try simp only [List.length_cons, List.length_nil, Nat.zero_add] at G
       refine rZ ?_ fun K hK => by simp [G]; exact hK
       cases c
       refine ToAny.mk B rfl ?_
       rw [q]
       exact gc [0, 138] hβ (((((va.p 0).s 138 (by simp [(app_some v).1])).f).f).f) ((ln.f (by simp [(app_some v).1])).f)
      rw [iN n] at c
      rcases bb (ieq N.index 0) with r | r
      ·rw [if_pos r] at c
       refine rZ ?_ fun K hK => by simp [n, r]; exact hK
       refine cT ?_
       obtain ⟨C, w, c⟩ := bindE c
       have H := (app_some w).2
       try simp only [List.length_cons, List.length_nil, Nat.zero_add] at H
       refine rZ ?_ fun K hK => by simp [H]; exact hK
       cases c
       refine ToAny.mk C rfl ?_
       rw [q]
       exact gc [0, 162] hβ (((((va.p 0).s 162 (by simp [(app_some w).1])).f).f).f) ((ln.f (by simp [(app_some w).1])).f)
      rw [iN r] at c
      refine rZ ?_ fun K hK => by simp [n, r]; exact hK
      refine TrD.cond (b := ieq N.index p1.index) (by simp) (fun g => ?_) (fun g => ?_)
      ·rw [if_pos g] at c
       obtain ⟨D, y, c⟩ := bindE c
       have I := (app_some y).2
       try simp only [List.length_cons, List.length_nil, Nat.zero_add] at I
       refine rZ ?_ fun K hK => by simp [g, I]; exact hK
       cases c
       refine ToAny.mk D rfl ?_
       rw [q]
       exact gc [0, 202] hβ (((((va.p 0).s 202 (by simp [(app_some y).1])).f).f).f) ((ln.f (by simp [(app_some y).1])).f)
      rw [iN g] at c
      apply TrD.skip
      cases c
      refine ToAny.mk e rfl ?_
      rw [q]
      exact gC [0, 1]
     subst hz
     try dsimp only at t
     rw [congrFun q l]
     refine rZ ?_
     cases t
     refine ToAny.mk l rfl ?_
     rw [u]
     exact gc [0, 1] hβ (((((va.p 0 (by simp [o])).s 1 (by simp [o])).f (by simp [o])).f (by simp [o])).f (by simp [o])) ln.f.f
    rw [congrFun (congrFun u _) e]
    refine sZ ?_ fun K hK => by simp [ilt_len a.ctors.length]; exact hK
    apply sq
    refine cF ?_
    refine TrD.exit ?_
    try simp only [↓reduceIte, Nat.reduceEqDiff, Nat.zero_ne_one, Nat.one_ne_zero, OfNat.ofNat_ne_zero, OfNat.zero_ne_ofNat, OfNat.one_ne_ofNat, OfNat.ofNat_ne_one]
    refine ToAny.mk e Y ?_
    rw [E]
    exact gC [1]
   subst hz
   try dsimp only at f
   rw [congrFun E j]
   cases f
   refine ToAny.mk j rfl ?_
   rw [A]
   exact gC [0]
  rw [iN m] at f
  apply TrD.skip
  cases f
  refine ToAny.mk [] rfl ?_
  rw [A]
  refine (Ghost.ownNil (s := 5) (by simp [m]) 1 0x0003).trans ?_
  exact gC [48]
 subst hz
 try dsimp only at h
 rw [congrFun A p]
 refine sk fun K hK => ?_
 simp
 apply hK
 obtain rfl := Option.some.inj h
 refine TrD.ret ?_
 refine exitDG (σ' := ⟨(updD (fun _ => .any) 4 (.slice 1 (List.map rI p))), hOfO [], 0, 44⟩) ?_ ?_
 ·refine (Ghost.raise 0 (by simp; rfl)).trans ?_
  exact Ghost.canonV 0 [] _ _ hβ (keep_first (by decide)) (by decide) (vT_upd (v_of (d0 := (.sl 1 0 (p).length)) (by simp) (v_frz (by simp; rfl) rfl (by simp) (by simp) (rv_free (by simp) (by simp)))) (vT_any _)) .nil
 dsimp only [resD]
 refine endF ?_ ?_ <;> simp [packD]
theorem c_impl_argTypes (p0 : (List GData)) (p1 : GType) (p2 : Int) (res : (List GType)) (h : m_impl_argTypes p0 p1 p2 = some res) : CallsD Tryz.prog 0o00163 [(.slice 2 (List.map rGData p0)), (.agg (rGType p1)), (eI p2)] (fun d => d = (.slice 2 (List.map rGType res))) := by
 unfold m_impl_argTypes at h
 refine CD Tryz.func115 [.tmp 6] fun β hβ => ?_
 refine sZ ?_
 apply sq
 obtain ⟨x1, hx1, h⟩ := bindE h
 obtain ⟨x2, hx2, h⟩ := bindE h
 refine rZ ?_ fun K hK => by simp [idx_inb hx1, idx_row hx1, idx_inb hx2, idx_row hx2]; exact hK
 refine sZ ?_
 obtain ⟨o5, g7, h⟩ := bindE h
 obtain ⟨S6, hS6⟩ : ∃ S : Int → St, S = fun s4 => ⟨(updD (updD (fun _ => .any) 7 (.ptr 3 0 0 0)) 8 (eI s4)), hOfO [some ⟨3, [(rGCtor x2)], 0, 0x00c0⟩], 1, 45⟩ := ⟨_, rfl⟩
 refine TrD.join S6 (fun z => o5 = Ctl.brk z) ?_ (fun s4 hz => ?_)
 ·refine sZ ?_
  refine TrD.cond (b := ieq x2.index 0) (by simp) (fun hb8 => ?_) (fun hb8 => ?_)
  ·rw [if_pos hb8] at g7
   refine rZ ?_ fun K hK => by simp [hb8]; exact hK
   cases g7
   refine ToAny.mk p1.index rfl ?_
   rw [hS6]
   exact gC [88]
  rw [iN hb8] at g7
  apply TrD.skip
  cases g7
  refine ToAny.mk x2.index rfl ?_
  rw [hS6]
  exact gC [88]
 subst hz
 try dsimp only at h
 rw [congrFun hS6 s4]
 refine sZ ?_
 apply sq
 refine sZ ?_
 obtain ⟨C, A, h⟩ := bindE h
 obtain ⟨v, r⟩ : ∃ S : (List GType) → St, S = fun i => ⟨(updD (fun _ => .any) 9 (.sl 2 0 (i).length)), hOfO [some ⟨2, (List.map rGType i), 0, 0x0019⟩], 1, 45⟩ := ⟨_, rfl⟩
 refine TrD.joinQ v (fun z => C = Ctl.brk z) (fun _ _ hg h => TrD.ghost hg h) ?_ (fun i hz => ?_)
 ·apply TrD.block
  obtain ⟨w, m⟩ : ∃ S : Nat → (List GType) → St, S = fun e a => ⟨(updD (updD (updD (updD (updD (fun _ => .any) 8 (eI s4)) 9 (.sl 2 0 (a).length)) 28 (.slice 2 (List.map rGType x2.args))) 29 (eI (lenZ x2.args.length))) 30 (eI (e : Int))), hOfO [some ⟨2, (List.map rGType a), 0, 0x0019⟩], 1, 45⟩ := ⟨_, rfl⟩
  refine TrD.limS (sz := 2) (rows := List.map rGType x2.args) (seen_slot (d := .slice 2 (List.map rGType x2.args)) 28 (by simp)) (fun hlim => ?_)
  rw [List.length_map] at hlim
  refine TrD.forL w A hlim ?_ (fun e j a u H I B g J f G F => ?_) (fun a E => ?_)
  ·rw [m]
   refine (Ghost.ownNil (s := 9) (by simp) 2 0x0019).trans ?_
   exact gC [41]
  ·rw [congrFun (congrFun m e) a]
   refine sZ ?_ fun K hK => by simp [B]; exact hK
   apply sq
   refine cT ?_
   apply TrD.skip
   apply sq
   apply TrD.block
   refine sZ ?_ fun K hK => by simp [idx_inb u, idx_row u]; exact hK
   obtain ⟨D, l, f⟩ := bindE f
   obtain ⟨y, o⟩ : ∃ S : Int → St, S = fun p => ⟨(updD (updD (updD (updD (updD (updD (fun _ => .any) 8 (eI s4)) 9 (.sl 2 0 (a).length)) 11 (.ptr 2 1 0 0)) 28 (.slice 2 (List.map rGType x2.args))) 29 (eI (lenZ x2.args.length))) 30 (eI (e : Int))), hOfO [some ⟨2, (List.map rGType a), 0, 0x0019⟩, some ⟨2, [[(eI j.data), (eI p)]], 0, 0x0019⟩], 2, 45⟩ := ⟨_, rfl⟩
   refine TrD.join y (fun z => D = Ctl.brk z) ?_ (fun p hz => ?_)
   ·refine sZ ?_
    refine TrD.cond (b := ieq j.index (-1)) (by simp) (fun c => ?_) (fun c => ?_)
    ·rw [if_pos c] at l
     refine rZ ?_ fun K hK => by simp [c]; exact hK
     cases l
     refine ToAny.mk s4 rfl ?_
     rw [o]
     exact gC [0, 25]
    rw [iN c] at l
    apply TrD.skip
    cases l
    refine ToAny.mk j.index rfl ?_
    rw [o]
    exact gC [0, 25]
   subst hz
   try dsimp only at f
   rw [congrFun o p]
   obtain ⟨q, n, f⟩ := bindE f
   have t := (app_some n).2
   try simp only [List.length_cons, List.length_nil, Nat.zero_add] at t
   refine rZ ?_ fun K hK => by simp [t]; exact hK
   refine rZ ?_
   cases f
   refine ToAny.mk q rfl ?_
   rw [m]
   exact gc [26] hβ (((((va.f (by simp [g])).s 26 (by simp [(app_some n).1, g])).f (by simp [g])).f (by simp [g])).f (by simp [g])) (ln.f (by simp [(app_some n).1]))
  rw [congrFun (congrFun m _) a]
  refine sZ ?_ fun K hK => by simp [ilt_len x2.args.length]; exact hK
  apply sq
  refine cF ?_
  refine TrD.exit ?_
  try simp only [↓reduceIte, Nat.reduceEqDiff, Nat.zero_ne_one, Nat.one_ne_zero, OfNat.ofNat_ne_zero, OfNat.zero_ne_ofNat, OfNat.one_ne_ofNat, OfNat.ofNat_ne_one]
  refine ToAny.mk a E ?_
  rw [r]
  exact gC [0]
 subst hz
 try dsimp only at h
 rw [congrFun r i]
 refine sk fun K hK => ?_
 simp
 apply hK
 obtain rfl := Option.some.inj h
 refine TrD.ret ?_
 refine exitDG (σ' := ⟨(updD (fun _ => .any) 6 (.slice 2 (List.map rGType i))), hOfO [], 0, 45⟩) ?_ ?_
 ·refine (Ghost.raise 0 (by simp; rfl)).trans ?_
  exact Ghost.canonV 0 [] _ _ hβ (keep_first (by decide)) (by decide) (vT_upd (v_of (d0 := (.sl 2 0 (i).length)) (by simp) (v_frz (by simp; rfl) rfl (by simp) (by simp) (rv_free (by simp) (by simp)))) (vT_any _)) .nil
 dsimp only [resD]
 refine endF ?_ ?_ <;> simp [packD]
end Go.Proofs.YtmkamncbkkahjaaGreat
