import Derived.Test.YtimpchdgflhkaaaGreatJMir
import Derived.Test.YtimpchdgflhkaaaGreatJZap
import Derived.Test.YtimpchdgflhkaaaGreatJC4
import Derived.Test.YtimpchdgflhkaaaGreatJC5
import Derived.Test.YtimpchdgflhkaaaGreatJC1
set_option linter.unusedSimpArgs false
set_option linter.unusedVariables false
namespace Go.Proofs.YtimpchdgflhkaaaGreat
open Go Go.RowKit
set_option maxRecDepth 100000
set_option maxHeartbeats 20000000
theorem c_spec_ParseWorld (n : Nat) (p0 : ByteArray) (res : (List GData) × Bool) (h : m_spec_ParseWorld n p0 = some res) : CallsD Tryz.prog 0o00175 [(eS p0)] (fun d => d = .tup [(.slice 2 (List.map rGData res.1)), (eB res.2)]) := by
 unfold m_spec_ParseWorld at h
 refine CD Tryz.func125 [.tmp 2, .tmp 3] fun β hβ => ?_
 refine sZ ?_
 refine sZ ?_
 refine sZ ?_
 apply sq
 obtain ⟨r1, hr1, h⟩ := bindE h
 refine rk fun K hK => ?_
 simp
 refine cp (c_spec_l17Cut n p0 59 _ hr1) ?_
 simp
 apply hK
 apply sq
 refine sZ ?_
 obtain ⟨aK, ak, h⟩ := bindE h
 obtain ⟨ae, E⟩ : ∃ S : (List ByteArray) → St, S = fun a => ⟨(updD (updD (updD (updD (fun _ => .any) 0 (eS p0)) 4 (.sl 2 0 0)) 5 (.sl 1 1 (a).length)) 6 (.slice 1 (List.map rS r1))), hOfO [some ⟨2, (List.map rGData []), 0, 0x006f⟩, some ⟨1, (List.map rS a), 0, 0x0009⟩], 2, 101⟩ := ⟨_, rfl⟩
 refine TrD.joinQ ae (fun z => aK = Ctl.brk z) (fun _ _ hg h => TrD.ghost hg h) ?_ (fun a hz => ?_)
 ·apply TrD.block
  obtain ⟨ah, G⟩ : ∃ S : Nat → (List ByteArray) → St, S = fun D i => ⟨(updD (updD (updD (updD (updD (fun _ => .any) 0 (eS p0)) 4 (.sl 2 0 0)) 5 (.sl 1 1 (i).length)) 6 (.slice 1 (List.map rS r1))) 7 (eI (D : Int))), hOfO [some ⟨2, (List.map rGData []), 0, 0x006f⟩, some ⟨1, (List.map rS i), 0, 0x0009⟩], 2, 101⟩ := ⟨_, rfl⟩
  refine TrD.limS (sz := 1) (rows := List.map rS r1) (seen_slot (d := .slice 1 (List.map rS r1)) 16 (by simp)) (fun hlim => ?_)
  rw [List.length_map] at hlim
  refine TrD.forL ah ak hlim ?_ (fun D aU i aa aZ a0 ab w a4 f aC R => ?_) (fun i aQ => ?_)
  ·rw [G]
   exact gC [16, 32]
  ·rw [congrFun (congrFun G D) i]
   apply sq
   apply sq
   rcases bb (ile (D : Int) 4) with B | B
   ·rw [if_pos B] at f
    refine rZ ?_ fun K hK => by simp [ab, B]; exact hK
    refine TrD.cond (b := !seq2 p0 (ByteArray.mk #[])) (by simp) (fun r => ?_) (fun r => ?_)
    ·rw [if_pos r] at f
     apply TrD.skip
     apply sq
     apply TrD.block
     apply sq
     obtain ⟨aO, aB, f⟩ := bindE f
     refine rk fun K hK => ?_
     simp [idx_inb aa, idx_row aa, r]
     refine cp (c_spec_l17Cut n aU 61 _ aB) ?_
     simp
     apply hK
     apply sq
     refine sZ ?_
     refine TrD.cond (b := !ieq (lenZ aO.length) 2) (by simp) (fun C => ?_) (fun C => ?_)
     ·rw [if_pos C] at f
      refine sZ ?_ fun K hK => by simp [C]; exact hK
      cases f
      obtain rfl := aC _ rfl
      cases h
      apply TrD.ret
      refine exitDG (σ' := ⟨(updD (updD (fun _ => .any) 2 (.slice 2 (List.map rGData []))) 3 (eB false)), hOfO [], 0, 101⟩) ?_ ?_
      ·refine (Ghost.raise 170 (by simp; rfl)).trans ?_
       exact gC [] (ht := ((va.u (d0 := (.sl 2 170 0)) (by simp) (v_frz (by simp; rfl) rfl (by simp) (by simp) (rv_free (by simp) (by simp)))).f))
      dsimp only [resD]
      exact eF
     rw [iN C] at f
     apply TrD.skip
     obtain ⟨bh, Y, f⟩ := bindE f
     obtain ⟨P, J, f⟩ := bindE f
     have Z := (app_some J).2
     try simp only [List.length_cons, List.length_nil, Nat.zero_add] at Z
     refine rZ ?_ fun K hK => by simp [C, idx_inb Y, idx_row Y, Z]; exact hK
     refine rZ ?_
     cases f
     refine ToAny.mk P rfl ?_
     rw [G]
     exact gc [0, 210] hβ (((((va.f (by simp [w])).s 0 (by simp [w])).s 210 (by simp [(app_some J).1, w])).f (by simp [w])).f (by simp [w])) ((ln.f (by simp [(app_some J).1])).f)
    rw [iN r] at f
    refine TrD.exit ?_
    try simp only [↓reduceIte, Nat.reduceEqDiff, Nat.zero_ne_one, Nat.one_ne_zero, OfNat.ofNat_ne_zero, OfNat.zero_ne_ofNat, OfNat.one_ne_ofNat, OfNat.ofNat_ne_one]
    cases f
    obtain rfl := R _ rfl
    refine ToAny.mk i rfl ?_
    rw [E]
    exact gC [0, 1]
   rw [iN B] at f
   refine rZ ?_ fun K hK => by simp [ab, B]; exact hK
   refine cF ?_
   refine TrD.exit ?_
   try simp only [↓reduceIte, Nat.reduceEqDiff, Nat.zero_ne_one, Nat.one_ne_zero, OfNat.ofNat_ne_zero, OfNat.zero_ne_ofNat, OfNat.one_ne_ofNat, OfNat.ofNat_ne_one]
   cases f
   obtain rfl := R _ rfl
   refine ToAny.mk i rfl ?_
   rw [E]
   exact gC [0, 1]
  rw [congrFun (congrFun G _) i]
  apply sq
  refine sZ ?_ fun K hK => by simp [ilt_len r1.length]; exact hK
  refine cF ?_
  refine TrD.exit ?_
  try simp only [↓reduceIte, Nat.reduceEqDiff, Nat.zero_ne_one, Nat.one_ne_zero, OfNat.ofNat_ne_zero, OfNat.zero_ne_ofNat, OfNat.one_ne_ofNat, OfNat.ofNat_ne_one]
  refine ToAny.mk i aQ ?_
  rw [E]
  exact gC [0, 1]
 subst hz
 try dsimp only at h
 rw [congrFun E a]
 apply sq
 refine sZ ?_
 obtain ⟨aJ, aj, h⟩ := bindE h
 obtain ⟨ad, Q⟩ : ∃ S : (List GData) → St, S = fun p => ⟨(updD (updD (fun _ => .any) 0 (eS p0)) 4 (.sl 2 0 (p).length)), hOfO [some ⟨2, (List.map rGData p), 0, 0x006f⟩], 1, 101⟩ := ⟨_, rfl⟩
 refine TrD.joinQ ad (fun z => aJ = Ctl.brk z) (fun _ _ hg h => TrD.ghost hg h) ?_ (fun p hz => ?_)
 ·apply TrD.block
  obtain ⟨ag, F⟩ : ∃ S : Nat → (List GData) → St, S = fun l c => ⟨(updD (updD (updD (updD (updD (fun _ => .any) 0 (eS p0)) 4 (.sl 2 0 (c).length)) 5 (.sl 1 1 (a).length)) 6 (.slice 1 (List.map rS r1))) 9 (eI (l : Int))), hOfO [some ⟨2, (List.map rGData c), 0, 0x006f⟩, some ⟨1, (List.map rS a), (a).length * 1, 0x0009⟩], 2, 101⟩ := ⟨_, rfl⟩
  refine TrD.limL (L := ⟨1, (List.map rS a), 0, 0x0009⟩) 1 (by simp) (by simp) (fun hlim => ?_)
  simp at hlim
  refine TrD.forL ag aj hlim ?_ (fun l m c aF aE aG aH v a3 j aX aW => ?_) (fun c aP => ?_)
  ·rw [F]
   refine (Ghost.raise 1 (by simp; rfl)).trans ?_
   exact gC [0, 1]
  ·rw [congrFun (congrFun F l) c]
   apply sq
   refine sZ ?_ fun K hK => by simp [aH]; exact hK
   refine cT ?_
   apply TrD.skip
   apply sq
   apply TrD.block
   apply sq
   obtain ⟨aS, U, j⟩ := bindE j
   obtain ⟨be, ax, j⟩ := bindE j
   obtain ⟨aT, V, j⟩ := bindE j
   obtain ⟨s, ay, j⟩ := bindE j
   refine rk fun K hK => ?_
   simp [idx_inb U, idx_row U]
   refine cp (c_spec_l17Cut n aS 61 _ ax) ?_
   simp [idx_inb V, idx_row V]
   refine cp (c_spec_l17Cut n aT 124 _ ay) ?_
   simp
   apply hK
   refine sZ ?_ fun K hK => by simp [idx_inb aF, aG, elt aE]; exact hK
   apply sq
   refine sZ ?_
   obtain ⟨aL, al, j⟩ := bindE j
   obtain ⟨af, N⟩ : ∃ S : (List GCtor) → St, S = fun u => ⟨(updD (updD (updD (updD (updD (updD (fun _ => .any) 0 (eS p0)) 4 (.sl 2 0 (c).length)) 5 (.sl 1 1 (a).length)) 6 (.slice 1 (List.map rS r1))) 9 (eI (l : Int))) 11 (.ptr 2 2 0 0)), hOfO [some ⟨2, (List.map rGData c), 0, 0x006f⟩, some ⟨1, (List.map rS a), (a).length * 1, 0x0009⟩, some ⟨2, [[(eS m), (.sl 3 3 (u).length)]], 0, 0x006f⟩, some ⟨3, (List.map rGCtor u), 0, 0x0071⟩], 4, 101⟩ := ⟨_, rfl⟩
   refine TrD.joinQ af (fun z => aL = Ctl.brk z) (fun _ _ hg h => TrD.ghost hg h) ?_ (fun u hz => ?_)
   ·apply TrD.block
    obtain ⟨ai, H⟩ : ∃ S : Nat → (List GCtor) → St, S = fun t g => ⟨(updD (updD (updD (updD (updD (updD (updD (updD (fun _ => .any) 0 (eS p0)) 4 (.sl 2 0 (c).length)) 5 (.sl 1 1 (a).length)) 6 (.slice 1 (List.map rS r1))) 9 (eI (l : Int))) 10 (.slice 1 (List.map rS s))) 11 (.ptr 2 2 0 0)) 12 (eI (t : Int))), hOfO [some ⟨2, (List.map rGData c), 0, 0x006f⟩, some ⟨1, (List.map rS a), (a).length * 1, 0x0009⟩, some ⟨2, [[(eS m), (.sl 3 3 (g).length)]], 0, 0x006f⟩, some ⟨3, (List.map rGCtor g), 0, 0x0071⟩], 4, 101⟩ := ⟨_, rfl⟩
    refine TrD.limS (sz := 1) (rows := List.map rS s) (seen_slot (d := .slice 1 (List.map rS s)) 59 (by simp)) (fun hlim => ?_)
    rw [List.length_map] at hlim
    refine TrD.forL ai al hlim ?_ (fun t aV g ac a1 a2 aI o a5 q aY am => ?_) (fun g aR => ?_)
    ·rw [H]
     refine (Ghost.ownNilCell 146 1 3 0x0071 (by simp; rfl) rfl (by simp) (by simp)).trans ?_
     exact gC [0, 1, 146, 170]
    ·rw [congrFun (congrFun H t) g]
     apply sq
     refine sZ ?_ fun K hK => by simp [aI]; exact hK
     refine TrD.cond (b := ile (t : Int) 4) (by simp) (fun e => ?_) (fun e => ?_)
     ·rw [if_pos e] at q
      apply TrD.skip
      apply sq
      apply TrD.block
      refine TrD.ghost (σ' := ⟨(updD (updD (updD (updD (updD (updD (updD (updD (fun _ => .any) 0 (eS p0)) 4 (.sl 2 0 (c).length)) 5 (.sl 1 1 (a).length)) 6 (.slice 1 (List.map rS r1))) 9 (eI (l : Int))) 10 (.slice 1 (List.map rS s))) 11 (.ptr 2 2 0 0)) 12 (eI (t : Int))), hOfO [some ⟨2, (List.map rGData c), 0, 0x006f⟩, some ⟨1, (List.map rS a), (a).length * 1, 0x0009⟩, some ⟨2, [[(eS m), (.sl 3 3 (g).length)]], 0, 0x006f⟩, some ⟨3, (List.map rGCtor g), 0, 0x0071⟩], 4, 101⟩) ?_ ?_
      ·exact gC [0, 1, 2, 3]
      obtain ⟨bf, az, q⟩ := bindE q
      obtain ⟨O, I, q⟩ := bindE q
      have W := (app_some I).2
      try simp only [List.length_cons, List.length_nil, Nat.zero_add] at W
      refine TrD.draw tysOk mixed [0, 1, 2, 3, 4, 5, 6, 7, 8, 9, 10, 11] [2] [85] (by rfl) rfl (fun K hK => ?_)
      simp [idx_inb ac, idx_row ac]
      refine callV (.cons (.sl _ _ _ _ _ (by simp; rfl) rfl (by simp) (by simp)) (.cons (.same _ _) (.nil _))) (c_spec_l1ParseCtor n a aV _ az) (by simp) (by simp) (fun a6 an => ?_)
      subst an
      simp [W]
      apply hK
      refine rZ ?_
      cases q
      refine ToAny.mk O rfl ?_
      rw [H]
      exact Ghost.canonV 0 [0, 1, 2, 20] _ _ hβ (keep_first (by decide)) (by decide) (vT_upd (v_of (d0 := (eI (wadd .i64 (t : Int) 1))) (by simp [o]) (v_free (by simp) (by simp [o]))) (vT_upd (v_of (d0 := (.ptr 2 2 0 0)) (by simp [o]) (v_ptr rfl)) (vT_upd (v_of (d0 := (.slice 1 (List.map rS s))) (by simp [o]) (v_free (by simp) (by simp))) (vT_upd (v_of (d0 := (eI (l : Int))) (by simp [o]) (v_free (by simp) (by simp))) (vT_upd (v_of (d0 := (.slice 1 (List.map rS r1))) (by simp [o]) (v_free (by simp) (by simp))) (vT_upd (v_of (d0 := (.sl 1 1 (a).length)) (by simp [o]) (v_sl rfl)) (vT_upd (v_of (d0 := (.sl 2 0 (c).length)) (by simp [o]) (v_sl rfl)) (vT_upd (v_of (d0 := (eS p0)) (by simp [o]) (v_free (by simp) (by simp))) (vT_any _))))))))) (.cons (lv (L := ⟨2, (List.map rGData c), 0, 0x006f⟩) (by simp) rfl rfl (by simp) (rv_free (by simp) (free_rows_of fr_GData _))) (.cons (lv (L := ⟨1, (List.map rS a), (a).length * 1, 0x0009⟩) (by simp) rfl rfl (by simp) (rv_free (by simp) (by simp))) (.cons (lv (L := ⟨2, [[(eS m), (.sl 3 20 (O).length)]], 0, 0x006f⟩) (by simp [(app_some I).1]) rfl rfl (by simp) (rv_cons (.cons (v_free (by simp) (by simp)) (.cons (v_sl rfl) .nil)) rv_nil)) (.cons (lv (L := ⟨3, (List.map rGCtor O), 0, 0x0071⟩) (by simp [(app_some I).1]) rfl rfl (by simp) (rv_free (by simp [(app_some I).1]) (free_rows_of fr_GCtor _))) .nil))))
     rw [iN e] at q
     refine TrD.exit ?_
     try simp only [↓reduceIte, Nat.reduceEqDiff, Nat.zero_ne_one, Nat.one_ne_zero, OfNat.ofNat_ne_zero, OfNat.zero_ne_ofNat, OfNat.one_ne_ofNat, OfNat.ofNat_ne_one]
     cases q
     obtain rfl := am _ rfl
     refine ToAny.mk g rfl ?_
     rw [N]
     exact gC [0, 1, 2, 3]
    rw [congrFun (congrFun H _) g]
    apply sq
    refine sZ ?_ fun K hK => by simp [ilt_len s.length]; exact hK
    refine cF ?_
    refine TrD.exit ?_
    try simp only [↓reduceIte, Nat.reduceEqDiff, Nat.zero_ne_one, Nat.one_ne_zero, OfNat.ofNat_ne_zero, OfNat.zero_ne_ofNat, OfNat.one_ne_ofNat, OfNat.ofNat_ne_one]
    refine ToAny.mk g aR ?_
    rw [N]
    exact gC [0, 1, 2, 3]
   subst hz
   try dsimp only at j
   rw [congrFun N u]
   obtain ⟨bg, aD, j⟩ := bindE j
   have X := (app_some aD).2
   try simp only [List.length_cons, List.length_nil, Nat.zero_add] at X
   refine rZ ?_ fun K hK => by simp [X]; exact hK
   refine rZ ?_
   cases j
   refine ToAny.mk (c ++ [(GData.mk m u)]) rfl ?_
   rw [F]
   refine (Ghost.raise 3 (by simp; rfl)).trans ?_
   exact gc [28, 1] hβ (((((va.f (by simp [v])).s 28 (by simp [v])).s 1 (by simp [v])).f (by simp [v])).f (by simp [v])) (ln.f.c (lv (L := ⟨2, ((List.map rGData c) ++ [[(eS m), (.sl 3 3 (u).length)]]), 0, 0x006f⟩) (by simp) rfl rfl (by simp) (rv_snocr (by simp) (rGData_eq _) (.cons (v_free (by simp) (by simp)) (.cons (v_frz (by simp; rfl) rfl (by simp) (by simp) (rv_free (by simp) (by simp))) .nil)))))
  rw [congrFun (congrFun F _) c]
  apply sq
  refine sZ ?_ fun K hK => by simp [ilt_len a.length]; exact hK
  refine cF ?_
  refine TrD.exit ?_
  try simp only [↓reduceIte, Nat.reduceEqDiff, Nat.zero_ne_one, Nat.one_ne_zero, OfNat.ofNat_ne_zero, OfNat.zero_ne_ofNat, OfNat.one_ne_ofNat, OfNat.ofNat_ne_one]
  refine ToAny.mk c aP ?_
  rw [Q]
  exact gC [0]
 subst hz
 try dsimp only at h
 rw [congrFun Q p]
 apply sq
 apply sq
 obtain ⟨aM, T, h⟩ := bindE h
 rcases bb (!aM) with y | y
 ·rw [if_pos y] at h
  refine rk fun K hK => ?_
  simp
  refine callB (.cons (.sl _ _ _ _ _ (by simp; rfl) rfl (by simp) (by simp)) (.nil _)) (c_spec_WorldValid n p _ T) (by simp) (by simp) (fun a9 aq => ?_)
  subst aq
  refine ⟨by simp, ?_⟩
  simp [y]
  apply hK
  refine cT ?_
  refine sZ ?_
  cases h
  apply TrD.ret
  refine exitDG (σ' := ⟨(updD (updD (fun _ => .any) 2 (.slice 2 (List.map rGData []))) 3 (eB false)), hOfO [], 0, 101⟩) ?_ ?_
  ·refine (Ghost.raise 41 (by simp; rfl)).trans ?_
   exact gC [] (ht := ((va.u (d0 := (.sl 2 41 0)) (by simp) (v_frz (by simp; rfl) rfl (by simp) (by simp) (rv_free (by simp) (by simp)))).f))
  dsimp only [resD]
  exact eF
 rw [iN y] at h
 obtain ⟨aN, aA, h⟩ := bindE h
 refine rk fun K hK => ?_
 simp
 refine callB (.cons (.sl _ _ _ _ _ (by simp; rfl) rfl (by simp) (by simp)) (.nil _)) (c_spec_WorldValid n p _ T) (by simp) (by simp) (fun ba ar => ?_)
 subst ar
 refine ⟨by simp, ?_⟩
 simp [y]
 refine callB (.cons (.sl _ _ _ _ _ (by simp; rfl) rfl (by simp) (by simp)) (.nil _)) (c_spec_l1Text n p _ aA) (by simp) (by simp) (fun bb au => ?_)
 subst au
 refine ⟨by simp, ?_⟩
 simp
 apply hK
 refine TrD.cond (b := !seq2 aN p0) (by simp) (fun A => ?_) (fun A => ?_)
 ·rw [if_pos A] at h
  refine sZ ?_ fun K hK => by simp [A]; exact hK
  cases h
  apply TrD.ret
  refine exitDG (σ' := ⟨(updD (updD (fun _ => .any) 2 (.slice 2 (List.map rGData []))) 3 (eB false)), hOfO [], 0, 101⟩) ?_ ?_
  ·refine (Ghost.raise 73 (by simp; rfl)).trans ?_
   exact gC [] (ht := ((va.u (d0 := (.sl 2 73 0)) (by simp) (v_frz (by simp; rfl) rfl (by simp) (by simp) (rv_free (by simp) (by simp)))).f))
  dsimp only [resD]
  exact eF
 rw [iN A] at h
 apply TrD.skip
 refine sZ ?_ fun K hK => by simp [A]; exact hK
 cases h
 apply TrD.ret
 refine exitDG (σ' := ⟨(updD (updD (fun _ => .any) 2 (.slice 2 (List.map rGData p))) 3 (eB true)), hOfO [], 0, 101⟩) ?_ ?_
 ·refine (Ghost.raise 0 (by simp; rfl)).trans ?_
  exact gC [] (ht := ((va.u (d0 := (.sl 2 0 (p).length)) (by simp) (v_frz (by simp; rfl) rfl (by simp) (by simp) (rv_free (by simp) (by simp)))).f))
 dsimp only [resD]
 exact eF
set_option maxRecDepth 100000 in
theorem c_spec_l1World (n : Nat) (p0 : Gl17Rd) (res : (List GData) × Gl17Rd) (h : m_spec_l1World n p0 = some res) : CallsH Tryz.prog 0o00146 [⟨2, [(rGl17Rd p0)], 0, 0x0066⟩] [.ptr 2 0 0 0] (fun H d => H = [some ⟨2, [(rGl17Rd res.2)], 0, 0x0066⟩] ∧ d = (.slice 2 (List.map rGData res.1))) := by
 unfold m_spec_l1World at h
 refine CH Tryz.func102 [.tmp 2] 1 fun β hβ => ?_
 refine sZ ?_
 apply sq
 obtain ⟨r1, hr1, h⟩ := bindE h
 refine rk fun K hK => ?_
 simp
 refine cp (c_spec_l1Texts _ hr1) ?_
 simp
 apply hK
 apply sq
 obtain ⟨r2, hr2, h⟩ := bindE h
 obtain ⟨x3, hx3, h⟩ := bindE h
 obtain ⟨r4, hr4, h⟩ := bindE h
 refine rk fun K hK => ?_
 simp
 refine callK (views_same _ _) (.same _ _) [0] (c_spec_l17Rd_pick p0 (wsub .i64 (lenZ r1.length) 1) _ hr2) (by decide) (.cons (locRen_eq (by simp) (by simp) (by simp)) .nil) (.cons (ren_ptr rfl) (.cons (ren_le (by simp) (by simp)) .nil)) (fun Hq5 qq5 hq5 => ?_)
 obtain ⟨rfl, rfl⟩ := hq5
 refine ⟨by simp, [some ⟨2, [(rGl17Rd r2.2)], 0, 0x0066⟩], (eI r2.1), (.cons (optRen_same (by simp)) .nil), (ren_free (by simp)), ?_⟩
 simp [setMany, newNames, idx_inb hx3, idx_row hx3]
 refine cp (c_spec_ParseWorld n x3 _ hr4) ?_
 simp
 apply hK
 refine sZ ?_
 cases h
 apply TrD.ret
 refine exitHG (σ' := ⟨(updD (fun _ => .any) 2 (.slice 2 (List.map rGData r4.1))), hOfO [some ⟨2, [(rGl17Rd r2.2)], 0, 0x0066⟩], 1, 20⟩) ?_ ?_
 ·exact gC [0]
 dsimp only [resD]
 exact eA
set_option maxRecDepth 100000 in
theorem c_spec_l1Slot (p0 : GType) (res : Int) (h : m_spec_l1Slot p0 = some res) : CallsD Tryz.prog 0o00177 [(.agg (rGType p0))] (fun d => d = (eI res)) := by
 unfold m_spec_l1Slot at h
 refine CD Tryz.func127 [.tmp 2] fun β hβ => ?_
 refine sZ ?_
 refine sZ ?_
 cases h
 apply TrD.ret
 exact xD
set_option maxRecDepth 100000 in
theorem c_spec_l1Depth (p0 : (List Int)) (p1 : GType) (res : Int) (h : m_spec_l1Depth p0 p1 = some res) : CallsD Tryz.prog 0o00150 [(.slice 1 (List.map rI p0)), (.agg (rGType p1))] (fun d => d = (eI res)) := by
 unfold m_spec_l1Depth at h
 refine CD Tryz.func104 [.tmp 4] fun β hβ => ?_
 refine sZ ?_
 apply sq
 refine sZ ?_
 refine TrD.cond (b := ieq p1.data (-1)) (by simp) (fun hb2 => ?_) (fun hb2 => ?_)
 ·rw [if_pos hb2] at h
  refine sZ ?_ fun K hK => by simp [hb2]; exact hK
  cases h
  apply TrD.ret
  exact xD
 rw [iN hb2] at h
 apply TrD.skip
 apply sq
 obtain ⟨r3, hr3, h⟩ := bindE h
 obtain ⟨x4, hx4, h⟩ := bindE h
 refine rk fun K hK => ?_
 simp [hb2]
 refine cp (c_spec_l1Slot p1 _ hr3) ?_
 simp [idx_inb hx4, idx_row hx4]
 apply hK
 cases h
 apply TrD.ret
 exact xD
set_option maxRecDepth 100000 in
theorem c_spec_l1Most (p0 : (List GData)) (p1 : (List Int)) (p2 : GType) (p3 : Int) (res : Int) (h : m_spec_l1Most p0 p1 p2 p3 = some res) : CallsD Tryz.prog 0o00176 [(.slice 2 (List.map rGData p0)), (.slice 1 (List.map rI p1)), (.agg (rGType p2)), (eI p3)] (fun d => d = (eI res)) := by
 unfold m_spec_l1Most at h
 refine CD Tryz.func126 [.tmp 8] fun β hβ => ?_
 refine sZ ?_
 apply sq
 obtain ⟨r1, hr1, h⟩ := bindE h
 refine rk fun K hK => ?_
 simp
 refine cp (c_spec_l1Args p0 p2 p3 _ hr1) ?_
 simp
 apply hK
 refine sZ ?_
 apply sq
 refine sZ ?_
 obtain ⟨D, v, h⟩ := bindE h
 obtain ⟨s, q⟩ : ∃ S : Int → St, S = fun l => ⟨(updD (fun _ => .any) 10 (eI l)), hOfO [], 0, 37⟩ := ⟨_, rfl⟩
 refine TrD.joinQ s (fun z => D = Ctl.brk z) (fun _ _ hg h => TrD.ghost hg h) ?_ (fun l hz => ?_)
 ·apply TrD.block
  obtain ⟨t, n⟩ : ∃ S : Nat → Int → St, S = fun f a => ⟨(updD (updD (updD (updD (fun _ => .any) 1 (.slice 1 (List.map rI p1))) 9 (.slice 2 (List.map rGType r1))) 10 (eI a)) 11 (eI (f : Int))), hOfO [], 0, 37⟩ := ⟨_, rfl⟩
  refine TrD.limS (sz := 2) (rows := List.map rGType r1) (seen_slot (d := .slice 2 (List.map rGType r1)) 16 (by simp)) (fun hlim => ?_)
  rw [List.length_map] at hlim
  refine TrD.forL t v hlim ?_ (fun f G a r I J C j L g B H => ?_) (fun a F => ?_)
  ·rw [n]
   exact gC []
  ·rw [congrFun (congrFun n f) a]
   apply sq
   refine sZ ?_ fun K hK => by simp [C]; exact hK
   refine cT ?_
   apply TrD.skip
   obtain ⟨E, c, g⟩ := bindE g
   obtain ⟨u, p⟩ : ∃ S : Int → St, S = fun m => ⟨(updD (updD (updD (updD (fun _ => .any) 1 (.slice 1 (List.map rI p1))) 9 (.slice 2 (List.map rGType r1))) 10 (eI m)) 11 (eI (f : Int))), hOfO [], 0, 37⟩ := ⟨_, rfl⟩
   refine TrD.join u (fun z => E = Ctl.brk z) ?_ (fun m hz => ?_)
   ·apply TrD.block
    apply sq
    obtain ⟨o, A, c⟩ := bindE c
    refine rk fun K hK => ?_
    simp [idx_inb r, idx_row r]
    refine cp (c_spec_l1Depth p1 G _ A) ?_
    simp
    apply hK
    apply sq
    refine sZ ?_
    refine TrD.cond (b := ieq o 0) (by simp) (fun i => ?_) (fun i => ?_)
    ·rw [if_pos i] at c
     refine sZ ?_ fun K hK => by simp [i]; exact hK
     cases c
     cases g
     obtain rfl := B _ rfl
     cases h
     apply TrD.ret
     exact xD
    rw [iN i] at c
    apply TrD.skip
    refine sZ ?_ fun K hK => by simp [i]; exact hK
    refine TrD.cond (b := ilt a o) (by simp) (fun e => ?_) (fun e => ?_)
    ·rw [if_pos e] at c
     refine rZ ?_ fun K hK => by simp [e]; exact hK
     cases c
     refine ToAny.mk o rfl ?_
     rw [p]
     exact gC []
    rw [iN e] at c
    apply TrD.skip
    cases c
    refine ToAny.mk a rfl ?_
    rw [p]
    exact gC []
   subst hz
   try dsimp only at g
   rw [congrFun p m]
   refine rZ ?_
   cases g
   refine ToAny.mk m rfl ?_
   rw [n]
   exact gc [] hβ ((((va.f (by simp [j])).f (by simp [j])).f (by simp [j])).f (by simp [j])) ln
  rw [congrFun (congrFun n _) a]
  apply sq
  refine sZ ?_ fun K hK => by simp [ilt_len r1.length]; exact hK
  refine cF ?_
  refine TrD.exit ?_
  try simp only [↓reduceIte, Nat.reduceEqDiff, Nat.zero_ne_one, Nat.one_ne_zero, OfNat.ofNat_ne_zero, OfNat.zero_ne_ofNat, OfNat.one_ne_ofNat, OfNat.ofNat_ne_one]
  refine ToAny.mk a F ?_
  rw [q]
  exact gC []
 subst hz
 try dsimp only at h
 rw [congrFun q l]
 refine sZ ?_
 cases h
 apply TrD.ret
 exact xD
theorem c_spec_l1Table (n : Nat) (p0 : (List GData)) (res : (List Int)) (h : m_spec_l1Table n p0 = some res) : CallsD Tryz.prog 0o00147 [(.slice 2 (List.map rGData p0))] (fun d => d = (.slice 1 (List.map rI res))) := by
 unfold m_spec_l1Table at h
 refine CD Tryz.func103 [.tmp 2] fun β hβ => ?_
 refine sZ ?_
 apply sq
 obtain ⟨x1, hx1, h⟩ := bindE h
 refine rZ ?_ fun K hK => by simp [mkS_len hx1, mkS_rowl hx1 rI [(eI 0)] rfl, (mkS_some hx1).2.1, (mkS_some hx1).2.2]; exact hK
 apply sq
 refine sZ ?_
 obtain ⟨am, ab, h⟩ := bindE h
 obtain ⟨U, N⟩ : ∃ S : ((List Int) × Int) → St, S = fun v => ⟨(updD (fun _ => .any) 3 (.sl 1 0 (v.1).length)), hOfO [some ⟨1, (List.map rI v.1), 0, 0x0003⟩], 1, 70⟩ := ⟨_, rfl⟩
 refine TrD.joinQ U (fun z => am = Ctl.brk z) (fun _ _ hg h => TrD.ghost hg h) ?_ (fun v hz => ?_)
 ·apply TrD.block
  obtain ⟨Y, D⟩ : ∃ S : ((List Int) × Int) → St, S = fun c => ⟨(updD (updD (updD (fun _ => .any) 0 (.slice 2 (List.map rGData p0))) 3 (.sl 1 0 (c.1).length)) 4 (eI c.2)), hOfO [some ⟨1, (List.map rI c.1), 0, 0x0003⟩], 1, 70⟩ := ⟨_, rfl⟩
  refine TrD.whileL Y ab ?_ (fun c az p au ad => ?_)
  ·rw [D]
   exact gC [32]
  rw [congrFun D c]
  apply sq
  refine sZ ?_
  refine TrD.cond (b := ile c.2 (lenZ c.1.length)) (by simp) (fun A => ?_) (fun A => ?_)
  ·rw [if_pos A] at p
   apply TrD.skip
   apply sq
   apply TrD.block
   refine sZ ?_ fun K hK => by simp [A]; exact hK
   obtain ⟨an, ac, p⟩ := bindE p
   obtain ⟨V, O⟩ : ∃ S : ((List Int) × Int) → St, S = fun t => ⟨(updD (updD (updD (fun _ => .any) 0 (.slice 2 (List.map rGData p0))) 3 (.sl 1 0 (t.1).length)) 4 (eI c.2)), hOfO [some ⟨1, (List.map rI t.1), 0, 0x0003⟩], 1, 70⟩ := ⟨_, rfl⟩
   refine TrD.joinQ V (fun z => an = Ctl.brk z) (fun _ _ hg h => TrD.ghost hg h) ?_ (fun t hz => ?_)
   ·apply TrD.block
    obtain ⟨Z, E⟩ : ∃ S : ((List Int) × Int) → St, S = fun a => ⟨(updD (updD (updD (updD (fun _ => .any) 0 (.slice 2 (List.map rGData p0))) 3 (.sl 1 0 (a.1).length)) 4 (eI c.2)) 5 (eI a.2)), hOfO [some ⟨1, (List.map rI a.1), 0, 0x0003⟩], 1, 70⟩ := ⟨_, rfl⟩
    refine TrD.whileL Z ac ?_ (fun a aA m av ae => ?_)
    ·rw [E]
     exact gC [0]
    rw [congrFun E a]
    apply sq
    refine sZ ?_
    refine TrD.cond (b := ilt a.2 (lenZ a.1.length)) (by simp) (fun q => ?_) (fun q => ?_)
    ·rw [if_pos q] at m
     apply TrD.skip
     apply sq
     apply TrD.block
     refine sZ ?_ fun K hK => by simp [q, show ieq 4 0 = false from rfl]; exact hK
     apply sq
     obtain ⟨g, ah, m⟩ := bindE m
     refine rk fun K hK => ?_
     simp
     refine cp (c_spec_l1Ctors p0 (GType.mk (wquo .i64 a.2 4) (wrem a.2 4)) _ ah) ?_
     simp
     apply hK
     refine sZ ?_
     obtain ⟨ak, aa, m⟩ := bindE m
     obtain ⟨T, J⟩ : ∃ S : (List Int) → St, S = fun r => ⟨(updD (updD (updD (updD (fun _ => .any) 0 (.slice 2 (List.map rGData p0))) 3 (.sl 1 0 (r).length)) 4 (eI c.2)) 5 (eI a.2)), hOfO [some ⟨1, (List.map rI r), 0, 0x0003⟩], 1, 70⟩ := ⟨_, rfl⟩
     refine TrD.joinQ T (fun z => ak = Ctl.brk z) (fun _ _ hg h => TrD.ghost hg h) ?_ (fun r hz => ?_)
     ·apply TrD.block
      obtain ⟨W, C⟩ : ∃ S : Nat → (List Int) → St, S = fun j e => ⟨(updD (updD (updD (updD (updD (updD (updD (fun _ => .any) 0 (.slice 2 (List.map rGData p0))) 3 (.sl 1 0 (e).length)) 4 (eI c.2)) 5 (eI a.2)) 6 (.ptr 2 1 0 0)) 7 (.slice 1 (List.map rI g))) 8 (eI (j : Int))), hOfO [some ⟨1, (List.map rI e), 0, 0x0003⟩, some ⟨2, [[(eI (wquo .i64 a.2 4)), (eI (wrem a.2 4))]], 0, 0x0019⟩], 2, 70⟩ := ⟨_, rfl⟩
      refine TrD.limS (sz := 1) (rows := List.map rI g) (seen_slot (d := .slice 1 (List.map rI g)) 33 (by simp)) (fun hlim => ?_)
      rw [List.length_map] at hlim
      refine TrD.forL W aa hlim ?_ (fun j ap e P aw ax aj o ay B ar aq => ?_) (fun e ao => ?_)
      ·rw [C]
       exact gC [0, 73]
      ·rw [congrFun (congrFun C j) e]
       apply sq
       refine sZ ?_ fun K hK => by simp [aj]; exact hK
       refine cT ?_
       apply TrD.skip
       obtain ⟨al, f, B⟩ := bindE B
       obtain ⟨X, w⟩ : ∃ S : (List Int) → St, S = fun s => ⟨(updD (updD (updD (updD (updD (updD (updD (fun _ => .any) 0 (.slice 2 (List.map rGData p0))) 3 (.sl 1 0 (s).length)) 4 (eI c.2)) 5 (eI a.2)) 6 (.ptr 2 1 0 0)) 7 (.slice 1 (List.map rI g))) 8 (eI (j : Int))), hOfO [some ⟨1, (List.map rI s), 0, 0x0003⟩, some ⟨2, [[(eI (wquo .i64 a.2 4)), (eI (wrem a.2 4))]], 0, 0x0019⟩], 2, 70⟩ := ⟨_, rfl⟩
       refine TrD.join X (fun z => al = Ctl.brk z) ?_ (fun s hz => ?_)
       ·apply TrD.block
        apply sq
        refine TrD.ghost (σ' := ⟨(updD (updD (updD (updD (updD (updD (updD (fun _ => .any) 0 (.slice 2 (List.map rGData p0))) 3 (.sl 1 0 (e).length)) 4 (eI c.2)) 5 (eI a.2)) 6 (.ptr 2 1 0 0)) 7 (.slice 1 (List.map rI g))) 8 (eI (j : Int))), hOfO [some ⟨1, (List.map rI e), 0, 0x0003⟩, some ⟨2, [[(eI (wquo .i64 a.2 4)), (eI (wrem a.2 4))]], 0, 0x0019⟩], 2, 70⟩) ?_ ?_
        ·exact gC [0, 1]
        obtain ⟨Q, ai, f⟩ := bindE f
        refine TrD.draw tysOk mixed [0, 1, 2, 3, 4, 5, 6, 7, 8] [1] [] (by rfl) rfl (fun K hK => ?_)
        simp [idx_inb P, idx_row P]
        refine callB (.cons (.same _ _) (.cons (.sl _ _ _ _ _ (by simp; rfl) rfl (by simp) (by simp)) (.cons (.same _ _) (.cons (.same _ _) (.nil _))))) (c_spec_l1Most p0 e (GType.mk (wquo .i64 a.2 4) (wrem a.2 4)) ap _ ai) (by simp) (by simp) (fun aB af => ?_)
        subst af
        refine ⟨by simp, ?_⟩
        simp
        apply hK
        apply sq
        rcases bb (ilt 0 Q) with u | u
        ·rw [if_pos u] at f
         obtain ⟨R, l, f⟩ := bindE f
         rcases bb (ieq R 0) with y | y
         ·rw [if_pos y] at f
          refine rZ ?_ fun K hK => by simp [u, idx_inb l, idx_lt l, elt (idx_get l), y]; exact hK
          refine cT ?_
          obtain ⟨H, F, f⟩ := bindE f
          refine rZ ?_ fun K hK => by simp [idx_inb l, idx_lt l]; exact hK
          cases f
          refine ToAny.mk H rfl ?_
          rw [w]
          exact gc [0, 1] hβ ((((((va.f.s 0 (by simp [(setI_some F).1])).f).f).p 1).f).f) (ln.f.f (by simp [(setI_some F).1]))
         rw [iN y] at f
         refine rZ ?_ fun K hK => by simp [u, idx_inb l, idx_lt l, elt (idx_get l), y]; exact hK
         refine TrD.cond (b := ilt Q R) (by simp) (fun i => ?_) (fun i => ?_)
         ·rw [if_pos i] at f
          obtain ⟨I, G, f⟩ := bindE f
          refine rZ ?_ fun K hK => by simp [idx_inb l, idx_lt l, i]; exact hK
          cases f
          refine ToAny.mk I rfl ?_
          rw [w]
          exact gc [0, 1] hβ ((((((va.f.s 0 (by simp [(setI_some G).1])).f).f).p 1).f).f) (ln.f.f (by simp [(setI_some G).1]))
         rw [iN i] at f
         apply TrD.skip
         cases f
         refine ToAny.mk e rfl ?_
         rw [w]
         exact gC [0, 1]
        rw [iN u] at f
        refine rZ ?_ fun K hK => by simp [u]; exact hK
        refine cF ?_
        apply TrD.skip
        cases f
        refine ToAny.mk e rfl ?_
        rw [w]
        exact gC [0, 1]
       subst hz
       try dsimp only at B
       rw [congrFun w s]
       refine rZ ?_
       cases B
       refine ToAny.mk s rfl ?_
       rw [C]
       exact gc [0, 1] hβ (((((((va.f (by simp [o])).s 0 (by simp [o])).f (by simp [o])).f (by simp [o])).p 1 (by simp [o])).f (by simp [o])).f (by simp [o])) ln.f.f
      rw [congrFun (congrFun C _) e]
      apply sq
      refine sZ ?_ fun K hK => by simp [ilt_len g.length]; exact hK
      refine cF ?_
      refine TrD.exit ?_
      try simp only [↓reduceIte, Nat.reduceEqDiff, Nat.zero_ne_one, Nat.one_ne_zero, OfNat.ofNat_ne_zero, OfNat.zero_ne_ofNat, OfNat.one_ne_ofNat, OfNat.ofNat_ne_one]
      refine ToAny.mk e ao ?_
      rw [J]
      exact gC [0]
     subst hz
     try dsimp only at m
     rw [congrFun J r]
     refine rZ ?_
     cases m
     refine ToAny.mk (r, wadd .i64 a.2 1) rfl ?_
     rw [E]
     exact gC [0]
    rw [iN q] at m
    refine TrD.exit ?_
    try simp only [↓reduceIte, Nat.reduceEqDiff, Nat.zero_ne_one, Nat.one_ne_zero, OfNat.ofNat_ne_zero, OfNat.zero_ne_ofNat, OfNat.one_ne_ofNat, OfNat.ofNat_ne_one]
    cases m
    obtain rfl := ae _ rfl
    refine ToAny.mk (a.1, a.2) rfl ?_
    rw [O]
    exact gC [0]
   subst hz
   try dsimp only at p
   rw [congrFun O t]
   refine rZ ?_
   cases p
   refine ToAny.mk (t.1, wadd .i64 c.2 1) rfl ?_
   rw [D]
   exact gC [0]
  rw [iN A] at p
  refine TrD.exit ?_
  try simp only [↓reduceIte, Nat.reduceEqDiff, Nat.zero_ne_one, Nat.one_ne_zero, OfNat.ofNat_ne_zero, OfNat.zero_ne_ofNat, OfNat.one_ne_ofNat, OfNat.ofNat_ne_one]
  cases p
  obtain rfl := ad _ rfl
  refine ToAny.mk (c.1, c.2) rfl ?_
  rw [N]
  exact gC [0]
 subst hz
 try dsimp only at h
 rw [congrFun N v]
 refine sZ ?_
 cases h
 apply TrD.ret
 refine exitDG (σ' := ⟨(updD (fun _ => .any) 2 (.slice 1 (List.map rI v.1))), hOfO [], 0, 70⟩) ?_ ?_
 ·refine (Ghost.raise 0 (by simp; rfl)).trans ?_
  exact gC [] (ht := (va.u (d0 := (.sl 1 0 (v.1).length)) (by simp) (v_frz (by simp; rfl) rfl (by simp) (by simp) (rv_free (by simp) (by simp)))))
 dsimp only [resD]
 exact eF
end Go.Proofs.YtimpchdgflhkaaaGreat
