import Derived.Test.YtmkamncbkkahjaaGreatJMir
import Derived.Test.YtmkamncbkkahjaaGreatJZap
import Derived.Test.YtmkamncbkkahjaaGreatJC6
import Derived.Test.YtmkamncbkkahjaaGreatJC5
set_option linter.unusedSimpArgs false
set_option linter.unusedVariables false
namespace Go.Proofs.YtmkamncbkkahjaaGreat
open Go Go.RowKit
set_option maxRecDepth 100000
set_option maxHeartbeats 20000000
theorem c_spec_l1CtorText (n : Nat) (p0 : (List GData)) (p1 : GCtor) (res : ByteArray) (h : m_spec_l1CtorText n p0 p1 = some res) : CallsD Tryz.prog 0o00277 [(.slice 2 (List.map rGData p0)), (.agg (rGCtor p1))] (fun d => d = (eS res)) := by
 unfold m_spec_l1CtorText at h
 refine CD Tryz.func191 [.tmp 4] fun β hβ => ?_
 refine sZ ?_
 refine sZ ?_
 apply sq
 refine sZ ?_
 obtain ⟨ab, V, h⟩ := bindE h
 obtain ⟨P, y⟩ : ∃ S : ByteArray → St, S = fun p => ⟨(updD (updD (fun _ => .any) 3 (.ptr 3 0 0 0)) 5 (eS p)), hOfO [some ⟨3, [(rGCtor p1)], 0, 0x00c0⟩], 1, 47⟩ := ⟨_, rfl⟩
 refine TrD.joinQ P (fun z => ab = Ctl.brk z) (fun _ _ hg h => TrD.ghost hg h) ?_ (fun p hz => ?_)
 ·apply TrD.block
  obtain ⟨Q, s⟩ : ∃ S : Nat → ByteArray → St, S = fun f g => ⟨(updD (updD (updD (updD (fun _ => .any) 0 (.slice 2 (List.map rGData p0))) 3 (.ptr 3 0 0 0)) 5 (eS g)) 6 (eI (f : Int))), hOfO [some ⟨3, [(rGCtor p1)], 0, 0x00c0⟩], 1, 47⟩ := ⟨_, rfl⟩
  refine TrD.limS (sz := 2) (rows := List.map rGType p1.args) (seen_cell (d := .slice 2 (List.map rGType p1.args)) 0 0 1 (by simp; rfl) rfl (by simp)) (fun hlim => ?_)
  rw [List.length_map] at hlim
  refine TrD.forL Q V hlim ?_ (fun f ag g G aj ak aa o al c ai ah => ?_) (fun g af => ?_)
  ·rw [s]
   exact gC [0]
  ·rw [congrFun (congrFun s f) g]
   apply sq
   refine sZ ?_ fun K hK => by simp [aa]; exact hK
   refine cT ?_
   apply TrD.skip
   apply sq
   apply TrD.block
   obtain ⟨ac, e, c⟩ := bindE c
   obtain ⟨R, t⟩ : ∃ S : ByteArray → St, S = fun w => ⟨(updD (updD (updD (updD (fun _ => .any) 0 (.slice 2 (List.map rGData p0))) 3 (.ptr 3 0 0 0)) 5 (eS w)) 6 (eI (f : Int))), hOfO [some ⟨3, [(rGCtor p1)], 0, 0x00c0⟩], 1, 47⟩ := ⟨_, rfl⟩
   refine TrD.join R (fun z => ac = Ctl.brk z) ?_ (fun w hz => ?_)
   ·refine sZ ?_
    refine TrD.cond (b := ieq (f : Int) 0) (by simp) (fun l => ?_) (fun l => ?_)
    ·rw [if_pos l] at e
     obtain ⟨H, A, e⟩ := bindE e
     refine rZ ?_ fun K hK => by simp [l, ← (scat_some A).1, (scat_some A).2]; exact hK
     cases e
     refine ToAny.mk H rfl ?_
     rw [t]
     exact gC [0]
    rw [iN l] at e
    obtain ⟨I, B, e⟩ := bindE e
    refine rZ ?_ fun K hK => by simp [l, ← (scat_some B).1, (scat_some B).2]; exact hK
    cases e
    refine ToAny.mk I rfl ?_
    rw [t]
    exact gC [0]
   subst hz
   try dsimp only at c
   rw [congrFun t w]
   obtain ⟨ao, Y, c⟩ := bindE c
   obtain ⟨J, C, c⟩ := bindE c
   refine rk fun K hK => ?_
   simp [idx_inb G, idx_row G]
   refine cp (c_spec_l1Type n p0 ag _ Y) ?_
   simp [← (scat_some C).1, (scat_some C).2]
   apply hK
   refine rZ ?_
   cases c
   refine ToAny.mk J rfl ?_
   rw [s]
   exact gc [0] hβ ((((va.f (by simp [o])).p 0 (by simp [o])).f (by simp [o])).f (by simp [o])) ln.f
  rw [congrFun (congrFun s _) g]
  apply sq
  refine sZ ?_ fun K hK => by simp [ilt_len p1.args.length]; exact hK
  refine cF ?_
  refine TrD.exit ?_
  try simp only [↓reduceIte, Nat.reduceEqDiff, Nat.zero_ne_one, Nat.one_ne_zero, OfNat.ofNat_ne_zero, OfNat.zero_ne_ofNat, OfNat.one_ne_ofNat, OfNat.ofNat_ne_one]
  refine ToAny.mk g af ?_
  rw [y]
  exact gC [0]
 subst hz
 try dsimp only at h
 rw [congrFun y p]
 obtain ⟨ad, i, h⟩ := bindE h
 obtain ⟨T, u⟩ : ∃ S : ByteArray → St, S = fun q => ⟨(updD (updD (fun _ => .any) 3 (.ptr 3 0 0 0)) 5 (eS q)), hOfO [some ⟨3, [(rGCtor p1)], 0, 0x00c0⟩], 1, 47⟩ := ⟨_, rfl⟩
 refine TrD.join T (fun z => ad = Ctl.brk z) ?_ (fun q hz => ?_)
 ·refine sZ ?_
  refine TrD.cond (b := ilt 0 (lenZ p1.args.length)) (by simp) (fun j => ?_) (fun j => ?_)
  ·rw [if_pos j] at i
   obtain ⟨N, D, i⟩ := bindE i
   refine rZ ?_ fun K hK => by simp [j, ← (scat_some D).1, (scat_some D).2]; exact hK
   cases i
   refine ToAny.mk N rfl ?_
   rw [u]
   exact gC [0]
  rw [iN j] at i
  apply TrD.skip
  cases i
  refine ToAny.mk p rfl ?_
  rw [u]
  exact gC [0]
 subst hz
 try dsimp only at h
 rw [congrFun u q]
 obtain ⟨ae, a, h⟩ := bindE h
 obtain ⟨U, v⟩ : ∃ S : ByteArray → St, S = fun r => ⟨(updD (fun _ => .any) 5 (eS r)), hOfO [], 0, 47⟩ := ⟨_, rfl⟩
 refine TrD.join U (fun z => ae = Ctl.brk z) ?_ (fun r hz => ?_)
 ·refine sZ ?_
  refine TrD.cond (b := ilt 0 p1.index) (by simp) (fun m => ?_) (fun m => ?_)
  ·rw [if_pos m] at a
   obtain ⟨aq, E, a⟩ := bindE a
   obtain ⟨ap, Z, a⟩ := bindE a
   obtain ⟨O, F, a⟩ := bindE a
   refine rk fun K hK => ?_
   simp [m, ← (scat_some E).1, (scat_some E).2]
   refine cp (c_spec_l17Dec n p1.index _ Z) ?_
   simp [← (scat_some F).1, (scat_some F).2]
   apply hK
   cases a
   refine ToAny.mk O rfl ?_
   rw [v]
   exact gC []
  rw [iN m] at a
  apply TrD.skip
  cases a
  refine ToAny.mk q rfl ?_
  rw [v]
  exact gC []
 subst hz
 try dsimp only at h
 rw [congrFun v r]
 refine sZ ?_
 cases h
 apply TrD.ret
 exact xD
theorem c_spec_l1Text (n : Nat) (p0 : (List GData)) (res : ByteArray) (h : m_spec_l1Text n p0 = some res) : CallsD Tryz.prog 0o00174 [(.slice 2 (List.map rGData p0))] (fun d => d = (eS res)) := by
 unfold m_spec_l1Text at h
 refine CD Tryz.func124 [.tmp 2] fun β hβ => ?_
 refine sZ ?_
 refine sZ ?_
 apply sq
 refine sZ ?_
 obtain ⟨ad, X, h⟩ := bindE h
 obtain ⟨Q, D⟩ : ∃ S : ByteArray → St, S = fun r => ⟨(updD (fun _ => .any) 3 (eS r)), hOfO [], 0, 51⟩ := ⟨_, rfl⟩
 refine TrD.joinQ Q (fun z => ad = Ctl.brk z) (fun _ _ hg h => TrD.ghost hg h) ?_ (fun r hz => ?_)
 ·apply TrD.block
  obtain ⟨T, t⟩ : ∃ S : Nat → ByteArray → St, S = fun a f => ⟨(updD (updD (updD (fun _ => .any) 0 (.slice 2 (List.map rGData p0))) 3 (eS f)) 4 (eI (a : Int))), hOfO [], 0, 51⟩ := ⟨_, rfl⟩
  refine TrD.limS (sz := 2) (rows := List.map rGData p0) (seen_slot (d := .slice 2 (List.map rGData p0)) 0 (by simp)) (fun hlim => ?_)
  rw [List.length_map] at hlim
  refine TrD.forL T X hlim ?_ (fun a C f e ap aq ab v av c an al => ?_) (fun f ah => ?_)
  ·rw [t]
   exact gC []
  ·rw [congrFun (congrFun t a) f]
   apply sq
   refine sZ ?_ fun K hK => by simp [ab]; exact hK
   refine cT ?_
   apply TrD.skip
   apply sq
   apply TrD.block
   obtain ⟨ae, o, c⟩ := bindE c
   obtain ⟨U, w⟩ : ∃ S : ByteArray → St, S = fun A => ⟨(updD (updD (updD (fun _ => .any) 0 (.slice 2 (List.map rGData p0))) 3 (eS A)) 4 (eI (a : Int))), hOfO [], 0, 51⟩ := ⟨_, rfl⟩
   refine TrD.join U (fun z => ae = Ctl.brk z) ?_ (fun A hz => ?_)
   ·refine sZ ?_
    refine TrD.cond (b := ilt 0 (a : Int)) (by simp) (fun m => ?_) (fun m => ?_)
    ·rw [if_pos m] at o
     obtain ⟨N, F, o⟩ := bindE o
     refine rZ ?_ fun K hK => by simp [m, ← (scat_some F).1, (scat_some F).2]; exact hK
     cases o
     refine ToAny.mk N rfl ?_
     rw [w]
     exact gC []
    rw [iN m] at o
    apply TrD.skip
    cases o
    refine ToAny.mk f rfl ?_
    rw [w]
    exact gC []
   subst hz
   try dsimp only at c
   rw [congrFun w A]
   apply sq
   obtain ⟨az, G, c⟩ := bindE c
   obtain ⟨aj, H, c⟩ := bindE c
   refine rZ ?_ fun K hK => by simp [idx_inb e, idx_row e, ← (scat_some G).1, (scat_some G).2, ← (scat_some H).1, (scat_some H).2]; exact hK
   refine sZ ?_
   obtain ⟨af, Y, c⟩ := bindE c
   obtain ⟨R, E⟩ : ∃ S : ByteArray → St, S = fun s => ⟨(updD (updD (updD (fun _ => .any) 0 (.slice 2 (List.map rGData p0))) 3 (eS s)) 4 (eI (a : Int))), hOfO [], 0, 51⟩ := ⟨_, rfl⟩
   refine TrD.joinQ R (fun z => af = Ctl.brk z) (fun _ _ hg h => TrD.ghost hg h) ?_ (fun s hz => ?_)
   ·apply TrD.block
    obtain ⟨V, u⟩ : ∃ S : Nat → ByteArray → St, S = fun l g => ⟨(updD (updD (updD (updD (fun _ => .any) 0 (.slice 2 (List.map rGData p0))) 3 (eS g)) 4 (eI (a : Int))) 5 (eI (l : Int))), hOfO [], 0, 51⟩ := ⟨_, rfl⟩
    refine TrD.limS (sz := 3) (rows := List.map rGCtor C.ctors) (seen_elem (d := .slice 3 (List.map rGCtor C.ctors)) (seen_slot (d := .slice 2 (List.map rGData p0)) 0 (by simp)) e 1 (rGData_eq _) rfl) (fun hlim => ?_)
    rw [List.length_map] at hlim
    refine TrD.forL V Y hlim ?_ (fun l ak g L ar au ac q aw i ao am => ?_) (fun g ai => ?_)
    ·rw [u]
     exact gC []
    ·rw [congrFun (congrFun u l) g]
     apply sq
     refine sZ ?_ fun K hK => by simp [idx_inb e, idx_row e, ac]; exact hK
     refine cT ?_
     apply TrD.skip
     apply sq
     apply TrD.block
     obtain ⟨ag, p, i⟩ := bindE i
     obtain ⟨W, y⟩ : ∃ S : ByteArray → St, S = fun B => ⟨(updD (updD (updD (updD (fun _ => .any) 0 (.slice 2 (List.map rGData p0))) 3 (eS B)) 4 (eI (a : Int))) 5 (eI (l : Int))), hOfO [], 0, 51⟩ := ⟨_, rfl⟩
     refine TrD.join W (fun z => ag = Ctl.brk z) ?_ (fun B hz => ?_)
     ·refine sZ ?_
      refine TrD.cond (b := ilt 0 (l : Int)) (by simp) (fun j => ?_) (fun j => ?_)
      ·rw [if_pos j] at p
       obtain ⟨O, I, p⟩ := bindE p
       refine rZ ?_ fun K hK => by simp [j, ← (scat_some I).1, (scat_some I).2]; exact hK
       cases p
       refine ToAny.mk O rfl ?_
       rw [y]
       exact gC []
      rw [iN j] at p
      apply TrD.skip
      cases p
      refine ToAny.mk g rfl ?_
      rw [y]
      exact gC []
     subst hz
     try dsimp only at i
     rw [congrFun y B]
     obtain ⟨ay, aa, i⟩ := bindE i
     obtain ⟨P, J, i⟩ := bindE i
     refine rk fun K hK => ?_
     simp [idx_inb e, idx_row e, idx_inb L, idx_row L]
     refine cp (c_spec_l1CtorText n p0 ak _ aa) ?_
     simp [← (scat_some J).1, (scat_some J).2]
     apply hK
     refine rZ ?_
     cases i
     refine ToAny.mk P rfl ?_
     rw [u]
     exact gc [] hβ ((((va.f (by simp [q])).f (by simp [q])).f (by simp [q])).f (by simp [q])) ln
    rw [congrFun (congrFun u _) g]
    apply sq
    refine sZ ?_ fun K hK => by simp [idx_inb e, idx_row e, ilt_len C.ctors.length]; exact hK
    refine cF ?_
    refine TrD.exit ?_
    try simp only [↓reduceIte, Nat.reduceEqDiff, Nat.zero_ne_one, Nat.one_ne_zero, OfNat.ofNat_ne_zero, OfNat.zero_ne_ofNat, OfNat.one_ne_ofNat, OfNat.ofNat_ne_one]
    refine ToAny.mk g ai ?_
    rw [E]
    exact gC []
   subst hz
   try dsimp only at c
   rw [congrFun E s]
   refine rZ ?_
   cases c
   refine ToAny.mk s rfl ?_
   rw [t]
   exact gc [] hβ (((va.f (by simp [v])).f (by simp [v])).f (by simp [v])) ln
  rw [congrFun (congrFun t _) f]
  apply sq
  refine sZ ?_ fun K hK => by simp [ilt_len p0.length]; exact hK
  refine cF ?_
  refine TrD.exit ?_
  try simp only [↓reduceIte, Nat.reduceEqDiff, Nat.zero_ne_one, Nat.one_ne_zero, OfNat.ofNat_ne_zero, OfNat.zero_ne_ofNat, OfNat.one_ne_ofNat, OfNat.ofNat_ne_one]
  refine ToAny.mk f ah ?_
  rw [D]
  exact gC []
 subst hz
 try dsimp only at h
 rw [congrFun D r]
 refine sZ ?_
 cases h
 apply TrD.ret
 exact xD
theorem c_spec_ParseWorld (n : Nat) (p0 : ByteArray) (res : (List GData) × Bool) (h : m_spec_ParseWorld n p0 = some res) : CallsD Tryz.prog 0o00074 [(eS p0)] (fun d => d = .tup [(.slice 2 (List.map rGData res.1)), (eB res.2)]) := by
 unfold m_spec_ParseWorld at h
 refine CD Tryz.func60 [.tmp 2, .tmp 3] fun β hβ => ?_
 refine sZ ?_
 refine sZ ?_
 refine sZ ?_
 apply sq
 obtain ⟨r1, hr1, h⟩ := bindE h
 refine rk fun K hK => ?_
 simp
 refine cp (c_spec_l17Cut n p0 59 _ hr1) ?_
 simp
 apply hK
 apply sq
 refine sZ ?_
 obtain ⟨aK, ak, h⟩ := bindE h
 obtain ⟨ae, E⟩ : ∃ S : (List ByteArray) → St, S = fun a => ⟨(updD (updD (updD (updD (fun _ => .any) 0 (eS p0)) 4 (.sl 2 0 0)) 5 (.sl 1 1 (a).length)) 6 (.slice 1 (List.map rS r1))), hOfO [some ⟨2, (List.map rGData []), 0, 0x00be⟩, some ⟨1, (List.map rS a), 0, 0x0009⟩], 2, 101⟩ := ⟨_, rfl⟩
 refine TrD.joinQ ae (fun z => aK = Ctl.brk z) (fun _ _ hg h => TrD.ghost hg h) ?_ (fun a hz => ?_)
 ·apply TrD.block
  obtain ⟨ah, G⟩ : ∃ S : Nat → (List ByteArray) → St, S = fun D i => ⟨(updD (updD (updD (updD (updD (fun _ => .any) 0 (eS p0)) 4 (.sl 2 0 0)) 5 (.sl 1 1 (i).length)) 6 (.slice 1 (List.map rS r1))) 7 (eI (D : Int))), hOfO [some ⟨2, (List.map rGData []), 0, 0x00be⟩, some ⟨1, (List.map rS i), 0, 0x0009⟩], 2, 101⟩ := ⟨_, rfl⟩
  refine TrD.limS (sz := 1) (rows := List.map rS r1) (seen_slot (d := .slice 1 (List.map rS r1)) 16 (by simp)) (fun hlim => ?_)
  rw [List.length_map] at hlim
  refine TrD.forL ah ak hlim ?_ (fun D aU i aa aZ a0 ab w a4 f aC R => ?_) (fun i aQ => ?_)
  ·rw [G]
   exact gC [16, 32]
  ·rw [congrFun (congrFun G D) i]
   apply sq
   apply sq
   rcases bb (ile (D : Int) 4) with B | B
   ·rw [if_pos B] at f
    refine rZ ?_ fun K hK => by simp [ab, B]; exact hK
    refine TrD.cond (b := !seq2 p0 (ByteArray.mk #[])) (by simp) (fun r => ?_) (fun r => ?_)
    ·rw [if_pos r] at f
     apply TrD.skip
     apply sq
     apply TrD.block
     apply sq
     obtain ⟨aO, aB, f⟩ := bindE f
     refine rk fun K hK => ?_
     simp [idx_inb aa, idx_row aa, r]
     refine cp (c_spec_l17Cut n aU 61 _ aB) ?_
     simp
     apply hK
     apply sq
     refine sZ ?_
     refine TrD.cond (b := !ieq (lenZ aO.length) 2) (by simp) (fun C => ?_) (fun C => ?_)
     ·rw [if_pos C] at f
      refine sZ ?_ fun K hK => by simp [C]; exact hK
      cases f
      obtain rfl := aC _ rfl
      cases h
      apply TrD.ret
      refine exitDG (σ' := ⟨(updD (updD (fun _ => .any) 2 (.slice 2 (List.map rGData []))) 3 (eB false)), hOfO [], 0, 101⟩) ?_ ?_
      ·refine (Ghost.raise 170 (by simp; rfl)).trans ?_
       exact gC [] (ht := ((va.u (d0 := (.sl 2 170 0)) (by simp) (v_frz (by simp; rfl) rfl (by simp) (by simp) (rv_free (by simp) (by simp)))).f))
      dsimp only [resD]
      exact eF
     rw [iN C] at f
     apply TrD.skip
     obtain ⟨bh, Y, f⟩ := bindE f
     obtain ⟨P, J, f⟩ := bindE f
     have Z := (app_some J).2
     try simp only [List.length_cons, List.length_nil, Nat.zero_add] at Z
     refine rZ ?_ fun K hK => by simp [C, idx_inb Y, idx_row Y, Z]; exact hK
     refine rZ ?_
     cases f
     refine ToAny.mk P rfl ?_
     rw [G]
     exact gc [0, 210] hβ (((((va.f (by simp [w])).s 0 (by simp [w])).s 210 (by simp [(app_some J).1, w])).f (by simp [w])).f (by simp [w])) ((ln.f (by simp [(app_some J).1])).f)
    rw [iN r] at f
    refine TrD.exit ?_
    try simp only [↓reduceIte, Nat.reduceEqDiff, Nat.zero_ne_one, Nat.one_ne_zero, OfNat.ofNat_ne_zero, OfNat.zero_ne_ofNat, OfNat.one_ne_ofNat, OfNat.ofNat_ne_one]
    cases f
    obtain rfl := R _ rfl
    refine ToAny.mk i rfl ?_
    rw [E]
    exact gC [0, 1]
   rw [iN B] at f
   refine rZ ?_ fun K hK => by simp [ab, B]; exact hK
   refine cF ?_
   refine TrD.exit ?_
   try simp only [↓reduceIte, Nat.reduceEqDiff, Nat.zero_ne_one, Nat.one_ne_zero, OfNat.ofNat_ne_zero, OfNat.zero_ne_ofNat, OfNat.one_ne_ofNat, OfNat.ofNat_ne_one]
   cases f
   obtain rfl := R _ rfl
   refine ToAny.mk i rfl ?_
   rw [E]
   exact gC [0, 1]
  rw [congrFun (congrFun G _) i]
  apply sq
  refine sZ ?_ fun K hK => by simp [ilt_len r1.length]; exact hK
  refine cF ?_
  refine TrD.exit ?_
  try simp only [↓reduceIte, Nat.reduceEqDiff, Nat.zero_ne_one, Nat.one_ne_zero, OfNat.ofNat_ne_zero, OfNat.zero_ne_ofNat, OfNat.one_ne_ofNat, OfNat.ofNat_ne_one]
  refine ToAny.mk i aQ ?_
  rw [E]
  exact gC [0, 1]
 subst hz
 try dsimp only at h
 rw [congrFun E a]
 apply sq
 refine sZ ?_
 obtain ⟨aJ, aj, h⟩ := bindE h
 obtain ⟨ad, Q⟩ : ∃ S : (List GData) → St, S = fun p => ⟨(updD (updD (fun _ => .any) 0 (eS p0)) 4 (.sl 2 0 (p).length)), hOfO [some ⟨2, (List.map rGData p), 0, 0x00be⟩], 1, 101⟩ := ⟨_, rfl⟩
 refine TrD.joinQ ad (fun z => aJ = Ctl.brk z) (fun _ _ hg h => TrD.ghost hg h) ?_ (fun p hz => ?_)
 ·apply TrD.block
  obtain ⟨ag, F⟩ : ∃ S : Nat → (List GData) → St, S = fun l c => ⟨(updD (updD (updD (updD (updD (fun _ => .any) 0 (eS p0)) 4 (.sl 2 0 (c).length)) 5 (.sl 1 1 (a).length)) 6 (.slice 1 (List.map rS r1))) 9 (eI (l : Int))), hOfO [some ⟨2, (List.map rGData c), 0, 0x00be⟩, some ⟨1, (List.map rS a), (a).length * 1, 0x0009⟩], 2, 101⟩ := ⟨_, rfl⟩
  refine TrD.limL (L := ⟨1, (List.map rS a), 0, 0x0009⟩) 1 (by simp) (by simp) (fun hlim => ?_)
  simp at hlim
  refine TrD.forL ag aj hlim ?_ (fun l m c aF aE aG aH v a3 j aX aW => ?_) (fun c aP => ?_)
  ·rw [F]
   refine (Ghost.raise 1 (by simp; rfl)).trans ?_
   exact gC [0, 1]
  ·rw [congrFun (congrFun F l) c]
   apply sq
   refine sZ ?_ fun K hK => by simp [aH]; exact hK
   refine cT ?_
   apply TrD.skip
   apply sq
   apply TrD.block
   apply sq
   obtain ⟨aS, U, j⟩ := bindE j
   obtain ⟨be, ax, j⟩ := bindE j
   obtain ⟨aT, V, j⟩ := bindE j
   obtain ⟨s, ay, j⟩ := bindE j
   refine rk fun K hK => ?_
   simp [idx_inb U, idx_row U]
   refine cp (c_spec_l17Cut n aS 61 _ ax) ?_
   simp [idx_inb V, idx_row V]
   refine cp (c_spec_l17Cut n aT 124 _ ay) ?_
   simp
   apply hK
   refine sZ ?_ fun K hK => by simp [idx_inb aF, aG, elt aE]; exact hK
   apply sq
   refine sZ ?_
   obtain ⟨aL, al, j⟩ := bindE j
   obtain ⟨af, N⟩ : ∃ S : (List GCtor) → St, S = fun u => ⟨(updD (updD (updD (updD (updD (updD (fun _ => .any) 0 (eS p0)) 4 (.sl 2 0 (c).length)) 5 (.sl 1 1 (a).length)) 6 (.slice 1 (List.map rS r1))) 9 (eI (l : Int))) 11 (.ptr 2 2 0 0)), hOfO [some ⟨2, (List.map rGData c), 0, 0x00be⟩, some ⟨1, (List.map rS a), (a).length * 1, 0x0009⟩, some ⟨2, [[(eS m), (.sl 3 3 (u).length)]], 0, 0x00be⟩, some ⟨3, (List.map rGCtor u), 0, 0x00c0⟩], 4, 101⟩ := ⟨_, rfl⟩
   refine TrD.joinQ af (fun z => aL = Ctl.brk z) (fun _ _ hg h => TrD.ghost hg h) ?_ (fun u hz => ?_)
   ·apply TrD.block
    obtain ⟨ai, H⟩ : ∃ S : Nat → (List GCtor) → St, S = fun t g => ⟨(updD (updD (updD (updD (updD (updD (updD (updD (fun _ => .any) 0 (eS p0)) 4 (.sl 2 0 (c).length)) 5 (.sl 1 1 (a).length)) 6 (.slice 1 (List.map rS r1))) 9 (eI (l : Int))) 10 (.slice 1 (List.map rS s))) 11 (.ptr 2 2 0 0)) 12 (eI (t : Int))), hOfO [some ⟨2, (List.map rGData c), 0, 0x00be⟩, some ⟨1, (List.map rS a), (a).length * 1, 0x0009⟩, some ⟨2, [[(eS m), (.sl 3 3 (g).length)]], 0, 0x00be⟩, some ⟨3, (List.map rGCtor g), 0, 0x00c0⟩], 4, 101⟩ := ⟨_, rfl⟩
    refine TrD.limS (sz := 1) (rows := List.map rS s) (seen_slot (d := .slice 1 (List.map rS s)) 59 (by simp)) (fun hlim => ?_)
    rw [List.length_map] at hlim
    refine TrD.forL ai al hlim ?_ (fun t aV g ac a1 a2 aI o a5 q aY am => ?_) (fun g aR => ?_)
    ·rw [H]
     refine (Ghost.ownNilCell 146 1 3 0x00c0 (by simp; rfl) rfl (by simp) (by simp)).trans ?_
     exact gC [0, 1, 146, 170]
    ·rw [congrFun (congrFun H t) g]
     apply sq
     refine sZ ?_ fun K hK => by simp [aI]; exact hK
     refine TrD.cond (b := ile (t : Int) 4) (by simp) (fun e => ?_) (fun e => ?_)
     ·rw [if_pos e] at q
      apply TrD.skip
      apply sq
      apply TrD.block
      refine TrD.ghost (σ' := ⟨(updD (updD (updD (updD (updD (updD (updD (updD (fun _ => .any) 0 (eS p0)) 4 (.sl 2 0 (c).length)) 5 (.sl 1 1 (a).length)) 6 (.slice 1 (List.map rS r1))) 9 (eI (l : Int))) 10 (.slice 1 (List.map rS s))) 11 (.ptr 2 2 0 0)) 12 (eI (t : Int))), hOfO [some ⟨2, (List.map rGData c), 0, 0x00be⟩, some ⟨1, (List.map rS a), (a).length * 1, 0x0009⟩, some ⟨2, [[(eS m), (.sl 3 3 (g).length)]], 0, 0x00be⟩, some ⟨3, (List.map rGCtor g), 0, 0x00c0⟩], 4, 101⟩) ?_ ?_
      ·exact gC [0, 1, 2, 3]
      obtain ⟨bf, az, q⟩ := bindE q
      obtain ⟨O, I, q⟩ := bindE q
      have W := (app_some I).2
      try simp only [List.length_cons, List.length_nil, Nat.zero_add] at W
      refine TrD.draw tysOk mixed [0, 1, 2, 3, 4, 5, 6, 7, 8, 9, 10, 11] [2] [85] (by rfl) rfl (fun K hK => ?_)
      simp [idx_inb ac, idx_row ac]
      refine callV (.cons (.sl _ _ _ _ _ (by simp; rfl) rfl (by simp) (by simp)) (.cons (.same _ _) (.nil _))) (c_spec_l1ParseCtor n a aV _ az) (by simp) (by simp) (fun a6 an => ?_)
      subst an
      simp [W]
      apply hK
      refine rZ ?_
      cases q
      refine ToAny.mk O rfl ?_
      rw [H]
      exact Ghost.canonV 0 [0, 1, 2, 20] _ _ hβ (keep_first (by decide)) (by decide) (vT_upd (v_of (d0 := (eI (wadd .i64 (t : Int) 1))) (by simp [o]) (v_free (by simp) (by simp [o]))) (vT_upd (v_of (d0 := (.ptr 2 2 0 0)) (by simp [o]) (v_ptr rfl)) (vT_upd (v_of (d0 := (.slice 1 (List.map rS s))) (by simp [o]) (v_free (by simp) (by simp))) (vT_upd (v_of (d0 := (eI (l : Int))) (by simp [o]) (v_free (by simp) (by simp))) (vT_upd (v_of (d0 := (.slice 1 (List.map rS r1))) (by simp [o]) (v_free (by simp) (by simp))) (vT_upd (v_of (d0 := (.sl 1 1 (a).length)) (by simp [o]) (v_sl rfl)) (vT_upd (v_of (d0 := (.sl 2 0 (c).length)) (by simp [o]) (v_sl rfl)) (vT_upd (v_of (d0 := (eS p0)) (by simp [o]) (v_free (by simp) (by simp))) (vT_any _))))))))) (.cons (lv (L := ⟨2, (List.map rGData c), 0, 0x00be⟩) (by simp) rfl rfl (by simp) (rv_free (by simp) (free_rows_of fr_GData _))) (.cons (lv (L := ⟨1, (List.map rS a), (a).length * 1, 0x0009⟩) (by simp) rfl rfl (by simp) (rv_free (by simp) (by simp))) (.cons (lv (L := ⟨2, [[(eS m), (.sl 3 20 (O).length)]], 0, 0x00be⟩) (by simp [(app_some I).1]) rfl rfl (by simp) (rv_cons (.cons (v_free (by simp) (by simp)) (.cons (v_sl rfl) .nil)) rv_nil)) (.cons (lv (L := ⟨3, (List.map rGCtor O), 0, 0x00c0⟩) (by simp [(app_some I).1]) rfl rfl (by simp) (rv_free (by simp [(app_some I).1]) (free_rows_of fr_GCtor _))) .nil))))
     rw [iN e] at q
     refine TrD.exit ?_
     try simp only [↓reduceIte, Nat.reduceEqDiff, Nat.zero_ne_one, Nat.one_ne_zero, OfNat.ofNat_ne_zero, OfNat.zero_ne_ofNat, OfNat.one_ne_ofNat, OfNat.ofNat_ne_one]
     cases q
     obtain rfl := am _ rfl
     refine ToAny.mk g rfl ?_
     rw [N]
     exact gC [0, 1, 2, 3]
    rw [congrFun (congrFun H _) g]
    apply sq
    refine sZ ?_ fun K hK => by simp [ilt_len s.length]; exact hK
    refine cF ?_
    refine TrD.exit ?_
    try simp only [↓reduceIte, Nat.reduceEqDiff, Nat.zero_ne_one, Nat.one_ne_zero, OfNat.ofNat_ne_zero, OfNat.zero_ne_ofNat, OfNat.one_ne_ofNat, OfNat.ofNat_ne_one]
    refine ToAny.mk g aR ?_
    rw [N]
    exact gC [0, 1, 2, 3]
   subst hz
   try dsimp only at j
   rw [congrFun N u]
   obtain ⟨bg, aD, j⟩ := bindE j
   have X := (app_some aD).2
   try simp only [List.length_cons, List.length_nil, Nat.zero_add] at X
   refine rZ ?_ fun K hK => by simp [X]; exact hK
   refine rZ ?_
   cases j
   refine ToAny.mk (c ++ [(GData.mk m u)]) rfl ?_
   rw [F]
   refine (Ghost.raise 3 (by simp; rfl)).trans ?_
   exact gc [28, 1] hβ (((((va.f (by simp [v])).s 28 (by simp [v])).s 1 (by simp [v])).f (by simp [v])).f (by simp [v])) (ln.f.c (lv (L := ⟨2, ((List.map rGData c) ++ [[(eS m), (.sl 3 3 (u).length)]]), 0, 0x00be⟩) (by simp) rfl rfl (by simp) (rv_snocr (by simp) (rGData_eq _) (.cons (v_free (by simp) (by simp)) (.cons (v_frz (by simp; rfl) rfl (by simp) (by simp) (rv_free (by simp) (by simp))) .nil)))))
  rw [congrFun (congrFun F _) c]
  apply sq
  refine sZ ?_ fun K hK => by simp [ilt_len a.length]; exact hK
  refine cF ?_
  refine TrD.exit ?_
  try simp only [↓reduceIte, Nat.reduceEqDiff, Nat.zero_ne_one, Nat.one_ne_zero, OfNat.ofNat_ne_zero, OfNat.zero_ne_ofNat, OfNat.one_ne_ofNat, OfNat.ofNat_ne_one]
  refine ToAny.mk c aP ?_
  rw [Q]
  exact gC [0]
 subst hz
 try dsimp only at h
 rw [congrFun Q p]
 apply sq
 apply sq
 obtain ⟨aM, T, h⟩ := bindE h
 rcases bb (!aM) with y | y
 ·rw [if_pos y] at h
  refine rk fun K hK => ?_
  simp
  refine callB (.cons (.sl _ _ _ _ _ (by simp; rfl) rfl (by simp) (by simp)) (.nil _)) (c_spec_WorldValid n p _ T) (by simp) (by simp) (fun a9 aq => ?_)
  subst aq
  refine ⟨by simp, ?_⟩
  simp [y]
  apply hK
  refine cT ?_
  refine sZ ?_
  cases h
  apply TrD.ret
  refine exitDG (σ' := ⟨(updD (updD (fun _ => .any) 2 (.slice 2 (List.map rGData []))) 3 (eB false)), hOfO [], 0, 101⟩) ?_ ?_
  ·refine (Ghost.raise 41 (by simp; rfl)).trans ?_
   exact gC [] (ht := ((va.u (d0 := (.sl 2 41 0)) (by simp) (v_frz (by simp; rfl) rfl (by simp) (by simp) (rv_free (by simp) (by simp)))).f))
  dsimp only [resD]
  exact eF
 rw [iN y] at h
 obtain ⟨aN, aA, h⟩ := bindE h
 refine rk fun K hK => ?_
 simp
 refine callB (.cons (.sl _ _ _ _ _ (by simp; rfl) rfl (by simp) (by simp)) (.nil _)) (c_spec_WorldValid n p _ T) (by simp) (by simp) (fun ba ar => ?_)
 subst ar
 refine ⟨by simp, ?_⟩
 simp [y]
 refine callB (.cons (.sl _ _ _ _ _ (by simp; rfl) rfl (by simp) (by simp)) (.nil _)) (c_spec_l1Text n p _ aA) (by simp) (by simp) (fun bb au => ?_)
 subst au
 refine ⟨by simp, ?_⟩
 simp
 apply hK
 refine TrD.cond (b := !seq2 aN p0) (by simp) (fun A => ?_) (fun A => ?_)
 ·rw [if_pos A] at h
  refine sZ ?_ fun K hK => by simp [A]; exact hK
  cases h
  apply TrD.ret
  refine exitDG (σ' := ⟨(updD (updD (fun _ => .any) 2 (.slice 2 (List.map rGData []))) 3 (eB false)), hOfO [], 0, 101⟩) ?_ ?_
  ·refine (Ghost.raise 73 (by simp; rfl)).trans ?_
   exact gC [] (ht := ((va.u (d0 := (.sl 2 73 0)) (by simp) (v_frz (by simp; rfl) rfl (by simp) (by simp) (rv_free (by simp) (by simp)))).f))
  dsimp only [resD]
  exact eF
 rw [iN A] at h
 apply TrD.skip
 refine sZ ?_ fun K hK => by simp [A]; exact hK
 cases h
 apply TrD.ret
 refine exitDG (σ' := ⟨(updD (updD (fun _ => .any) 2 (.slice 2 (List.map rGData p))) 3 (eB true)), hOfO [], 0, 101⟩) ?_ ?_
 ·refine (Ghost.raise 0 (by simp; rfl)).trans ?_
  exact gC [] (ht := ((va.u (d0 := (.sl 2 0 (p).length)) (by simp) (v_frz (by simp; rfl) rfl (by simp) (by simp) (rv_free (by simp) (by simp)))).f))
 dsimp only [resD]
 exact eF
theorem c_spec_l1Is (p0 : (List GData)) (p1 : GType) (res : Bool) (h : m_spec_l1Is p0 p1 = some res) : CallsD Tryz.prog 0o00266 [(.slice 2 (List.map rGData p0)), (.agg (rGType p1))] (fun d => d = (eB res)) := by
 unfold m_spec_l1Is at h
 refine CD Tryz.func182 [.tmp 4] fun β hβ => ?_
 refine sZ ?_
 apply sq
 obtain ⟨r5, hr5, h⟩ := bindE h
 rcases bb r5 with hb6 | hb6
 ·rw [if_pos hb6] at h
  refine rk fun K hK => ?_
  simp
  refine cp (c_spec_l1Arg (lenZ p0.length) p1 _ hr5) ?_
  simp [hb6]
  apply hK
  cases h
  apply TrD.ret
  exact xD
 rw [iN hb6] at h
 refine rk fun K hK => ?_
 simp
 refine cp (c_spec_l1Arg (lenZ p0.length) p1 _ hr5) ?_
 simp [hb6]
 apply hK
 cases h
 apply TrD.ret
 exact xD
theorem c_spec_TypeValid (n : Nat) (p0 : (List GData)) (p1 : GType) (res : Bool) (h : m_spec_TypeValid n p0 p1 = some res) : CallsD Tryz.prog 0o00153 [(.slice 2 (List.map rGData p0)), (.agg (rGType p1))] (fun d => d = (eB res)) := by
 unfold m_spec_TypeValid at h
 refine CD Tryz.func107 [.tmp 4] fun β hβ => ?_
 refine sZ ?_
 apply sq
 obtain ⟨r7, hr7, h⟩ := bindE h
 rcases bb r7 with hb8 | hb8
 ·rw [if_pos hb8] at h
  obtain ⟨r9, hr9, h⟩ := bindE h
  refine rk fun K hK => ?_
  simp
  refine cp (c_spec_WorldValid n p0 _ hr7) ?_
  simp [hb8]
  refine cp (c_spec_l1Is p0 p1 _ hr9) ?_
  simp [hb8]
  apply hK
  cases h
  apply TrD.ret
  exact xD
 rw [iN hb8] at h
 refine rk fun K hK => ?_
 simp
 refine cp (c_spec_WorldValid n p0 _ hr7) ?_
 simp [hb8]
 apply hK
 cases h
 apply TrD.ret
 exact xD
theorem c_spec_l1Result (p0 : GCtor) (p1 : Int) (res : Int) (h : m_spec_l1Result p0 p1 = some res) : CallsD Tryz.prog 0o00320 [(.agg (rGCtor p0)), (eI p1)] (fun d => d = (eI res)) := by
 unfold m_spec_l1Result at h
 refine CD Tryz.func208 [.tmp 4] fun β hβ => ?_
 refine sZ ?_
 apply sq
 refine sZ ?_
 refine TrD.cond (b := ieq p0.index 0) (by simp) (fun hb2 => ?_) (fun hb2 => ?_)
 ·rw [if_pos hb2] at h
  refine sZ ?_ fun K hK => by simp [hb2]; exact hK
  cases h
  apply TrD.ret
  exact xD
 rw [iN hb2] at h
 apply TrD.skip
 refine sZ ?_ fun K hK => by simp [hb2]; exact hK
 cases h
 apply TrD.ret
 exact xD
theorem c_spec_l1Args (p0 : (List GData)) (p1 : GType) (p2 : Int) (res : (List GType)) (h : m_spec_l1Args p0 p1 p2 = some res) : CallsD Tryz.prog 0o00213 [(.slice 2 (List.map rGData p0)), (.agg (rGType p1)), (eI p2)] (fun d => d = (.slice 2 (List.map rGType res))) := by
 unfold m_spec_l1Args at h
 refine CD Tryz.func139 [.tmp 6] fun β hβ => ?_
 refine sZ ?_
 refine sZ ?_
 apply sq
 obtain ⟨x1, hx1, h⟩ := bindE h
 obtain ⟨x2, hx2, h⟩ := bindE h
 refine rZ ?_ fun K hK => by simp [idx_inb hx1, idx_row hx1, idx_inb hx2, idx_row hx2]; exact hK
 apply sq
 refine sZ ?_
 obtain ⟨E, A, h⟩ := bindE h
 obtain ⟨v, r⟩ : ∃ S : (List GType) → St, S = fun i => ⟨(updD (fun _ => .any) 7 (.sl 2 0 (i).length)), hOfO [some ⟨2, (List.map rGType i), 0, 0x0019⟩], 1, 46⟩ := ⟨_, rfl⟩
 refine TrD.joinQ v (fun z => E = Ctl.brk z) (fun _ _ hg h => TrD.ghost hg h) ?_ (fun i hz => ?_)
 ·apply TrD.block
  obtain ⟨w, m⟩ : ∃ S : Nat → (List GType) → St, S = fun e a => ⟨(updD (updD (updD (updD (fun _ => .any) 4 (.ptr 2 0 0 0)) 7 (.sl 2 1 (a).length)) 8 (.ptr 3 2 0 0)) 9 (eI (e : Int))), hOfO [some ⟨2, [(rGType p1)], 0, 0x0019⟩, some ⟨2, (List.map rGType a), 0, 0x0019⟩, some ⟨3, [(rGCtor x2)], 0, 0x00c0⟩], 3, 46⟩ := ⟨_, rfl⟩
  refine TrD.limS (sz := 2) (rows := List.map rGType x2.args) (seen_cell (d := .slice 2 (List.map rGType x2.args)) 104 0 1 (by simp; rfl) rfl (by simp)) (fun hlim => ?_)
  rw [List.length_map] at hlim
  refine TrD.forL w A hlim ?_ (fun e l a t J N D j O f I H => ?_) (fun a G => ?_)
  ·rw [m]
   exact gC [0, 16, 104]
  ·rw [congrFun (congrFun m e) a]
   apply sq
   refine sZ ?_ fun K hK => by simp [D]; exact hK
   refine cT ?_
   apply TrD.skip
   apply sq
   apply TrD.block
   refine sZ ?_ fun K hK => by simp [idx_inb t, idx_row t]; exact hK
   obtain ⟨F, g, f⟩ := bindE f
   obtain ⟨y, o⟩ : ∃ S : Int → St, S = fun p => ⟨(updD (updD (updD (updD (updD (fun _ => .any) 4 (.ptr 2 0 0 0)) 7 (.sl 2 1 (a).length)) 8 (.ptr 3 2 0 0)) 9 (eI (e : Int))) 10 (.ptr 2 3 0 0)), hOfO [some ⟨2, [(rGType p1)], 0, 0x0019⟩, some ⟨2, (List.map rGType a), 0, 0x0019⟩, some ⟨3, [(rGCtor x2)], 0, 0x00c0⟩, some ⟨2, [[(eI l.data), (eI p)]], 0, 0x0019⟩], 4, 46⟩ := ⟨_, rfl⟩
   refine TrD.join y (fun z => F = Ctl.brk z) ?_ (fun p hz => ?_)
   ·refine sZ ?_
    refine TrD.cond (b := ieq l.index (-1)) (by simp) (fun c => ?_) (fun c => ?_)
    ·rw [if_pos c] at g
     obtain ⟨u, C, g⟩ := bindE g
     refine rk fun K hK => ?_
     simp [c]
     refine cp (c_spec_l1Result x2 p1.index _ C) ?_
     simp
     apply hK
     cases g
     refine ToAny.mk u rfl ?_
     rw [o]
     exact gC [0, 1, 2, 83]
    rw [iN c] at g
    apply TrD.skip
    cases g
    refine ToAny.mk l.index rfl ?_
    rw [o]
    exact gC [0, 1, 2, 83]
   subst hz
   try dsimp only at f
   rw [congrFun o p]
   obtain ⟨q, n, f⟩ := bindE f
   have s := (app_some n).2
   try simp only [List.length_cons, List.length_nil, Nat.zero_add] at s
   refine rZ ?_ fun K hK => by simp [s]; exact hK
   refine rZ ?_
   cases f
   refine ToAny.mk q rfl ?_
   rw [m]
   exact gc [0, 28, 2] hβ ((((va.p 0 (by simp [j])).s 28 (by simp [(app_some n).1, j])).p 2 (by simp [j])).f (by simp [j])) ((ln.f.f (by simp [(app_some n).1])).f)
  rw [congrFun (congrFun m _) a]
  apply sq
  refine sZ ?_ fun K hK => by simp [ilt_len x2.args.length]; exact hK
  refine cF ?_
  refine TrD.exit ?_
  try simp only [↓reduceIte, Nat.reduceEqDiff, Nat.zero_ne_one, Nat.one_ne_zero, OfNat.ofNat_ne_zero, OfNat.zero_ne_ofNat, OfNat.one_ne_ofNat, OfNat.ofNat_ne_one]
  refine ToAny.mk a G ?_
  rw [r]
  exact gC [1]
 subst hz
 try dsimp only at h
 rw [congrFun r i]
 refine sk fun K hK => ?_
 simp
 apply hK
 obtain rfl := Option.some.inj h
 refine TrD.ret ?_
 refine exitDG (σ' := ⟨(updD (fun _ => .any) 6 (.slice 2 (List.map rGType i))), hOfO [], 0, 46⟩) ?_ ?_
 ·refine (Ghost.raise 0 (by simp; rfl)).trans ?_
  exact Ghost.canonV 0 [] _ _ hβ (keep_first (by decide)) (by decide) (vT_upd (v_of (d0 := (.sl 2 0 (i).length)) (by simp) (v_frz (by simp; rfl) rfl (by simp) (by simp) (rv_free (by simp) (by simp)))) (vT_any _)) .nil
 dsimp only [resD]
 refine endF ?_ ?_ <;> simp [packD]
theorem c_spec_l3Kids (p0 : Int) (res : Int) (h : m_spec_l3Kids p0 = some res) : CallsD Tryz.prog 0o00406 [(eI p0)] (fun d => d = (eI res)) := by
 unfold m_spec_l3Kids at h
 refine CD Tryz.func262 [.tmp 2] fun β hβ => ?_
 refine sZ ?_
 apply sq
 refine sZ ?_
 apply TrD.block
 refine sZ ?_
 refine TrD.cond (b := ieq p0 5) (by simp) (fun hb4 => ?_) (fun hb4 => ?_)
 ·rw [if_pos hb4] at h
  refine sZ ?_ fun K hK => by simp [hb4]; exact hK
  cases h
  apply TrD.ret
  exact xD
 rw [iN hb4] at h
 refine sZ ?_ fun K hK => by simp [hb4]; exact hK
 refine TrD.cond (b := ieq p0 6) (by simp) (fun hb5 => ?_) (fun hb5 => ?_)
 ·rw [if_pos hb5] at h
  refine sZ ?_ fun K hK => by simp [hb5]; exact hK
  cases h
  apply TrD.ret
  exact xD
 rw [iN hb5] at h
 refine sZ ?_ fun K hK => by simp [hb5]; exact hK
 refine TrD.cond (b := ieq p0 4) (by simp) (fun hb6 => ?_) (fun hb6 => ?_)
 ·rw [if_pos hb6] at h
  refine sZ ?_ fun K hK => by simp [hb6]; exact hK
  cases h
  apply TrD.ret
  exact xD
 rw [iN hb6] at h
 apply TrD.skip
 refine sZ ?_ fun K hK => by simp [hb6]; exact hK
 cases h
 apply TrD.ret
 exact xD
theorem c_spec_l3Types (n : Nat) (p0 : (List GData)) (p1 : GType) (p2 : GPattern) (res : (List GType)) (h : m_spec_l3Types n p0 p1 p2 = some res) : CallsD Tryz.prog 0o00314 [(.slice 2 (List.map rGData p0)), (.agg (rGType p1)), (.agg (rGPattern p2))] (fun d => d = (.slice 2 (List.map rGType res))) := by
 unfold m_spec_l3Types at h
 refine CD Tryz.func204 [.tmp 6] fun β hβ => ?_
 refine sZ ?_
 apply sq
 refine sZ ?_
 refine TrD.cond (b := ieq p2.op 4) (by simp) (fun hb4 => ?_) (fun hb4 => ?_)
 ·rw [if_pos hb4] at h
  apply sq
  obtain ⟨r5, hr5, h⟩ := bindE h
  refine rk fun K hK => ?_
  simp [hb4]
  refine cp (c_spec_l1Args p0 p1 p2.ctor _ hr5) ?_
  simp
  apply hK
  cases h
  apply TrD.ret
  exact xD
 rw [iN hb4] at h
 apply TrD.skip
 refine sZ ?_ fun K hK => by simp [hb4]; exact hK
 apply sq
 refine sZ ?_
 obtain ⟨u, q, h⟩ := bindE h
 obtain ⟨o, l⟩ : ∃ S : ((List GType) × Int) → St, S = fun e => ⟨(updD (fun _ => .any) 7 (.sl 2 0 (e.1).length)), hOfO [some ⟨2, (List.map rGType e.1), 0, 0x0019⟩], 1, 30⟩ := ⟨_, rfl⟩
 refine TrD.joinQ o (fun z => u = Ctl.brk z) (fun _ _ hg h => TrD.ghost hg h) ?_ (fun e hz => ?_)
 ·apply TrD.block
  obtain ⟨p, i⟩ : ∃ S : ((List GType) × Int) → St, S = fun a => ⟨(updD (updD (updD (updD (fun _ => .any) 4 (.ptr 2 0 0 0)) 5 (.ptr 6 1 0 0)) 7 (.sl 2 2 (a.1).length)) 8 (eI a.2)), hOfO [some ⟨2, [(rGType p1)], 0, 0x0019⟩, some ⟨6, [(rGPattern p2)], 0, 0x0029⟩, some ⟨2, (List.map rGType a.1), 0, 0x0019⟩], 3, 30⟩ := ⟨_, rfl⟩
  refine TrD.whileL p q ?_ (fun a y c w r => ?_)
  ·rw [i]
   exact gC [0, 8, 48]
  rw [congrFun i a]
  apply sq
  apply sq
  obtain ⟨v, t, c⟩ := bindE c
  refine rk fun K hK => ?_
  simp
  refine cp (c_spec_l3Kids p2.op _ t) ?_
  simp
  apply hK
  refine TrD.cond (b := ilt a.2 v) (by simp) (fun f => ?_) (fun f => ?_)
  ·rw [if_pos f] at c
   apply TrD.skip
   apply sq
   apply TrD.block
   obtain ⟨j, g, c⟩ := bindE c
   have m := (app_some g).2
   try simp only [List.length_cons, List.length_nil, Nat.zero_add] at m
   refine rZ ?_ fun K hK => by simp [f, m]; exact hK
   refine rZ ?_
   cases c
   refine ToAny.mk (j, wadd .i64 a.2 1) rfl ?_
   rw [i]
   exact gc [0, 1, 67] hβ ((((va.p 0).p 1).s 67 (by simp [(app_some g).1])).f) (((ln.f (by simp [(app_some g).1])).f).f)
  rw [iN f] at c
  refine TrD.exit ?_
  try simp only [↓reduceIte, Nat.reduceEqDiff, Nat.zero_ne_one, Nat.one_ne_zero, OfNat.ofNat_ne_zero, OfNat.zero_ne_ofNat, OfNat.one_ne_ofNat, OfNat.ofNat_ne_one]
  cases c
  obtain rfl := r _ rfl
  refine ToAny.mk (a.1, a.2) rfl ?_
  rw [l]
  exact gC [2]
 subst hz
 try dsimp only at h
 rw [congrFun l e]
 refine sZ ?_
 cases h
 apply TrD.ret
 refine exitDG (σ' := ⟨(updD (fun _ => .any) 6 (.slice 2 (List.map rGType e.1))), hOfO [], 0, 30⟩) ?_ ?_
 ·refine (Ghost.raise 0 (by simp; rfl)).trans ?_
  exact gC [] (ht := (va.u (d0 := (.sl 2 0 (e.1).length)) (by simp) (v_frz (by simp; rfl) rfl (by simp) (by simp) (rv_free (by simp) (by simp)))))
 dsimp only [resD]
 exact eF
theorem c_spec_l1Fits (p0 : GCtor) (p1 : Int) (res : Bool) (h : m_spec_l1Fits p0 p1 = some res) : CallsD Tryz.prog 0o00316 [(.agg (rGCtor p0)), (eI p1)] (fun d => d = (eB res)) := by
 unfold m_spec_l1Fits at h
 refine CD Tryz.func206 [.tmp 4] fun β hβ => ?_
 refine sZ ?_
 apply sq
 rcases bb (ieq p0.index 0) with hb3 | hb3
 ·rw [if_pos hb3] at h
  refine rZ ?_ fun K hK => by simp [hb3]; exact hK
  cases h
  apply TrD.ret
  exact xD
 rw [iN hb3] at h
 rcases bb (ieq p1 0) with hb4 | hb4
 ·rw [if_pos hb4] at h
  refine rZ ?_ fun K hK => by simp [hb3, hb4]; exact hK
  cases h
  apply TrD.ret
  exact xD
 rw [iN hb4] at h
 refine rZ ?_ fun K hK => by simp [hb3, hb4]; exact hK
 cases h
 apply TrD.ret
 exact xD
end Go.Proofs.YtmkamncbkkahjaaGreat
