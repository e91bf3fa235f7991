import Derived.Test.YtmkamncbkkahjaaGreatJMir
import Derived.Test.YtmkamncbkkahjaaGreatJAuto
import Derived.Test.YtmkamncbkkahjaaGreatJC5
import Derived.Test.YtmkamncbkkahjaaGreatJAuI
import Derived.Test.YtmkamncbkkahjaaGreatJC4
set_option linter.unusedSimpArgs false
set_option linter.unusedVariables false
set_option linter.unusedSimpArgs false
set_option linter.unusedVariables false
namespace Go.Proofs.YtmkamncbkkahjaaGreat
open Go Go.RowKit
set_option maxRecDepth 100000
set_option maxHeartbeats 20000000
instance i_spec_l11Under : ∀ (n : Nat) (p0 : GPattern) (p1 : Int), Ct (m_spec_l11Under n p0 p1) fun res => CallsD Tryz.prog 0o00061 [(.agg (rGPattern p0)), (eI p1)] (fun d => d = (eB res)) :=
 ar (au Tryz.func49 m_spec_l11Under.eq_2 (.o (.o (.b fun (p0 : GPattern) => .o (.lc 0 5 6 rGPattern p0.kids (.f [] [] [1, 2, 5] [0] (fun (k279 : Nat) (s275 : Unit) => [(5, eI (k279 : Int))]) (fun k279 s275 => []) (fun k279 s275 => .o (.j 4 0 [1, 2, 5] [0] (fun (s303 : Unit) => []) (fun _ => []) .z (fun _ => .z))) (fun s283 => .z)))))))
end Go.Proofs.YtmkamncbkkahjaaGreat
set_option linter.unusedSimpArgs false
set_option linter.unusedVariables false
namespace Go.Proofs.YtmkamncbkkahjaaGreat
open Go Go.RowKit
set_option maxRecDepth 100000
set_option maxHeartbeats 20000000
theorem c_spec_l3Copy : ∀ (n : Nat) (p0 : GPattern) (res : GPattern), m_spec_l3Copy n p0 = some res → CallsD Tryz.prog 0o00155 [(.agg (rGPattern p0))] (fun d => d = (.agg (rGPattern res))) := by
 intro n
 induction n with
 | zero => intro p0 res h; cases h
 | succ n ih =>
  intro p0 res h
  rw [m_spec_l3Copy.eq_2] at h
  refine CD Tryz.func109 [.cell 2 41] fun β hβ => ?_
  refine sZ ?_
  refine sZ ?_
  refine sZ ?_
  apply sq
  refine sZ ?_
  obtain ⟨y, t, h⟩ := bindE h
  obtain ⟨r, o⟩ : ∃ S : (List GPattern) → St, S = fun e => ⟨(updD (updD (fun _ => .any) 2 (.ptr 6 0 0 0)) 3 (.ptr 6 1 0 0)), hOfO [some ⟨6, [[(eI 0), (eI 0), (eI 0), (eI 0), (eI 0), .nil]], 0, 0x0029⟩, some ⟨6, [[(eI p0.op), (eI p0.ctor), (eI p0.n), (eI p0.m), (eI p0.var), (.sl 6 2 (e).length)]], 0, 0x0029⟩, some ⟨6, (List.map rGPattern e), 0, 0x0029⟩], 3, 26⟩ := ⟨_, rfl⟩
  refine TrD.joinQ r (fun z => y = Ctl.brk z) (fun _ _ hg h => TrD.ghost hg h) ?_ (fun e hz => ?_)
  ·apply TrD.block
   obtain ⟨s, i⟩ : ∃ S : Nat → (List GPattern) → St, S = fun c a => ⟨(updD (updD (updD (updD (fun _ => .any) 1 (.ptr 6 0 0 0)) 2 (.ptr 6 1 0 0)) 3 (.ptr 6 2 0 0)) 4 (eI (c : Int))), hOfO [some ⟨6, [(rGPattern p0)], 0, 0x0029⟩, some ⟨6, [[(eI 0), (eI 0), (eI 0), (eI 0), (eI 0), .nil]], 0, 0x0029⟩, some ⟨6, [[(eI p0.op), (eI p0.ctor), (eI p0.n), (eI p0.m), (eI p0.var), (.sl 6 3 (a).length)]], 0, 0x0029⟩, some ⟨6, (List.map rGPattern a), 0, 0x0029⟩], 4, 26⟩ := ⟨_, rfl⟩
   refine TrD.limS (sz := 6) (rows := List.map rGPattern p0.kids) (seen_cell (d := .slice 6 (List.map rGPattern p0.kids)) 0 0 5 (by simp; rfl) rfl (by simp)) (fun hlim => ?_)
   rw [List.length_map] at hlim
   refine TrD.forL s t hlim ?_ (fun c B a q E F w g G f D C => ?_) (fun a A => ?_)
   ·rw [i]
    refine (Ghost.ownNilCell 24 5 6 0x0029 (by simp; rfl) rfl (by simp) (by simp)).trans ?_
    exact gC [0, 8, 24, 64]
   ·rw [congrFun (congrFun i c) a]
    apply sq
    refine sZ ?_ fun K hK => by simp [w]; exact hK
    refine cT ?_
    apply TrD.skip
    apply sq
    apply TrD.block
    refine TrD.ghost (σ' := ⟨(updD (updD (updD (updD (fun _ => .any) 1 (.ptr 6 0 0 0)) 2 (.ptr 6 1 0 0)) 3 (.ptr 6 2 0 0)) 4 (eI (c : Int))), hOfO [some ⟨6, [(rGPattern p0)], 0, 0x0029⟩, some ⟨6, [[(eI 0), (eI 0), (eI 0), (eI 0), (eI 0), .nil]], 0, 0x0029⟩, some ⟨6, [[(eI p0.op), (eI p0.ctor), (eI p0.n), (eI p0.m), (eI p0.var), (.sl 6 3 (a).length)]], 0, 0x0029⟩, some ⟨6, (List.map rGPattern a), 0, 0x0029⟩], 4, 26⟩) ?_ ?_
    ·exact gC [0, 1, 2, 3]
    obtain ⟨I, v, f⟩ := bindE f
    obtain ⟨l, j, f⟩ := bindE f
    have p := (app_some j).2
    try simp only [List.length_cons, List.length_nil, Nat.zero_add] at p
    refine TrD.draw tysOk mixed [0, 1, 2, 3, 4, 5, 6, 7, 8, 9, 10, 11] [0, 2] [24] (by rfl) rfl (fun K hK => ?_)
    simp [idx_inb q, idx_row q]
    refine cp (ih B _ v) ?_
    simp [p]
    apply hK
    refine rZ ?_
    cases f
    refine ToAny.mk l rfl ?_
    rw [i]
    exact Ghost.canonV 0 [0, 1, 2, 20] _ _ hβ (keep_first (by decide)) (by decide) (vT_upd (v_of (d0 := (eI (wadd .i64 (c : Int) 1))) (by simp [g]) (v_free (by simp) (by simp [g]))) (vT_upd (v_of (d0 := (.ptr 6 2 0 0)) (by simp [g]) (v_ptr rfl)) (vT_upd (v_of (d0 := (.ptr 6 1 0 0)) (by simp [g]) (v_ptr rfl)) (vT_upd (v_of (d0 := (.ptr 6 0 0 0)) (by simp [g]) (v_ptr rfl)) (vT_any _))))) (.cons (lv (L := ⟨6, [(rGPattern p0)], 0, 0x0029⟩) (by simp) rfl rfl (by simp) (rv_free (by simp) (by simp))) (.cons (lv (L := ⟨6, [[(eI 0), (eI 0), (eI 0), (eI 0), (eI 0), .nil]], 0, 0x0029⟩) (by simp) rfl rfl (by simp) (rv_cons (.cons (v_free (by simp) (by simp)) (.cons (v_free (by simp) (by simp)) (.cons (v_free (by simp) (by simp)) (.cons (v_free (by simp) (by simp)) (.cons (v_free (by simp) (by simp)) (.cons (v_free (by simp) (by simp)) .nil)))))) rv_nil)) (.cons (lv (L := ⟨6, [[(eI p0.op), (eI p0.ctor), (eI p0.n), (eI p0.m), (eI p0.var), (.sl 6 20 (l).length)]], 0, 0x0029⟩) (by simp [(app_some j).1]) rfl rfl (by simp) (rv_cons (.cons (v_free (by simp) (by simp)) (.cons (v_free (by simp) (by simp)) (.cons (v_free (by simp) (by simp)) (.cons (v_free (by simp) (by simp)) (.cons (v_free (by simp) (by simp)) (.cons (v_sl rfl) .nil)))))) rv_nil)) (.cons (lv (L := ⟨6, (List.map rGPattern l), 0, 0x0029⟩) (by simp [(app_some j).1]) rfl rfl (by simp) (rv_free (by simp [(app_some j).1]) (free_rows_of fr_GPattern _))) .nil))))
   rw [congrFun (congrFun i _) a]
   apply sq
   refine sZ ?_ fun K hK => by simp [ilt_len p0.kids.length]; exact hK
   refine cF ?_
   refine TrD.exit ?_
   try simp only [↓reduceIte, Nat.reduceEqDiff, Nat.zero_ne_one, Nat.one_ne_zero, OfNat.ofNat_ne_zero, OfNat.zero_ne_ofNat, OfNat.one_ne_ofNat, OfNat.ofNat_ne_one]
   refine ToAny.mk a A ?_
   rw [o]
   exact gC [1, 2, 3]
  subst hz
  try dsimp only at h
  rw [congrFun o e]
  refine sZ ?_
  cases h
  apply TrD.ret
  refine exitDG (σ' := ⟨(updD (fun _ => .any) 2 (.ptr 6 0 0 0)), hOfO [some ⟨6, [(rGPattern (GPattern.mk p0.op p0.ctor p0.n p0.m p0.var e))], 0, 0x0029⟩], 1, 26⟩) ?_ ?_
  ·refine (Ghost.raise 2 (by simp; rfl)).trans ?_
   exact gC [0] (hh := (ln.c (lv (L := ⟨6, [[(eI p0.op), (eI p0.ctor), (eI p0.n), (eI p0.m), (eI p0.var), (.sl 6 2 (e).length)]], 0, 0x0029⟩) (by simp) rfl rfl (by simp) (rv_consr (rGPattern_eq _) (.cons (v_free (by simp) (by simp)) (.cons (v_free (by simp) (by simp)) (.cons (v_free (by simp) (by simp)) (.cons (v_free (by simp) (by simp)) (.cons (v_free (by simp) (by simp)) (.cons (v_frz (by simp; rfl) rfl (by simp) (by simp) (rv_free (by simp) (by simp))) .nil)))))) rv_nil))))
  simp [resD]
  exact eF
instance i_spec_l3Copy : ∀ (n : Nat) (p0 : GPattern), Ct (m_spec_l3Copy n p0) fun res => CallsD Tryz.prog 0o00155 [(.agg (rGPattern p0))] (fun d => d = (.agg (rGPattern res))) := fun n p0 => ⟨c_spec_l3Copy n p0⟩
end Go.Proofs.YtmkamncbkkahjaaGreat
set_option linter.unusedSimpArgs false
set_option linter.unusedVariables false
namespace Go.Proofs.YtmkamncbkkahjaaGreat
open Go Go.RowKit
set_option maxRecDepth 100000
set_option maxHeartbeats 20000000
instance i_spec_l11Range : ∀ (p0 : GGuard), Ct (m_spec_l11Range p0) fun res => CallsD Tryz.prog 0o00156 [(.agg (rGGuard p0))] (fun d => d = .tup [(eI res.1), (eI res.2)]) :=
 au Tryz.func110 m_spec_l11Range.eq_1 (.o (.i (.g [1] [0] [] [] (.d [0, 1, 2, 3, 4] [0] [] .z)) (.g [1] [0] [] [] (.d [0, 1, 2, 3, 4, 5] [0] [] .z))))
end Go.Proofs.YtmkamncbkkahjaaGreat
set_option linter.unusedSimpArgs false
set_option linter.unusedVariables false
namespace Go.Proofs.YtmkamncbkkahjaaGreat
open Go Go.RowKit
set_option maxRecDepth 100000
set_option maxHeartbeats 20000000
theorem c_spec_l5Meet : ∀ (n : Nat) (p0 : GPattern) (p1 : GPattern) (res : GPattern × Bool), m_spec_l5Meet n p0 p1 = some res → CallsD Tryz.prog 0o00364 [(.agg (rGPattern p0)), (.agg (rGPattern p1))] (fun d => d = .tup [(.agg (rGPattern res.1)), (eB res.2)]) := by
 intro n
 induction n with
 | zero => intro p0 p1 res h; cases h
 | succ n ih =>
  intro p0 p1 res h
  rw [m_spec_l5Meet.eq_2] at h
  refine CD Tryz.func244 [.cell 4 41, .tmp 5] fun β hβ => ?_
  refine sZ ?_
  apply sq
  apply TrD.block
  refine sZ ?_
  refine TrD.cond (b := ieq p0.op 1) (by simp) (fun q => ?_) (fun q => ?_)
  ·rw [if_pos q] at h
   refine sZ ?_ fun K hK => by simp [q]; exact hK
   cases h
   apply TrD.ret
   exact xD
  rw [iN q] at h
  refine sZ ?_ fun K hK => by simp [q]; exact hK
  refine TrD.cond (b := ieq p1.op 1) (by simp) (fun r => ?_) (fun r => ?_)
  ·rw [if_pos r] at h
   refine sZ ?_ fun K hK => by simp [r]; exact hK
   cases h
   apply TrD.ret
   exact xD
  rw [iN r] at h
  refine sZ ?_ fun K hK => by simp [r]; exact hK
  refine TrD.cond (b := ieq p0.op 3) (by simp) (fun s => ?_) (fun s => ?_)
  ·rw [if_pos s] at h
   refine sZ ?_ fun K hK => by simp [s]; exact hK
   refine sZ ?_
   obtain ⟨V, u, h⟩ := bindE h
   obtain ⟨J, A⟩ : ∃ S : Int → St, S = fun e => ⟨(updD (updD (updD (updD (fun _ => .any) 3 (.ptr 6 0 0 0)) 4 (.ptr 6 1 0 0)) 6 (eI e)) 7 (eI p0.m)), hOfO [some ⟨6, [(rGPattern p1)], 0, 0x0029⟩, some ⟨6, [[(eI 0), (eI 0), (eI 0), (eI 0), (eI 0), .nil]], 0, 0x0029⟩], 2, 89⟩ := ⟨_, rfl⟩
   refine TrD.join J (fun z => V = Ctl.brk z) ?_ (fun e hz => ?_)
   ·refine sZ ?_
    refine TrD.cond (b := ilt p0.n p1.n) (by simp) (fun f => ?_) (fun f => ?_)
    ·rw [if_pos f] at u
     refine rZ ?_ fun K hK => by simp [f]; exact hK
     cases u
     refine ToAny.mk p1.n rfl ?_
     rw [A]
     exact gC [8, 16]
    rw [iN f] at u
    apply TrD.skip
    cases u
    refine ToAny.mk p0.n rfl ?_
    rw [A]
    exact gC [8, 16]
   subst hz
   try dsimp only at h
   rw [congrFun A e]
   obtain ⟨W, v, h⟩ := bindE h
   obtain ⟨N, B⟩ : ∃ S : Int → St, S = fun i => ⟨(updD (updD (updD (fun _ => .any) 4 (.ptr 6 0 0 0)) 6 (eI e)) 7 (eI i)), hOfO [some ⟨6, [[(eI 0), (eI 0), (eI 0), (eI 0), (eI 0), .nil]], 0, 0x0029⟩], 1, 89⟩ := ⟨_, rfl⟩
   refine TrD.join N (fun z => W = Ctl.brk z) ?_ (fun i hz => ?_)
   ·refine sZ ?_
    refine TrD.cond (b := ilt p1.m p0.m) (by simp) (fun g => ?_) (fun g => ?_)
    ·rw [if_pos g] at v
     refine rZ ?_ fun K hK => by simp [g]; exact hK
     cases v
     refine ToAny.mk p1.m rfl ?_
     rw [B]
     exact gC [1]
    rw [iN g] at v
    apply TrD.skip
    cases v
    refine ToAny.mk p0.m rfl ?_
    rw [B]
    exact gC [1]
   subst hz
   try dsimp only at h
   rw [congrFun B i]
   refine sZ ?_
   cases h
   apply TrD.ret
   refine exitDG (σ' := ⟨(updD (updD (fun _ => .any) 4 (.ptr 6 0 0 0)) 5 (eB (ile e i))), hOfO [some ⟨6, [(rGPattern (GPattern.mk 3 0 e i 0 []))], 0, 0x0029⟩], 1, 89⟩) ?_ ?_
   ·exact gC [0]
   simp [resD]
   exact eF
  rw [iN s] at h
  refine sZ ?_ fun K hK => by simp [s]; exact hK
  refine TrD.cond (b := !ieq p0.ctor p1.ctor) (by simp) (fun t => ?_) (fun t => ?_)
  ·rw [if_pos t] at h
   refine sZ ?_ fun K hK => by simp [t]; exact hK
   cases h
   apply TrD.ret
   refine exitDG (σ' := ⟨(updD (updD (fun _ => .any) 4 (.ptr 6 0 0 0)) 5 (eB false)), hOfO [some ⟨6, [(rGPattern (GPattern.mk 0 0 0 0 0 []))], 0, 0x0029⟩], 1, 89⟩) ?_ ?_
   ·exact gC [16]
   simp [resD]
   exact eF
  rw [iN t] at h
  apply TrD.skip
  refine sZ ?_ fun K hK => by simp [t]; exact hK
  apply sq
  refine sZ ?_
  obtain ⟨U, O, h⟩ := bindE h
  obtain ⟨H, D⟩ : ∃ S : (List GPattern) → St, S = fun o => ⟨(updD (updD (fun _ => .any) 4 (.ptr 6 0 0 0)) 8 (.ptr 6 1 0 0)), hOfO [some ⟨6, [[(eI 0), (eI 0), (eI 0), (eI 0), (eI 0), .nil]], 0, 0x0029⟩, some ⟨6, [[(eI 4), (eI p0.ctor), (eI 0), (eI 0), (eI 0), (.sl 6 2 (o).length)]], 0, 0x0029⟩, some ⟨6, (List.map rGPattern o), 0, 0x0029⟩], 3, 89⟩ := ⟨_, rfl⟩
  refine TrD.joinQ H (fun z => U = Ctl.brk z) (fun _ _ hg h => TrD.ghost hg h) ?_ (fun o hz => ?_)
  ·apply TrD.block
   obtain ⟨I, w⟩ : ∃ S : Nat → (List GPattern) → St, S = fun j a => ⟨(updD (updD (updD (updD (updD (fun _ => .any) 2 (.ptr 6 0 0 0)) 3 (.ptr 6 1 0 0)) 4 (.ptr 6 2 0 0)) 8 (.ptr 6 3 0 0)) 9 (eI (j : Int))), hOfO [some ⟨6, [(rGPattern p0)], 0, 0x0029⟩, some ⟨6, [(rGPattern p1)], 0, 0x0029⟩, some ⟨6, [[(eI 0), (eI 0), (eI 0), (eI 0), (eI 0), .nil]], 0, 0x0029⟩, some ⟨6, [[(eI 4), (eI p0.ctor), (eI 0), (eI 0), (eI 0), (.sl 6 4 (a).length)]], 0, 0x0029⟩, some ⟨6, (List.map rGPattern a), 0, 0x0029⟩], 5, 89⟩ := ⟨_, rfl⟩
   refine TrD.limS (sz := 6) (rows := List.map rGPattern p0.kids) (seen_cell (d := .slice 6 (List.map rGPattern p0.kids)) 0 0 5 (by simp; rfl) rfl (by simp)) (fun hlim => ?_)
   rw [List.length_map] at hlim
   refine TrD.forL I O hlim ?_ (fun j Z a G ac ad T l ae c R ab => ?_) (fun a Y => ?_)
   ·rw [w]
    refine (Ghost.ownNilCell 200 5 6 0x0029 (by simp; rfl) rfl (by simp) (by simp)).trans ?_
    exact gC [0, 8, 16, 200, 224]
   ·rw [congrFun (congrFun w j) a]
    apply sq
    refine sZ ?_ fun K hK => by simp [T]; exact hK
    refine cT ?_
    apply TrD.skip
    apply sq
    apply TrD.block
    apply sq
    refine TrD.ghost (σ' := ⟨(updD (updD (updD (updD (updD (fun _ => .any) 2 (.ptr 6 0 0 0)) 3 (.ptr 6 1 0 0)) 4 (.ptr 6 2 0 0)) 8 (.ptr 6 3 0 0)) 9 (eI (j : Int))), hOfO [some ⟨6, [(rGPattern p0)], 0, 0x0029⟩, some ⟨6, [(rGPattern p1)], 0, 0x0029⟩, some ⟨6, [[(eI 0), (eI 0), (eI 0), (eI 0), (eI 0), .nil]], 0, 0x0029⟩, some ⟨6, [[(eI 4), (eI p0.ctor), (eI 0), (eI 0), (eI 0), (.sl 6 4 (a).length)]], 0, 0x0029⟩, some ⟨6, (List.map rGPattern a), 0, 0x0029⟩], 5, 89⟩) ?_ ?_
    ·exact gC [0, 1, 2, 3, 4]
    obtain ⟨aa, E, c⟩ := bindE c
    obtain ⟨X, Q, c⟩ := bindE c
    refine TrD.drawZ tysOk mixed [0, 1, 2, 3, 4, 5, 6, 7, 8, 9, 10, 11, 12, 13, 14, 15, 16] [0, 1] [1048586] [] [] (by rfl) rfl 2097152 (Nat.le_of_ble_eq_true rfl) (.inr ⟨Nat.le_of_ble_eq_true rfl, rfl⟩) (fun K hK => ?_)
    simp [idx_inb G, idx_row G, idx_inb E, idx_row E]
    refine cp (ih Z aa _ Q) ?_
    simp
    apply hK
    apply sq
    refine sZ ?_
    refine TrD.cond (b := (!X.2)) (by simp) (fun p => ?_) (fun p => ?_)
    ·rw [if_pos p] at c
     refine sZ ?_ fun K hK => by simp [p]; exact hK
     cases c
     obtain rfl := R _ rfl
     cases h
     apply TrD.ret
     refine exitDG (σ' := ⟨(updD (updD (fun _ => .any) 4 (.ptr 6 0 0 0)) 5 (eB false)), hOfO [some ⟨6, [(rGPattern (GPattern.mk 0 0 0 0 0 []))], 0, 0x0029⟩], 1, 89⟩) ?_ ?_
     ·exact gC [2]
     simp [resD]
     exact eF
    rw [iN p] at c
    apply TrD.skip
    obtain ⟨C, y, c⟩ := bindE c
    have F := (app_some y).2
    try simp only [List.length_cons, List.length_nil, Nat.zero_add] at F
    refine rZ ?_ fun K hK => by simp [p, F]; exact hK
    refine rZ ?_
    cases c
    refine ToAny.mk C rfl ?_
    rw [w]
    exact Ghost.canonV 0 [0, 1, 2, 3, 2097216] _ _ hβ (keep_first (by decide)) (by decide) (vT_upd (v_of (d0 := (eI (wadd .i64 (j : Int) 1))) (by simp [l]) (v_free (by simp) (by simp [l]))) (vT_upd (v_of (d0 := (.ptr 6 3 0 0)) (by simp [l]) (v_ptr rfl)) (vT_upd (v_of (d0 := (.ptr 6 2 0 0)) (by simp [l]) (v_ptr rfl)) (vT_upd (v_of (d0 := (.ptr 6 1 0 0)) (by simp [l]) (v_ptr rfl)) (vT_upd (v_of (d0 := (.ptr 6 0 0 0)) (by simp [l]) (v_ptr rfl)) (vT_any _)))))) (.cons (lv (L := ⟨6, [(rGPattern p0)], 0, 0x0029⟩) (by simp) rfl rfl (by simp) (rv_free (by simp) (by simp))) (.cons (lv (L := ⟨6, [(rGPattern p1)], 0, 0x0029⟩) (by simp) rfl rfl (by simp) (rv_free (by simp) (by simp))) (.cons (lv (L := ⟨6, [[(eI 0), (eI 0), (eI 0), (eI 0), (eI 0), .nil]], 0, 0x0029⟩) (by simp) rfl rfl (by simp) (rv_cons (.cons (v_free (by simp) (by simp)) (.cons (v_free (by simp) (by simp)) (.cons (v_free (by simp) (by simp)) (.cons (v_free (by simp) (by simp)) (.cons (v_free (by simp) (by simp)) (.cons (v_free (by simp) (by simp)) .nil)))))) rv_nil)) (.cons (lv (L := ⟨6, [[(eI 4), (eI p0.ctor), (eI 0), (eI 0), (eI 0), (.sl 6 2097216 (C).length)]], 0, 0x0029⟩) (by simp [(app_some y).1]) rfl rfl (by simp) (rv_cons (.cons (v_free (by simp) (by simp)) (.cons (v_free (by simp) (by simp)) (.cons (v_free (by simp) (by simp)) (.cons (v_free (by simp) (by simp)) (.cons (v_free (by simp) (by simp)) (.cons (v_sl rfl) .nil)))))) rv_nil)) (.cons (lv (L := ⟨6, (List.map rGPattern C), 0, 0x0029⟩) (by simp [(app_some y).1]) rfl rfl (by simp) (rv_free (by simp [(app_some y).1]) (free_rows_of fr_GPattern _))) .nil)))))
   rw [congrFun (congrFun w _) a]
   apply sq
   refine sZ ?_ fun K hK => by simp [ilt_len p0.kids.length]; exact hK
   refine cF ?_
   refine TrD.exit ?_
   try simp only [↓reduceIte, Nat.reduceEqDiff, Nat.zero_ne_one, Nat.one_ne_zero, OfNat.ofNat_ne_zero, OfNat.zero_ne_ofNat, OfNat.one_ne_ofNat, OfNat.ofNat_ne_one]
   refine ToAny.mk a Y ?_
   rw [D]
   exact gC [2, 3, 4]
  subst hz
  try dsimp only at h
  rw [congrFun D o]
  refine sZ ?_
  cases h
  apply TrD.ret
  refine exitDG (σ' := ⟨(updD (updD (fun _ => .any) 4 (.ptr 6 0 0 0)) 5 (eB true)), hOfO [some ⟨6, [(rGPattern (GPattern.mk 4 p0.ctor 0 0 0 o))], 0, 0x0029⟩], 1, 89⟩) ?_ ?_
  ·refine (Ghost.raise 2 (by simp; rfl)).trans ?_
   exact gC [0] (hh := (ln.c (lv (L := ⟨6, [[(eI 4), (eI p0.ctor), (eI 0), (eI 0), (eI 0), (.sl 6 2 (o).length)]], 0, 0x0029⟩) (by simp) rfl rfl (by simp) (rv_consr (rGPattern_eq _) (.cons (v_free (by simp) (by simp)) (.cons (v_free (by simp) (by simp)) (.cons (v_free (by simp) (by simp)) (.cons (v_free (by simp) (by simp)) (.cons (v_free (by simp) (by simp)) (.cons (v_frz (by simp; rfl) rfl (by simp) (by simp) (rv_free (by simp) (by simp))) .nil)))))) rv_nil))))
  simp [resD]
  exact eF
instance i_spec_l5Meet : ∀ (n : Nat) (p0 : GPattern) (p1 : GPattern), Ct (m_spec_l5Meet n p0 p1) fun res => CallsD Tryz.prog 0o00364 [(.agg (rGPattern p0)), (.agg (rGPattern p1))] (fun d => d = .tup [(.agg (rGPattern res.1)), (eB res.2)]) := fun n p0 p1 => ⟨c_spec_l5Meet n p0 p1⟩
end Go.Proofs.YtmkamncbkkahjaaGreat
set_option linter.unusedSimpArgs false
set_option linter.unusedVariables false
namespace Go.Proofs.YtmkamncbkkahjaaGreat
open Go Go.RowKit
set_option maxRecDepth 100000
set_option maxHeartbeats 20000000
instance i_spec_l11Narrow : ∀ (n : Nat) (p0 : GPattern) (p1 : Int) (p2 : Int), Ct (m_spec_l11Narrow n p0 p1 p2) fun res => CallsD Tryz.prog 0o00267 [(.agg (rGPattern p0)), (eI p1), (eI p2)] (fun d => d = .tup [(.agg (rGPattern res.1)), (eB res.2)]) :=
 ar (au Tryz.func183 m_spec_l11Narrow.eq_2 (.o (.o (.o (.o (.o (.i .z (.i .z (.i .z (.i (.o (.o (.o (.o (.j 12 0 [6, 10, 11, 12, 13] [8, 184, 288] (fun (s41 : Unit) => []) (fun _ => []) .z (fun _ => .z)))))) .z))))))))))
theorem c_spec_l11Narrow (n : Nat) (p0 : GPattern) (p1 : Int) (p2 : Int) : ∀ res, m_spec_l11Narrow n p0 p1 p2 = some res → CallsD Tryz.prog 0o00267 [(.agg (rGPattern p0)), (eI p1), (eI p2)] (fun d => d = .tup [(.agg (rGPattern res.1)), (eB res.2)]) := (i_spec_l11Narrow n p0 p1 p2).pf
end Go.Proofs.YtmkamncbkkahjaaGreat
set_option linter.unusedSimpArgs false
set_option linter.unusedVariables false
namespace Go.Proofs.YtmkamncbkkahjaaGreat
open Go Go.RowKit
set_option maxRecDepth 100000
set_option maxHeartbeats 20000000
theorem c_spec_l11Put : ∀ (n : Nat) (p0 : GPattern) (p1 : Int) (p2 : Int) (p3 : Int) (res : GPattern × Bool), m_spec_l11Put n p0 p1 p2 p3 = some res → CallsD Tryz.prog 0o00157 [(.agg (rGPattern p0)), (eI p1), (eI p2), (eI p3)] (fun d => d = .tup [(.agg (rGPattern res.1)), (eB res.2)]) := by
 intro n
 induction n with
 | zero => intro p0 p1 p2 p3 res h; cases h
 | succ n ih =>
  intro p0 p1 p2 p3 res h
  rw [m_spec_l11Put.eq_2] at h
  refine CD Tryz.func111 [.cell 8 41, .tmp 9] fun β hβ => ?_
  refine sZ ?_
  obtain ⟨U, a, h⟩ := bindE h
  obtain ⟨F, r⟩ : ∃ S : Unit → St, S = fun C => ⟨(updD (updD (updD (updD (updD (fun _ => .any) 1 (eI p1)) 2 (eI p2)) 3 (eI p3)) 4 (.ptr 6 0 0 0)) 8 (.ptr 6 1 0 0)), hOfO [some ⟨6, [(rGPattern p0)], 0, 0x0029⟩, some ⟨6, [[(eI 0), (eI 0), (eI 0), (eI 0), (eI 0), .nil]], 0, 0x0029⟩], 2, 65⟩ := ⟨_, rfl⟩
  refine TrD.join F (fun z => U = Ctl.brk z) ?_ (fun C hz => ?_)
  ·apply sq
   rcases bb (ieq p0.op 2) with j | j
   ·rw [if_pos j] at a
    refine rZ ?_ fun K hK => by simp [j]; exact hK
    refine TrD.cond (b := ieq p0.var p1) (by simp) (fun c => ?_) (fun c => ?_)
    ·rw [if_pos c] at a
     apply sq
     obtain ⟨u, O, a⟩ := bindE a
     refine rk fun K hK => ?_
     simp [c]
     refine cp (c_spec_l11Narrow n p0 p2 p3 _ O) ?_
     simp
     apply hK
     cases a
     cases h
     apply TrD.ret
     exact xD
    rw [iN c] at a
    apply TrD.skip
    cases a
    refine ToAny.mk () rfl ?_
    rw [r]
    exact gC [0, 8]
   rw [iN j] at a
   rcases bb (ieq p0.op 6) with p | p
   ·rw [if_pos p] at a
    refine rZ ?_ fun K hK => by simp [j, p]; exact hK
    refine TrD.cond (b := ieq p0.var p1) (by simp) (fun e => ?_) (fun e => ?_)
    ·rw [if_pos e] at a
     apply sq
     obtain ⟨v, P, a⟩ := bindE a
     refine rk fun K hK => ?_
     simp [e]
     refine cp (c_spec_l11Narrow n p0 p2 p3 _ P) ?_
     simp
     apply hK
     cases a
     cases h
     apply TrD.ret
     exact xD
    rw [iN e] at a
    apply TrD.skip
    cases a
    refine ToAny.mk () rfl ?_
    rw [r]
    exact gC [0, 8]
   rw [iN p] at a
   refine rZ ?_ fun K hK => by simp [j, p]; exact hK
   refine cF ?_
   apply TrD.skip
   cases a
   refine ToAny.mk () rfl ?_
   rw [r]
   exact gC [0, 8]
  subst hz
  try dsimp only at h
  rw [congrFun r C]
  refine sZ ?_
  refine sZ ?_
  apply sq
  refine sZ ?_
  obtain ⟨T, G, h⟩ := bindE h
  obtain ⟨D, y⟩ : ∃ S : (List GPattern) → St, S = fun l => ⟨(updD (updD (fun _ => .any) 8 (.ptr 6 0 0 0)) 10 (.ptr 6 1 0 0)), hOfO [some ⟨6, [[(eI 0), (eI 0), (eI 0), (eI 0), (eI 0), .nil]], 0, 0x0029⟩, some ⟨6, [[(eI p0.op), (eI p0.ctor), (eI p0.n), (eI p0.m), (eI p0.var), (.sl 6 2 (l).length)]], 0, 0x0029⟩, some ⟨6, (List.map rGPattern l), 0, 0x0029⟩], 3, 65⟩ := ⟨_, rfl⟩
  refine TrD.joinQ D (fun z => T = Ctl.brk z) (fun _ _ hg h => TrD.ghost hg h) ?_ (fun l hz => ?_)
  ·apply TrD.block
   obtain ⟨E, q⟩ : ∃ S : Nat → (List GPattern) → St, S = fun t f => ⟨(updD (updD (updD (updD (updD (updD (updD (fun _ => .any) 1 (eI p1)) 2 (eI p2)) 3 (eI p3)) 4 (.ptr 6 0 0 0)) 8 (.ptr 6 1 0 0)) 10 (.ptr 6 2 0 0)) 11 (eI (t : Int))), hOfO [some ⟨6, [(rGPattern p0)], 0, 0x0029⟩, some ⟨6, [[(eI 0), (eI 0), (eI 0), (eI 0), (eI 0), .nil]], 0, 0x0029⟩, some ⟨6, [[(eI p0.op), (eI p0.ctor), (eI p0.n), (eI p0.m), (eI p0.var), (.sl 6 3 (f).length)]], 0, 0x0029⟩, some ⟨6, (List.map rGPattern f), 0, 0x0029⟩], 4, 65⟩ := ⟨_, rfl⟩
   refine TrD.limS (sz := 6) (rows := List.map rGPattern p0.kids) (seen_cell (d := .slice 6 (List.map rGPattern p0.kids)) 0 0 5 (by simp; rfl) rfl (by simp)) (fun hlim => ?_)
   rw [List.length_map] at hlim
   refine TrD.forL E G hlim ?_ (fun t X f B Z aa R i ab g Q Y => ?_) (fun f W => ?_)
   ·rw [q]
    refine (Ghost.ownNilCell 10 5 6 0x0029 (by simp; rfl) rfl (by simp) (by simp)).trans ?_
    exact gC [0, 1, 10, 50]
   ·rw [congrFun (congrFun q t) f]
    apply sq
    refine sZ ?_ fun K hK => by simp [R]; exact hK
    refine cT ?_
    apply TrD.skip
    apply sq
    apply TrD.block
    apply sq
    obtain ⟨V, N, g⟩ := bindE g
    refine rk fun K hK => ?_
    simp [idx_inb B, idx_row B]
    refine cp (ih X p1 p2 p3 _ N) ?_
    simp
    apply hK
    apply sq
    refine sZ ?_
    refine TrD.cond (b := (!V.2)) (by simp) (fun o => ?_) (fun o => ?_)
    ·rw [if_pos o] at g
     refine sZ ?_ fun K hK => by simp [o]; exact hK
     cases g
     obtain rfl := Q _ rfl
     cases h
     apply TrD.ret
     refine exitDG (σ' := ⟨(updD (updD (fun _ => .any) 8 (.ptr 6 0 0 0)) 9 (eB false)), hOfO [some ⟨6, [(rGPattern (GPattern.mk 0 0 0 0 0 []))], 0, 0x0029⟩], 1, 65⟩) ?_ ?_
     ·exact gC [1]
     simp [resD]
     exact eF
    rw [iN o] at g
    apply TrD.skip
    obtain ⟨w, s, g⟩ := bindE g
    have A := (app_some s).2
    try simp only [List.length_cons, List.length_nil, Nat.zero_add] at A
    refine rZ ?_ fun K hK => by simp [o, A]; exact hK
    refine rZ ?_
    cases g
    refine ToAny.mk w rfl ?_
    rw [q]
    exact Ghost.canonV 0 [0, 1, 2, 212] _ _ hβ (keep_first (by decide)) (by decide) (vT_upd (v_of (d0 := (eI (wadd .i64 (t : Int) 1))) (by simp [i]) (v_free (by simp) (by simp [i]))) (vT_upd (v_of (d0 := (.ptr 6 2 0 0)) (by simp [i]) (v_ptr rfl)) (vT_upd (v_of (d0 := (.ptr 6 1 0 0)) (by simp [i]) (v_ptr rfl)) (vT_upd (v_of (d0 := (.ptr 6 0 0 0)) (by simp [i]) (v_ptr rfl)) (vT_upd (v_of (d0 := (eI p3)) (by simp [i]) (v_free (by simp) (by simp))) (vT_upd (v_of (d0 := (eI p2)) (by simp [i]) (v_free (by simp) (by simp))) (vT_upd (v_of (d0 := (eI p1)) (by simp [i]) (v_free (by simp) (by simp))) (vT_any _)))))))) (.cons (lv (L := ⟨6, [(rGPattern p0)], 0, 0x0029⟩) (by simp) rfl rfl (by simp) (rv_free (by simp) (by simp))) (.cons (lv (L := ⟨6, [[(eI 0), (eI 0), (eI 0), (eI 0), (eI 0), .nil]], 0, 0x0029⟩) (by simp) rfl rfl (by simp) (rv_cons (.cons (v_free (by simp) (by simp)) (.cons (v_free (by simp) (by simp)) (.cons (v_free (by simp) (by simp)) (.cons (v_free (by simp) (by simp)) (.cons (v_free (by simp) (by simp)) (.cons (v_free (by simp) (by simp)) .nil)))))) rv_nil)) (.cons (lv (L := ⟨6, [[(eI p0.op), (eI p0.ctor), (eI p0.n), (eI p0.m), (eI p0.var), (.sl 6 212 (w).length)]], 0, 0x0029⟩) (by simp [(app_some s).1]) rfl rfl (by simp) (rv_cons (.cons (v_free (by simp) (by simp)) (.cons (v_free (by simp) (by simp)) (.cons (v_free (by simp) (by simp)) (.cons (v_free (by simp) (by simp)) (.cons (v_free (by simp) (by simp)) (.cons (v_sl rfl) .nil)))))) rv_nil)) (.cons (lv (L := ⟨6, (List.map rGPattern w), 0, 0x0029⟩) (by simp [(app_some s).1]) rfl rfl (by simp) (rv_free (by simp [(app_some s).1]) (free_rows_of fr_GPattern _))) .nil))))
   rw [congrFun (congrFun q _) f]
   apply sq
   refine sZ ?_ fun K hK => by simp [ilt_len p0.kids.length]; exact hK
   refine cF ?_
   refine TrD.exit ?_
   try simp only [↓reduceIte, Nat.reduceEqDiff, Nat.zero_ne_one, Nat.one_ne_zero, OfNat.ofNat_ne_zero, OfNat.zero_ne_ofNat, OfNat.one_ne_ofNat, OfNat.ofNat_ne_one]
   refine ToAny.mk f W ?_
   rw [y]
   exact gC [1, 2, 3]
  subst hz
  try dsimp only at h
  rw [congrFun y l]
  refine sZ ?_
  cases h
  apply TrD.ret
  refine exitDG (σ' := ⟨(updD (updD (fun _ => .any) 8 (.ptr 6 0 0 0)) 9 (eB true)), hOfO [some ⟨6, [(rGPattern (GPattern.mk p0.op p0.ctor p0.n p0.m p0.var l))], 0, 0x0029⟩], 1, 65⟩) ?_ ?_
  ·refine (Ghost.raise 2 (by simp; rfl)).trans ?_
   exact gC [0] (hh := (ln.c (lv (L := ⟨6, [[(eI p0.op), (eI p0.ctor), (eI p0.n), (eI p0.m), (eI p0.var), (.sl 6 2 (l).length)]], 0, 0x0029⟩) (by simp) rfl rfl (by simp) (rv_consr (rGPattern_eq _) (.cons (v_free (by simp) (by simp)) (.cons (v_free (by simp) (by simp)) (.cons (v_free (by simp) (by simp)) (.cons (v_free (by simp) (by simp)) (.cons (v_free (by simp) (by simp)) (.cons (v_frz (by simp; rfl) rfl (by simp) (by simp) (rv_free (by simp) (by simp))) .nil)))))) rv_nil))))
  simp [resD]
  exact eF
instance i_spec_l11Put : ∀ (n : Nat) (p0 : GPattern) (p1 : Int) (p2 : Int) (p3 : Int), Ct (m_spec_l11Put n p0 p1 p2 p3) fun res => CallsD Tryz.prog 0o00157 [(.agg (rGPattern p0)), (eI p1), (eI p2), (eI p3)] (fun d => d = .tup [(.agg (rGPattern res.1)), (eB res.2)]) := fun n p0 p1 p2 p3 => ⟨c_spec_l11Put n p0 p1 p2 p3⟩
end Go.Proofs.YtmkamncbkkahjaaGreat
set_option linter.unusedSimpArgs false
set_option linter.unusedVariables false
namespace Go.Proofs.YtmkamncbkkahjaaGreat
open Go Go.RowKit
set_option maxRecDepth 100000
set_option maxHeartbeats 20000000
instance i_spec_l11Guard : ∀ (n : Nat) (p0 : GClause), Ct (m_spec_l11Guard n p0) fun res => CallsD Tryz.prog 0o00062 [(.agg (rGClause p0))] (fun d => d = .tup [(.agg (rGClause res.1)), (eB res.2)]) :=
 au Tryz.func50 m_spec_l11Guard.eq_1 .z
end Go.Proofs.YtmkamncbkkahjaaGreat
set_option linter.unusedSimpArgs false
set_option linter.unusedVariables false
namespace Go.Proofs.YtmkamncbkkahjaaGreat
open Go Go.RowKit
set_option maxRecDepth 100000
set_option maxHeartbeats 20000000
instance i_spec_GuardPattern : ∀ (n : Nat) (p0 : (List GData)) (p1 : GType) (p2 : GClause), Ct (m_spec_GuardPattern n p0 p1 p2) fun res => CallsD Tryz.prog 0o00024 [(.slice 2 (List.map rGData p0)), (.agg (rGType p1)), (.agg (rGClause p2))] (fun d => d = .tup [(.agg (rGClause res.1)), (eB res.2)]) :=
 au Tryz.func20 m_spec_GuardPattern.eq_1 (.o (.o (.o (.o (.j 1 0 [0, 4, 5, 6] [0, 8, 16] (fun (s15 : Unit) => []) (fun _ => []) .z (fun _ => .z))))))
theorem c_spec_GuardPattern (n : Nat) (p0 : (List GData)) (p1 : GType) (p2 : GClause) : ∀ res, m_spec_GuardPattern n p0 p1 p2 = some res → CallsD Tryz.prog 0o00024 [(.slice 2 (List.map rGData p0)), (.agg (rGType p1)), (.agg (rGClause p2))] (fun d => d = .tup [(.agg (rGClause res.1)), (eB res.2)]) := (i_spec_GuardPattern n p0 p1 p2).pf
end Go.Proofs.YtmkamncbkkahjaaGreat
set_option linter.unusedSimpArgs false
set_option linter.unusedVariables false
namespace Go.Proofs.YtmkamncbkkahjaaGreat
open Go Go.RowKit
set_option maxRecDepth 100000
set_option maxHeartbeats 20000000
theorem c_slices_EqualFunc_Clause (p0 : (List GClause)) (p1 : (List GClause)) (p2_f : FuncId) (p2_c : List D) (p2_x : ∀ d ∈ p2_c, Free d) (p2 : (GClause → GClause → Option Bool)) (p2_h : ∀ a0 a1 r, p2 a0 a1 = some r → CallsD Tryz.prog p2_f ([(.agg (rGClause a0)), (.agg (rGClause a1))] ++ p2_c) (fun d => d = (eB r))) (res : Bool) (h : m_slices_EqualFunc_Clause p0 p1 p2 = some res) : CallsD Tryz.prog 0o00100 [(.slice 9 (List.map rGClause p0)), (.slice 9 (List.map rGClause p1)), .clos p2_f p2_c] (fun d => d = (eB res)) := by
 unfold m_slices_EqualFunc_Clause at h
 have p2_y : Free (.clos p2_f p2_c) := free_clos p2_x
 have p2_z := eq_true p2_x
 refine CD Tryz.func64 [.tmp 6] fun β hβ => ?_
 refine sZ ?_
 apply sq
 refine sZ ?_
 refine TrD.cond (b := !ieq (lenZ p0.length) (lenZ p1.length)) (by simp) (fun hb2 => ?_) (fun hb2 => ?_)
 ·rw [if_pos hb2] at h
  refine sZ ?_ fun K hK => by simp [hb2]; exact hK
  cases h
  apply TrD.ret
  exact xD
 rw [iN hb2] at h
 apply TrD.skip
 apply sq
 refine sZ ?_ fun K hK => by simp [hb2]; exact hK
 obtain ⟨w, q, h⟩ := bindE h
 obtain ⟨o, j⟩ : ∃ S : Unit → St, S = fun n => ⟨(fun _ => .any), hOfO [], 0, 32⟩ := ⟨_, rfl⟩
 refine TrD.joinQ o (fun z => w = Ctl.brk z) (fun _ _ hg h => TrD.ghost hg h) ?_ (fun n hz => ?_)
 ·apply TrD.block
  obtain ⟨p, g⟩ : ∃ S : Nat → Unit → St, S = fun i f => ⟨(updD (updD (updD (updD (updD (fun _ => .any) 1 (.slice 9 (List.map rGClause p1))) 2 (.clos p2_f p2_c)) 15 (.slice 9 (List.map rGClause p0))) 16 (eI (lenZ p0.length))) 17 (eI (i : Int))), hOfO [], 0, 32⟩ := ⟨_, rfl⟩
  refine TrD.limS (sz := 9) (rows := List.map rGClause p0) (seen_slot (d := .slice 9 (List.map rGClause p0)) 0 (by simp)) (fun hlim => ?_)
  rw [List.length_map] at hlim
  refine TrD.forL p q hlim ?_ (fun i B f m F G v c H a u E => ?_) (fun f A => ?_)
  ·rw [g]
   exact gc [] hβ ((((va.f.f (by simp) (by simp [p2_y])).f).f).f) ln
  ·rw [congrFun (congrFun g i) f]
   refine sZ ?_ fun K hK => by simp [v]; exact hK
   apply sq
   refine cT ?_
   apply TrD.skip
   apply sq
   apply TrD.block
   refine sZ ?_ fun K hK => by simp [idx_inb m, idx_row m]; exact hK
   apply sq
   obtain ⟨C, l, a⟩ := bindE a
   refine rZ ?_ fun K hK => by simp [idx_inb l, idx_row l]; exact hK
   apply sq
   obtain ⟨y, t, a⟩ := bindE a
   refine rk fun K hK => ?_
   simp
   refine cp (p2_h B C _ t) ?_ (by simp) (by simp [p2_z])
   simp
   apply hK
   refine TrD.cond (b := (!y)) (by simp) (fun e => ?_) (fun e => ?_)
   ·rw [if_pos e] at a
    refine sZ ?_ fun K hK => by simp [e]; exact hK
    cases a
    obtain rfl := u _ rfl
    cases h
    apply TrD.ret
    exact xD
   rw [iN e] at a
   apply TrD.skip
   refine rZ ?_ fun K hK => by simp [e]; exact hK
   cases a
   refine ToAny.mk () rfl ?_
   rw [g]
   exact gc [] hβ (((((va.f (by simp [c])).f (by simp [c]) (by simp [p2_y])).f (by simp [c])).f (by simp [c])).f (by simp [c])) ln
  rw [congrFun (congrFun g _) f]
  refine sZ ?_ fun K hK => by simp [ilt_len p0.length]; exact hK
  apply sq
  refine cF ?_
  refine TrD.exit ?_
  try simp only [↓reduceIte, Nat.reduceEqDiff, Nat.zero_ne_one, Nat.one_ne_zero, OfNat.ofNat_ne_zero, OfNat.zero_ne_ofNat, OfNat.one_ne_ofNat, OfNat.ofNat_ne_one]
  refine ToAny.mk f A ?_
  rw [j]
  exact gC []
 subst hz
 try dsimp only at h
 rw [congrFun j n]
 refine sZ ?_
 cases h
 apply TrD.ret
 exact xD
instance i_slices_EqualFunc_Clause (p0 : (List GClause)) (p1 : (List GClause)) (p2 : (GClause → GClause → Option Bool)) {p2_f : FuncId} {p2_c : List D} [p2_i : CF2 (fun a0 => (.agg (rGClause a0))) (fun a1 => (.agg (rGClause a1))) (fun r => (eB r)) p2 p2_f p2_c] : Ct (m_slices_EqualFunc_Clause p0 p1 p2) fun res => CallsD Tryz.prog 0o00100 [(.slice 9 (List.map rGClause p0)), (.slice 9 (List.map rGClause p1)), .clos p2_f p2_c] (fun d => d = (eB res)) := ⟨c_slices_EqualFunc_Clause p0 p1 p2_f p2_c p2_i.fr p2 p2_i.h⟩
end Go.Proofs.YtmkamncbkkahjaaGreat
set_option linter.unusedSimpArgs false
set_option linter.unusedVariables false
namespace Go.Proofs.YtmkamncbkkahjaaGreat
open Go Go.RowKit
set_option maxRecDepth 100000
set_option maxHeartbeats 20000000
theorem c_slices_EqualFunc_Pattern (p0 : (List GPattern)) (p1 : (List GPattern)) (p2_f : FuncId) (p2_c : List D) (p2_x : ∀ d ∈ p2_c, Free d) (p2 : (GPattern → GPattern → Option Bool)) (p2_h : ∀ a0 a1 r, p2 a0 a1 = some r → CallsD Tryz.prog p2_f ([(.agg (rGPattern a0)), (.agg (rGPattern a1))] ++ p2_c) (fun d => d = (eB r))) (res : Bool) (h : m_slices_EqualFunc_Pattern p0 p1 p2 = some res) : CallsD Tryz.prog 0o00205 [(.slice 6 (List.map rGPattern p0)), (.slice 6 (List.map rGPattern p1)), .clos p2_f p2_c] (fun d => d = (eB res)) := by
 unfold m_slices_EqualFunc_Pattern at h
 have p2_y : Free (.clos p2_f p2_c) := free_clos p2_x
 have p2_z := eq_true p2_x
 refine CD Tryz.func133 [.tmp 6] fun β hβ => ?_
 refine sZ ?_
 apply sq
 refine sZ ?_
 refine TrD.cond (b := !ieq (lenZ p0.length) (lenZ p1.length)) (by simp) (fun hb2 => ?_) (fun hb2 => ?_)
 ·rw [if_pos hb2] at h
  refine sZ ?_ fun K hK => by simp [hb2]; exact hK
  cases h
  apply TrD.ret
  exact xD
 rw [iN hb2] at h
 apply TrD.skip
 apply sq
 refine sZ ?_ fun K hK => by simp [hb2]; exact hK
 obtain ⟨w, q, h⟩ := bindE h
 obtain ⟨o, j⟩ : ∃ S : Unit → St, S = fun n => ⟨(fun _ => .any), hOfO [], 0, 32⟩ := ⟨_, rfl⟩
 refine TrD.joinQ o (fun z => w = Ctl.brk z) (fun _ _ hg h => TrD.ghost hg h) ?_ (fun n hz => ?_)
 ·apply TrD.block
  obtain ⟨p, g⟩ : ∃ S : Nat → Unit → St, S = fun i f => ⟨(updD (updD (updD (updD (updD (fun _ => .any) 1 (.slice 6 (List.map rGPattern p1))) 2 (.clos p2_f p2_c)) 15 (.slice 6 (List.map rGPattern p0))) 16 (eI (lenZ p0.length))) 17 (eI (i : Int))), hOfO [], 0, 32⟩ := ⟨_, rfl⟩
  refine TrD.limS (sz := 6) (rows := List.map rGPattern p0) (seen_slot (d := .slice 6 (List.map rGPattern p0)) 0 (by simp)) (fun hlim => ?_)
  rw [List.length_map] at hlim
  refine TrD.forL p q hlim ?_ (fun i B f m F G v c H a u E => ?_) (fun f A => ?_)
  ·rw [g]
   exact gc [] hβ ((((va.f.f (by simp) (by simp [p2_y])).f).f).f) ln
  ·rw [congrFun (congrFun g i) f]
   refine sZ ?_ fun K hK => by simp [v]; exact hK
   apply sq
   refine cT ?_
   apply TrD.skip
   apply sq
   apply TrD.block
   refine sZ ?_ fun K hK => by simp [idx_inb m, idx_row m]; exact hK
   apply sq
   obtain ⟨C, l, a⟩ := bindE a
   refine rZ ?_ fun K hK => by simp [idx_inb l, idx_row l]; exact hK
   apply sq
   obtain ⟨y, t, a⟩ := bindE a
   refine rk fun K hK => ?_
   simp
   refine cp (p2_h B C _ t) ?_ (by simp) (by simp [p2_z])
   simp
   apply hK
   refine TrD.cond (b := (!y)) (by simp) (fun e => ?_) (fun e => ?_)
   ·rw [if_pos e] at a
    refine sZ ?_ fun K hK => by simp [e]; exact hK
    cases a
    obtain rfl := u _ rfl
    cases h
    apply TrD.ret
    exact xD
   rw [iN e] at a
   apply TrD.skip
   refine rZ ?_ fun K hK => by simp [e]; exact hK
   cases a
   refine ToAny.mk () rfl ?_
   rw [g]
   exact gc [] hβ (((((va.f (by simp [c])).f (by simp [c]) (by simp [p2_y])).f (by simp [c])).f (by simp [c])).f (by simp [c])) ln
  rw [congrFun (congrFun g _) f]
  refine sZ ?_ fun K hK => by simp [ilt_len p0.length]; exact hK
  apply sq
  refine cF ?_
  refine TrD.exit ?_
  try simp only [↓reduceIte, Nat.reduceEqDiff, Nat.zero_ne_one, Nat.one_ne_zero, OfNat.ofNat_ne_zero, OfNat.zero_ne_ofNat, OfNat.one_ne_ofNat, OfNat.ofNat_ne_one]
  refine ToAny.mk f A ?_
  rw [j]
  exact gC []
 subst hz
 try dsimp only at h
 rw [congrFun j n]
 refine sZ ?_
 cases h
 apply TrD.ret
 exact xD
instance i_slices_EqualFunc_Pattern (p0 : (List GPattern)) (p1 : (List GPattern)) (p2 : (GPattern → GPattern → Option Bool)) {p2_f : FuncId} {p2_c : List D} [p2_i : CF2 (fun a0 => (.agg (rGPattern a0))) (fun a1 => (.agg (rGPattern a1))) (fun r => (eB r)) p2 p2_f p2_c] : Ct (m_slices_EqualFunc_Pattern p0 p1 p2) fun res => CallsD Tryz.prog 0o00205 [(.slice 6 (List.map rGPattern p0)), (.slice 6 (List.map rGPattern p1)), .clos p2_f p2_c] (fun d => d = (eB res)) := ⟨c_slices_EqualFunc_Pattern p0 p1 p2_f p2_c p2_i.fr p2 p2_i.h⟩
end Go.Proofs.YtmkamncbkkahjaaGreat
set_option linter.unusedSimpArgs false
set_option linter.unusedVariables false
namespace Go.Proofs.YtmkamncbkkahjaaGreat
open Go Go.RowKit
set_option maxRecDepth 100000
set_option maxHeartbeats 20000000
instance i_impl_PatternSame : ∀ (n : Nat) (p0 : GPattern) (p1 : GPattern), Ct (m_impl_PatternSame n p0 p1) fun res => CallsD Tryz.prog 0o00102 [(.agg (rGPattern p0)), (.agg (rGPattern p1))] (fun d => d = (eB res)) :=
 ar (au Tryz.func66 m_impl_PatternSame.eq_2 .z)
end Go.Proofs.YtmkamncbkkahjaaGreat
set_option linter.unusedSimpArgs false
set_option linter.unusedVariables false
namespace Go.Proofs.YtmkamncbkkahjaaGreat
open Go Go.RowKit
set_option maxRecDepth 100000
set_option maxHeartbeats 20000000
instance i_impl_ClausesSame_1 : ∀ (n : Nat) (p0 : GClause) (p1 : GClause), Ct (m_impl_ClausesSame_1 n p0 p1) fun res => CallsD Tryz.prog 0o00101 [(.agg (rGClause p0)), (.agg (rGClause p1))] (fun d => d = (eB res)) :=
 au Tryz.func65 m_impl_ClausesSame_1.eq_1 .z
end Go.Proofs.YtmkamncbkkahjaaGreat
set_option linter.unusedSimpArgs false
set_option linter.unusedVariables false
namespace Go.Proofs.YtmkamncbkkahjaaGreat
open Go Go.RowKit
set_option maxRecDepth 100000
set_option maxHeartbeats 20000000
instance i_impl_ClausesSame : ∀ (n : Nat) (p0 : (List GClause)) (p1 : (List GClause)), Ct (m_impl_ClausesSame n p0 p1) fun res => CallsD Tryz.prog 0o00025 [(.slice 9 (List.map rGClause p0)), (.slice 9 (List.map rGClause p1))] (fun d => d = (eB res)) :=
 au Tryz.func21 m_impl_ClausesSame.eq_1 .z
theorem c_impl_ClausesSame (n : Nat) (p0 : (List GClause)) (p1 : (List GClause)) : ∀ res, m_impl_ClausesSame n p0 p1 = some res → CallsD Tryz.prog 0o00025 [(.slice 9 (List.map rGClause p0)), (.slice 9 (List.map rGClause p1))] (fun d => d = (eB res)) := (i_impl_ClausesSame n p0 p1).pf
end Go.Proofs.YtmkamncbkkahjaaGreat
