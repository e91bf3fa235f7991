import Derived.Test.YtmkamncbkkahjaaGreatJMir
import Derived.Test.YtmkamncbkkahjaaGreatJZap
import Derived.Test.YtmkamncbkkahjaaGreatJC5
set_option linter.unusedSimpArgs false
set_option linter.unusedVariables false
namespace Go.Proofs.YtmkamncbkkahjaaGreat
open Go Go.RowKit
set_option maxRecDepth 100000
set_option maxHeartbeats 20000000
theorem c_spec_l1ParseCtor (n : Nat) (p0 : (List ByteArray)) (p1 : ByteArray) (res : GCtor) (h : m_spec_l1ParseCtor n p0 p1 = some res) : CallsD Tryz.prog 0o00172 [(.slice 1 (List.map rS p0)), (eS p1)] (fun d => d = (.agg (rGCtor res))) := by
 unfold m_spec_l1ParseCtor at h
 refine CD Tryz.func122 [.cell 4 192] fun β hβ => ?_
 refine sZ ?_
 refine sZ ?_
 obtain ⟨ab, f, h⟩ := bindE h
 obtain ⟨Q, u⟩ : ∃ S : ByteArray × Int → St, S = fun a => ⟨(updD (updD (updD (updD (fun _ => .any) 0 (.slice 1 (List.map rS p0))) 1 (eS a.1)) 4 (.ptr 3 0 0 0)) 5 (.ptr 3 1 0 0)), hOfO [some ⟨3, [[(eS ByteArray.empty), .nil, (eI 0)]], 0, 0x00c0⟩, some ⟨3, [[(eS ByteArray.empty), .nil, (eI a.2)]], 0, 0x00c0⟩], 2, 83⟩ := ⟨_, rfl⟩
 refine TrD.join Q (fun z => ab = Ctl.brk z) ?_ (fun a hz => ?_)
 ·apply sq
  rcases bb (ilt 2 (lenZ p1.size)) with r | r
  ·rw [if_pos r] at f
   obtain ⟨af, D, f⟩ := bindE f
   refine rZ ?_ fun K hK => by simp [r, ← (sidx_some D).1, (sidx_some D).2]; exact hK
   refine TrD.cond (b := ieq af 58) (by simp) (fun j => ?_) (fun j => ?_)
   ·rw [if_pos j] at f
    apply sq
    obtain ⟨J, E, f⟩ := bindE f
    refine rZ ?_ fun K hK => by simp [j, ← (sidx_some E).1, (sidx_some E).2]; exact hK
    obtain ⟨N, F, f⟩ := bindE f
    refine rZ ?_ fun K hK => by simp [← (ssub_some F).1, (ssub_some F).2]; exact hK
    cases f
    refine ToAny.mk (N, wsub .i64 (wcv .i64 J) 48) rfl ?_
    rw [u]
    exact gC [0, 16]
   rw [iN j] at f
   apply TrD.skip
   cases f
   refine ToAny.mk (p1, 0) rfl ?_
   rw [u]
   exact gC [0, 16]
  rw [iN r] at f
  refine rZ ?_ fun K hK => by simp [r]; exact hK
  refine cF ?_
  apply TrD.skip
  cases f
  refine ToAny.mk (p1, 0) rfl ?_
  rw [u]
  exact gC [0, 16]
 subst hz
 try dsimp only at h
 rw [congrFun u a]
 apply sq
 obtain ⟨A, Y, h⟩ := bindE h
 refine rk fun K hK => ?_
 simp
 refine cp (c_spec_l17Cut n a.1 40 _ Y) ?_
 simp
 apply hK
 apply sq
 obtain ⟨e, G, h⟩ := bindE h
 refine rZ ?_ fun K hK => by simp [idx_inb G, idx_row G]; exact hK
 apply sq
 apply sq
 rcases bb (ilt (lenZ A.length) 2) with s | s
 ·rw [if_pos s] at h
  refine rZ ?_ fun K hK => by simp [s]; exact hK
  refine cT ?_
  refine sZ ?_
  cases h
  apply TrD.ret
  refine exitDG (σ' := ⟨(updD (fun _ => .any) 4 (.ptr 3 0 0 0)), hOfO [some ⟨3, [(rGCtor (GCtor.mk e [] a.2))], 0, 0x00c0⟩], 1, 83⟩) ?_ ?_
  ·exact gC [0]
  simp [resD]
  exact eF
 rw [iN s] at h
 obtain ⟨ag, w, h⟩ := bindE h
 refine rZ ?_ fun K hK => by simp [s, idx_inb w, idx_row w]; exact hK
 refine TrD.cond (b := ieq (lenZ ag.size) 0) (by simp) (fun l => ?_) (fun l => ?_)
 ·rw [if_pos l] at h
  refine sZ ?_ fun K hK => by simp [l]; exact hK
  cases h
  apply TrD.ret
  refine exitDG (σ' := ⟨(updD (fun _ => .any) 4 (.ptr 3 0 0 0)), hOfO [some ⟨3, [(rGCtor (GCtor.mk e [] a.2))], 0, 0x00c0⟩], 1, 83⟩) ?_ ?_
  ·exact gC [0]
  simp [resD]
  exact eF
 rw [iN l] at h
 apply TrD.skip
 apply sq
 refine TrD.ghost (σ' := ⟨(updD (updD (updD (updD (fun _ => .any) 0 (.slice 1 (List.map rS p0))) 4 (.ptr 3 0 0 0)) 5 (.ptr 3 1 0 0)) 6 (.slice 1 (List.map rS A))), hOfO [some ⟨3, [[(eS ByteArray.empty), .nil, (eI 0)]], 0, 0x00c0⟩, some ⟨3, [[(eS e), .nil, (eI a.2)]], 0, 0x00c0⟩], 2, 83⟩) ?_ ?_
 ·exact gC [0, 1]
 obtain ⟨ah, H, h⟩ := bindE h
 obtain ⟨m, Z, h⟩ := bindE h
 refine TrD.draw tysOk mixed [0, 1, 2, 3, 4, 5, 6, 7, 8, 9, 10] [] [] (by rfl) rfl (fun K hK => ?_)
 simp [idx_inb w, idx_row w, ← (ssub_some H).1, (ssub_some H).2]
 refine cp (c_spec_l17Cut n ah 44 _ Z) ?_
 simp
 apply hK
 apply sq
 refine sZ ?_
 obtain ⟨ac, R, h⟩ := bindE h
 obtain ⟨O, y⟩ : ∃ S : (List GType) → St, S = fun q => ⟨(updD (updD (fun _ => .any) 4 (.ptr 3 0 0 0)) 5 (.ptr 3 1 0 0)), hOfO [some ⟨3, [[(eS ByteArray.empty), .nil, (eI 0)]], 0, 0x00c0⟩, some ⟨3, [[(eS e), (.sl 2 2 (q).length), (eI a.2)]], 0, 0x00c0⟩, some ⟨2, (List.map rGType q), 0, 0x0019⟩], 3, 83⟩ := ⟨_, rfl⟩
 refine TrD.joinQ O (fun z => ac = Ctl.brk z) (fun _ _ hg h => TrD.ghost hg h) ?_ (fun q hz => ?_)
 ·apply TrD.block
  obtain ⟨P, t⟩ : ∃ S : Nat → (List GType) → St, S = fun o c => ⟨(updD (updD (updD (updD (updD (fun _ => .any) 0 (.slice 1 (List.map rS p0))) 4 (.ptr 3 0 0 0)) 5 (.ptr 3 1 0 0)) 7 (.slice 1 (List.map rS m))) 8 (eI (o : Int))), hOfO [some ⟨3, [[(eS ByteArray.empty), .nil, (eI 0)]], 0, 0x00c0⟩, some ⟨3, [[(eS e), (.sl 2 2 (c).length), (eI a.2)]], 0, 0x00c0⟩, some ⟨2, (List.map rGType c), 0, 0x0019⟩], 3, 83⟩ := ⟨_, rfl⟩
  refine TrD.limS (sz := 1) (rows := List.map rS m) (seen_slot (d := .slice 1 (List.map rS m)) 60 (by simp)) (fun hlim => ?_)
  rw [List.length_map] at hlim
  refine TrD.forL P R hlim ?_ (fun o ae c I aj ak aa p al i ai T => ?_) (fun c ad => ?_)
  ·rw [t]
   refine (Ghost.ownNilCell 1 1 2 0x0019 (by simp; rfl) rfl (by simp) (by simp)).trans ?_
   exact gC [0, 1, 18]
  ·rw [congrFun (congrFun t o) c]
   apply sq
   refine sZ ?_ fun K hK => by simp [aa]; exact hK
   refine TrD.cond (b := ile (o : Int) 3) (by simp) (fun g => ?_) (fun g => ?_)
   ·rw [if_pos g] at i
    apply TrD.skip
    apply sq
    apply TrD.block
    refine TrD.ghost (σ' := ⟨(updD (updD (updD (updD (updD (fun _ => .any) 0 (.slice 1 (List.map rS p0))) 4 (.ptr 3 0 0 0)) 5 (.ptr 3 1 0 0)) 7 (.slice 1 (List.map rS m))) 8 (eI (o : Int))), hOfO [some ⟨3, [[(eS ByteArray.empty), .nil, (eI 0)]], 0, 0x00c0⟩, some ⟨3, [[(eS e), (.sl 2 2 (c).length), (eI a.2)]], 0, 0x00c0⟩, some ⟨2, (List.map rGType c), 0, 0x0019⟩], 3, 83⟩) ?_ ?_
    ·exact gC [0, 1, 2]
    obtain ⟨ap, X, i⟩ := bindE i
    obtain ⟨B, v, i⟩ := bindE i
    have C := (app_some v).2
    try simp only [List.length_cons, List.length_nil, Nat.zero_add] at C
    refine TrD.draw tysOk mixed [0, 1, 2, 3, 4, 5, 6, 7, 8, 9, 10, 11] [1] [81] (by rfl) rfl (fun K hK => ?_)
    simp [idx_inb I, idx_row I]
    refine cp (c_spec_l1ParseType p0 ae _ X) ?_
    simp [C]
    apply hK
    refine rZ ?_
    cases i
    refine ToAny.mk B rfl ?_
    rw [t]
    exact Ghost.canonV 0 [0, 1, 19] _ _ hβ (keep_first (by decide)) (by decide) (vT_upd (v_of (d0 := (eI (wadd .i64 (o : Int) 1))) (by simp [p]) (v_free (by simp) (by simp [p]))) (vT_upd (v_of (d0 := (.slice 1 (List.map rS m))) (by simp [p]) (v_free (by simp) (by simp))) (vT_upd (v_of (d0 := (.ptr 3 1 0 0)) (by simp [p]) (v_ptr rfl)) (vT_upd (v_of (d0 := (.ptr 3 0 0 0)) (by simp [p]) (v_ptr rfl)) (vT_upd (v_of (d0 := (.slice 1 (List.map rS p0))) (by simp [p]) (v_free (by simp) (by simp))) (vT_any _)))))) (.cons (lv (L := ⟨3, [[(eS ByteArray.empty), .nil, (eI 0)]], 0, 0x00c0⟩) (by simp) rfl rfl (by simp) (rv_cons (.cons (v_free (by simp) (by simp)) (.cons (v_free (by simp) (by simp)) (.cons (v_free (by simp) (by simp)) .nil))) rv_nil)) (.cons (lv (L := ⟨3, [[(eS e), (.sl 2 19 (B).length), (eI a.2)]], 0, 0x00c0⟩) (by simp [(app_some v).1]) rfl rfl (by simp) (rv_cons (.cons (v_free (by simp) (by simp)) (.cons (v_sl rfl) (.cons (v_free (by simp) (by simp)) .nil))) rv_nil)) (.cons (lv (L := ⟨2, (List.map rGType B), 0, 0x0019⟩) (by simp [(app_some v).1]) rfl rfl (by simp) (rv_free (by simp [(app_some v).1]) (free_rows_of fr_GType _))) .nil)))
   rw [iN g] at i
   refine TrD.exit ?_
   try simp only [↓reduceIte, Nat.reduceEqDiff, Nat.zero_ne_one, Nat.one_ne_zero, OfNat.ofNat_ne_zero, OfNat.zero_ne_ofNat, OfNat.one_ne_ofNat, OfNat.ofNat_ne_one]
   cases i
   obtain rfl := T _ rfl
   refine ToAny.mk c rfl ?_
   rw [y]
   exact gC [0, 1, 2]
  rw [congrFun (congrFun t _) c]
  apply sq
  refine sZ ?_ fun K hK => by simp [ilt_len m.length]; exact hK
  refine cF ?_
  refine TrD.exit ?_
  try simp only [↓reduceIte, Nat.reduceEqDiff, Nat.zero_ne_one, Nat.one_ne_zero, OfNat.ofNat_ne_zero, OfNat.zero_ne_ofNat, OfNat.one_ne_ofNat, OfNat.ofNat_ne_one]
  refine ToAny.mk c ad ?_
  rw [y]
  exact gC [0, 1, 2]
 subst hz
 try dsimp only at h
 rw [congrFun y q]
 refine sZ ?_
 cases h
 apply TrD.ret
 refine exitDG (σ' := ⟨(updD (fun _ => .any) 4 (.ptr 3 0 0 0)), hOfO [some ⟨3, [(rGCtor (GCtor.mk e q a.2))], 0, 0x00c0⟩], 1, 83⟩) ?_ ?_
 ·refine (Ghost.raise 2 (by simp; rfl)).trans ?_
  exact gC [0] (hh := (ln.c (lv (L := ⟨3, [[(eS e), (.sl 2 2 (q).length), (eI a.2)]], 0, 0x00c0⟩) (by simp) rfl rfl (by simp) (rv_consr (rGCtor_eq _) (.cons (v_free (by simp) (by simp)) (.cons (v_frz (by simp; rfl) rfl (by simp) (by simp) (rv_free (by simp) (by simp))) (.cons (v_free (by simp) (by simp)) .nil))) rv_nil))))
 simp [resD]
 exact eF
theorem c_spec_l1Big (p0 : Int) (res : Bool) (h : m_spec_l1Big p0 = some res) : CallsD Tryz.prog 0o00373 [(.val (.int .u8 p0))] (fun d => d = (eB res)) := by
 unfold m_spec_l1Big at h
 refine CD Tryz.func251 [.tmp 2] fun β hβ => ?_
 refine sZ ?_
 apply sq
 rcases bb (ile 65 p0) with hb2 | hb2
 ·rw [if_pos hb2] at h
  refine rZ ?_ fun K hK => by simp [hb2]; exact hK
  cases h
  apply TrD.ret
  exact xD
 rw [iN hb2] at h
 refine rZ ?_ fun K hK => by simp [hb2]; exact hK
 cases h
 apply TrD.ret
 exact xD
theorem c_spec_l1Data (p0 : ByteArray) (res : Bool) (h : m_spec_l1Data p0 = some res) : CallsD Tryz.prog 0o00274 [(eS p0)] (fun d => d = (eB res)) := by
 unfold m_spec_l1Data at h
 refine CD Tryz.func188 [.tmp 2] fun β hβ => ?_
 refine sZ ?_
 apply sq
 rcases bb (ieq (lenZ p0.size) 1) with hb7 | hb7
 ·rw [if_pos hb7] at h
  obtain ⟨x8, hx8, h⟩ := bindE h
  obtain ⟨r9, hr9, h⟩ := bindE h
  rcases bb r9 with a | a
  ·rw [if_pos a] at h
   refine rk fun K hK => ?_
   simp [hb7, ← (sidx_some hx8).1, (sidx_some hx8).2]
   refine cp (c_spec_l1Big x8 _ hr9) ?_
   simp [hb7, a]
   apply hK
   cases h
   apply TrD.ret
   exact xD
  rw [iN a] at h
  refine rk fun K hK => ?_
  simp [hb7, ← (sidx_some hx8).1, (sidx_some hx8).2]
  refine cp (c_spec_l1Big x8 _ hr9) ?_
  simp [hb7, a]
  apply hK
  cases h
  apply TrD.ret
  exact xD
 rw [iN hb7] at h
 refine rZ ?_ fun K hK => by simp [hb7]; exact hK
 cases h
 apply TrD.ret
 exact xD
theorem c_spec_l1Arg (p0 : Int) (p1 : GType) (res : Bool) (h : m_spec_l1Arg p0 p1 = some res) : CallsD Tryz.prog 0o00363 [(eI p0), (.agg (rGType p1))] (fun d => d = (eB res)) := by
 unfold m_spec_l1Arg at h
 refine CD Tryz.func243 [.tmp 4] fun β hβ => ?_
 refine sZ ?_
 apply sq
 refine sZ ?_
 refine TrD.cond (b := ieq p1.data (-1)) (by simp) (fun hb2 => ?_) (fun hb2 => ?_)
 ·rw [if_pos hb2] at h
  refine sZ ?_ fun K hK => by simp [hb2]; exact hK
  cases h
  apply TrD.ret
  exact xD
 rw [iN hb2] at h
 apply TrD.skip
 apply sq
 rcases bb (ile 0 p1.data) with hb6 | hb6
 ·rw [if_pos hb6] at h
  rcases bb (ilt p1.data p0) with hb7 | hb7
  ·rw [if_pos hb7] at h
   rcases bb (ile (-1) p1.index) with hb8 | hb8
   ·rw [if_pos hb8] at h
    refine rZ ?_ fun K hK => by simp [hb2, hb6, hb7, hb8]; exact hK
    cases h
    apply TrD.ret
    exact xD
   rw [iN hb8] at h
   refine rZ ?_ fun K hK => by simp [hb2, hb6, hb7, hb8]; exact hK
   cases h
   apply TrD.ret
   exact xD
  rw [iN hb7] at h
  refine rZ ?_ fun K hK => by simp [hb2, hb6, hb7]; exact hK
  cases h
  apply TrD.ret
  exact xD
 rw [iN hb6] at h
 refine rZ ?_ fun K hK => by simp [hb2, hb6]; exact hK
 cases h
 apply TrD.ret
 exact xD
theorem c_spec_NameValid (n : Nat) (p0 : ByteArray) (res : Bool) (h : m_spec_NameValid n p0 = some res) : CallsD Tryz.prog 0o00374 [(eS p0)] (fun d => d = (eB res)) := by
 unfold m_spec_NameValid at h
 refine CD Tryz.func252 [.tmp 2] fun β hβ => ?_
 refine sZ ?_
 apply sq
 apply sq
 rcases bb (ieq (lenZ p0.size) 0) with c | c
 ·rw [if_pos c] at h
  refine rZ ?_ fun K hK => by simp [c]; exact hK
  refine cT ?_
  refine sZ ?_
  cases h
  apply TrD.ret
  exact xD
 rw [iN c] at h
 rcases bb (ilt 5 (lenZ p0.size)) with j | j
 ·rw [if_pos j] at h
  refine rZ ?_ fun K hK => by simp [c, j]; exact hK
  refine cT ?_
  refine sZ ?_
  cases h
  apply TrD.ret
  exact xD
 rw [iN j] at h
 obtain ⟨E, r, h⟩ := bindE h
 obtain ⟨D, B, h⟩ := bindE h
 refine rk fun K hK => ?_
 simp [c, j, ← (sidx_some r).1, (sidx_some r).2]
 refine cp (c_spec_l1Big E _ B) ?_
 simp [c]
 apply hK
 refine TrD.cond (b := (!D)) (by simp) (fun l => ?_) (fun l => ?_)
 ·rw [if_pos l] at h
  refine sZ ?_ fun K hK => by simp [l]; exact hK
  cases h
  apply TrD.ret
  exact xD
 rw [iN l] at h
 apply TrD.skip
 apply sq
 refine sZ ?_ fun K hK => by simp [l]; exact hK
 obtain ⟨C, w, h⟩ := bindE h
 obtain ⟨u, p⟩ : ∃ S : Int → St, S = fun s => ⟨(fun _ => .any), hOfO [], 0, 34⟩ := ⟨_, rfl⟩
 refine TrD.joinQ u (fun z => C = Ctl.brk z) (fun _ _ hg h => TrD.ghost hg h) ?_ (fun s hz => ?_)
 ·apply TrD.block
  obtain ⟨v, o⟩ : ∃ S : Int → St, S = fun e => ⟨(updD (updD (fun _ => .any) 0 (eS p0)) 3 (eI e)), hOfO [], 0, 34⟩ := ⟨_, rfl⟩
  refine TrD.whileL v w ?_ (fun e F a q y => ?_)
  ·rw [o]
   exact gC []
  rw [congrFun o e]
  apply sq
  refine sZ ?_
  refine TrD.cond (b := ilt e (lenZ p0.size)) (by simp) (fun f => ?_) (fun f => ?_)
  ·rw [if_pos f] at a
   apply TrD.skip
   apply sq
   apply TrD.block
   apply sq
   obtain ⟨t, m, a⟩ := bindE a
   rcases bb (ilt t 97) with g | g
   ·rw [if_pos g] at a
    refine rZ ?_ fun K hK => by simp [f, ← (sidx_some m).1, (sidx_some m).2, g]; exact hK
    refine cT ?_
    refine sZ ?_
    cases a
    obtain rfl := q _ rfl
    cases h
    apply TrD.ret
    exact xD
   rw [iN g] at a
   refine rZ ?_ fun K hK => by simp [f, ← (sidx_some m).1, (sidx_some m).2, g]; exact hK
   refine TrD.cond (b := ilt 122 t) (by simp) (fun i => ?_) (fun i => ?_)
   ·rw [if_pos i] at a
    refine sZ ?_ fun K hK => by simp [i]; exact hK
    cases a
    obtain rfl := q _ rfl
    cases h
    apply TrD.ret
    exact xD
   rw [iN i] at a
   apply TrD.skip
   refine rZ ?_ fun K hK => by simp [i]; exact hK
   cases a
   refine ToAny.mk (wadd .i64 e 1) rfl ?_
   rw [o]
   exact gC []
  rw [iN f] at a
  refine TrD.exit ?_
  try simp only [↓reduceIte, Nat.reduceEqDiff, Nat.zero_ne_one, Nat.one_ne_zero, OfNat.ofNat_ne_zero, OfNat.zero_ne_ofNat, OfNat.one_ne_ofNat, OfNat.ofNat_ne_one]
  cases a
  obtain rfl := y _ rfl
  refine ToAny.mk e rfl ?_
  rw [p]
  exact gC []
 subst hz
 try dsimp only at h
 rw [congrFun p s]
 refine sZ ?_
 cases h
 apply TrD.ret
 exact xD
theorem c_spec_l1Ctor (n : Nat) (p0 : Int) (p1 : GCtor) (res : Bool) (h : m_spec_l1Ctor n p0 p1 = some res) : CallsD Tryz.prog 0o00275 [(eI p0), (.agg (rGCtor p1))] (fun d => d = (eB res)) := by
 unfold m_spec_l1Ctor at h
 refine CD Tryz.func189 [.tmp 4] fun β hβ => ?_
 refine sZ ?_
 apply sq
 apply sq
 obtain ⟨I, m, h⟩ := bindE h
 rcases bb (!I) with a | a
 ·rw [if_pos a] at h
  refine rk fun K hK => ?_
  simp
  refine cp (c_spec_NameValid n p1.name _ m) ?_
  simp [a]
  apply hK
  refine cT ?_
  refine sZ ?_
  cases h
  apply TrD.ret
  exact xD
 rw [iN a] at h
 rcases bb (ilt 3 (lenZ p1.args.length)) with e | e
 ·rw [if_pos e] at h
  refine rk fun K hK => ?_
  simp
  refine cp (c_spec_NameValid n p1.name _ m) ?_
  simp [a, e]
  apply hK
  refine cT ?_
  refine sZ ?_
  cases h
  apply TrD.ret
  exact xD
 rw [iN e] at h
 rcases bb (ilt p1.index 0) with g | g
 ·rw [if_pos g] at h
  refine rk fun K hK => ?_
  simp
  refine cp (c_spec_NameValid n p1.name _ m) ?_
  simp [a, e, g]
  apply hK
  refine cT ?_
  refine sZ ?_
  cases h
  apply TrD.ret
  exact xD
 rw [iN g] at h
 refine rk fun K hK => ?_
 simp
 refine cp (c_spec_NameValid n p1.name _ m) ?_
 simp [a, e, g]
 apply hK
 refine TrD.cond (b := ilt 3 p1.index) (by simp) (fun i => ?_) (fun i => ?_)
 ·rw [if_pos i] at h
  refine sZ ?_ fun K hK => by simp [i]; exact hK
  cases h
  apply TrD.ret
  exact xD
 rw [iN i] at h
 apply TrD.skip
 apply sq
 refine sZ ?_ fun K hK => by simp [i]; exact hK
 obtain ⟨G, v, h⟩ := bindE h
 obtain ⟨t, q⟩ : ∃ S : Unit → St, S = fun s => ⟨(fun _ => .any), hOfO [], 0, 41⟩ := ⟨_, rfl⟩
 refine TrD.joinQ t (fun z => G = Ctl.brk z) (fun _ _ hg h => TrD.ghost hg h) ?_ (fun s hz => ?_)
 ·apply TrD.block
  obtain ⟨u, l⟩ : ∃ S : Nat → Unit → St, S = fun o j => ⟨(updD (updD (updD (fun _ => .any) 0 (eI p0)) 3 (.ptr 3 0 0 0)) 5 (eI (o : Int))), hOfO [some ⟨3, [(rGCtor p1)], 0, 0x00c0⟩], 1, 41⟩ := ⟨_, rfl⟩
  refine TrD.limS (sz := 2) (rows := List.map rGType p1.args) (seen_slot (d := .slice 2 (List.map rGType p1.args)) 12 (by simp)) (fun hlim => ?_)
  rw [List.length_map] at hlim
  refine TrD.forL u v hlim ?_ (fun o N j r P Q F p R c E O => ?_) (fun j J => ?_)
  ·rw [l]
   exact gC [0]
  ·rw [congrFun (congrFun l o) j]
   apply sq
   refine sZ ?_ fun K hK => by simp [F]; exact hK
   refine cT ?_
   apply TrD.skip
   apply sq
   apply TrD.block
   apply sq
   obtain ⟨H, D, c⟩ := bindE c
   refine rk fun K hK => ?_
   simp [idx_inb r, idx_row r]
   refine cp (c_spec_l1Arg p0 N _ D) ?_
   simp
   apply hK
   refine TrD.cond (b := (!H)) (by simp) (fun f => ?_) (fun f => ?_)
   ·rw [if_pos f] at c
    refine sZ ?_ fun K hK => by simp [f]; exact hK
    cases c
    obtain rfl := E _ rfl
    cases h
    apply TrD.ret
    exact xD
   rw [iN f] at c
   apply TrD.skip
   refine rZ ?_ fun K hK => by simp [f]; exact hK
   cases c
   refine ToAny.mk () rfl ?_
   rw [l]
   exact gc [0] hβ (((va.f (by simp [p])).p 0 (by simp [p])).f (by simp [p])) ln.f
  rw [congrFun (congrFun l _) j]
  apply sq
  refine sZ ?_ fun K hK => by simp [ilt_len p1.args.length]; exact hK
  refine cF ?_
  refine TrD.exit ?_
  try simp only [↓reduceIte, Nat.reduceEqDiff, Nat.zero_ne_one, Nat.one_ne_zero, OfNat.ofNat_ne_zero, OfNat.zero_ne_ofNat, OfNat.one_ne_ofNat, OfNat.ofNat_ne_one]
  refine ToAny.mk j J ?_
  rw [q]
  exact gC []
 subst hz
 try dsimp only at h
 rw [congrFun q s]
 refine sZ ?_
 cases h
 apply TrD.ret
 exact xD
theorem c_spec_l1Twice (n : Nat) (p0 : (List GData)) (p1 : Int) (p2 : Int) (res : Bool) (h : m_spec_l1Twice n p0 p1 p2 = some res) : CallsD Tryz.prog 0o00276 [(.slice 2 (List.map rGData p0)), (eI p1), (eI p2)] (fun d => d = (eB res)) := by
 unfold m_spec_l1Twice at h
 refine CD Tryz.func190 [.tmp 6] fun β hβ => ?_
 refine sZ ?_
 apply sq
 refine sZ ?_
 obtain ⟨ah, ac, h⟩ := bindE h
 obtain ⟨V, G⟩ : ∃ S : Int → St, S = fun P => ⟨(fun _ => .any), hOfO [], 0, 79⟩ := ⟨_, rfl⟩
 refine TrD.joinQ V (fun z => ah = Ctl.brk z) (fun _ _ hg h => TrD.ghost hg h) ?_ (fun P hz => ?_)
 ·apply TrD.block
  obtain ⟨X, B⟩ : ∃ S : Int → St, S = fun a => ⟨(updD (updD (updD (updD (fun _ => .any) 0 (.slice 2 (List.map rGData p0))) 1 (eI p1)) 2 (eI p2)) 7 (eI a)), hOfO [], 0, 79⟩ := ⟨_, rfl⟩
  refine TrD.whileL X ac ?_ (fun a aw c H ae => ?_)
  ·rw [B]
   exact gC []
  rw [congrFun B a]
  apply sq
  refine sZ ?_
  refine TrD.cond (b := ile a p1) (by simp) (fun q => ?_) (fun q => ?_)
  ·rw [if_pos q] at c
   apply TrD.skip
   apply sq
   apply TrD.block
   obtain ⟨ai, g, c⟩ := bindE c
   obtain ⟨Y, C⟩ : ∃ S : Unit → St, S = fun Q => ⟨(updD (updD (updD (updD (fun _ => .any) 0 (.slice 2 (List.map rGData p0))) 1 (eI p1)) 2 (eI p2)) 7 (eI a)), hOfO [], 0, 79⟩ := ⟨_, rfl⟩
   refine TrD.join Y (fun z => ai = Ctl.brk z) ?_ (fun Q hz => ?_)
   ·apply sq
    refine TrD.ghost (σ' := ⟨(updD (updD (updD (updD (fun _ => .any) 0 (.slice 2 (List.map rGData p0))) 1 (eI p1)) 2 (eI p2)) 7 (eI a)), hOfO [], 0, 79⟩) ?_ ?_
    ·exact gC []
    rcases bb (ilt a p1) with s | s
    ·rw [if_pos s] at g
     obtain ⟨an, I, g⟩ := bindE g
     obtain ⟨ao, J, g⟩ := bindE g
     refine TrD.draw tysOk mixed [0, 1, 2, 3, 4, 5, 6, 7, 8, 9, 10, 11, 12, 13, 14, 15] [] [] (by rfl) rfl (fun K hK => ?_)
     simp [s, idx_inb I, idx_row I, idx_inb J, idx_row J]
     apply hK
     refine TrD.cond (b := seq2 an.name ao.name) (by simp) (fun o => ?_) (fun o => ?_)
     ·rw [if_pos o] at g
      refine sZ ?_ fun K hK => by simp [o]; exact hK
      cases g
      cases c
      obtain rfl := H _ rfl
      cases h
      apply TrD.ret
      exact xD
     rw [iN o] at g
     apply TrD.skip
     cases g
     refine ToAny.mk () rfl ?_
     rw [C]
     exact gC []
    rw [iN s] at g
    refine TrD.draw tysOk mixed [0, 1, 2, 3, 4, 5, 6, 7, 8, 9, 10, 11, 12, 13, 14, 15] [] [] (by rfl) rfl (fun K hK => ?_)
    simp [s]
    apply hK
    refine cF ?_
    apply TrD.skip
    cases g
    refine ToAny.mk () rfl ?_
    rw [C]
    exact gC []
   subst hz
   try dsimp only at c
   rw [congrFun C Q]
   refine sZ ?_
   obtain ⟨F, m, c⟩ := bindE c
   obtain ⟨aj, ad, c⟩ := bindE c
   obtain ⟨W, A⟩ : ∃ S : Unit → St, S = fun R => ⟨(updD (updD (updD (updD (fun _ => .any) 0 (.slice 2 (List.map rGData p0))) 1 (eI p1)) 2 (eI p2)) 7 (eI a)), hOfO [], 0, 79⟩ := ⟨_, rfl⟩
   refine TrD.joinQ W (fun z => aj = Ctl.brk z) (fun _ _ hg h => TrD.ghost hg h) ?_ (fun R hz => ?_)
   ·apply TrD.block
    obtain ⟨Z, w⟩ : ∃ S : Nat → Unit → St, S = fun e v => ⟨(updD (updD (updD (updD (updD (fun _ => .any) 0 (.slice 2 (List.map rGData p0))) 1 (eI p1)) 2 (eI p2)) 7 (eI a)) 8 (eI (e : Int))), hOfO [], 0, 79⟩ := ⟨_, rfl⟩
    refine TrD.limS (sz := 3) (rows := List.map rGCtor F.ctors) (seen_elem (d := .slice 3 (List.map rGCtor F.ctors)) (seen_slot (d := .slice 2 (List.map rGData p0)) 0 (by simp)) m 1 (rGData_eq _) rfl) (fun hlim => ?_)
    rw [List.length_map] at hlim
    refine TrD.forL Z ad hlim ?_ (fun e ap v N au av O r ax j ag af => ?_) (fun v am => ?_)
    ·rw [w]
     exact gC []
    ·rw [congrFun (congrFun w e) v]
     obtain ⟨ak, p, j⟩ := bindE j
     obtain ⟨aa, D⟩ : ∃ S : Unit → St, S = fun T => ⟨(updD (updD (updD (updD (updD (fun _ => .any) 0 (.slice 2 (List.map rGData p0))) 1 (eI p1)) 2 (eI p2)) 7 (eI a)) 8 (eI (e : Int))), hOfO [], 0, 79⟩ := ⟨_, rfl⟩
     refine TrD.join aa (fun z => ak = Ctl.brk z) ?_ (fun T hz => ?_)
     ·apply sq
      rcases bb (ilt a p1) with t | t
      ·rw [if_pos t] at p
       refine rZ ?_ fun K hK => by simp [idx_inb m, idx_row m, O, t]; exact hK
       refine cT ?_
       apply TrD.skip
       cases p
       refine ToAny.mk () rfl ?_
       rw [D]
       exact gC []
      rw [iN t] at p
      refine rZ ?_ fun K hK => by simp [idx_inb m, idx_row m, O, t]; exact hK
      refine TrD.cond (b := ilt (e : Int) p2) (by simp) (fun f => ?_) (fun f => ?_)
      ·rw [if_pos f] at p
       apply TrD.skip
       cases p
       refine ToAny.mk () rfl ?_
       rw [D]
       exact gC []
      rw [iN f] at p
      refine TrD.exit ?_
      try simp only [↓reduceIte, Nat.reduceEqDiff, Nat.zero_ne_one, Nat.one_ne_zero, OfNat.ofNat_ne_zero, OfNat.zero_ne_ofNat, OfNat.one_ne_ofNat, OfNat.ofNat_ne_one]
      cases p
      cases j
      obtain rfl := af _ rfl
      refine ToAny.mk () rfl ?_
      rw [A]
      exact gC []
     subst hz
     try dsimp only at j
     rw [congrFun D T]
     obtain ⟨al, i, j⟩ := bindE j
     obtain ⟨ab, E⟩ : ∃ S : Unit → St, S = fun U => ⟨(updD (updD (updD (updD (updD (fun _ => .any) 0 (.slice 2 (List.map rGData p0))) 1 (eI p1)) 2 (eI p2)) 7 (eI a)) 8 (eI (e : Int))), hOfO [], 0, 79⟩ := ⟨_, rfl⟩
     refine TrD.join ab (fun z => al = Ctl.brk z) ?_ (fun U hz => ?_)
     ·apply TrD.block
      apply sq
      refine TrD.ghost (σ' := ⟨(updD (updD (updD (updD (updD (fun _ => .any) 0 (.slice 2 (List.map rGData p0))) 1 (eI p1)) 2 (eI p2)) 7 (eI a)) 8 (eI (e : Int))), hOfO [], 0, 79⟩) ?_ ?_
      ·exact gC []
      obtain ⟨aq, y, i⟩ := bindE i
      rcases bb (ilt p2 (lenZ aq.ctors.length)) with u | u
      ·rw [if_pos u] at i
       obtain ⟨ar, L, i⟩ := bindE i
       refine TrD.draw tysOk mixed [0, 1, 2, 3, 4, 5, 6, 7, 8, 9, 10, 11, 12, 13, 14, 15, 16, 17, 18, 19, 20, 21, 22, 23, 24, 25, 26, 27, 28] [] [] (by rfl) rfl (fun K hK => ?_)
       simp [idx_inb m, idx_row m, idx_inb N, idx_row N, idx_inb y, idx_row y, u, idx_inb L, idx_row L]
       apply hK
       refine TrD.cond (b := seq2 ap.name ar.name) (by simp) (fun l => ?_) (fun l => ?_)
       ·rw [if_pos l] at i
        refine sZ ?_ fun K hK => by simp [l]; exact hK
        cases i
        cases j
        obtain rfl := ag _ rfl
        cases c
        obtain rfl := H _ rfl
        cases h
        apply TrD.ret
        exact xD
       rw [iN l] at i
       apply TrD.skip
       cases i
       refine ToAny.mk () rfl ?_
       rw [E]
       exact gC []
      rw [iN u] at i
      refine TrD.draw tysOk mixed [0, 1, 2, 3, 4, 5, 6, 7, 8, 9, 10, 11, 12, 13, 14, 15, 16, 17, 18, 19, 20, 21, 22, 23, 24, 25, 26, 27, 28] [] [] (by rfl) rfl (fun K hK => ?_)
      simp [idx_inb y, idx_row y, u]
      apply hK
      refine cF ?_
      apply TrD.skip
      cases i
      refine ToAny.mk () rfl ?_
      rw [E]
      exact gC []
     subst hz
     try dsimp only at j
     rw [congrFun E U]
     refine rZ ?_
     cases j
     refine ToAny.mk () rfl ?_
     rw [w]
     exact gc [] hβ (((((va.f (by simp [r])).f (by simp [r])).f (by simp [r])).f (by simp [r])).f (by simp [r])) ln
    rw [congrFun (congrFun w _) v]
    apply sq
    refine sZ ?_ fun K hK => by simp [idx_inb m, idx_row m, ilt_len F.ctors.length]; exact hK
    refine cF ?_
    refine TrD.exit ?_
    try simp only [↓reduceIte, Nat.reduceEqDiff, Nat.zero_ne_one, Nat.one_ne_zero, OfNat.ofNat_ne_zero, OfNat.zero_ne_ofNat, OfNat.one_ne_ofNat, OfNat.ofNat_ne_one]
    refine ToAny.mk v am ?_
    rw [A]
    exact gC []
   subst hz
   try dsimp only at c
   rw [congrFun A R]
   refine rZ ?_
   cases c
   refine ToAny.mk (wadd .i64 a 1) rfl ?_
   rw [B]
   exact gC []
  rw [iN q] at c
  refine TrD.exit ?_
  try simp only [↓reduceIte, Nat.reduceEqDiff, Nat.zero_ne_one, Nat.one_ne_zero, OfNat.ofNat_ne_zero, OfNat.zero_ne_ofNat, OfNat.one_ne_ofNat, OfNat.ofNat_ne_one]
  cases c
  obtain rfl := ae _ rfl
  refine ToAny.mk a rfl ?_
  rw [G]
  exact gC []
 subst hz
 try dsimp only at h
 rw [congrFun G P]
 refine sZ ?_
 cases h
 apply TrD.ret
 exact xD
theorem c_spec_WorldValid (n : Nat) (p0 : (List GData)) (res : Bool) (h : m_spec_WorldValid n p0 = some res) : CallsD Tryz.prog 0o00173 [(.slice 2 (List.map rGData p0))] (fun d => d = (eB res)) := by
 unfold m_spec_WorldValid at h
 refine CD Tryz.func123 [.tmp 2] fun β hβ => ?_
 refine sZ ?_
 apply sq
 refine sZ ?_
 refine TrD.cond (b := ilt 4 (lenZ p0.length)) (by simp) (fun hb2 => ?_) (fun hb2 => ?_)
 ·rw [if_pos hb2] at h
  refine sZ ?_ fun K hK => by simp [hb2]; exact hK
  cases h
  apply TrD.ret
  exact xD
 rw [iN hb2] at h
 apply TrD.skip
 apply sq
 refine sZ ?_ fun K hK => by simp [hb2]; exact hK
 obtain ⟨aa, O, h⟩ := bindE h
 obtain ⟨I, B⟩ : ∃ S : Unit → St, S = fun F => ⟨(fun _ => .any), hOfO [], 0, 67⟩ := ⟨_, rfl⟩
 refine TrD.joinQ I (fun z => aa = Ctl.brk z) (fun _ _ hg h => TrD.ghost hg h) ?_ (fun F hz => ?_)
 ·apply TrD.block
  obtain ⟨L, t⟩ : ∃ S : Nat → Unit → St, S = fun f r => ⟨(updD (updD (fun _ => .any) 0 (.slice 2 (List.map rGData p0))) 3 (eI (f : Int))), hOfO [], 0, 67⟩ := ⟨_, rfl⟩
  refine TrD.limS (sz := 2) (rows := List.map rGData p0) (seen_slot (d := .slice 2 (List.map rGData p0)) 0 (by simp)) (fun hlim => ?_)
  rw [List.length_map] at hlim
  refine TrD.forL L O hlim ?_ (fun f g r a aj ak Y A an c p ah => ?_) (fun r af => ?_)
  ·rw [t]
   exact gC []
  ·rw [congrFun (congrFun t f) r]
   apply sq
   refine sZ ?_ fun K hK => by simp [Y]; exact hK
   refine cT ?_
   apply TrD.skip
   apply sq
   apply TrD.block
   apply sq
   apply sq
   obtain ⟨ac, y, c⟩ := bindE c
   rcases bb (!ac) with i | i
   ·rw [if_pos i] at c
    refine rk fun K hK => ?_
    simp [idx_inb a, idx_row a]
    refine cp (c_spec_l1Data g.name _ y) ?_
    simp [i]
    apply hK
    refine cT ?_
    refine sZ ?_
    cases c
    obtain rfl := p _ rfl
    cases h
    apply TrD.ret
    exact xD
   rw [iN i] at c
   rcases bb (ieq (lenZ g.ctors.length) 0) with j | j
   ·rw [if_pos j] at c
    refine rk fun K hK => ?_
    simp [idx_inb a, idx_row a]
    refine cp (c_spec_l1Data g.name _ y) ?_
    simp [idx_inb a, idx_row a, i, j]
    apply hK
    refine cT ?_
    refine sZ ?_
    cases c
    obtain rfl := p _ rfl
    cases h
    apply TrD.ret
    exact xD
   rw [iN j] at c
   refine rk fun K hK => ?_
   simp [idx_inb a, idx_row a]
   refine cp (c_spec_l1Data g.name _ y) ?_
   simp [idx_inb a, idx_row a, i, j]
   apply hK
   refine TrD.cond (b := ilt 4 (lenZ g.ctors.length)) (by simp) (fun l => ?_) (fun l => ?_)
   ·rw [if_pos l] at c
    refine sZ ?_ fun K hK => by simp [l]; exact hK
    cases c
    obtain rfl := p _ rfl
    cases h
    apply TrD.ret
    exact xD
   rw [iN l] at c
   apply TrD.skip
   refine sZ ?_ fun K hK => by simp [l]; exact hK
   obtain ⟨ab, P, c⟩ := bindE c
   obtain ⟨J, C⟩ : ∃ S : Unit → St, S = fun G => ⟨(updD (updD (fun _ => .any) 0 (.slice 2 (List.map rGData p0))) 3 (eI (f : Int))), hOfO [], 0, 67⟩ := ⟨_, rfl⟩
   refine TrD.joinQ J (fun z => ab = Ctl.brk z) (fun _ _ hg h => TrD.ghost hg h) ?_ (fun G hz => ?_)
   ·apply TrD.block
    obtain ⟨N, u⟩ : ∃ S : Nat → Unit → St, S = fun q s => ⟨(updD (updD (updD (fun _ => .any) 0 (.slice 2 (List.map rGData p0))) 3 (eI (f : Int))) 4 (eI (q : Int))), hOfO [], 0, 67⟩ := ⟨_, rfl⟩
    refine TrD.limS (sz := 3) (rows := List.map rGCtor g.ctors) (seen_slot (d := .slice 3 (List.map rGCtor g.ctors)) 26 (by simp)) (fun hlim => ?_)
    rw [List.length_map] at hlim
    refine TrD.forL N P hlim ?_ (fun q H s v al am Z w ao e E ai => ?_) (fun s ag => ?_)
    ·rw [u]
     exact gC []
    ·rw [congrFun (congrFun u q) s]
     apply sq
     refine sZ ?_ fun K hK => by simp [idx_inb a, idx_row a, Z]; exact hK
     refine cT ?_
     apply TrD.skip
     apply sq
     apply TrD.block
     apply sq
     obtain ⟨ad, D, e⟩ := bindE e
     rcases bb (!ad) with m | m
     ·rw [if_pos m] at e
      refine rk fun K hK => ?_
      simp [idx_inb a, idx_row a, idx_inb v, idx_row v]
      refine cp (c_spec_l1Ctor n (lenZ p0.length) H _ D) ?_
      simp [m]
      apply hK
      refine cT ?_
      refine sZ ?_
      cases e
      obtain rfl := E _ rfl
      cases c
      obtain rfl := p _ rfl
      cases h
      apply TrD.ret
      exact xD
     rw [iN m] at e
     obtain ⟨ae, X, e⟩ := bindE e
     refine rk fun K hK => ?_
     simp [idx_inb a, idx_row a, idx_inb v, idx_row v]
     refine cp (c_spec_l1Ctor n (lenZ p0.length) H _ D) ?_
     simp [m]
     refine cp (c_spec_l1Twice n p0 (f : Int) (q : Int) _ X) ?_
     simp
     apply hK
     refine TrD.cond (b := ae) (by simp) (fun o => ?_) (fun o => ?_)
     ·rw [if_pos o] at e
      refine sZ ?_ fun K hK => by simp [o]; exact hK
      cases e
      obtain rfl := E _ rfl
      cases c
      obtain rfl := p _ rfl
      cases h
      apply TrD.ret
      exact xD
     rw [iN o] at e
     apply TrD.skip
     refine rZ ?_ fun K hK => by simp [o]; exact hK
     cases e
     refine ToAny.mk () rfl ?_
     rw [u]
     exact gc [] hβ (((va.f (by simp [w])).f (by simp [w])).f (by simp [w])) ln
    rw [congrFun (congrFun u _) s]
    apply sq
    refine sZ ?_ fun K hK => by simp [idx_inb a, idx_row a, ilt_len g.ctors.length]; exact hK
    refine cF ?_
    refine TrD.exit ?_
    try simp only [↓reduceIte, Nat.reduceEqDiff, Nat.zero_ne_one, Nat.one_ne_zero, OfNat.ofNat_ne_zero, OfNat.zero_ne_ofNat, OfNat.one_ne_ofNat, OfNat.ofNat_ne_one]
    refine ToAny.mk s ag ?_
    rw [C]
    exact gC []
   subst hz
   try dsimp only at c
   rw [congrFun C G]
   refine rZ ?_
   cases c
   refine ToAny.mk () rfl ?_
   rw [t]
   exact gc [] hβ ((va.f (by simp [A])).f (by simp [A])) ln
  rw [congrFun (congrFun t _) r]
  apply sq
  refine sZ ?_ fun K hK => by simp [ilt_len p0.length]; exact hK
  refine cF ?_
  refine TrD.exit ?_
  try simp only [↓reduceIte, Nat.reduceEqDiff, Nat.zero_ne_one, Nat.one_ne_zero, OfNat.ofNat_ne_zero, OfNat.zero_ne_ofNat, OfNat.one_ne_ofNat, OfNat.ofNat_ne_one]
  refine ToAny.mk r af ?_
  rw [B]
  exact gC []
 subst hz
 try dsimp only at h
 rw [congrFun B F]
 refine sZ ?_
 cases h
 apply TrD.ret
 exact xD
theorem c_spec_l17Dec : ∀ (n : Nat) (p0 : Int) (res : ByteArray), m_spec_l17Dec n p0 = some res → CallsD Tryz.prog 0o00376 [(eI p0)] (fun d => d = (eS res)) := by
 intro n
 induction n with
 | zero => intro p0 res h; cases h
 | succ n ih =>
  intro p0 res h
  rw [m_spec_l17Dec.eq_2] at h
  refine CD Tryz.func254 [.tmp 2] fun β hβ => ?_
  refine sZ ?_
  apply sq
  refine sZ ?_
  refine TrD.cond (b := ilt p0 (-9223372036854775807)) (by simp) (fun hb2 => ?_) (fun hb2 => ?_)
  ·rw [if_pos hb2] at h
   refine sZ ?_ fun K hK => by simp [hb2]; exact hK
   cases h
   apply TrD.ret
   exact xD
  rw [iN hb2] at h
  apply TrD.skip
  apply sq
  refine sZ ?_ fun K hK => by simp [hb2]; exact hK
  refine TrD.cond (b := ilt p0 0) (by simp) (fun hb7 => ?_) (fun hb7 => ?_)
  ·rw [if_pos hb7] at h
   apply sq
   obtain ⟨r8, hr8, h⟩ := bindE h
   obtain ⟨x9, hx9, h⟩ := bindE h
   refine rk fun K hK => ?_
   simp [hb7]
   refine cp (ih (wneg .i64 p0) _ hr8) ?_
   simp [← (scat_some hx9).1, (scat_some hx9).2]
   apply hK
   cases h
   apply TrD.ret
   exact xD
  rw [iN hb7] at h
  apply TrD.skip
  refine sZ ?_ fun K hK => by simp [hb7]; exact hK
  obtain ⟨u, r, h⟩ := bindE h
  obtain ⟨p, i⟩ : ∃ S : (Int × ByteArray) → St, S = fun f => ⟨(updD (updD (fun _ => .any) 0 (eI f.1)) 3 (eS f.2)), hOfO [], 0, 31⟩ := ⟨_, rfl⟩
  refine TrD.join p (fun z => u = Ctl.brk z) ?_ (fun f hz => ?_)
  ·apply TrD.block
   obtain ⟨q, g⟩ : ∃ S : (Int × ByteArray) → St, S = fun a => ⟨(updD (updD (fun _ => .any) 0 (eI a.1)) 3 (eS a.2)), hOfO [], 0, 31⟩ := ⟨_, rfl⟩
   refine TrD.whileL q r ?_ (fun a w c v s => ?_)
   ·rw [g]
    exact gC []
   rw [congrFun g a]
   apply sq
   refine sZ ?_
   refine TrD.cond (b := ilt 9 a.1) (by simp) (fun e => ?_) (fun e => ?_)
   ·rw [if_pos e] at c
    apply TrD.skip
    apply TrD.block
    apply sq
    obtain ⟨m, j, c⟩ := bindE c
    refine rZ ?_ fun K hK => by simp [e, show ieq 10 0 = false from rfl, ← (scat_some j).1, (scat_some j).2]; exact hK
    refine rZ ?_ fun K hK => by simp [show ieq 10 0 = false from rfl]; exact hK
    cases c
    refine ToAny.mk (wquo .i64 a.1 10, m) rfl ?_
    rw [g]
    exact gC []
   rw [iN e] at c
   refine TrD.exit ?_
   try simp only [↓reduceIte, Nat.reduceEqDiff, Nat.zero_ne_one, Nat.one_ne_zero, OfNat.ofNat_ne_zero, OfNat.zero_ne_ofNat, OfNat.one_ne_ofNat, OfNat.ofNat_ne_one]
   cases c
   obtain rfl := s _ rfl
   refine ToAny.mk (a.1, a.2) rfl ?_
   rw [i]
   exact gC []
  subst hz
  try dsimp only at h
  rw [congrFun i f]
  apply sq
  obtain ⟨o, l, h⟩ := bindE h
  refine rZ ?_ fun K hK => by simp [← (scat_some l).1, (scat_some l).2]; exact hK
  cases h
  apply TrD.ret
  exact xD
theorem c_spec_l1Index (n : Nat) (p0 : Int) (res : ByteArray) (h : m_spec_l1Index n p0 = some res) : CallsD Tryz.prog 0o00451 [(eI p0)] (fun d => d = (eS res)) := by
 unfold m_spec_l1Index at h
 refine CD Tryz.func297 [.tmp 2] fun β hβ => ?_
 refine sZ ?_
 apply sq
 refine sZ ?_
 apply TrD.block
 refine sZ ?_
 refine TrD.cond (b := ieq p0 0) (by simp) (fun hb3 => ?_) (fun hb3 => ?_)
 ·rw [if_pos hb3] at h
  refine sZ ?_ fun K hK => by simp [hb3]; exact hK
  cases h
  apply TrD.ret
  exact xD
 rw [iN hb3] at h
 refine sZ ?_ fun K hK => by simp [hb3]; exact hK
 refine TrD.cond (b := ieq p0 (-1)) (by simp) (fun hb4 => ?_) (fun hb4 => ?_)
 ·rw [if_pos hb4] at h
  refine sZ ?_ fun K hK => by simp [hb4]; exact hK
  cases h
  apply TrD.ret
  exact xD
 rw [iN hb4] at h
 apply TrD.skip
 apply sq
 obtain ⟨r5, hr5, h⟩ := bindE h
 refine rk fun K hK => ?_
 simp [hb4]
 refine cp (c_spec_l17Dec n p0 _ hr5) ?_
 simp
 apply hK
 cases h
 apply TrD.ret
 exact xD
theorem c_spec_l1Type (n : Nat) (p0 : (List GData)) (p1 : GType) (res : ByteArray) (h : m_spec_l1Type n p0 p1 = some res) : CallsD Tryz.prog 0o00375 [(.slice 2 (List.map rGData p0)), (.agg (rGType p1))] (fun d => d = (eS res)) := by
 unfold m_spec_l1Type at h
 refine CD Tryz.func253 [.tmp 4] fun β hβ => ?_
 refine sZ ?_
 apply sq
 refine sZ ?_
 refine TrD.cond (b := ieq p1.data (-1)) (by simp) (fun hb2 => ?_) (fun hb2 => ?_)
 ·rw [if_pos hb2] at h
  refine sZ ?_ fun K hK => by simp [hb2]; exact hK
  cases h
  apply TrD.ret
  exact xD
 rw [iN hb2] at h
 apply TrD.skip
 apply sq
 refine TrD.ghost (σ' := ⟨(updD (updD (fun _ => .any) 0 (.slice 2 (List.map rGData p0))) 3 (.ptr 2 0 0 0)), hOfO [some ⟨2, [(rGType p1)], 0, 0x0019⟩], 1, 18⟩) ?_ ?_
 ·exact gC [0]
 obtain ⟨x3, hx3, h⟩ := bindE h
 obtain ⟨r4, hr4, h⟩ := bindE h
 obtain ⟨x5, hx5, h⟩ := bindE h
 refine TrD.draw tysOk mixed [0, 1, 2, 3, 4, 5, 6, 7, 8, 9, 10] [0] [] (by rfl) rfl (fun K hK => ?_)
 simp [idx_inb hx3, idx_row hx3]
 refine cp (c_spec_l1Index n p1.index _ hr4) ?_
 simp [← (scat_some hx5).1, (scat_some hx5).2]
 apply hK
 cases h
 apply TrD.ret
 exact xD
end Go.Proofs.YtmkamncbkkahjaaGreat
