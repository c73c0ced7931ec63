import PyProof.Rows.All
import Wide.All
import OpenK.AllK
import Wide.FinOn
import HandS.ForMost
import HandS.ForExc
import HandS.Walk
import HandS.Zip
import HandS.Star
import HandS.IsInst
import HandS.ExcIs
import HandS.TryMany
import HandS.HotCalls
import HandS.Lambda
import HandS.EndTab
import HandS.Evl
import HandS.Deep
import HandS.Strs
import HandS.Flow
import HandS.More
import HandS.Conv
import HandS.Wide
import HandS.Defaults
import PyProof.CollectStr
import PyProof.ListStr
import PyProof.ReprLen
import PyProof.StrOps2
import KE.KLam
import HandS.Head2
import HandS.HeadHook4
import HandS.HeadWalk
import PySem.Challenge.RW_callsproved_k38_whole_sentences_about_ne
set_option Elab.async false
set_option linter.all false
set_option maxRecDepth 100000
set_option maxHeartbeats 4000000
/-! The data layer: values that stand for trees of data; what a reading evaluates to, as data. -/
namespace KD
open PySem L2 Evl

/-! ### the heap grows -/
theorem ex_of_same {H H' : Hp} (h : Same H H') : Ex H H' := h
mutual
theorem dp_ex {K : PySem.W.Frag} {H H' : Hp} (e : Ex H H') : ∀ (d : PyData) (v : V), Dp K H v d → Dp K H' v d
  | .none, _, h => by cases h; exact .non
  | .bool b, _, h => by cases h; exact .bl b
  | .int i, _, h => by cases h; exact .int i
  | .str x, _, h => by cases h; exact .str x
  | .list ds, _, h => by
    cases h with
    | lst hs ha => exact .lst (ex_l e hs) (dpAll_ex e ds _ ha)
  | .tuple ds, _, h => by
    cases h with
    | tup hs ha => exact .tup (ex_t e hs) (dpAll_ex e ds _ ha)
  | .dict _, _, h => by cases h
theorem dpAll_ex {K : PySem.W.Frag} {H H' : Hp} (e : Ex H H') : ∀ (ds : List PyData) (vs : List V), DpAll K H vs ds → DpAll K H' vs ds
  | [], _, h => by cases h; exact .nil
  | d :: ds, _, h => by
    cases h with
    | cons h1 h2 => exact .cons (dp_ex e d _ h1) (dpAll_ex e ds _ h2)
end
section
variable {K : PySem.W.Frag} {H H' : Hp} {v : V} {d : PyData} {ds : List PyData} {vs : List V}
theorem Dpx (e : Ex H H') (h : Dp K H v d) : Dp K H' v d := dp_ex e d v h
theorem Dpax (e : Ex H H') (h : DpAll K H vs ds) : DpAll K H' vs ds := dpAll_ex e ds vs h
theorem dp_int {i : Int} (h : Dp K H v (.int i)) : v = .int i := by cases h; rfl
theorem dp_str {x : Str} (h : Dp K H v (.str x)) : v = .str x := by cases h; rfl
theorem dp_bool {b : Bool} (h : Dp K H v (.bool b)) : v = .bl b := by cases h; rfl
theorem dp_none (h : Dp K H v .none) : v = .non := by cases h; rfl
theorem dp_list (h : Dp K H v (.list ds)) : ∃ a xs, v = .ref a ∧ SqL K H a xs ∧ DpAll K H xs ds := by
  cases h with
  | lst hs ha => exact ⟨_, _, rfl, hs, ha⟩
theorem dp_tuple (h : Dp K H v (.tuple ds)) : ∃ a xs, v = .ref a ∧ SqT K H a xs ∧ DpAll K H xs ds := by
  cases h with
  | tup hs ha => exact ⟨_, _, rfl, hs, ha⟩
theorem dpAll_len : ∀ {vs : List V} {ds : List PyData}, DpAll K H vs ds → vs.length = ds.length
  | _, _, .nil => rfl
  | _, _, .cons _ t => by rw [List.length_cons, List.length_cons, dpAll_len t]
theorem dpAll_get : ∀ {vs : List V} {ds : List PyData} {i : Nat} {v : V}, DpAll K H vs ds → vs[i]? = some v → ∃ d, ds[i]? = some d ∧ Dp K H v d
  | _, _, _, _, .nil, h => by simp at h
  | _, _, 0, _, .cons h _, e => by simp at e; subst e; exact ⟨_, rfl, h⟩
  | _, _, i + 1, _, .cons _ t, e => by
    obtain ⟨d, h1, h2⟩ := dpAll_get (i := i) t (by simpa using e)
    exact ⟨d, by simpa using h1, h2⟩
theorem dpAll_get' : ∀ {vs : List V} {ds : List PyData} {i : Nat} {d : PyData}, DpAll K H vs ds → ds[i]? = some d → ∃ v, vs[i]? = some v ∧ Dp K H v d
  | _, _, _, _, .nil, h => by simp at h
  | _, _, 0, _, .cons h _, e => by simp at e; subst e; exact ⟨_, rfl, h⟩
  | _, _, i + 1, _, .cons _ t, e => by
    obtain ⟨d, h1, h2⟩ := dpAll_get' (i := i) t (by simpa using e)
    exact ⟨d, by simpa using h1, h2⟩
theorem dpAll_app : ∀ {vs ws : List V} {ds es : List PyData}, DpAll K H vs ds → DpAll K H ws es → DpAll K H (vs ++ ws) (ds ++ es)
  | _, _, _, _, .nil, h => h
  | _, _, _, _, .cons h t, g => .cons h (dpAll_app t g)
theorem dpAll_snoc {v : V} {d : PyData} (h : DpAll K H vs ds) (g : Dp K H v d) : DpAll K H (vs ++ [v]) (ds ++ [d]) := dpAll_app h (.cons g .nil)
theorem dpAll_take : ∀ {vs : List V} {ds : List PyData} (n : Nat), DpAll K H vs ds → DpAll K H (vs.take n) (ds.take n)
  | _, _, 0, _ => by rw [List.take_zero, List.take_zero]; exact .nil
  | _, _, _ + 1, .nil => by simp; exact .nil
  | _, _, n + 1, .cons h t => .cons h (dpAll_take n t)
theorem dpAll_drop : ∀ {vs : List V} {ds : List PyData} (n : Nat), DpAll K H vs ds → DpAll K H (vs.drop n) (ds.drop n)
  | _, _, 0, h => h
  | _, _, _ + 1, .nil => by simp; exact .nil
  | _, _, n + 1, .cons _ t => dpAll_drop n t
theorem dpAll_set : ∀ {vs : List V} {ds : List PyData} {v : V} {d : PyData} (i : Nat), DpAll K H vs ds → Dp K H v d → DpAll K H (vs.set i v) (ds.set i d)
  | _, _, _, _, _, .nil, _ => .nil
  | _, _, _, _, 0, .cons _ t, g => .cons g t
  | _, _, _, _, i + 1, .cons h t, g => .cons h (dpAll_set i t g)
theorem dpAll_ints : ∀ (ns : List Int), DpAll K H (ns.map V.int) (ns.map PyData.int)
  | [] => .nil
  | n :: ns => .cons (.int n) (dpAll_ints ns)
theorem dpAll_bools : ∀ (ns : List Bool), DpAll K H (ns.map V.bl) (ns.map PyData.bool)
  | [] => .nil
  | n :: ns => .cons (.bl n) (dpAll_bools ns)
theorem dpAll_strs : ∀ (ns : List Str), DpAll K H (ns.map V.str) (ns.map PyData.str)
  | [] => .nil
  | n :: ns => .cons (.str n) (dpAll_strs ns)
theorem dpAll_bools' : ∀ {ns : List Bool} {vs : List V}, DpAll K H vs (ns.map PyData.bool) → vs = ns.map V.bl
  | [], _, h => by cases h; rfl
  | n :: ns, _, h => by
    cases h with
    | cons h1 h2 => rw [dp_bool h1, dpAll_bools' h2]; rfl
theorem dpAll_ints' : ∀ {ns : List Int} {vs : List V}, DpAll K H vs (ns.map PyData.int) → vs = ns.map V.int
  | [], _, h => by cases h; rfl
  | n :: ns, _, h => by
    cases h with
    | cons h1 h2 => rw [dp_int h1, dpAll_ints' h2]; rfl
theorem dpAll_strs' : ∀ {ns : List Str} {vs : List V}, DpAll K H vs (ns.map PyData.str) → vs = ns.map V.str
  | [], _, h => by cases h; rfl
  | n :: ns, _, h => by
    cases h with
    | cons h1 h2 => rw [dp_str h1, dpAll_strs' h2]; rfl
end

/-! ### data without lists: it stays whatever changes but tuples -/
mutual
def imm : PyData → Bool
  | .none => true
  | .bool _ => true
  | .int _ => true
  | .str _ => true
  | .list _ => false
  | .tuple ds => immAll ds
  | .dict _ => false
def immAll : List PyData → Bool
  | [] => true
  | d :: ds => imm d && immAll ds
end
/-- tuples stay -/
def Tups (K : PySem.W.Frag) (H H' : Hp) : Prop := ∀ a xs, SqT K H a xs → SqT K H' a xs
theorem Tups.refl {K : PySem.W.Frag} (H : Hp) : Tups K H H := fun _ _ h => h
theorem Tups.trans {K : PySem.W.Frag} {H H1 H2 : Hp} (a : Tups K H H1) (b : Tups K H1 H2) : Tups K H H2 := fun c xs h => b c xs (a c xs h)
theorem Tups.of_ex {K : PySem.W.Frag} {H H' : Hp} (e : Ex H H') : Tups K H H' := fun _ _ h => ex_t e h
mutual
theorem dp_imm {K : PySem.W.Frag} {H H' : Hp} (e : Tups K H H') : ∀ (d : PyData) (v : V), imm d = true → Dp K H v d → Dp K H' v d
  | .none, _, _, h => by cases h; exact .non
  | .bool b, _, _, h => by cases h; exact .bl b
  | .int i, _, _, h => by cases h; exact .int i
  | .str x, _, _, h => by cases h; exact .str x
  | .list ds, _, i, h => by simp [imm] at i
  | .tuple ds, _, i, h => by
    cases h with
    | tup hs ha => exact .tup (e _ _ hs) (dpAll_imm e ds _ (by simpa [imm] using i) ha)
  | .dict _, _, _, h => by cases h
theorem dpAll_imm {K : PySem.W.Frag} {H H' : Hp} (e : Tups K H H') : ∀ (ds : List PyData) (vs : List V), immAll ds = true → DpAll K H vs ds → DpAll K H' vs ds
  | [], _, _, h => by cases h; exact .nil
  | d :: ds, _, i, h => by
    have i' : imm d = true ∧ immAll ds = true := by simpa [immAll] using i
    cases h with
    | cons h1 h2 => exact .cons (dp_imm e d _ i'.1 h1) (dpAll_imm e ds _ i'.2 h2)
end

/-! ### what evaluates to data -/
def EvD (K : PySem.W.Frag) (te : TE) (σ : L2.St) (H : Hp) (d : PyData) : Prop := ∀ H1, Ex H H1 → ∀ Q : VK, (∀ v H2, Ex H1 H2 → Dp K H2 v d → Q v H2) → te σ H1 Q
/-- a new list -/
def EvN (K : PySem.W.Frag) (te : TE) (σ : L2.St) (H : Hp) (ds : List PyData) : Prop := ∀ H1, Ex H H1 → ∀ Q : VK, (∀ p xs H2, H1 p = none → Ex H1 H2 → H2 p = some (.lst xs) → DpAll K H2 xs ds → Q (.ref p) H2) → te σ H1 Q
/-- arguments -/
def EvAD (K : PySem.W.Frag) (ta : TA) (σ : L2.St) (H : Hp) (ds : List PyData) : Prop := ∀ H1, Ex H H1 → ∀ Q : List V → Hp → Prop, (∀ vs H2, Ex H1 H2 → DpAll K H2 vs ds → Q vs H2) → ta σ H1 Q
section
variable {K : PySem.W.Frag} {σ : L2.St} {H H' : Hp} {te ta tb : TE} {d : PyData} {ds : List PyData} {v : V}
theorem EvD.mono (e : Ex H H') (h : EvD K te σ H d) : EvD K te σ H' d := fun H1 a Q q => h H1 (e.trans a) Q q
theorem EvN.mono (e : Ex H H') (h : EvN K te σ H ds) : EvN K te σ H' ds := fun H1 a Q q => h H1 (e.trans a) Q q
theorem EvD.of (h : Ev te σ H v) (hd : Dp K H v d) : EvD K te σ H d := fun H1 e Q q => h H1 e Q fun H2 e2 => q v H2 e2 (Dpx (e.trans e2) hd)
theorem EvN.dp (h : EvN K te σ H ds) : EvD K te σ H (.list ds) := fun H1 e Q q => h H1 e Q fun p xs H2 _ e2 hp ha => q (.ref p) H2 e2 (.lst (sq_of hp) ha)
theorem evd_var {i : Nat} (h : σ[i]? = some (some v)) (hd : Dp K H v d) : EvD K (tVar i) σ H d := .of (ev_var h) hd
theorem evd_int {i : Int} (h : EvD K te σ H (.int i)) : Ev te σ H (.int i) := fun H1 e Q q => h H1 e Q fun v H2 e2 hd => by rw [dp_int hd]; exact q H2 e2
theorem evd_str {i : Str} (h : EvD K te σ H (.str i)) : Ev te σ H (.str i) := fun H1 e Q q => h H1 e Q fun v H2 e2 hd => by rw [dp_str hd]; exact q H2 e2
theorem evd_bool {i : Bool} (h : EvD K te σ H (.bool i)) : Ev te σ H (.bl i) := fun H1 e Q q => h H1 e Q fun v H2 e2 hd => by rw [dp_bool hd]; exact q H2 e2
theorem ev_int {i : Int} (h : Ev te σ H (.int i)) : EvD K te σ H (.int i) := .of h (.int i)
theorem ev_str {i : Str} (h : Ev te σ H (.str i)) : EvD K te σ H (.str i) := .of h (.str i)
theorem ev_bool {i : Bool} (h : Ev te σ H (.bl i)) : EvD K te σ H (.bool i) := .of h (.bl i)
theorem ead_nil : EvAD K tNil σ H [] := fun H1 _ _ q => q [] H1 (Ex.refl H1) .nil
theorem ead_cons {tr : TA} (h : EvD K te σ H d) (hr : EvAD K tr σ H ds) : EvAD K (tCons te tr) σ H (d :: ds) := fun H1 e _ q =>
  h H1 e _ fun v H2 e2 h2 => hr H2 (e.trans e2) _ fun vs H3 e3 h3 => q (v :: vs) H3 (e2.trans e3) (.cons (Dpx e3 h2) h3)
/-- a display of a tuple, of a list -/
theorem evd_tup {ta : TA} (h : EvAD K ta σ H ds) (hl : ds.length ≤ 100000) : EvD K (tTup ta) σ H (.tuple ds) := fun H1 e _ q =>
  h H1 e _ fun vs H2 e2 hv => ⟨sz_of (by rw [dpAll_len hv]; exact hl), fun p hp => q (.ref p) _ (e2.trans (Ex.new hp)) (.tup (st_of upd_same) (Dpax (Ex.new hp) hv))⟩
theorem evn_lst {ta : TA} (h : EvAD K ta σ H ds) (hl : ds.length ≤ 100000) : EvN K (tLst ta) σ H ds := fun H1 e _ q =>
  h H1 e _ fun vs H2 e2 hv => ⟨sz_of (by rw [dpAll_len hv]; exact hl), fun p hp => q p vs _ (fresh_back e2 hp) (e2.trans (Ex.new hp)) upd_same (Dpax (Ex.new hp) hv)⟩
/-- one that ends in two ways -/
theorem evd_if {t : TT} {b : Bool} (h : EvT t σ H b) (h1 : b = true → EvD K ta σ H d) (h2 : b = false → EvD K tb σ H d) : EvD K (tIf t ta tb) σ H d := fun H1 e Q q => h H1 e _ fun H2 e2 => by
  cases b with
  | true =>
    show ta σ H2 Q
    exact h1 rfl H2 (e.trans e2) Q fun v H3 e3 => q v H3 (e2.trans e3)
  | false =>
    show tb σ H2 Q
    exact h2 rfl H2 (e.trans e2) Q fun v H3 e3 => q v H3 (e2.trans e3)
/-- an item -/
theorem evd_ixT {i : Int} (h : EvD K ta σ H (.tuple ds)) (hi : Ev tb σ H (.int i)) (hg : atI ds i = some d) : EvD K (tOp (rIxT K) ta tb) σ H d := fun H1 e Q q =>
  h H1 e _ fun v H2 e2 h2 => hi H2 (e.trans e2) _ fun H3 e3 => by
    obtain ⟨a, xs, rfl, hs, ha⟩ := dp_tuple (Dpx e3 h2)
    have hl := dpAll_len ha
    have hg' : ∃ j, ixN ds.length i = some j ∧ ds[j]? = some d := by
      unfold atI at hg
      cases e : ixN ds.length i with
      | none => rw [e] at hg; cases hg
      | some j => rw [e] at hg; exact ⟨j, rfl, hg⟩
    obtain ⟨j, h1, h2⟩ := hg'
    obtain ⟨w, hw, hd⟩ := dpAll_get' ha h2
    refine ⟨a, xs, i, w, rfl, rfl, hs, ?_, q w H3 (e2.trans e3) hd⟩
    unfold atI
    rw [hl, h1]
    exact hw
theorem evd_ixL {i : Int} (h : EvD K ta σ H (.list ds)) (hi : Ev tb σ H (.int i)) (hg : atI ds i = some d) : EvD K (tOp (rIxL K) ta tb) σ H d := fun H1 e Q q =>
  h H1 e _ fun v H2 e2 h2 => hi H2 (e.trans e2) _ fun H3 e3 => by
    obtain ⟨a, xs, rfl, hs, ha⟩ := dp_list (Dpx e3 h2)
    have hl := dpAll_len ha
    have hg' : ∃ j, ixN ds.length i = some j ∧ ds[j]? = some d := by
      unfold atI at hg
      cases e : ixN ds.length i with
      | none => rw [e] at hg; cases hg
      | some j => rw [e] at hg; exact ⟨j, rfl, hg⟩
    obtain ⟨j, h1, h2⟩ := hg'
    obtain ⟨w, hw, hd⟩ := dpAll_get' ha h2
    refine ⟨a, xs, i, w, rfl, rfl, hs, ?_, q w H3 (e2.trans e3) hd⟩
    unfold atI
    rw [hl, h1]
    exact hw
/-- == of data -/
theorem ev_eqD {d e : PyData} (ha : EvD K ta σ H d) (hb : EvD K tb σ H e) (hd : SeqAt.shaped d = true) (he : SeqAt.shaped e = true) : Ev (tOp (rEqD K) ta tb) σ H (.bl (PyData.eqv d e)) := fun H1 x Q q =>
  ha H1 x _ fun v H2 e2 h2 => hb H2 (x.trans e2) _ fun w H3 e3 h3 => ⟨d, e, Dpx e3 h2, h3, hd, he, q H3 (e2.trans e3)⟩
theorem ev_neD {d e : PyData} (ha : EvD K ta σ H d) (hb : EvD K tb σ H e) (hd : SeqAt.shaped d = true) (he : SeqAt.shaped e = true) : Ev (tOp (rNeD K) ta tb) σ H (.bl (!PyData.eqv d e)) := fun H1 x Q q =>
  ha H1 x _ fun v H2 e2 h2 => hb H2 (x.trans e2) _ fun w H3 e3 h3 => ⟨d, e, Dpx e3 h2, h3, hd, he, q H3 (e2.trans e3)⟩
theorem ev_inD {d : PyData} (ha : EvD K ta σ H d) (hb : EvD K tb σ H (.list ds)) (hd : SeqAt.shaped d = true) (he : SeqAt.shaped (.list ds) = true) : Ev (tOp (rInD K) ta tb) σ H (.bl (ds.any fun z => PyData.eqv z d)) := fun H1 x Q q =>
  ha H1 x _ fun v H2 e2 h2 => hb H2 (x.trans e2) _ fun w H3 e3 h3 => ⟨d, ds, Dpx e3 h2, h3, hd, he, q H3 (e2.trans e3)⟩
theorem ev_ninD {d : PyData} (ha : EvD K ta σ H d) (hb : EvD K tb σ H (.list ds)) (hd : SeqAt.shaped d = true) (he : SeqAt.shaped (.list ds) = true) : Ev (tOp (rNotInD K) ta tb) σ H (.bl (!ds.any fun z => PyData.eqv z d)) := fun H1 x Q q =>
  ha H1 x _ fun v H2 e2 h2 => hb H2 (x.trans e2) _ fun w H3 e3 h3 => ⟨d, ds, Dpx e3 h2, h3, hd, he, q H3 (e2.trans e3)⟩
end
/-! ### statements -/
section
variable {K : PySem.W.Frag} {σ : L2.St} {H H' : Hp} {te ta tb : TE} {d : PyData} {ds : List PyData} {v : V} {D : Ends} {tz : TS}
theorem s_asgD {i : Nat} (h : EvD K te σ H d) (k : ∀ v H1, Ex H H1 → Dp K H1 v d → D.nx (σ.set i (some v)) H1) : tAsg te (gName i) D σ H := h H (Ex.refl H) _ fun v H1 e1 hd => k v H1 e1 hd
theorem q_asgD {i : Nat} (h : EvD K te σ H d) (k : ∀ v H1, Ex H H1 → Dp K H1 v d → tz D (σ.set i (some v)) H1) : tSeq (tAsg te (gName i)) tz D σ H := s_asgD (D := { D with nx := tz D }) h k
theorem q_asgN {i : Nat} (h : EvN K te σ H ds) (k : ∀ p xs H1, H p = none → Ex H H1 → H1 p = some (.lst xs) → DpAll K H1 xs ds → tz D (σ.set i (some (.ref p))) H1) : tSeq (tAsg te (gName i)) tz D σ H := h H (Ex.refl H) _ fun p xs H1 hp e1 h1 ha => k p xs H1 hp e1 h1 ha
theorem s_retD (h : EvD K te σ H d) (k : ∀ v H1, Ex H H1 → Dp K H1 v d → D.rt v H1) : tRet te D σ H := h H (Ex.refl H) _ fun v H1 e1 hd => k v H1 e1 hd
theorem s_retV {v : V} (h : Ev te σ H v) (k : ∀ H1, Ex H H1 → D.rt v H1) : tRet te D σ H := h H (Ex.refl H) _ fun H1 e1 => k H1 e1
end
end KD
namespace K38
open PySem L2 Evl KD
def top (i : Nat) : Stmt := PySem.Challenge.pw_callsproved_k38_whole_sentences_about_ne.main.body.getD i (.Pass ⟨0, 0, 0, 0⟩)
abbrev s_check_alphabet : Stmt := top 12
theorem sc_check_alphabet : FnScope ["alphabet", "letters", "own", "letter"] ["alphabet"] (defScope s_check_alphabet) := ⟨rfl, rfl, rfl, by decide +kernel, rfl, by decide +kernel, by decide +kernel⟩
abbrev s_check_text : Stmt := top 13
theorem sc_check_text : FnScope ["alphabet", "text", "letters", "letter"] ["alphabet", "text"] (defScope s_check_text) := ⟨rfl, rfl, rfl, by decide +kernel, rfl, by decide +kernel, by decide +kernel⟩
abbrev s_known_kind : Stmt := top 14
theorem sc_known_kind : FnScope ["alphabet", "letter", "word", "own"] ["alphabet", "letter"] (defScope s_known_kind) := ⟨rfl, rfl, rfl, by decide +kernel, rfl, by decide +kernel, by decide +kernel⟩
abbrev s_known_partners : Stmt := top 15
theorem sc_known_partners : FnScope ["alphabet", "text", "found", "line", "at", "letter", "partner"] ["alphabet", "text"] (defScope s_known_partners) := ⟨rfl, rfl, rfl, by decide +kernel, rfl, by decide +kernel, by decide +kernel⟩
abbrev s_known_caller : Stmt := top 16
theorem sc_known_caller : FnScope ["rows", "alphabet", "text", "place", "at"] ["rows", "alphabet", "text", "place"] (defScope s_known_caller) := ⟨rfl, rfl, rfl, by decide +kernel, rfl, by decide +kernel, by decide +kernel⟩
abbrev s_check_part : Stmt := top 22
theorem sc_check_part : FnScope ["alphabet", "told", "deep", "word", "inner"] ["alphabet", "told", "deep"] (defScope s_check_part) := ⟨rfl, rfl, rfl, by decide +kernel, rfl, by decide +kernel, by decide +kernel⟩
abbrev s_check_sentence : Stmt := top 23
theorem sc_check_sentence : FnScope ["alphabet", "sentence"] ["alphabet", "sentence"] (defScope s_check_sentence) := ⟨rfl, rfl, rfl, by decide +kernel, rfl, by decide +kernel, by decide +kernel⟩
abbrev s_Seen_init : Stmt := inClass (top 24) 0
theorem sc_Seen_init : FnScope ["self", "alphabet", "text", "at"] ["self", "alphabet", "text"] (defScope s_Seen_init) := ⟨rfl, rfl, rfl, by decide +kernel, rfl, by decide +kernel, by decide +kernel⟩
abbrev s_Seen_behind : Stmt := inClass (top 24) 1
theorem sc_Seen_behind : FnScope ["self", "at", "more"] ["self", "at"] (defScope s_Seen_behind) := ⟨rfl, rfl, rfl, by decide +kernel, rfl, by decide +kernel, by decide +kernel⟩
abbrev s_Seen_truths : Stmt := inClass (top 24) 2
theorem sc_Seen_truths : FnScope ["self", "told", "word", "places", "one", "rows", "two", "letter", "own", "at", "other"] ["self", "told"] (defScope s_Seen_truths) := ⟨rfl, rfl, rfl, by decide +kernel, rfl, by decide +kernel, by decide +kernel⟩
abbrev s_Seen_until : Stmt := inClass (top 24) 3
theorem sc_Seen_until : FnScope ["self", "one", "two", "is_plain", "found", "at", "more"] ["self", "one", "two", "is_plain"] (defScope s_Seen_until) := ⟨rfl, rfl, rfl, by decide +kernel, rfl, by decide +kernel, by decide +kernel⟩
abbrev s_check_asked : Stmt := top 25
theorem sc_check_asked : FnScope ["alphabet", "sentence", "text"] ["alphabet", "sentence", "text"] (defScope s_check_asked) := ⟨rfl, rfl, rfl, by decide +kernel, rfl, by decide +kernel, by decide +kernel⟩
abbrev s_places_so : Stmt := top 26
theorem sc_places_so : FnScope ["alphabet", "sentence", "text", "at", "own"] ["alphabet", "sentence", "text"] (defScope s_places_so) := ⟨rfl, rfl, rfl, by decide +kernel, rfl, by decide +kernel, by decide +kernel⟩
abbrev s_is_so : Stmt := top 27
theorem sc_is_so : FnScope ["alphabet", "sentence", "text", "place"] ["alphabet", "sentence", "text", "place"] (defScope s_is_so) := ⟨rfl, rfl, rfl, by decide +kernel, rfl, by decide +kernel, by decide +kernel⟩
abbrev s_known_holds : Stmt := top 28
theorem sc_known_holds : FnScope ["alphabet", "sentence", "text"] ["alphabet", "sentence", "text"] (defScope s_known_holds) := ⟨rfl, rfl, rfl, by decide +kernel, rfl, by decide +kernel, by decide +kernel⟩
abbrev s_holds : Stmt := top 29
theorem sc_holds : FnScope ["alphabet", "sentence", "text"] ["alphabet", "sentence", "text"] (defScope s_holds) := ⟨rfl, rfl, rfl, by decide +kernel, rfl, by decide +kernel, by decide +kernel⟩
abbrev s_known_parts : Stmt := top 30
theorem sc_known_parts : FnScope ["sentence", "found", "inner", "part"] ["sentence"] (defScope s_known_parts) := ⟨rfl, rfl, rfl, by decide +kernel, rfl, by decide +kernel, by decide +kernel⟩
abbrev s_parts : Stmt := top 31
theorem sc_parts : FnScope ["alphabet", "sentence"] ["alphabet", "sentence"] (defScope s_parts) := ⟨rfl, rfl, rfl, by decide +kernel, rfl, by decide +kernel, by decide +kernel⟩
abbrev s_law_same : Stmt := top 33
theorem sc_law_same : FnScope ["told", "due"] ["told", "due"] (defScope s_law_same) := ⟨rfl, rfl, rfl, by decide +kernel, rfl, by decide +kernel, by decide +kernel⟩
abbrev s_law_stream : Stmt := top 34
theorem sc_law_stream : FnScope ["script", "numbers", "cell", "rest", "k", "stirred"] ["script"] (defScope s_law_stream) := ⟨rfl, rfl, rfl, by decide +kernel, rfl, by decide +kernel, by decide +kernel⟩
abbrev s_law_next : Stmt := top 35
theorem sc_law_next : FnScope ["state", "many", "turn"] ["state", "many"] (defScope s_law_next) := ⟨rfl, rfl, rfl, by decide +kernel, rfl, by decide +kernel, by decide +kernel⟩
abbrev s_law_told : Stmt := top 36
theorem sc_law_told : FnScope ["call", "e", "kinds", "names", "k"] ["call"] (defScope s_law_told) := ⟨rfl, rfl, rfl, by decide +kernel, rfl, by decide +kernel, by decide +kernel⟩
abbrev s_law_alphabet : Stmt := top 37
theorem sc_law_alphabet : FnScope ["state", "left", "found", "k", "own", "j"] ["state"] (defScope s_law_alphabet) := ⟨rfl, rfl, rfl, by decide +kernel, rfl, by decide +kernel, by decide +kernel⟩
abbrev s_law_partner : Stmt := top 38
theorem sc_law_partner : FnScope ["alphabet", "text", "at", "ahead", "need", "closers", "openers", "place"] ["alphabet", "text", "at"] (defScope s_law_partner) := ⟨rfl, rfl, rfl, by decide +kernel, rfl, by decide +kernel, by decide +kernel⟩
abbrev s_law_around : Stmt := top 40
theorem sc_law_around : FnScope ["alphabet", "text", "at", "rows", "k"] ["alphabet", "text", "at"] (defScope s_law_around) := ⟨rfl, rfl, rfl, by decide +kernel, rfl, by decide +kernel, by decide +kernel⟩
abbrev s_law_leap : Stmt := top 41
theorem sc_law_leap : FnScope ["alphabet", "text", "at"] ["alphabet", "text", "at"] (defScope s_law_leap) := ⟨rfl, rfl, rfl, by decide +kernel, rfl, by decide +kernel, by decide +kernel⟩
abbrev s_law_so : Stmt := top 42
theorem sc_law_so : FnScope ["alphabet", "told", "text", "at", "word", "rows", "goal", "here", "turn", "own"] ["alphabet", "told", "text", "at"] (defScope s_law_so) := ⟨rfl, rfl, rfl, by decide +kernel, rfl, by decide +kernel, by decide +kernel⟩
abbrev s_law_sentence : Stmt := top 43
theorem sc_law_sentence : FnScope ["state", "alphabet", "deep", "letters", "pick", "word", "many", "k"] ["state", "alphabet", "deep"] (defScope s_law_sentence) := ⟨rfl, rfl, rfl, by decide +kernel, rfl, by decide +kernel, by decide +kernel⟩
abbrev s_law_parts : Stmt := top 44
theorem sc_law_parts : FnScope ["told", "found", "own", "part"] ["told"] (defScope s_law_parts) := ⟨rfl, rfl, rfl, by decide +kernel, rfl, by decide +kernel, by decide +kernel⟩
abbrev s_law_text : Stmt := top 45
theorem sc_law_text : FnScope ["state", "alphabet", "most", "letters", "text", "at", "k"] ["state", "alphabet", "most"] (defScope s_law_text) := ⟨rfl, rfl, rfl, by decide +kernel, rfl, by decide +kernel, by decide +kernel⟩
abbrev s_law_fits : Stmt := top 46
theorem sc_law_fits : FnScope ["state", "alphabet", "sentence", "text", "due", "told", "at"] ["state", "alphabet", "sentence", "text"] (defScope s_law_fits) := ⟨rfl, rfl, rfl, by decide +kernel, rfl, by decide +kernel, by decide +kernel⟩
abbrev s_law_rules_fit : Stmt := top 47
theorem sc_law_rules_fit : FnScope ["state", "alphabet", "text", "one", "two", "every", "pairs", "first", "second", "at"] ["state", "alphabet", "text"] (defScope s_law_rules_fit) := ⟨rfl, rfl, rfl, by decide +kernel, rfl, by decide +kernel, by decide +kernel⟩
abbrev s_law_refuses : Stmt := top 48
theorem sc_law_refuses : FnScope ["alphabet", "text", "sign", "wrong", "odd", "deep", "wide", "k", "eight", "nine", "good", "large", "one"] ["alphabet", "text"] (defScope s_law_refuses) := ⟨rfl, rfl, rfl, by decide +kernel, rfl, by decide +kernel, by decide +kernel⟩
abbrev s_law : Stmt := top 49
theorem sc_law : FnScope ["script", "state", "turn", "alphabet", "k", "text"] ["script"] (defScope s_law) := ⟨rfl, rfl, rfl, by decide +kernel, rfl, by decide +kernel, by decide +kernel⟩

/-- the module as the top has made it: where each def, class and constant stands -/
structure Pg (K : PySem.W.Frag) (mg : Str → Option Value) where
  f_check_alphabet : Addr
  fd_check_alphabet : FuncData
  F_check_alphabet : Fun K "check_alphabet" "check_alphabet" s_check_alphabet f_check_alphabet fd_check_alphabet
  b_check_alphabet : Binds K fd_check_alphabet ["alphabet"] []
  m_check_alphabet : mg "check_alphabet" = some (.ref f_check_alphabet)
  f_check_text : Addr
  fd_check_text : FuncData
  F_check_text : Fun K "check_text" "check_text" s_check_text f_check_text fd_check_text
  b_check_text : Binds K fd_check_text ["alphabet", "text"] []
  m_check_text : mg "check_text" = some (.ref f_check_text)
  f_known_kind : Addr
  fd_known_kind : FuncData
  F_known_kind : Fun K "known_kind" "known_kind" s_known_kind f_known_kind fd_known_kind
  b_known_kind : Binds K fd_known_kind ["alphabet", "letter"] []
  m_known_kind : mg "known_kind" = some (.ref f_known_kind)
  f_known_partners : Addr
  fd_known_partners : FuncData
  F_known_partners : Fun K "known_partners" "known_partners" s_known_partners f_known_partners fd_known_partners
  b_known_partners : Binds K fd_known_partners ["alphabet", "text"] []
  m_known_partners : mg "known_partners" = some (.ref f_known_partners)
  f_known_caller : Addr
  fd_known_caller : FuncData
  F_known_caller : Fun K "known_caller" "known_caller" s_known_caller f_known_caller fd_known_caller
  b_known_caller : Binds K fd_known_caller ["rows", "alphabet", "text", "place"] []
  m_known_caller : mg "known_caller" = some (.ref f_known_caller)
  f_check_part : Addr
  fd_check_part : FuncData
  F_check_part : Fun K "check_part" "check_part" s_check_part f_check_part fd_check_part
  b_check_part : Binds K fd_check_part ["alphabet", "told", "deep"] []
  m_check_part : mg "check_part" = some (.ref f_check_part)
  f_check_sentence : Addr
  fd_check_sentence : FuncData
  F_check_sentence : Fun K "check_sentence" "check_sentence" s_check_sentence f_check_sentence fd_check_sentence
  b_check_sentence : Binds K fd_check_sentence ["alphabet", "sentence"] []
  m_check_sentence : mg "check_sentence" = some (.ref f_check_sentence)
  f_Seen_init : Addr
  fd_Seen_init : FuncData
  F_Seen_init : Fun K "__init__" "Seen.__init__" s_Seen_init f_Seen_init fd_Seen_init
  b_Seen_init : Binds K fd_Seen_init ["self", "alphabet", "text"] []
  f_Seen_behind : Addr
  fd_Seen_behind : FuncData
  F_Seen_behind : Fun K "behind" "Seen.behind" s_Seen_behind f_Seen_behind fd_Seen_behind
  b_Seen_behind : Binds K fd_Seen_behind ["self", "at"] []
  f_Seen_truths : Addr
  fd_Seen_truths : FuncData
  F_Seen_truths : Fun K "truths" "Seen.truths" s_Seen_truths f_Seen_truths fd_Seen_truths
  b_Seen_truths : Binds K fd_Seen_truths ["self", "told"] []
  f_Seen_until : Addr
  fd_Seen_until : FuncData
  F_Seen_until : Fun K "until" "Seen.until" s_Seen_until f_Seen_until fd_Seen_until
  b_Seen_until : Binds K fd_Seen_until ["self", "one", "two", "is_plain"] []
  f_check_asked : Addr
  fd_check_asked : FuncData
  F_check_asked : Fun K "check_asked" "check_asked" s_check_asked f_check_asked fd_check_asked
  b_check_asked : Binds K fd_check_asked ["alphabet", "sentence", "text"] []
  m_check_asked : mg "check_asked" = some (.ref f_check_asked)
  f_places_so : Addr
  fd_places_so : FuncData
  F_places_so : Fun K "places_so" "places_so" s_places_so f_places_so fd_places_so
  b_places_so : Binds K fd_places_so ["alphabet", "sentence", "text"] []
  m_places_so : mg "places_so" = some (.ref f_places_so)
  f_is_so : Addr
  fd_is_so : FuncData
  F_is_so : Fun K "is_so" "is_so" s_is_so f_is_so fd_is_so
  b_is_so : Binds K fd_is_so ["alphabet", "sentence", "text", "place"] []
  m_is_so : mg "is_so" = some (.ref f_is_so)
  f_known_holds : Addr
  fd_known_holds : FuncData
  F_known_holds : Fun K "known_holds" "known_holds" s_known_holds f_known_holds fd_known_holds
  b_known_holds : Binds K fd_known_holds ["alphabet", "sentence", "text"] []
  m_known_holds : mg "known_holds" = some (.ref f_known_holds)
  f_holds : Addr
  fd_holds : FuncData
  F_holds : Fun K "holds" "holds" s_holds f_holds fd_holds
  b_holds : Binds K fd_holds ["alphabet", "sentence", "text"] []
  m_holds : mg "holds" = some (.ref f_holds)
  f_known_parts : Addr
  fd_known_parts : FuncData
  F_known_parts : Fun K "known_parts" "known_parts" s_known_parts f_known_parts fd_known_parts
  b_known_parts : Binds K fd_known_parts ["sentence"] []
  m_known_parts : mg "known_parts" = some (.ref f_known_parts)
  f_parts : Addr
  fd_parts : FuncData
  F_parts : Fun K "parts" "parts" s_parts f_parts fd_parts
  b_parts : Binds K fd_parts ["alphabet", "sentence"] []
  m_parts : mg "parts" = some (.ref f_parts)
  f_law_same : Addr
  fd_law_same : FuncData
  F_law_same : Fun K "_law_same" "_law_same" s_law_same f_law_same fd_law_same
  b_law_same : Binds K fd_law_same ["told", "due"] []
  m_law_same : mg "_law_same" = some (.ref f_law_same)
  f_law_stream : Addr
  fd_law_stream : FuncData
  F_law_stream : Fun K "_law_stream" "_law_stream" s_law_stream f_law_stream fd_law_stream
  b_law_stream : Binds K fd_law_stream ["script"] []
  m_law_stream : mg "_law_stream" = some (.ref f_law_stream)
  f_law_next : Addr
  fd_law_next : FuncData
  F_law_next : Fun K "_law_next" "_law_next" s_law_next f_law_next fd_law_next
  b_law_next : Binds K fd_law_next ["state", "many"] []
  m_law_next : mg "_law_next" = some (.ref f_law_next)
  f_law_told : Addr
  fd_law_told : FuncData
  F_law_told : Fun K "_law_told" "_law_told" s_law_told f_law_told fd_law_told
  b_law_told : Binds K fd_law_told ["call"] []
  m_law_told : mg "_law_told" = some (.ref f_law_told)
  f_law_alphabet : Addr
  fd_law_alphabet : FuncData
  F_law_alphabet : Fun K "_law_alphabet" "_law_alphabet" s_law_alphabet f_law_alphabet fd_law_alphabet
  b_law_alphabet : Binds K fd_law_alphabet ["state"] []
  m_law_alphabet : mg "_law_alphabet" = some (.ref f_law_alphabet)
  f_law_partner : Addr
  fd_law_partner : FuncData
  F_law_partner : Fun K "_law_partner" "_law_partner" s_law_partner f_law_partner fd_law_partner
  b_law_partner : Binds K fd_law_partner ["alphabet", "text", "at"] []
  m_law_partner : mg "_law_partner" = some (.ref f_law_partner)
  f_law_around : Addr
  fd_law_around : FuncData
  F_law_around : Fun K "_law_around" "_law_around" s_law_around f_law_around fd_law_around
  b_law_around : Binds K fd_law_around ["alphabet", "text", "at"] []
  m_law_around : mg "_law_around" = some (.ref f_law_around)
  f_law_leap : Addr
  fd_law_leap : FuncData
  F_law_leap : Fun K "_law_leap" "_law_leap" s_law_leap f_law_leap fd_law_leap
  b_law_leap : Binds K fd_law_leap ["alphabet", "text", "at"] []
  m_law_leap : mg "_law_leap" = some (.ref f_law_leap)
  f_law_so : Addr
  fd_law_so : FuncData
  F_law_so : Fun K "_law_so" "_law_so" s_law_so f_law_so fd_law_so
  b_law_so : Binds K fd_law_so ["alphabet", "told", "text", "at"] []
  m_law_so : mg "_law_so" = some (.ref f_law_so)
  f_law_sentence : Addr
  fd_law_sentence : FuncData
  F_law_sentence : Fun K "_law_sentence" "_law_sentence" s_law_sentence f_law_sentence fd_law_sentence
  b_law_sentence : Binds K fd_law_sentence ["state", "alphabet", "deep"] []
  m_law_sentence : mg "_law_sentence" = some (.ref f_law_sentence)
  f_law_parts : Addr
  fd_law_parts : FuncData
  F_law_parts : Fun K "_law_parts" "_law_parts" s_law_parts f_law_parts fd_law_parts
  b_law_parts : Binds K fd_law_parts ["told"] []
  m_law_parts : mg "_law_parts" = some (.ref f_law_parts)
  f_law_text : Addr
  fd_law_text : FuncData
  F_law_text : Fun K "_law_text" "_law_text" s_law_text f_law_text fd_law_text
  b_law_text : Binds K fd_law_text ["state", "alphabet", "most"] []
  m_law_text : mg "_law_text" = some (.ref f_law_text)
  f_law_fits : Addr
  fd_law_fits : FuncData
  F_law_fits : Fun K "_law_fits" "_law_fits" s_law_fits f_law_fits fd_law_fits
  b_law_fits : Binds K fd_law_fits ["state", "alphabet", "sentence", "text"] []
  m_law_fits : mg "_law_fits" = some (.ref f_law_fits)
  f_law_rules_fit : Addr
  fd_law_rules_fit : FuncData
  F_law_rules_fit : Fun K "_law_rules_fit" "_law_rules_fit" s_law_rules_fit f_law_rules_fit fd_law_rules_fit
  b_law_rules_fit : Binds K fd_law_rules_fit ["state", "alphabet", "text"] []
  m_law_rules_fit : mg "_law_rules_fit" = some (.ref f_law_rules_fit)
  f_law_refuses : Addr
  fd_law_refuses : FuncData
  F_law_refuses : Fun K "_law_refuses" "_law_refuses" s_law_refuses f_law_refuses fd_law_refuses
  b_law_refuses : Binds K fd_law_refuses ["alphabet", "text"] []
  m_law_refuses : mg "_law_refuses" = some (.ref f_law_refuses)
  f_law : Addr
  fd_law : FuncData
  F_law : Fun K "law" "law" s_law f_law fd_law
  b_law : Binds K fd_law ["script"] []
  m_law : mg "law" = some (.ref f_law)
  C_CallsError : Addr
  mC_CallsError : mg "CallsError" = some (.ref C_CallsError)
  C_NotAllowed : Addr
  mC_NotAllowed : mg "NotAllowed" = some (.ref C_NotAllowed)
  C_TooLarge : Addr
  mC_TooLarge : mg "TooLarge" = some (.ref C_TooLarge)
  C_Missing : Addr
  mC_Missing : mg "Missing" = some (.ref C_Missing)
  C_BadPaper : Addr
  mC_BadPaper : mg "BadPaper" = some (.ref C_BadPaper)
  C_BadForm : Addr
  mC_BadForm : mg "BadForm" = some (.ref C_BadForm)
  C_Broken : Addr
  mC_Broken : mg "Broken" = some (.ref C_Broken)
  C_Seen : Addr
  mC_Seen : mg "Seen" = some (.ref C_Seen)
  t_MAX_SIGNS : Tok
  m_MAX_SIGNS : mg "MAX_SIGNS" = some (.int 6 t_MAX_SIGNS)
  t_MAX_TEXT : Tok
  m_MAX_TEXT : mg "MAX_TEXT" = some (.int 400 t_MAX_TEXT)
  a_KINDS : Addr
  m_KINDS : mg "KINDS" = some (.ref a_KINDS)
  s_KINDS : ∀ H, SqT K H a_KINDS [.str "call", .str "plain", .str "return"]
  t_MAX_DEEP : Tok
  m_MAX_DEEP : mg "MAX_DEEP" = some (.int 6 t_MAX_DEEP)
  t_MAX_PARTS : Tok
  m_MAX_PARTS : mg "MAX_PARTS" = some (.int 24 t_MAX_PARTS)
  a_ONE : Addr
  m_ONE : mg "ONE" = some (.ref a_ONE)
  s_ONE : ∀ H, SqT K H a_ONE [.str "not", .str "next", .str "leap", .str "caller", .str "partner"]
  a_TWO : Addr
  m_TWO : mg "TWO" = some (.ref a_TWO)
  s_TWO : ∀ H, SqT K H a_TWO [.str "both", .str "either", .str "until", .str "leapuntil"]
  n_abs : mg "abs" = none
  n_all : mg "all" = none
  n_any : mg "any" = none
  n_enumerate : mg "enumerate" = none
  n_int : mg "int" = none
  n_isinstance : mg "isinstance" = none
  n_len : mg "len" = none
  n_list : mg "list" = none
  n_range : mg "range" = none
  n_repr : mg "repr" = none
  n_set : mg "set" = none
  n_sorted : mg "sorted" = none
  n_str : mg "str" = none
  n_sum : mg "sum" = none
  n_tuple : mg "tuple" = none
  n_zip : mg "zip" = none
  xC_NotAllowed : PySem.W.excIn K C_NotAllowed [.type "Exception", .type "BaseException", .type "object"] "Exception.__new__" = true
  kC_NotAllowed : PySem.W.keepIn K (.ref C_NotAllowed) = true
  rs_NotAllowed : ∀ X : Cx, X.K = K → Raises X (.ref C_NotAllowed)
  xC_TooLarge : PySem.W.excIn K C_TooLarge [.type "Exception", .type "BaseException", .type "object"] "Exception.__new__" = true
  kC_TooLarge : PySem.W.keepIn K (.ref C_TooLarge) = true
  rs_TooLarge : ∀ X : Cx, X.K = K → Raises X (.ref C_TooLarge)
  cl_Seen : Cls K C_Seen
  mk_Seen : Mk K C_Seen f_Seen_init
  mt_Seen_behind : Meth K C_Seen "behind" f_Seen_behind
  mt_Seen_truths : Meth K C_Seen "truths" f_Seen_truths
  mt_Seen_until : Meth K C_Seen "until" f_Seen_until
  nA_alphabet : NoAttr K C_Seen "alphabet"
  nA_text : NoAttr K C_Seen "text"
  nA_partners : NoAttr K C_Seen "partners"
  nA_around : NoAttr K C_Seen "around"
theorem Pg.dummy : True := trivial
theorem Pg.k_check_alphabet {K : PySem.W.Frag} {mg : Str → Option Value} (G : Pg K mg) : PySem.W.keepIn K (.ref G.f_check_alphabet) = true := G.F_check_alphabet.kp
theorem Pg.k_check_text {K : PySem.W.Frag} {mg : Str → Option Value} (G : Pg K mg) : PySem.W.keepIn K (.ref G.f_check_text) = true := G.F_check_text.kp
theorem Pg.k_known_kind {K : PySem.W.Frag} {mg : Str → Option Value} (G : Pg K mg) : PySem.W.keepIn K (.ref G.f_known_kind) = true := G.F_known_kind.kp
theorem Pg.k_known_partners {K : PySem.W.Frag} {mg : Str → Option Value} (G : Pg K mg) : PySem.W.keepIn K (.ref G.f_known_partners) = true := G.F_known_partners.kp
theorem Pg.k_known_caller {K : PySem.W.Frag} {mg : Str → Option Value} (G : Pg K mg) : PySem.W.keepIn K (.ref G.f_known_caller) = true := G.F_known_caller.kp
theorem Pg.k_check_part {K : PySem.W.Frag} {mg : Str → Option Value} (G : Pg K mg) : PySem.W.keepIn K (.ref G.f_check_part) = true := G.F_check_part.kp
theorem Pg.k_check_sentence {K : PySem.W.Frag} {mg : Str → Option Value} (G : Pg K mg) : PySem.W.keepIn K (.ref G.f_check_sentence) = true := G.F_check_sentence.kp
theorem Pg.k_Seen_init {K : PySem.W.Frag} {mg : Str → Option Value} (G : Pg K mg) : PySem.W.keepIn K (.ref G.f_Seen_init) = true := G.F_Seen_init.kp
theorem Pg.k_Seen_behind {K : PySem.W.Frag} {mg : Str → Option Value} (G : Pg K mg) : PySem.W.keepIn K (.ref G.f_Seen_behind) = true := G.F_Seen_behind.kp
theorem Pg.k_Seen_truths {K : PySem.W.Frag} {mg : Str → Option Value} (G : Pg K mg) : PySem.W.keepIn K (.ref G.f_Seen_truths) = true := G.F_Seen_truths.kp
theorem Pg.k_Seen_until {K : PySem.W.Frag} {mg : Str → Option Value} (G : Pg K mg) : PySem.W.keepIn K (.ref G.f_Seen_until) = true := G.F_Seen_until.kp
theorem Pg.k_check_asked {K : PySem.W.Frag} {mg : Str → Option Value} (G : Pg K mg) : PySem.W.keepIn K (.ref G.f_check_asked) = true := G.F_check_asked.kp
theorem Pg.k_places_so {K : PySem.W.Frag} {mg : Str → Option Value} (G : Pg K mg) : PySem.W.keepIn K (.ref G.f_places_so) = true := G.F_places_so.kp
theorem Pg.k_is_so {K : PySem.W.Frag} {mg : Str → Option Value} (G : Pg K mg) : PySem.W.keepIn K (.ref G.f_is_so) = true := G.F_is_so.kp
theorem Pg.k_known_holds {K : PySem.W.Frag} {mg : Str → Option Value} (G : Pg K mg) : PySem.W.keepIn K (.ref G.f_known_holds) = true := G.F_known_holds.kp
theorem Pg.k_holds {K : PySem.W.Frag} {mg : Str → Option Value} (G : Pg K mg) : PySem.W.keepIn K (.ref G.f_holds) = true := G.F_holds.kp
theorem Pg.k_known_parts {K : PySem.W.Frag} {mg : Str → Option Value} (G : Pg K mg) : PySem.W.keepIn K (.ref G.f_known_parts) = true := G.F_known_parts.kp
theorem Pg.k_parts {K : PySem.W.Frag} {mg : Str → Option Value} (G : Pg K mg) : PySem.W.keepIn K (.ref G.f_parts) = true := G.F_parts.kp
theorem Pg.k_law_same {K : PySem.W.Frag} {mg : Str → Option Value} (G : Pg K mg) : PySem.W.keepIn K (.ref G.f_law_same) = true := G.F_law_same.kp
theorem Pg.k_law_stream {K : PySem.W.Frag} {mg : Str → Option Value} (G : Pg K mg) : PySem.W.keepIn K (.ref G.f_law_stream) = true := G.F_law_stream.kp
theorem Pg.k_law_next {K : PySem.W.Frag} {mg : Str → Option Value} (G : Pg K mg) : PySem.W.keepIn K (.ref G.f_law_next) = true := G.F_law_next.kp
theorem Pg.k_law_told {K : PySem.W.Frag} {mg : Str → Option Value} (G : Pg K mg) : PySem.W.keepIn K (.ref G.f_law_told) = true := G.F_law_told.kp
theorem Pg.k_law_alphabet {K : PySem.W.Frag} {mg : Str → Option Value} (G : Pg K mg) : PySem.W.keepIn K (.ref G.f_law_alphabet) = true := G.F_law_alphabet.kp
theorem Pg.k_law_partner {K : PySem.W.Frag} {mg : Str → Option Value} (G : Pg K mg) : PySem.W.keepIn K (.ref G.f_law_partner) = true := G.F_law_partner.kp
theorem Pg.k_law_around {K : PySem.W.Frag} {mg : Str → Option Value} (G : Pg K mg) : PySem.W.keepIn K (.ref G.f_law_around) = true := G.F_law_around.kp
theorem Pg.k_law_leap {K : PySem.W.Frag} {mg : Str → Option Value} (G : Pg K mg) : PySem.W.keepIn K (.ref G.f_law_leap) = true := G.F_law_leap.kp
theorem Pg.k_law_so {K : PySem.W.Frag} {mg : Str → Option Value} (G : Pg K mg) : PySem.W.keepIn K (.ref G.f_law_so) = true := G.F_law_so.kp
theorem Pg.k_law_sentence {K : PySem.W.Frag} {mg : Str → Option Value} (G : Pg K mg) : PySem.W.keepIn K (.ref G.f_law_sentence) = true := G.F_law_sentence.kp
theorem Pg.k_law_parts {K : PySem.W.Frag} {mg : Str → Option Value} (G : Pg K mg) : PySem.W.keepIn K (.ref G.f_law_parts) = true := G.F_law_parts.kp
theorem Pg.k_law_text {K : PySem.W.Frag} {mg : Str → Option Value} (G : Pg K mg) : PySem.W.keepIn K (.ref G.f_law_text) = true := G.F_law_text.kp
theorem Pg.k_law_fits {K : PySem.W.Frag} {mg : Str → Option Value} (G : Pg K mg) : PySem.W.keepIn K (.ref G.f_law_fits) = true := G.F_law_fits.kp
theorem Pg.k_law_rules_fit {K : PySem.W.Frag} {mg : Str → Option Value} (G : Pg K mg) : PySem.W.keepIn K (.ref G.f_law_rules_fit) = true := G.F_law_rules_fit.kp
theorem Pg.k_law_refuses {K : PySem.W.Frag} {mg : Str → Option Value} (G : Pg K mg) : PySem.W.keepIn K (.ref G.f_law_refuses) = true := G.F_law_refuses.kp
theorem Pg.k_law {K : PySem.W.Frag} {mg : Str → Option Value} (G : Pg K mg) : PySem.W.keepIn K (.ref G.f_law) = true := G.F_law.kp
end K38
/-! The data layer, further: operations on data, comprehensions over what is walked. -/
namespace KD
open PySem L2 Evl

/-! ### a list that is written -/
theorem tups_upd {K : PySem.W.Frag} {H : Hp} {l : Addr} {xs : List V} {o : HO} (h : H l = some (.lst xs)) : Tups K H (upd H l o) := fun a ys q => by
  rcases q with (q | ⟨ob, q⟩) | q
  · have ne : a ≠ l := fun e => by rw [e, h] at q; cases q
    exact .inl (.inl (by rw [upd_ne ne]; exact q))
  · have ne : a ≠ l := fun e => by rw [e, h] at q; cases q
    exact .inl (.inr ⟨ob, by rw [upd_ne ne]; exact q⟩)
  · exact .inr q
theorem ex_upd_out {H H' : Hp} {l : Addr} {o : HO} (e : Ex H H') (n : H l = none) : Ex H (upd H' l o) := Ex.mut e n
section
variable {K : PySem.W.Frag} {σ : L2.St} {H H' : Hp} {te ta tb tc : TE} {d : PyData} {ds : List PyData} {v x y z : V} {i j : Int}

/-! ### scalars -/
theorem ev_add (ha : Ev ta σ H (.int i)) (hb : Ev tb σ H (.int j)) : Ev (tOp (rI0 fun i j => .int (i + j)) ta tb) σ H (.int (i + j)) := ev_op ha hb rv_I0
theorem ev_sub (ha : Ev ta σ H (.int i)) (hb : Ev tb σ H (.int j)) : Ev (tOp (rI0 fun i j => .int (i - j)) ta tb) σ H (.int (i - j)) := ev_op ha hb rv_I0
theorem ev_neg (ha : Ev ta σ H (.int i)) : Ev (tUn (rU fun i => .int (-i)) ta) σ H (.int (-i)) := ev_un ha ru_neg
theorem ev_mul (ha : Ev ta σ H (.int i)) (hb : Ev tb σ H (.int j)) (hc : CMul i j) : Ev (tOp (rI CMul fun i j => .int (i * j)) ta tb) σ H (.int (i * j)) := ev_op ha hb (rv_I hc)
theorem ev_mod (ha : Ev ta σ H (.int i)) (hb : Ev tb σ H (.int j)) (hc : 0 < j) : Ev (tOp (rI (fun _ j => 0 < j) fun i j => .int (i % j)) ta tb) σ H (.int (i % j)) := ev_op ha hb (rv_I hc)
theorem ev_fdiv (ha : Ev ta σ H (.int i)) (hb : Ev tb σ H (.int j)) (hc : CDiv i j) : Ev (tOp (rI CDiv fun i j => .int (i / j)) ta tb) σ H (.int (i / j)) := ev_op ha hb (rv_I hc)
theorem ev_lt (ha : Ev ta σ H (.int i)) (hb : Ev tb σ H (.int j)) : Ev (tOp (rI0 fun i j => .bl (decide (i < j))) ta tb) σ H (.bl (decide (i < j))) := ev_op ha hb rv_I0
theorem ev_le (ha : Ev ta σ H (.int i)) (hb : Ev tb σ H (.int j)) : Ev (tOp (rI0 fun i j => .bl (decide (i ≤ j))) ta tb) σ H (.bl (decide (i ≤ j))) := ev_op ha hb rv_I0
theorem ev_gt (ha : Ev ta σ H (.int i)) (hb : Ev tb σ H (.int j)) : Ev (tOp (rI0 fun i j => .bl (decide (j < i))) ta tb) σ H (.bl (decide (j < i))) := ev_op ha hb rv_I0
theorem ev_ge (ha : Ev ta σ H (.int i)) (hb : Ev tb σ H (.int j)) : Ev (tOp (rI0 fun i j => .bl (decide (j ≤ i))) ta tb) σ H (.bl (decide (j ≤ i))) := ev_op ha hb rv_I0
theorem ev_eq (ha : Ev ta σ H x) (hb : Ev tb σ H y) (h : scal x y = true := by rfl) : Ev (tOp rEq ta tb) σ H (.bl (decide (x = y))) := ev_op ha hb (rv_eq h)
theorem ev_ne (ha : Ev ta σ H x) (hb : Ev tb σ H y) (h : scal x y = true := by rfl) : Ev (tOp rNe ta tb) σ H (.bl (!decide (x = y))) := ev_op ha hb (rv_ne h)
theorem ev_inS {c : Nat} {s : Str} (ha : Ev ta σ H (.str ⟨#[c]⟩)) (hb : Ev tb σ H (.str s)) :
    Ev (tOp (fun x y H Q => ∃ (c : Nat) (z : Str), x = .str ⟨#[c]⟩ ∧ y = .str z ∧ Q (.bl (decide (c ∈ z.cps.toList))) H) ta tb) σ H (.bl (decide (c ∈ s.cps.toList))) :=
  ev_op ha hb fun H1 _ _ q => ⟨c, s, rfl, rfl, q H1 (Ex.refl H1)⟩
theorem ev_ninS {c : Nat} {s : Str} (ha : Ev ta σ H (.str ⟨#[c]⟩)) (hb : Ev tb σ H (.str s)) :
    Ev (tOp (fun x y H Q => ∃ (c : Nat) (z : Str), x = .str ⟨#[c]⟩ ∧ y = .str z ∧ Q (.bl (!decide (c ∈ z.cps.toList))) H) ta tb) σ H (.bl (!decide (c ∈ s.cps.toList))) :=
  ev_op ha hb fun H1 _ _ q => ⟨c, s, rfl, rfl, q H1 (Ex.refl H1)⟩
theorem ev_ixS {s : Str} {c : Nat} (ha : Ev ta σ H (.str s)) (hb : Ev tb σ H (.int i)) (hl : s.length ≤ 100000) (hg : atI s.cps.toList i = some c) : Ev (tOp rIxS ta tb) σ H (.str ⟨#[c]⟩) := ev_op ha hb (rv_ixS hl hg)
theorem ev_addS {s t : Str} (ha : Ev ta σ H (.str s)) (hb : Ev tb σ H (.str t)) (hl : s.length + t.length ≤ 100000) :
    Ev (tOp (fun x y H Q => ∃ i j, x = .str i ∧ y = .str j ∧ i.length + j.length ≤ sizeLine ∧ Q (.str (i ++ j)) H) ta tb) σ H (.str (s ++ t)) :=
  ev_op ha hb fun H1 _ _ q => ⟨s, t, rfl, rfl, sz_of hl, q H1 (Ex.refl H1)⟩
theorem ev_leS {s t : Str} (ha : Ev ta σ H (.str s)) (hb : Ev tb σ H (.str t)) :
    Ev (tOp (fun x y H Q => ∃ i j, x = .str i ∧ y = .str j ∧ Q (.bl (!decide (j.cps.toList < i.cps.toList))) H) ta tb) σ H (.bl (!decide (t.cps.toList < s.cps.toList))) :=
  ev_op ha hb fun H1 _ _ q => ⟨s, t, rfl, rfl, q H1 (Ex.refl H1)⟩
theorem ev_chain {r r' : R2} {a b : Bool} (ha : Ev ta σ H x) (hb : Ev tb σ H y) (hc : Ev tc σ H z) (h1 : RV r x y H (.bl a)) (h2 : a = true → RV r' y z H (.bl b)) : Ev (tChain r r' ta tb tc) σ H (.bl (a && b)) := fun H1 e Q q =>
  ha H1 e _ fun H2 e2 => hb H2 (e.trans e2) _ fun H3 e3 => h1 H3 ((e.trans e2).trans e3) _ fun H4 e4 => ⟨a, rfl, by
    have f4 : Ex H1 H4 := (e2.trans e3).trans e4
    cases a with
    | true =>
      show tc σ H4 fun w' H5 => r' y w' H5 Q
      exact hc H4 (e.trans f4) _ fun H5 e5 => h2 rfl H5 (e.trans (f4.trans e5)) Q fun H6 e6 => q H6 ((f4.trans e5).trans e6)
    | false => exact q H4 f4⟩
/-! ### built-in functions -/
theorem ev_lenS {s : Str} (ha : Ev te σ H (.str s)) (hl : s.length ≤ 100000) : Ev (tCB (fun xs H Q => ∃ x n, xs = [x] ∧ LenV K x H n ∧ Q (.int n) H) (tCons te tNil)) σ H (.int (s.length : Nat)) := fun H1 e Q q =>
  ha H1 e _ fun H2 e2 => ⟨.str s, s.length, rfl, ⟨sz_of hl, rfl⟩, q H2 e2⟩
theorem ev_lenT (ha : EvD K te σ H (.tuple ds)) : Ev (tCB (fun xs H Q => ∃ x n, xs = [x] ∧ LenV K x H n ∧ Q (.int n) H) (tCons te tNil)) σ H (.int (ds.length : Nat)) := fun H1 e Q q =>
  ha H1 e _ fun v H2 e2 hd => by
    obtain ⟨a, xs, rfl, hs, ha⟩ := dp_tuple hd
    exact ⟨.ref a, xs.length, rfl, .inr ⟨xs, hs, rfl⟩, by rw [dpAll_len ha]; exact q H2 e2⟩
theorem ev_lenL (ha : EvD K te σ H (.list ds)) : Ev (tCB (fun xs H Q => ∃ x n, xs = [x] ∧ LenV K x H n ∧ Q (.int n) H) (tCons te tNil)) σ H (.int (ds.length : Nat)) := fun H1 e Q q =>
  ha H1 e _ fun v H2 e2 hd => by
    obtain ⟨a, xs, rfl, hs, ha⟩ := dp_list hd
    exact ⟨.ref a, xs.length, rfl, .inl ⟨xs, hs, rfl⟩, by rw [dpAll_len ha]; exact q H2 e2⟩
theorem ev_all {bs : List Bool} (ha : EvD K te σ H (.list (bs.map .bool))) : Ev (tCB (rAll K) (tCons te tNil)) σ H (.bl (bs.all id)) := fun H1 e Q q =>
  ha H1 e _ fun v H2 e2 hd => by
    obtain ⟨a, xs, rfl, hs, ha⟩ := dp_list hd
    exact ⟨a, bs, rfl, by rw [← dpAll_bools' ha]; exact hs, q H2 e2⟩
theorem ev_any {bs : List Bool} (ha : EvD K te σ H (.list (bs.map .bool))) : Ev (tCB (rAny K) (tCons te tNil)) σ H (.bl (bs.any id)) := fun H1 e Q q =>
  ha H1 e _ fun v H2 e2 hd => by
    obtain ⟨a, xs, rfl, hs, ha⟩ := dp_list hd
    exact ⟨a, bs, rfl, by rw [← dpAll_bools' ha]; exact hs, q H2 e2⟩
theorem ev_sum {ns : List Int} (ha : EvD K te σ H (.list (ns.map .int))) : Ev (tCB (rSum K) (tCons te tNil)) σ H (.int ns.sum) := fun H1 e Q q =>
  ha H1 e _ fun v H2 e2 hd => by
    obtain ⟨a, xs, rfl, hs, ha⟩ := dp_list hd
    exact ⟨a, ns, rfl, by rw [← dpAll_ints' ha]; exact hs, q H2 e2⟩
theorem ev_intb {b : Bool} (ha : Ev te σ H (.bl b)) : Ev (tCB (fun xs H Q => (∃ i, xs = [.int i] ∧ Q (.int i) H) ∨ ∃ k, xs = [.bl k] ∧ Q (.int (if k then 1 else 0)) H) (tCons te tNil)) σ H (.int (if b then 1 else 0)) := fun H1 e Q q =>
  ha H1 e _ fun H2 e2 => .inr ⟨b, rfl, q H2 e2⟩
theorem ev_inti (ha : Ev te σ H (.int i)) : Ev (tCB (fun xs H Q => (∃ i, xs = [.int i] ∧ Q (.int i) H) ∨ ∃ k, xs = [.bl k] ∧ Q (.int (if k then 1 else 0)) H) (tCons te tNil)) σ H (.int i) := fun H1 e Q q =>
  ha H1 e _ fun H2 e2 => .inl ⟨i, rfl, q H2 e2⟩
theorem ev_abs (ha : Ev te σ H (.int i)) : Ev (tCB (fun xs H Q => ∃ i, xs = [.int i] ∧ Q (.int (if i < 0 then -i else i)) H) (tCons te tNil)) σ H (.int (if i < 0 then -i else i)) := fun H1 e Q q =>
  ha H1 e _ fun H2 e2 => ⟨i, rfl, q H2 e2⟩
/-- "".join(a list, a tuple of texts) -/
theorem ev_join {a : Str} {ys : List Str} (ho : Ev ta σ H (.str a)) (he : EvD K te σ H (.list (ys.map .str)) ∨ EvD K te σ H (.tuple (ys.map .str))) (hl : (ys.map (·.length)).sum + ys.length * a.length ≤ 16777216) :
    Ev (tM1 (fun x xs H Q => ∃ a p, ∃ ys : List Str, x = .str a ∧ xs = [.ref p] ∧ (SqL K H p (ys.map V.str) ∨ SqT K H p (ys.map V.str)) ∧ (ys.map (·.length)).sum + ys.length * a.length ≤ 16777216 ∧ Q (.str (Txt.join a ys)) H) ta te) σ H (.str (Txt.join a ys)) := fun H1 e Q q =>
  ho H1 e _ fun H2 e2 => ⟨⟨a, rfl⟩, by
    rcases he with he | he
    · refine he H2 (e.trans e2) _ fun v H3 e3 hd => ?_
      obtain ⟨p, xs, rfl, hs, hx⟩ := dp_list hd
      exact ⟨a, p, ys, rfl, rfl, .inl (by rw [← dpAll_strs' hx]; exact hs), hl, q H3 (e2.trans e3)⟩
    · refine he H2 (e.trans e2) _ fun v H3 e3 hd => ?_
      obtain ⟨p, xs, rfl, hs, hx⟩ := dp_tuple hd
      exact ⟨a, p, ys, rfl, rfl, .inr (by rw [← dpAll_strs' hx]; exact hs), hl, q H3 (e2.trans e3)⟩⟩
theorem ev_isStr {s : Str} (ha : Ev ta σ H (.str s)) : Ev (tCB (rIsi K) (tCons ta (tCons (tC (.ty "str")) tNil))) σ H (.bl true) := fun H1 e Q q =>
  ha H1 e _ fun H2 e2 => ⟨.str s, .ty "str", .type "str", .type "str", true, rfl, .ty _, .base (.str s), kit_ty (by decide +kernel), q H2 e2⟩
/-- tuple(a list) -/
theorem evd_tupleOf (ha : EvD K te σ H (.list ds)) (hi : immAll ds = true) : EvD K (tCB (fun xs H Q => ∃ p ys, xs = [.ref p] ∧ ((SqL K H p ys ∧ ∀ l, H l = none → Q (.ref l) (upd H l (.tup ys))) ∨ (SqT K H p ys ∧ Q (.ref p) H))) (tCons te tNil)) σ H (.tuple ds) := fun H1 e Q q =>
  ha H1 e _ fun v H2 e2 hd => by
    obtain ⟨a, xs, rfl, hs, hx⟩ := dp_list hd
    exact ⟨a, xs, rfl, .inl ⟨hs, fun l hl => q (.ref l) _ (e2.trans (Ex.new hl)) (.tup (st_of upd_same) (Dpax (Ex.new hl) hx))⟩⟩
end

/-! ### what is walked -/
/-- n turns; turn i gives a value of which YD i tells -/
def EvW (wi : TI) (σ : L2.St) (H : Hp) (n : Nat) (YD : Nat → V → Hp → Prop) : Prop := ∀ H1, Ex H H1 → ∀ R : It → Hp → Prop, (∀ J H2 G, Ex H1 H2 → Walk J n G (fun i H3 x H4 => Ex H3 H4 ∧ YD i x H4) → (∀ H3, Ex H2 H3 → G H3) → R J H2) → wi σ H1 R
section
variable {K : PySem.W.Frag} {σ : L2.St} {H H' : Hp} {te ta tb tl : TE} {d : PyData} {ds es : List PyData} {i j : Int}
theorem yes_mono {n : Nat} {J : It} {G : Hp → Prop} {Y Y' : Nat → Hp → V → Hp → Prop} (w : Walk J n G Y) (h : ∀ i H x H', i < n → G H → Y i H x H' → Y' i H x H') : Walk J n G Y' := w.mono (fun _ g => g) h
theorem evw_list (h : EvD K tl σ H (.list ds)) : EvW (iList K tl) σ H ds.length (fun i x H4 => ∃ d, ds[i]? = some d ∧ Dp K H4 x d) := fun H1 e R r =>
  h H1 e _ fun v H2 e2 hd => by
    obtain ⟨a, xs, rfl, hs, hx⟩ := dp_list hd
    have hl := dpAll_len hx
    refine ⟨a, rfl, ⟨xs, hs⟩, r (Itl K a) H2 (fun H3 => SqL K H3 a xs ∧ DpAll K H3 xs ds) e2 ?_ fun H3 e3 => ⟨ex_l e3 hs, Dpax e3 hx⟩⟩
    rw [← hl]
    refine walk_list.mono (fun _ g => g.1) fun i H3 x H4 hi g y => ?_
    obtain ⟨rfl, y2⟩ := y
    obtain ⟨d, h1, h2⟩ := dpAll_get g.2 y2
    exact ⟨Ex.refl _, d, h1, h2⟩
theorem evw_tup (h : EvD K tl σ H (.tuple ds)) : EvW (iTup K tl) σ H ds.length (fun i x H4 => ∃ d, ds[i]? = some d ∧ Dp K H4 x d) := fun H1 e R r =>
  h H1 e _ fun v H2 e2 hd => by
    obtain ⟨a, xs, rfl, hs, hx⟩ := dp_tuple hd
    have hl := dpAll_len hx
    refine ⟨a, rfl, ⟨xs, hs⟩, r (Itt K a) H2 (fun H3 => SqT K H3 a xs ∧ DpAll K H3 xs ds) e2 ?_ fun H3 e3 => ⟨ex_t e3 hs, Dpax e3 hx⟩⟩
    rw [← hl]
    refine walk_tup.mono (fun _ g => g.1) fun i H3 x H4 hi g y => ?_
    obtain ⟨rfl, y2⟩ := y
    obtain ⟨d, h1, h2⟩ := dpAll_get g.2 y2
    exact ⟨Ex.refl _, d, h1, h2⟩
theorem evw_str {s : Str} (h : Ev tl σ H (.str s)) : EvW (iStr tl) σ H s.length (fun i x H4 => ∃ c, s.cps[i]? = some c ∧ x = .str ⟨#[c]⟩) := fun H1 e R r =>
  h H1 e _ fun H2 e2 => ⟨s, rfl, r (Its s) H2 (fun _ => True) e2 (walk_str.mono (fun _ _ => trivial) fun i H3 x H4 hi g y => by
    obtain ⟨rfl, y2⟩ := y
    exact ⟨Ex.refl _, y2⟩) fun _ _ => trivial⟩
theorem evw_range1 {ta : TA} {n : Int} (h : EvA ta σ H [.int n]) (hn : -(2 ^ 62) ≤ n ∧ n < 2 ^ 62) : EvW (iRng1 ta) σ H n.toNat (fun i x _ => x = .int (i : Nat)) := fun H1 e R r =>
  h H1 e _ fun H2 e2 => ⟨n, rfl, hn.1, hn.2, r (Itr 0 n.toNat) H2 (fun _ => True) e2 (walk_range.mono (fun _ _ => trivial) fun i H3 x H4 hi g y => by
    obtain ⟨rfl, rfl⟩ := y
    exact ⟨Ex.refl _, by show V.int ((0 : Int) + (i : Nat)) = V.int (i : Nat); rw [Int.zero_add]⟩) fun _ _ => trivial⟩
theorem evw_down {ta : TA} {n : Int} (h : EvA ta σ H [.int (n - 1), .int (-1), .int (-1)]) (hn : 0 ≤ n ∧ n < 2 ^ 61) : EvW (iRng3 ta) σ H n.toNat (fun i x _ => x = .int (n - 1 - (i : Nat))) := fun H1 e R r =>
  h H1 e _ fun H2 e2 => by
    have rg : RgC (n - 1) (-1) (-1) (n - 1 - -1).toNat := RgC.neg (by omega) (by omega) (by omega) (by omega)
    refine ⟨n - 1, -1, -1, (n - 1 - -1).toNat, rfl, rg, ?_⟩
    have en : (n - 1 - -1).toNat = n.toNat := by omega
    rw [en]
    refine r (Itc (n - 1) (-1) n.toNat) H2 (fun _ => True) e2 (walk_rangeC.mono (fun _ _ => trivial) fun i H3 x H4 hi g y => ?_) fun _ _ => trivial
    obtain ⟨rfl, rfl⟩ := y
    exact ⟨Ex.refl _, by show V.int (n - 1 + (i : Nat) * (-1)) = _; congr 1; omega⟩
/-- a new pair of a and b -/
def PairD (K : PySem.W.Frag) (a b : V → Hp → Prop) (x : V) (H : Hp) : Prop := ∃ T y z, x = .ref T ∧ H T = some (.tup [y, z]) ∧ a y H ∧ b z H
theorem evw_enum {ta : TA} (h : EvAD K ta σ H [.list ds]) : EvW (iEnum K ta) σ H ds.length (fun i x H4 => PairD K (fun y _ => y = .int (i : Nat)) (fun z H5 => ∃ d, ds[i]? = some d ∧ Dp K H5 z d) x H4) := fun H1 e R r =>
  h H1 e _ fun vs H2 e2 hv => by
    cases hv with
    | cons hd ht =>
      cases ht
      obtain ⟨a, xs, rfl, hs, hx⟩ := dp_list hd
      have hl := dpAll_len hx
      refine ⟨a, xs, rfl, hs, r (Ite K a) H2 (fun H3 => SqL K H3 a xs ∧ DpAll K H3 xs ds) e2 ?_ fun H3 e3 => ⟨ex_l e3 hs, Dpax e3 hx⟩⟩
      rw [← hl]
      refine walk_enum.mono (fun _ g => g.1) fun i H3 x H4 hi g y => ?_
      obtain ⟨T, y1, y2, rfl, hT, rfl, q1, q2⟩ := y
      obtain ⟨d, h1, h2⟩ := dpAll_get g.2 q2
      cases q1
      exact ⟨Ex.new hT, T, _, y2, rfl, upd_same, rfl, d, h1, Dpx (Ex.new hT) h2⟩
theorem evw_zipL {ta : TA} (h : EvAD K ta σ H [.list ds, .list es]) : EvW (RZ.iZipA K ta) σ H (min ds.length es.length) (fun i x H4 => PairD K (fun z H5 => ∃ d, ds[i]? = some d ∧ Dp K H5 z d) (fun z H5 => ∃ d, es[i]? = some d ∧ Dp K H5 z d) x H4) := fun H1 e R r =>
  h H1 e _ fun vs H2 e2 hv => by
    cases hv with
    | cons hd ht =>
      cases ht with
      | cons hd2 ht2 =>
        cases ht2
        obtain ⟨a, xs, rfl, hs, hx⟩ := dp_list hd
        obtain ⟨b, ys, rfl, hs2, hx2⟩ := dp_list hd2
        have hl := dpAll_len hx
        have hl2 := dpAll_len hx2
        refine ⟨a, b, xs, ys, rfl, .inl ⟨hs, hs2, r (Itz K a b) H2 (fun H3 => (SqL K H3 a xs ∧ SqL K H3 b ys) ∧ DpAll K H3 xs ds ∧ DpAll K H3 ys es) e2 ?_ fun H3 e3 => ⟨⟨ex_l e3 hs, ex_l e3 hs2⟩, Dpax e3 hx, Dpax e3 hx2⟩⟩⟩
        refine (walk_zip (xs := xs) (ys := ys) (by rw [hl, hl2])).mono (fun _ g => g.1) fun i H3 x H4 hi g y => ?_
        obtain ⟨T, y1, y2, rfl, hT, rfl, q1, q2⟩ := y
        obtain ⟨d, h1, h2⟩ := dpAll_get g.2.1 q1
        obtain ⟨d', h1', h2'⟩ := dpAll_get g.2.2 q2
        exact ⟨Ex.new hT, T, y1, y2, rfl, upd_same, ⟨d, h1, Dpx (Ex.new hT) h2⟩, d', h1', Dpx (Ex.new hT) h2'⟩
theorem walk_zipT {a b : Addr} {xs ys : List V} {n : Nat} (hn : n = min xs.length ys.length) : Walk (RZ.ItzT K a b) n (fun H => SqT K H a xs ∧ SqT K H b ys) (YPair (fun i => xs[i]?) (fun i => ys[i]?)) := by
  subst hn
  refine ⟨fun i _ hi q => ?_, fun _ q => ⟨xs, ys, q.1, q.2, by omega⟩, fun i H v H' _ q y => ?_⟩
  · have h1 : i < xs.length := by omega
    have h2 : i < ys.length := by omega
    exact ⟨xs, ys, xs[i], ys[i], q.1, q.2, by simp [h1], by simp [h2]⟩
  · obtain ⟨T, x, z, h1, h2, h3, h4, h5⟩ := y
    exact ⟨T, x, z, h1, h2, h3, h4 xs q.1, h5 ys q.2⟩
theorem evw_zipT {ta : TA} (h : EvAD K ta σ H [.tuple ds, .tuple es]) : EvW (RZ.iZipA K ta) σ H (min ds.length es.length) (fun i x H4 => PairD K (fun z H5 => ∃ d, ds[i]? = some d ∧ Dp K H5 z d) (fun z H5 => ∃ d, es[i]? = some d ∧ Dp K H5 z d) x H4) := fun H1 e R r =>
  h H1 e _ fun vs H2 e2 hv => by
    cases hv with
    | cons hd ht =>
      cases ht with
      | cons hd2 ht2 =>
        cases ht2
        obtain ⟨a, xs, rfl, hs, hx⟩ := dp_tuple hd
        obtain ⟨b, ys, rfl, hs2, hx2⟩ := dp_tuple hd2
        have hl := dpAll_len hx
        have hl2 := dpAll_len hx2
        refine ⟨a, b, xs, ys, rfl, .inr ⟨hs, hs2, r (RZ.ItzT K a b) H2 (fun H3 => (SqT K H3 a xs ∧ SqT K H3 b ys) ∧ DpAll K H3 xs ds ∧ DpAll K H3 ys es) e2 ?_ fun H3 e3 => ⟨⟨ex_t e3 hs, ex_t e3 hs2⟩, Dpax e3 hx, Dpax e3 hx2⟩⟩⟩
        refine (walk_zipT (xs := xs) (ys := ys) (by rw [hl, hl2])).mono (fun _ g => g.1) fun i H3 x H4 hi g y => ?_
        obtain ⟨T, y1, y2, rfl, hT, rfl, q1, q2⟩ := y
        obtain ⟨d, h1, h2⟩ := dpAll_get g.2.1 q1
        obtain ⟨d', h1', h2'⟩ := dpAll_get g.2.2 q2
        exact ⟨Ex.new hT, T, y1, y2, rfl, upd_same, ⟨d, h1, Dpx (Ex.new hT) h2⟩, d', h1', Dpx (Ex.new hT) h2'⟩

/-! ### comprehensions -/
/-- what is kept: the values at the turns that a test lets through -/
def kept (n : Nat) (f : Nat → Bool) (val : Nat → PyData) : List PyData := ((List.range n).filter f).map val
theorem kept_yes {n : Nat} {f : Nat → Bool} {val : Nat → PyData} (h : f n = true) : kept (n + 1) f val = kept n f val ++ [val n] := by
  unfold kept
  rw [List.range_succ, List.filter_append, List.map_append, List.filter_cons, if_pos h]
  rfl
theorem kept_no {n : Nat} {f : Nat → Bool} {val : Nat → PyData} (h : f n = false) : kept (n + 1) f val = kept n f val := by
  unfold kept
  rw [List.range_succ, List.filter_append, List.map_append, List.filter_cons, if_neg (by rw [h]; decide)]
  show _ ++ [] = _
  rw [List.append_nil]
theorem kept_len (n : Nat) (f : Nat → Bool) (val : Nat → PyData) : (kept n f val).length ≤ n := by
  unfold kept
  rw [List.length_map]
  have h := List.length_filter_le f (List.range n)
  rw [List.length_range] at h
  exact h
theorem kept_imm {n : Nat} {f : Nat → Bool} {val : Nat → PyData} (h : ∀ i, i < n → f i = true → imm (val i) = true) : immAll (kept n f val) = true := by
  induction n with
  | zero => rfl
  | succ n ih =>
    have ih' := ih fun i hi => h i (by omega)
    cases e : f n with
    | true =>
      rw [kept_yes e]
      have app : ∀ (a b : List PyData), immAll (a ++ b) = (immAll a && immAll b) := by
        intro a b
        induction a with
        | nil => simp [immAll]
        | cons x r q => simp [immAll, q, Bool.and_assoc]
      rw [app, ih', immAll, h n (by omega) e]
      rfl
    | false => rw [kept_no e]; exact ih'
theorem kept_all {n : Nat} {val : Nat → PyData} : kept n (fun _ => true) val = (List.range n).map val := by
  unfold kept
  rw [List.filter_eq_self.mpr fun _ _ => rfl]
/-- a target's reading that asks what it is handed -/
def MonoG (g : TG) : Prop := ∀ x σ H (Q Q' : L2.St → Hp → Prop), (∀ σ' H', Q σ' H' → Q' σ' H') → g x σ H Q → g x σ H Q'
theorem mono_name {i : Nat} : MonoG (gName i) := fun _ _ _ _ _ h q => h _ _ q
theorem mono_pair {i j : Nat} : MonoG (gTup K 2 (gCons (gName i) (gCons (gName j) gNil))) := fun x σ H Q Q' h q => by
  obtain ⟨a, xs, e, hs, hl, v, r, e2, w, r2, e3, e4, q⟩ := q
  exact ⟨a, xs, e, hs, hl, v, r, e2, w, r2, e3, e4, h _ _ q⟩
theorem evn_lc {wi : TI} {g : TG} {tt : TT} {vs : List Nat} {n : Nat} {YD : Nat → V → Hp → Prop} (hw : EvW wi σ H n YD) (hg : MonoG g) (f : Nat → Bool) (val : Nat → PyData) (hn : n ≤ 50000) (hi : ∀ i, i < n → f i = true → imm (val i) = true)
    (ht : ∀ i x H1, Ex H H1 → i < n → YD i x H1 → g x (wipe σ vs) H1 fun σ2 H2 => Ex H1 H2 ∧ wipe σ2 vs = wipe σ vs ∧ EvT tt σ2 H2 (f i) ∧ (f i = true → EvD K te σ2 H2 (val i))) :
    EvN K (tLc wi g tt te vs) σ H (kept n f val) := fun H0 e Q q => hw H0 e _ fun J H1 G e1 w hG Dl hD => by
  have frs : ∀ i, i ≤ n → immAll (kept i f val) = true := fun i hi' => kept_imm fun j hj => hi j (by omega)
  refine lc_it w (fun i H' => Ex H1 H' ∧ ∃ xs, H' Dl = some (.lst xs) ∧ DpAll K H' xs (kept i f val)) ⟨Ex.new hD, [], upd_same, .nil⟩ (fun i H' _ p => hG H' p.1) (fun i x H' H4 hin p y => ?_) (fun H' p => ?_)
  · obtain ⟨p1, xs, p2, p3⟩ := p
    obtain ⟨y1, y2⟩ := y
    refine hg _ _ _ _ _ (fun σ2 H5 q5 => ?_) (ht i x H4 ((e.trans e1).trans (p1.trans y1)) hin y2)
    obtain ⟨x1, x2, x3, x4⟩ := q5
    refine ⟨x2, x3 H5 (Ex.refl H5) _ fun H6 e6 => ?_⟩
    have e16 : Ex H1 H6 := p1.trans (y1.trans (x1.trans e6))
    have at6 : H6 Dl = some (.lst xs) := e6 Dl _ (x1 Dl _ (y1 Dl _ p2))
    have dp6 : DpAll K H6 xs (kept i f val) := Dpax (y1.trans (x1.trans e6)) p3
    cases hf : f i with
    | true =>
      show te σ2 H6 _
      refine x4 hf H6 e6 _ fun v H7 e7 hv => ⟨xs, e7 Dl _ at6, ?_, ?_⟩
      · have := dpAll_len dp6
        have := kept_len i f val
        exact sz_lt (by omega)
      · have at7 : H7 Dl = some (.lst xs) := e7 Dl _ at6
        refine ⟨Ex.mut (e16.trans e7) hD, xs ++ [v], upd_same, ?_⟩
        rw [kept_yes hf]
        have t7 : Tups K H7 (upd H7 Dl (.lst (xs ++ [v]))) := tups_upd at7
        exact dpAll_snoc (dpAll_imm t7 _ _ (frs i (by omega)) (Dpax e7 dp6)) (dp_imm t7 _ _ (hi i hin hf) hv)
    | false =>
      show Ex H1 H6 ∧ ∃ xs, H6 Dl = some (.lst xs) ∧ DpAll K H6 xs (kept (i + 1) f val)
      rw [kept_no hf]
      exact ⟨e16, xs, at6, dp6⟩
  · obtain ⟨p1, xs, p2, p3⟩ := p
    exact q Dl xs H' (fresh_back e1 hD) (e1.trans p1) p2 p3
/-- without a test, a name for the target -/
theorem evn_lcM {wi : TI} {j : Nat} {vs : List Nat} {n : Nat} {YD : Nat → V → Hp → Prop} (hw : EvW wi σ H n YD) (val : Nat → PyData) (hn : n ≤ 50000) (hi : ∀ i, i < n → imm (val i) = true) (hv : ∀ x, wipe ((wipe σ vs).set j (some x)) vs = wipe σ vs)
    (ht : ∀ i x H1, Ex H H1 → i < n → YD i x H1 → EvD K te ((wipe σ vs).set j (some x)) H1 (val i)) :
    EvN K (tLc wi (gName j) tYes te vs) σ H ((List.range n).map val) := by
  have h := evn_lc (tt := tYes) (vs := vs) (te := te) (K := K) hw (mono_name (i := j)) (fun _ => true) val hn (fun i h1 _ => hi i h1) fun i x H1 e1 hin y => ⟨Ex.refl H1, hv x, (fun H2 e2 Q q => q H2 (Ex.refl H2)), fun _ => ht i x H1 e1 hin y⟩
  rw [kept_all] at h
  exact h
end
end KD
/-! Further rules: enumerate(text). -/
namespace KR
open PySem PySem.Spec PyProof.Rows L2 Evl KD

/-! ### enumerate(a text) -/
/-- each sign of the text in a new pair with its place -/
def Itse (z : Str) : It :=
  ⟨fun i _ => i < z.cps.size, fun i H v H' => ∃ T c, v = .ref T ∧ H T = none ∧ H' = upd H T (.tup [.int (i : Nat), .str ⟨#[c]⟩]) ∧ z.cps[i]? = some c, fun i _ => i = z.cps.size⟩
/-- how the text's own iterator draws -/
def DrawsS (P : Program) (w : World) (z : Str) (it : Addr) (St : Nat → Heap → Prop) : Prop :=
  ∀ A : Around, A.handled = none → Draws P w A it [it] z.cps.size (fun i v => ∃ c u, z.cps[i]? = some c ∧ v = Value.str ⟨#[c]⟩ u) St
theorem turn_enumS {P : Program} {w : World} {K : PySem.W.Frag} {elts : List Expr} {kk : Nat} {tpos : Pos} {z : Str} {e it : Addr} {St : Nat → Heap → Prop} (D : DrawsS P w z it St) (hSt : ∀ i h, St i h → ∃ o, h.get? it = some o ∧ ∀ v, o.data ≠ .cell v) (hk0 : ∀ i h h', St i h → (∀ o, h.get? it = some o → h'.get? it = some o) → St i h') (hne : e ≠ it) :
    Turn P w K (.Tuple elts kk tpos) (Itse z) [e, it] e (fun i h => (∃ old, IsEnum h e it ((i : Nat) : Int) old) ∧ St i h) where
  mem := by simp
  obj := fun i h st b hb => by
    obtain ⟨⟨old, he⟩, hs⟩ := st
    rcases (show b = e ∨ b = it by simpa using hb) with q | q
    · rw [q]; exact ⟨_, he, fun v q => nomatch q⟩
    · rw [q]; exact hSt i h hs
  keep := fun i h h' st k => ⟨let ⟨old, he⟩ := st.1; ⟨old, k e (by simp) _ he⟩, hk0 i h h' st.2 fun o q => k it (by simp) o q⟩
  item := by
    intro X hP hw hK hc i pins s σ H E I hf st hg
    subst hP hw hK
    obtain ⟨⟨old, he⟩, hs⟩ := st
    have hel : e < s.heap.objs.size := Heap.lt_size he
    have hil : it < s.heap.objs.size := by obtain ⟨_, q, _⟩ := hSt i _ hs; exact Heap.lt_size q
    have hcal : X.A.in1.handled = none := I.ok.hd hc
    refine wpAny_pyNext_enum_itemD (D X.A.in1 hcal) he hs hg hne (by simpa using hne) fun x h' tk hP ho hs' hT hsz hk => ?_
    obtain ⟨c, u, hz, rfl⟩ := hP
    refine ⟨_, rfl, wpAny_letOwnedTupleGo_enum (s := { s with heap := h', toks := tk + 1 }) ho fun h'' he' sb => ?_⟩
    have hT2 : h''.get? s.heap.objs.size = some { cls := .type "tuple", data := .seq #[.int i tk, .str ⟨#[c]⟩ u] } := (sb.2 _ (Nat.ne_of_gt hel)).trans hT
    have new : ObjOk X.prog X.w (upd H s.heap.objs.size (.tup [.int (i : Nat), .str ⟨#[c]⟩])) h'' s.heap.objs.size (.tup [.int (i : Nat), .str ⟨#[c]⟩]) :=
      ⟨by show 2 ≤ sizeLine; decide, [.int i tk, .str ⟨#[c]⟩ u], .cons ⟨_, rfl⟩ (.cons ⟨_, rfl⟩ .nil), ⟨_, hT2, rfl, _, rfl⟩⟩
    have I1 : Inv X pins σ (upd H s.heap.objs.size (.tup [.int (i : Nat), .str ⟨#[c]⟩])) { s with heap := h'', toks := tk + 1 } :=
      I.turnedNew (ch := [e, it]) (fun b ob hb q => (sb.2 b (fun y => hb (by simp [y]))).trans (hk b ob (fun y => hb (by simp [y])) (fun y => hb (by simp [y])) q)) hf (Nat.le_refl _) new
    refine ⟨.ref s.heap.objs.size, _, I1, rfl, ⟨_, c, rfl, I.hok.fresh (Nat.le_refl _), rfl, hz⟩, ⟨⟨.str ⟨#[c]⟩ u, ?_⟩, hk0 _ _ _ hs' fun o q => (sb.2 it (Ne.symm hne)).trans q⟩, fun b hb => ?_⟩
    · have e1 : ((i + 1 : Nat) : Int) = (i : Int) + 1 := by omega
      rw [e1]; exact he'
    · have hb' : b < s.heap.objs.size := by
        rcases (show b = e ∨ b = it by simpa using hb) with q | q
        · rw [q]; exact hel
        · rw [q]; exact hil
      rw [upd_ne (Nat.ne_of_lt hb')]
      exact (hf b hb).1
  done := by
    intro X hP hw hK hc i pins s σ H E I hf st hg
    subst hP hw hK
    obtain ⟨⟨old, he⟩, hs⟩ := st
    obtain ⟨f0, f1, f2, f3, f4, f5⟩ := hf it (by simp)
    have hcal : X.A.in1.handled = none := I.ok.hd hc
    obtain rfl : i = z.cps.size := hg
    exact wpAny_pyNext_enum_endD (D X.A.in1 hcal) he hs fun h' eb => ⟨rfl, I.turned (t' := s.toks) (fun b o hb q => eb b o hb q) f0 f1 f3 f4 f5⟩
  self := fun A i s Q E st h => let ⟨⟨_, he⟩, _⟩ := st; wpAny_pyIter_enum he h
def iEnumS (ta : TA) : TI := fun σ H R => ta σ H fun vs H1 => ∃ z, vs = [.str z] ∧ R (Itse z) H1
theorem pi_enumS {X : Cx} {e : Expr} {ta : TA} {p pos tpos : Pos} {elts : List Expr} {kk : Nat} (hg : Gl X "enumerate") (hm : X.mg "enumerate" = none) (ha : PA X [e] ta) (hs : starEach [e] X.env = [(false, eval e X.env)] := by rfl) :
    PI X (.Tuple elts kk tpos) (.Call (.Name "enumerate" p) [e] [] pos) (iEnumS ta) := by
  refine ⟨fun pins s σ H R I h => ?_⟩
  refine Call_ (ld_blt I hg hm boot_enumerate (PyProof.Rows.callWith_type1 (thn (ha.run pos pins s σ H _ I h) fun us s1 ⟨vs, H1, I1, r1, q1⟩ => ?_) hs rfl))
  obtain ⟨z, ex, q⟩ := q1
  subst ex
  cases r1 with
  | cons r rr =>
    cases rr
    obtain ⟨tk, rfl⟩ := r
    refine call_enumerate_str fun h' he hit hsz hk => wpAny_pyIter_enum he ?_
    have I2 : Inv X pins σ H1 { s1 with heap := h' } := I1.kept (t' := s1.toks) hk
    have fps : ∀ b ∈ [s1.heap.objs.size + 1, s1.heap.objs.size], FpOk X pins H1 b := fun b hb => by
      have e' : b = s1.heap.objs.size + 1 ∨ b = s1.heap.objs.size := by simpa using hb
      have hle : s1.heap.objs.size ≤ b := by
        rcases e' with z | z
        · rw [z]; exact Nat.le_add_right _ _
        · rw [z]; exact Nat.le_refl _
      exact I1.fpOk hle (I1.hok.fresh hle)
    have obj : ∀ (nm : String) (i : Nat) (h : Heap), h.IsStrIter s1.heap.objs.size nm z tk i → ∃ o, h.get? s1.heap.objs.size = some o ∧ ∀ v, o.data ≠ .cell v := fun nm i h st => by
      obtain ⟨o, ho, hc, hd⟩ := st
      exact ⟨o, ho, fun v q => by rw [hd] at q; cases q⟩
    have kp : ∀ (nm : String) (i : Nat) (h h' : Heap), h.IsStrIter s1.heap.objs.size nm z tk i → (∀ o, h.get? s1.heap.objs.size = some o → h'.get? s1.heap.objs.size = some o) → h'.IsStrIter s1.heap.objs.size nm z tk i := fun nm i h h' st k => by
      obtain ⟨o, ho, r⟩ := st
      exact ⟨o, k o ho, r⟩
    cases ha : z.cps.all (· < 128)
    · have hit' : h'.IsStrIter s1.heap.objs.size "str_iterator" z tk 0 := by simpa [strIterType, ha] using hit
      exact ⟨s1.heap.objs.size + 1, [s1.heap.objs.size + 1, s1.heap.objs.size], _, _, H1, rfl, I2, turn_enumS (fun A hh => Draws.strWide hh s1.heap.objs.size z tk) (obj _) (kp _) (Nat.succ_ne_self _), ⟨⟨.none, he⟩, hit'⟩, fps, q⟩
    · have hit' : h'.IsStrIter s1.heap.objs.size "str_ascii_iterator" z tk 0 := by simpa [strIterType, ha] using hit
      exact ⟨s1.heap.objs.size + 1, [s1.heap.objs.size + 1, s1.heap.objs.size], _, _, H1, rfl, I2, turn_enumS (fun A hh => Draws.strAscii hh s1.heap.objs.size z tk) (obj _) (kp _) (Nat.succ_ne_self _), ⟨⟨.none, he⟩, hit'⟩, fps, q⟩
theorem walk_enumS {z : Str} : Walk (Itse z) z.length (fun _ => True) (fun i H v H' => ∃ T c, v = .ref T ∧ H T = none ∧ H' = upd H T (.tup [.int (i : Nat), .str ⟨#[c]⟩]) ∧ z.cps[i]? = some c) :=
  ⟨fun i _ hi _ => hi, fun _ _ => rfl, fun i H v H' _ _ y => y⟩
theorem evw_enumS {K : PySem.W.Frag} {σ : L2.St} {H : Hp} {ta : TA} {z : Str} (h : EvA ta σ H [.str z]) : EvW (iEnumS ta) σ H z.length (fun i x H4 => PairD K (fun y _ => y = .int (i : Nat)) (fun y _ => ∃ c, z.cps[i]? = some c ∧ y = .str ⟨#[c]⟩) x H4) := fun H1 e R r =>
  h H1 e _ fun H2 e2 => ⟨z, rfl, r (Itse z) H2 (fun _ => True) e2 (walk_enumS.mono (fun _ _ => trivial) fun i H3 x H4 hi g y => by
    obtain ⟨T, c, rfl, hT, rfl, hc⟩ := y
    exact ⟨Ex.new hT, T, _, _, rfl, upd_same, rfl, c, hc, rfl⟩) fun _ _ => trivial⟩
end KR
/-! Further rules: repr of data, text * int, list and sorted of a text, list(range(n)), len(set(text)). -/
namespace KR
open PySem PySem.Spec PyProof.Rows L2 Evl KD
section
variable {X : Cx}

/-! ### repr(data) -/
def rRepr (K : PySem.W.Frag) : List V → Hp → VK → Prop := fun xs H Q => ∃ v a d, xs = [v] ∧ v = .ref a ∧ Dp K H v d ∧ d.showable = true ∧ d.hasDict = false ∧ d.depth ≤ 60 ∧ d.shown.length ≤ sizeLine ∧ Q (.str d.shown) H
theorem cr_repr (hg : X.A.guards = some []) (hu : X.A.units + 64 < cLine) : CallR X (.builtin "repr") (rRepr X.K) := by
  intro pins s σ H xs us Q I r h
  obtain ⟨v, a, d, rfl, rfl, hd, hs, hnd, hdp, hz, q⟩ := h
  obtain ⟨u, rfl, ru⟩ := vals1 r
  obtain ⟨as, rd⟩ := Dp.reads I d _ u hd ru
  cases ru
  exact repr_of_reads' rd hs (PyData.noDict_hsm hnd) hg (by omega) (fun _ _ e => e) (fun h' u tk hk => ⟨.str d.shown, H, I.kept (t' := tk) hk, ⟨u, rfl⟩, q⟩) hz

/-! ### text * int -/
def repS (x : Str) (n : Nat) : Str := ⟨(List.replicate n x.cps).foldl (· ++ ·) #[]⟩
theorem op_mulS : OpR X (binaryOp .Mult) (fun x y H Q => ∃ (z : Str) (n : Int), x = .str z ∧ y = .int n ∧ 2 ≤ n ∧ n < 2 ^ 20 ∧ 1 ≤ z.length ∧ z.length * n.toNat ≤ 2 ^ 20 ∧ Q (.str (repS z n.toNat)) H) := by
  intro pins s σ H x y v u Q I rx ry h
  obtain ⟨z, n, rfl, rfl, h2, hn, h1, hz, q⟩ := h
  obtain ⟨t, rfl⟩ := rx
  obtain ⟨t', rfl⟩ := ry
  have e1 : (n == 1 || z.length == 0) = false := by
    have a : (n == 1) = false := beq_eq_false_iff_ne.mpr (by omega)
    have b : (z.length == 0) = false := beq_eq_false_iff_ne.mpr (by omega)
    rw [a, b]; rfl
  refine P.mul_str ?_ (fun _ _ => ?_) (fun _ _ => ?_) ?_
  · rw [decide_eq_false (by omega), decide_eq_false (by omega)]; rfl
  · have hl : (z.length : Int) ≤ 2 ^ 20 := by
      have : z.length * 1 ≤ z.length * n.toNat := Nat.mul_le_mul_left _ (by omega)
      omega
    have : (2 ^ 63 - 1 : Int) / n ≥ 2 ^ 20 := by
      rw [ge_iff_le, Int.le_ediv_iff_mul_le (by omega)]
      have : (2 ^ 20 : Int) * n ≤ 2 ^ 20 * 2 ^ 20 := Int.mul_le_mul_of_nonneg_left (by omega) (by decide)
      exact Int.le_trans this (by decide)
    omega
  · have : z.length * n.toNat ≤ sizeLine := Nat.le_trans hz (by decide)
    exact decide_eq_false (by omega)
  · rw [if_neg (by omega), e1]
    have h20 : (2 : Nat) ^ 20 ≤ sizeLine := by decide
    have h21 : ¬ z.length * n.toNat > sizeLine := by omega
    exact ⟨fits_reps (decide_eq_false h21), ⟨.str (repS z n.toNat), H, I.tok _, ⟨_, rfl⟩, q⟩⟩

/-! ### list(text), sorted(text) -/
def signsOf (z : Str) : List Str := z.cps.toList.map fun c => ⟨#[c]⟩
theorem strsAre_signs {z : Str} {acc : Array Value} (h : ItemsOf (SignAt z) acc z.cps.size) : StrsAre acc.toList (signsOf z) := by
  have key : ∀ (l : List Value) (cs : List Nat), l.length = cs.length → (∀ (j : Nat) (v : Value), l[j]? = some v → ∃ c u, cs[j]? = some c ∧ v = Value.str ⟨#[c]⟩ u) → StrsAre l (cs.map fun c => (⟨#[c]⟩ : Str)) := by
    intro l
    induction l with
    | nil => intro cs h _; cases cs with
      | nil => exact .nil
      | cons _ _ => simp at h
    | cons v l ih => intro cs h g; cases cs with
      | nil => simp at h
      | cons c cs =>
        obtain ⟨c', u, e1, rfl⟩ := g 0 v rfl
        cases e1
        exact .cons _ u (ih cs (by simpa using h) fun j w hw => g (j + 1) w (by simpa using hw))
  refine key _ _ (by rw [Array.length_toList, Array.length_toList]; exact h.1) fun j v hv => ?_
  obtain ⟨c, u, e1, e2⟩ := h.2 j v (by rw [← Array.getElem?_toList]; exact hv)
  exact ⟨c, u, by rw [Array.getElem?_toList]; exact e1, e2⟩
theorem call_list_str (hc : X.calm = true) : CallR X (.type "list") (fun xs H Q => ∃ z : Str, xs = [.str z] ∧ z.length ≤ sizeLine ∧ ∀ p, H p = none → Q (.ref p) (upd H p (.lst ((signsOf z).map V.str)))) := by
  intro pins s σ H xs us Q I r h
  obtain ⟨z, rfl, hz, q⟩ := h
  obtain ⟨u, rfl, t, rfl⟩ := vals1 r
  refine PySem.call_list_str (I.ok.hd hc) z t (fun h' tk acc c hk hS hacc => ?_) hz
  exact ⟨.ref _, upd H s.heap.objs.size (.lst ((signsOf z).map V.str)), I.laid (t' := tk) hk (Nat.le_refl _) ⟨by rw [List.length_map]; unfold signsOf; rw [List.length_map, Array.length_toList]; exact hz, acc.toList, c, vals_of_strs (strsAre_signs hacc), by rw [Array.toArray_toList]; exact hS⟩, rfl, q _ (I.hok.fresh (Nat.le_refl _))⟩
theorem collect_text {prog : Program} {w : World} {A : Around} {E : Value → Shared → Prop} {s : Shared} {Q : List Value → Shared → Prop} (hh : A.handled = none) (x : Str) (t : Tok)
    (hQ : ∀ h' tk acc, (∀ b o, s.heap.get? b = some o → h'.get? b = some o) → s.heap.objs.size ≤ h'.objs.size → ItemsOf (SignAt x) acc x.cps.size → Q acc.toList { s with heap := h', toks := tk }) (hn : x.cps.size ≤ sizeLine) :
    wpAny (model prog w) A (collect (.str x t)) Q E s := by
  unfold collect
  refine wpAny_bind (wpAny_runValue (codeAny_builtin PySem.F.entry_proto_collect ?_))
  rw [Around.under_plainId PySem.F.plain_proto_collect _]
  show wpAny _ A.in1 (newList [] >>= fun l => again (.builtin "list.__iadd__" ⟨[l, .str x t], []⟩)) _ _ s
  refine wpAny_bind (wpAny_newObj_type ?_)
  refine wpAny_pure ⟨plainId_quiet PySem.F.plain_list_iadd _, codeAny_builtin PySem.F.entry_list_iadd ?_⟩
  rw [Around.under_plainId PySem.F.plain_list_iadd _]
  have hS : (s.heap.push { cls := .type "list", data := .seq #[] }).get? s.heap.objs.size = some { cls := .type "list", data := .seq #[] } := Heap.get?_push_size _ rfl
  refine PySem.wpAny_extend_str (prog := prog) (w := w) (R := wants (fun v s' => wpAny (model prog w) A (match v with
      | .ref a => (do
        let o ← load a
        match o.data with
          | .seq xs _ => pure xs.toList
          | _ => unsupported "internal:collect")
      | _ => unsupported "internal:collect") Q E s') E) (hn := hn) (A := A) (s := { s with heap := s.heap.push { cls := .type "list", data := .seq #[] } }) hh x t s.heap.objs.size (.ref s.heap.objs.size) _ hS fun h' tk acc' c' hk hS' hacc => ?_
  show wpAny _ A (load s.heap.objs.size >>= _) _ _ _
  refine wpAny_bind (wpAny_load hS' ?_)
  refine wpAny_pure ?_
  exact hQ h' tk acc' (fun b o e => hk b o (Nat.ne_of_lt (Heap.lt_size e)) (Heap.get?_push_of_some _ e)) (Nat.le_of_lt (Heap.lt_size hS')) hacc
/-- sorted(a text): its signs, rising -/
def rSortedT : List V → Hp → VK → Prop := fun xs H Q => ∃ z : Str, xs = [.str z] ∧ z.length < 64 ∧ ∀ (ys : List Str) (p : Addr), ys.Perm (signsOf z) → sortedS ys = true → H p = none → Q (.ref p) (upd H p (.lst (ys.map V.str)))
theorem cr_sortedT (hc : X.calm = true) : CallR X (.builtin "sorted") rSortedT := by
  intro pins s σ H xs us Q I r h
  obtain ⟨z, rfl, hz, q⟩ := h
  obtain ⟨u, rfl, t, rfl⟩ := vals1 r
  have hz' : z.cps.size < 64 := hz
  refine Calls.call_function_entry kind_sorted plain_sorted entry_sorted (args_sorted1 _) ?_
  unfold Builtin.«sorted»
  refine wpAny_bind (m := checkCount "sorted" 1 1 _) (wpAny_pure ?_)
  refine wpAny_bind (collect_text (A := X.A.in1) (I.ok.hd hc) z t (fun hp1 tk1 acc k1 hle hacc => ?_) (by rw [sizeLine_eq]; omega))
  have hS := strsAre_signs hacc
  have hvl : acc.toList.length = z.cps.size := by rw [Array.length_toList]; exact hacc.1
  refine wpAny_bind (wpAny_newList ?_ (by rw [hvl, sizeLine_eq]; omega))
  have hoL : (hp1.push (seqObj "list" acc.toList.toArray 0)).get? hp1.objs.size = some (seqObj "list" acc.toList.toArray 0) := Heap.get?_push_size _ rfl
  refine wpAny_bind (wpAny_holding (wpAny_call_entry slot_list_sort ⟨_, hoL, rfl⟩ entry_list_sort (list_sort_treeK strKind_oneLt hoL hS.keysOf (fun v₁ v₂ rest e => keyKind_strs (by rw [← e]; exact hS)) (by rw [hvl]; exact hz') fun st' hp hs => ⟨_, rfl, ?_⟩) (args_list_sort _)))
  obtain ⟨ys, h1, h2, h3⟩ := sorted_out_str hS hp hs
  obtain ⟨c, hcc⟩ := sortedHeap_at (vs := acc.toList) (out := (arrOf st').map (·.2)) hoL
  have old : ∀ b u, s.heap.get? b = some u → (sortedHeap (hp1.push (seqObj "list" acc.toList.toArray 0)) hp1.objs.size acc.toList ((arrOf st').map (·.2))).get? b = some u := fun b u e => by
    have q := k1 b u e
    have hlt := Heap.lt_size q
    rw [sortedHeap_old (Nat.ne_of_lt hlt) (by rw [size_push']; exact Nat.lt_succ_of_lt hlt)]
    exact Heap.get?_push_of_some _ q
  have hn : H hp1.objs.size = none := I.hok.fresh hle
  have hlen : (ys.map V.str).length ≤ sizeLine := by
    rw [List.length_map, h2.length_eq]
    unfold signsOf
    rw [List.length_map, Array.length_toList, sizeLine_eq]
    omega
  exact wpAny_pure ⟨_, rfl, .ref _, upd H hp1.objs.size (.lst (ys.map V.str)), I.laid (t' := tk1) old hle ⟨hlen, ((arrOf st').map (·.2)).toList, c, vals_of_strs h1, hcc⟩, rfl, q ys _ h2 h3 hn⟩
end
end KR
/-! Further rules: list(range(n)), len(set(text)). -/
namespace KR
open PySem PySem.Spec PyProof.Rows L2 Evl KD
section
variable {X : Cx}
theorem cr_range1 : CallR X (.type "range") (fun vs H Q => ∃ j, vs = [V.int j] ∧ ∀ p, H p = none → Q (.ref p) (upd H p (.rng 0 j))) := by
  intro pins s σ H xs us Q I r h
  obtain ⟨j, rfl, q⟩ := h
  obtain ⟨u, rfl, t, rfl⟩ := vals1 r
  refine call_range_1 ⟨.ref s.heap.objs.size, upd H s.heap.objs.size (.rng 0 j), I.laid (t' := s.toks + 1 + 1) (fun b o e => Heap.get?_push_of_some _ e) (Nat.le_refl _) ?_, rfl, q _ (I.hok.fresh (Nat.le_refl _))⟩
  exact ⟨s.toks, t, s.toks + 1, Heap.get?_push_size _ rfl⟩
theorem ints_at : ∀ (l : List Value) (n k : Nat), l.length = n → (∀ (i : Nat) (v : Value), l[i]? = some v → ∃ t, v = Value.int ((k : Int) + i) t) → IntsAre l ((List.range' k n).map Int.ofNat)
  | [], n, k, h, _ => by
    subst h
    exact .nil
  | v :: l, n, k, h, g => by
    subst h
    obtain ⟨t, ht⟩ := g 0 v rfl
    rw [ht, List.length_cons, List.range'_succ, List.map_cons]
    have := ints_at l l.length (k + 1) rfl fun i w hw => by
      obtain ⟨t', e⟩ := g (i + 1) w hw
      exact ⟨t', by rw [e]; congr 1; omega⟩
    simpa using IntsAre.cons (Int.ofNat k) t this
def natsV (n : Nat) : List V := (List.range n).map fun i => V.int (i : Nat)
theorem call_list_rng (hc : X.calm = true) : CallR X (.type "list") (fun xs H Q => ∃ a n, xs = [V.ref a] ∧ H a = some (.rng 0 ((n : Nat) : Int)) ∧ n ≤ 100000 ∧ ∀ p, H p = none → Q (.ref p) (upd H p (.lst (natsV n)))) := by
  intro pins s σ H xs us Q I r h
  obtain ⟨a, n, rfl, ha, hn, q⟩ := h
  obtain ⟨u, rfl, ru⟩ := vals1 r
  cases ru
  obtain ⟨t1, t2, t3, ho⟩ := I.hok a _ ha
  have hs : Builtin.Range.rangeSize 0 ((n : Nat) : Int) 1 = ((n : Nat) : Int) := by
    rw [rangeSize_one]
    split <;> omega
  refine PySem.call_list_range (I.ok.hd hc) ho ?_ hs (by omega) fun h' tk acc c hk hS hacc => ?_
  · exact small_one (by decide) (by decide) (by omega) (by omega)
  have hi : IntsAre acc.toList ((List.range' 0 n).map Int.ofNat) := ints_at _ n 0 (by rw [Array.length_toList]; exact hacc.1) fun i v hv => by
    obtain ⟨t, e⟩ := hacc.2 i v (by rw [← Array.getElem?_toList]; exact hv)
    exact ⟨t, by rw [e]; congr 1; omega⟩
  have e : natsV n = ((List.range' 0 n).map Int.ofNat).map V.int := by
    unfold natsV
    rw [List.range_eq_range', List.map_map]
    rfl
  exact ⟨.ref _, upd H s.heap.objs.size (.lst (natsV n)), I.laid (t' := tk) hk (Nat.le_refl _) ⟨by unfold natsV; rw [List.length_map, List.length_range, sizeLine_eq]; omega, acc.toList, c, by rw [e]; exact vals_ints hi, by rw [Array.toArray_toList]; exact hS⟩, rfl, q _ (I.hok.fresh (Nat.le_refl _))⟩
end

/-! ### len(set(text)) -/
/-- the signs in the order in which they are met first -/
def metS (xs : List Str) : List Str := xs.foldl (fun acc x => if acc.contains x then acc else acc ++ [x]) []
theorem metS_snoc (xs : List Str) (x : Str) : metS (xs ++ [x]) = if (metS xs).contains x then metS xs else metS xs ++ [x] := by
  unfold metS
  rw [List.foldl_append]
  rfl
theorem snoc_ind {α : Type} {p : List α → Prop} (h0 : p []) (h1 : ∀ xs x, p xs → p (xs ++ [x])) (xs : List α) : p xs := by
  have key : ∀ n (ys : List α), ys.length = n → p ys := by
    intro n
    induction n with
    | zero => intro ys h; cases ys with
      | nil => exact h0
      | cons _ _ => simp at h
    | succ n ih =>
      intro ys h
      have hne : ys ≠ [] := fun e => by rw [e] at h; simp at h
      rw [← List.dropLast_concat_getLast hne]
      exact h1 _ _ (ih _ (by rw [List.length_dropLast, h]; rfl))
  exact key _ xs rfl
theorem metS_mem (x : Str) (xs : List Str) : x ∈ metS xs ↔ x ∈ xs := by
  induction xs using snoc_ind with
  | h0 => exact Iff.rfl
  | h1 xs y ih =>
    rw [metS_snoc]
    by_cases h : (metS xs).contains y = true
    · rw [if_pos h, ih, List.mem_append, List.mem_singleton]
      refine ⟨.inl, fun q => q.elim id fun e => ?_⟩
      rw [e] at ih ⊢
      exact ih.mp (List.contains_iff_mem.mp h)
    · rw [if_neg h, List.mem_append, List.mem_append, ih]
theorem metS_len (xs : List Str) : (metS xs).length ≤ xs.length := by
  induction xs using snoc_ind with
  | h0 => exact Nat.le_refl _
  | h1 xs y ih =>
    rw [metS_snoc]
    split
    · rw [List.length_append]; exact Nat.le_trans ih (Nat.le_add_right _ _)
    · rw [List.length_append, List.length_append]; exact Nat.add_le_add_right ih _
theorem metS_nodup {xs : List Str} (h : xs.Nodup) : metS xs = xs := by
  induction xs using snoc_ind with
  | h0 => rfl
  | h1 xs y ih =>
    have h2 := List.nodup_append.mp h
    have ih' := ih h2.1
    rw [metS_snoc, ih', if_neg (fun q => h2.2.2 y (List.contains_iff_mem.mp q) y (List.mem_singleton.mpr rfl) rfl)]
section
variable {prog : Program} {w : World} {A : Around} {R : Result → Shared → Prop} {I : Addr} {fp wr : List Addr} {G : Array GenState → Array GenState → Prop} {n : Nat} {P : Nat → Value → Prop} {St : Nat → Shared → Prop}
theorem loopSet (W : WalksS prog w A.in1 I fp wr G n P St) (S : Addr) (hSf : S ∉ fp) (xs : List Str) (hsz : xs.length = n) (hn1 : n + 1 < scanBound)
    (hval : ∀ i v, P i v → ∃ x t, xs[i]? = some x ∧ v = .str x t) :
    ∀ (k i : Nat) (s : Shared), n - i = k → i ≤ n → St i s →
      s.heap.SetOf (PySem.strKind prog w) S (fun k' => decide (k' ∈ metS (xs.take i))) (metS (xs.take i)).length →
      (∀ s', Moved (S :: wr) G s s' → s'.heap.SetOf (PySem.strKind prog w) S (fun k' => decide (k' ∈ metS xs)) (metS xs).length → R (.ok (.ret .none)) s') →
      codeAny (model prog w) A (.builtin "set.update.loop" ⟨[.ref S, .ref I], []⟩) R s := by
  have hSw : S ∉ wr := fun h => hSf (W.sub _ h)
  have hsub : ∀ b ∈ wr, b ∈ S :: wr := fun b hb => List.mem_cons_of_mem _ hb
  intro k
  induction k with
  | zero =>
    intro i s hk hi hst hS hR
    have hin : i = n := by omega
    subst hin
    rw [← hsz, List.take_length] at hS
    refine codeAny_builtin PyProof.Rows.F.entry_set_update_loop ?_
    rw [Around.under_plainId PyProof.Rows.F.plain_set_update_loop _]
    show wpAny _ A.in1 (pyNext (.ref I) >>= _) _ _ s
    refine wpAny_bind (W.done s _ _ hst fun s' hm => ?_)
    show wpAny _ A.in1 (ret Value.none) _ _ s'
    exact wpAny_pure (hR s' (hm.mono hsub) (by
      obtain ⟨o, es, ep, t, ho, rest⟩ := hS
      exact ⟨o, es, ep, t, hm.heap S _ hSw ho, rest⟩))
  | succ k ih =>
    intro i s hk hi hst hS hR
    have hlt : i < n := by omega
    refine codeAny_builtin PyProof.Rows.F.entry_set_update_loop ?_
    rw [Around.under_plainId PyProof.Rows.F.plain_set_update_loop _]
    show wpAny _ A.in1 (pyNext (.ref I) >>= _) _ _ s
    refine wpAny_bind (W.item i s _ _ hlt hst fun v s' hP hst' hm => ?_)
    obtain ⟨x, t, hx, rfl⟩ := hval i v hP
    have hS' : s'.heap.SetOf (PySem.strKind prog w) S (fun k' => decide (k' ∈ metS (xs.take i))) (metS (xs.take i)).length := by
      obtain ⟨o, es, ep, tb, ho, rest⟩ := hS
      exact ⟨o, es, ep, tb, hm.heap S _ hSw ho, rest⟩
    have hlen : (metS (xs.take i)).length ≤ i := Nat.le_trans (metS_len _) (by rw [List.length_take]; omega)
    show wpAny _ A.in1 (holding [Value.str x t] (setAdd S (.str x t)) >>= _) _ _ s'
    refine wpAny_bind (wpAny_holding ?_)
    unfold setAdd
    refine wpAny_holding ?_
    refine wpAny_bind ((PySem.strKind prog w).pyHash (k := x) (strKind_is _ _ _ _) ?_)
    refine wpAny_setAddHashed_of (knd := PySem.strKind prog w) (s := { s' with toks := s'.toks + 1 }) (strKind_is _ _ _ _) rfl hS' (by omega) fun h' hsb hS2 => ?_
    have ht : xs.take (i + 1) = xs.take i ++ [x] := by rw [List.take_succ, hx]; rfl
    have hSi : h'.SetOf (PySem.strKind prog w) S (fun k' => decide (k' ∈ metS (xs.take (i + 1)))) (metS (xs.take (i + 1))).length := by
      refine SetOf_congr hS2 (fun k' => ?_) ?_
      · have e : (k' ∈ metS (xs.take (i + 1))) ↔ (k' ∈ metS (xs.take i) ∨ k' = x) := by
          rw [metS_mem, ht, List.mem_append, List.mem_singleton, metS_mem]
        rw [decide_eq_decide.mpr e, Bool.decide_or]
      · rw [ht, metS_snoc]
        by_cases h : x ∈ metS (xs.take i)
        · rw [decide_eq_true h, if_pos rfl, if_pos (List.contains_iff_mem.mpr h)]
        · rw [decide_eq_false h, if_neg (by decide), if_neg (fun q => h (List.contains_iff_mem.mp q)), List.length_append]; rfl
    refine wpAny_pure ⟨plainId_quiet PyProof.Rows.F.plain_set_update_loop _, ih (i + 1) _ (by omega) hlt (W.frame _ s' _ _ hst' (Nat.le_succ _) fun b hb o e => ?_) hSi fun s'' hm'' hS'' => ?_⟩
    · rw [hsb.2 b (fun h : b = S => hSf (by rw [← h]; exact hb))]; exact e
    · refine hR s'' (Moved.trans W.gtrans ((hm.mono hsub).then_heap (Nat.le_succ _) fun b o hb e => ?_) hm'') hS''
      rw [hsb.2 b (fun h : b = S => hb (by rw [h]; exact List.mem_cons_self))]; exact e
end
section
variable {prog : Program} {w : World} {A : Around} {E : Value → Shared → Prop} {s : Shared}
theorem sub_str_set : isSubtype (.type "str") (.type "set") = pure false := by rw [isSubtype_type]; kernel_rfl
theorem sub_str_frozenset : isSubtype (.type "str") (.type "frozenset") = pure false := by rw [isSubtype_type]; kernel_rfl
theorem signs_at {z : Str} {i : Nat} {v : Value} (h : SignAt z i v) : ∃ x t, (signsOf z)[i]? = some x ∧ v = .str x t := by
  obtain ⟨c, u, h1, h2⟩ := h
  refine ⟨⟨#[c]⟩, u, ?_, h2⟩
  unfold signsOf
  rw [List.getElem?_map, Array.getElem?_toList, h1]
  rfl
set_option maxHeartbeats 3200000 in
theorem call_set_text {z : Str} {tz : Tok} {Q : Value → Shared → Prop} (hh : A.handled = none) (hn1 : z.length + 1 < scanBound)
    (h : ∀ (h' : Heap) (tk : Nat), h'.SetOf (PySem.strKind prog w) s.heap.objs.size (fun k' => decide (k' ∈ metS (signsOf z))) (metS (signsOf z)).length →
      (∀ b o, b < s.heap.objs.size → s.heap.get? b = some o → h'.get? b = some o) → Q (.ref s.heap.objs.size) { s with heap := h', toks := tk }) :
    wpAny (model prog w) A (call (.type "set") [.str z tz]) Q E s := by
  obtain ⟨c, tl, hmro⟩ := PySem.F.called_set.mro
  have hmade := PySem.F.called_set.made
  have hsub := PySem.F.called_set.sub
  refine wpAny_call (codeAny_of_tree ?_)
  show wpAny _ _ (callAny (.type "set") _) _ _ _
  refine wpAny_pure ⟨Code.quiet_builtin _ (by decide +kernel), codeAny_builtin PySem.F.entry_type_call ?_⟩
  rw [Around.under_plain (weight_type_call_type "set" [.str z tz] []) rfl]
  have h1 := PySem.F.called_set.notType
  have h2 := PySem.F.called_set.canCreate
  have hct := PySem.F.typeCall_set_1 (.str z tz)
  repeat (any_goals (first | assumption | wp_step))
  refine codeAny_mono (code_set_new_1 (.str z tz) (E := E) (Q₁ := fun obj s₁ => ∃ led : Bool, obj = .ref s.heap.objs.size ∧ s₁ = { s with heap := s.heap.push { cls := .type "set", dict := none, data := .set #[] 0 (.fresh 0 0 led) } }) fun led => ⟨led, rfl, rfl⟩) fun r s₁ hr => ?_
  cases r with
  | error e => exact hr
  | ok fl =>
    cases fl with
    | ret obj =>
      obtain ⟨led, rfl, rfl⟩ := hr
      have hS : (s.heap.push { cls := .type "set", dict := none, data := .set #[] 0 (.fresh 0 0 led) }).get? s.heap.objs.size = some { cls := .type "set", dict := none, data := .set #[] 0 (.fresh 0 0 led) } := Heap.get?_push_size _ rfl
      have hT : Shared.TypeIs { s with heap := s.heap.push { cls := .type "set", dict := none, data := .set #[] 0 (.fresh 0 0 led) } } (.ref s.heap.objs.size) "set" := ⟨_, hS, rfl⟩
      have hli := PySem.F.called_set.init.lookup
      have hbi := PySem.F.called_set.init.bind (.ref s.heap.objs.size)
      repeat (any_goals (first | assumption | wp_step))
      refine codeAny_mono (codeAny_call_builtin (R := wants (fun r s₂ => r = .none ∧ ∃ h' tk, s₂ = { s with heap := h', toks := tk } ∧
          h'.SetOf (PySem.strKind prog w) s.heap.objs.size (fun k' => decide (k' ∈ metS (signsOf z))) (metS (signsOf z)).length ∧
          (∀ b o, b < s.heap.objs.size → s.heap.get? b = some o → h'.get? b = some o)) E) PySem.F.called_set.init.plain PySem.F.entry_set_init (check_set_init_1 hT ?_)) fun r₂ s₂ hr₂ => ?_
      · have hsls := sub_str_set
        have hslf := sub_str_frozenset
        have hne : (Value.type "str" == Value.type "dict") = false := by decide
        unfold Builtin.«set.__init__» noKeywords Builtin.Frozenset.updateFrom
        generalize hPI : pyIter = PI
        wp_walk
        subst hPI
        refine PySem.wpAny_pyIter_str fun o St W hst => ?_
        refine wpAny_bind (wpAny_runValue ?_)
        have hh3 : A.in1.in1.in1.handled = none := by simp [hh]
        have hSf : s.heap.objs.size ∉ [(s.heap.push { cls := .type "set", dict := none, data := .set #[] 0 (.fresh 0 0 led) }).objs.size] := by
          rw [Heap.size_push]; simp only [List.mem_singleton]
          exact Nat.ne_of_lt (Nat.lt_succ_self _)
        have hln : (signsOf z).length = z.cps.size := by unfold signsOf; rw [List.length_map, Array.length_toList]
        refine loopSet ((W A.in1.in1.in1 hh3).toS) s.heap.objs.size hSf (signsOf z) hln hn1 (fun i v => signs_at) (z.cps.size - 0) 0 _ (by omega) (Nat.zero_le _) hst ?hS0 ?hR
        case hS0 =>
          have hget := Heap.get?_push_of_some o hS
          exact PyProof.Rows.SetOf_congr ((PyProof.Rows.setObjOf_fresh (knd := PySem.strKind prog w) led).setOf hget (by unfold scanBound; omega)) (fun _ => rfl) rfl
        case hR =>
          intro s' hm hS'
          obtain ⟨h', g', d', tk', os'⟩ := s'
          have eg : g' = s.gens := hm.gens
          have ed : d' = s.drawn := hm.drawn
          have eo : os' = s.os := hm.os
          subst eg; subst ed; subst eo
          show wpAny _ _ _ _ _ _
          refine wpAny_pure ?_
          show wpAny _ _ (ret Value.none) _ _ _
          refine wpAny_pure ⟨rfl, h', tk', rfl, hS', fun b o hb e => ?_⟩
          have hb1 : b ≠ s.heap.objs.size := Nat.ne_of_lt hb
          have hb2 : b ≠ (s.heap.push { cls := .type "set", dict := none, data := .set #[] 0 (.fresh 0 0 led) }).objs.size := by
            rw [Heap.size_push]; exact Nat.ne_of_lt (Nat.lt_succ_of_lt hb)
          exact hm.heap b o (by simp only [List.mem_cons, List.mem_singleton, List.not_mem_nil, or_false, not_or]; exact ⟨hb1, hb2⟩) (Heap.get?_push_of_some _ (Heap.get?_push_of_some _ e))
      · cases r₂ with
        | error e => exact hr₂
        | ok fl₂ =>
          cases fl₂ with
          | ret r =>
            obtain ⟨rfl, h', tk, rfl, hS', hk'⟩ := hr₂
            repeat (any_goals (first | assumption | wp_step))
            exact h _ _ hS' hk'
          | _ => exact hr₂.elim
    | _ => exact hr.elim
end
section
variable {X : Cx}
/-- len(set(text)) -/
def tLenSetT (ta : TE) : TE := fun σ H Q => ta σ H fun x H1 => ∃ z : Str, x = .str z ∧ z.length ≤ 1000 ∧ Q (.int ((metS (signsOf z)).length : Nat)) H1
theorem pe_lenSetT {a : Expr} {ta : TE} {p p2 q pos : Pos} (hc : X.calm = true) (hg : Gl X "len") (hm : X.mg "len" = none) (hg2 : Gl X "set") (hm2 : X.mg "set" = none) (ha : PE X a ta)
    (na : starEach [a] X.env = (false, eval a X.env) :: starEach [] X.env := by rfl) : PE X (.Call (.Name "len" p) [.Call (.Name "set" p2) [a] [] q] [] pos) (tLenSetT ta) := by
  refine ⟨fun pins s σ H Q I h => ?_⟩
  refine Call_ (ld_blt I hg hm boot_len ?_)
  refine PyProof.Rows.callWith_builtin1 (PyProof.Rows.args_cons ?_ rfl) rfl rfl
  refine Call_ (ld_blt I hg2 hm2 boot_set ?_)
  refine PyProof.Rows.callWith_type1 (PyProof.Rows.args_cons (thn (ha.run pins s σ H _ I h) fun v s1 ⟨x, H1, I1, r1, q1⟩ => PyProof.Rows.args_nil ?_) na) na rfl
  obtain ⟨z, rfl, hz, q1⟩ := q1
  obtain ⟨t, rfl⟩ := r1
  have hml : (metS (signsOf z)).length ≤ z.cps.size := Nat.le_trans (metS_len _) (by unfold signsOf; rw [List.length_map, Array.length_toList]; exact Nat.le_refl _)
  have hz' : z.cps.size ≤ 1000 := hz
  refine call_set_text (I1.ok.hd hc) (by unfold scanBound; omega) fun h' tk hS hk => ?_
  refine PyProof.Rows.args_nil ?_
  obtain ⟨o, es, ep, t, ho, hex, hd, _, _, _, hf, hn⟩ := hS
  have I2 : Inv X pins σ H1 { s1 with heap := h', toks := tk } := I1.kept fun b o e => hk b o (Heap.lt_size e) e
  exact call_len_set ho hex hd hf (by rw [hn] <;> omega) ⟨.int _, H1, I2.tok _, ⟨_, by rw [hn]⟩, q1⟩
end
end KR
/-! Defs that are told of the guards of repr (that none stands around): FnG, its rule, its call, the law's end. -/
namespace KR
open PySem PySem.Spec PyProof.Rows L2 Evl KD LamX
structure FnG (P : Program) (w : World) (K : PySem.W.Frag) (mg : Str → Option Value) (base : Heap) (CX : CXT) (k : Nat) (f : Addr) (fd : FuncData) (ps : List Str) (sp : Sp) : Prop where
  len : ∀ vs H Q E, sp vs H Q E → vs.length = ps.length
  run : ∀ (A : Around) (outer : List Env) (s : Shared) (H : Hp) (args : Args) (us : List Value) (vs : List V) (Q : VK) (E : XK), A.guards = some [] → Room k A → Env0 P w K mg base A outer s H → BindsTo s fd args (ps.zip us) → Vals vs us → sp vs H Q E →
    codeAny (model P w) A (.call (.ref f) args) (CR CX outer P w H s Q E) s
section
variable {P : Program} {w : World} {K : PySem.W.Frag} {mg : Str → Option Value} {base : Heap}
theorem guards_deeper {A : Around} {env : Env} (h : A.guards = some []) : (A.deeper env).guards = some [] := h
/-- the rule for such a def -/
theorem okG {CX : CXT} {x qual : Str} {st : Stmt} {f : Addr} {fd : FuncData} {N ps : List Str} {k : Nat} {sp : Sp} (F : L2.Fun K x qual st f fd) (S : FnScope N ps (defScope st)) (len : ∀ vs H Q E, sp vs H Q E → vs.length = ps.length)
    (hbody : ∀ (cdv : Value) (A : Around) (outer : List Env) (s : Shared) (H : Hp) (vs : List V) (Q : VK) (E : XK), (A.deeper (envOfC qual (defScope st) s.heap.objs.size f cdv)).guards = some [] → Room k (A.deeper (envOfC qual (defScope st) s.heap.objs.size f cdv)) → sp vs H Q E →
      ∃ t, PSs (cxOf CX P w K mg base N qual (defScope st) f cdv A outer s H E) (defBody st) t ∧ t { nx := fun _ H' => Q .non H', rt := Q } (start N vs) H) : FnG P w K mg base CX (k + 1) f fd ps sp := by
  obtain ⟨oc, od, kV, doc, pm, an, cdv, ct, osl, rfl, lk, hcd⟩ := F.ex
  refine ⟨len, fun A outer s H args us vs Q E hg hr e0 hb r hsp => ?_⟩
  exact LamX.run_ofS lk hcd S hr e0 hb r (len _ _ _ _ hsp) fun hr' => hbody cdv A outer s H vs Q E (guards_deeper hg) hr' hsp
end
section
variable {X : Cx} {CX : CXT} {k : Nat} {f : Addr} {fd : FuncData} {ps : List Str} {sp : Sp} {E : XK} {x : Str} {p pos : Pos} {e : Expr} {es : List Expr} {t : TA}
theorem FnG.of {P : Program} {w : World} {K : PySem.W.Frag} {mg : Str → Option Value} {base : Heap} (F : FnOk P w K mg base CX k f fd ps sp) : FnG P w K mg base CX k f fd ps sp := ⟨F.len, fun A outer s H args us vs Q E _ => F.run A outer s H args us vs Q E⟩
/-- x(e, ..), x such a def -/
theorem pe_callG (F : FnG X.prog X.w X.K X.mg X.base CX k f fd ps sp) (hgd : X.A.guards = some []) (hr : Room k X.A) (hg : Gl X x) (hm : X.mg x = some (.ref f)) (hk : PySem.W.keepIn X.K (.ref f) = true) (hb : Binds X.K fd ps []) (hx : Passes CX X E)
    (ha : PA X (e :: es) t) (hdb : (x == ("__debug__" : Str)) = false := by decide) (he : starEach (e :: es) X.env = (false, eval e X.env) :: starEach es X.env := by rfl) (hpl : (backTo pos (starEach es X.env)).any (·.1) = false := by rfl) :
    PE X (.Call (.Name x p) (e :: es) [] pos) (tCall sp [] E t) := by
  refine ⟨fun pins s σ H Q I h => ?_⟩
  refine wpAny_Call_Name_kw (ld_glob I hg hm ?_ hdb)
  refine PySem.W.callWith_K (h₀ := X.base) I.ok.mod.kin hk (thn (ha.run pos pins s σ H _ I h) fun us s1 ⟨vs, H1, I1, r, q⟩ => ⟨I1.kIn, ?_⟩) he hpl
  have q : sp (vs ++ []) H1 Q E := q
  rw [List.append_nil] at q
  show wpAny _ _ (call (.ref f) us) _ _ _
  have hl : us.length = ps.length := by rw [← r.length]; exact F.len _ _ _ _ q
  have b := hb s1 us I1.kIn (by rw [List.append_nil]; exact hl)
  rw [List.append_nil] at b
  refine wpAny_call (codeAny_mono (F.run X.A X.stack s1 H1 ⟨us, []⟩ us vs Q E hgd hr I1.env0 b r q) fun r s' hq => ?_)
  cases r with
  | error e => exact hx pins σ H1 s1 e s' I1 hq
  | ok fl =>
    cases fl with
    | ret u => exact I1.after hq
    | next => exact False.elim hq
    | brk => exact False.elim hq
    | cont => exact False.elim hq
end
/-- law_call with tables: cs, the code objects and their tables -/
theorem law_callG {P : Program} {w : World} {K : PySem.W.Frag} {mg mb : Str → Option Value} {CX : CXT} {k : Nat} {fa a : Addr} {cs : List (Addr × Addr)} {fd : FuncData} {x : Str} {sp : Sp} {s₁ : Shared} {vs : List Value} {ns : List Int}
    (KX : K.In s₁.heap) (hns : s₁.heap.Ns mainGlobals mg) (hb : s₁.heap.Ns builtinsNs mb) (hbb : ∀ x : Str, x ≠ "__name__" → mb x = bootBuiltins x) (hlim : s₁.heap.NoLimit) (hg : s₁.gens = #[])
    (hT : ∀ p ∈ cs, s₁.heap.get? p.2 = some { cls := .none, data := .fields #[] }) (nT : ∀ p ∈ cs, K.lookup p.2 = none) (C : ∀ p ∈ cs, PySem.W.CodeHd s₁.heap p.1 p.2)
    (hbm : ∃ (bm : Addr) (ob : Obj), mg "__builtins__" = some (.ref bm) ∧ bm ≠ builtinsNs ∧ s₁.heap.get? bm = some ob ∧ ob.cls = .type "module" ∧ ob.dict = some builtinsNs ∧ ob.data = .plain)
    (ha : s₁.heap.get? a = some { cls := .type "list", data := .seq vs.toArray }) (hi : IntsAre vs ns) (hl : ns.length ≤ sizeLine) (hr : Room k callerA)
    (F : ∀ base : Heap, K.In base → base.Ns mainGlobals mg → (∀ p ∈ cs, TabB base mg p.1 p.2) → FnG P w K mg base CX k fa fd [x] sp) (hbind : ∀ (s : Shared) (u : Value), BindsTo s fd ⟨[u], []⟩ [(x, u)])
    (hsp : ∀ H : Hp, (∀ p ∈ cs, H p.2 = some (.tbl #[])) → SqL K H a (ns.map V.int) → sp [.ref a] H (fun v _ => v = .bl true) fun _ _ _ => False)
    (hCX : ∀ H e s', CX [] H s₁ (fun _ _ _ => False) e s' → False) :
    codeAny (model P w) callerA (.call (.ref fa) ⟨[.ref a], []⟩) (fun r s' => r = .ok (.ret (.bool true)) ∧ OldK s₁.heap s'.heap ∧ s'.os = s₁.os ∧ AllBare s'.gens) s₁ := by
  have rv := vals_ints hi
  have lenV := hi.length
  have isT : ∀ b : Addr, b ∈ cs.map (·.2) → s₁.heap.get? b = some { cls := .none, data := .fields #[] } := fun b hb => by
    obtain ⟨p, hp, e⟩ := List.mem_map.mp hb
    rw [← e]
    exact hT p hp
  have aT : a ∉ cs.map (·.2) := fun z => by
    have q := isT a z
    rw [ha] at q
    have z' : Data.seq vs.toArray _ = Data.fields #[] := congrArg Obj.data (Option.some.inj q)
    cases z'
  have memT : ∀ p ∈ cs, p.2 ∈ cs.map (·.2) := fun p hp => List.mem_map.mpr ⟨p, hp, rfl⟩
  -- from an abstract heap in which nothing but the script and the tables may be tracked
  have core : ∀ H : Hp, (∀ p ∈ cs, H p.2 = some (.tbl #[])) → (∀ b, H b = none ∨ b ∈ cs.map (·.2) ∨ ∃ o xs, H b = some (.frz o (.lst xs))) → SqL K H a (ns.map V.int) → HOk P w H s₁.heap → (∀ b, H b ≠ none → b = a ∨ b ∈ cs.map (·.2)) → (H a ≠ none → K.lookup a = none) →
      codeAny (model P w) callerA (.call (.ref fa) ⟨[.ref a], []⟩) (fun r s' => r = .ok (.ret (.bool true)) ∧ OldK s₁.heap s'.heap ∧ s'.os = s₁.os ∧ AllBare s'.gens) s₁ := by
    intro H hH hO hS hok hA hK
    have base_of : ∀ {b : Addr} {o : Obj}, s₁.heap.get? b = some o → H b = none → (hidT s₁.heap H).get? b = some o := fun e n => hidT_get e n
    have noD : ∀ {b : Addr} {o : Obj}, s₁.heap.get? b = some o → (∀ vs n, o.data ≠ .seq vs n) → o.data ≠ .fields #[] → H b = none := fun {b o} e h1 h2 => by
      cases q : H b with
      | none => rfl
      | some u =>
        rcases hA b (by rw [q]; simp) with e' | e'
        · rw [e', ha] at e
          cases e
          exact (h1 _ _ rfl).elim
        · rw [isT b e'] at e
          cases e
          exact (h2 rfl).elim
    have noA : ∀ {b : Addr} {o : Obj} {es : Array DictEntry} {ep : Nat}, s₁.heap.get? b = some o → o.data = .dict es ep → H b = none := fun {b o es ep} e d => by
      refine noD e (fun vs n z => ?_) fun z => ?_
      · rw [d] at z
        cases z
      · rw [d] at z
        cases z
    have nsK : ∀ {b : Addr} {m : Str → Option Value}, s₁.heap.Ns b m → (hidT s₁.heap H).Ns b m := fun {b m} ⟨o, es, ep, e, d, r⟩ => ⟨o, es, ep, base_of e (noA e d), d, r⟩
    have hKb : K.In (hidT s₁.heap H) := fun b o e => base_of (KX b o e) (by
      cases q : H b with
      | none => rfl
      | some u =>
        rcases hA b (by rw [q]; simp) with e' | e'
        · rw [e'] at e q
          rw [hK (by rw [q]; simp)] at e
          cases e
        · obtain ⟨p, hp, ep⟩ := List.mem_map.mp e'
          rw [← ep, nT p hp] at e
          cases e)
    have hM : L2.Mod K mg (hidT s₁.heap H) := ⟨hKb, nsK hns, ⟨mb, nsK hb, hbb⟩, let ⟨mc, h1, h2⟩ := hlim; ⟨mc, nsK h1, h2⟩⟩
    have TB : ∀ p ∈ cs, TabB (hidT s₁.heap H) mg p.1 p.2 := fun p hp => by
      have hTp := hT p hp
      refine ⟨?_, ?_, fun z => ?_⟩
      · obtain ⟨o, us, file, tf, flags, tg, inF, text, tt, e1, r1, r2, r3, r4, r5, r6, r7, r8, hne⟩ := C p hp
        refine ⟨o, us, file, tf, flags, tg, inF, text, tt, base_of e1 (noD e1 (fun vs n z => ?_) fun z => ?_), r1, r2, r3, r4, r5, r6, r7, r8, hne⟩
        · rw [r2] at z
          cases z
        · rw [r2] at z
          cases z
          simp at r3
      · obtain ⟨bm, ob, b1, b2, b3, b4, b5, b6⟩ := hbm
        have nG : bm ≠ mainGlobals := fun q => by
          obtain ⟨o, es, ep, e, hd, _⟩ := hns
          rw [q, e] at b3
          cases b3
          rw [hd] at b6
          cases b6
        have nP : bm ≠ p.2 := fun q => by
          rw [q, hTp] at b3
          cases b3
          cases b6
        refine ⟨bm, ob, b1, b2, nG, nP, base_of b3 (noD b3 (fun vs n z => ?_) fun z => ?_), b4, b5, b6⟩
        · rw [b6] at z
          cases z
        · rw [b6] at z
          cases z
      · obtain ⟨o, es, ep, e, hd, _⟩ := hns
        rw [z, hTp] at e
        cases e
        cases hd
    have e0 : Env0 P w K mg (hidT s₁.heap H) callerA [] s₁ H := ⟨rfl, hM, fun b o e => of_hidT e, Nat.le_of_eq (hidT_size _ _), trivial, fun b hb => absurd (show b ∈ ([] : List Addr) from hb) (by simp), hok, .of_eq hg⟩
    refine codeAny_mono ((F _ hKb (nsK hns) TB).run callerA [] s₁ H ⟨[.ref a], []⟩ [.ref a] [.ref a] _ _ rfl hr e0 (hbind s₁ (.ref a)) (.cons rfl .nil) (hsp H hH hS)) fun r s' h => ?_
    cases r with
    | error e => exact (hCX H e s' h).elim
    | ok fl =>
      cases fl with
      | next => exact False.elim h
      | brk => exact False.elim h
      | cont => exact False.elim h
      | ret u =>
        obtain ⟨v, H', os, bare, un, hok', r', q⟩ := h
        have q' : v = .bl true := q
        subst q'
        obtain rfl : u = Value.bool true := r'
        have key : ∀ b o, b ∉ cs.map (·.2) → s₁.heap.get? b = some o → s'.heap.get? b = some o := fun b o nb e => by
          cases q : H b with
          | none => exact un.keep b o e q (by intro z; exact absurd (show b ∈ ([] : List Addr) from z) (by simp)) (by simp)
          | some u =>
            rcases hO b with z | z | ⟨ob, xs, z⟩
            · rw [q] at z; cases z
            · exact absurd z nb
            · have z2 := un.frzs b ob _ z
              obtain ⟨e1, _⟩ := hok b _ z
              obtain ⟨e2, _⟩ := hok' b _ z2
              rw [e] at e1; cases e1
              exact e2
        have grown : ∀ p ∈ cs, ∃ more : Array Value, s'.heap.get? p.2 = some { cls := .none, data := .fields more } := fun p hp => by
          obtain ⟨more, z⟩ := un.tbls p.2 #[] (hH p hp)
          exact ⟨_, hok' p.2 _ z⟩
        refine ⟨rfl, ⟨fun b o e => ?_, fun b o e => ?_⟩, os, bare⟩
        · by_cases hb : b ∈ cs.map (·.2)
          · obtain ⟨p, hp, ep⟩ := List.mem_map.mp hb
            obtain ⟨more, hm⟩ := grown p hp
            rw [← ep] at e ⊢
            rw [hT p hp] at e
            cases e
            exact .inr (.inl ⟨((C p hp).tab (hT p hp)).isCodeTable, rfl, #[], more, rfl, by rw [Array.empty_append]; exact hm⟩)
          · exact .inl (key b o hb e)
        · by_cases hb : b ∈ cs.map (·.2)
          · obtain ⟨p, hp, ep⟩ := List.mem_map.mp hb
            obtain ⟨more, hm⟩ := grown p hp
            rw [← ep]
            exact ⟨_, hm⟩
          · exact ⟨o, key b o hb e⟩
  cases hk : K.lookup a with
  | some o =>
    have e := KX a o hk
    rw [ha] at e
    cases e
    refine core (fun b => if b ∈ cs.map (·.2) then some (.tbl #[]) else none) (fun p hp => if_pos (memT p hp)) (fun b => ?_) (.inr ⟨_, vs.toArray, _, hk, rfl, rfl, rfl, by rw [List.size_toArray, lenV]; exact hl, by simpa using rv⟩) (fun b u z => ?_) (fun b z => ?_) fun z => absurd (show (if a ∈ cs.map (·.2) then some (HO.tbl #[]) else none) = none from if_neg aT) z
    · by_cases hb : b ∈ cs.map (·.2)
      · exact .inr (.inl hb)
      · exact .inl (if_neg hb)
    · by_cases hb : b ∈ cs.map (·.2)
      · have z' := (if_pos hb).symm.trans z
        cases z'
        exact isT b hb
      · have z' := (if_neg hb).symm.trans z
        cases z'
    · by_cases hb : b ∈ cs.map (·.2)
      · exact .inr hb
      · exact absurd (if_neg hb) z
  | none =>
    refine core (fun b => if b = a then some (.frz { cls := .type "list", data := .seq vs.toArray } (.lst (ns.map V.int))) else if b ∈ cs.map (·.2) then some (.tbl #[]) else none) (fun p hp => (if_neg (show ¬ p.2 = a from fun z => aT (by rw [← z]; exact memT p hp))).trans (if_pos (memT p hp))) (fun b => ?_)
      (.inl (.inr ⟨{ cls := .type "list", data := .seq vs.toArray }, if_pos rfl⟩)) (fun b u z => ?_) (fun b z => ?_) fun _ => hk
    · by_cases hb : b = a
      · exact .inr (.inr ⟨_, _, if_pos hb⟩)
      · by_cases hb2 : b ∈ cs.map (·.2)
        · exact .inr (.inl hb2)
        · exact .inl ((if_neg hb).trans (if_neg hb2))
    · by_cases hb : b = a
      · have z' := (if_pos hb).symm.trans z
        cases z'
        rw [hb]
        exact ⟨ha, by rw [List.length_map]; exact hl, vs, _, rv, ha⟩
      · have z1 := (if_neg hb).symm.trans z
        by_cases hb2 : b ∈ cs.map (·.2)
        · have z' := (if_pos hb2).symm.trans z1
          cases z'
          exact isT b hb2
        · have z' := (if_neg hb2).symm.trans z1
          cases z'
    · by_cases hb : b = a
      · exact .inl hb
      · by_cases hb2 : b ∈ cs.map (·.2)
        · exact .inr hb2
        · exact absurd ((if_neg hb).trans (if_neg hb2)) z
/-- what is known of the law's promise at the head's heap h -/
def LawAtG (l : PySem.W.OpenLaw) (w : World) (K : PySem.W.Frag) (CX : CXT) (k n : Nat) (x : Str) (mg : Str → Option Value) (fa : Addr) (h : Heap) : Prop :=
  ∃ (fd : FuncData) (cs : List (Addr × Addr)) (sp : Sp), (∀ p ∈ cs, h.get? p.2 = some { cls := .none, data := .fields #[] }) ∧ (∀ p ∈ cs, K.lookup p.2 = none) ∧ (∀ p ∈ cs, PySem.W.CodeHd h p.1 p.2) ∧ (∀ (s : Shared) (u : Value), BindsTo s fd ⟨[u], []⟩ [(x, u)]) ∧
    (∀ (H : Hp) (a : Addr) (ns : List Int), ns.length ≤ n → (∀ z ∈ ns, Builtin.Int.intBits z ≤ 1048576) → (∀ p ∈ cs, H p.2 = some (.tbl #[])) → SqL K H a (ns.map V.int) → sp [.ref a] H (fun v _ => v = .bl true) fun _ _ _ => False) ∧
    ∀ base : Heap, K.In base → base.Ns mainGlobals mg → (∀ p ∈ cs, TabB base mg p.1 p.2) → FnG l.prog w K mg base CX k fa fd [x] sp
theorem walk_ofG {l : PySem.W.OpenLaw} {n k : Nat} {q : Program} {loose : List Str} {XP : (Str → Option Value) → Heap → Prop} {YP : World → Heap → Prop} {d : DefRec} {K : Params → PySem.W.Frag} {CX : World → CXT} {x : Str}
    (hn : l.most = some n) (hn2 : n ≤ sizeLine) (hdf : d.params.defaults = []) (hr : Room k callerA) (hY : ∀ (w : World) (h : Heap), YP w h → (K w.params).In h)
    (F : ∀ (w : World) (mg : Str → Option Value) (fa : Addr) (h : Heap), YP w h → (K w.params).In h → h.Ns mainGlobals mg → mg d.name = some (.ref fa) → LawAtG l w (K w.params) (CX w) k n x mg fa h)
    (hCX : ∀ (w : World) (H : Hp) (s : Shared) (e : Value) (s' : Shared), CX w [] H s (fun _ _ _ => False) e s' → False) :
    PySem.W.WalkO q loose XP YP l.row.toRowW d [] (fun f vs => PySem.call f vs) := by
  refine Att.attach_callB hn hdf fun w s₀ s₁ mg mb fa o pm cd doc a vs ns G Y ho hd hcd hmg hobj hints hlen hbits hg => ?_
  have KX := hY w _ Y
  obtain ⟨fd, cs, sp, hT, nT, C, hb, hsp, hF⟩ := F w mg fa _ Y KX G.T.g hmg
  exact law_callG KX G.T.g G.T.b G.T.builtins G.T.nolimit hg hT nT C G.T.bmain hobj hints (Nat.le_trans hlen hn2) hr hF hb (fun H hH hS => hsp H a ns hlen hbits hH hS) fun H e s' => hCX w H s₁ e s'
end KR
/-! List comprehensions whose element may raise; list comprehensions within an except suite. -/
namespace KR
open PySem PySem.Spec PyProof.Rows L2 Evl KD
/-! ### an exception that a call within a block let out -/
def XB (Y : Cx) (W : WX) (u : Value) (s' : Shared) : Prop :=
  ∃ (a : Addr) (B : Heap) (sI : Shared) (pins : List (Addr × Obj)) (σ : L2.St) (H : Hp) (cls : Value) (d : Option Addr),
    u = .ref a ∧ Inv Y pins σ H sI ∧ (∀ b o, sI.heap.get? b = some o → b ∉ frs Y.stack → B.get? b = some o) ∧ sI.heap.UpToSlots s'.heap ∧
      HandSPX.FlyingZ B Y.stack a (L2N.Zn cls d) s'.heap ∧ H a = none ∧ s'.os = sI.os ∧ AllBare s'.gens ∧ W cls d σ H
theorem XB.of_call {X : Cx} {pins : List (Addr × Obj)} {σ : L2.St} {H : Hp} {s s' : Shared} {W : WX} {E : XK} (I : Inv X pins σ H s) (hW : ∀ cls d H', E cls d H' → W cls d σ H') {u : Value} (c : L2N.CX X.prog X.w X.stack H s E u s') : XB X W u s' := by
  obtain ⟨a, B, H', cls, d, rfl, fl, hok, ub, na, os, ag, hE⟩ := c
  obtain ⟨G, g1, g2⟩ := restrict s'.heap fun b => (B.get? b).isSome || decide (b ∈ frs X.stack)
  have st : B.StaysIn s'.heap := fl.1
  have gB : ∀ b o, B.get? b = some o → G.get? b = some o := fun b o e => by
    rw [g1 b (by simp [e])]
    exact st b o e
  have gF : ∀ b, b ∈ frs X.stack → G.get? b = s'.heap.get? b := fun b hb => g1 b (by simp [hb])
  have og : ∀ b o, G.get? b = some o → s'.heap.get? b = some o ∧ ((B.get? b).isSome = true ∨ b ∈ frs X.stack) := fun b o e => by
    cases q : ((B.get? b).isSome || decide (b ∈ frs X.stack)) with
    | false => rw [g2 b q] at e; cases e
    | true =>
      rw [g1 b q] at e
      exact ⟨e, by simpa [Bool.or_eq_true] using q⟩
  refine ⟨a, B, { s with heap := G, gens := s'.gens, drawn := s'.drawn, toks := s'.toks }, pins, σ, H', cls, d, rfl, ?_, fun b o e hb => ?_, Heap.UpToSlots.of_keeps fun b o e => (og b o e).1, fl, na, os, ag, hW _ _ _ hE⟩
  · refine I.call (ch := []) ⟨fun b o e n hb _ => gB b o (ub.keep b o e n hb), fun b o e n hb _ => ?_, fun b o e n _ => ub.free b o e n, fun b o e _ => ?_, ub.tups, ub.frzs, ub.tbls⟩ (hok.kept gB) ag (fun _ z => nomatch z)
    · obtain ⟨sl, q⟩ := ub.slot b o e hb
      exact ⟨sl, by rw [gF b hb]; exact q⟩
    · by_cases hb : b ∈ frs X.stack
      · obtain ⟨sl, q⟩ := ub.slot b o e hb
        exact ⟨_, by rw [gF b hb]; exact q⟩
      · obtain ⟨o', q⟩ := ub.there b o e hb
        exact ⟨o', gB b o' q⟩
  · obtain ⟨e', h⟩ := og b o e
    rcases h with h | h
    · obtain ⟨o', q⟩ := Option.isSome_iff_exists.mp h
      have z := st b o' q
      rw [e'] at z; cases z
      exact q
    · exact absurd h hb
/-- a block lets out what its calls let out -/
def TakesB (Y : Cx) (W : WX) : Prop := ∀ u s', XB Y.nox W u s' → Y.xe u s'
theorem passB {Y : Cx} {W : WX} (tk : TakesB Y W) (σ : L2.St) : PassesAt (L2N.CX Y.prog Y.w) Y σ (WE W σ) := fun _ _ _ e s' I c => tk e s' (XB.of_call (X := Y.nox) (I.wish _) (fun _ _ _ h => h) c)
/-! ### the block's error -/
theorem noteFrame_congr {e : Value} {a b : Env} (h : a.frame = b.frame) : noteFrame e a = noteFrame e b := by
  unfold PySem.noteFrame PySem.frameOf
  rw [h]
theorem passOn_congr {α : Type} {what : String} {e : Value} {a b : Env} (h : a.frame = b.frame) : (PySem.passOn what e a : Sem α) = PySem.passOn what e b := by
  unfold PySem.passOn
  rw [h]
def compPostF (M : Model) (A : Around) (E : Value → Shared → Prop) (Q : Value → Shared → Prop) (acc : Value) (C : Addr) (env : Env) (r : Result) (s' : Shared) : Prop :=
  match r with
  | .ok _ => ∃ m, s'.heap.Ns C m ∧ ∀ h', Heap.SameBut C s'.heap h' → Q acc { s' with heap := h' }
  | .error x => ∃ m, s'.heap.Ns C m ∧ ∀ h', Heap.SameBut C s'.heap h' → wpAny M A (PySem.passOn "comprehension.variables-let-go" x env : Sem Value) (fun _ _ => False) E { s' with heap := h' }
theorem comprehension_freeF {M : Model} {A : Around} {E : Value → Shared → Prop} {s : Shared} {env : Env} {e : Expr} {scope : Scope} {pos : Pos} {newAcc first : Sem Value} {g : Comprehension} {gs : List Comprehension} {cl : List (Str × Addr)}
    {Q : Value → Shared → Prop}
    (hcl : clausesOf e = g :: gs) (hs : ∀ x, foldedSetIterable g.iter env x = pure x) (hclos : closureFor scope env = pure cl)
    (hkind : scope.kind = .function) (hnames : ∀ x ∈ scope.names, x.2 = .local → scope.names.lookup x.1 = some .local)
    (h : wpAny M A first (fun x s₁ => wpAny M A (pyIter x) (fun it s₂ => wpAny M A newAcc (fun acc s₃ =>
      wpAny M A (newFunctionEnv scope env.globals cl [] env.qual none .none (some env)) (fun cenv s₄ => cenv.frame = env.frame ∧
        codeAny M A (.compStart e 0 it acc { cenv with scope := relabel scope env }) (compPostF M A E Q acc cenv.locals env) s₄) E s₃) E s₂) E s₁) E s) :
    wpAny M A (comprehension e scope env pos newAcc false first none) Q E s := by
  unfold comprehension
  rw [hclos, hcl]
  refine wpAny_bind (wpAny_mono h (fun x s₁ h₁ => wpAny_bind (wpAny_standAt (wpAny_bind (wpAny_of_eq (hs x) (wpAny_bind (wpAny_holding (wpAny_mono h₁ (fun it s₂ h₂ =>
    wpAny_standIf (wpAny_bind (wpAny_mono h₂ (fun acc s₃ h₃ => wpAny_bind (wpAny_pure (wpAny_bind (wpAny_mono h₃ (fun cenv s₄ h₄ => ?_) fun _ _ h' => h')))) fun _ _ h' => h')))
      fun _ _ h' => h'))))))) fun _ _ h' => h')
  dsimp only
  obtain ⟨hfr, h₄⟩ := h₄
  have hv : ∀ x ∈ (scope.names.filter fun x => (x.2 == .local || x.2 == .cell) && x.1 != (".0" : Str)).reverse, x.2 = .local →
      Env.kindOf { cenv with scope := relabel scope env } x.1 = some .local := fun x hx hl => lookup_relabel_local (hnames x (List.mem_filter.mp (List.mem_reverse.mp hx)).1 hl)
  refine wpAny_holding (wpAny_bind (wpAny_attempt (wpAny_holding (wpAny_run (codeAny_mono h₄ fun r s' hr => ?_)))))
  cases r with
  | ok f =>
    obtain ⟨m, hn, hr⟩ := hr
    exact wpAny_bind (wpAny_holding (wpAny_comp_letGo (cenv := { cenv with scope := relabel scope env }) hkind _ s' m hv hn fun h' m' _ hs' => wpAny_pure (hr h' hs')))
  | error x =>
    obtain ⟨m, hn, hr⟩ := hr
    exact wpAny_bind (wpAny_holding (wpAny_comp_letGo (cenv := { cenv with scope := relabel scope env }) hkind _ s' m hv hn fun h' m' _ hs' => by
      have q := hr h' hs'
      have e2 : (PySem.passOn "comprehension.variables-let-go" x { cenv with scope := relabel scope env } : Sem Value) = PySem.passOn "comprehension.variables-let-go" x env := passOn_congr hfr
      show wpAny _ _ (PySem.passOn "comprehension.variables-let-go" x { cenv with scope := relabel scope env } : Sem Value) _ _ _
      rw [e2]
      exact wpAny_mono q (fun _ _ f => f.elim) fun _ _ y => y))
/-! ### the loop, in a context of either kind -/
structure TurnQ (C : Cx → Prop) (P : Program) (w : World) (K : PySem.W.Frag) (tg : Expr) (J : It) (fp : List Addr) (it : Addr) (tn : Nat → Heap → Prop) : Prop where
  obj : ∀ i h, tn i h → ∀ b ∈ fp, ∃ o, h.get? b = some o ∧ ∀ v, o.data ≠ .cell v
  keep : ∀ i h h', tn i h → (∀ b ∈ fp, ∀ o, h.get? b = some o → h'.get? b = some o) → tn i h'
  item : ∀ (X : Cx), X.prog = P → X.w = w → X.K = K → C X → ∀ (i : Nat) (pins : List (Addr × Obj)) (s : Shared) (σ : L2.St) (H : Hp) (E : Value → Shared → Prop), Inv X pins σ H s → (∀ b ∈ fp, FpOk X pins H b) → tn i s.heap → J.go i H →
    wpAny (model P w) X.A (pyNext (.ref it)) (fun r s1 => ∃ u, r = some u ∧
      wpAny (model P w) X.A (letOwnedTupleGo tg (.ref it) u) (fun _ s2 => ∃ x H', Inv X pins σ H' s2 ∧ RelV x u ∧ J.yld i H x H' ∧ tn (i + 1) s2.heap ∧ ∀ b ∈ fp, H' b = none) E s1) E s
  done : ∀ (X : Cx), X.prog = P → X.w = w → X.K = K → C X → ∀ (i : Nat) (pins : List (Addr × Obj)) (s : Shared) (σ : L2.St) (H : Hp) (E : Value → Shared → Prop), Inv X pins σ H s → (∀ b ∈ fp, FpOk X pins H b) → tn i s.heap → J.stop i H →
    wpAny (model P w) X.A (pyNext (.ref it)) (fun r s1 => r = none ∧ Inv X pins σ H s1) E s
  self : ∀ (A : Around) (i : Nat) (s : Shared) (Q : Value → Shared → Prop) (E : Value → Shared → Prop), tn i s.heap → Q (.ref it) s → wpAny (model P w) A (pyIter (.ref it)) Q E s
def PIEQ (C : Cx → Prop) (X : Cx) (pins : List (Addr × Obj)) (σ : L2.St) (tg : Expr) (R : It → Hp → Prop) (itv : Value) (s2 : Shared) : Prop :=
  ∃ (it : Addr) (fp : List Addr) (tn : Nat → Heap → Prop) (J : It) (H' : Hp), itv = .ref it ∧ Inv X pins σ H' s2 ∧ TurnQ C X.prog X.w X.K tg J fp it tn ∧ tn 0 s2.heap ∧ (∀ b ∈ fp, FpOk X pins H' b) ∧ R J H'
structure PIQ (C : Cx → Prop) (X : Cx) (tg iter : Expr) (wi : TI) : Prop where
  run : ∀ (pins : List (Addr × Obj)) (s : Shared) (σ : L2.St) (H : Hp) (R : It → Hp → Prop), Inv X pins σ H s → wi σ H R →
    wpAny (model X.prog X.w) X.A (eval iter X.env) (fun v s1 => wpAny (model X.prog X.w) X.A (pyIter v) (PIEQ C X pins σ tg R) X.xe s1) X.xe s
def Calm (X : Cx) : Prop := X.calm = true
theorem PIQ.of {X : Cx} {tg iter : Expr} {wi : TI} (h : PI X tg iter wi) : PIQ Calm X tg iter wi := ⟨fun pins s σ H R I hw => thn (h.run pins s σ H R I hw) fun v s1 h1 => thn h1 fun itv s2 ⟨it, fp, tn, J, H', e, I2, T, t0, f2, r⟩ =>
  ⟨it, fp, tn, J, H', e, I2, ⟨T.obj, T.keep, T.item, T.done, T.self⟩, t0, f2, r⟩⟩
theorem PIQ.ofH {X : Cx} {tg iter : Expr} {wi : TI} (h : L2H.PIH X tg iter wi) : PIQ L2H.HotC X tg iter wi := ⟨fun pins s σ H R I hw => thn (h.run pins s σ H R I hw) fun v s1 h1 => thn h1 fun itv s2 ⟨it, fp, tn, J, H', e, I2, T, t0, f2, r⟩ =>
  ⟨it, fp, tn, J, H', e, I2, ⟨T.obj, T.keep, T.item, T.done, T.self⟩, t0, f2, r⟩⟩
/-- the block's context -/
abbrev blkG (X : Cx) (s : Shared) (H : Hp) (scope : Scope) (cenv : Env) (fp : List Addr) (xe : Value → Shared → Prop) : Cx := { X with s_0 := s, H_0 := H, env := cenv, outer := X.stack, ex := fp, fn := fun x => scope.names.lookup x == some .cell, xe := xe }
theorem inv_blkG {X : Cx} {s s' : Shared} {H H' : Hp} {scope : Scope} {cenv : Env} {fp : List Addr} {σ : L2.St} {xe : Value → Shared → Prop} (I : Inv (X.blk s H scope cenv fp) [] σ H' s')
    (hp : ∀ p ∈ X.pn, s'.heap.get? p.1 = some p.2 ∧ H' p.1 = none ∧ p.1 ≠ cenv.locals ∧ p.1 ∉ frs X.stack ∧ ∀ v, p.2.data ≠ .cell v) : Inv (blkG X s H scope cenv fp xe) [] σ H' s' :=
  ⟨⟨I.ok.mod, I.ok.kind, I.ok.glob, I.ok.blt, I.ok.above, I.ok.inj, I.ok.has, I.ok.cab, I.ok.hd, I.ok.frames, I.ok.stk, I.ok.exf, I.ok.bs, I.ok.bsz, I.ok.noex, I.ok.exfs, I.ok.funs, I.ok.frf⟩, I.os, I.bare, I.base, I.loc, I.cell, I.free, I.freeC, fun p h => hp p (by simpa using h), I.hok, I.len⟩
end KR
namespace KR
open PySem PySem.Spec PyProof.Rows L2 Evl KD
/-- behind a block's error: the frame's own dict of the block is cleared -/
theorem errB {X : Cx} {pins : List (Addr × Obj)} {σ : L2.St} {H3 : Hp} {s3 s' : Shared} {scope : Scope} {ce : Env} {fp : List Addr} {W : WX} {Wout : WX} {u : Value} {Qf : Value → Shared → Prop} {D : Value}
    (hs : X.stack = X.env :: X.outer) (hf : X.env.frame = some X.env.locals) (tk : L2N.Takes X Wout) (I3 : Inv X pins σ H3 s3) (hfr : ce.frame = X.env.frame) (cL : ce.locals = s3.heap.objs.size)
    (f3 : ∀ b ∈ fp, FpOk X pins H3 b) (hW : ∀ cls d σ' H', W cls d σ' H' → Wout cls d σ H')
    (x : XB (blkG X s3 H3 scope ce fp fun _ _ => False) W u s') : notedBy (model X.prog X.w) X.A ce (fun e s' => compPostF (model X.prog X.w) X.A X.xe Qf D s3.heap.objs.size X.env (.error e) s') u s' := by
  obtain ⟨a, B, sI, pinsB, σB, H5, cls, d, rfl, Ib, nb, up, fl, na, os, ag, w⟩ := x
  have hA : X.A.frames = some (X.env :: X.outer) := by rw [I3.ok.frames, hs]
  have nbX : ∀ b o, sI.heap.get? b = some o → b ∉ frs X.stack → B.get? b = some o := nb
  have flX : HandSPX.FlyingZ B (X.env :: X.outer) a (L2N.Zn cls d) s'.heap := by rw [← hs]; exact fl
  show wpAny _ X.A (noteFrame (.ref a) ce) _ _ _
  rw [noteFrame_congr hfr]
  refine PXN.looks_onZ L2N.Zn.steady hA hf flX fun h3 held up3 => ?_
  -- the block's dict
  obtain ⟨m, hn0, _⟩ := Ib.loc
  have hn : sI.heap.Ns s3.heap.objs.size m := by
    have z : sI.heap.Ns ce.locals m := hn0
    rw [cL] at z
    exact z
  obtain ⟨oC, es, ep, hoC, hdC, rC⟩ := id hn
  have up13 := up.trans up3
  obtain ⟨sl3, hC3⟩ := up13 _ oC hoC (fun vs z => by rw [hdC] at z; cases z)
  refine ⟨m, ⟨_, es, ep, hC3, hdC, rC⟩, fun h' sb => ?_⟩
  have nCfr : s3.heap.objs.size ∉ frs X.stack := fun z => by
    obtain ⟨_, o', e', _⟩ := I3.stack.mem z
    exact absurd (Heap.lt_size e') (Nat.lt_irrefl _)
  have bC : B.get? s3.heap.objs.size = some oC := nbX _ _ hoC nCfr
  have hC5 : H5 s3.heap.objs.size = none := by
    have z : H5 ce.locals = none := Ib.free
    rw [cL] at z
    exact z
  obtain ⟨k1, k2, k3, k4⟩ := held
  obtain ⟨B2, b1, b2⟩ := restrict h' fun b => (B.get? b).isSome
  obtain ⟨G, g1, g2⟩ := restrict h' fun b => (sI.heap.get? b).isSome
  have old : ∀ b o, b ≠ s3.heap.objs.size → h3.get? b = some o → h'.get? b = some o := fun b o hb e => (sb.2 b hb).trans e
  have sB : B2.StaysIn h' := fun b o e => by
    cases q : (B.get? b).isSome with
    | false => rw [b2 b q] at e; cases e
    | true => rw [b1 b q] at e; exact e
  have nB : ∀ b, B.get? b = none → B2.get? b = none := fun b e => b2 b (by rw [e]; rfl)
  have neC : ∀ b, B.get? b = none → b ≠ s3.heap.objs.size := fun b e z => by rw [z, bC] at e; cases e
  have ff : ∀ l : List Env, h3.FunFrames B l → h'.FunFrames B2 l := by
    intro l
    induction l with
    | nil => intro _; trivial
    | cons e r ih =>
      intro z
      obtain ⟨z1, ⟨L, o, z2, z3, z4, z5⟩, z6⟩ := z
      exact ⟨z1, ⟨L, o, z2, nB L z3, old L o (neC L z3) z4, z5⟩, ih z6⟩
  have tr : HandSPX.TracedZ h' B2 a (L2N.Zn cls d) (rawInt X.env.locals) := by
    obtain ⟨oe, vs, T, oT, ts, he, hz, hd, h1, hnT, hTe, hT, hdT, h33⟩ := k4
    exact ⟨oe, vs, T, oT, ts, old _ _ (neC _ k2) he, hz, hd, h1, nB _ hnT, hTe, old _ _ (neC _ hnT) hT, hdT, h33⟩
  -- what is known of sI's objects in h'
  have keepI : ∀ b o, sI.heap.get? b = some o → b ∉ frs X.stack → b ≠ s3.heap.objs.size → h'.get? b = some o := fun b o e h1 h2 => old b o h2 (k1 b o (nbX b o e h1))
  have frI : ∀ b o, sI.heap.get? b = some o → b ∈ frs X.stack → ∃ sl, h'.get? b = some { o with slots := sl } := fun b o e hb => by
    obtain ⟨_, o', e', hd'⟩ := Ib.funs.mem (show b ∈ frs X.stack from hb)
    rw [e] at e'; cases e'
    obtain ⟨sl, q⟩ := up13 b o e hd'
    exact ⟨sl, old b _ (fun z => nCfr (z ▸ hb)) q⟩
  have gS : ∀ b o, sI.heap.get? b = some o → G.get? b = h'.get? b := fun b o e => g1 b (by rw [e]; rfl)
  have oG : ∀ b o, G.get? b = some o → h'.get? b = some o ∧ ∃ o1, sI.heap.get? b = some o1 := fun b o e => by
    cases q : (sI.heap.get? b).isSome with
    | false => rw [g2 b q] at e; cases e
    | true =>
      rw [g1 b q] at e
      exact ⟨e, Option.isSome_iff_exists.mp q⟩
  have ne3 : ∀ b o, s3.heap.get? b = some o → b ≠ s3.heap.objs.size := fun b o e => Nat.ne_of_lt (Heap.lt_size e)
  have base : Un (frs X.stack) fp H3 H5 s3.heap sI.heap := Ib.base
  have unG : Un (frs X.stack) fp H3 H5 s3.heap G := ⟨fun b o e n h1 h2 => by
      have q := base.keep b o e n h1 h2
      rw [gS b o q]
      exact keepI b o q h1 (ne3 b o e), fun b o e n h1 h2 => by
      obtain ⟨sl, q⟩ := base.slot b o e n h1 h2
      obtain ⟨sl', q'⟩ := frI b _ q h1
      exact ⟨sl', by rw [gS b _ q]; exact q'⟩, base.free, fun b o e h1 => by
      obtain ⟨o1, q⟩ := base.there b o e h1
      by_cases hb : b ∈ frs X.stack
      · obtain ⟨sl, q'⟩ := frI b _ q hb
        exact ⟨_, by rw [gS b _ q]; exact q'⟩
      · exact ⟨o1, by rw [gS b _ q]; exact keepI b o1 q hb (ne3 b o e)⟩, base.tups, base.frzs, base.tbls⟩
  have hokG : HOk X.prog X.w H5 G := fun b u e => by
    refine (Ib.hok b u e).stay (fun c v hc q => ?_) (fun _ q => q) fun _ _ q => q
    have hne : H5 c ≠ none := by
      rcases hc with z | z
      · rw [z, e]; simp
      · rw [z]; simp
    have n1 : c ∉ frs X.stack := fun z => hne (Ib.stkFree c z)
    have n2 : c ≠ s3.heap.objs.size := fun z => hne (by rw [z]; exact hC5)
    rw [gS c v q]
    exact keepI c v q n1 n2
  have IX : Inv X pins σ H5 { s' with heap := G } := I3.call' (ch := fp) (s' := { s' with heap := G }) (os.trans Ib.os) unG hokG ag fun b hb => ⟨(f3 b hb).2.2.2.1, (f3 b hb).2.1, (f3 b hb).2.2.2.2.1, (f3 b hb).2.2.2.2.2⟩
  unfold PySem.passOn
  obtain ⟨oe, vs, T, oT, ts, he, hz, hd, h1, hr⟩ := id tr
  refine wpAny_bind (wpAny_field he hd h1 ?_)
  rw [if_neg (show ¬ ((Value.ref T == Value.none) = true) from by simp)]
  have fin : wpAny (model X.prog X.w) X.A (setFlight (.ref a) X.env.frame) (fun _ s4 => wpAny (model X.prog X.w) X.A (throw (.ref a) : Sem Value) (fun _ _ => False) X.xe s4) X.xe { s' with heap := h' } := by
    rw [hf]
    refine HandSPX.setFlight_anyZ (l := X.env :: X.outer) sB (ff _ k3) tr fun h4 q1 q2 q3 up4 => wpAny_throw (tk _ _ ?_)
    refine ⟨a, B2, { s' with heap := G }, pins, σ, H5, cls, d, rfl, IX, fun b o e hb => ?_, fun b o e hnf => ?_, .inr (.inr ⟨q1, nB _ k2, by rw [hs]; exact q2, q3⟩), na, rfl, ag, hW _ _ _ _ w⟩
    · obtain ⟨e1, o1, e2⟩ := oG b o e
      rw [b1 b (by rw [nbX b o1 e2 hb]; rfl)]
      exact e1
    · obtain ⟨e1, _⟩ := oG b o e
      exact up4 b o e1 hnf
  first
    | exact wpAny_bind (wpAny_pure (wpAny_bind fin))
    | exact wpAny_bind fin
section
variable {X : Cx}
theorem lc_gen {C : Cx → Prop} {pins : List (Addr × Obj)} {s : Shared} {σ : L2.St} {H : Hp} {Q : VK} {elt tg iter : Expr} {ifs : List Expr} {scope : Scope} {own : List (Str × Nat)} {pos pos' : Pos} {wi : TI} {g : TG} {tt : TT} {te : WX → TE} {Wout : WX}
    (hsk : X.stack = X.env :: X.outer) (hf : X.env.frame = some X.env.locals) (tk : L2N.Takes X Wout)
    (hc : ∀ s H cenv fp xe, C (blkG X s H scope cenv fp xe)) (hN : X.N.Nodup) (I : Inv X pins σ H s) (hi : PIQ C X tg iter wi) (ok : BlkOk X.N X.env.scope scope own)
    (hg : ∀ (s : Shared) (H : Hp) (D : Addr) (cl : List (Str × Addr)) (fp : List Addr) (xe : Value → Shared → Prop), PG (blkG X s H scope (compEnvC scope cl D X.env) fp xe) tg g)
    (ht : ∀ (s : Shared) (H : Hp) (D : Addr) (cl : List (Str × Addr)) (fp : List Addr) (xe : Value → Shared → Prop), PTs (blkG X s H scope (compEnvC scope cl D X.env) fp xe) ifs tt)
    (he : ∀ (W : WX) (s : Shared) (H : Hp) (D : Addr) (cl : List (Str × Addr)) (fp : List Addr) (xe : Value → Shared → Prop), TakesB (blkG X s H scope (compEnvC scope cl D X.env) fp xe) W → PE (blkG X s H scope (compEnvC scope cl D X.env) fp xe) elt (te W)) (hs : ∀ x, foldedSetIterable iter X.env x = pure x)
    (h : tLc wi g tt (te fun cls d _ H' => Wout cls d σ H') (own.map (·.2)) σ H Q) :
    wpAny (model X.prog X.w) X.A (comprehension (.ListComp elt [⟨tg, iter, ifs, 0⟩] scope pos) scope X.env pos' (newList []) false (eval iter X.env) none) (EP X pins σ Q) X.xe s := by
  have hfree : ∀ y ∈ scope.names, y.2 = .free → ∃ c, X.env.cells.lookup y.1 = some c := fun y hy e => by
    rcases ok.free y hy e with k | k
    · exact I.ok.has _ (.inl k)
    · exact I.ok.has _ (.inr k)
  refine comprehension_freeF rfl hs (closure_ok hfree) ok.kind (fun y hy e => by rw [ok.uniq y hy, e])
    (thn (hi.run pins s σ H _ I h) fun xv s1 hx => thn hx fun itv s2 h2 => ?_)
  obtain ⟨it, fp, tn, J, H2, e, I2, T, st2, f2, q⟩ := h2
  subst e
  refine wpAny_newObj_type (newEnv_comp ⟨rfl, ?_⟩) (by show 0 ≤ sizeLine; decide)
  generalize hD : s2.heap.objs.size = D
  have hDn : H2 D = none := I2.hok.fresh (Nat.le_of_eq hD)
  obtain ⟨W, ⟨m0, w0⟩, turn⟩ := q D hDn
  generalize hs3 : ({ s2 with heap := s2.heap.push { cls := .type "list", data := .seq ([] : List Value).toArray } } : Shared) = s3
  have I3 : Inv X pins σ (upd H2 D (.lst [])) s3 := by
    rw [← hs3]
    refine I2.laid (t' := s2.toks) (fun b o e => Heap.get?_push_of_some _ e) (Nat.le_of_eq hD) ⟨Nat.zero_le _, [], 0, .nil, ?_⟩
    rw [← hD]
    exact Heap.get?_push_size _ rfl
  have h3 : s3.heap = s2.heap.push { cls := .type "list", data := .seq ([] : List Value).toArray } := by rw [← hs3]
  have sz : ∀ b ∈ fp, b < s2.heap.objs.size := fun b hb => by
    obtain ⟨o, e, _⟩ := T.obj _ _ st2 b hb
    exact Heap.lt_size e
  have f3 : ∀ b ∈ fp, FpOk X pins (upd H2 D (.lst [])) b ∧ b < s3.heap.objs.size := fun b hb => by
    have hlt := sz b hb
    refine ⟨⟨?_, (f2 b hb).2⟩, by rw [h3, Heap.size_push]; exact Nat.lt_succ_of_lt hlt⟩
    rw [upd_ne (by rw [← hD]; exact Nat.ne_of_lt hlt)]
    exact (f2 b hb).1
  have st3 : tn 0 s3.heap := T.keep _ _ _ st2 fun b _ o e => by rw [h3]; exact Heap.get?_push_of_some _ e
  have I40 := block_start I3 ok hN f3
  generalize hce : compEnvC scope (cellsFrom (s3.heap.objs.size + 1) scope.names (cloFrom X.env.cells scope.names [])) s3.heap.objs.size X.env = ce at I40
  have cL : ce.locals = s3.heap.objs.size := by subst hce; rfl
  have cF : ce.frame = X.env.frame := by subst hce; rfl
  show codeAny _ _ (.compStart (.ListComp elt [⟨tg, iter, ifs, 0⟩] scope pos) 0 (.ref it) (.ref D) (compEnvC scope (cellsFrom (s3.heap.objs.size + 1) scope.names (cloFrom X.env.cells scope.names [])) s3.heap.objs.size X.env)) (compPostF (model X.prog X.w) X.A X.xe (EP X pins σ Q) (.ref D) s3.heap.objs.size X.env) { s3 with heap := pushCells (s3.heap.push { cls := .type "dict", data := .dict #[] }) scope.names }
  have nfp : ∀ b ∈ fp, (upd H2 D (.lst [])) b = none := fun b hb => (f3 b hb).1.1
  generalize hH3 : upd H2 D (.lst []) = H3 at I3 I40 w0 nfp f3
  let W0 : WX := fun cls d _ H' => Wout cls d σ H'
  let xe0 : Value → Shared → Prop := fun u s' => XB (blkG X s3 H3 scope ce fp fun _ _ => False) W0 u s'
  have pg : PG (blkG X s3 H3 scope ce fp xe0) tg g := by subst hce; exact hg _ _ _ _ _ _
  have pt : PTs (blkG X s3 H3 scope ce fp xe0) ifs tt := by subst hce; exact ht _ _ _ _ _ _
  have pe : PE (blkG X s3 H3 scope ce fp xe0) elt (te W0) := by subst hce; exact he W0 _ _ _ _ _ _ fun u s' x => x
  have hc' : C (blkG X s3 H3 scope ce fp xe0) := hc _ _ _ _ _
  rw [hce]
  generalize hs4 : ({ s3 with heap := pushCells (s3.heap.push { cls := .type "dict", data := .dict #[] }) scope.names } : Shared) = s4 at I40 ⊢
  have kp4 : ∀ b o, s3.heap.get? b = some o → s4.heap.get? b = some o := fun b o e => by rw [← hs4]; exact pushCells_keeps _ _ _ _ (Heap.get?_push_of_some _ e)
  have I4 : Inv (blkG X s3 H3 scope ce fp xe0) [] (wipe σ (own.map (·.2))) H3 s4 := inv_blkG I40 fun p hp => by
    obtain ⟨p1, p2, p3, p4, p5⟩ := I3.pin p (List.mem_append_left _ hp)
    refine ⟨kp4 _ _ p1, p2, by rw [cL]; exact Nat.ne_of_lt (Heap.lt_size p1), fun z => ?_, p5⟩
    rcases List.mem_cons.mp (I3.stkSub _ z) with z | z
    · exact p3 z
    · exact p4 z
  have st4 : tn 0 s4.heap := T.keep _ _ _ st3 fun b _ o e => kp4 b o e
  have fpn : ∀ b ∈ fp, ∀ p ∈ X.pn, p.1 ≠ b := fun b hb p hp => (f3 b hb).1.2.2.2.2.2 p (List.mem_append_left _ hp)
  have stat : ∀ {σ' : L2.St} {H' : Hp} {s' : Shared}, Inv (blkG X s3 H3 scope ce fp xe0) [] σ' H' s' → (∀ b ∈ fp, H' b = none) → ∀ b ∈ fp, FpOk (blkG X s3 H3 scope ce fp xe0) [] H' b := fun {σ' H' s'} I' hn b hb =>
    ⟨hn b hb, (I'.ok.exf b hb).1, I'.ok.exfs b hb, .inl hb, fun x c e => (I'.ok.exf b hb).2 x c e, fun p hp => fpn b hb p (by simpa using (show p ∈ X.pn ++ [] from hp))⟩
  have errL : ∀ u s', xe0 u s' → notedBy (model X.prog X.w) X.A ce (fun e s' => compPostF (model X.prog X.w) X.A X.xe (EP X pins σ Q) (.ref D) s3.heap.objs.size X.env (.error e) s') u s' := fun u s' x =>
    errB hsk hf tk I3 cF cL (fun b hb => (f3 b hb).1) (fun cls d σ' H' z => z) x
  have loop : codeAny (model X.prog X.w) X.A (.compLoop (.ListComp elt [⟨tg, iter, ifs, 0⟩] scope pos) 0 (.ref it) (.ref D) ce) (compPostF (model X.prog X.w) X.A X.xe (EP X pins σ Q) (.ref D) s3.heap.objs.size X.env) s4 := by
    refine compLoop_any (fun n s' => ∃ i H', Inv (blkG X s3 H3 scope ce fp xe0) [] (wipe σ (own.map (·.2))) H' s' ∧ tn i s'.heap ∧ (∀ b ∈ fp, H' b = none) ∧ W i n H') ?_ m0 ⟨0, H3, I4, st4, nfp, w0⟩
    rintro n s5 ⟨i, H5, I5, st5, n5, w5⟩
    rcases turn i n H5 w5 with ⟨stop, qq⟩ | ⟨go, Nx, hNx, step⟩
    · have td := T.done (blkG X s3 H3 scope ce fp xe0) rfl rfl rfl hc' i [] s5 _ H5 (fun _ _ => False) I5 (stat I5 n5) st5 stop
      refine thnF td fun r s6 ⟨hr, I6⟩ => ?_
      subst hr
      have I7 : Inv X pins σ H5 s6 := I3.call' (ch := fp) I6.os I6.base I6.hok I6.bare fun b hb => ⟨(f3 b hb).1.2.2.2.1, (f3 b hb).1.2.1, (f3 b hb).1.2.2.2.2.1, (f3 b hb).1.2.2.2.2.2⟩
      have nC : H5 s3.heap.objs.size = none := by
        have z : H5 ce.locals = none := I6.free
        rw [cL] at z
        exact z
      obtain ⟨m, hn, _⟩ := I6.loc
      have hn : s6.heap.Ns ce.locals m := hn
      rw [cL] at hn
      refine ⟨m, hn, fun h'' sb => ?_⟩
      obtain ⟨f0, f1, f2, f3, f4, f5⟩ := I3.fpOk (Nat.le_refl _) nC
      exact ⟨.ref D, H5, I7.turned (t' := s6.toks) (fun b o hb e => (sb.2 b hb).trans e) f0 f1 f3 f4 f5, rfl, qq⟩
    · have ti := T.item (blkG X s3 H3 scope ce fp xe0) rfl rfl rfl hc' i [] s5 _ H5 (fun _ _ => False) I5 (stat I5 n5) st5 go
      refine thnF ti fun r s6 ⟨u, hr, h6⟩ => ?_
      subst hr
      refine thnF h6 fun _ s7 ⟨x, H7, I7, r7, y7, st7, n7⟩ => ?_
      have I7' := I7.pinned (stat I7 n7) (T.obj _ _ st7)
      refine wpAny_mono (pg.run _ s7 _ H7 x u _ I7' r7 (step x H7 y7)) (fun _ s8 ⟨σ8, H8, I8, hw8, q8⟩ => ?_) errL
      refine wpAny_mono (pt.run _ s8 σ8 H8 _ I8 q8) (fun b s9 ⟨H9, I9, q9⟩ => ?_) errL
      have fin : ∀ {s' : Shared} {H' : Hp}, Inv (blkG X s3 H3 scope ce fp xe0) ([] ++ pinsAt fp s7.heap) σ8 H' s' → Nx H' → ∃ m, m < n ∧ ∃ i H', Inv (blkG X s3 H3 scope ce fp xe0) [] (wipe σ (own.map (·.2))) H' s' ∧ tn i s'.heap ∧ (∀ b ∈ fp, H' b = none) ∧ W i m H' := fun {s' H'} I' nx => by
        obtain ⟨m', hm, w'⟩ := hNx H' nx
        have pin' : ∀ b ∈ fp, ∀ o, s7.heap.get? b = some o → s'.heap.get? b = some o ∧ H' b = none := fun b hb o e =>
          let z := I'.pin (b, o) (List.mem_append_right _ (List.mem_append_right _ (mem_pinsAt hb e)))
          ⟨z.1, z.2.1⟩
        have hl : (wipe σ (own.map (·.2))).length = σ8.length := by rw [← hw8, wipe_length]
        refine ⟨m', hm, i + 1, H', (I'.unpinned (pins := [])).weak hl (fun j v e => ?_), T.keep _ _ _ st7 fun b hb o e => (pin' b hb o e).1, fun b hb => ?_, w'⟩
        · rw [← hw8] at e
          exact (wipe_some e).1
        · obtain ⟨o, e, _⟩ := T.obj _ _ st7 b hb
          exact (pin' b hb o e).2
      cases b with
      | false =>
        simp only [Bool.false_eq_true, if_false] at q9 ⊢
        exact fin I9 q9
      | true =>
        simp only [if_true] at q9 ⊢
        refine wpAny_mono (pe.run _ s9 σ8 H9 _ I9 q9) (fun z s10 ⟨yv, H10, I10, r10, acc, hD10, hz10, nx⟩ => ?_) errL
        exact app_ok (X := blkG X s3 H3 scope ce fp xe0) I10 hD10 hz10 r10 fun s11 I11 => fin I11 nx
  exact codeAny_compStart_list loop (T.self X.A 0 _ _ _ st4 loop)
/-- as a value, the element may raise -/
theorem pe_lcE {elt tg iter : Expr} {ifs : List Expr} {scope : Scope} {own : List (Str × Nat)} {pos : Pos} {wi : TI} {g : TG} {tt : TT} {te : WX → TE} {Wout : WX}
    (hsk : X.stack = X.env :: X.outer) (hf : X.env.frame = some X.env.locals) (tk : L2N.Takes X Wout) (hc : X.calm = true) (hN : X.N.Nodup) (hi : PI X tg iter wi) (ok : BlkOk X.N X.env.scope scope own)
    (hg : ∀ (s : Shared) (H : Hp) (D : Addr) (cl : List (Str × Addr)) (fp : List Addr) (xe : Value → Shared → Prop), PG (blkG X s H scope (compEnvC scope cl D X.env) fp xe) tg g)
    (ht : ∀ (s : Shared) (H : Hp) (D : Addr) (cl : List (Str × Addr)) (fp : List Addr) (xe : Value → Shared → Prop), PTs (blkG X s H scope (compEnvC scope cl D X.env) fp xe) ifs tt)
    (he : ∀ (W : WX) (s : Shared) (H : Hp) (D : Addr) (cl : List (Str × Addr)) (fp : List Addr) (xe : Value → Shared → Prop), TakesB (blkG X s H scope (compEnvC scope cl D X.env) fp xe) W → PE (blkG X s H scope (compEnvC scope cl D X.env) fp xe) elt (te W)) (hs : ∀ x, foldedSetIterable iter X.env x = pure x := by intro _; rfl) :
    PE X (.ListComp elt [⟨tg, iter, ifs, 0⟩] scope pos) (fun σ H Q => tLc wi g tt (te fun cls d _ H' => Wout cls d σ H') (own.map (·.2)) σ H Q) := by
  refine ⟨fun pins s σ H Q I h => ?_⟩
  rw [eval_ListComp]
  exact lc_gen (C := Calm) hsk hf tk (fun _ _ _ _ _ => hc) hN I (.of hi) ok hg ht he hs h
/-- as a value, in an except suite -/
theorem pe_lcH {elt tg iter : Expr} {ifs : List Expr} {scope : Scope} {own : List (Str × Nat)} {pos : Pos} {wi : TI} {g : TG} {tt : TT} {te : TE}
    (hsk : X.stack = X.env :: X.outer) (hf : X.env.frame = some X.env.locals) (hc : L2H.HotC X) (hN : X.N.Nodup) (hi : L2H.PIH X tg iter wi) (ok : BlkOk X.N X.env.scope scope own)
    (hg : ∀ (s : Shared) (H : Hp) (D : Addr) (cl : List (Str × Addr)) (fp : List Addr) (xe : Value → Shared → Prop), PG (blkG X s H scope (compEnvC scope cl D X.env) fp xe) tg g)
    (ht : ∀ (s : Shared) (H : Hp) (D : Addr) (cl : List (Str × Addr)) (fp : List Addr) (xe : Value → Shared → Prop), PTs (blkG X s H scope (compEnvC scope cl D X.env) fp xe) ifs tt)
    (he : ∀ (s : Shared) (H : Hp) (D : Addr) (cl : List (Str × Addr)) (fp : List Addr) (xe : Value → Shared → Prop), PE (blkG X s H scope (compEnvC scope cl D X.env) fp xe) elt te) (hs : ∀ x, foldedSetIterable iter X.env x = pure x := by intro _; rfl) :
    PE X (.ListComp elt [⟨tg, iter, ifs, 0⟩] scope pos) (tLc wi g tt te (own.map (·.2))) := by
  refine ⟨fun pins s σ H Q I h => ?_⟩
  rw [eval_ListComp]
  refine lc_gen (C := L2H.HotC) (Wout := fun _ _ _ _ => False) (te := fun _ => te) hsk hf (fun _ _ x => ?_) (fun _ _ _ _ _ => hc) hN I (.ofH hi) ok hg ht (fun _ s H D cl fp xe _ => he s H D cl fp xe) hs h
  obtain ⟨_, _, _, _, _, _, _, _, _, _, _, _, _, _, _, _, z⟩ := x
  exact z.elim
end
end KR
/-! Lambdas with a default, handed to a def that calls them. -/
namespace KR
open PySem PySem.Spec PyProof.Rows PySem.W LamX
abbrev lamFn (name qual : Str) (params : Arguments) (body : Expr) (scope : Scope) (cl : List (Str × Addr)) (pm cdv ct dv : Value) : FuncData := { kla_fn name qual params body scope cl pm cdv ct with defaults := dv }
abbrev lamObj (name qual : Str) (params : Arguments) (body : Expr) (scope : Scope) (clos : List (Str × Addr)) (pm cv ctv dv : Value) : Obj := { cls := .type "function", data := .func (lamFn name qual params body scope clos pm cv ctv dv) }
section
variable {M : Model} {A : Around} {E : Value → Shared → Prop} {s : Shared} {name qual : Str} {params : Arguments} {body : Expr} {scope : Scope} {env : Env} {c P : Addr} {ps : Array Value} {pos : Pos} {firstLine : Nat} {mg : Str → Option Value}
  {clos : List (Str × Addr)} {Q : Value → Shared → Prop} {dv : Value}
theorem lamTail (hcl : closureFor scope env = pure clos) (hge0 : env.globals = mainGlobals) (hg : s.heap.Ns mainGlobals mg) (hcode : env.code = .ref c) (C : CodeHd s.heap c P) (hP : s.heap.get? P = some (tabObj ps)) (ht : TriplesOk ps.toList)
    (hnf : codeAmong pos ps.toList = none) (hgP : mainGlobals ≠ P) (hb : s.heap.BuiltinsAt mg P)
    (h : ∀ c' ctv h' tk, Heap.ExtBut P s.heap h' → s.heap.objs.size ≤ c' → c' < h'.objs.size → h'.CodeRec (.ref c') qual → h'.get? P = some (tabObj (ps ++ #[rawInt pos.line, rawInt pos.col, .ref c'])) →
      Q (.ref h'.objs.size) { s with heap := h'.push (lamObj name qual params body scope clos ((mg "__name__").getD .none) (.ref c') ctv dv), toks := tk }) :
    wpAny M A (makeTail name qual params (.expr body) scope env dv .none none pos firstLine) Q E s := by
  obtain ⟨bm, ob, hbm, hne0, _, hneP, hbo, hcls, hdict, hdata⟩ := hb
  unfold makeTail
  rw [hcl, hge0]
  refine wpAny_bind (wpAny_pure ?_)
  cases clos with
  | nil =>
    simp only [List.isEmpty_nil, if_true]
    refine wpAny_bind (wpAny_pure ?_)
    refine wpAny_bind (wpAny_functionCodeX hcode (C.code hP ht) (C.tab hP) hnf fun c' h' tk hx hge hlt _ hrec htb _ => ?_)
    have hg' := hg.extBut hx hgP
    refine wpAny_bind (wpAny_builtinsFor hg' hbm hne0 (hx _ _ hneP hbo) hcls hdict hdata ?_)
    refine wpAny_bind (wpAny_nsGet hg' ?_)
    exact wpAny_bind (wpAny_pure (wpAny_newObj_type (h c' .none h' tk hx hge hlt hrec htb.2) (by size_fits)))
  | cons q r =>
    simp only [List.isEmpty_cons, Bool.false_eq_true, if_false]
    refine wpAny_bind (wpAny_newTextTuple ?_)
    refine wpAny_bind (wpAny_functionCodeX hcode ((C.keeps fun b o e => Heap.get?_push_of_some _ e).code (Heap.get?_push_of_some _ hP) ht) ((C.keeps fun b o e => Heap.get?_push_of_some _ e).tab (Heap.get?_push_of_some _ hP)) hnf fun c' h' tk hx hge hlt _ hrec htb _ => ?_)
    have hg' := (hg.push _).extBut hx hgP
    have hx' : Heap.ExtBut P s.heap h' := fun b o hb' e => hx b o hb' (Heap.get?_push_of_some _ e)
    have hge' : s.heap.objs.size ≤ c' := Nat.le_trans (by rw [Heap.size_push]; omega) hge
    refine wpAny_bind (wpAny_builtinsFor hg' hbm hne0 (hx' _ _ hneP hbo) hcls hdict hdata ?_)
    refine wpAny_bind (wpAny_nsGet hg' ?_)
    exact wpAny_bind (wpAny_pure (wpAny_newObj_type (h c' _ h' tk hx' hge' hlt hrec htb.2) (by size_fits)))
theorem lamTailHit {cv : Value} (hcl : closureFor scope env = pure clos) (hge0 : env.globals = mainGlobals) (hg : s.heap.Ns mainGlobals mg) (hcode : env.code = .ref c) (C : CodeHd s.heap c P) (hP : s.heap.get? P = some (tabObj ps)) (ht : TriplesOk ps.toList)
    (hf : codeAmong pos ps.toList = some cv) (hb : s.heap.BuiltinsAt mg P)
    (h : ∀ (ctv : Value) (h' : Heap) (tk : Tok), (∀ b o, s.heap.get? b = some o → h'.get? b = some o) → s.heap.objs.size ≤ h'.objs.size →
      Q (.ref h'.objs.size) { s with heap := h'.push (lamObj name qual params body scope clos ((mg "__name__").getD .none) cv ctv dv), toks := tk }) :
    wpAny M A (makeTail name qual params (.expr body) scope env dv .none none pos firstLine) Q E s := by
  obtain ⟨bm, ob, hbm, hne0, _, hneP, hbo, hcls, hdict, hdata⟩ := hb
  unfold makeTail
  rw [hcl, hge0]
  refine wpAny_bind (wpAny_pure ?_)
  cases clos with
  | nil =>
    simp only [List.isEmpty_nil, if_true]
    refine wpAny_bind (wpAny_pure ?_)
    refine wpAny_bind (wpAny_functionCode_hit hcode (C.code hP ht) hf ?_)
    refine wpAny_bind (wpAny_builtinsFor hg hbm hne0 hbo hcls hdict hdata ?_)
    refine wpAny_bind (wpAny_nsGet hg ?_)
    exact wpAny_bind (wpAny_pure (wpAny_newObj_type (h .none s.heap s.toks (fun _ _ e => e) (Nat.le_refl _)) (by size_fits)))
  | cons q r =>
    simp only [List.isEmpty_cons, Bool.false_eq_true, if_false]
    refine wpAny_bind (wpAny_newTextTuple ?_)
    refine wpAny_bind (wpAny_functionCode_hit hcode ((C.keeps fun b o e => Heap.get?_push_of_some _ e).code (Heap.get?_push_of_some _ hP) ht) hf ?_)
    refine wpAny_bind (wpAny_builtinsFor (hg.push _) hbm hne0 (Heap.get?_push_of_some _ hbo) hcls hdict hdata ?_)
    refine wpAny_bind (wpAny_nsGet (hg.push _) ?_)
    have hsz : ∀ oT : Obj, s.heap.objs.size ≤ (s.heap.push oT).objs.size := fun oT => by rw [Heap.size_push]; omega
    exact wpAny_bind (wpAny_pure (wpAny_newObj_type (h _ _ s.toks (fun b o e => Heap.get?_push_of_some _ e) (hsz _)) (by size_fits)))
end
section
variable {M : Model} {A : Around} {E : Value → Shared → Prop} {s : Shared} {params : Arguments} {body : Expr} {scope : Scope} {env : Env} {pos : Pos} {Q : Value → Shared → Prop}
theorem lam_fun1 {name qual : Str} {v : Value} {firstLine : Nat} (h : wpAny M A (makeTail name qual params (.expr body) scope env (.ref s.heap.objs.size) .none none pos firstLine) Q E { s with heap := s.heap.push { cls := .type "tuple", data := .seq #[v] } }) :
    wpAny M A (makeFunction name qual params (.expr body) scope env [v] [] [] pos firstLine) Q E s := by
  rw [makeFunction_eq]
  simp only [List.zip_nil_right, List.filterMap_nil, List.isEmpty_nil, List.isEmpty_cons, Bool.false_eq_true, if_true, if_false, pure_bind]
  exact wpAny_bind (wpAny_newTextTuple h)
theorem lam_eval1 {de : Sem Value} (hdef : defaultsOf params env = ([de], []))
    (h : wpAny M A de (fun v s' => wpAny M A (makeFunction "<lambda>" (env.qual ++ "<lambda>") params (.expr body) scope env [v] [] [] pos pos.line) Q E s') E s) :
    wpAny M A (eval (.Lambda params body scope pos) env) Q E s := by
  rw [arm_eval_Lambda, hdef]
  show wpAny M A (do let dv ← evalAll [de]; let kdv ← holding dv (evalAllOpt []); makeFunction "<lambda>" (env.qual ++ "<lambda>") params (.expr body) scope env dv kdv [] pos pos.line) Q E s
  refine wpAny_bind ?_
  show wpAny M A (do let v ← de; return v :: (← holding [v] (evalAll []))) _ E s
  refine wpAny_bind (wpAny_mono h (fun v s' q => ?_) fun _ _ z => z)
  exact wpAny_bind (wpAny_holding (wpAny_pure (wpAny_pure (wpAny_bind (wpAny_holding (wpAny_pure q))))))
end
end KR
namespace KR
open PySem PySem.Spec PyProof.Rows L2 LamX
section
variable {X : Cx} {pins : List (Addr × Obj)} {σ : L2.St} {H : Hp} {s : Shared}
/-- the lambda is made: its code object is new, or found in the table -/
theorem lam_tail3 {T : List (Addr × Str)} {c P : Addr} {params : Arguments} {body : Expr} {scope : Scope} {pos : Pos} {E : Value → Shared → Prop} {Q : Value → Shared → Prop} {dv : Value} (I : Inv X pins σ H s) (TB : TabB X.base X.mg c P) (hcode : X.env.code = .ref c)
    (hm : (P, X.env.qual ++ "<lambda>") ∈ T) (hu : ∀ p ∈ T, p.1 = P → p.2 = X.env.qual ++ "<lambda>") (hT : Tabs T H) (hfree : ∀ y ∈ scope.names, y.2 = .free → ∃ c, X.env.cells.lookup y.1 = some c)
    (h : ∀ (f c' : Addr) (pm ctv : Value) (H1 : Hp) (s' : Shared), Inv X pins σ H1 s' → (∀ b o, (∀ q, H b ≠ some (.tbl q)) → s.heap.get? b = some o → s'.heap.get? b = some o) → (∀ b, s.heap.get? b ≠ none → H b = none → H1 b = none) → ExtN H H1 → Tabs T H1 →
      s'.heap.get? f = some (lamObj "<lambda>" (X.env.qual ++ "<lambda>") params body scope (cloFrom X.env.cells scope.names []) pm (.ref c') ctv dv) → H1 f = none → f ∉ frs X.stack → H1 c' = some (CodeO c' (X.env.qual ++ "<lambda>")) → Q (.ref f) s') :
    wpAny (model X.prog X.w) X.A (makeTail "<lambda>" (X.env.qual ++ "<lambda>") params (.expr body) scope X.env dv .none none pos pos.line) Q E s := by
  obtain ⟨ps, hP, ht, ha⟩ := hT _ hm
  have bP : s.heap.BuiltinsAt X.mg P := TB.bm.keeps I.bk
  have hP' : s.heap.get? P = some { cls := .none, data := .fields ps } := I.hok P _ hP
  have nofr : ∀ f, s.heap.objs.size ≤ f → f ∉ frs X.stack := fun f hf z => by
    rcases List.mem_cons.mp (I.stkSub _ z) with e | e
    · have h1 := I.lt
      rw [← e] at h1
      exact Nat.lt_irrefl _ (Nat.lt_of_lt_of_le h1 hf)
    · exact I.nofs hf e
  cases hc : codeAmong pos ps.toList with
  | none =>
    refine lamTail (mg := X.mg) (c := c) (P := P) (ps := ps) (closure_ok hfree) I.ok.glob (I.mod.glob.keeps I.bk) hcode (TB.code.keeps I.bk) hP' ht hc TB.gP bP fun c' ctv h' tk hx hge hlt hrec htb => ?_
    obtain ⟨c2, oc, vs, t, e2, hoc, hd, hv⟩ := hrec
    cases e2
    have hsz : s.heap.objs.size ≤ h'.objs.size := Nat.le_trans hge (Nat.le_of_lt hlt)
    have nC : H c' = none := I.hok.fresh hge
    have I1 := inv_table (t' := tk) (more := #[rawInt pos.line, rawInt pos.col, .ref c']) (h' := h'.push (lamObj "<lambda>" (X.env.qual ++ "<lambda>") params body scope (cloFrom X.env.cells scope.names []) ((X.mg "__name__").getD .none) (.ref c') ctv dv)) I hP
      (fun b o hb e => Heap.get?_push_of_some _ (hx b o hb e)) (Heap.get?_push_of_some _ htb) hge ⟨oc, vs, t, Heap.get?_push_of_some _ hoc, hd, hv⟩
    have hE : ExtN H (upd (upd H P (.tbl (ps ++ #[rawInt pos.line, rawInt pos.col, .ref c']))) c' (CodeO c' (X.env.qual ++ "<lambda>"))) := fun b o e n => by
      rw [upd_ne (ne_of_none e nC), upd_ne (fun z => n ps (Option.some.inj (e.symm.trans (by rw [z]; exact hP))))]
      exact e
    have eL : (ps ++ #[rawInt pos.line, rawInt pos.col, .ref c']).toList = ps.toList ++ [rawInt pos.line, rawInt pos.col, .ref c'] := by simp
    refine h h'.objs.size c' ((X.mg "__name__").getD .none) ctv _ _ I1 (fun b o nq e => Heap.get?_push_of_some _ (hx b o (fun z => nq ps (z ▸ hP)) e)) (fun b hb n => ?fr) hE (fun p hp => ?_) (Heap.get?_push_size _ rfl) ?_ (nofr _ hsz) upd_same
    case fr =>
      have hlt' : b < s.heap.objs.size := by
        cases e : s.heap.get? b with
        | none => exact absurd e hb
        | some o => exact Heap.lt_size e
      rw [upd_ne (Nat.ne_of_lt (Nat.lt_of_lt_of_le hlt' hge)), upd_ne (fun z => by rw [z, hP] at n; cases n)]
      exact n
    · by_cases hb : p.1 = P
      · rw [hu p hp hb, hb]
        refine ⟨_, by rw [upd_ne (ne_of_none hP nC), upd_same], by rw [eL]; exact PySem.TriplesOk_snoc _ _ _ _ ht, fun p' cv hcv => ?_⟩
        rw [eL] at hcv
        rcases among_app _ ht hcv with z | z
        · obtain ⟨c0, e1, e2⟩ := ha p' cv z
          exact ⟨c0, e1, hE _ _ e2 codeO_ne⟩
        · exact ⟨c', z, upd_same⟩
      · obtain ⟨ps', a1, a2, a3⟩ := hT p hp
        refine ⟨ps', by rw [upd_ne (ne_of_none a1 nC), upd_ne hb]; exact a1, a2, fun p' cv hcv => ?_⟩
        obtain ⟨c0, e1, e2⟩ := a3 p' cv hcv
        exact ⟨c0, e1, hE _ _ e2 codeO_ne⟩
    · have n1 : h'.objs.size ≠ c' := Nat.ne_of_gt hlt
      have n2 : h'.objs.size ≠ P := Nat.ne_of_gt (Nat.lt_of_lt_of_le (Heap.lt_size hP') hsz)
      rw [upd_ne n1, upd_ne n2]
      exact I.hok.fresh hsz
  | some cv =>
    obtain ⟨c', e, hco⟩ := ha pos cv hc
    subst e
    refine lamTailHit (mg := X.mg) (c := c) (P := P) (ps := ps) (closure_ok hfree) I.ok.glob (I.mod.glob.keeps I.bk) hcode (TB.code.keeps I.bk) hP' ht hc bP fun ctv h' tk hx hsz => ?_
    have I1 : Inv X pins σ H { s with heap := h'.push (lamObj "<lambda>" (X.env.qual ++ "<lambda>") params body scope (cloFrom X.env.cells scope.names []) ((X.mg "__name__").getD .none) (.ref c') ctv dv), toks := tk } := I.kept fun b o e => Heap.get?_push_of_some _ (hx b o e)
    exact h h'.objs.size c' ((X.mg "__name__").getD .none) ctv H _ I1 (fun b o _ e => Heap.get?_push_of_some _ (hx b o e)) (fun _ _ n => n) (ExtN.refl H) hT (Heap.get?_push_size _ rfl) (I.hok.fresh hsz) (nofr _ hsz) hco
end
/-! ### the lambda's names -/
/-- no parameter, no name of its own: captured ones and globals -/
structure LamP (N : List Str) (sc scope : Scope) : Prop where
  kind : scope.kind = .function
  co : scope.isCoroutine = false
  gen : scope.isGenerator = false
  own : ∀ y ∈ scope.names, y.2 = .local → y.1 ∉ N
  noc : ∀ y ∈ scope.names, y.2 ≠ .cell
  free : ∀ y ∈ scope.names, y.2 = .free → sc.names.lookup y.1 = some .cell ∨ sc.names.lookup y.1 = some .free
def lamPB (N : List Str) (sc scope : Scope) : Bool :=
  decide (scope.kind = .function) && !scope.isCoroutine && !scope.isGenerator && scope.names.all fun y => (!decide (y.2 = .local) || !N.contains y.1) && !decide (y.2 = .cell) && (!decide (y.2 = .free) || decide (sc.names.lookup y.1 = some .cell) || decide (sc.names.lookup y.1 = some .free))
theorem lamP_by {N : List Str} {sc scope : Scope} (h : lamPB N sc scope = true) : LamP N sc scope := by
  unfold lamPB at h
  simp only [Bool.and_eq_true, Bool.or_eq_true, Bool.not_eq_true', decide_eq_true_eq, decide_eq_false_iff_not, List.all_eq_true] at h
  obtain ⟨⟨⟨h1, h2⟩, h3⟩, h4⟩ := h
  refine ⟨h1, h2, h3, fun y hy e => ?_, fun y hy => (h4 y hy).1.2, fun y hy e => ?_⟩
  · rcases (h4 y hy).1.1 with z | z
    · exact absurd e z
    · intro hm
      rw [List.contains_iff_mem.mpr hm] at z
      cases z
  · rcases (h4 y hy).2 with (z | z) | z
    · exact absurd e z
    · exact .inl z
    · exact .inr z
theorem LamP.has {X : Cx} {scope : Scope} (L : LamP X.N X.env.scope scope) (ok : X.Ok) : ∀ y ∈ scope.names, y.2 = .free → ∃ c, X.env.cells.lookup y.1 = some c := fun y hy e => by
  rcases L.free y hy e with k | k
  · exact ok.has _ (.inl k)
  · exact ok.has _ (.inr k)
abbrev lamEnvX (X : Cx) (scope : Scope) (L f c' : Addr) : Env := PySem.W.envX (X.env.qual ++ "<lambda>") scope L f (.ref c') (cloFrom X.env.cells scope.names [])
/-- the context of the lambda's body, entered at s from the frames outer -/
def lamCxX (X : Cx) (A : Around) (outer : List Env) (s : Shared) (H : Hp) (E : XK) (scope : Scope) (f c' : Addr) : Cx where
  prog := X.prog
  w := X.w
  K := X.K
  mg := X.mg
  base := X.base
  A := A.deeper (lamEnvX X scope s.heap.objs.size f c')
  N := X.N
  s_0 := s
  H_0 := H
  env := lamEnvX X scope s.heap.objs.size f c'
  outer := outer
  stack := lamEnvX X scope s.heap.objs.size f c' :: outer
  ex := []
  fn := fun _ => false
  calm := true
  pn := []
  xe := fun e s' => wpAny (model X.prog X.w) (A.deeper (lamEnvX X scope s.heap.objs.size f c')) (leaving (lamEnvX X scope s.heap.objs.size f c') e) (fun _ s'' => L2N.CX X.prog X.w outer H s E e s'') (fun e' s'' => L2N.CX X.prog X.w outer H s E e' s'') s'
section
variable {X : Cx} {pins : List (Addr × Obj)} {σ : L2.St} {H HZ : Hp} {s s1 : Shared}
theorem lam_start3 {A : Around} {outer : List Env} {E : XK} {scope : Scope} {f c' : Addr} {h₁ : Heap} {tk : Nat} {mb : Str → Option Value} (I : Inv X pins σ H s) (L : LamP X.N X.env.scope scope) (e0 : Env0 X.prog X.w X.K X.mg X.base A outer s1 HZ) (hd : A.handled = none)
    (un : Un (frs X.stack) [] H HZ s.heap s1.heap) (hns : h₁.Ns s1.heap.objs.size mb) (kp : ∀ b o, s1.heap.get? b = some o → h₁.get? b = some o) :
    Inv (lamCxX X A outer s1 HZ E scope f c') [] σ HZ { s1 with heap := h₁, toks := tk } := by
  have hfree := L.has I.ok
  have cm : ∀ {y c}, (cloFrom X.env.cells scope.names []).lookup y = some c → X.env.cells.lookup y = some c := fun {y c} e => by
    rcases cloFrom_mem (PySem.mem_of_lookup e) with hm | ⟨h1, h2⟩
    · cases hm
    · obtain ⟨c1, hc⟩ := hfree _ h1 rfl
      have hc : X.env.cells.lookup y = some c1 := hc
      have e2 : c = c1 := by
        rw [h2, hc] <;> rfl
      rw [e2]
      exact hc
  have look : ∀ {y}, scope.names.lookup y = some .free → ∃ c, (cloFrom X.env.cells scope.names []).lookup y = some c := fun {y} hl => by
    have hy : (y, NameKind.free) ∈ scope.names := PySem.mem_of_lookup hl
    exact mem_lookup (cloFrom_has (cells := X.env.cells) (acc := []) hy)
  have cellK : ∀ {c : Addr} {v : Option Value}, H c = none → s.heap.IsCell c v → h₁.IsCell c v := fun {c v} n ⟨o, ho, hd⟩ => by
    obtain ⟨sl, q⟩ := un.any ho n (by simp)
    exact ⟨_, kp _ _ q, hd⟩
  have noA : ∀ b : Addr, b ∉ (lamCxX X A outer s1 HZ E scope f c').ex := fun b z => absurd (show b ∈ ([] : List Addr) from z) (by simp)
  refine ⟨⟨e0.mod, L.kind, rfl, rfl, Nat.le_refl _, fun y z c e1 e2 => I.ok.inj y z c (cm e1) (cm e2), fun y hy => ?_, fun y c z _ => ?_, fun _ => hd, Around.frames_deeper e0.frames, .inr ⟨rfl, rfl⟩, fun b z => absurd z (noA b), e0.bs, e0.bsz, fun b _ _ => noA b,
      fun b z => absurd z (noA b), e0.funs, e0.frf⟩,
    rfl, e0.bare, Un.kept kp, ⟨_, hns, fun i y v e1 e2 e3 => ?_⟩, fun y c e => ?_, e0.hok.fresh (Nat.le_refl _), fun y c e => ?_, fun q hq => absurd (show q ∈ ([] : List (Addr × Obj)) ++ [] from hq) (by simp), e0.hok.kept kp, I.len⟩
  · have hy : scope.names.lookup y = some .cell ∨ scope.names.lookup y = some .free := hy
    rcases hy with hy | hy
    · exact absurd rfl (L.noc _ (PySem.mem_of_lookup hy))
    · exact look hy
  · have z : false = true := z
    cases z
  · have e3 : Vis scope y := e3
    rcases e3 with k | k | k
    · exact absurd (List.mem_of_getElem? e1) (L.own _ (PySem.mem_of_lookup k) rfl)
    · exact absurd rfl (L.noc _ (PySem.mem_of_lookup k))
    · obtain ⟨m, hn, hl⟩ := I.loc
      have hvis : Vis X.env.scope y := (L.free _ (PySem.mem_of_lookup k) rfl).elim (fun k => .inr (.inl k)) (fun k => .inr (.inr k))
      obtain ⟨w', r, q⟩ := hl i y v e1 e2 hvis
      obtain ⟨c2, h2⟩ := look k
      refine ⟨w', r, .inr ⟨.inr k, c2, h2, ?_⟩⟩
      have c1 := cm h2
      rcases q with ⟨k', _⟩ | ⟨_, c3, e', z⟩
      · have k' : X.env.scope.names.lookup y = some .local := k'
        rcases L.free _ (PySem.mem_of_lookup k) rfl with k2 | k2 <;> rw [show X.env.scope.names.lookup y = _ from k2] at k' <;> cases k'
      · rw [c1] at e'
        cases e'
        exact cellK (I.freeC y _ c1) z
  · obtain ⟨w', z⟩ := I.cell y c (cm e)
    exact ⟨w', cellK (I.freeC y c (cm e)) z⟩
  · obtain ⟨v, o, ho, hd⟩ := I.cell y c (cm e)
    exact un.free c o ho (I.freeC y c (cm e)) (by simp)
/-- x(), in the def that got the lambda: Z is that def's context, entered at s -/
theorem pe_act3 {CXg : CXT} {Eg : XK} {Ng : List Str} {qg : Str} {sg : Scope} {g f c' : Addr} {cdg pm ctv : Value} {params : Arguments} {body : Expr} {scope : Scope} {k i : Nat} {a : Str} {pn : List (Addr × Obj)} {xe : Value → Shared → Prop} {W : WX} {E : XK} {tb : TE} {p1 p2 : Pos} {dv : Value} {hold : List Addr}
    (I : Inv X pins σ H s) (L : LamP X.N X.env.scope scope) (hf : s.heap.get? f = some (lamObj "<lambda>" (X.env.qual ++ "<lambda>") params body scope (cloFrom X.env.cells scope.names []) pm (.ref c') ctv dv)) (hfn : H f = none) (hfr : f ∉ frs X.stack)
    (hbind : ∀ s1 : Shared, (∀ b ∈ hold, ∀ o, s.heap.get? b = some o → s1.heap.get? b = some o) → ∃ binds, BindsTo s1 (lamFn "<lambda>" (X.env.qual ++ "<lambda>") params body scope (cloFrom X.env.cells scope.names []) pm (.ref c') ctv dv) ⟨[], []⟩ binds ∧ ∀ y ∈ binds, scope.names.lookup y.1 = some .local)
    (hhold : ∀ b ∈ hold, H b = none ∧ b ∉ frs X.stack)
    (tk : L2N.Takes ((cxOf CXg X.prog X.w X.K X.mg X.base Ng qg sg g cdg X.A X.stack s H Eg).tr pn xe) W) (hW : ∀ cls d σ' H', E cls d H' → W cls d σ' H') (hr : Room (k + 1) (X.A.deeper (envOfC qg sg s.heap.objs.size g cdg)))
    (hbody : ∀ (A : Around) (outer : List Env) (s : Shared) (H : Hp), Room k (A.deeper (lamEnvX X scope s.heap.objs.size f c')) → PE (lamCxX X A outer s H E scope f c') body tb)
    (hN : Ng[i]? = some a) (hv : Vis sg a) (hd : (a == ("__debug__" : Str)) = false := by decide) (hcd : (a == ("__classdict__" : Str)) = false := by decide) :
    PE ((cxOf CXg X.prog X.w X.K X.mg X.base Ng qg sg g cdg X.A X.stack s H Eg).tr pn xe) (.Call (.Name a p1) [] [] p2)
      (fun σZ HZ Q => σZ[i]? = some (some (.ref f)) ∧ HZ c' = some (CodeO c' (X.env.qual ++ "<lambda>")) ∧ tb σ HZ Q) := by
  refine ⟨fun pinsZ sZ σZ HZ Q IZ h => ?_⟩
  obtain ⟨hs, hc, ht⟩ := h
  refine wpAny_Call_Name_kw (thn ((pe_var (pos := p1) (i := i) hN hv hd hcd).run pinsZ sZ σZ HZ (fun v H1 => v = .ref f ∧ H1 = HZ) IZ ⟨.ref f, hs, rfl, rfl⟩) fun u s1 ⟨v, H1, I1, r1, q1⟩ => ?_)
  obtain ⟨ev, eH⟩ := q1
  subst ev
  rw [eH] at I1
  obtain rfl : u = Value.ref f := r1
  have of1 : s1.heap.get? f = some (lamObj "<lambda>" (X.env.qual ++ "<lambda>") params body scope (cloFrom X.env.cells scope.names []) pm (.ref c') ctv dv) := I1.base.keep f _ hf hfn hfr (fun z => nomatch (show f ∈ ([] : List Addr) from z))
  refine PySem.W.callWith_F0 ⟨_, _, _, _, of1⟩ ?_
  have un : Un (frs X.stack) [] H HZ s.heap s1.heap := I1.base
  obtain ⟨⟨oc, vs, t, hoc, hdc, hvc⟩, _, _⟩ := I1.hok c' _ hc
  have rc : codeAny (model X.prog X.w) (X.A.deeper (envOfC qg sg s.heap.objs.size g cdg)) (.call (.ref f) ⟨[], []⟩) (CR (L2N.CX X.prog X.w) (envOfC qg sg s.heap.objs.size g cdg :: X.stack) X.prog X.w HZ s1 Q E) s1 := by
    refine PySem.W.kla_callFunE hr.depth of1 rfl L.co L.gen rfl ⟨c', oc, vs, t, rfl, hoc, hdc, hvc⟩ ?_
    obtain ⟨binds, hb1, hb2⟩ := hbind s1 fun b hb o e => I1.base.keep b o e (hhold b hb).1 (hhold b hb).2 (fun z => nomatch (show b ∈ ([] : List Addr) from z))
    refine hb1 _ _ _ _ (wpAny_newFunctionEnv (fun y hy => L.noc y hy) hb2 (fun h₁ hns hsb => ⟨I1.nolimit.fresh _ hsb, ?_⟩) L.kind)
    show codeAny _ _ (.expr body (lamEnvX X scope s1.heap.objs.size f c')) _ _
    have kp : ∀ b o, s1.heap.get? b = some o → h₁.get? b = some o := fun b o e => hsb.extBut b o (Nat.ne_of_lt (Heap.lt_size e)) (Heap.get?_push_of_some _ e)
    have J : Inv (lamCxX X (X.A.deeper (envOfC qg sg s.heap.objs.size g cdg)) (envOfC qg sg s.heap.objs.size g cdg :: X.stack) s1 HZ E scope f c') [] σ HZ { s1 with heap := h₁, toks := s1.toks + binds.length } :=
      lam_start3 I L I1.env0 hr.hd un hns kp
    refine PySem.W.kla_codeExpr (wpAny_mono ((hbody _ _ s1 HZ (hr.deeper _)).run [] _ _ HZ Q J ht) (fun v s' hq => ?_) fun e s' hq => hq)
    obtain ⟨w', H', J', rv, q⟩ := hq
    exact ⟨w', H', J'.os, J'.bare, J'.base, J'.hok, rv, q⟩
  have hx : Passes (L2N.CX X.prog X.w) ((cxOf CXg X.prog X.w X.K X.mg X.base Ng qg sg g cdg X.A X.stack s H Eg).tr pn xe) E := L2N.passes_call tk hW
  refine wpAny_call (codeAny_mono rc fun r s' hq => ?_)
  cases r with
  | error e => exact hx pinsZ σZ HZ s1 e s' I1 hq
  | ok fl =>
    cases fl with
    | ret u => exact I1.after hq
    | next => exact False.elim hq
    | brk => exact False.elim hq
    | cont => exact False.elim hq
end
end KR
namespace KR
open PySem PySem.Spec PyProof.Rows L2 Evl KD LamX
/-- the context of the body of the def that got the lambda -/
abbrev gotCx (X : Cx) (Ng : List Str) (x : Str) (sg : Scope) (g : Addr) (cdg : Value) (s : Shared) (H : Hp) : Cx := cxOf C8.CX0 X.prog X.w X.K X.mg X.base Ng x sg g cdg X.A X.stack s H C8.E0
/-- the def that calls what it got -/
def GivesTo3 (X : Cx) (Ng : List Str) (x : Str) (sg : Scope) (g : Addr) (cdg : Value) (bg : List Stmt) (a : Str) (q : Str) (TT : (XK → Hp → VK → Prop) → Hp → VK → Prop) : Prop :=
  ∀ (f c' : Addr) (s : Shared) (H : Hp) (Q : VK) (tl : XK → Hp → VK → Prop),
    (∀ (W : WX) (pn : List (Addr × Obj)) (xe : Value → Shared → Prop) (E : XK) (p1 p2 : Pos), L2N.Takes ((gotCx X Ng x sg g cdg s H).tr pn xe) W → (∀ cls d σ' H', E cls d H' → W cls d σ' H') →
      PE ((gotCx X Ng x sg g cdg s H).tr pn xe) (.Call (.Name a p1) [] [] p2) (fun σZ HZ Q => σZ[0]? = some (some (.ref f)) ∧ HZ c' = some (CodeO c' q) ∧ tl E HZ Q)) →
    H c' = some (CodeO c' q) → TT tl H Q →
    ∃ t, PSs (gotCx X Ng x sg g cdg s H).nox bg t ∧ t { nx := fun _ H' => Q .non H', rt := Q } (L2.start Ng [.ref f]) H
section
variable {X : Cx} {T : List (Addr × Str)} {TT : (XK → Hp → VK → Prop) → Hp → VK → Prop} {x a : Str} {g c P : Addr} {k : Nat} {pg : Arguments} {bg : List Stmt} {sg : Scope} {dV kV doc pm cdv ct oc : Value} {an od : Option Addr} {osl : Array (Option Value)} {Ng : List Str}
    {params : Arguments} {body : Expr} {scope : Scope} {t : XK → TE} {p lpos pos : Pos}
/-- the function object stands: the def runs -/
theorem lam_run {pins : List (Addr × Obj)} {s' : Shared} {σ : L2.St} {H1 : Hp} {Q : VK} {f c' : Addr} {pm' ctv dv : Value} {hold : List Addr}
    (lk : X.K.lookup g = some ⟨oc, od, .func (PySem.W.fnOf x x pg bg sg dV kV doc pm an cdv ct), osl⟩) (hcg : PySem.W.codeIn X.K cdv x = true) (hb : L2.Binds X.K (PySem.W.fnOf x x pg bg sg dV kV doc pm an cdv ct) [a] []) (Sg : FnScope Ng [a] sg) (hNg : Ng[0]? = some a) (hva : Vis sg a)
    (hG : GivesTo3 X Ng x sg g cdv bg a (X.env.qual ++ "<lambda>") TT) (hr : Room (k + 2) X.A) (L : LamP X.N X.env.scope scope)
    (I1 : Inv X pins σ H1 s') (hf : s'.heap.get? f = some (lamObj "<lambda>" (X.env.qual ++ "<lambda>") params body scope (cloFrom X.env.cells scope.names []) pm' (.ref c') ctv dv)) (hfn : H1 f = none) (hfr : f ∉ frs X.stack) (hco : H1 c' = some (CodeO c' (X.env.qual ++ "<lambda>")))
    (hbind : ∀ s1 : Shared, (∀ b ∈ hold, ∀ o, s'.heap.get? b = some o → s1.heap.get? b = some o) → ∃ binds, BindsTo s1 (lamFn "<lambda>" (X.env.qual ++ "<lambda>") params body scope (cloFrom X.env.cells scope.names []) pm' (.ref c') ctv dv) ⟨[], []⟩ binds ∧ ∀ y ∈ binds, scope.names.lookup y.1 = some .local)
    (hhold : ∀ b ∈ hold, H1 b = none ∧ b ∉ frs X.stack)
    (hbody : ∀ (A : Around) (outer : List Env) (s : Shared) (H : Hp) (E : XK) (f c' : Addr), Room k (A.deeper (lamEnvX X scope s.heap.objs.size f c')) → PE (lamCxX X A outer s H E scope f c') body (t E))
    (h : TT (fun E H' Q' => t E σ H' Q') H1 Q) (hd : (a == ("__debug__" : Str)) = false := by decide) (hcd : (a == ("__classdict__" : Str)) = false := by decide) :
    wpAny (model X.prog X.w) X.A (call (.ref g) [.ref f]) (EP X pins σ Q) X.xe s' := by
  have rc : codeAny (model X.prog X.w) X.A (.call (.ref g) ⟨[.ref f], []⟩) (CR C8.CX0 X.stack X.prog X.w H1 s' Q C8.E0) s' := by
    refine LamX.run_ofS (N := Ng) (ps := [a]) (us := [.ref f]) (vs := [.ref f]) lk hcg Sg hr I1.env0 (hb s' [.ref f] I1.kIn rfl) (.cons rfl .nil) rfl fun hr' => ?_
    obtain ⟨t', ht', hq'⟩ := hG f c' s' H1 Q (fun E H' Q' => t E σ H' Q') (fun W pn xe E p1 p2 tk hW => pe_act3 (i := 0) I1 L hf hfn hfr hbind hhold tk hW hr' (fun A outer s H hr2 => hbody A outer s H E f c' hr2) hNg hva hd hcd) hco h
    exact ⟨t', ht'.nox, hq'⟩
  refine wpAny_call (codeAny_mono rc fun r s2 hq => ?_)
  cases r with
  | error e => exact (show False from hq).elim
  | ok fl =>
    cases fl with
    | ret u => exact I1.after hq
    | next => exact False.elim hq
    | brk => exact False.elim hq
    | cont => exact False.elim hq
/-- x(lambda: body) -/
theorem pe_lam0 (hg : Gl X x) (hm : X.mg x = some (.ref g)) (hk : PySem.W.keepIn X.K (.ref g) = true)
    (lk : X.K.lookup g = some ⟨oc, od, .func (PySem.W.fnOf x x pg bg sg dV kV doc pm an cdv ct), osl⟩) (hcg : PySem.W.codeIn X.K cdv x = true) (hb : L2.Binds X.K (PySem.W.fnOf x x pg bg sg dV kV doc pm an cdv ct) [a] []) (Sg : FnScope Ng [a] sg) (hNg : Ng[0]? = some a) (hva : Vis sg a)
    (hG : GivesTo3 X Ng x sg g cdv bg a (X.env.qual ++ "<lambda>") TT)
    (TB : TabB X.base X.mg c P) (hcode : X.env.code = .ref c) (hmT : (P, X.env.qual ++ "<lambda>") ∈ T) (hu : ∀ p ∈ T, p.1 = P → p.2 = X.env.qual ++ "<lambda>") (hr : Room (k + 2) X.A) (L : LamP X.N X.env.scope scope) (hdef : defaultsOf params X.env = ([], []))
    (hbind : ∀ (q : Str) (cl : List (Str × Addr)) (pm cv ctv : Value), bindArgs (lamFn "<lambda>" q params body scope cl pm cv ctv .none) ⟨[], []⟩ = pure [])
    (hbody : ∀ (A : Around) (outer : List Env) (s : Shared) (H : Hp) (E : XK) (f c' : Addr), Room k (A.deeper (lamEnvX X scope s.heap.objs.size f c')) → PE (lamCxX X A outer s H E scope f c') body (t E))
    (hdb : (x == ("__debug__" : Str)) = false := by decide) (hd : (a == ("__debug__" : Str)) = false := by decide) (hcd : (a == ("__classdict__" : Str)) = false := by decide) :
    PE X (.Call (.Name x p) [.Lambda params body scope lpos] [] pos) (tLam T TT t) := by
  refine ⟨fun pins s σ H Q I h => ?_⟩
  obtain ⟨hT, h⟩ := h
  refine wpAny_Call_Name_kw (ld_glob I hg hm ?_ hdb)
  refine PySem.W.callWith_K (h₀ := X.base) I.ok.mod.kin hk ?_ (by rfl) (by rfl)
  show wpAny _ _ (spliced ((false, eval (.Lambda params body scope lpos) X.env) :: backTo pos (starEach [] X.env))) _ _ s
  refine Calls.spliced_cons (PySem.W.kla_eval hdef ?_)
  rw [makeFunction_eq]
  simp only [List.zip_nil_right, List.filterMap_nil, List.isEmpty_nil, if_true, pure_bind]
  refine lam_tail3 I TB hcode hmT hu hT (L.has I.ok) fun f c' pm' ctv H1 s' I1 kp nn eN T1 hf hfn hfr hco => ?_
  refine Calls.spliced_nil ⟨I1.kIn, ?_⟩
  exact lam_run (hold := []) lk hcg hb Sg hNg hva hG hr L I1 hf hfn hfr hco (fun s1 _ => ⟨[], .of_eq (hbind _ _ _ _ _), fun y hy => absurd hy (by simp)⟩) (fun b hb => absurd hb (by simp)) hbody (h H1 eN T1) hd hcd
/-- x(lambda y=n: body) -/
theorem pe_lam1 {e0 : Expr} {n0 : Int} {y : Str} {kk : Str → List (Str × Addr) → Value → Value → Value → Value → Option (Array Value) → Sem (List (Str × Value))} (hg : Gl X x) (hm : X.mg x = some (.ref g)) (hk : PySem.W.keepIn X.K (.ref g) = true)
    (lk : X.K.lookup g = some ⟨oc, od, .func (PySem.W.fnOf x x pg bg sg dV kV doc pm an cdv ct), osl⟩) (hcg : PySem.W.codeIn X.K cdv x = true) (hb : L2.Binds X.K (PySem.W.fnOf x x pg bg sg dV kV doc pm an cdv ct) [a] []) (Sg : FnScope Ng [a] sg) (hNg : Ng[0]? = some a) (hva : Vis sg a)
    (hG : GivesTo3 X Ng x sg g cdv bg a (X.env.qual ++ "<lambda>") TT)
    (TB : TabB X.base X.mg c P) (hcode : X.env.code = .ref c) (hmT : (P, X.env.qual ++ "<lambda>") ∈ T) (hu : ∀ p ∈ T, p.1 = P → p.2 = X.env.qual ++ "<lambda>") (hr : Room (k + 2) X.A) (L : LamP X.N X.env.scope scope)
    (hdef : defaultsOf params X.env = ([eval e0 X.env], [])) (he0 : PE X e0 (tC (.int n0)))
    (hbind1 : ∀ (q : Str) (cl : List (Str × Addr)) (pm cv ctv dv : Value), bindArgs (lamFn "<lambda>" q params body scope cl pm cv ctv dv) ⟨[], []⟩ = seqItems? dv >>= kk q cl pm cv ctv dv)
    (hbind2 : ∀ (q : Str) (cl : List (Str × Addr)) (pm cv ctv dv v : Value), kk q cl pm cv ctv dv (some #[v]) = pure [(y, v)]) (hy : scope.names.lookup y = some .local)
    (hbody : ∀ (A : Around) (outer : List Env) (s : Shared) (H : Hp) (E : XK) (f c' : Addr), Room k (A.deeper (lamEnvX X scope s.heap.objs.size f c')) → PE (lamCxX X A outer s H E scope f c') body (t E))
    (hdb : (x == ("__debug__" : Str)) = false := by decide) (hd : (a == ("__debug__" : Str)) = false := by decide) (hcd : (a == ("__classdict__" : Str)) = false := by decide) :
    PE X (.Call (.Name x p) [.Lambda params body scope lpos] [] pos) (tLam T TT t) := by
  refine ⟨fun pins s σ H Q I h => ?_⟩
  obtain ⟨hT, h⟩ := h
  refine wpAny_Call_Name_kw (ld_glob I hg hm ?_ hdb)
  refine PySem.W.callWith_K (h₀ := X.base) I.ok.mod.kin hk ?_ (by rfl) (by rfl)
  show wpAny _ _ (spliced ((false, eval (.Lambda params body scope lpos) X.env) :: backTo pos (starEach [] X.env))) _ _ s
  refine Calls.spliced_cons (lam_eval1 hdef (thn (he0.run pins s σ H (fun v H1 => v = .int n0 ∧ H1 = H) I ⟨rfl, rfl⟩) fun u s0 ⟨v0, H0, I0, r0, q0⟩ => ?_))
  obtain ⟨rfl, eH⟩ := q0
  rw [eH] at I0
  refine lam_fun1 ?_
  have I2 : Inv X pins σ H { s0 with heap := s0.heap.push { cls := .type "tuple", data := .seq #[u] } } := I0.kept (t' := s0.toks) fun b o e => Heap.get?_push_of_some _ e
  have hn0 : H s0.heap.objs.size = none := I0.hok.fresh (Nat.le_refl _)
  have ht0 : (s0.heap.push { cls := .type "tuple", data := .seq #[u] }).get? s0.heap.objs.size = some { cls := .type "tuple", data := .seq #[u] } := Heap.get?_push_size _ rfl
  refine lam_tail3 I2 TB hcode hmT hu hT (L.has I2.ok) fun f c' pm' ctv H1 s' I1 kp nn eN T1 hf hfn hfr hco => ?_
  refine Calls.spliced_nil ⟨I1.kIn, ?_⟩
  have hnfr : s0.heap.objs.size ∉ frs X.stack := fun z => by
    rcases List.mem_cons.mp (I0.stkSub _ z) with e | e
    · have h1 := I0.lt
      rw [← e] at h1
      exact Nat.lt_irrefl _ h1
    · exact I0.nofs (Nat.le_refl _) e
  have ht1 : s'.heap.get? s0.heap.objs.size = some { cls := .type "tuple", data := .seq #[u] } := kp _ _ (fun q z => by rw [hn0] at z; cases z) ht0
  refine lam_run (hold := [s0.heap.objs.size]) lk hcg hb Sg hNg hva hG hr L I1 hf hfn hfr hco (fun s1 h1 => ⟨[(y, u)], ?_, fun z hz => ?_⟩) (fun b hb => ?_) hbody (h H1 eN T1) hd hcd
  · exact .of_defaults (T := s0.heap.objs.size) (items := #[u]) (n := 0) rfl (h1 _ (by simp) _ ht1) rfl (hbind1 _ _ _ _ _ _) (hbind2 _ _ _ _ _ _ _)
  · rw [List.mem_singleton.mp hz]; exact hy
  · rw [List.mem_singleton.mp hb]
    exact ⟨nn _ (by show (s0.heap.push _).get? _ ≠ none; rw [ht0]; simp) hn0, hnfr⟩
end
end KR
/-! Words in short. -/
namespace KR
open PySem PySem.Spec PyProof.Rows L2 Evl KD LamX
section
variable {X : Cx} {x : Str} {pos : Pos}
theorem pe_gI {n : Int} {t : Tok} (hg : Gl X x) (hm : X.mg x = some (.int n t)) (hdb : (x == ("__debug__" : Str)) = false := by decide) : PE X (.Name x pos) (tC (.int n)) := pe_glob hg hm ⟨t, rfl⟩ hdb
theorem pe_gR {a : Addr} (hg : Gl X x) (hm : X.mg x = some (.ref a)) (hdb : (x == ("__debug__" : Str)) = false := by decide) : PE X (.Name x pos) (tC (.ref a)) := pe_glob hg hm rfl hdb
theorem pe_ty {n : String} (hg : Gl X x) (hm : X.mg x = none) (hb : bootBuiltins x = some (.type n)) (hn : x ≠ "__name__" := by decide) (hdb : (x == ("__debug__" : Str)) = false := by decide) : PE X (.Name x pos) (tC (.ty n)) := pe_bltn hg hm hb rfl hn hdb
theorem op_eqK {K : PySem.W.Frag} (e : X.K = K) (hu : X.A.units + 64 < cLine) : OpR X (compareOp .Eq) (rEqD K) := e ▸ op_eqD hu
theorem op_neK {K : PySem.W.Frag} (e : X.K = K) (hu : X.A.units + 64 < cLine) : OpR X (compareOp .NotEq) (rNeD K) := e ▸ op_neD hu
theorem op_inK {K : PySem.W.Frag} (e : X.K = K) (hu : X.A.units + 65 < cLine) : OpR X (compareOp .In) (rInD K) := e ▸ op_inD hu
theorem op_ninK {K : PySem.W.Frag} (e : X.K = K) (hu : X.A.units + 65 < cLine) : OpR X (compareOp .NotIn) (rNotInD K) := e ▸ op_notInD hu
theorem passLN : Passes (L2N.CX X.prog X.w) X E0 := fun _ _ _ _ _ _ _ h => by
  obtain ⟨_, _, _, _, _, _, _, _, _, _, _, _, z⟩ := h
  exact z.elim
end
/-! ### with the fragment named, for the blocks of comprehensions -/
section
variable {X : Cx} {K : PySem.W.Frag}
theorem isiK (e : X.K = K) : CallR X (.builtin "isinstance") (rIsi K) := e ▸ call_isi
theorem anyK (hc : X.calm = true) (e : X.K = K) : CallR X (.builtin "any") (rAny K) := e ▸ cr_any hc
theorem allK (hc : X.calm = true) (e : X.K = K) : CallR X (.builtin "all") (rAll K) := e ▸ cr_all hc
theorem sumK (hc : X.calm = true) (e : X.K = K) : CallR X (.builtin "sum") (rSum K) := e ▸ cr_sum hc
theorem lenK (e : X.K = K) : CallR X (.builtin "len") (fun xs H Q => ∃ x n, xs = [x] ∧ LenV K x H n ∧ Q (.int n) H) := e ▸ call_len
theorem ixLK (e : X.K = K) : IxR X (rIxL K) := e ▸ ix_list
theorem ixTK (e : X.K = K) : IxR X (rIxT K) := e ▸ ix_tup
theorem inK (e : X.K = K) : OpR X (compareOp .In) (rIn K false) := e ▸ op_in_seq
theorem ninK (e : X.K = K) : OpR X (compareOp .NotIn) (rIn K true) := e ▸ op_notIn_seq
theorem fldK {o : Expr} {f : Str} {pos : Pos} {ta : TE} (e : X.K = K) (he : PE X o ta) (hb : attributeBase o f X.env (eval o X.env) = eval o X.env) : PE X (.Attribute o f pos) (tFld K ta f) := e ▸ pe_fld he hb
theorem gtupK {es : List Expr} {k : Nat} {t : TGs} {n : Nat} {pos : Pos} (e : X.K = K) (hc : X.calm = true) (h : PGs X es t)
    (hn : (assignEach es X.env).length = n := by rfl) (hst : (assignEach es X.env).findIdx? (·.1) = none := by rfl) : PG X (.Tuple es k pos) (gTup K n t) := e ▸ pg_tup hc h hn hst
/-- o.f as a target -/
def gFld (K : PySem.W.Frag) (to : TE) (f : Str) : TG := fun y σ H Q => to σ H fun x H1 => ∃ a C dx fs, x = .ref a ∧ H1 a = some (.ins C dx fs) ∧ Cls K C ∧ NoAttr K C f ∧ fs.length < 1000 ∧ Q σ (upd H1 a (.ins C dx (putF f y fs)))
theorem pg_fld {o : Expr} {f : Str} {pos : Pos} {to : TE} (ho : PE X o to) : PG X (.Attribute o f pos) (gFld X.K to f) := by
  refine ⟨fun pins s σ H v u Q I r h => ?_⟩
  rw [assign_Attribute]
  refine wpAny_bind (wpAny_holding (thn (ho.run pins s σ H _ I h) fun ov s1 ⟨x, H1, I1, r1, a, C, dx, fs, ex, ea, c, n, l, q⟩ => ?_))
  subst ex
  obtain rfl : ov = Value.ref a := r1
  refine wpAny_bind (wpAny_standAt (wpAny_bind (wpAny_holding (setattr_ok I1 ea c n l r fun s3 I3 => ?_))))
  exact wpAny_release ⟨σ, _, I3, q⟩
end
end KR
/-! What raising defs promise; readings that end by raising; rules of evaluation for the words of KR. -/
namespace KR
open PySem PySem.Spec PyProof.Rows L2 Evl KD LamX
/-- a value, or one of two errors -/
inductive RR where
  | ok (d : PyData)
  | no
  | big
/-- how such an end is told -/
def Res (cN cB : Addr) (K : PySem.W.Frag) (H : Hp) (Q : VK) (E : XK) : RR → Prop
  | .ok d => ∀ v H', Ex H H' → Dp K H' v d → Q v H'
  | .no => ∀ H', Ex H H' → E (.ref cN) none H'
  | .big => ∀ H', Ex H H' → E (.ref cB) none H'
theorem Res.mono {cN cB : Addr} {K : PySem.W.Frag} {H H1 : Hp} {Q : VK} {E : XK} {r : RR} (h : Res cN cB K H Q E r) (e : Ex H H1) : Res cN cB K H1 Q E r := by
  cases r with
  | ok d => exact fun v H' a b => h v H' (e.trans a) b
  | no => exact fun H' a => h H' (e.trans a)
  | big => exact fun H' a => h H' (e.trans a)
/-- it ends by raising -/
def EvR (te : TE) (σ : L2.St) (H : Hp) : Prop := ∀ H1, Ex H H1 → ∀ Q : VK, te σ H1 Q
def EvRT (tt : TT) (σ : L2.St) (H : Hp) : Prop := ∀ H1, Ex H H1 → ∀ Q : Bool → Hp → Prop, tt σ H1 Q
section
variable {K : PySem.W.Frag} {σ : L2.St} {H H' : Hp} {te ta tb tc : TE} {d : PyData} {ds : List PyData} {v : V} {D : Ends} {tz : TS} {r : R2}
theorem EvR.mono (e : Ex H H') (h : EvR te σ H) : EvR te σ H' := fun H1 a Q => h H1 (e.trans a) Q
theorem evr_op1 (h : EvR ta σ H) : EvR (tOp r ta tb) σ H := fun H1 e Q => h H1 e _
theorem evr_op2 (ha : EvD K ta σ H d) (h : EvR tb σ H) : EvR (tOp r ta tb) σ H := fun H1 e Q => ha H1 e _ fun v H2 e2 _ => h H2 (e.trans e2) _
theorem evr_test (h : EvR te σ H) : EvRT (tTest te) σ H := fun H1 e Q => h H1 e _
theorem s_dropR (h : EvR te σ H) : tDrop te D σ H := h H (Ex.refl H) _
theorem s_retR (h : EvR te σ H) : tRet te D σ H := h H (Ex.refl H) _
theorem s_asgR {g : TG} (h : EvR te σ H) : tAsg te g D σ H := h H (Ex.refl H) _
theorem s_ifR {tt : TT} {tu tw : TS} (h : EvRT tt σ H) : tIfS tt tu tw D σ H := h H (Ex.refl H) _
theorem q_R {t : TS} (h : ∀ D : Ends, t D σ H) : tSeq t tz D σ H := h _
theorem s_dropD (h : EvD K te σ H d) (k : ∀ H1, Ex H H1 → D.nx σ H1) : tDrop te D σ H := h H (Ex.refl H) _ fun v H1 e _ => k H1 e
theorem q_dropD (h : EvD K te σ H d) (k : ∀ H1, Ex H H1 → tz D σ H1) : tSeq (tDrop te) tz D σ H := h H (Ex.refl H) _ fun v H1 e _ => k H1 e
/-- calls of defs -/
theorem evd_callS {sp : Sp} {E : L2.St → XK} {t : TA} (ha : EvAD K t σ H ds) (hs : ∀ vs H1, Ex H H1 → DpAll K H1 vs ds → ∀ Q : VK, (∀ v H2, Ex H1 H2 → Dp K H2 v d → Q v H2) → sp vs H1 Q (E σ)) : EvD K (tCallS sp E t) σ H d := fun H1 e Q q =>
  ha H1 e _ fun vs H2 e2 hv => hs vs H2 (e.trans e2) hv Q fun v H3 e3 hd => q v H3 (e2.trans e3) hd
theorem evr_callS {sp : Sp} {E : L2.St → XK} {t : TA} (ha : EvAD K t σ H ds) (hs : ∀ vs H1, Ex H H1 → DpAll K H1 vs ds → ∀ Q : VK, sp vs H1 Q (E σ)) : EvR (tCallS sp E t) σ H := fun H1 e Q =>
  ha H1 e _ fun vs H2 e2 hv => hs vs H2 (e.trans e2) hv Q
theorem evd_call {sp : Sp} {E : XK} {t : TA} (ha : EvAD K t σ H ds) (hs : ∀ vs H1, Ex H H1 → DpAll K H1 vs ds → ∀ Q : VK, (∀ v H2, Ex H1 H2 → Dp K H2 v d → Q v H2) → sp vs H1 Q E) : EvD K (tCall sp [] E t) σ H d := fun H1 e Q q =>
  ha H1 e _ fun vs H2 e2 hv => by
    rw [List.append_nil]
    exact hs vs H2 (e.trans e2) hv Q fun v H3 e3 hd => q v H3 (e2.trans e3) hd
theorem evn_call {sp : Sp} {E : XK} {t : TA} (ha : EvAD K t σ H ds) {es : List PyData} (hs : ∀ vs H1, Ex H H1 → DpAll K H1 vs ds → ∀ Q : VK, (∀ p xs H2, H1 p = none → Ex H1 H2 → H2 p = some (.lst xs) → DpAll K H2 xs es → Q (.ref p) H2) → sp vs H1 Q E) : EvN K (tCall sp [] E t) σ H es := fun H1 e Q q =>
  ha H1 e _ fun vs H2 e2 hv => by
    rw [List.append_nil]
    exact hs vs H2 (e.trans e2) hv Q fun p xs H3 n e3 h3 hd => q p xs H3 (fresh_back e2 n) (e2.trans e3) h3 hd
/-! ### words -/
theorem dpAll_strs_list (ys : List Str) : DpAll K H (ys.map V.str) (ys.map PyData.str) := dpAll_strs ys
theorem evn_listT {z : Str} (ha : Ev te σ H (.str z)) (hz : z.length ≤ 100000) : EvN K (tCB (fun xs H Q => ∃ z : Str, xs = [.str z] ∧ z.length ≤ sizeLine ∧ ∀ p, H p = none → Q (.ref p) (upd H p (.lst ((signsOf z).map V.str)))) (tCons te tNil)) σ H ((signsOf z).map .str) := fun H1 e Q q =>
  ha H1 e _ fun H2 e2 => ⟨z, rfl, sz_of hz, fun p hp => q p _ _ (fresh_back e2 hp) (e2.trans (Ex.new hp)) upd_same (dpAll_strs _)⟩
theorem evn_natsL {n : Nat} (ha : Ev te σ H (.int (n : Nat))) (hz : n ≤ 100000) : EvN K (tCB (fun xs H Q => ∃ a n, xs = [V.ref a] ∧ H a = some (.rng 0 ((n : Nat) : Int)) ∧ n ≤ 100000 ∧ ∀ p, H p = none → Q (.ref p) (upd H p (.lst (natsV n)))) (tCons (tCB (fun vs H Q => ∃ j, vs = [V.int j] ∧ ∀ p, H p = none → Q (.ref p) (upd H p (.rng 0 j))) (tCons te tNil)) tNil)) σ H ((List.range n).map fun i => .int (i : Nat)) := fun H1 e Q q =>
  ha H1 e _ fun H2 e2 => ⟨n, rfl, fun p hp => ⟨p, n, rfl, upd_same, hz, fun l hl => by
    refine q l _ _ (fresh_back (e2.trans (Ex.new hp)) hl) (e2.trans ((Ex.new hp).trans (Ex.new hl))) upd_same ?_
    have : natsV n = (((List.range n).map fun (i : Nat) => (i : Int))).map V.int := by unfold natsV; rw [List.map_map]; rfl
    rw [this]
    have h2 : ((List.range n).map fun i => PyData.int (i : Nat)) = (((List.range n).map fun (i : Nat) => (i : Int))).map PyData.int := by rw [List.map_map]; rfl
    rw [h2]
    exact dpAll_ints _⟩⟩
theorem ev_lenSetT {z : Str} (ha : Ev te σ H (.str z)) (hz : z.length ≤ 1000) : Ev (tLenSetT te) σ H (.int ((metS (signsOf z)).length : Nat)) := fun H1 e Q q => ha H1 e _ fun H2 e2 => ⟨z, rfl, hz, q H2 e2⟩
end
/-! ### the signs of a text, rising -/
def one (c : Nat) : Str := ⟨#[c]⟩
theorem signsOf_map (z : Str) : signsOf z = z.cps.toList.map one := rfl
theorem one_inj {a b : Nat} (h : one a = one b) : a = b := by
  have := congrArg (fun s : Str => s.cps.toList) h
  simpa [one] using this
theorem ltCps_one (a b : Nat) : PySem.Spec.ltCps (one a).cps.toList (one b).cps.toList = decide (a < b) := by
  rw [ltCps_eq]
  show decide ([a] < [b]) = decide (a < b)
  refine decide_eq_decide.mpr ⟨fun h => ?_, fun h => List.Lex.rel h⟩
  cases h with
  | rel h => exact h
  | cons h => cases h
/-- rising numbers -/
def riseN : List Nat → Bool
  | a :: b :: r => decide (a ≤ b) && riseN (b :: r)
  | _ => true
theorem sortedS_one : ∀ l : List Nat, sortedS (l.map one) = riseN l
  | [] => rfl
  | [_] => rfl
  | a :: b :: r => by
    have ih := sortedS_one (b :: r)
    show (!PySem.Spec.ltCps (one b).cps.toList (one a).cps.toList && risingS (one b) (r.map one)) = _
    rw [ltCps_one]
    have e : risingS (one b) (r.map one) = riseN (b :: r) := ih
    rw [e]
    show _ = (decide (a ≤ b) && riseN (b :: r))
    congr 1
    by_cases h : b < a
    · rw [decide_eq_true h, decide_eq_false (by omega)]; rfl
    · rw [decide_eq_false h, decide_eq_true (by omega)]; rfl
theorem riseN_pw : ∀ {l : List Nat}, riseN l = true ↔ l.Pairwise (· ≤ ·)
  | [] => by simp [riseN]
  | [a] => by simp [riseN]
  | a :: b :: r => by
    rw [show riseN (a :: b :: r) = (decide (a ≤ b) && riseN (b :: r)) from rfl, Bool.and_eq_true, decide_eq_true_eq, riseN_pw (l := b :: r), List.pairwise_cons (a := a)]
    constructor
    · rintro ⟨h, h12⟩
      have h1 := (List.pairwise_cons.mp h12).1
      refine ⟨fun x hx => ?_, h12⟩
      rcases List.mem_cons.mp hx with rfl | hx
      · exact h
      · exact Nat.le_trans h (h1 x hx)
    · rintro ⟨h, h12⟩
      exact ⟨h b List.mem_cons_self, h12⟩
theorem eq_of_rise : ∀ {l m : List Nat}, l.Perm m → l.Pairwise (· ≤ ·) → m.Pairwise (· ≤ ·) → l = m
  | [], m, p, _, _ => (List.nil_perm.mp p).symm
  | a :: l, m, p, h1, h2 => by
    cases m with
    | nil => exact absurd p.length_eq (by simp)
    | cons b m =>
      obtain ⟨h1a, h1b⟩ := List.pairwise_cons.mp h1
      obtain ⟨h2a, h2b⟩ := List.pairwise_cons.mp h2
      have hab : a = b := by
        have ha : a ∈ b :: m := p.subset List.mem_cons_self
        have hb : b ∈ a :: l := p.symm.subset List.mem_cons_self
        rcases List.mem_cons.mp ha with e | ha
        · exact e
        · rcases List.mem_cons.mp hb with e | hb
          · exact e.symm
          · exact Nat.le_antisymm (h1a b hb) (h2a a ha)
      subst hab
      rw [eq_of_rise ((List.perm_cons a).mp p) h1b h2b]
/-- what sorted(text) hands out: signs; which ones -/
theorem perm_ones {z : Str} {ys : List Str} (p : ys.Perm (signsOf z)) (h : sortedS ys = true) : ∃ l : List Nat, ys = l.map one ∧ l.Perm z.cps.toList ∧ l.Pairwise (· ≤ ·) := by
  have hm : ∀ y ∈ ys, ∃ c, y = one c := fun y hy => by
    have := p.subset hy
    rw [signsOf_map] at this
    obtain ⟨c, _, e⟩ := List.mem_map.mp this
    exact ⟨c, e.symm⟩
  have : ∃ l : List Nat, ys = l.map one := by
    clear p h
    induction ys with
    | nil => exact ⟨[], rfl⟩
    | cons y ys ih =>
      obtain ⟨c, rfl⟩ := hm y List.mem_cons_self
      obtain ⟨l, rfl⟩ := ih fun x hx => hm x (List.mem_cons_of_mem _ hx)
      exact ⟨c :: l, rfl⟩
  obtain ⟨l, rfl⟩ := this
  refine ⟨l, rfl, ?_, riseN_pw.mp (by rw [← sortedS_one]; exact h)⟩
  rw [signsOf_map] at p
  have := p.map (fun s : Str => s.cps.toList.head?.getD 0)
  simpa [List.map_map, Function.comp_def, one] using this
/-- the rule for a def that may raise (its errors' context is None) -/
theorem _root_.L2.Fun.okXN {P : Program} {w : World} {K : PySem.W.Frag} {mg : Str → Option Value} {base : Heap} {x qual : Str} {st : Stmt} {f : Addr} {fd : FuncData} {N ps : List Str} {k : Nat} {sp : Sp} (F : L2.Fun K x qual st f fd) (S : FnScope N ps (defScope st)) (len : ∀ vs H Q E, sp vs H Q E → vs.length = ps.length)
    (hbody : ∀ (cdv : Value) (A : Around) (outer : List Env) (s : Shared) (H : Hp) (vs : List V) (Q : VK) (E : XK), Room k (A.deeper (envOfC qual (defScope st) s.heap.objs.size f cdv)) → sp vs H Q E →
      ∃ t, PSs (cxOf (L2N.CX P w) P w K mg base N qual (defScope st) f cdv A outer s H E) (defBody st) t ∧ t { nx := fun _ H' => Q .non H', rt := Q } (start N vs) H) : FnOk P w K mg base (L2N.CX P w) (k + 1) f fd ps sp := by
  obtain ⟨oc, od, kV, doc, pm, an, cdv, ct, osl, rfl, lk, hcd⟩ := F.ex
  exact fn_of lk hcd S len fun A outer s H vs Q E hr hsp => hbody cdv A outer s H vs Q E hr hsp
theorem eqv_strs : ∀ (xs ys : List Str), PyData.eqvAll (xs.map .str) (ys.map .str) = decide (xs = ys)
  | [], [] => by simp [PyData.eqvAll]
  | [], _ :: _ => by simp [PyData.eqvAll]
  | _ :: _, [] => by simp [PyData.eqvAll]
  | x :: xs, y :: ys => by
    show (PyData.eqv (.str x) (.str y) && PyData.eqvAll (xs.map .str) (ys.map .str)) = _
    rw [eqv_strs xs ys]
    show ((x == y) && decide (xs = ys)) = _
    by_cases h : x = y
    · subst h; simp
    · rw [beq_eq_false_iff_ne.mpr h]; simp [h]
theorem eqv_lstrs (xs ys : List Str) : PyData.eqv (.list (xs.map .str)) (.list (ys.map .str)) = decide (xs = ys) := by
  rw [← eqv_strs]; rfl
def asc (z : Str) : Prop := ∀ c ∈ z.cps.toList, c < 128
theorem canLay_ones : ∀ l : List Nat, (∀ c ∈ l, c < 128) → PyData.canLayAll0 ((l.map one).map .str) = true
  | [], _ => rfl
  | c :: l, h => by
    show (PyData.canLay0 (.str (one c)) && PyData.canLayAll0 ((l.map one).map .str)) = true
    rw [canLay_ones l fun x hx => h x (List.mem_cons_of_mem _ hx), Bool.and_true]
    have := h c List.mem_cons_self
    show PyData.strOk (one c) = true
    simp [PyData.strOk, one]
    omega
theorem depth_strs : ∀ l : List Str, PyData.depthAll (l.map .str) = 0
  | [] => rfl
  | x :: l => by
    show max (PyData.depth (.str x)) (PyData.depthAll (l.map .str)) = 0
    rw [depth_strs l]
    rfl
theorem shaped_ones (l : List Nat) (h : ∀ c ∈ l, c < 128) : SeqAt.shaped (.list ((l.map one).map .str)) = true := by
  unfold SeqAt.shaped
  rw [Bool.and_eq_true]
  refine ⟨canLay_ones l h, decide_eq_true ?_⟩
  show PyData.depthAll _ + 1 ≤ 64
  rw [depth_strs]
  decide
theorem ev_listEqSorted {K : PySem.W.Frag} {σ : L2.St} {H : Hp} {ta tb : TE} {z : Str} (ha : Ev ta σ H (.str z)) (hb : Ev tb σ H (.str z)) (hz : z.length ≤ 60) (hc : asc z) :
    Ev (tOp (rEqD K) (tCB (fun xs H Q => ∃ z : Str, xs = [.str z] ∧ z.length ≤ sizeLine ∧ ∀ p, H p = none → Q (.ref p) (upd H p (.lst ((signsOf z).map V.str)))) (tCons ta tNil)) (tCB rSortedT (tCons tb tNil))) σ H (.bl (riseN z.cps.toList)) := fun H1 e Q q =>
  evn_listT (K := K) ha (by omega) H1 e _ fun p xs H2 hp e2 h2 hx => hb H2 (e.trans e2) _ fun H3 e3 => ⟨z, rfl, by omega, fun ys p' pm so hp' => by
    obtain ⟨l, rfl, pl, rl⟩ := perm_ones pm so
    have h3 : H3 p = some (.lst xs) := e3 p _ h2
    have eN : Ex H3 (upd H3 p' (.lst ((l.map one).map V.str))) := Ex.new hp'
    refine ⟨.list ((signsOf z).map .str), .list ((l.map one).map .str), .lst (sq_of (eN p _ h3)) (Dpax (e3.trans eN) hx), .lst (sq_of upd_same) (dpAll_strs _), ?_, shaped_ones l fun c h => hc c (pl.subset h), ?_⟩
    · rw [signsOf_map]; exact shaped_ones _ hc
    · rw [eqv_lstrs]
      have : decide (signsOf z = l.map one) = riseN z.cps.toList := by
        by_cases h : riseN z.cps.toList = true
        · rw [h, decide_eq_true_eq, signsOf_map, eq_of_rise pl rl (riseN_pw.mp h)]
        · rw [Bool.eq_false_iff.mpr h, decide_eq_false_iff_not]
          intro e
          apply h
          rw [signsOf_map] at e
          have inj : ∀ a b : List Nat, a.map one = b.map one → a = b := by
            intro a
            induction a with
            | nil => intro b hb; cases b with
              | nil => rfl
              | cons _ _ => simp at hb
            | cons x a ih => intro b hb; cases b with
              | nil => simp at hb
              | cons y b =>
                simp only [List.map_cons, List.cons.injEq] at hb
                rw [one_inj hb.1, ih b hb.2]
          rw [inj _ _ e]
          exact riseN_pw.mpr rl
      rw [this]
      exact q _ (e2.trans (e3.trans eN))⟩
theorem imm_of_all : ∀ {ds : List PyData}, immAll ds = true → ∀ d ∈ ds, imm d = true
  | d :: ds, h, x, hx => by
    have h' : imm d = true ∧ immAll ds = true := by simpa [immAll] using h
    rcases List.mem_cons.mp hx with rfl | hx
    · exact h'.1
    · exact imm_of_all h'.2 x hx
theorem all_imm : ∀ {ds : List PyData}, (∀ d ∈ ds, imm d = true) → immAll ds = true
  | [], _ => rfl
  | d :: ds, h => by
    show (imm d && immAll ds) = true
    rw [h d List.mem_cons_self, all_imm fun x hx => h x (List.mem_cons_of_mem _ hx)]
    rfl
theorem evn_lcD {K : PySem.W.Frag} {σ : L2.St} {H : Hp} {te : TE} {wi : TI} {j : Nat} {vs : List Nat} {n : Nat} {YD : Nat → V → Hp → Prop} {ds : List PyData} (hw : EvW wi σ H n YD) (hl : ds.length = n) (hn : n ≤ 50000) (hi : immAll ds = true) (hv : ∀ x, wipe ((wipe σ vs).set j (some x)) vs = wipe σ vs)
    (ht : ∀ i x d H1, Ex H H1 → ds[i]? = some d → YD i x H1 → EvD K te ((wipe σ vs).set j (some x)) H1 d) : EvN K (tLc wi (gName j) tYes te vs) σ H ds := by
  have e : (List.range n).map (fun i => ds.getD i .none) = ds := by
    apply List.ext_getElem
    · simp [hl]
    · intro i h1 h2
      simp
      rw [List.getElem?_eq_getElem h2]
      rfl
  have g : ∀ i, i < n → ds[i]? = some (ds.getD i .none) := fun i hin => by
    rw [List.getD_eq_getElem?_getD, List.getElem?_eq_getElem (by omega)]
    rfl
  have h := evn_lcM (K := K) (te := te) (σ := σ) (vs := vs) (j := j) hw (fun i => ds.getD i .none) hn (fun i hin => imm_of_all hi _ (List.mem_of_getElem? (g i hin))) hv fun i x H1 e1 hin y => ht i x _ H1 e1 (g i hin) y
  rw [e] at h
  exact h
theorem immAll_bools (bs : List Bool) : immAll (bs.map .bool) = true := all_imm fun d hd => by
  obtain ⟨b, _, rfl⟩ := List.mem_map.mp hd
  rfl
theorem immAll_ints (bs : List Int) : immAll (bs.map .int) = true := all_imm fun d hd => by
  obtain ⟨b, _, rfl⟩ := List.mem_map.mp hd
  rfl
theorem immAll_strs (bs : List Str) : immAll (bs.map .str) = true := all_imm fun d hd => by
  obtain ⟨b, _, rfl⟩ := List.mem_map.mp hd
  rfl
theorem map_get {α β : Type} {f : α → β} {l : List α} {i : Nat} {b : β} (h : (l.map f)[i]? = some b) : ∃ a, l[i]? = some a ∧ f a = b := by
  rw [List.getElem?_map] at h
  cases e : l[i]? with
  | none => rw [e] at h; cases h
  | some a => rw [e] at h; exact ⟨a, rfl, Option.some.inj h⟩
/-! ### what is walked, what the turns must leave -/
def EvS (St : Hp → Hp → Prop) (wi : TI) (σ : L2.St) (H : Hp) (n : Nat) (YD : Nat → V → Hp → Prop) : Prop := ∀ H1, Ex H H1 → ∀ R : It → Hp → Prop, (∀ J H2 G, Ex H1 H2 → Walk J n G (fun i H3 x H4 => Ex H3 H4 ∧ YD i x H4) → (∀ H3, St H2 H3 → G H3) → R J H2) → wi σ H1 R
def StT : Hp → Hp → Prop := fun _ _ => True
section
variable {K : PySem.W.Frag} {σ : L2.St} {H H' : Hp} {ta : TA} {tl : TE} {D : Ends} {tb tz : TS} {g : TG} {wi : TI} {n : Nat} {YD : Nat → V → Hp → Prop} {St : Hp → Hp → Prop}
theorem evs_enumS {z : Str} (h : EvA ta σ H [.str z]) : EvS StT (iEnumS ta) σ H z.length (fun i x H4 => PairD K (fun y _ => y = .int (i : Nat)) (fun y _ => ∃ c, z.cps[i]? = some c ∧ y = .str ⟨#[c]⟩) x H4) := fun H1 e R r =>
  h H1 e _ fun H2 e2 => ⟨z, rfl, r (Itse z) H2 (fun _ => True) e2 (walk_enumS.mono (fun _ _ => trivial) fun i H3 x H4 hi g y => by
    obtain ⟨T, c, rfl, hT, rfl, hc⟩ := y
    exact ⟨Ex.new hT, T, _, _, rfl, upd_same, rfl, c, hc, rfl⟩) fun _ _ => trivial⟩
theorem evs_range1 {n : Int} (h : EvA ta σ H [.int n]) (hn : -(2 ^ 62) ≤ n ∧ n < 2 ^ 62) : EvS StT (iRng1 ta) σ H n.toNat (fun i x _ => x = .int (i : Nat)) := fun H1 e R r =>
  h H1 e _ fun H2 e2 => ⟨n, rfl, hn.1, hn.2, r (Itr 0 n.toNat) H2 (fun _ => True) e2 (walk_range.mono (fun _ _ => trivial) fun i H3 x H4 hi g y => by
    obtain ⟨rfl, rfl⟩ := y
    exact ⟨Ex.refl _, by show V.int ((0 : Int) + (i : Nat)) = V.int (i : Nat); rw [Int.zero_add]⟩) fun _ _ => trivial⟩
theorem evs_down {n : Int} (h : EvA ta σ H [.int (n - 1), .int (-1), .int (-1)]) (hn : 0 ≤ n ∧ n < 2 ^ 61) : EvS StT (iRng3 ta) σ H n.toNat (fun i x _ => x = .int (n - 1 - (i : Nat))) := fun H1 e R r =>
  h H1 e _ fun H2 e2 => by
    have rg : RgC (n - 1) (-1) (-1) (n - 1 - -1).toNat := RgC.neg (by omega) (by omega) (by omega) (by omega)
    refine ⟨n - 1, -1, -1, (n - 1 - -1).toNat, rfl, rg, ?_⟩
    have en : (n - 1 - -1).toNat = n.toNat := by omega
    rw [en]
    refine r (Itc (n - 1) (-1) n.toNat) H2 (fun _ => True) e2 (walk_rangeC.mono (fun _ _ => trivial) fun i H3 x H4 hi g y => ?_) fun _ _ => trivial
    obtain ⟨rfl, rfl⟩ := y
    exact ⟨Ex.refl _, by show V.int (n - 1 + (i : Nat) * (-1)) = _; congr 1; omega⟩
theorem evs_of (h : EvW wi σ H n YD) : EvS Ex wi σ H n YD := h
theorem evs_tup {ds : List PyData} (h : EvD K tl σ H (.tuple ds)) (hi : immAll ds = true) : EvS (Tups K) (iTup K tl) σ H ds.length (fun i x H4 => ∃ d, ds[i]? = some d ∧ Dp K H4 x d) := fun H1 e R r =>
  h H1 e _ fun v H2 e2 hd => by
    obtain ⟨a, xs, rfl, hs, hx⟩ := dp_tuple hd
    have hl := dpAll_len hx
    refine ⟨a, rfl, ⟨xs, hs⟩, r (Itt K a) H2 (fun H3 => SqT K H3 a xs ∧ DpAll K H3 xs ds) e2 ?_ fun H3 e3 => ⟨e3 _ _ hs, dpAll_imm e3 _ _ hi hx⟩⟩
    rw [← hl]
    refine walk_tup.mono (fun _ g => g.1) fun i H3 x H4 hi g y => ?_
    obtain ⟨rfl, y2⟩ := y
    obtain ⟨d, h1, h2⟩ := dpAll_get g.2 y2
    exact ⟨Ex.refl _, d, h1, h2⟩
/-- a for over it -/
theorem s_forS (hw : EvS St wi σ H n YD) (Pv : Hp → Nat → L2.St → Hp → Prop) (h0 : ∀ H2, Ex H H2 → Pv H2 0 σ H2) (hG : ∀ H2 i σ' H', i ≤ n → Ex H H2 → Pv H2 i σ' H' → St H2 H')
    (hs : ∀ H2 i x σ' H' H4, Ex H H2 → i < n → Pv H2 i σ' H' → Ex H' H4 → YD i x H4 → g x σ' H4 fun σ2 H5 => tb { D with nx := Pv H2 (i + 1), ct := Pv H2 (i + 1), bk := D.nx } σ2 H5)
    (hd : ∀ H2 σ' H', Ex H H2 → Pv H2 n σ' H' → D.nx σ' H') : tFor wi g tb D σ H :=
  hw H (Ex.refl H) _ fun J H2 G e2 w hGG => for_it w (Pv H2) (h0 H2 e2) (fun i σ' H' hi p => hGG H' (hG H2 i σ' H' hi e2 p)) (fun i x σ' H' H4 hi p y => hs H2 i x σ' H' H4 e2 hi p y.1 y.2) fun σ' H' p => hd H2 σ' H' e2 p
theorem q_forS (hw : EvS St wi σ H n YD) (Pv : Hp → Nat → L2.St → Hp → Prop) (h0 : ∀ H2, Ex H H2 → Pv H2 0 σ H2) (hG : ∀ H2 i σ' H', i ≤ n → Ex H H2 → Pv H2 i σ' H' → St H2 H')
    (hs : ∀ H2 i x σ' H' H4, Ex H H2 → i < n → Pv H2 i σ' H' → Ex H' H4 → YD i x H4 → g x σ' H4 fun σ2 H5 => tb { D with nx := Pv H2 (i + 1), ct := Pv H2 (i + 1), bk := tz D } σ2 H5)
    (hd : ∀ H2 σ' H', Ex H H2 → Pv H2 n σ' H' → tz D σ' H') : tSeq (tFor wi g tb) tz D σ H := s_forS (D := { D with nx := tz D }) hw Pv h0 hG hs hd
/-- two names of a new pair -/
theorem g_pair {i j : Nat} {x : V} {a b : V → Hp → Prop} {Q : L2.St → Hp → Prop} (h : PairD K a b x H) (k : ∀ y z, a y H → b z H → Q ((σ.set i (some y)).set j (some z)) H) : gTup K 2 (gCons (gName i) (gCons (gName j) gNil)) x σ H Q := by
  obtain ⟨T, y, z, rfl, hT, ha, hb⟩ := h
  exact ⟨T, [y, z], rfl, st_of hT, rfl, y, [z], rfl, z, [], rfl, rfl, k y z ha hb⟩
end
end KR
/-! Law k38: the defs of nestedtexts. -/
namespace K38
open PySem PySem.Spec PyProof.Rows L2 Evl KD KR
structure Al where
  a : Str
  b : Str
  c : Str
def Al.d (al : Al) : PyData := .tuple [.str al.a, .str al.b, .str al.c]
/-- all letters, in the alphabet's order -/
def Al.all (al : Al) : Str := Txt.join "" [al.a, al.b, al.c]
def badA (al : Al) : Bool := !(decide (1 ≤ (al.all.length : Int)) && decide ((al.all.length : Int) ≤ 6)) || decide (((metS (signsOf al.all)).length : Int) < (al.all.length : Int))
def az (c : Nat) : Bool := (!decide ((one c).cps.toList < (Str.ofString "a").cps.toList)) && (!decide ((Str.ofString "z").cps.toList < (one c).cps.toList))
def badB (al : Al) : Bool := !([riseN al.a.cps.toList, riseN al.b.cps.toList, riseN al.c.cps.toList].all id) || !((al.all.cps.toList.map az).all id)
def goodAl (al : Al) : Bool := !badA al && !badB al
def caR (al : Al) : RR := if goodAl al then .ok .none else .no
def Al.short (al : Al) : Prop := ∀ s ∈ [al.a, al.b, al.c], s.length ≤ 20 ∧ asc s
theorem al3 {K : PySem.W.Frag} {H : Hp} {al : Al} {i : Nat} {x : V} (h : ∃ d, [PyData.str al.a, .str al.b, .str al.c][i]? = some d ∧ Dp K H x d) : ∃ s, [al.a, al.b, al.c][i]? = some s ∧ x = .str s := by
  obtain ⟨d, h1, h2⟩ := h
  match i, h1 with
  | 0, h1 => cases h1; exact ⟨_, rfl, dp_str h2⟩
  | 1, h1 => cases h1; exact ⟨_, rfl, dp_str h2⟩
  | 2, h1 => cases h1; exact ⟨_, rfl, dp_str h2⟩
  | i + 3, h1 => simp at h1
theorem tl_empty : TL.tl (Str.ofString "") = [] := by decide +kernel
theorem all_cps (al : Al) : al.all.cps.toList = al.a.cps.toList ++ al.b.cps.toList ++ al.c.cps.toList := by
  show TL.tl (Txt.join "" [al.a, al.b, al.c]) = _
  rw [TL.join_eq, TL.tl_join, tl_empty]
  simp [TL.joinL, TL.tl]
theorem short_all {al : Al} (h : al.short) : al.all.length ≤ 60 := by
  have e : al.all.length = al.all.cps.toList.length := by rw [Array.length_toList]; rfl
  have h1 := (h al.a (by simp)).1
  have h2 := (h al.b (by simp)).1
  have h3 := (h al.c (by simp)).1
  rw [e, all_cps, List.length_append, List.length_append, Array.length_toList, Array.length_toList, Array.length_toList]
  have a1 : al.a.cps.size ≤ 20 := h1
  have a2 : al.b.cps.size ≤ 20 := h2
  have a3 : al.c.cps.size ≤ 20 := h3
  omega
section
variable {P : Program} {w : World} {K : PySem.W.Frag} {mg : Str → Option Value} {base : Heap}
def spCA (G : Pg K mg) : Sp := fun vs H Q E => ∃ al : Al, al.short ∧ DpAll K H vs [al.d] ∧ Res G.C_NotAllowed G.C_TooLarge K H Q E (caR al)
theorem ok_check_alphabet (G : Pg K mg) {k : Nat} : FnOk P w K mg base (L2N.CX P w) (k + 1) G.f_check_alphabet G.fd_check_alphabet ["alphabet"] (spCA G) := by
  refine Fun.okXN G.F_check_alphabet sc_check_alphabet (fun vs H Q E h => ?_) (fun cdv A outer s H vs Q E hr h => ?_)
  · obtain ⟨al, _, hd, _⟩ := h
    exact dpAll_len hd
  · have tk : L2N.Takes (cxOf (L2N.CX P w) P w K mg base ["alphabet", "letters", "own", "letter"] "check_alphabet" (defScope s_check_alphabet) G.f_check_alphabet cdv A outer s H E) (fun cls d _ H => E cls d H) := L2N.takes_of rfl rfl rfl rfl
    have hu64 := hr.units
    refine ⟨_, (pss_cons (ps_if (PW.pt (pw_or (pt_cmpR op_ne (pe_callB call_len (by rfl) G.n_len (by decide +kernel) (pa_cons (pv 0) pa_nil)) pe_int (nomark _)) (pw_or1 (pt_not (pt_val (pe_callB (cr_all rfl) (by rfl) G.n_all (by decide +kernel) (pa_cons (pe_lc (own := [("own", 2)]) rfl sc_check_alphabet.nd (pi_tup (pv 0)) (blkOk_by (own := [("own", 2)]) (N := ["alphabet", "letters", "own", "letter"]) (sc := defScope s_check_alphabet) (by decide +kernel)) (fun _ _ _ _ _ => (pg_name (i := 2) sc_check_alphabet.nd rfl (Or.inl rfl))) (fun _ _ _ _ _ => pts_nil) (fun _ _ _ _ _ => (pe_callB (isiK (K := K) rfl) (by rfl) G.n_isinstance (by decide +kernel) (pa_cons (pv 2) (pa_cons (pe_ty (n := "str") (by rfl) G.n_str (by decide +kernel)) pa_nil))))) pa_nil))))))) (pss_one (L2N.ps_raise rfl tk (L2N.pmk_own PySem.F.excBase_Exception G.xC_NotAllowed G.mC_NotAllowed G.kC_NotAllowed (G.rs_NotAllowed _ rfl) rfl))) pss_nil)
      (pss_cons (ps_set (i := 1) sc_check_alphabet.nd rfl (Or.inl rfl) (pe_join pe_str (pv 0)))
      (pss_cons (ps_if (PW.pt (pw_or (pt_not (pt_chain op_le op_le pe_int (pe_callB call_len (by rfl) G.n_len (by decide +kernel) (pa_cons (pv 1) pa_nil)) (pe_gI (by rfl) G.m_MAX_SIGNS))) (pw_or1 (pt_cmpR op_lt (pe_lenSetT rfl (by rfl) G.n_len (by rfl) G.n_set (pv 1)) (pe_callB call_len (by rfl) G.n_len (by decide +kernel) (pa_cons (pv 1) pa_nil)) (nomark _))))) (pss_one (L2N.ps_raise rfl tk (L2N.pmk_own PySem.F.excBase_Exception G.xC_NotAllowed G.mC_NotAllowed G.kC_NotAllowed (G.rs_NotAllowed _ rfl) rfl))) pss_nil)
      (pss_cons (ps_if (PW.pt (pw_or (pt_not (pt_val (pe_callB (cr_all rfl) (by rfl) G.n_all (by decide +kernel) (pa_cons (pe_lc (own := [("own", 2)]) rfl sc_check_alphabet.nd (pi_tup (pv 0)) (blkOk_by (own := [("own", 2)]) (N := ["alphabet", "letters", "own", "letter"]) (sc := defScope s_check_alphabet) (by decide +kernel)) (fun _ _ _ _ _ => (pg_name (i := 2) sc_check_alphabet.nd rfl (Or.inl rfl))) (fun _ _ _ _ _ => pts_nil) (fun _ _ _ _ _ => (pe_cmpR (op_eqK (K := K) rfl hu64) (pe_callTy (call_list_str rfl) (by rfl) G.n_list (by decide +kernel) (pa_cons (pv 2) pa_nil)) (pe_callB (cr_sortedT rfl) (by rfl) G.n_sorted (by decide +kernel) (pa_cons (pv 2) pa_nil)) (nomark _)))) pa_nil)))) (pw_or1 (pt_not (pt_val (pe_callB (cr_all rfl) (by rfl) G.n_all (by decide +kernel) (pa_cons (pe_lc (own := [("letter", 3)]) rfl sc_check_alphabet.nd (pi_str (pv 1)) (blkOk_by (own := [("letter", 3)]) (N := ["alphabet", "letters", "own", "letter"]) (sc := defScope s_check_alphabet) (by decide +kernel)) (fun _ _ _ _ _ => (pg_name (i := 3) sc_check_alphabet.nd rfl (Or.inl rfl))) (fun _ _ _ _ _ => pts_nil) (fun _ _ _ _ _ => (pe_chain op_le_str op_le_str pe_str (pv 3) pe_str))) pa_nil))))))) (pss_one (L2N.ps_raise rfl tk (L2N.pmk_own PySem.F.excBase_Exception G.xC_NotAllowed G.mC_NotAllowed G.kC_NotAllowed (G.rs_NotAllowed _ rfl) rfl))) pss_nil)
      (pss_one (ps_ret pe_non)))))), ?_⟩
    obtain ⟨al, hsh, hd, hres⟩ := h
    cases hd with
    | cons h1 h2 =>
    cases h2
    rename_i va
    have hl60 := short_all hsh
    have e0 : ∀ {σ : L2.St}, σ[0]? = some (some va) → EvD K (tVar 0) σ H al.d := fun h => evd_var h h1
    have no : goodAl al = false → ∀ H', Ex H H' → E (.ref G.C_NotAllowed) none H' := fun hb => by
      have e : caR al = .no := by unfold caR; rw [hb]; rfl
      rw [e] at hres
      exact hres
    refine q_when (b := false) ?_ (fun h => by cases h) fun _ H1 x1 => ?_
    · refine et_is (et_or (b := false) (et_test (ev_ne (ev_lenT (e0 rfl)) ev_c)) fun _ => et_not (a := true) (et_B ?_)) rfl
      refine ev_is (ev_all (bs := [true, true, true]) (EvN.dp (evn_lcM (val := fun _ => .bool true) (evw_tup (e0 rfl)) (by show 3 ≤ 50000; decide) (fun _ _ => rfl) (fun _ => rfl) fun i x H1 e1 hi y => ?_))) rfl
      obtain ⟨s, _, rfl⟩ := al3 y
      exact ev_bool (ev_isStr (ev_var rfl))
    refine q_asg (v := .str al.all) ((ev_join (ys := [al.a, al.b, al.c]) ev_c (.inr ((e0 rfl).mono x1)) ?_)) fun H2 x2 => ?_
    · have q1 := (hsh al.a (by simp)).1
      have q2 := (hsh al.b (by simp)).1
      have q3 := (hsh al.c (by simp)).1
      show al.a.length + (al.b.length + (al.c.length + 0)) + 3 * 0 ≤ _
      omega
    have y2 : Ex H H2 := x1.trans x2
    have l1 : ∀ {σ : L2.St}, σ[1]? = some (some (.str al.all)) → Ev (tVar 1) σ H2 (.str al.all) := fun h => ev_var h
    refine q_when (b := badA al) ?_ (fun hb H3 x3 => ?_) fun hb H3 x3 => ?_
    · exact et_or (et_not (et_test (ev_chain ev_c (ev_lenS (l1 rfl) (by omega)) ev_c (rv_I0) fun _ => rv_I0))) fun _ => et_test (ev_lt (ev_lenSetT (l1 rfl) (by omega)) (ev_lenS (l1 rfl) (by omega)))
    · exact no (by unfold goodAl; rw [hb]; rfl) H3 (y2.trans x3)
    have y3 : Ex H H3 := y2.trans x3
    refine q_when (b := badB al) ?_ (fun hb2 H4 x4 => ?_) fun hb2 H4 x4 => ?_
    · refine et_or (et_not (et_B ?_)) fun _ => et_not (et_B ?_)
      · refine ev_all (bs := [riseN al.a.cps.toList, riseN al.b.cps.toList, riseN al.c.cps.toList]) (EvN.dp (evn_lcM (n := 3) (val := fun i => .bool (riseN (([al.a, al.b, al.c].getD i "").cps.toList))) (evw_tup ((e0 rfl).mono y3)) (by show 3 ≤ 50000; decide) (fun _ _ => rfl) (fun _ => rfl) fun i x H4 e4 hi y => ?_))
        obtain ⟨s, hs, rfl⟩ := al3 y
        rw [show [al.a, al.b, al.c].getD i "" = s by rw [List.getD_eq_getElem?_getD, hs]; rfl]
        obtain ⟨q1, q2⟩ := hsh s (List.mem_of_getElem? hs)
        exact ev_bool (ev_listEqSorted (ev_var rfl) (ev_var rfl) (by omega) q2)
      · refine ev_all (bs := al.all.cps.toList.map az) ?_
        refine EvN.dp (evn_lcD (evw_str (l1 rfl |>.mono x3)) (by simp [Str.length]) (by omega) (immAll_bools _) (fun _ => rfl) fun i x d H4 e4 hd y => ?_)
        obtain ⟨v, hv, rfl⟩ := map_get hd
        obtain ⟨c', hc', rfl⟩ := map_get hv
        obtain ⟨c, hc, rfl⟩ := y
        rw [Array.getElem?_toList, hc] at hc'
        cases hc'
        exact ev_bool (ev_chain (a := !decide ((one c').cps.toList < (Str.ofString "a").cps.toList)) (b := !decide ((Str.ofString "z").cps.toList < (one c').cps.toList)) ev_c (ev_var rfl) ev_c (fun H5 _ Q q => ⟨_, _, rfl, rfl, q H5 (Ex.refl H5)⟩) fun _ H5 _ Q q => ⟨_, _, rfl, rfl, q H5 (Ex.refl H5)⟩)
    · exact no (by unfold goodAl; rw [hb, hb2]; rfl) H4 (y3.trans x4)
    · have e : caR al = .ok .none := by unfold caR goodAl; rw [hb, hb2]; rfl
      rw [e] at hres
      exact hres _ _ (y3.trans x4) .non
end
end K38
namespace K38
open PySem PySem.Spec PyProof.Rows L2 Evl KD KR RZ
theorem al_join {K : PySem.W.Frag} {σ : L2.St} {H : Hp} {al : Al} {te : TE} (hs : al.short) (he : EvD K te σ H al.d) :
    Ev (tM1 (fun x xs H Q => ∃ a p, ∃ ys : List Str, x = .str a ∧ xs = [.ref p] ∧ (SqL K H p (ys.map V.str) ∨ SqT K H p (ys.map V.str)) ∧ (ys.map (·.length)).sum + ys.length * a.length ≤ 16777216 ∧ Q (.str (Txt.join a ys)) H) (tC (.str (Str.ofString ""))) te) σ H (.str al.all) :=
  ev_join (ys := [al.a, al.b, al.c]) ev_c (.inr he) (by
    have q1 := (hs al.a (by simp)).1
    have q2 := (hs al.b (by simp)).1
    have q3 := (hs al.c (by simp)).1
    show al.a.length + (al.b.length + (al.c.length + 0)) + 3 * 0 ≤ _
    omega)
/-- a letter of the alphabet -/
def Al.has (al : Al) (c : Nat) : Bool := decide (c ∈ al.all.cps.toList)
def ctR (al : Al) (z : Str) : RR := if goodAl al then (if z.cps.toList.all al.has then (if 400 < z.length then .big else .ok .none) else .no) else .no
section
variable {P : Program} {w : World} {K : PySem.W.Frag} {mg : Str → Option Value} {base : Heap}
def spCT (G : Pg K mg) : Sp := fun vs H Q E => ∃ (al : Al) (z : Str), al.short ∧ z.length ≤ 1000 ∧ DpAll K H vs [al.d, .str z] ∧ Res G.C_NotAllowed G.C_TooLarge K H Q E (ctR al z)
theorem ok_check_text (G : Pg K mg) {k : Nat} : FnOk P w K mg base (L2N.CX P w) (k + 2) G.f_check_text G.fd_check_text ["alphabet", "text"] (spCT G) := by
  refine Fun.okXN G.F_check_text sc_check_text (fun vs H Q E h => ?_) (fun cdv A outer s H vs Q E hr h => ?_)
  · obtain ⟨al, z, _, _, hd, _⟩ := h
    exact dpAll_len hd
  · have tk : L2N.Takes (cxOf (L2N.CX P w) P w K mg base ["alphabet", "text", "letters", "letter"] "check_text" (defScope s_check_text) G.f_check_text cdv A outer s H E) (fun cls d _ H => E cls d H) := L2N.takes_of rfl rfl rfl rfl
    have hr_check_alphabet := hr
    have G_check_alphabet := ok_check_alphabet (P := P) (w := w) (base := base) G (k := k)
    refine ⟨_, (pss_cons (ps_expr (pe_callS G_check_alphabet hr_check_alphabet (by rfl) G.m_check_alphabet G.k_check_alphabet G.b_check_alphabet (fun σ => L2N.passAt tk σ) (pa_cons (pv 0) pa_nil)))
      (pss_cons (ps_set (i := 2) sc_check_text.nd rfl (Or.inr rfl) (pe_join pe_str (pv 0)))
      (pss_cons (ps_if (pt_not (pt_val (pe_callB (cr_all rfl) (by rfl) G.n_all (by decide +kernel) (pa_cons (pe_lc (own := [("letter", 3)]) rfl sc_check_text.nd (pi_str (pv 1)) (blkOk_by (own := [("letter", 3)]) (N := ["alphabet", "text", "letters", "letter"]) (sc := defScope s_check_text) (by decide +kernel)) (fun _ _ _ _ _ => (pg_name (i := 3) sc_check_text.nd rfl (Or.inl rfl))) (fun _ _ _ _ _ => pts_nil) (fun _ _ _ _ _ => (pe_cmpR op_in_sign (pv 3) (pv 2) (by rfl)))) pa_nil)))) (pss_one (L2N.ps_raise rfl tk (L2N.pmk_own PySem.F.excBase_Exception G.xC_NotAllowed G.mC_NotAllowed G.kC_NotAllowed (G.rs_NotAllowed _ rfl) rfl))) pss_nil)
      (pss_cons (ps_if (pt_cmpR op_gt (pe_callB call_len (by rfl) G.n_len (by decide +kernel) (pa_cons (pv 1) pa_nil)) (pe_gI (by rfl) G.m_MAX_TEXT) (nomark _)) (pss_one (L2N.ps_raise rfl tk (L2N.pmk_own PySem.F.excBase_Exception G.xC_TooLarge G.mC_TooLarge G.kC_TooLarge (G.rs_TooLarge _ rfl) rfl))) pss_nil)
      (pss_one (ps_ret pe_non)))))), ?_⟩
    obtain ⟨al, z, hsh, hz, hd, hres⟩ := h
    cases hd with
    | cons h1 h2 =>
    cases h2 with
    | cons h2 h3 =>
    cases h3
    cases dp_str h2
    rename_i va
    have e0 : ∀ {σ : L2.St} {H1 : Hp}, Ex H H1 → σ[0]? = some (some va) → EvD K (tVar 0) σ H1 al.d := fun x h => evd_var h (Dpx x h1)
    cases hg : goodAl al with
    | false =>
      have e : ctR al z = .no := by unfold ctR; rw [hg]; rfl
      rw [e] at hres
      refine q_R fun D => s_dropR (evr_callS (ead_cons (e0 (Ex.refl H) rfl) ead_nil) fun vs H1 x hv Q => ⟨al, hsh, hv, ?_⟩)
      have e2 : caR al = .no := by unfold caR; rw [hg]; rfl
      rw [e2]
      exact fun H' a => hres H' (x.trans a)
    | true =>
      refine q_dropD (d := .none) (evd_callS (ead_cons (e0 (Ex.refl H) rfl) ead_nil) fun vs H1 x hv Q q => ⟨al, hsh, hv, ?_⟩) fun H1 x1 => ?_
      · have e2 : caR al = .ok .none := by unfold caR; rw [hg]; rfl
        rw [e2]
        exact fun v H' a b => q v H' a b
      refine q_asg (v := .str al.all) (al_join hsh (e0 x1 rfl)) fun H2 x2 => ?_
      have y2 := x1.trans x2
      refine q_when (b := !z.cps.toList.all al.has) ?_ (fun hb H3 x3 => ?_) fun hb H3 x3 => ?_
      · refine et_not (et_B ?_)
        rw [show z.cps.toList.all al.has = (z.cps.toList.map al.has).all id by rw [List.all_map]; rfl]
        refine ev_all (EvN.dp (evn_lcD (evw_str (ev_var rfl)) (by simp [Str.length]) (by omega) (immAll_bools _) (fun _ => rfl) fun i x d H4 e4 hd y => ?_))
        obtain ⟨v, hv, rfl⟩ := map_get hd
        obtain ⟨c', hc', rfl⟩ := map_get hv
        obtain ⟨c, hc, rfl⟩ := y
        rw [Array.getElem?_toList, hc] at hc'
        cases hc'
        exact ev_bool (ev_inS (ev_var rfl) (ev_var rfl))
      · have e : ctR al z = .no := by unfold ctR; rw [hg, Bool.not_eq_true' _ |>.mp hb]; rfl
        rw [e] at hres
        exact hres H3 (y2.trans x3)
      · have hb' : z.cps.toList.all al.has = true := by simpa using hb
        refine q_when (b := decide ((400 : Int) < (z.length : Int))) (et_test (ev_gt (ev_lenS (ev_var rfl) (by omega)) ev_c)) (fun hb H4 x4 => ?_) fun hb H4 x4 => ?_
        · have e : ctR al z = .big := by unfold ctR; rw [hg, hb', if_pos rfl, if_pos rfl, if_pos (by have := of_decide_eq_true hb; omega)]
          rw [e] at hres
          exact hres H4 ((y2.trans x3).trans x4)
        · have e : ctR al z = .ok .none := by unfold ctR; rw [hg, hb', if_pos rfl, if_pos rfl, if_neg (by have := of_decide_eq_false hb; omega)]
          rw [e] at hres
          exact hres _ _ ((y2.trans x3).trans x4) .non
def kinds3 : List Str := ["call", "plain", "return"]
theorem at0 {α : Type} (x : α) (t : List α) : atI (x :: t) 0 = some x := by
  unfold atI ixN
  rw [if_pos (by decide), if_pos (by rw [List.length_cons]; omega)]
  rfl
/-- the word of a letter's kind -/
def kindOf (al : Al) (c : Nat) : Str := if c ∈ al.a.cps.toList then "call" else if c ∈ al.b.cps.toList then "plain" else "return"
def spKK : Sp := fun vs H Q E => ∃ (al : Al) (c : Nat), al.has c = true ∧ DpAll K H vs [al.d, .str (one c)] ∧ ∀ H', Ex H H' → Q (.str (kindOf al c)) H'
theorem ok_known_kind (G : Pg K mg) {k : Nat} : FnOk P w K mg base CX0 (k + 1) G.f_known_kind G.fd_known_kind ["alphabet", "letter"] (spKK (K := K)) := by
  refine Fun.ok G.F_known_kind sc_known_kind (fun vs H Q E h => ?_) (fun cdv A outer s H vs Q E hr h => ?_)
  · obtain ⟨al, z, _, hd, _⟩ := h
    exact dpAll_len hd
  · refine ⟨_, (pss_one (ps_ret (pe_ix ix_list (pe_lc (own := [("word", 2), ("own", 3)]) rfl sc_known_kind.nd (pi_zipA (by rfl) G.n_zip (pa_cons (pe_gR (by rfl) G.m_KINDS) (pa_cons (pv 0) pa_nil))) (blkOk_by (own := [("word", 2), ("own", 3)]) (N := ["alphabet", "letter", "word", "own"]) (sc := defScope s_known_kind) (by decide +kernel)) (fun _ _ _ _ _ => (gtupK (K := K) (n := 2) rfl rfl (pgs_cons (pg_name (i := 2) sc_known_kind.nd rfl (Or.inl rfl)) (pgs_cons (pg_name (i := 3) sc_known_kind.nd rfl (Or.inl rfl)) pgs_nil)))) (fun _ _ _ _ _ => pts_one (pt_cmpR op_in_sign (pv 1) (pv 3) (by rfl))) (fun _ _ _ _ _ => (pv 2))) pe_int (fun _ _ => rfl)))), ?_⟩
    obtain ⟨al, c, hc, hd, hres⟩ := h
    cases hd with
    | cons h1 h2 =>
    cases h2 with
    | cons h2 h3 =>
    cases h3
    cases dp_str h2
    rename_i va
    have hK : EvD K (tC (.ref G.a_KINDS)) (start ["alphabet", "letter", "word", "own"] [va, .str (one c)]) H (.tuple [.str "call", .str "plain", .str "return"]) := .of ev_c (.tup (G.s_KINDS H) (dpAll_strs ["call", "plain", "return"]))
    refine s_ret (v := .str (kindOf al c)) (evd_str (K := K) ?_) fun H1 x1 => hres H1 x1
    refine evd_ixL (ds := kept 3 (fun i => decide (c ∈ ([al.a, al.b, al.c].getD i "").cps.toList)) (fun i => .str (kinds3.getD i ""))) (EvN.dp (evn_lc (evw_zipT (ead_cons hK (ead_cons (evd_var rfl h1) ead_nil))) mono_pair (fun i => decide (c ∈ ([al.a, al.b, al.c].getD i "").cps.toList)) (fun i => .str (kinds3.getD i "")) (by show 3 ≤ 50000; decide) (fun _ _ _ => rfl) fun i x H1 e1 hi y => ?_)) ev_c ?_
    · refine g_pair y fun u v ⟨d, hd1, hd2⟩ ⟨d', hd1', hd2'⟩ => ?_
      obtain ⟨s', hs', rfl⟩ := al3 ⟨d', hd1', hd2'⟩
      have hk : kinds3[i]? = some (kinds3.getD i "") ∧ u = .str (kinds3.getD i "") := by
        match i, hd1 with
        | 0, hd1 => cases hd1; exact ⟨rfl, dp_str hd2⟩
        | 1, hd1 => cases hd1; exact ⟨rfl, dp_str hd2⟩
        | 2, hd1 => cases hd1; exact ⟨rfl, dp_str hd2⟩
        | i + 3, hd1 => simp at hd1
      obtain ⟨_, rfl⟩ := hk
      refine ⟨Ex.refl _, rfl, ?_, fun _ => ev_str (ev_var rfl)⟩
      rw [show [al.a, al.b, al.c].getD i "" = s' by rw [List.getD_eq_getElem?_getD, hs']; rfl]
      exact et_test (ev_inS (c := c) (ev_var rfl) (ev_var rfl))
    · unfold kindOf
      unfold Al.has at hc
      rw [all_cps, decide_eq_true_eq, List.mem_append, List.mem_append] at hc
      have e3 : List.range 3 = [0, 1, 2] := rfl
      unfold kept
      rw [e3]
      by_cases ha : c ∈ al.a.cps.toList
      · rw [if_pos ha, List.filter_cons, if_pos (by simpa using ha)]
        exact at0 _ _
      · rw [if_neg ha, List.filter_cons, if_neg (by simpa using ha)]
        by_cases hb : c ∈ al.b.cps.toList
        · rw [if_pos hb, List.filter_cons, if_pos (by simpa using hb)]
          exact at0 _ _
        · have hcc : c ∈ al.c.cps.toList := by
            rcases hc with (h | h) | h
            · exact absurd h ha
            · exact absurd h hb
            · exact h
          rw [if_neg hb, List.filter_cons, if_neg (by simpa using hb), List.filter_cons, if_pos (by simpa using hcc)]
          exact at0 _ _
end
end K38
namespace KR
open PySem PySem.Spec PyProof.Rows L2 Evl KD
section
variable {K : PySem.W.Frag} {σ : L2.St} {H : Hp} {ta tb : TE} {D : Ends} {tz : TS}
theorem el_rep {xs : List V} {n : Int} (ha : EvL ta σ H xs) (hb : Ev tb σ H (.int n)) (h0 : 0 ≤ n ∧ n < 2 ^ 62) (hl : xs.length * n.toNat ≤ 100000) : EvL (tOp rRep ta tb) σ H (List.replicate n.toNat xs).flatten := fun H1 e Q q =>
  ha H1 e _ fun p H2 hp e2 h2 => hb H2 (e.trans e2) _ fun H3 e3 => ⟨p, n, xs, rfl, rfl, e3 p _ h2, by omega, by omega, sz_of hl, fun l hl => q l _ (fresh_back (e2.trans e3) hl) ((e2.trans e3).trans (Ex.new hl)) upd_same⟩
theorem rep1 (n : Nat) (v : V) : (List.replicate n [v]).flatten = List.replicate n v := by
  induction n with
  | zero => rfl
  | succ n ih => rw [List.replicate_succ, List.flatten_cons, ih]; rfl
theorem q_parLL {i j : Nat} {xs ys : List V} (h1 : EvL ta σ H xs) (h2 : EvL tb σ H ys)
    (k : ∀ p q H1, H p = none → H q = none → p ≠ q → Ex H H1 → H1 p = some (.lst xs) → H1 q = some (.lst ys) → tz D ((σ.set i (some (.ref p))).set j (some (.ref q))) H1) : tSeq (tPar i j (tCons ta (tCons tb tNil))) tz D σ H :=
  h1 H (Ex.refl H) _ fun p H1 hp e1 hp1 => h2 H1 e1 _ fun q H2 hq e2 hq2 => ⟨.ref p, .ref q, rfl, k p q H2 hp (fresh_back e1 hq) (fun z => by rw [z, hq] at hp1; cases hp1) (e1.trans e2) (e2 p _ hp1) hq2⟩
end
end KR
namespace K38
open PySem PySem.Spec PyProof.Rows L2 Evl KD KR RZ
/-! ### the partners, by a stack -/
def inA (al : Al) (c : Nat) : Bool := decide (c ∈ al.a.cps.toList)
def inB (al : Al) (c : Nat) : Bool := decide (c ∈ al.b.cps.toList)
def inC (al : Al) (c : Nat) : Bool := decide (c ∈ al.c.cps.toList)
def stepP (al : Al) (st : List Int × List Int) (i : Nat) (c : Nat) : List Int × List Int :=
  if inA al c = true then (st.1, st.2 ++ [(i : Int)])
  else if (inC al c && decide ((0 : Int) < (st.2.length : Int))) = true then ((st.1.set i (st.2.getLastD 0)).set (st.2.getLastD 0).toNat (i : Int), st.2.dropLast)
  else st
def runP (al : Al) (z : Str) : Nat → List Int × List Int
  | 0 => (List.replicate z.length (-1), [])
  | i + 1 => stepP al (runP al z i) i (z.cps.toList.getD i 0)
def partners (al : Al) (z : Str) : List Int := (runP al z z.length).1
theorem stepP_len (al : Al) (st : List Int × List Int) (i c : Nat) : (stepP al st i c).1.length = st.1.length := by
  unfold stepP
  split
  · rfl
  · split <;> simp
theorem runP_len (al : Al) (z : Str) : ∀ i, (runP al z i).1.length = z.length
  | 0 => by simp [runP]
  | i + 1 => by rw [runP, stepP_len, runP_len al z i]
theorem runP_line (al : Al) (z : Str) : ∀ i, (runP al z i).2.length ≤ i ∧ ∀ p ∈ (runP al z i).2, ∃ k : Nat, p = k ∧ k < i
  | 0 => ⟨Nat.le_refl _, fun p hp => by cases hp⟩
  | i + 1 => by
    obtain ⟨h1, h2⟩ := runP_line al z i
    rw [runP]
    unfold stepP
    split
    · refine ⟨by rw [List.length_append]; simp; omega, fun p hp => ?_⟩
      rcases List.mem_append.mp hp with hp | hp
      · obtain ⟨k, e, hk⟩ := h2 p hp
        exact ⟨k, e, by omega⟩
      · exact ⟨i, List.mem_singleton.mp hp, by omega⟩
    · split
      · refine ⟨by rw [List.length_dropLast]; omega, fun p hp => ?_⟩
        obtain ⟨k, e, hk⟩ := h2 p (List.dropLast_subset _ hp)
        exact ⟨k, e, by omega⟩
      · refine ⟨by omega, fun p hp => ?_⟩
        obtain ⟨k, e, hk⟩ := h2 p hp
        exact ⟨k, e, by omega⟩
section
variable {P : Program} {w : World} {K : PySem.W.Frag} {mg : Str → Option Value} {base : Heap}
def spKP : Sp := fun vs H Q E => ∃ (al : Al) (z : Str), z.length ≤ 1000 ∧ DpAll K H vs [al.d, .str z] ∧ ∀ p H', H p = none → Ex H H' → H' p = some (.lst ((partners al z).map V.int)) → Q (.ref p) H'
theorem ok_known_partners (G : Pg K mg) {k : Nat} : FnOk P w K mg base CX0 (k + 1) G.f_known_partners G.fd_known_partners ["alphabet", "text"] (spKP (K := K)) := by
  refine Fun.ok G.F_known_partners sc_known_partners (fun vs H Q E h => ?_) (fun cdv A outer s H vs Q E hr h => ?_)
  · obtain ⟨al, z, _, hd, _⟩ := h
    exact dpAll_len hd
  · refine ⟨_, (pss_cons (ps_par (i := 2) (j := 3) rfl sc_known_partners.nd rfl rfl (by decide) rfl rfl (pa_cons (pe_op op_rep (pe_lst (pa_cons (pe_un un_neg pe_int) pa_nil)) (pe_callB call_len (by rfl) G.n_len (by decide +kernel) (pa_cons (pv 1) pa_nil))) (pa_cons (pe_lst pa_nil) pa_nil)) (by rfl))
      (pss_cons (ps_for PassesOwn.never rfl (pi_enumS (by rfl) G.n_enumerate (pa_cons (pv 1) pa_nil)) (pg_tup rfl (pgs_cons (pg_name (i := 4) sc_known_partners.nd rfl (Or.inl rfl)) (pgs_cons (pg_name (i := 5) sc_known_partners.nd rfl (Or.inl rfl)) pgs_nil))) (pss_one (ps_if (pt_cmpR op_in_sign (pv 5) (pe_ix ix_tup (pv 0) pe_int (fun _ _ => rfl)) (by rfl)) (pss_one (ps_expr (pe_bm PySem.F.plainAttrs_list PySem.F.slot_list_append PySem.F.type_list_append mt_append (pv 3) (pa_cons (pv 4) pa_nil)))) (pss_one (ps_if (PW.pt (pw_and (pt_cmpR op_in_sign (pv 5) (pe_ix ix_tup (pv 0) pe_int (fun _ _ => rfl)) (by rfl)) (pw_and1 (pt_cmpR op_gt (pe_callB call_len (by rfl) G.n_len (by decide +kernel) (pa_cons (pv 3) pa_nil)) pe_int (nomark _))))) (pss_cons (ps_set (i := 6) sc_known_partners.nd rfl (Or.inl rfl) (pe_bm0 PySem.F.plainAttrs_list PySem.F.slot_list_pop PySem.F.type_list_pop mt_pop (pv 3)))
            (pss_one (ps_asg (pe_tup (pa_cons (pv 6) (pa_cons (pv 4) pa_nil))) (pg_tup rfl (pgs_cons (pg_sub (pv 2) (pv 4) set_list) (pgs_cons (pg_sub (pv 2) (pv 6) set_list) pgs_nil)))))) pss_nil)))))
      (pss_one (ps_ret (pv 2))))), ?_⟩
    obtain ⟨al, z, hz, hd, hres⟩ := h
    cases hd with
    | cons h1 h2 =>
    cases h2 with
    | cons h2 h3 =>
    cases h3
    cases dp_str h2
    rename_i va
    refine q_parLL (el_rep (el_lst (ea_cons (ev_neg ev_c) ea_nil) (by decide)) (ev_lenS (ev_var rfl) (by omega)) (by omega) (by simp; omega)) (el_lst ea_nil (by decide)) fun pf pl H1 hpf hpl hne e1 hf1 hl1 => ?_
    rw [rep1] at hf1
    refine q_forS (evs_enumS (K := K) (z := z) (ea_cons (ev_var rfl) ea_nil))
      (fun H2 i σ' H' => Ex H H' ∧ H' pf = some (.lst ((runP al z i).1.map V.int)) ∧ H' pl = some (.lst ((runP al z i).2.map V.int)) ∧ ∃ x y u, σ' = [some va, some (.str z), some (.ref pf), some (.ref pl), x, y, u])
      (fun H2 e2 => ⟨e1.trans e2, ?_, e2 _ _ hl1, none, none, none, rfl⟩) (fun _ _ _ _ _ _ _ => trivial) (fun H2 i x σ' H' H4 e2 hi p e4 y => ?_) fun H2 σ' H' e2 p => ?_
    · have : (runP al z 0).1.map V.int = List.replicate z.length (V.int (-1)) := by simp [runP]
      rw [this]
      exact e2 _ _ (by simpa using hf1)
    · obtain ⟨p1, p2, p3, x1, x2, x3, rfl⟩ := p
      have p1' : Ex H H4 := p1.trans e4
      have p2' := e4 _ _ p2
      have p3' := e4 _ _ p3
      have hat : ∀ {σ : L2.St} {H1 : Hp}, Ex H H1 → σ[0]? = some (some va) → EvD K (tVar 0) σ H1 al.d := fun x h => evd_var h (Dpx x h1)
      refine g_pair y fun u v hu ⟨c, hc, hv⟩ => ?_
      subst hu hv
      have hcd : z.cps.toList.getD i 0 = c := by rw [List.getD_eq_getElem?_getD, Array.getElem?_toList, hc]; rfl
      have hrun : runP al z (i + 1) = stepP al (runP al z i) i c := by rw [runP, hcd]
      obtain ⟨ll, lm⟩ := runP_line al z i
      refine s_if (b := inA al c) (et_test (ev_inS (c := c) (ev_var rfl) (evd_str (evd_ixT (hat p1' rfl) ev_c rfl)))) (fun hb H5 e5 => ?_) fun hb H5 e5 => ?_
      · refine s_app (e5 _ _ p3') (ev_var rfl) (ev_var rfl) (by rw [List.length_map]; omega) fun H6 e6 => ?_
        refine ⟨Ex.mut (p1'.trans (e5.trans e6)) hpl, ?_, ?_, _, _, _, rfl⟩
        · rw [upd_ne hne, hrun]
          unfold stepP
          rw [if_pos hb]
          exact e6 _ _ (e5 _ _ p2')
        · rw [upd_same, hrun]
          unfold stepP
          rw [if_pos hb, List.map_append]
          rfl
      · refine s_when (b := inC al c && decide ((0 : Int) < ((runP al z i).2.length : Int))) ?_ (fun hb2 H6 e6 => ?_) fun hb2 H6 e6 => ?_
        · refine et_and (et_test (ev_inS (c := c) (ev_var rfl) (evd_str (evd_ixT (hat (p1'.trans e5) rfl) ev_c rfl)))) fun _ => ?_
          have h := ev_lenL (K := K) (evd_var (σ := [some va, some (.str z), some (.ref pf), some (.ref pl), some (.int (i : Nat)), some (.str ⟨#[c]⟩), x3]) (i := 3) rfl (.lst (sq_of (e5 _ _ p3')) (dpAll_ints (runP al z i).2)))
          rw [List.length_map] at h
          exact et_test (ev_gt h ev_c)
        · have hb2' := (Bool.and_eq_true _ _ ▸ hb2).2
          have hlen : 0 < (runP al z i).2.length := by have := of_decide_eq_true hb2'; omega
          obtain ⟨p, hp⟩ : ∃ p, (runP al z i).2[(runP al z i).2.length - 1]? = some p := ⟨_, List.getElem?_eq_getElem (by omega)⟩
          obtain ⟨kp, rfl, hkp⟩ := lm p (List.mem_of_getElem? hp)
          have hlast : (runP al z i).2.getLastD 0 = (kp : Int) := by
            rw [List.getLastD_eq_getLast?, List.getLast?_eq_getElem?, hp]
            rfl
          have e46 := e5.trans e6
          have q3 := e46 _ _ p3'
          have q2 := e46 _ _ p2'
          refine ⟨.ref pl, rfl, Or.inl ⟨rfl, _, sq_of q3⟩, pl, _, .int (kp : Nat), rfl, rfl, q3, by rw [List.length_map, List.getElem?_map, hp]; rfl, ?_⟩
          generalize hH7 : upd H6 pl (.lst ((runP al z i).2.map V.int).dropLast) = H7
          have x7 : Ex H H7 := by rw [← hH7]; exact Ex.mut (p1'.trans e46) hpl
          have f7 : H7 pf = some (.lst ((runP al z i).1.map V.int)) := by rw [← hH7, upd_ne hne]; exact q2
          have l7 : H7 pl = some (.lst ((runP al z i).2.map V.int).dropLast) := by rw [← hH7, upd_same]
          refine ⟨_, rfl, _, rfl, by show 2 ≤ sizeLine; decide, fun p hp7 => ?_⟩
          have npf : pf ≠ p := fun z => by rw [z, hp7] at f7; cases f7
          have npl : pl ≠ p := fun z => by rw [z, hp7] at l7; cases l7
          have i1 : i < ((runP al z i).1.map V.int).length := by rw [List.length_map, runP_len]; exact hi
          refine ⟨p, [.int (kp : Nat), .int (i : Nat)], rfl, st_of upd_same, rfl, .int (kp : Nat), [.int (i : Nat)], rfl, ⟨_, rfl, _, rfl, pf, _, (i : Nat), i, rfl, rfl, by rw [upd_ne npf]; exact f7, ixN_nat i1, ?_⟩⟩
          refine ⟨.int (i : Nat), [], rfl, ⟨_, rfl, _, rfl, pf, _, (kp : Nat), kp, rfl, rfl, upd_same, ixN_nat (by rw [List.length_set, List.length_map, runP_len]; omega), rfl, ?_⟩⟩
          refine ⟨Ex.mut (Ex.mut (x7.trans (Ex.new hp7)) hpf) hpf, ?_, ?_, _, _, _, rfl⟩
          · rw [upd_same, hrun]
            unfold stepP
            rw [if_neg (by rw [hb]; decide), if_pos hb2, hlast]
            simp only [List.map_set, Int.toNat_natCast]
          · rw [upd_ne (Ne.symm hne), upd_ne (Ne.symm hne), upd_ne npl, l7, hrun]
            unfold stepP
            rw [if_neg (by rw [hb]; decide), if_pos hb2, List.map_dropLast]
        · refine ⟨p1'.trans (e5.trans e6), ?_, ?_, _, _, _, rfl⟩
          · rw [hrun]
            unfold stepP
            rw [if_neg (by rw [hb]; decide), if_neg (by rw [hb2]; decide)]
            exact e6 _ _ (e5 _ _ p2')
          · rw [hrun]
            unfold stepP
            rw [if_neg (by rw [hb]; decide), if_neg (by rw [hb2]; decide)]
            exact e6 _ _ (e5 _ _ p3')
    · obtain ⟨p1, p2, p3, x1, x2, x3, rfl⟩ := p
      exact s_ret (v := .ref pf) (ev_var rfl) fun H5 e5 => hres pf H5 hpf (p1.trans e5) (e5 _ _ p2)
end
end K38
namespace KR
open PySem PySem.Spec PyProof.Rows L2 Evl KD
section
variable {K : PySem.W.Frag} {σ : L2.St} {H : Hp} {ta : TE} {t : TA} {d : PyData} {ds : List PyData} {v : V}
theorem ev_fld {a C dx : Addr} {fs : List (Str × V)} {f : Str} (ha : Ev ta σ H (.ref a)) (h : H a = some (.ins C dx fs)) (c : Cls K C) (n : NoAttr K C f) (hl : fs.lookup f = some v) : Ev (tFld K ta f) σ H v := fun H1 e Q q =>
  ha H1 e _ fun H2 e2 => ⟨a, C, dx, fs, v, rfl, e2 a _ (e a _ h), c, n, hl, q H2 e2⟩
theorem evd_meth {a C dx : Addr} {fs : List (Str × V)} {m : Str} {sp : Sp} {E : XK} (ho : Ev ta σ H (.ref a)) (h : H a = some (.ins C dx fs)) (hl : fs.lookup m = none) (ha : EvAD K t σ H ds)
    (hs : ∀ vs H1, Ex H H1 → DpAll K H1 vs ds → ∀ Q : VK, (∀ v H2, Ex H1 H2 → Dp K H2 v d → Q v H2) → sp (.ref a :: vs) H1 Q E) : EvD K (tMeth C m sp [] E ta t) σ H d := fun H1 e Q q =>
  ho H1 e _ fun H2 e2 => ⟨a, dx, fs, rfl, e2 a _ (e a _ h), hl, ha H2 (e.trans e2) _ fun vs H3 e3 hv => by
    rw [List.append_nil]
    exact hs vs H3 ((e.trans e2).trans e3) hv Q fun v H4 e4 hd => q v H4 ((e2.trans e3).trans e4) hd⟩
end
end KR
namespace K38
open PySem PySem.Spec PyProof.Rows L2 Evl KD KR RZ
/-! ### the caller -/
def at_ (z : Str) (k : Nat) : Nat := z.cps.toList.getD k 0
def callC (al : Al) (z : Str) (rows : List Int) (place k : Nat) : Bool := inA al (at_ z k) && (decide (rows.getD k 0 = -1) || decide ((place : Int) < rows.getD k 0))
def callerL (al : Al) (z : Str) (rows : List Int) (place : Nat) : Nat → Int
  | 0 => -1
  | k + 1 => if callC al z rows place k = true then (k : Nat) else callerL al z rows place k
theorem atI_at {z : Str} {k : Nat} (h : k < z.length) : atI z.cps.toList (k : Int) = some (at_ z k) := by
  have h' : k < z.cps.toList.length := by rw [Array.length_toList]; exact h
  unfold atI
  rw [ixN_nat h']
  show z.cps.toList[k]? = _
  unfold at_
  rw [List.getD_eq_getElem?_getD, List.getElem?_eq_getElem h']
  rfl
theorem atI_nat {α : Type} {l : List α} {k : Nat} {x : α} (h : l[k]? = some x) : atI l (k : Int) = some x := by
  have h' : k < l.length := (List.getElem?_eq_some_iff.mp h).1
  unfold atI
  rw [ixN_nat h']
  exact h
theorem getD_some {α : Type} {l : List α} {k : Nat} {x : α} (h : k < l.length) : l[k]? = some (l.getD k x) := by
  rw [List.getD_eq_getElem?_getD, List.getElem?_eq_getElem h]
  rfl
section
variable {P : Program} {w : World} {K : PySem.W.Frag} {mg : Str → Option Value} {base : Heap}
def spKC : Sp := fun vs H Q E => ∃ (al : Al) (z : Str) (rows : List Int) (place : Nat), z.length ≤ 1000 ∧ rows.length = z.length ∧ place ≤ z.length ∧ DpAll K H vs [.list (rows.map .int), al.d, .str z, .int (place : Nat)] ∧ ∀ H', Ex H H' → Q (.int (callerL al z rows place place)) H'
theorem ok_known_caller (G : Pg K mg) {k : Nat} : FnOk P w K mg base CX0 (k + 1) G.f_known_caller G.fd_known_caller ["rows", "alphabet", "text", "place"] (spKC (K := K)) := by
  refine Fun.ok G.F_known_caller sc_known_caller (fun vs H Q E h => ?_) (fun cdv A outer s H vs Q E hr h => ?_)
  · obtain ⟨al, z, rows, place, _, _, _, hd, _⟩ := h
    exact dpAll_len hd
  · refine ⟨_, (pss_cons (ps_for PassesOwn.never rfl (pi_range3 (by rfl) G.n_range (pa_cons (pe_op op_sub (pv 3) pe_int) (pa_cons (pe_un un_neg pe_int) (pa_cons (pe_un un_neg pe_int) pa_nil)))) (pg_name (i := 4) sc_known_caller.nd rfl (Or.inl rfl)) (pss_one (ps_if (PW.pt (pw_and (pt_cmpR op_in_sign (pe_ix ix_str (pv 2) (pv 4) (fun _ _ => rfl)) (pe_ix ix_tup (pv 1) pe_int (fun _ _ => rfl)) (by rfl)) (pw_and1 (PW.pt (pw_or (pt_cmpR op_eq (pe_ix ix_list (pv 0) (pv 4) (fun _ _ => rfl)) (pe_un un_neg pe_int) (nomark _)) (pw_or1 (pt_cmpR op_gt (pe_ix ix_list (pv 0) (pv 4) (fun _ _ => rfl)) (pv 3) (nomark _)))))))) (pss_one (ps_ret (pv 4))) pss_nil)))
      (pss_one (ps_ret (pe_un un_neg pe_int)))), ?_⟩
    obtain ⟨al, z, rows, place, hz, hrl, hpl, hd, hres⟩ := h
    cases hd with
    | cons h0 h1 =>
    cases h1 with
    | cons h1 h2 =>
    cases h2 with
    | cons h2 h3 =>
    cases h3 with
    | cons h3 h4 =>
    cases h4
    cases dp_str h2
    cases dp_int h3
    rename_i vr va
    refine q_forS (evs_down (n := (place : Nat)) (ea_cons (ev_sub (ev_var rfl) ev_c) (ea_cons (ev_neg ev_c) (ea_cons (ev_neg ev_c) ea_nil))) (by omega))
      (fun H2 i σ' H' => Ex H H' ∧ callerL al z rows place place = callerL al z rows place (place - i) ∧ ∃ x, σ' = [some vr, some va, some (.str z), some (.int (place : Nat)), x])
      (fun H2 e2 => ⟨e2, by rw [Nat.sub_zero], none, rfl⟩) (fun _ _ _ _ _ _ _ => trivial) (fun H2 i x σ' H' H4 e2 hi p e4 y => ?_) fun H2 σ' H' e2 p => ?_
    · obtain ⟨p1, p2, x1, rfl⟩ := p
      have hi' : i < place := by omega
      have ex : x = .int ((place - 1 - i : Nat) : Int) := by rw [y]; congr 1; omega
      subst ex
      have p1' := p1.trans e4
      have hk : place - 1 - i < z.length := by omega
      have hsuc : place - i = (place - 1 - i) + 1 := by omega
      have hrow : ∀ {σ : L2.St} {H1 : Hp}, Ex H H1 → σ[0]? = some (some vr) → σ[4]? = some (some (.int ((place - 1 - i : Nat) : Int))) → Ev (tOp (rIxL K) (tVar 0) (tVar 4)) σ H1 (.int (rows.getD (place - 1 - i) 0)) := fun x h h4 =>
        evd_int (evd_ixL (evd_var h (Dpx x h0)) (ev_var h4) (atI_nat (by rw [List.getElem?_map, getD_some (x := 0) (by omega)]; rfl)))
      refine s_when (b := callC al z rows place (place - 1 - i)) ?_ (fun hb H5 e5 => ?_) fun hb H5 e5 => ?_
      · refine et_and (et_test (ev_inS (c := at_ z (place - 1 - i)) (ev_ixS (ev_var rfl) (ev_var rfl) (by omega) (atI_at hk)) (evd_str (evd_ixT (evd_var rfl (Dpx p1' h1)) ev_c rfl)))) fun _ => ?_
        refine et_or ?_ fun _ => et_test (ev_gt (hrow p1' rfl rfl) (ev_var rfl))
        have h := et_test (ev_eq (y := .int (-1)) (hrow p1' (σ := ([some vr, some va, some (.str z), some (.int (place : Nat)), x1].set 4 (some (.int ((place - 1 - i : Nat) : Int))))) rfl rfl) (ev_neg (i := 1) ev_c))
        refine et_is h ?_
        by_cases e : rows.getD (place - 1 - i) 0 = -1
        · rw [e]; rfl
        · rw [decide_eq_false e, decide_eq_false (fun z => e (by injection z))]
      · refine s_ret (v := .int ((place - 1 - i : Nat) : Int)) (ev_var rfl) fun H6 e6 => ?_
        have : callerL al z rows place place = ((place - 1 - i : Nat) : Int) := by
          rw [p2, hsuc, callerL, if_pos hb]
        rw [← this]
        exact hres H6 (p1'.trans (e5.trans e6))
      · refine ⟨p1'.trans e5, ?_, _, rfl⟩
        rw [p2, hsuc, callerL, if_neg (by rw [hb]; decide)]
        congr 1
        omega
    · obtain ⟨p1, p2, x1, rfl⟩ := p
      refine s_ret (v := .int (-1)) (ev_neg ev_c) fun H5 e5 => ?_
      have : callerL al z rows place place = -1 := by
        rw [p2, Int.toNat_natCast, Nat.sub_self]; rfl
      rw [← this]
      exact hres H5 (p1.trans e5)
end
end K38
namespace K38
open PySem PySem.Spec PyProof.Rows L2 Evl KD KR RZ
/-! ### a Seen -/
def around (al : Al) (z : Str) : List Int := (List.range z.length).map fun i => callerL al z (partners al z) i i
theorem partners_len (al : Al) (z : Str) : (partners al z).length = z.length := runP_len al z _
theorem around_len (al : Al) (z : Str) : (around al z).length = z.length := by unfold around; simp
def seenF (va vp vr : V) (z : Str) : List (Str × V) := [("alphabet", va), ("text", .str z), ("partners", vp), ("around", vr)]
/-- a is a Seen of al and z -/
def SeenAt (K : PySem.W.Frag) (C : Addr) (H : Hp) (a : Addr) (al : Al) (z : Str) : Prop := ∃ dx va vp vr, H a = some (.ins C dx (seenF va vp vr z)) ∧ Dp K H va al.d ∧ Dp K H vp (.list ((partners al z).map .int)) ∧ Dp K H vr (.list ((around al z).map .int))
theorem SeenAt.mono {K : PySem.W.Frag} {C : Addr} {H H' : Hp} {a : Addr} {al : Al} {z : Str} (h : SeenAt K C H a al z) (e : Ex H H') : SeenAt K C H' a al z := by
  obtain ⟨dx, va, vp, vr, h1, h2, h3, h4⟩ := h
  exact ⟨dx, va, vp, vr, e _ _ h1, Dpx e h2, Dpx e h3, Dpx e h4⟩
/-- where one goes on behind a place -/
def behindM (al : Al) (z : Str) (k : Nat) : Int := if inA al (at_ z k) = true then (partners al z).getD k 0 else if (decide (((k : Int) + 1) < (z.length : Int)) && !inC al (at_ z (k + 1))) = true then (k : Int) + 1 else -1
section
variable {P : Program} {w : World} {K : PySem.W.Frag} {mg : Str → Option Value} {base : Heap}
section
variable {σ : L2.St} {H : Hp} {te : TE} {a : Addr} {al : Al} {z : Str}
theorem seen_text (G : Pg K mg) (h : SeenAt K G.C_Seen H a al z) (ho : Ev te σ H (.ref a)) : Ev (tFld K te "text") σ H (.str z) := by
  obtain ⟨dx, va, vp, vr, h1, _⟩ := h
  exact ev_fld ho h1 G.cl_Seen G.nA_text rfl
theorem seen_al (G : Pg K mg) (h : SeenAt K G.C_Seen H a al z) (ho : Ev te σ H (.ref a)) : EvD K (tFld K te "alphabet") σ H al.d := by
  obtain ⟨dx, va, vp, vr, h1, h2, _⟩ := h
  exact .of (ev_fld ho h1 G.cl_Seen G.nA_alphabet rfl) h2
theorem seen_par (G : Pg K mg) (h : SeenAt K G.C_Seen H a al z) (ho : Ev te σ H (.ref a)) : EvD K (tFld K te "partners") σ H (.list ((partners al z).map .int)) := by
  obtain ⟨dx, va, vp, vr, h1, h2, h3, _⟩ := h
  exact .of (ev_fld ho h1 G.cl_Seen G.nA_partners rfl) h3
theorem seen_aro (G : Pg K mg) (h : SeenAt K G.C_Seen H a al z) (ho : Ev te σ H (.ref a)) : EvD K (tFld K te "around") σ H (.list ((around al z).map .int)) := by
  obtain ⟨dx, va, vp, vr, h1, h2, _, h3⟩ := h
  exact .of (ev_fld ho h1 G.cl_Seen G.nA_around rfl) h3
end
def spBe (G : Pg K mg) : Sp := fun vs H Q E => ∃ (a : Addr) (al : Al) (z : Str) (k : Nat), vs = [.ref a, .int (k : Nat)] ∧ SeenAt K G.C_Seen H a al z ∧ z.length ≤ 1000 ∧ k < z.length ∧ ∀ H', Ex H H' → Q (.int (behindM al z k)) H'
theorem ok_behind (G : Pg K mg) {k : Nat} : FnOk P w K mg base CX0 (k + 1) G.f_Seen_behind G.fd_Seen_behind ["self", "at"] (spBe G) := by
  refine Fun.ok G.F_Seen_behind sc_Seen_behind (fun vs H Q E h => ?_) (fun cdv A outer s H vs Q E hr h => ?_)
  · obtain ⟨a, al, z, k, rfl, _⟩ := h
    rfl
  · refine ⟨_, (pss_cons (ps_if (pt_cmpR op_in_sign (pe_ix ix_str (pe_fld (pv 0) rfl) (pv 1) (fun _ _ => rfl)) (pe_ix ix_tup (pe_fld (pv 0) rfl) pe_int (fun _ _ => rfl)) (by rfl)) (pss_one (ps_ret (pe_ix ix_list (pe_fld (pv 0) rfl) (pv 1) (fun _ _ => rfl)))) pss_nil)
      (pss_cons (ps_set (i := 2) sc_Seen_behind.nd rfl (Or.inl rfl) (pe_op op_add (pv 1) pe_int))
      (pss_one (ps_ret (pe_ifExp (PW.pt (pw_and (pt_cmpR op_lt (pv 2) (pe_callB call_len (by rfl) G.n_len (by decide +kernel) (pa_cons (pe_fld (pv 0) rfl) pa_nil)) (nomark _)) (pw_and1 (pt_cmpR op_notIn_sign (pe_ix ix_str (pe_fld (pv 0) rfl) (pv 2) (fun _ _ => rfl)) (pe_ix ix_tup (pe_fld (pv 0) rfl) pe_int (fun _ _ => rfl)) (by rfl))))) (pv 2) (pe_un un_neg pe_int)))))), ?_⟩
    obtain ⟨a, al, z, k, rfl, hS, hz, hk, hres⟩ := h
    have tx : ∀ {σ : L2.St} {H1 : Hp}, Ex H H1 → σ[0]? = some (some (.ref a)) → Ev (tFld K (tVar 0) "text") σ H1 (.str z) := fun x h => seen_text G (hS.mono x) (ev_var h)
    have ax : ∀ {σ : L2.St} {H1 : Hp}, Ex H H1 → σ[0]? = some (some (.ref a)) → EvD K (tFld K (tVar 0) "alphabet") σ H1 al.d := fun x h => seen_al G (hS.mono x) (ev_var h)
    refine q_when (b := inA al (at_ z k)) (et_test (ev_inS (c := at_ z k) (ev_ixS (tx (Ex.refl H) rfl) (ev_var rfl) (by omega) (atI_at hk)) (evd_str (evd_ixT (ax (Ex.refl H) rfl) ev_c rfl)))) (fun hb H1 e1 => ?_) fun hb H1 e1 => ?_
    · refine s_ret (v := .int ((partners al z).getD k 0)) (evd_int (evd_ixL (seen_par G (hS.mono e1) (ev_var rfl)) (ev_var rfl) (atI_nat (by rw [List.getElem?_map, getD_some (x := 0) (by rw [partners_len]; exact hk)]; rfl)))) fun H2 e2 => ?_
      have := hres H2 (e1.trans e2)
      unfold behindM at this
      rwa [if_pos hb] at this
    · refine q_asg (v := .int ((k : Int) + 1)) (ev_add (ev_var rfl) ev_c) fun H2 e2 => ?_
      have e12 := e1.trans e2
      refine s_ret (v := .int (behindM al z k)) (ev_if (b := decide (((k : Int) + 1) < (z.length : Int)) && !inC al (at_ z (k + 1))) (et_and (et_test (ev_lt (ev_var rfl) (ev_lenS (tx e12 rfl) (by omega)))) fun hb2 => et_test (ev_ninS (c := at_ z (k + 1)) (ev_ixS (i := ((k + 1 : Nat) : Int)) (tx e12 rfl) (ev_var rfl) (by omega) (atI_at (by have := of_decide_eq_true hb2; omega))) (evd_str (evd_ixT (ax e12 rfl) ev_c rfl)))) (fun hb2 => ?_) fun hb2 => ?_) fun H3 e3 => hres H3 (e12.trans e3)
      · unfold behindM
        rw [if_neg (by rw [hb]; decide), if_pos hb2]
        exact ev_var rfl
      · unfold behindM
        rw [if_neg (by rw [hb]; decide), if_neg (by rw [hb2]; decide)]
        exact ev_neg ev_c
end
end K38
namespace K38
open PySem PySem.Spec PyProof.Rows L2 Evl KD KR RZ
/-! ### partners lie where they must -/
def Fw (j n : Nat) (x : Int) : Prop := x = -1 ∨ ∃ m : Nat, x = m ∧ j < m ∧ m < n
theorem runP_fwd (al : Al) (z : Str) : ∀ i, ∀ j, inA al (at_ z j) = true → Fw j i ((runP al z i).1.getD j (-1))
  | 0, j, _ => by
    left
    show (List.replicate z.length (-1 : Int)).getD j (-1) = -1
    rw [List.getD_eq_getElem?_getD, List.getElem?_replicate]
    split <;> rfl
  | i + 1, j, hj => by
    have ih := runP_fwd al z i j hj
    obtain ⟨hl, hm⟩ := runP_line al z i
    rw [runP]
    show Fw j (i + 1) ((stepP al (runP al z i) i (at_ z i)).1.getD j (-1))
    have lift : Fw j (i + 1) ((runP al z i).1.getD j (-1)) := ih.elim .inl fun ⟨m, h1, h2, h3⟩ => .inr ⟨m, h1, h2, by omega⟩
    unfold stepP
    split
    · exact lift
    · rename_i ha
      split
      · rename_i hc
        have hlen : 0 < (runP al z i).2.length := by
          have := of_decide_eq_true (Bool.and_eq_true _ _ ▸ hc).2
          omega
        obtain ⟨p, hp⟩ : ∃ p, (runP al z i).2[(runP al z i).2.length - 1]? = some p := ⟨_, List.getElem?_eq_getElem (by omega)⟩
        obtain ⟨kp, rfl, hkp⟩ := hm p (List.mem_of_getElem? hp)
        have hlast : (runP al z i).2.getLastD 0 = (kp : Int) := by
          rw [List.getLastD_eq_getLast?, List.getLast?_eq_getElem?, hp]
          rfl
        rw [hlast, Int.toNat_natCast]
        have hji : j ≠ i := fun e => ha (e ▸ hj)
        show Fw j (i + 1) ((((runP al z i).1.set i (kp : Int)).set kp (i : Int)).getD j (-1))
        by_cases e : kp = j
        · subst e
          rw [List.getD_eq_getElem?_getD, List.getElem?_set_self']
          cases q : ((runP al z i).1.set i (kp : Int))[kp]? with
          | none => exact .inl rfl
          | some v => exact .inr ⟨i, rfl, by omega, by omega⟩
        · rw [List.getD_eq_getElem?_getD, List.getElem?_set_ne e, List.getElem?_set_ne (Ne.symm hji), ← List.getD_eq_getElem?_getD]
          exact lift
      · exact lift
theorem partners_fwd {al : Al} {z : Str} {j : Nat} (hj : j < z.length) (h : inA al (at_ z j) = true) : (partners al z).getD j 0 = -1 ∨ ∃ m : Nat, (partners al z).getD j 0 = m ∧ j < m ∧ m < z.length := by
  have e : (partners al z).getD j 0 = (runP al z z.length).1.getD j (-1) := by
    have hl : j < (runP al z z.length).1.length := by rw [runP_len]; exact hj
    show (runP al z z.length).1.getD j 0 = _
    rw [List.getD_eq_getElem?_getD, List.getD_eq_getElem?_getD, List.getElem?_eq_getElem hl]
    rfl
  rw [e]
  exact runP_fwd al z z.length j h
def nextM (al : Al) (z : Str) (plain : Bool) (k : Nat) : Int := if plain = true then (if decide (((k : Int) + 1) < (z.length : Int)) = true then (k : Int) + 1 else -1) else behindM al z k
theorem behind_fwd {al : Al} {z : Str} {k : Nat} (hk : k < z.length) : behindM al z k = -1 ∨ ∃ m : Nat, behindM al z k = m ∧ k < m ∧ m < z.length := by
  unfold behindM
  split
  · rename_i h
    exact partners_fwd hk h
  · split
    · rename_i h
      have := of_decide_eq_true (Bool.and_eq_true _ _ ▸ h).1
      exact .inr ⟨k + 1, by omega, by omega, by omega⟩
    · exact .inl rfl
theorem next_fwd {al : Al} {z : Str} {plain : Bool} {k : Nat} (hk : k < z.length) : nextM al z plain k = -1 ∨ ∃ m : Nat, nextM al z plain k = m ∧ k < m ∧ m < z.length := by
  unfold nextM
  split
  · split
    · rename_i h
      have := of_decide_eq_true h
      exact .inr ⟨k + 1, by omega, by omega, by omega⟩
    · exact .inl rfl
  · exact behind_fwd hk
/-- until, along nx -/
def unt (nx : Nat → Int) (A B : Nat → Bool) : Nat → Nat → Bool
  | 0, _ => false
  | f + 1, i => B i || (A i && (decide (0 ≤ nx i) && unt nx A B f (nx i).toNat))
theorem unt_more {nx : Nat → Int} {A B : Nat → Bool} {n : Nat} (hn : ∀ k, k < n → nx k = -1 ∨ ∃ m : Nat, nx k = m ∧ k < m ∧ m < n) : ∀ f g i, i < n → n - i ≤ f → n - i ≤ g → unt nx A B f i = unt nx A B g i
  | 0, g, i, hi, h, _ => by omega
  | f + 1, 0, i, hi, _, h => by omega
  | f + 1, g + 1, i, hi, h1, h2 => by
    unfold unt
    rcases hn i hi with e | ⟨m, e, hm, hmn⟩
    · rw [e]
      rfl
    · rw [e, Int.toNat_natCast, unt_more hn f g m hmn (by omega) (by omega)]
def untilU (al : Al) (z : Str) (plain : Bool) (one two : List Bool) (i : Nat) : Bool := unt (nextM al z plain) (fun j => one.getD j false) (fun j => two.getD j false) (z.length - i) i
def untilL (al : Al) (z : Str) (plain : Bool) (one two : List Bool) : List Bool := (List.range z.length).map (untilU al z plain one two)
theorem untilU_step {al : Al} {z : Str} {plain : Bool} {one two : List Bool} {i : Nat} (hi : i < z.length) : untilU al z plain one two i = (two.getD i false || (one.getD i false && (decide (0 ≤ nextM al z plain i) && untilU al z plain one two (nextM al z plain i).toNat))) := by
  unfold untilU
  rw [show z.length - i = (z.length - i - 1) + 1 by omega, unt]
  rcases next_fwd (al := al) (plain := plain) hi with e | ⟨m, e, hm, hmn⟩
  · rw [e]; rfl
  · rw [e, Int.toNat_natCast, unt_more (fun k hk => next_fwd hk) (z.length - i - 1) (z.length - m) m hmn (by omega) (by omega)]
/-- found, after k turns -/
def untF (al : Al) (z : Str) (plain : Bool) (one two : List Bool) (k : Nat) : List Bool := (List.range z.length).map fun j => if z.length - k ≤ j then untilU al z plain one two j else false
section
variable {P : Program} {w : World} {K : PySem.W.Frag} {mg : Str → Option Value} {base : Heap}
def spUn (G : Pg K mg) : Sp := fun vs H Q E => ∃ (a : Addr) (v1 v2 : V) (al : Al) (z : Str) (plain : Bool) (one two : List Bool), vs = [.ref a, v1, v2, .bl plain] ∧ SeenAt K G.C_Seen H a al z ∧ z.length ≤ 1000 ∧ one.length = z.length ∧ two.length = z.length ∧
  Dp K H v1 (.list (one.map .bool)) ∧ Dp K H v2 (.list (two.map .bool)) ∧ ∀ p H', H p = none → Ex H H' → H' p = some (.lst ((untilL al z plain one two).map V.bl)) → Q (.ref p) H'
theorem ok_until (G : Pg K mg) {k : Nat} : FnOk P w K mg base CX0 (k + 2) G.f_Seen_until G.fd_Seen_until ["self", "one", "two", "is_plain"] (spUn G) := by
  refine Fun.ok G.F_Seen_until sc_Seen_until (fun vs H Q E h => ?_) (fun cdv A outer s H vs Q E hr h => ?_)
  · obtain ⟨a, v1, v2, al, z, plain, one, two, rfl, _⟩ := h
    rfl
  · have hr_Seen_behind := hr
    have G_Seen_behind := ok_behind (P := P) (w := w) (base := base) G (k := k)
    refine ⟨_, (pss_cons (ps_set (i := 4) sc_Seen_until.nd rfl (Or.inl rfl) (pe_op op_rep (pe_lst (pa_cons pe_bl pa_nil)) (pe_callB call_len (by rfl) G.n_len (by decide +kernel) (pa_cons (pe_fld (pv 0) rfl) pa_nil))))
      (pss_cons (ps_for PassesOwn.never rfl (pi_range3 (by rfl) G.n_range (pa_cons (pe_op op_sub (pe_callB call_len (by rfl) G.n_len (by decide +kernel) (pa_cons (pe_fld (pv 0) rfl) pa_nil)) pe_int) (pa_cons (pe_un un_neg pe_int) (pa_cons (pe_un un_neg pe_int) pa_nil)))) (pg_name (i := 5) sc_Seen_until.nd rfl (Or.inl rfl)) (pss_cons (ps_set (i := 6) sc_Seen_until.nd rfl (Or.inl rfl) (pe_meth (pv 0) G.cl_Seen G.mt_Seen_behind G_Seen_behind hr_Seen_behind G.b_Seen_behind .nil pass0 (pa_cons (pv 5) pa_nil)))
        (pss_cons (ps_if (pt_val (pv 3)) (pss_one (ps_set (i := 6) sc_Seen_until.nd rfl (Or.inl rfl) (pe_ifExp (pt_cmpR op_lt (pe_op op_add (pv 5) pe_int) (pe_callB call_len (by rfl) G.n_len (by decide +kernel) (pa_cons (pe_fld (pv 0) rfl) pa_nil)) (nomark _)) (pe_op op_add (pv 5) pe_int) (pe_un un_neg pe_int)))) pss_nil)
        (pss_one (ps_asg (pe_or (pe_ix ix_list (pv 2) (pv 5) (fun _ _ => rfl)) (pe_one (pe_and (pe_ix ix_list (pv 1) (pv 5) (fun _ _ => rfl)) (pe_and (pe_cmpR op_ge (pv 6) pe_int (nomark _)) (pe_one (pe_ix ix_list (pv 4) (pv 6) (fun _ _ => rfl))))))) (pg_sub (pv 4) (pv 5) set_list))))))
      (pss_one (ps_ret (pv 4))))), ?_⟩
    obtain ⟨a, v1, v2, al, z, plain, one, two, rfl, hS, hz, hl1, hl2, hd1, hd2, hres⟩ := h
    have tx : ∀ {σ : L2.St} {H1 : Hp}, Ex H H1 → σ[0]? = some (some (.ref a)) → Ev (tFld K (tVar 0) "text") σ H1 (.str z) := fun x h => seen_text G (hS.mono x) (ev_var h)
    refine q_asgL (el_rep (el_lst (ea_cons ev_c ea_nil) (by decide)) (ev_lenS (tx (Ex.refl H) rfl) (by omega)) (by omega) (by simp; omega)) fun pf H1 hpf e1 hf1 => ?_
    rw [rep1] at hf1
    refine q_forS (evs_down (n := (z.length : Nat)) (ea_cons (ev_sub (ev_lenS (tx e1 rfl) (by omega)) ev_c) (ea_cons (ev_neg ev_c) (ea_cons (ev_neg ev_c) ea_nil))) (by omega))
      (fun H2 i σ' H' => Ex H H' ∧ H' pf = some (.lst ((untF al z plain one two i).map V.bl)) ∧ ∃ x y, σ' = [some (.ref a), some v1, some v2, some (.bl plain), some (.ref pf), x, y])
      (fun H2 e2 => ⟨e1.trans e2, ?_, none, none, rfl⟩) (fun _ _ _ _ _ _ _ => trivial) (fun H2 i x σ' H' H4 e2 hi p e4 y => ?_) fun H2 σ' H' e2 p => ?_
    · have : (untF al z plain one two 0).map V.bl = List.replicate z.length (V.bl false) := by
        apply List.ext_getElem
        · simp [untF]
        · intro i h1 h2
          simp [untF] at h1 ⊢
          intro h
          omega
      rw [this]
      exact e2 _ _ (by simpa using hf1)
    · obtain ⟨p1, p2, x1, x2, rfl⟩ := p
      have hi' : i < z.length := by omega
      obtain ⟨k, hk⟩ : ∃ k, k = z.length - 1 - i := ⟨_, rfl⟩
      have hkl : k < z.length := by omega
      have ex : x = .int (k : Int) := by rw [y]; congr 1; omega
      subst ex
      have p1' := p1.trans e4
      have p2' := e4 _ _ p2
      refine q_asg (v := .int (behindM al z k)) (evd_int (K := K) (evd_meth (ev_var rfl) (hS.mono p1').choose_spec.choose_spec.choose_spec.choose_spec.1 rfl (ead_cons (evd_var rfl (.int (k : Int))) ead_nil) fun vs H5 e5 hv Q q => ?_)) fun H5 e5 => ?_
      · cases hv with
        | cons h1 h2 =>
        cases h2
        cases dp_int h1
        exact ⟨a, al, z, k, rfl, hS.mono (p1'.trans e5), hz, hkl, fun H' e => q _ _ e (.int _)⟩
      refine q_ifAsg (b := plain) (v := .int (nextM al z plain k)) (et_B (ev_var rfl)) (fun hb => ?_) (fun hb => ?_) fun H6 e6 => ?_
      · subst hb
        refine ev_if (b := decide (((k : Int) + 1) < (z.length : Int))) (et_test (ev_lt (ev_add (ev_var rfl) ev_c) (ev_lenS (tx (p1'.trans e5) rfl) (by omega)))) (fun hb => ?_) fun hb => ?_
        · unfold nextM
          rw [if_pos rfl, if_pos hb]
          exact ev_add (ev_var rfl) ev_c
        · unfold nextM
          rw [if_pos rfl, if_neg (by rw [hb]; decide)]
          exact ev_neg ev_c
      · subst hb
        rfl
      have x6 : Ex H H6 := p1'.trans (e5.trans e6)
      have f6 : H6 pf = some (.lst ((untF al z plain one two i).map V.bl)) := e6 _ _ (e5 _ _ p2')
      have g1 : ∀ {σ : L2.St}, σ[1]? = some (some v1) → σ[5]? = some (some (.int (k : Int))) → Ev (tOp (rIxL K) (tVar 1) (tVar 5)) σ H6 (.bl (one.getD k false)) := fun h h5 =>
        evd_bool (evd_ixL (evd_var h (Dpx x6 hd1)) (ev_var h5) (atI_nat (by rw [List.getElem?_map, getD_some (x := false) (by omega)]; rfl)))
      have g2 : ∀ {σ : L2.St}, σ[2]? = some (some v2) → σ[5]? = some (some (.int (k : Int))) → Ev (tOp (rIxL K) (tVar 2) (tVar 5)) σ H6 (.bl (two.getD k false)) := fun h h5 =>
        evd_bool (evd_ixL (evd_var h (Dpx x6 hd2)) (ev_var h5) (atI_nat (by rw [List.getElem?_map, getD_some (x := false) (by omega)]; rfl)))
      refine s_setL (j := k) f6 (v := .bl (untilU al z plain one two k)) ?_ (ev_var rfl) (ev_var rfl) (by simp [untF]; exact hkl) fun H7 e7 => ?_
      · rw [untilU_step hkl]
        refine ev_orV (g2 rfl rfl) fun _ => ev_andV (g1 rfl rfl) fun _ => ev_andV (b := untilU al z plain one two (nextM al z plain k).toNat) (ev_ge (ev_var rfl) ev_c) fun hb => ?_
        rcases next_fwd (al := al) (plain := plain) hkl with e | ⟨m, e, hm, hmn⟩
        · rw [e] at hb
          cases of_decide_eq_true hb
        · rw [e, Int.toNat_natCast]
          refine evd_bool (evd_ixL (ds := (untF al z plain one two i).map .bool) (evd_var rfl (.lst (sq_of f6) (dpAll_bools _))) (ev_var rfl) (atI_nat ?_))
          unfold untF
          rw [List.getElem?_map, List.getElem?_map, List.getElem?_range hmn]
          show some (PyData.bool (if z.length - i ≤ m then untilU al z plain one two m else false)) = _
          rw [if_pos (by omega)]
      · refine ⟨Ex.mut (x6.trans e7) hpf, ?_, _, _, rfl⟩
        rw [upd_same]
        congr 2
        rw [← List.map_set]
        congr 1
        apply List.ext_getElem
        · simp [untF]
        · intro j h1 h2
          simp [untF] at h1 h2
          rw [List.getElem_set]
          simp only [untF, List.getElem_map, List.getElem_range]
          by_cases e : k = j
          · subst e
            rw [if_pos rfl, if_pos (by omega)]
          · rw [if_neg e]
            by_cases h : z.length - i ≤ j
            · rw [if_pos h, if_pos (by omega)]
            · rw [if_neg h, if_neg (by omega)]
    · obtain ⟨p1, p2, x1, x2, rfl⟩ := p
      refine s_ret (v := .ref pf) (ev_var rfl) fun H5 e5 => hres pf H5 hpf (p1.trans e5) ?_
      have : untF al z plain one two z.length = untilL al z plain one two := by
        unfold untF untilL
        apply List.map_congr_left
        intro j _
        rw [if_pos (by omega)]
      rw [← this]
      exact e5 _ _ (by simpa using p2)
end
end K38
namespace KR
open PySem PySem.Spec PyProof.Rows L2 Evl KD
section
variable {K : PySem.W.Frag} {σ : L2.St} {H : Hp} {ta tv : TE} {D : Ends} {tz : TS} {ds : List PyData}
theorem s_fldN {x C dx : Addr} {fs : List (Str × V)} {f : Str} (hv : EvN K tv σ H ds) (ho : Ev ta σ H (.ref x)) (hx : H x = some (.ins C dx fs)) (c : Cls K C) (n : NoAttr K C f) (hl : fs.length < 1000)
    (k : ∀ p ys H1, H p = none → Ex H H1 → H1 p = some (.lst ys) → DpAll K H1 ys ds → D.nx σ (upd H1 x (.ins C dx (putF f (.ref p) fs)))) : sFld K ta tv f D σ H :=
  hv H (Ex.refl H) _ fun p ys H1 hp e1 h1 hd => ho H1 e1 _ fun H2 e2 => ⟨x, C, dx, fs, rfl, e2 _ _ (e1 _ _ hx), c, n, hl, k p ys H2 hp (e1.trans e2) (e2 _ _ h1) (Dpax e2 hd)⟩
theorem q_fldN {x C dx : Addr} {fs : List (Str × V)} {f : Str} (hv : EvN K tv σ H ds) (ho : Ev ta σ H (.ref x)) (hx : H x = some (.ins C dx fs)) (c : Cls K C) (n : NoAttr K C f) (hl : fs.length < 1000)
    (k : ∀ p ys H1, H p = none → Ex H H1 → H1 p = some (.lst ys) → DpAll K H1 ys ds → tz D σ (upd H1 x (.ins C dx (putF f (.ref p) fs)))) : tSeq (sFld K ta tv f) tz D σ H := s_fldN (D := { D with nx := tz D }) hv ho hx c n hl k
end
end KR
namespace K38
open PySem PySem.Spec PyProof.Rows L2 Evl KD KR RZ
section
variable {P : Program} {w : World} {K : PySem.W.Frag} {mg : Str → Option Value} {base : Heap}
def spSI (G : Pg K mg) : Sp := fun vs H Q E => ∃ (x dx : Addr) (va : V) (al : Al) (z : Str) (H0 : Hp), vs = [.ref x, va, .str z] ∧ Ex H0 H ∧ H0 x = none ∧ H x = some (.ins G.C_Seen dx []) ∧ Dp K H0 va al.d ∧ z.length ≤ 1000 ∧
  ∀ H', Ex H0 H' → SeenAt K G.C_Seen H' x al z → Q .non H'
theorem ok_init (G : Pg K mg) {k : Nat} : FnOk P w K mg base CX0 (k + 2) G.f_Seen_init G.fd_Seen_init ["self", "alphabet", "text"] (spSI G) := by
  refine Fun.ok G.F_Seen_init sc_Seen_init (fun vs H Q E h => ?_) (fun cdv A outer s H vs Q E hr h => ?_)
  · obtain ⟨x, dx, va, al, z, H0, rfl, _⟩ := h
    rfl
  · have hr_known_partners := hr
    have hr_known_caller := hr
    have G_known_partners := ok_known_partners (P := P) (w := w) (base := base) G (k := k)
    have G_known_caller := ok_known_caller (P := P) (w := w) (base := base) G (k := k)
    refine ⟨_, (pss_cons (ps_asg (pe_tup (pa_cons (pv 1) (pa_cons (pv 2) pa_nil))) (pg_tup rfl (pgs_cons (pg_fld (pv 0)) (pgs_cons (pg_fld (pv 0)) pgs_nil))))
      (pss_cons (ps_fld (pv 0) (pe_call G_known_partners hr_known_partners (by rfl) G.m_known_partners G.k_known_partners G.b_known_partners .nil pass0 (pa_cons (pv 1) (pa_cons (pv 2) pa_nil))) rfl)
      (pss_one (ps_fld (pv 0) (pe_lc (own := [("at", 3)]) rfl sc_Seen_init.nd (pi_range1 (by rfl) G.n_range (pa_cons (pe_callB call_len (by rfl) G.n_len (by decide +kernel) (pa_cons (pv 2) pa_nil)) pa_nil)) (blkOk_by (own := [("at", 3)]) (N := ["self", "alphabet", "text", "at"]) (sc := defScope s_Seen_init) (by decide +kernel)) (fun _ _ _ _ _ => (pg_name (i := 3) sc_Seen_init.nd rfl (Or.inl rfl))) (fun _ _ _ _ _ => pts_nil) (fun _ _ _ _ _ => (pe_call G_known_caller hr_known_caller (by rfl) G.m_known_caller G.k_known_caller G.b_known_caller .nil pass0 (pa_cons (fldK (K := K) rfl (pv 0) rfl) (pa_cons (pv 1) (pa_cons (pv 2) (pa_cons (pv 3) pa_nil))))))) rfl)))), ?_⟩
    obtain ⟨x, dx, va, al, z, H0, rfl, e0, h0x, hx, hva, hz, hres⟩ := h
    refine ⟨_, rfl, _, rfl, by show 2 ≤ sizeLine; decide, fun p hp => ?_⟩
    have nxp : x ≠ p := fun e => by rw [e, hp] at hx; cases hx
    refine ⟨p, [va, .str z], rfl, st_of upd_same, rfl, va, [.str z], rfl, ⟨_, rfl, x, G.C_Seen, dx, [], rfl, by rw [upd_ne nxp]; exact hx, G.cl_Seen, G.nA_alphabet, by decide, ?_⟩⟩
    refine ⟨.str z, [], rfl, ⟨_, rfl, x, G.C_Seen, dx, [("alphabet", va)], rfl, upd_same, G.cl_Seen, G.nA_text, by show 1 < 1000; decide, rfl, ?_⟩⟩
    generalize hH3 : upd (upd (upd H p (.tup [va, .str z])) x (.ins G.C_Seen dx (putF "alphabet" va []))) x (.ins G.C_Seen dx (putF "text" (.str z) [("alphabet", va)])) = H3
    have x3 : Ex H0 H3 := by rw [← hH3]; exact Ex.mut (Ex.mut (e0.trans (Ex.new hp)) h0x) h0x
    have hx3 : H3 x = some (.ins G.C_Seen dx [("alphabet", va), ("text", .str z)]) := by rw [← hH3, upd_same]; rfl
    have an : ∀ {σ : L2.St} {H1 : Hp}, Ex H0 H1 → σ[1]? = some (some va) → EvD K (tVar 1) σ H1 al.d := fun x h => evd_var h (Dpx x hva)
    refine q_fldN (evn_call (K := K) (es := (partners al z).map .int) (ead_cons (an x3 rfl) (ead_cons (ev_str (ev_var rfl)) ead_nil)) fun vs H1 e1 hv Q q => ⟨al, z, hz, hv, fun p H' hp e h => q p _ H' hp e h (dpAll_ints _)⟩) (ev_var rfl) hx3 G.cl_Seen G.nA_partners (by show 2 < 1000; decide) fun pp xs H4 hpp e4 hp4 hd4 => ?_
    have hx4 := e4 _ _ hx3
    have x4 := x3.trans e4
    generalize hH5 : upd H4 x (.ins G.C_Seen dx (putF "partners" (.ref pp) [("alphabet", va), ("text", .str z)])) = H5
    have x5 : Ex H0 H5 := by rw [← hH5]; exact Ex.mut x4 h0x
    have hx5 : H5 x = some (.ins G.C_Seen dx [("alphabet", va), ("text", .str z), ("partners", .ref pp)]) := by rw [← hH5, upd_same]; rfl
    have npx : pp ≠ x := fun e => by rw [e, hx4] at hp4; cases hp4
    have dp5 : Dp K H5 (.ref pp) (.list ((partners al z).map .int)) := by
      have : xs = (partners al z).map V.int := dpAll_ints' hd4
      refine .lst (sq_of (xs := xs) (by rw [← hH5, upd_ne npx]; exact hp4)) ?_
      rw [this]
      exact dpAll_ints _
    refine s_fldN (evn_lcD (K := K) (ds := (around al z).map .int) (evw_range1 (n := (z.length : Nat)) (ea_cons (ev_lenS (K := K) (ev_var rfl) (by omega)) ea_nil) (by omega)) (by simp [around]) (by omega) (immAll_ints _) (fun _ => rfl) fun i y d H6 e6 hd y6 => ?_) (ev_var rfl) hx5 G.cl_Seen G.nA_around (by show 3 < 1000; decide) fun pr ys H6 hpr e6 hp6 hd6 => ?_
    · subst y6
      obtain ⟨c, hc, rfl⟩ := map_get hd
      obtain ⟨j, hj, rfl⟩ := map_get (show ((List.range z.length).map fun i => callerL al z (partners al z) i i)[i]? = some c from hc)
      have hjl : j < z.length ∧ i = j := by
        obtain ⟨h1, h2⟩ := List.getElem?_eq_some_iff.mp hj
        simp at h1 h2
        omega
      obtain ⟨hjl, rfl⟩ := hjl
      have x6 := x5.trans e6
      refine evd_call (ead_cons (.of (ev_fld (ev_var rfl) (e6 _ _ hx5) G.cl_Seen G.nA_partners rfl) (Dpx e6 dp5)) (ead_cons (an x6 rfl) (ead_cons (ev_str (ev_var rfl)) (ead_cons (ev_int (ev_var rfl)) ead_nil)))) fun vs H7 e7 hv Q q => ⟨al, z, partners al z, i, hz, partners_len al z, by omega, hv, fun H' e => q _ _ e (.int _)⟩
    · have hx6 := e6 _ _ hx5
      have x6 := x5.trans e6
      have nrx : pr ≠ x := fun e => by rw [e, hx6] at hp6; cases hp6
      refine hres _ (Ex.mut x6 h0x) ⟨dx, va, .ref pp, .ref pr, ?_, Dpx (Ex.mut x6 h0x) hva, ?_, ?_⟩
      · rw [upd_same]; rfl
      · obtain ⟨q, ws, hq, hs, hw⟩ := dp_list (Dpx e6 dp5)
        cases hq
        have h6 : H6 pp = some (.lst xs) := e6 _ _ (by rw [← hH5, upd_ne npx]; exact hp4)
        have : xs = (partners al z).map V.int := dpAll_ints' hd4
        refine .lst (sq_of (xs := xs) (by rw [upd_ne npx]; exact h6)) ?_
        rw [this]
        exact dpAll_ints _
      · have : ys = (around al z).map V.int := dpAll_ints' hd6
        refine .lst (sq_of (xs := ys) (by rw [upd_ne nrx]; exact hp6)) ?_
        rw [this]
        exact dpAll_ints _
end
end K38
namespace KR
open PySem PySem.Spec PyProof.Rows L2 Evl KD
section
variable {K : PySem.W.Frag} {σ : L2.St} {H : Hp} {te : TE} {D : Ends} {tz : TS} {ds : List PyData}
theorem s_retN (h : EvN K te σ H ds) (k : ∀ p xs H1, H p = none → Ex H H1 → H1 p = some (.lst xs) → DpAll K H1 xs ds → D.rt (.ref p) H1) : tRet te D σ H := h H (Ex.refl H) _ k
theorem evn_slL {lo hi : Option Int} {tl th : TO} (h : EvD K te σ H (.list ds)) (h1 : EvO tl σ H lo) (h2 : EvO th σ H hi) : EvN K (tSl (rSlL K) te tl th) σ H ((ds.drop (HT.sIx ds.length 0 lo)).take (HT.sIx ds.length ds.length hi - HT.sIx ds.length 0 lo)) := fun H1 e Q q =>
  h H1 e _ fun v H2 e2 hd => h1 H2 (e.trans e2) _ fun H3 e3 => h2 H3 ((e.trans e2).trans e3) _ fun H4 e4 => by
    obtain ⟨a, xs, rfl, hs, hx⟩ := dp_list (Dpx (e3.trans e4) hd)
    have hl := dpAll_len hx
    refine ⟨a, xs, rfl, hs, fun p hp => q p _ _ (fresh_back ((e2.trans e3).trans e4) hp) (((e2.trans e3).trans e4).trans (Ex.new hp)) upd_same ?_⟩
    unfold cutV
    rw [hl]
    exact dpAll_take _ (dpAll_drop _ (Dpax (Ex.new hp) hx))
theorem evd_slT {lo hi : Option Int} {tl th : TO} (h : EvD K te σ H (.tuple ds)) (h1 : EvO tl σ H lo) (h2 : EvO th σ H hi) (hw : ¬ (HT.sIx ds.length 0 lo = 0 ∧ HT.sIx ds.length ds.length hi = ds.length)) : EvD K (tSl (rSlT K) te tl th) σ H (.tuple ((ds.drop (HT.sIx ds.length 0 lo)).take (HT.sIx ds.length ds.length hi - HT.sIx ds.length 0 lo))) := fun H1 e Q q =>
  h H1 e _ fun v H2 e2 hd => h1 H2 (e.trans e2) _ fun H3 e3 => h2 H3 ((e.trans e2).trans e3) _ fun H4 e4 => by
    obtain ⟨a, xs, rfl, hs, hx⟩ := dp_tuple (Dpx (e3.trans e4) hd)
    have hl := dpAll_len hx
    refine ⟨a, xs, rfl, hs, by rw [hl]; exact hw, fun p hp => q _ _ (((e2.trans e3).trans e4).trans (Ex.new hp)) (.tup (st_of upd_same) ?_)⟩
    unfold cutV
    rw [hl]
    exact dpAll_take _ (dpAll_drop _ (Dpax (Ex.new hp) hx))
theorem ead_star {t : TA} {es : List PyData} (h : EvD K te σ H (.list ds)) (hr : EvAD K t σ H es) : EvAD K (StX.tStar K te t) σ H (ds ++ es) := fun H1 e Q q =>
  h H1 e _ fun v H2 e2 hd => by
    obtain ⟨a, xs, rfl, hs, hx⟩ := dp_list hd
    exact ⟨a, xs, rfl, .inr hs, hr H2 (e.trans e2) _ fun ys H3 e3 hy => q _ H3 (e2.trans e3) (dpAll_app (Dpax e3 hx) hy)⟩
end
theorem dstr (x y : Str) : decide (V.str x = V.str y) = decide (x = y) := decide_eq_decide.mpr ⟨fun h => by injection h, fun h => by rw [h]⟩
end KR
namespace K38
open PySem PySem.Spec PyProof.Rows L2 Evl KD KR RZ
/-! ### sentences -/
inductive Un where
  | not
  | next
  | leap
  | caller
  | partner
inductive Bi where
  | both
  | either
  | until
  | leapuntil
def Un.s : Un → Str
  | .not => "not"
  | .next => "next"
  | .leap => "leap"
  | .caller => "caller"
  | .partner => "partner"
def Bi.s : Bi → Str
  | .both => "both"
  | .either => "either"
  | .until => "until"
  | .leapuntil => "leapuntil"
inductive Sen where
  | sign (c : Nat)
  | kind (k : Nat)
  | un (w : Un) (a : Sen)
  | bi (w : Bi) (a b : Sen)
def Sen.w : Sen → Str
  | .sign _ => "sign"
  | .kind _ => "kind"
  | .un w _ => w.s
  | .bi w _ _ => w.s
def Sen.d : Sen → PyData
  | .sign c => .tuple [.str "sign", .str (one c)]
  | .kind k => .tuple [.str "kind", .str (kinds3.getD k "")]
  | .un w a => .tuple [.str w.s, a.d]
  | .bi w a b => .tuple [.str w.s, a.d, b.d]
def Sen.dep : Sen → Nat
  | .sign _ => 0
  | .kind _ => 0
  | .un _ a => a.dep + 1
  | .bi _ a b => max a.dep b.dep + 1
def rowsM (al : Al) (z : Str) : Un → List Int
  | .leap => (List.range z.length).map (behindM al z)
  | .caller => around al z
  | _ => partners al z
def trL (al : Al) (z : Str) : Sen → List Bool
  | .sign c => z.cps.toList.map fun x => decide (one x = one c)
  | .kind k => z.cps.toList.map fun x => decide (kindOf al x = kinds3.getD k "")
  | .un .not a => (trL al z a).map (!·)
  | .un .next a => ((trL al z a).drop 1 ++ [false]).take (trL al z a).length
  | .un w a => (rowsM al z w).map fun r => decide (0 ≤ r) && (trL al z a).getD r.toNat false
  | .bi .both a b => (List.range z.length).map fun i => (trL al z a).getD i false && (trL al z b).getD i false
  | .bi .either a b => (List.range z.length).map fun i => (trL al z a).getD i false || (trL al z b).getD i false
  | .bi .until a b => untilL al z true (trL al z a) (trL al z b)
  | .bi .leapuntil a b => untilL al z false (trL al z a) (trL al z b)
theorem rowsM_len (al : Al) (z : Str) (w : Un) : (rowsM al z w).length = z.length := by
  cases w <;> simp [rowsM, around_len, partners_len]
theorem trL_len (al : Al) (z : Str) : ∀ t : Sen, (trL al z t).length = z.length
  | .sign c => by simp [trL, Str.length]
  | .kind k => by simp [trL, Str.length]
  | .un .not a => by simp [trL, trL_len al z a]
  | .un .next a => by
    have := trL_len al z a
    simp [trL, this]
    omega
  | .un .leap a => by simp [trL, rowsM_len]
  | .un .caller a => by simp [trL, rowsM_len]
  | .un .partner a => by simp [trL, rowsM_len]
  | .bi .both a b => by simp [trL]
  | .bi .either a b => by simp [trL]
  | .bi .until a b => by simp [trL, untilL]
  | .bi .leapuntil a b => by simp [trL, untilL]
/-- all letters of z are letters of al -/
def okText (al : Al) (z : Str) : Prop := ∀ c ∈ z.cps.toList, al.has c = true
/-! ### rows stay within the text -/
def Rg (n : Nat) (x : Int) : Prop := x = -1 ∨ ∃ m : Nat, x = m ∧ m < n
theorem runP_rg (al : Al) (z : Str) : ∀ i, i ≤ z.length → ∀ x ∈ (runP al z i).1, Rg z.length x
  | 0, _, x, hx => by
    have : x ∈ List.replicate z.length (-1 : Int) := hx
    exact .inl (List.eq_of_mem_replicate this)
  | i + 1, hi, x, hx => by
    have ih := runP_rg al z i (by omega)
    obtain ⟨hl, hm⟩ := runP_line al z i
    rw [runP] at hx
    unfold stepP at hx
    split at hx
    · exact ih x hx
    · split at hx
      · rename_i hc
        have hlen : 0 < (runP al z i).2.length := by
          have := of_decide_eq_true (Bool.and_eq_true _ _ ▸ hc).2
          omega
        obtain ⟨p, hp⟩ : ∃ p, (runP al z i).2[(runP al z i).2.length - 1]? = some p := ⟨_, List.getElem?_eq_getElem (by omega)⟩
        obtain ⟨kp, rfl, hkp⟩ := hm p (List.mem_of_getElem? hp)
        have hlast : (runP al z i).2.getLastD 0 = (kp : Int) := by
          rw [List.getLastD_eq_getLast?, List.getLast?_eq_getElem?, hp]
          rfl
        rw [hlast] at hx
        rcases List.mem_or_eq_of_mem_set hx with hx | hx
        · rcases List.mem_or_eq_of_mem_set hx with hx | hx
          · exact ih x hx
          · exact .inr ⟨kp, hx, by omega⟩
        · exact .inr ⟨i, hx, by omega⟩
      · exact ih x hx
theorem partners_rg (al : Al) (z : Str) : ∀ x ∈ partners al z, Rg z.length x := runP_rg al z _ (Nat.le_refl _)
theorem callerL_rg (al : Al) (z : Str) (rows : List Int) (place : Nat) : ∀ k, callerL al z rows place k = -1 ∨ ∃ m : Nat, callerL al z rows place k = m ∧ m < k
  | 0 => .inl rfl
  | k + 1 => by
    unfold callerL
    split
    · exact .inr ⟨k, rfl, by omega⟩
    · rcases callerL_rg al z rows place k with h | ⟨m, h, hm⟩
      · exact .inl h
      · exact .inr ⟨m, h, by omega⟩
theorem rowsM_rg (al : Al) (z : Str) (w : Un) : ∀ x ∈ rowsM al z w, Rg z.length x := by
  have hp := partners_rg al z
  intro x hx
  cases w with
  | not => exact hp x hx
  | next => exact hp x hx
  | partner => exact hp x hx
  | leap =>
    obtain ⟨i, hi, rfl⟩ := List.mem_map.mp (show x ∈ (List.range z.length).map (behindM al z) from hx)
    rcases behind_fwd (al := al) (List.mem_range.mp hi) with h | ⟨m, h, _, hm⟩
    · exact .inl h
    · exact .inr ⟨m, h, hm⟩
  | caller =>
    obtain ⟨i, hi, rfl⟩ := List.mem_map.mp (show x ∈ (List.range z.length).map (fun i => callerL al z (partners al z) i i) from hx)
    rcases callerL_rg al z (partners al z) i i with h | ⟨m, h, hm⟩
    · exact .inl h
    · exact .inr ⟨m, h, by have := List.mem_range.mp hi; omega⟩
end K38
set_option maxHeartbeats 8000000
namespace KR
open PySem PySem.Spec PyProof.Rows L2 Evl KD
section
variable {K : PySem.W.Frag} {σ : L2.St} {H : Hp} {D : Ends} {tz : TS}
theorem q_asg2 {ta : TA} {d1 d2 : PyData} {i j n : Nat} (ha : EvAD K ta σ H [d1, d2]) (hn : n = 2) (k : ∀ v1 v2 H1, Ex H H1 → Dp K H1 v1 d1 → Dp K H1 v2 d2 → tz D ((σ.set i (some v1)).set j (some v2)) H1) :
    tSeq (tAsg (tTup ta) (gTup K n (gCons (gName i) (gCons (gName j) gNil)))) tz D σ H :=
  ha H (Ex.refl H) _ fun vs H1 e1 hv => by
    cases hv with
    | cons h1 h2 =>
    cases h2 with
    | cons h2 h3 =>
    cases h3
    rename_i v1 v2
    refine ⟨by show 2 ≤ sizeLine; decide, fun p hp => ⟨p, [v1, v2], rfl, st_of upd_same, hn.symm, v1, [v2], rfl, v2, [], rfl, rfl, k v1 v2 _ (e1.trans (Ex.new hp)) (Dpx (Ex.new hp) h1) (Dpx (Ex.new hp) h2)⟩⟩
theorem evn_lcP {wi : TI} {te : TE} {j k : Nat} {vs : List Nat} {n : Nat} {a b : Nat → V → Hp → Prop} {ds : List PyData} (hw : EvW wi σ H n (fun i x H4 => PairD K (a i) (b i) x H4)) (hl : ds.length = n) (hn : n ≤ 50000) (hi : immAll ds = true) (hv : ∀ x y, wipe (((wipe σ vs).set j (some x)).set k (some y)) vs = wipe σ vs)
    (ht : ∀ i x y d H1, Ex H H1 → ds[i]? = some d → a i x H1 → b i y H1 → EvD K te (((wipe σ vs).set j (some x)).set k (some y)) H1 d) : EvN K (tLc wi (gTup K 2 (gCons (gName j) (gCons (gName k) gNil))) tYes te vs) σ H ds := by
  have e : (List.range n).map (fun i => ds.getD i .none) = ds := by
    apply List.ext_getElem
    · simp [hl]
    · intro i h1 h2
      simp
      rw [List.getElem?_eq_getElem h2]
      rfl
  have g : ∀ i, i < n → ds[i]? = some (ds.getD i .none) := fun i hin => by
    rw [List.getD_eq_getElem?_getD, List.getElem?_eq_getElem (by omega)]
    rfl
  have h := evn_lc (tt := tYes) (vs := vs) (te := te) (K := K) hw (mono_pair (i := j) (j := k)) (fun _ => true) (fun i => ds.getD i .none) hn (fun i hin _ => imm_of_all hi _ (List.mem_of_getElem? (g i hin))) fun i x H1 e1 hin y =>
    g_pair y fun u v hu hv' => ⟨Ex.refl H1, hv u v, fun H2 e2 Q q => q H2 (Ex.refl H2), fun _ => ht i u v _ H1 e1 (g i hin) hu hv'⟩
  rw [kept_all, e] at h
  exact h
theorem evn_meth {ta : TE} {t : TA} {ds es : List PyData} {a C dx : Addr} {fs : List (Str × V)} {m : Str} {sp : Sp} {E : XK} (ho : Ev ta σ H (.ref a)) (h : H a = some (.ins C dx fs)) (hl : fs.lookup m = none) (ha : EvAD K t σ H ds)
    (hs : ∀ vs H1, Ex H H1 → DpAll K H1 vs ds → ∀ Q : VK, (∀ p xs H2, H1 p = none → Ex H1 H2 → H2 p = some (.lst xs) → DpAll K H2 xs es → Q (.ref p) H2) → sp (.ref a :: vs) H1 Q E) : EvN K (tMeth C m sp [] E ta t) σ H es := fun H1 e Q q =>
  ho H1 e _ fun H2 e2 => ⟨a, dx, fs, rfl, e2 a _ (e a _ h), hl, ha H2 (e.trans e2) _ fun vs H3 e3 hv => by
    rw [List.append_nil]
    exact hs vs H3 ((e.trans e2).trans e3) hv Q fun p xs H4 n e4 h4 hd => q p xs H4 (fresh_back (e2.trans e3) n) ((e2.trans e3).trans e4) h4 hd⟩
end
end KR
namespace K38
open PySem PySem.Spec PyProof.Rows L2 Evl KD KR RZ
theorem nextEq (bs : List Bool) : ((((bs.map PyData.bool).drop (HT.sIx (bs.map PyData.bool).length 0 (some 1))).take (HT.sIx (bs.map PyData.bool).length (bs.map PyData.bool).length none - HT.sIx (bs.map PyData.bool).length 0 (some 1)) ++ [PyData.bool false]).drop
      (HT.sIx (((bs.map PyData.bool).drop (HT.sIx (bs.map PyData.bool).length 0 (some 1))).take (HT.sIx (bs.map PyData.bool).length (bs.map PyData.bool).length none - HT.sIx (bs.map PyData.bool).length 0 (some 1)) ++ [PyData.bool false]).length 0 none)).take
      (HT.sIx (((bs.map PyData.bool).drop (HT.sIx (bs.map PyData.bool).length 0 (some 1))).take (HT.sIx (bs.map PyData.bool).length (bs.map PyData.bool).length none - HT.sIx (bs.map PyData.bool).length 0 (some 1)) ++ [PyData.bool false]).length
        (((bs.map PyData.bool).drop (HT.sIx (bs.map PyData.bool).length 0 (some 1))).take (HT.sIx (bs.map PyData.bool).length (bs.map PyData.bool).length none - HT.sIx (bs.map PyData.bool).length 0 (some 1)) ++ [PyData.bool false]).length (some ((bs.map PyData.bool).length : Int)) -
       HT.sIx (((bs.map PyData.bool).drop (HT.sIx (bs.map PyData.bool).length 0 (some 1))).take (HT.sIx (bs.map PyData.bool).length (bs.map PyData.bool).length none - HT.sIx (bs.map PyData.bool).length 0 (some 1)) ++ [PyData.bool false]).length 0 none)
    = ((bs.drop 1 ++ [false]).take bs.length).map .bool := by
  have e1 : ∀ n d : Nat, HT.sIx n d (some 1) = min 1 n := fun n d => HT.sIx_nat n d 1
  simp only [HT.sIx_none, HT.sIx_nat, e1]
  cases bs with
  | nil => rfl
  | cons b r =>
    have h1 : min 1 (r.length + 1) = 1 := by omega
    simp [h1]
    rw [show List.take r.length (List.map PyData.bool r) = List.map PyData.bool r from List.take_of_length_le (by simp)]
section
variable {P : Program} {w : World} {K : PySem.W.Frag} {mg : Str → Option Value} {base : Heap}
def spTr (G : Pg K mg) (n : Nat) : Sp := fun vs H Q E => ∃ (a : Addr) (v : V) (al : Al) (z : Str) (t : Sen), vs = [.ref a, v] ∧ SeenAt K G.C_Seen H a al z ∧ z.length ≤ 1000 ∧ okText al z ∧ Dp K H v t.d ∧ t.dep < n ∧
  ∀ p H', H p = none → Ex H H' → H' p = some (.lst ((trL al z t).map V.bl)) → Q (.ref p) H'
theorem word_test {σ : L2.St} {H : Hp} {w x : Str} {b : Bool} (h : σ[2]? = some (some (.str w))) (hb : decide (w = x) = b) : EvT (tTest (tOp rEq (tVar 2) (tC (.str x)))) σ H b :=
  et_is (et_test (ev_eq (ev_var h) ev_c)) (by rw [dstr, hb])
theorem ok_truths (G : Pg K mg) {k : Nat} : ∀ n, FnOk P w K mg base CX0 (k + 3 + n) G.f_Seen_truths G.fd_Seen_truths ["self", "told"] (spTr G n)
  | 0 => ⟨fun vs H Q E h => by obtain ⟨_, _, _, _, _, _, _, _, _, _, h, _⟩ := h; omega, fun A outer s H args us vs Q E hr e0 hb hv h => by obtain ⟨_, _, _, _, _, _, _, _, _, _, h, _⟩ := h; omega⟩
  | n + 1 => by
    have G_Seen_truths := ok_truths G (k := k) n
    have G_Seen_behind := (ok_behind (P := P) (w := w) (base := base) G (k := k)).mono (k := k + 3 + n) (by omega)
    have G_known_kind := (ok_known_kind (P := P) (w := w) (base := base) G (k := k)).mono (k := k + 3 + n) (by omega)
    have G_Seen_until := (ok_until (P := P) (w := w) (base := base) G (k := k)).mono (k := k + 3 + n) (by omega)
    refine Fun.ok G.F_Seen_truths sc_Seen_truths (fun vs H Q E h => ?_) (fun cdv A outer s H vs Q E hr h => ?_)
    · obtain ⟨a, v, al, z, t, rfl, _⟩ := h
      rfl
    · have hr_Seen_truths := hr
      have hr_Seen_behind := hr
      have hr_known_kind := hr
      have hr_Seen_until := hr
      refine ⟨_, (pss_cons (ps_asg (pe_tup (pa_cons (pe_ix ix_tup (pv 1) pe_int (fun _ _ => rfl)) (pa_cons (pe_callTy (call_list_rng rfl) (by rfl) G.n_list (by decide +kernel) (pa_cons (pe_callTy cr_range1 (by rfl) G.n_range (by decide +kernel) (pa_cons (pe_callB call_len (by rfl) G.n_len (by decide +kernel) (pa_cons (pe_fld (pv 0) rfl) pa_nil)) pa_nil)) pa_nil)) pa_nil))) (pg_tup rfl (pgs_cons (pg_name (i := 2) sc_Seen_truths.nd rfl (Or.inr rfl)) (pgs_cons (pg_name (i := 3) sc_Seen_truths.nd rfl (Or.inl rfl)) pgs_nil))))
      (pss_cons (ps_if (pt_cmpR op_eq (pv 2) pe_str (nomark _)) (pss_one (ps_ret (pe_lc (own := [("letter", 7)]) rfl sc_Seen_truths.nd (pi_str (pe_fld (pv 0) rfl)) (blkOk_by (own := [("letter", 7)]) (N := ["self", "told", "word", "places", "one", "rows", "two", "letter", "own", "at", "other"]) (sc := defScope s_Seen_truths) (by decide +kernel)) (fun _ _ _ _ _ => (pg_name (i := 7) sc_Seen_truths.nd rfl (Or.inl rfl))) (fun _ _ _ _ _ => pts_nil) (fun _ _ _ _ _ => (pe_cmpR op_eq (pv 7) (pe_ix (ixTK (K := K) rfl) (pv 1) pe_int (fun _ _ => rfl)) (nomark _)))))) pss_nil)
      (pss_cons (ps_if (pt_cmpR op_eq (pv 2) pe_str (nomark _)) (pss_one (ps_ret (pe_lc (own := [("letter", 7)]) rfl sc_Seen_truths.nd (pi_str (pe_fld (pv 0) rfl)) (blkOk_by (own := [("letter", 7)]) (N := ["self", "told", "word", "places", "one", "rows", "two", "letter", "own", "at", "other"]) (sc := defScope s_Seen_truths) (by decide +kernel)) (fun _ _ _ _ _ => (pg_name (i := 7) sc_Seen_truths.nd rfl (Or.inl rfl))) (fun _ _ _ _ _ => pts_nil) (fun _ _ _ _ _ => (pe_cmpR op_eq (pe_call G_known_kind hr_known_kind (by rfl) G.m_known_kind G.k_known_kind G.b_known_kind .nil pass0 (pa_cons (fldK (K := K) rfl (pv 0) rfl) (pa_cons (pv 7) pa_nil))) (pe_ix (ixTK (K := K) rfl) (pv 1) pe_int (fun _ _ => rfl)) (nomark _)))))) pss_nil)
      (pss_cons (ps_set (i := 4) sc_Seen_truths.nd rfl (Or.inr rfl) (pe_meth (pv 0) G.cl_Seen G.mt_Seen_truths G_Seen_truths hr_Seen_truths G.b_Seen_truths .nil pass0 (pa_cons (pe_ix ix_tup (pv 1) pe_int (fun _ _ => rfl)) pa_nil)))
      (pss_cons (ps_if (pt_cmpR op_eq (pv 2) pe_str (nomark _)) (pss_one (ps_ret (pe_lc (own := [("own", 8)]) rfl sc_Seen_truths.nd (pi_list (pv 4)) (blkOk_by (own := [("own", 8)]) (N := ["self", "told", "word", "places", "one", "rows", "two", "letter", "own", "at", "other"]) (sc := defScope s_Seen_truths) (by decide +kernel)) (fun _ _ _ _ _ => (pg_name (i := 8) sc_Seen_truths.nd rfl (Or.inl rfl))) (fun _ _ _ _ _ => pts_nil) (fun _ _ _ _ _ => (pe_not (pv 8)))))) pss_nil)
      (pss_cons (ps_if (pt_cmpR op_eq (pv 2) pe_str (nomark _)) (pss_one (ps_ret (pe_slice sl_list (pe_lst (StX.pa_star (pe_slice sl_list (pv 4) (po_some pe_int) po_none) (pa_cons pe_bl pa_nil))) po_none (po_some (pe_callB call_len (by rfl) G.n_len (by decide +kernel) (pa_cons (pv 4) pa_nil)))))) pss_nil)
      (pss_cons (ps_if (pt_cmpR op_in_seq (pv 2) (pe_tup (pa_cons pe_str (pa_cons pe_str (pa_cons pe_str pa_nil)))) (by rfl)) (pss_cons (ps_set (i := 5) sc_Seen_truths.nd rfl (Or.inr rfl) (pe_fld (pv 0) rfl))
        (pss_cons (ps_if (pt_cmpR op_eq (pv 2) pe_str (nomark _)) (pss_one (ps_set (i := 5) sc_Seen_truths.nd rfl (Or.inr rfl) (pe_fld (pv 0) rfl))) pss_nil)
        (pss_cons (ps_if (pt_cmpR op_eq (pv 2) pe_str (nomark _)) (pss_one (ps_set (i := 5) sc_Seen_truths.nd rfl (Or.inr rfl) (pe_lc (own := [("at", 9)]) rfl sc_Seen_truths.nd (pi_list (pv 3)) (blkOk_by (own := [("at", 9)]) (N := ["self", "told", "word", "places", "one", "rows", "two", "letter", "own", "at", "other"]) (sc := defScope s_Seen_truths) (by decide +kernel)) (fun _ _ _ _ _ => (pg_name (i := 9) sc_Seen_truths.nd rfl (Or.inl rfl))) (fun _ _ _ _ _ => pts_nil) (fun _ _ _ _ _ => (pe_meth (pv 0) G.cl_Seen G.mt_Seen_behind G_Seen_behind hr_Seen_behind G.b_Seen_behind .nil pass0 (pa_cons (pv 9) pa_nil)))))) pss_nil)
        (pss_one (ps_ret (pe_lc (own := [("at", 9)]) rfl sc_Seen_truths.nd (pi_list (pv 3)) (blkOk_by (own := [("at", 9)]) (N := ["self", "told", "word", "places", "one", "rows", "two", "letter", "own", "at", "other"]) (sc := defScope s_Seen_truths) (by decide +kernel)) (fun _ _ _ _ _ => (pg_name (i := 9) sc_Seen_truths.nd rfl (Or.inl rfl))) (fun _ _ _ _ _ => pts_nil) (fun _ _ _ _ _ => (pe_and (pe_cmpR op_ge (pe_ix (ixLK (K := K) rfl) (pv 5) (pv 9) (fun _ _ => rfl)) pe_int (nomark _)) (pe_one (pe_ix (ixLK (K := K) rfl) (pv 4) (pe_ix (ixLK (K := K) rfl) (pv 5) (pv 9) (fun _ _ => rfl)) (fun _ _ => rfl))))))))))) pss_nil)
      (pss_cons (ps_set (i := 6) sc_Seen_truths.nd rfl (Or.inl rfl) (pe_meth (pv 0) G.cl_Seen G.mt_Seen_truths G_Seen_truths hr_Seen_truths G.b_Seen_truths .nil pass0 (pa_cons (pe_ix ix_tup (pv 1) pe_int (fun _ _ => rfl)) pa_nil)))
      (pss_cons (ps_if (pt_cmpR op_in_seq (pv 2) (pe_tup (pa_cons pe_str (pa_cons pe_str pa_nil))) (by rfl)) (pss_one (ps_ret (pe_lc (own := [("own", 8), ("other", 10)]) rfl sc_Seen_truths.nd (pi_zipA (by rfl) G.n_zip (pa_cons (pv 4) (pa_cons (pv 6) pa_nil))) (blkOk_by (own := [("own", 8), ("other", 10)]) (N := ["self", "told", "word", "places", "one", "rows", "two", "letter", "own", "at", "other"]) (sc := defScope s_Seen_truths) (by decide +kernel)) (fun _ _ _ _ _ => (gtupK (K := K) (n := 2) rfl rfl (pgs_cons (pg_name (i := 8) sc_Seen_truths.nd rfl (Or.inl rfl)) (pgs_cons (pg_name (i := 10) sc_Seen_truths.nd rfl (Or.inl rfl)) pgs_nil)))) (fun _ _ _ _ _ => pts_nil) (fun _ _ _ _ _ => (pe_ifExp (pt_cmpR op_eq (pv 2) pe_str (nomark _)) (pe_and (pv 8) (pe_one (pv 10))) (pe_or (pv 8) (pe_one (pv 10)))))))) pss_nil)
      (pss_one (ps_ret (pe_meth (pv 0) G.cl_Seen G.mt_Seen_until G_Seen_until hr_Seen_until G.b_Seen_until .nil pass0 (pa_cons (pv 4) (pa_cons (pv 6) (pa_cons (pe_cmpR op_eq (pv 2) pe_str (nomark _)) pa_nil))))))))))))))), ?_⟩
      obtain ⟨a, v, al, z, t, rfl, hS, hz, hok, hd, hdep, hres⟩ := h
      have tx : ∀ {σ : L2.St} {H1 : Hp}, Ex H H1 → σ[0]? = some (some (.ref a)) → Ev (tFld K (tVar 0) "text") σ H1 (.str z) := fun x h => seen_text G (hS.mono x) (ev_var h)
      have tv : ∀ {σ : L2.St} {H1 : Hp}, Ex H H1 → σ[1]? = some (some v) → EvD K (tVar 1) σ H1 t.d := fun x h => evd_var h (Dpx x hd)
      have res : ∀ {p xs H1}, H p = none → Ex H H1 → H1 p = some (.lst xs) → DpAll K H1 xs ((trL al z t).map .bool) → Q (.ref p) H1 := fun hp e h hx => hres _ _ hp e (by rw [h, dpAll_bools' hx])
      -- word, places
      have hw0 : ∃ r, t.d = .tuple (.str t.w :: r) := by cases t <;> exact ⟨_, rfl⟩
      obtain ⟨r, hr0⟩ := hw0
      have tw : ∀ {σ : L2.St} {H1 : Hp}, Ex H H1 → σ[1]? = some (some v) → EvD K (tOp (rIxT K) (tVar 1) (tC (.int 0))) σ H1 (.str t.w) := fun x h => evd_ixT (ds := .str t.w :: r) (by rw [← hr0]; exact tv x h) ev_c (at0 _ _)
      refine q_asg2 (ead_cons (tw (Ex.refl H) rfl) (ead_cons (EvN.dp (evn_natsL (ev_lenS (tx (Ex.refl H) rfl) (by omega)) (by omega))) ead_nil)) (by rfl) fun vw vp H1 e1 hvw hvp => ?_
      cases dp_str hvw
      have pl : ∀ {σ : L2.St} {H2 : Hp}, Ex H1 H2 → σ[3]? = some (some vp) → EvD K (tVar 3) σ H2 (.list ((List.range z.length).map fun i => .int (i : Nat))) := fun x h => evd_var h (Dpx x hvp)
      cases t with
      | sign c =>
        refine q_when (b := true) (word_test rfl rfl) (fun _ H2 e2 => ?_) (fun h => by cases h)
        have e12 := e1.trans e2
        refine s_retN (evn_lcD (ds := (trL al z (.sign c)).map .bool) (evw_str (tx e12 rfl)) (by simp [trL, Str.length]) (by omega) (immAll_bools _) (fun _ => rfl) fun i x d H3 e3 hd3 y => ?_) fun p xs H3 hp e3 h3 hx => res (fresh_back e12 hp) (e12.trans e3) h3 hx
        obtain ⟨b, hb, rfl⟩ := map_get hd3
        obtain ⟨c', hc', rfl⟩ := map_get (show (z.cps.toList.map fun x => decide (one x = one c))[i]? = some b from hb)
        obtain ⟨c2, hc2, rfl⟩ := y
        rw [Array.getElem?_toList, hc2] at hc'
        cases hc'
        exact ev_bool (ev_is (ev_eq (ev_var rfl) (evd_str (evd_ixT (tv (e12.trans e3) rfl) ev_c rfl))) (by rw [dstr]; rfl))
      | kind k0 =>
        refine q_when (b := false) (word_test rfl (by show decide (Str.ofString "kind" = Str.ofString "sign") = false; decide +kernel)) (fun h => by cases h) fun _ H2 e2 => ?_
        refine q_when (b := true) (word_test rfl rfl) (fun _ H3 e3 => ?_) (fun h => by cases h)
        have e13 := e1.trans (e2.trans e3)
        refine s_retN (evn_lcD (ds := (trL al z (.kind k0)).map .bool) (evw_str (tx e13 rfl)) (by simp [trL, Str.length]) (by omega) (immAll_bools _) (fun _ => rfl) fun i x d H4 e4 hd4 y => ?_) fun p xs H4 hp e4 h4 hx => res (fresh_back e13 hp) (e13.trans e4) h4 hx
        obtain ⟨b, hb, rfl⟩ := map_get hd4
        obtain ⟨c', hc', rfl⟩ := map_get (show (z.cps.toList.map fun x => decide (kindOf al x = kinds3.getD k0 ""))[i]? = some b from hb)
        obtain ⟨c2, hc2, rfl⟩ := y
        rw [Array.getElem?_toList, hc2] at hc'
        cases hc'
        have e14 := e13.trans e4
        refine ev_bool (ev_is (ev_eq (x := .str (kindOf al c')) (evd_str (K := K) (evd_call (ead_cons (seen_al G (hS.mono e14) (ev_var rfl)) (ead_cons (ev_str (ev_var rfl)) ead_nil)) fun vs H5 e5 hv Q q => ⟨al, c', hok c' (List.mem_of_getElem? (by rw [Array.getElem?_toList]; exact hc2)), hv, fun H' e => q _ H' e (.str _)⟩)) (evd_str (evd_ixT (tv e14 rfl) ev_c rfl))) (by rw [dstr]))
      | un u t1 =>
        have n1 : decide (u.s = Str.ofString "sign") = false := by cases u <;> decide +kernel
        have n2 : decide (u.s = Str.ofString "kind") = false := by cases u <;> decide +kernel
        refine q_when (b := false) (word_test (w := u.s) rfl n1) (fun h => by cases h) fun _ H2 e2 => ?_
        refine q_when (b := false) (word_test (w := u.s) rfl n2) (fun h => by cases h) fun _ H3 e3 => ?_
        have e13 := e1.trans (e2.trans e3)
        have hd1 : t1.dep < n := by have : t1.dep + 1 < n + 1 := hdep; omega
        refine q_asgD (d := .list ((trL al z t1).map .bool)) (evd_meth (ev_var rfl) (hS.mono e13).choose_spec.choose_spec.choose_spec.choose_spec.1 rfl (ead_cons (evd_ixT (tv e13 rfl) ev_c rfl) ead_nil) fun vs H4 e4 hv Q q => ?_) fun v1 H4 e4 hv1 => ?_
        · cases hv with
          | cons h1 h2 =>
          cases h2
          exact ⟨a, _, al, z, t1, rfl, hS.mono (e13.trans e4), hz, hok, h1, hd1, fun p H' hp e h => q _ H' e (.lst (sq_of h) (dpAll_bools _))⟩
        have e14 := e13.trans e4
        have on : ∀ {σ : L2.St} {H5 : Hp}, Ex H4 H5 → σ[4]? = some (some v1) → EvD K (tVar 4) σ H5 (.list ((trL al z t1).map .bool)) := fun x h => evd_var h (Dpx x hv1)
        -- leap, caller, partner: the rows, then the list
        have fin : ∀ {σ : L2.St} {H5 : Hp} {vr : V} {Dd : Ends} {u' : Un}, (trL al z (.un u t1) = (rowsM al z u').map fun r => decide (0 ≤ r) && (trL al z t1).getD r.toNat false) → Dd.rt = Q → Ex H4 H5 → σ = [some (.ref a), some v, some (.str u.s), some vp, some v1, some vr, none, none, none, none, none] → Dp K H5 vr (.list ((rowsM al z u').map .int)) →
            tRet (tLc (iList K (tVar 3)) (gName 9) tYes (tAndV (tOp (rI0 fun i j => .bl (decide (j ≤ i))) (tOp (rIxL K) (tVar 5) (tVar 9)) (tC (.int 0))) (tOp (rIxL K) (tVar 4) (tOp (rIxL K) (tVar 5) (tVar 9)))) [9]) Dd σ H5 := by
          intro σ H5 vr Dd u' ht hD e5 hσ hvr
          subst hσ
          have e15 := e14.trans e5
          refine s_retN (evn_lcD (ds := (trL al z (.un u t1)).map .bool) (evw_list (pl ((e2.trans e3).trans (e4.trans e5)) rfl)) (by simp [trL_len]) (by simp; omega) (immAll_bools _) (fun _ => rfl) fun i x d H6 e6 hd6 y => ?_) fun p xs H6 hp e6 h6 hx => by rw [hD]; exact res (fresh_back e15 hp) (e15.trans e6) h6 hx
          obtain ⟨b, hb, rfl⟩ := map_get hd6
          rw [ht] at hb
          obtain ⟨r0, hr0', rfl⟩ := map_get hb
          have hi : i < z.length := by
            have := (List.getElem?_eq_some_iff.mp hr0').1
            rwa [rowsM_len] at this
          obtain ⟨d0, hd0, hx0⟩ := y
          obtain ⟨j0, hj0, rfl⟩ := map_get hd0
          rw [List.getElem?_range hi] at hj0
          cases hj0
          cases dp_int hx0
          have rw_ : ∀ {σ : L2.St}, σ[5]? = some (some vr) → σ[9]? = some (some (.int (i : Nat))) → Ev (tOp (rIxL K) (tVar 5) (tVar 9)) σ H6 (.int r0) := fun h h9 =>
            evd_int (evd_ixL (evd_var h (Dpx e6 hvr)) (ev_var h9) (atI_nat (by rw [List.getElem?_map, hr0']; rfl)))
          refine ev_bool (ev_andV (ev_ge (rw_ rfl rfl) ev_c) fun hb => ?_)
          rcases rowsM_rg al z u' r0 (List.mem_of_getElem? hr0') with e | ⟨m, e, hm⟩
          · rw [e] at hb
            cases of_decide_eq_true hb
          · subst e
            exact evd_bool (evd_ixL (on (e5.trans e6) rfl) (rw_ rfl rfl) (atI_nat (by rw [List.getElem?_map, getD_some (x := false) (by rw [trL_len]; exact hm)]; rfl)))
        have inl : ∀ {σ : L2.St} {H5 : Hp} {b : Bool}, σ[2]? = some (some (.str u.s)) → inV (.str u.s) [.str "leap", .str "caller", .str "partner"] = b → EvT (tTest (tOp (rIn K false) (tVar 2) (tTup (tCons (tC (.str "leap")) (tCons (tC (.str "caller")) (tCons (tC (.str "partner")) tNil)))))) σ H5 b := fun h hb =>
          hb ▸ et_test (ev_inU (ev_var h) (eu_tup (ea_cons ev_c (ea_cons ev_c (ea_cons ev_c ea_nil))) (by decide)) rfl rfl)
        cases u with
        | not =>
          refine q_when (b := true) (word_test (w := Un.s .not) rfl rfl) (fun _ H5 e5 => ?_) (fun h => by cases h)
          have e15 := e14.trans e5
          refine s_retN (evn_lcD (ds := (trL al z (.un .not t1)).map .bool) (evw_list (on e5 rfl)) (by simp [trL]) (by rw [List.length_map, trL_len]; omega) (immAll_bools _) (fun _ => rfl) fun i x d H6 e6 hd6 y => ?_) fun p xs H6 hp e6 h6 hx => res (fresh_back e15 hp) (e15.trans e6) h6 hx
          obtain ⟨b, hb, rfl⟩ := map_get hd6
          obtain ⟨b1, hb1, rfl⟩ := map_get (show ((trL al z t1).map (!·))[i]? = some b from hb)
          obtain ⟨d0, hd0, hx0⟩ := y
          rw [List.getElem?_map, hb1] at hd0
          cases hd0
          cases dp_bool hx0
          exact ev_bool (ev_notV (ev_var rfl))
        | next =>
          refine q_when (b := false) (word_test (w := Un.s .next) rfl (by decide +kernel)) (fun h => by cases h) fun _ H5 e5 => ?_
          refine q_when (b := true) (word_test (w := Un.s .next) rfl rfl) (fun _ H6 e6 => ?_) (fun h => by cases h)
          have e46 := e5.trans e6
          have hlt := trL_len al z t1
          refine s_retN (evn_slL (EvN.dp (evn_lst (ead_star (EvN.dp (evn_slL (on e46 rfl) (eo_some ev_c) eo_none)) (ead_cons (ev_bool ev_c) ead_nil)) ?_)) eo_none (eo_some (ev_lenL (on e46 rfl)))) fun p xs H7 hp e7 h7 hx => res (fresh_back (e14.trans e46) hp) ((e14.trans e46).trans e7) h7 ?_
          · rw [List.length_append, List.length_take, List.length_drop, List.length_map]
            simp
            omega
          · refine (congrArg (fun l => DpAll K H7 xs l) ?_).mp hx
            exact nextEq _
        | leap =>
          refine q_when (b := false) (word_test (w := Un.s .leap) rfl (by decide +kernel)) (fun h => by cases h) fun _ H5 e5 => ?_
          refine q_when (b := false) (word_test (w := Un.s .leap) rfl (by decide +kernel)) (fun h => by cases h) fun _ H6 e6 => ?_
          refine q_when (b := true) (inl rfl (by decide +kernel)) (fun _ H7 e7 => ?_) (fun h => by cases h)
          have e47 := e5.trans (e6.trans e7)
          refine q_asgD (seen_par G (hS.mono (e14.trans e47)) (ev_var rfl)) fun vr H8 e8 hvr => ?_
          refine q_when (b := false) (word_test (w := Un.s .leap) rfl (by decide +kernel)) (fun h => by cases h) fun _ H9 e9 => ?_
          refine q_when (b := true) (word_test (w := Un.s .leap) rfl rfl) (fun _ H10 e10 => ?_) (fun h => by cases h)
          have e410 := e47.trans (e8.trans (e9.trans e10))
          refine s_asgD (EvN.dp (evn_lcD (ds := (rowsM al z .leap).map .int) (evw_list (pl ((e2.trans e3).trans (e4.trans e410)) rfl)) (by simp [rowsM_len]) (by simp; omega) (immAll_ints _) (fun _ => rfl) fun i x d H11 e11 hd11 y => ?_)) fun vl H11 e11 hvl => fin rfl rfl (e410.trans e11) rfl hvl
          obtain ⟨r0, hr0', rfl⟩ := map_get hd11
          have hi : i < z.length := by
            have := (List.getElem?_eq_some_iff.mp hr0').1
            rwa [rowsM_len] at this
          obtain ⟨j1, hj1, rfl⟩ := map_get (show ((List.range z.length).map (behindM al z))[i]? = some r0 from hr0')
          rw [List.getElem?_range hi] at hj1
          cases hj1
          obtain ⟨d0, hd0, hx0⟩ := y
          obtain ⟨j0, hj0, rfl⟩ := map_get hd0
          rw [List.getElem?_range hi] at hj0
          cases hj0
          cases dp_int hx0
          have e111 := e14.trans (e410.trans e11)
          refine evd_meth (ev_var rfl) (hS.mono e111).choose_spec.choose_spec.choose_spec.choose_spec.1 rfl (ead_cons (evd_var rfl (.int (i : Nat))) ead_nil) fun vs H12 e12 hv Q q => ?_
          cases hv with
          | cons h1 h2 =>
          cases h2
          cases dp_int h1
          exact ⟨a, al, z, i, rfl, hS.mono (e111.trans e12), hz, hi, fun H' e => q _ _ e (.int _)⟩
        | caller =>
          refine q_when (b := false) (word_test (w := Un.s .caller) rfl (by decide +kernel)) (fun h => by cases h) fun _ H5 e5 => ?_
          refine q_when (b := false) (word_test (w := Un.s .caller) rfl (by decide +kernel)) (fun h => by cases h) fun _ H6 e6 => ?_
          refine q_when (b := true) (inl rfl (by decide +kernel)) (fun _ H7 e7 => ?_) (fun h => by cases h)
          have e47 := e5.trans (e6.trans e7)
          refine q_asgD (seen_par G (hS.mono (e14.trans e47)) (ev_var rfl)) fun vr H8 e8 hvr => ?_
          refine q_when (b := true) (word_test (w := Un.s .caller) rfl rfl) (fun _ H9 e9 => ?_) (fun h => by cases h)
          have e49 := e47.trans (e8.trans e9)
          refine s_asgD (seen_aro G (hS.mono (e14.trans e49)) (ev_var rfl)) fun vl H10 e10 hvl => ?_
          refine q_when (b := false) (word_test (w := Un.s .caller) rfl (by decide +kernel)) (fun h => by cases h) fun _ H11 e11 => ?_
          exact fin (u' := .caller) rfl rfl (e49.trans (e10.trans e11)) rfl (Dpx e11 hvl)
        | partner =>
          refine q_when (b := false) (word_test (w := Un.s .partner) rfl (by decide +kernel)) (fun h => by cases h) fun _ H5 e5 => ?_
          refine q_when (b := false) (word_test (w := Un.s .partner) rfl (by decide +kernel)) (fun h => by cases h) fun _ H6 e6 => ?_
          refine q_when (b := true) (inl rfl (by decide +kernel)) (fun _ H7 e7 => ?_) (fun h => by cases h)
          have e47 := e5.trans (e6.trans e7)
          refine q_asgD (seen_par G (hS.mono (e14.trans e47)) (ev_var rfl)) fun vr H8 e8 hvr => ?_
          refine q_when (b := false) (word_test (w := Un.s .partner) rfl (by decide +kernel)) (fun h => by cases h) fun _ H9 e9 => ?_
          refine q_when (b := false) (word_test (w := Un.s .partner) rfl (by decide +kernel)) (fun h => by cases h) fun _ H10 e10 => ?_
          exact fin (u' := .partner) rfl rfl (e47.trans (e8.trans (e9.trans e10))) rfl (Dpx (e9.trans e10) hvr)
      | bi u t1 t2 =>
        have n1 : decide (u.s = Str.ofString "sign") = false := by cases u <;> decide +kernel
        have n2 : decide (u.s = Str.ofString "kind") = false := by cases u <;> decide +kernel
        have n3 : decide (u.s = Str.ofString "not") = false := by cases u <;> decide +kernel
        have n4 : decide (u.s = Str.ofString "next") = false := by cases u <;> decide +kernel
        have n5 : inV (.str u.s) [.str "leap", .str "caller", .str "partner"] = false := by cases u <;> decide +kernel
        have inl : ∀ {σ : L2.St} {H5 : Hp}, σ[2]? = some (some (.str u.s)) → EvT (tTest (tOp (rIn K false) (tVar 2) (tTup (tCons (tC (.str "leap")) (tCons (tC (.str "caller")) (tCons (tC (.str "partner")) tNil)))))) σ H5 false := fun h => et_is (et_test (ev_inU (ev_var h) (eu_tup (ea_cons ev_c (ea_cons ev_c (ea_cons ev_c ea_nil))) (by show 3 ≤ 100000; decide)) rfl rfl)) n5
        refine q_when (b := false) (word_test (w := u.s) rfl n1) (fun h => by cases h) fun _ H2 e2 => ?_
        refine q_when (b := false) (word_test (w := u.s) rfl n2) (fun h => by cases h) fun _ H3 e3 => ?_
        have e13 := e1.trans (e2.trans e3)
        have hd1 : t1.dep < n ∧ t2.dep < n := by have : max t1.dep t2.dep + 1 < n + 1 := hdep; omega
        refine q_asgD (d := .list ((trL al z t1).map .bool)) (evd_meth (ev_var rfl) (hS.mono e13).choose_spec.choose_spec.choose_spec.choose_spec.1 rfl (ead_cons (evd_ixT (tv e13 rfl) ev_c rfl) ead_nil) fun vs H4 e4 hv Q q => ?_) fun v1 H4 e4 hv1 => ?_
        · cases hv with
          | cons h1 h2 =>
          cases h2
          exact ⟨a, _, al, z, t1, rfl, hS.mono (e13.trans e4), hz, hok, h1, hd1.1, fun p H' hp e h => q _ H' e (.lst (sq_of h) (dpAll_bools _))⟩
        have e14 := e13.trans e4
        refine q_when (b := false) (word_test (w := u.s) rfl n3) (fun h => by cases h) fun _ H5 e5 => ?_
        refine q_when (b := false) (word_test (w := u.s) rfl n4) (fun h => by cases h) fun _ H6 e6 => ?_
        refine q_when (b := false) (inl rfl) (fun h => by cases h) fun _ H7 e7 => ?_
        have e47 := e5.trans (e6.trans e7)
        have e17 := e14.trans e47
        refine q_asgD (d := .list ((trL al z t2).map .bool)) (evd_meth (ev_var rfl) (hS.mono e17).choose_spec.choose_spec.choose_spec.choose_spec.1 rfl (ead_cons (evd_ixT (tv e17 rfl) ev_c rfl) ead_nil) fun vs H8 e8 hv Q q => ?_) fun v2 H8 e8 hv2 => ?_
        · cases hv with
          | cons h1 h2 =>
          cases h2
          exact ⟨a, _, al, z, t2, rfl, hS.mono (e17.trans e8), hz, hok, h1, hd1.2, fun p H' hp e h => q _ H' e (.lst (sq_of h) (dpAll_bools _))⟩
        have e18 := e17.trans e8
        have on : ∀ {σ : L2.St} {H5 : Hp}, Ex H8 H5 → σ[4]? = some (some v1) → EvD K (tVar 4) σ H5 (.list ((trL al z t1).map .bool)) := fun x h => evd_var h (Dpx ((e47.trans e8).trans x) hv1)
        have tw2 : ∀ {σ : L2.St} {H5 : Hp}, Ex H8 H5 → σ[6]? = some (some v2) → EvD K (tVar 6) σ H5 (.list ((trL al z t2).map .bool)) := fun x h => evd_var h (Dpx x hv2)
        have inb : ∀ {σ : L2.St} {H5 : Hp} {b : Bool}, σ[2]? = some (some (.str u.s)) → inV (.str u.s) [.str "both", .str "either"] = b → EvT (tTest (tOp (rIn K false) (tVar 2) (tTup (tCons (tC (.str "both")) (tCons (tC (.str "either")) tNil))))) σ H5 b := fun h hb =>
          hb ▸ et_test (ev_inU (ev_var h) (eu_tup (ea_cons ev_c (ea_cons ev_c ea_nil)) (by decide)) rfl rfl)
        have h1len := trL_len al z t1
        have h2len := trL_len al z t2
        have pairB : ∀ {i : Nat} {x : V} {H5 : Hp} {l : List Bool}, (∃ d, (l.map PyData.bool)[i]? = some d ∧ Dp K H5 x d) → x = .bl (l.getD i false) := fun {i x H5 l} ⟨d, h1, h2⟩ => by
          obtain ⟨b, hb, rfl⟩ := map_get h1
          rw [List.getD_eq_getElem?_getD, hb]
          exact dp_bool h2
        cases u with
        | both =>
          refine q_when (b := true) (inb rfl (by decide +kernel)) (fun _ H9 e9 => ?_) (fun h => by cases h)
          refine s_retN (evn_lcP (ds := (trL al z (.bi .both t1 t2)).map .bool) (evw_zipL (ead_cons (on e9 rfl) (ead_cons (tw2 e9 rfl) ead_nil))) (by rw [List.length_map, List.length_map, List.length_map, trL_len, h1len, h2len]; omega) (by rw [List.length_map, List.length_map, h1len, h2len]; omega) (immAll_bools _) (fun _ _ => rfl) fun i x y d H10 e10 hd10 hx hy => ?_) fun p xs H10 hp e10 h10 hx => res (fresh_back (e18.trans e9) hp) ((e18.trans e9).trans e10) h10 hx
          obtain ⟨b, hb, rfl⟩ := map_get hd10
          obtain ⟨j, hj, rfl⟩ := map_get (show ((List.range z.length).map fun i => (trL al z t1).getD i false && (trL al z t2).getD i false)[i]? = some b from hb)
          obtain ⟨hj1, hj2⟩ := List.getElem?_eq_some_iff.mp hj
          rw [List.getElem_range] at hj2
          subst hj2
          rw [pairB hx, pairB hy]
          exact ev_bool (ev_if (b := true) (word_test (w := Bi.s .both) rfl rfl) (fun _ => ev_andV (ev_var rfl) fun _ => ev_var rfl) (fun h => by cases h))
        | either =>
          refine q_when (b := true) (inb rfl (by decide +kernel)) (fun _ H9 e9 => ?_) (fun h => by cases h)
          refine s_retN (evn_lcP (ds := (trL al z (.bi .either t1 t2)).map .bool) (evw_zipL (ead_cons (on e9 rfl) (ead_cons (tw2 e9 rfl) ead_nil))) (by rw [List.length_map, List.length_map, List.length_map, trL_len, h1len, h2len]; omega) (by rw [List.length_map, List.length_map, h1len, h2len]; omega) (immAll_bools _) (fun _ _ => rfl) fun i x y d H10 e10 hd10 hx hy => ?_) fun p xs H10 hp e10 h10 hx => res (fresh_back (e18.trans e9) hp) ((e18.trans e9).trans e10) h10 hx
          obtain ⟨b, hb, rfl⟩ := map_get hd10
          obtain ⟨j, hj, rfl⟩ := map_get (show ((List.range z.length).map fun i => (trL al z t1).getD i false || (trL al z t2).getD i false)[i]? = some b from hb)
          obtain ⟨hj1, hj2⟩ := List.getElem?_eq_some_iff.mp hj
          rw [List.getElem_range] at hj2
          subst hj2
          rw [pairB hx, pairB hy]
          exact ev_bool (ev_if (b := false) (word_test (w := Bi.s .either) rfl (by decide +kernel)) (fun h => by cases h) fun _ => ev_orV (ev_var rfl) fun _ => ev_var rfl)
        | «until» =>
          refine q_when (b := false) (inb rfl (by decide +kernel)) (fun h => by cases h) fun _ H9 e9 => ?_
          have e19 := e18.trans e9
          refine s_retN (evn_meth (es := (untilL al z true (trL al z t1) (trL al z t2)).map .bool) (ev_var rfl) (hS.mono e19).choose_spec.choose_spec.choose_spec.choose_spec.1 rfl (ead_cons (on e9 rfl) (ead_cons (tw2 e9 rfl) (ead_cons (ev_bool (ev_is (w := .bl true) (ev_eq (ev_var rfl) ev_c) (by rw [dstr]; exact congrArg V.bl (by decide +kernel : decide (Bi.s .until = Str.ofString "until") = true)))) ead_nil))) fun vs H10 e10 hv Q q => ?_) fun p xs H10 hp e10 h10 hx => res (fresh_back e19 hp) (e19.trans e10) h10 hx
          cases hv with
          | cons g1 g2 =>
          cases g2 with
          | cons g2 g3 =>
          cases g3 with
          | cons g3 g4 =>
          cases g4
          cases dp_bool g3
          exact ⟨a, _, _, al, z, true, trL al z t1, trL al z t2, rfl, hS.mono (e19.trans e10), hz, h1len, h2len, g1, g2, fun p H' hp e h => q p _ H' hp e h (dpAll_bools _)⟩
        | leapuntil =>
          refine q_when (b := false) (inb rfl (by decide +kernel)) (fun h => by cases h) fun _ H9 e9 => ?_
          have e19 := e18.trans e9
          refine s_retN (evn_meth (es := (untilL al z false (trL al z t1) (trL al z t2)).map .bool) (ev_var rfl) (hS.mono e19).choose_spec.choose_spec.choose_spec.choose_spec.1 rfl (ead_cons (on e9 rfl) (ead_cons (tw2 e9 rfl) (ead_cons (ev_bool (ev_is (w := .bl false) (ev_eq (ev_var rfl) ev_c) (by rw [dstr]; exact congrArg V.bl (by decide +kernel : decide (Bi.s .leapuntil = Str.ofString "until") = false)))) ead_nil))) fun vs H10 e10 hv Q q => ?_) fun p xs H10 hp e10 h10 hx => res (fresh_back e19 hp) (e19.trans e10) h10 hx
          cases hv with
          | cons g1 g2 =>
          cases g2 with
          | cons g2 g3 =>
          cases g3 with
          | cons g3 g4 =>
          cases g4
          cases dp_bool g3
          exact ⟨a, _, _, al, z, false, trL al z t1, trL al z t2, rfl, hS.mono (e19.trans e10), hz, h1len, h2len, g1, g2, fun p H' hp e h => q p _ H' hp e h (dpAll_bools _)⟩
end
end K38
set_option maxHeartbeats 4000000
namespace KR
open PySem PySem.Spec PyProof.Rows L2 Evl KD
section
variable {K : PySem.W.Frag} {σ : L2.St} {H : Hp} {te : TE}
/-- a comprehension whose j-th element raises -/
theorem evr_lc {wi : TI} {j m : Nat} {vs : List Nat} {n : Nat} {YD : Nat → V → Hp → Prop} {ds : List PyData} (hw : EvW wi σ H n YD) (hj : j < n) (hn : n ≤ 50000) (hl : ds.length = j) (hi : immAll ds = true) (hv : ∀ x, wipe ((wipe σ vs).set m (some x)) vs = wipe σ vs)
    (ht : ∀ i x d H1, Ex H H1 → ds[i]? = some d → YD i x H1 → EvD K te ((wipe σ vs).set m (some x)) H1 d) (hr : ∀ x H1, Ex H H1 → YD j x H1 → EvR te ((wipe σ vs).set m (some x)) H1) :
    EvR (tLc wi (gName m) tYes te vs) σ H := fun H0 e Q => hw H0 e _ fun J H1 G e1 w hG Dl hD => by
  refine lc_it w (fun i H' => i ≤ j ∧ Ex H1 H' ∧ ∃ xs, H' Dl = some (.lst xs) ∧ DpAll K H' xs (ds.take i)) ⟨Nat.zero_le _, Ex.new hD, [], upd_same, .nil⟩ (fun i H' _ p => hG H' p.2.1) (fun i x H' H4 hin p y => ?_) (fun H' p => absurd p.1 (by omega))
  obtain ⟨pj, p1, xs, p2, p3⟩ := p
  obtain ⟨y1, y2⟩ := y
  refine ⟨hv x, ?_⟩
  show te ((wipe σ vs).set m (some x)) H4 _
  have e4 : Ex H H4 := (e.trans e1).trans (p1.trans y1)
  by_cases hij : i = j
  · subst hij
    exact hr x H4 e4 y2 H4 (Ex.refl H4) _
  · have hlt : i < ds.length := by omega
    have hd : ds[i]? = some ds[i] := List.getElem?_eq_getElem hlt
    refine ht i x _ H4 e4 hd y2 H4 (Ex.refl H4) _ fun v H7 e7 hv7 => ⟨xs, e7 Dl _ (y1 Dl _ p2), ?_, ?_⟩
    · have := dpAll_len p3
      rw [List.length_take] at this
      exact sz_lt (by omega)
    · have at7 : H7 Dl = some (.lst xs) := e7 Dl _ (y1 Dl _ p2)
      have t7 : Tups K H7 (upd H7 Dl (.lst (xs ++ [v]))) := tups_upd at7
      refine ⟨by omega, Ex.mut ((p1.trans y1).trans e7) hD, xs ++ [v], upd_same, ?_⟩
      rw [show ds.take (i + 1) = ds.take i ++ [ds[i]] by rw [List.take_succ, hd]; rfl]
      refine dpAll_snoc (dpAll_imm t7 _ _ (all_imm fun d hd' => imm_of_all hi d (List.mem_of_mem_take hd')) (Dpax (y1.trans e7) p3)) (dp_imm t7 _ _ (imm_of_all hi _ (List.getElem_mem hlt)) hv7)
end
end KR
namespace K38
open PySem PySem.Spec PyProof.Rows L2 Evl KD KR RZ
/-! ### what may be handed in as a sentence -/
inductive Raw where
  | nil
  | leaf (w s : Str)
  | node (w : Str) (rs : List Raw)
inductive RI where
  | ok (n : Int)
  | no
  | big
  | bad
mutual
def Raw.d : Raw → PyData
  | .nil => .tuple []
  | .leaf w s => .tuple [.str w, .str s]
  | .node w rs => .tuple (.str w :: Raw.ds rs)
def Raw.ds : List Raw → List PyData
  | [] => []
  | r :: rs => r.d :: Raw.ds rs
end
theorem ds_len : ∀ rs : List Raw, (Raw.ds rs).length = rs.length
  | [] => rfl
  | _ :: rs => by rw [Raw.ds, List.length_cons, ds_len rs]; rfl
theorem ds_get : ∀ {rs : List Raw} {i : Nat} {d : PyData}, (Raw.ds rs)[i]? = some d → ∃ r, rs[i]? = some r ∧ d = r.d
  | [], i, d, h => by simp [Raw.ds] at h
  | r :: rs, 0, d, h => by
    rw [Raw.ds] at h
    cases h
    exact ⟨r, rfl, rfl⟩
  | r :: rs, i + 1, d, h => by
    rw [Raw.ds] at h
    exact ds_get (rs := rs) h
def cpAll (g : Raw → RI) : List Raw → RI
  | [] => .ok 0
  | r :: rs => match g r with
    | .ok n => (match cpAll g rs with
      | .ok m => .ok (n + m)
      | e => e)
    | e => e
def oneV : List V := [.str "not", .str "next", .str "leap", .str "caller", .str "partner"]
def twoV : List V := [.str "both", .str "either", .str "until", .str "leapuntil"]
def kindV : List V := [.str "call", .str "plain", .str "return"]
/-- a sign of the alphabet -/
def signOk (al : Al) (s : Str) : Bool := decide (s.length = 1) && al.has (s.cps.toList.getD 0 0)
def cp (al : Al) : Nat → Raw → RI
  | 0, _ => .big
  | _ + 1, .nil => .no
  | _ + 1, .leaf w s => if w = "sign" then (if 1000 < s.length then .bad else if signOk al s = true then .ok 1 else .no) else if (decide (w = Str.ofString "kind") && inV (.str s) kindV) = true then .ok 1 else if inV (.str w) oneV = true then .bad else .no
  | f + 1, .node w rs => if ((decide (w = Str.ofString "sign") || decide (w = Str.ofString "kind")) && decide (rs.length = 1)) = true then .bad
    else if ((inV (.str w) oneV && decide (rs.length = 1)) || (inV (.str w) twoV && decide (rs.length = 2))) = true then (match cpAll (cp al f) rs with
      | .ok n => .ok (1 + n)
      | e => e) else .no
def RI.rr : RI → RR
  | .ok n => .ok (.int n)
  | .no => .no
  | .big => .big
  | .bad => .no
theorem cpAll_bad {g : Raw → RI} : ∀ {rs : List Raw}, cpAll g rs ≠ .bad → (∃ (n : Int) (ns : List Int), cpAll g rs = .ok n ∧ ns.length = rs.length ∧ n = ns.sum ∧ ∀ (i : Nat) (r : Raw), rs[i]? = some r → ∃ m, g r = .ok m ∧ ns[i]? = some m) ∨
    ∃ (j : Nat) (r : Raw) (ns : List Int), rs[j]? = some r ∧ ns.length = j ∧ cpAll g rs = g r ∧ (g r = .no ∨ g r = .big) ∧ ∀ (i : Nat) (r : Raw), i < j → rs[i]? = some r → ∃ m, g r = .ok m ∧ ns[i]? = some m
  | [], _ => .inl ⟨0, [], rfl, rfl, rfl, fun i r h => by simp at h⟩
  | r :: rs, h => by
    rw [cpAll] at h ⊢
    cases hr : g r with
    | ok n =>
      rw [hr] at h
      cases ha : cpAll g rs with
      | ok m =>
        rcases cpAll_bad (g := g) (rs := rs) (by rw [ha]; intro q; cases q) with ⟨n', ns, e1, e2, e3, e4⟩ | ⟨j, r', ns, e1, e2, e3, e4, e5⟩
        · refine .inl ⟨n + m, n :: ns, rfl, by simp [e2], ?_, fun i r'' hi => ?_⟩
          · rw [ha] at e1
            cases e1
            rw [List.sum_cons, e3]
          · cases i with
            | zero => cases hi; exact ⟨n, hr, rfl⟩
            | succ i => exact e4 i r'' hi
        · rw [ha] at e3
          rw [← e3] at e4
          rcases e4 with q | q <;> cases q
      | no => 
        rcases cpAll_bad (g := g) (rs := rs) (by rw [ha]; intro q; cases q) with ⟨n', ns, e1, e2, e3, e4⟩ | ⟨j, r', ns, e1, e2, e3, e4, e5⟩
        · rw [ha] at e1; cases e1
        · refine .inr ⟨j + 1, r', n :: ns, e1, by simp [e2], by rw [← e3, ha], e4, fun i r'' hi hh => ?_⟩
          cases i with
          | zero => cases hh; exact ⟨n, hr, rfl⟩
          | succ i => exact e5 i r'' (by omega) hh
      | big =>
        rcases cpAll_bad (g := g) (rs := rs) (by rw [ha]; intro q; cases q) with ⟨n', ns, e1, e2, e3, e4⟩ | ⟨j, r', ns, e1, e2, e3, e4, e5⟩
        · rw [ha] at e1; cases e1
        · refine .inr ⟨j + 1, r', n :: ns, e1, by simp [e2], by rw [← e3, ha], e4, fun i r'' hi hh => ?_⟩
          cases i with
          | zero => cases hh; exact ⟨n, hr, rfl⟩
          | succ i => exact e5 i r'' (by omega) hh
      | bad => rw [ha] at h; exact absurd rfl h
    | no => exact .inr ⟨0, r, [], rfl, rfl, by rw [hr], .inl hr, fun i _ hi => by omega⟩
    | big => exact .inr ⟨0, r, [], rfl, rfl, by rw [hr], .inr hr, fun i _ hi => by omega⟩
    | bad => rw [hr] at h; exact absurd rfl h
end K38
set_option maxHeartbeats 8000000
namespace K38
open PySem PySem.Spec PyProof.Rows L2 Evl KD KR RZ
theorem dint (x y : Int) : decide (V.int x = V.int y) = decide (x = y) := decide_eq_decide.mpr ⟨fun h => by injection h, fun h => by rw [h]⟩
theorem str_one {s : Str} (h : s.length = 1) : s = one (s.cps.toList.getD 0 0) := by
  obtain ⟨⟨l⟩⟩ := s
  have h' : l.length = 1 := h
  match l, h' with
  | [c], _ => rfl
theorem evr_cb {σ : L2.St} {H : Hp} {te : TE} {r : List V → Hp → VK → Prop} (h : EvR te σ H) : EvR (tCB r (tCons te tNil)) σ H := fun H1 e Q => h H1 e _
theorem rest_eq {x : PyData} {l : List PyData} (h : 1 ≤ l.length) : (((x :: l).drop (HT.sIx (x :: l).length 0 (some 1))).take (HT.sIx (x :: l).length (x :: l).length none - HT.sIx (x :: l).length 0 (some 1))) = l := by
  have e1 : ∀ n d : Nat, HT.sIx n d (some 1) = min 1 n := fun n d => HT.sIx_nat n d 1
  rw [e1, HT.sIx_none, List.length_cons, show min 1 (l.length + 1) = 1 by omega]
  simp
theorem rest_ne {x : PyData} {l : List PyData} (h : 1 ≤ l.length) : ¬ (HT.sIx (x :: l).length 0 (some 1) = 0 ∧ HT.sIx (x :: l).length (x :: l).length none = (x :: l).length) := by
  have e1 : ∀ n d : Nat, HT.sIx n d (some 1) = min 1 n := fun n d => HT.sIx_nat n d 1
  rw [e1, List.length_cons]
  omega
section
variable {P : Program} {w : World} {K : PySem.W.Frag} {mg : Str → Option Value} {base : Heap}
def spCP (G : Pg K mg) (f : Nat) : Sp := fun vs H Q E => ∃ (al : Al) (r : Raw), al.short ∧ cp al f r ≠ .bad ∧ f ≤ 7 ∧ DpAll K H vs [al.d, r.d, .int (7 - (f : Nat))] ∧ Res G.C_NotAllowed G.C_TooLarge K H Q E (cp al f r).rr
theorem cp_step (G : Pg K mg) {k f : Nat} (G_check_part : FnOk P w K mg base (L2N.CX P w) k G.f_check_part G.fd_check_part ["alphabet", "told", "deep"] (fun vs H Q E => ∃ g, f = g + 1 ∧ spCP G g vs H Q E)) :
    FnOk P w K mg base (L2N.CX P w) (k + 1) G.f_check_part G.fd_check_part ["alphabet", "told", "deep"] (spCP G f) := by
    refine Fun.okXN G.F_check_part sc_check_part (fun vs H Q E h => ?_) (fun cdv A outer s H vs Q E hr h => ?_)
    · obtain ⟨al, r, _, _, _, hd, _⟩ := h
      exact dpAll_len hd
    · have tk : L2N.Takes (cxOf (L2N.CX P w) P w K mg base ["alphabet", "told", "deep", "word", "inner"] "check_part" (defScope s_check_part) G.f_check_part cdv A outer s H E) (fun cls d _ H => E cls d H) := L2N.takes_of rfl rfl rfl rfl
      have hr_check_part := hr
      refine ⟨_, (pss_cons (ps_if (pt_cmpR op_gt (pv 2) (pe_gI (by rfl) G.m_MAX_DEEP) (nomark _)) (pss_one (L2N.ps_raise rfl tk (L2N.pmk_own PySem.F.excBase_Exception G.xC_TooLarge G.mC_TooLarge G.kC_TooLarge (G.rs_TooLarge _ rfl) rfl))) pss_nil)
      (pss_cons (ps_set (i := 3) sc_check_part.nd rfl (Or.inl rfl) (pe_ifExp (pt_cmpR op_gt (pe_callB call_len (by rfl) G.n_len (by decide +kernel) (pa_cons (pv 1) pa_nil)) pe_int (nomark _)) (pe_ix ix_tup (pv 1) pe_int (fun _ _ => rfl)) pe_str))
      (pss_cons (ps_if (PW.pt (pw_and (pt_cmpR op_eq (pv 3) pe_str (nomark _)) (pw_and1 (pt_cmpR op_eq (pe_callB call_len (by rfl) G.n_len (by decide +kernel) (pa_cons (pv 1) pa_nil)) pe_int (nomark _))))) (pss_cons (ps_if (PW.pt (pw_or (pt_cmpR op_ne (pe_callB call_len (by rfl) G.n_len (by decide +kernel) (pa_cons (pe_ix ix_tup (pv 1) pe_int (fun _ _ => rfl)) pa_nil)) pe_int (nomark _)) (pw_or1 (pt_cmpR op_notIn_sign (pe_ix ix_tup (pv 1) pe_int (fun _ _ => rfl)) (pe_join pe_str (pv 0)) (by rfl))))) (pss_one (L2N.ps_raise rfl tk (L2N.pmk_own PySem.F.excBase_Exception G.xC_NotAllowed G.mC_NotAllowed G.kC_NotAllowed (G.rs_NotAllowed _ rfl) rfl))) pss_nil)
        (pss_one (ps_ret pe_int))) pss_nil)
      (pss_cons (ps_if (PW.pt (pw_and (pt_cmpR op_eq (pv 3) pe_str (nomark _)) (pw_and (pt_cmpR op_eq (pe_callB call_len (by rfl) G.n_len (by decide +kernel) (pa_cons (pv 1) pa_nil)) pe_int (nomark _)) (pw_and1 (pt_cmpR op_in_seq (pe_ix ix_tup (pv 1) pe_int (fun _ _ => rfl)) (pe_gR (by rfl) G.m_KINDS) (by rfl)))))) (pss_one (ps_ret pe_int)) pss_nil)
      (pss_cons (ps_if (PW.pt (pw_or (PW.pt (pw_and (pt_cmpR op_in_seq (pv 3) (pe_gR (by rfl) G.m_ONE) (by rfl)) (pw_and1 (pt_cmpR op_eq (pe_callB call_len (by rfl) G.n_len (by decide +kernel) (pa_cons (pv 1) pa_nil)) pe_int (nomark _))))) (pw_or1 (PW.pt (pw_and (pt_cmpR op_in_seq (pv 3) (pe_gR (by rfl) G.m_TWO) (by rfl)) (pw_and1 (pt_cmpR op_eq (pe_callB call_len (by rfl) G.n_len (by decide +kernel) (pa_cons (pv 1) pa_nil)) pe_int (nomark _)))))))) (pss_one (ps_ret (pe_op op_add pe_int (pe_callB (cr_sum rfl) (by rfl) G.n_sum (by decide +kernel) (pa_cons (pe_lcE (own := [("inner", 4)]) rfl rfl tk rfl sc_check_part.nd (pi_tup (pe_slice sl_tup (pv 1) (po_some pe_int) po_none)) (blkOk_by (own := [("inner", 4)]) (N := ["alphabet", "told", "deep", "word", "inner"]) (sc := defScope s_check_part) (by decide +kernel)) (fun _ _ _ _ _ _ => (pg_name (i := 4) sc_check_part.nd rfl (Or.inl rfl))) (fun _ _ _ _ _ _ => pts_nil) (fun W _ _ _ _ _ _ tkB => (pe_callS G_check_part hr_check_part (by rfl) G.m_check_part G.k_check_part G.b_check_part (fun σ => passB tkB σ) (pa_cons (pv 0) (pa_cons (pv 4) (pa_cons (pe_op op_add (pv 2) pe_int) pa_nil)))))) pa_nil))))) pss_nil)
      (pss_one (L2N.ps_raise rfl tk (L2N.pmk_own PySem.F.excBase_Exception G.xC_NotAllowed G.mC_NotAllowed G.kC_NotAllowed (G.rs_NotAllowed _ rfl) rfl)))))))), ?_⟩
      obtain ⟨al, r, hsh, hnb, hf7, hd, hres⟩ := h
      cases hd with
      | cons h1 h2 =>
      cases h2 with
      | cons h2 h3 =>
      cases h3 with
      | cons h3 h4 =>
      cases h4
      cases dp_int h3
      rename_i va vt
      have an : ∀ {σ : L2.St} {H1 : Hp}, Ex H H1 → σ[0]? = some (some va) → EvD K (tVar 0) σ H1 al.d := fun x h => evd_var h (Dpx x h1)
      have tn : ∀ {σ : L2.St} {H1 : Hp}, Ex H H1 → σ[1]? = some (some vt) → EvD K (tVar 1) σ H1 r.d := fun x h => evd_var h (Dpx x h2)
      cases f with
      | zero =>
        refine q_when (b := true) (et_is (et_test (ev_gt (ev_var rfl) ev_c)) (decide_eq_true (by omega))) (fun _ H1 e1 => ?_) (fun h => by cases h)
        exact hres H1 e1
      | succ f =>
        refine q_when (b := false) (et_is (et_test (ev_gt (ev_var rfl) ev_c)) (decide_eq_false (by omega))) (fun h => by cases h) fun _ H1 e1 => ?_
        have wt : ∀ {σ : L2.St} {H1 : Hp} {wd x : Str}, σ[3]? = some (some (.str wd)) → EvT (tTest (tOp rEq (tVar 3) (tC (.str x)))) σ H1 (decide (wd = x)) := fun h => et_is (et_test (ev_eq (ev_var h) ev_c)) (dstr _ _)
        have w1 : ∀ {σ : L2.St} {H1 : Hp} {wd : Str}, σ[3]? = some (some (.str wd)) → EvT (tTest (tOp (rIn K false) (tVar 3) (tC (.ref G.a_ONE)))) σ H1 (inV (.str wd) oneV) := fun h => et_test (ev_op (ev_var h) ev_c (rv_isT (G.s_ONE _) rfl (by decide +kernel)))
        have w2 : ∀ {σ : L2.St} {H1 : Hp} {wd : Str}, σ[3]? = some (some (.str wd)) → EvT (tTest (tOp (rIn K false) (tVar 3) (tC (.ref G.a_TWO)))) σ H1 (inV (.str wd) twoV) := fun h => et_test (ev_op (ev_var h) ev_c (rv_isT (G.s_TWO _) rfl (by decide +kernel)))
        have lt : ∀ {σ : L2.St} {H1 : Hp} {ds : List PyData} {n : Int}, r.d = .tuple ds → Ex H H1 → σ[1]? = some (some vt) → EvT (tTest (tOp rEq (tCB (fun xs H Q => ∃ x n, xs = [x] ∧ LenV K x H n ∧ Q (.int n) H) (tCons (tVar 1) tNil)) (tC (.int n)))) σ H1 (decide ((ds.length : Int) = n)) := fun hr x h =>
          et_is (et_test (ev_eq (ev_lenT (by rw [← hr]; exact tn x h)) ev_c)) (dint _ _)
        cases r with
        | nil =>
          have no : ∀ H', Ex H H' → E (.ref G.C_NotAllowed) none H' := hres
          refine q_asg (v := .str "") (ev_if (b := false) (et_is (et_test (ev_gt (ev_lenT (ds := []) (tn e1 rfl)) ev_c)) rfl) (fun h => by cases h) fun _ => ev_c) fun H2 e2 => ?_
          have e12 := e1.trans e2
          refine q_when (b := false) (et_is (et_and (b := false) (wt rfl) fun h => absurd h (by decide +kernel)) (by decide +kernel)) (fun h => by cases h) fun _ H3 e3 => ?_
          refine q_when (b := false) (et_is (et_and (b := false) (wt rfl) fun h => absurd h (by decide +kernel)) (by decide +kernel)) (fun h => by cases h) fun _ H4 e4 => ?_
          refine q_when (b := false) (et_is (et_or (b := false) (et_and (b := false) (w1 rfl) fun h => absurd h (by decide +kernel)) fun _ => et_is (et_and (b := false) (w2 rfl) fun h => absurd h (by decide +kernel)) (by decide +kernel)) (by decide +kernel)) (fun h => by cases h) fun _ H5 e5 => ?_
          exact no H5 (e12.trans (e3.trans (e4.trans e5)))
        | leaf wd s =>
          refine q_asg (v := .str wd) (ev_if (b := true) (et_is (et_test (ev_gt (ev_lenT (ds := [.str wd, .str s]) (tn e1 rfl)) ev_c)) rfl) (fun _ => evd_str (evd_ixT (tn e1 rfl) ev_c rfl)) fun h => by cases h) fun H2 e2 => ?_
          have e12 := e1.trans e2
          have t1 : ∀ {σ : L2.St} {H1 : Hp}, Ex H H1 → σ[1]? = some (some vt) → Ev (tOp (rIxT K) (tVar 1) (tC (.int 1))) σ H1 (.str s) := fun x h => evd_str (evd_ixT (tn x h) ev_c rfl)
          refine q_when (b := decide (wd = Str.ofString "sign")) (et_is (et_and (b := true) (wt rfl) fun _ => et_is (lt (n := 2) (ds := [.str wd, .str s]) rfl e12 rfl) rfl) (Bool.and_true _)) (fun hb H3 e3 => ?_) fun hb H3 e3 => ?_
          · have hw := of_decide_eq_true hb
            have e13 := e12.trans e3
            have hs1 : ¬ 1000 < s.length := fun q => hnb (by rw [cp, if_pos hw, if_pos q])
            have hcp : cp al (f + 1) (.leaf wd s) = if signOk al s = true then .ok 1 else .no := by rw [cp, if_pos hw, if_neg hs1]
            rw [hcp] at hres
            refine q_when (b := !signOk al s) (et_is (et_or (b := !al.has (s.cps.toList.getD 0 0)) (et_test (ev_ne (ev_lenS (t1 e13 rfl) (by omega)) ev_c)) fun h => ?_) ?_) (fun hb2 H4 e4 => ?_) fun hb2 H4 e4 => ?_
            · rw [dint] at h
              have hl : s.length = 1 := by
                have h' : decide ((s.length : Int) = 1) = true := by simpa using h
                have := of_decide_eq_true h'
                omega
              refine et_test (ev_ninS (c := s.cps.toList.getD 0 0) ?_ (al_join hsh (an e13 rfl)))
              rw [show (⟨#[s.cps.toList.getD 0 0]⟩ : Str) = s from (str_one hl).symm]
              exact t1 e13 rfl
            · rw [dint]
              unfold signOk
              have : decide ((s.length : Int) = 1) = decide (s.length = 1) := decide_eq_decide.mpr (by omega)
              rw [this, Bool.not_and]
            · rw [if_neg (by simpa using hb2)] at hres
              exact hres H4 (e13.trans e4)
            · rw [if_pos (by simpa using hb2)] at hres
              exact hres _ _ (e13.trans e4) (.int 1)
          · have hw : ¬ wd = "sign" := of_decide_eq_false hb
            have e13 := e12.trans e3
            refine q_when (b := decide (wd = Str.ofString "kind") && inV (.str s) kindV) (et_is (et_and (b := inV (.str s) kindV) (wt rfl) fun _ => et_is (et_and (b := inV (.str s) kindV) (et_is (lt (n := 2) (ds := [.str wd, .str s]) rfl e13 rfl) (rfl : _ = true)) fun _ => et_test (ev_op (t1 e13 rfl) ev_c (rv_isT (G.s_KINDS _) rfl (by decide +kernel)))) rfl) rfl) (fun hb2 H4 e4 => ?_) fun hb2 H4 e4 => ?_
            · have hcp : cp al (f + 1) (.leaf wd s) = .ok 1 := by rw [cp, if_neg hw, if_pos hb2]
              rw [hcp] at hres
              exact hres _ _ (e13.trans e4) (.int 1)
            · have h1 : inV (.str wd) oneV = false := by
                cases q : inV (.str wd) oneV with
                | false => rfl
                | true =>
                  exfalso
                  apply hnb
                  rw [cp, if_neg hw, if_neg (by rw [hb2]; decide), if_pos q]
              have hcp : cp al (f + 1) (.leaf wd s) = .no := by rw [cp, if_neg hw, if_neg (by rw [hb2]; decide), if_neg (by rw [h1]; decide)]
              rw [hcp] at hres
              refine q_when (b := false) (et_is (et_or (b := false) (et_and (b := true) (w1 rfl) fun h => by rw [h1] at h; cases h) fun _ => et_is (et_and (b := false) (w2 rfl) fun _ => et_is (lt (n := 3) (ds := [.str wd, .str s]) rfl (e13.trans e4) rfl) rfl) (Bool.and_false _)) (by rw [h1]; rfl)) (fun h => by cases h) fun _ H5 e5 => ?_
              exact hres H5 (e13.trans (e4.trans e5))
        | node wd rs =>
          have hlen : ((PyData.str wd :: Raw.ds rs).length : Int) = (rs.length : Int) + 1 := by rw [List.length_cons, ds_len]; omega
          refine q_asg (v := .str wd) (ev_if (b := true) (et_is (et_test (ev_gt (ev_lenT (ds := .str wd :: Raw.ds rs) (tn e1 rfl)) ev_c)) (by rw [hlen]; exact decide_eq_true (by omega))) (fun _ => evd_str (evd_ixT (tn e1 rfl) ev_c (at0 _ _))) fun h => by cases h) fun H2 e2 => ?_
          have e12 := e1.trans e2
          have nb : ((decide (wd = Str.ofString "sign") || decide (wd = Str.ofString "kind")) && decide (rs.length = 1)) = false := by
            cases q : ((decide (wd = Str.ofString "sign") || decide (wd = Str.ofString "kind")) && decide (rs.length = 1)) with
            | false => rfl
            | true => exact absurd (by rw [cp, if_pos q]) hnb
          have l2 : decide (((PyData.str wd :: Raw.ds rs).length : Int) = 2) = decide (rs.length = 1) := by rw [hlen]; exact decide_eq_decide.mpr (by omega)
          have l3 : decide (((PyData.str wd :: Raw.ds rs).length : Int) = 3) = decide (rs.length = 2) := by rw [hlen]; exact decide_eq_decide.mpr (by omega)
          have lt2 : ∀ {σ : L2.St} {H1 : Hp}, Ex H H1 → σ[1]? = some (some vt) → EvT (tTest (tOp rEq (tCB (fun xs H Q => ∃ x n, xs = [x] ∧ LenV K x H n ∧ Q (.int n) H) (tCons (tVar 1) tNil)) (tC (.int 2)))) σ H1 (decide (rs.length = 1)) := fun x h => et_is (lt (n := 2) (ds := .str wd :: Raw.ds rs) rfl x h) l2
          have lt3 : ∀ {σ : L2.St} {H1 : Hp}, Ex H H1 → σ[1]? = some (some vt) → EvT (tTest (tOp rEq (tCB (fun xs H Q => ∃ x n, xs = [x] ∧ LenV K x H n ∧ Q (.int n) H) (tCons (tVar 1) tNil)) (tC (.int 3)))) σ H1 (decide (rs.length = 2)) := fun x h => et_is (lt (n := 3) (ds := .str wd :: Raw.ds rs) rfl x h) l3
          refine q_when (b := false) (et_is (et_and (b := decide (rs.length = 1)) (wt rfl) fun _ => lt2 e12 rfl) ?_) (fun h => by cases h) fun _ H3 e3 => ?_
          · cases q1 : decide (wd = Str.ofString "sign") <;> cases q2 : decide (rs.length = 1) <;> rw [q1, q2] at nb <;> first | rfl | cases nb
          have e13 := e12.trans e3
          refine q_when (b := false) (et_is (et_and (b := false) (wt rfl) fun h => et_is (et_and (b := false) (lt2 e13 rfl) fun h2 => ?_) (Bool.and_false _)) (Bool.and_false _)) (fun h => by cases h) fun _ H4 e4 => ?_
          · rw [h, h2, Bool.or_true] at nb
            cases nb
          have e14 := e13.trans e4
          refine q_when (b := (inV (.str wd) oneV && decide (rs.length = 1)) || (inV (.str wd) twoV && decide (rs.length = 2))) (et_or (et_and (w1 rfl) fun _ => lt2 e14 rfl) fun _ => et_and (w2 rfl) fun _ => lt3 e14 rfl) (fun hb H5 e5 => ?_) fun hb H5 e5 => ?_
          · have e15 := e14.trans e5
            have hcp : cp al (f + 1) (.node wd rs) = (match cpAll (cp al f) rs with
              | .ok n => .ok (1 + n)
              | e => e) := by
              rw [cp, if_neg (by rw [nb]; decide), if_pos hb] <;> (cases cpAll (cp al f) rs <;> rfl)
            have hrl : 1 ≤ (Raw.ds rs).length ∧ (Raw.ds rs).length ≤ 2 := by
              rw [ds_len]
              rcases Bool.or_eq_true _ _ ▸ hb with q | q
              · have := of_decide_eq_true (Bool.and_eq_true _ _ ▸ q).2
                omega
              · have := of_decide_eq_true (Bool.and_eq_true _ _ ▸ q).2
                omega
            rw [hcp] at hnb hres
            have na : cpAll (cp al f) rs ≠ .bad := fun q => by rw [q] at hnb; exact hnb rfl
            have hw : EvW (iTup K (tSl (rSlT K) (tVar 1) (tPart (tC (.int 1))) tNoPart)) [some va, some vt, some (.int (7 - ((f + 1 : Nat) : Int))), some (.str wd), none] H5 (Raw.ds rs).length (fun i x H4 => ∃ d, (Raw.ds rs)[i]? = some d ∧ Dp K H4 x d) := by
              have h := evd_slT (K := K) (lo := some 1) (hi := none) (ds := .str wd :: Raw.ds rs) (tn (σ := [some va, some vt, some (.int (7 - ((f + 1 : Nat) : Int))), some (.str wd), none]) e15 rfl) (eo_some ev_c) eo_none (rest_ne hrl.1)
              rw [rest_eq hrl.1] at h
              exact evw_tup h
            have args : ∀ {σ : L2.St} {H6 : Hp} {x : V} {r : Raw}, Ex H5 H6 → σ[0]? = some (some va) → σ[2]? = some (some (.int (7 - ((f + 1 : Nat) : Int)))) → σ[4]? = some (some x) → Dp K H6 x r.d → EvAD K (tCons (tVar 0) (tCons (tVar 4) (tCons (tOp (rI0 fun i j => .int (i + j)) (tVar 2) (tC (.int 1))) tNil))) σ H6 [al.d, r.d, .int (7 - (f : Nat))] := fun {σ H6 x' r'} x h0 h2 h4 hd => by
              have e : (7 - ((f + 1 : Nat) : Int)) + 1 = 7 - (f : Nat) := by omega
              have h := ev_add (ev_var (H := H6) h2) (ev_c (v := .int 1))
              rw [e] at h
              exact ead_cons (an (e15.trans x) h0) (ead_cons (evd_var h4 hd) (ead_cons (ev_int h) ead_nil))
            rcases cpAll_bad na with ⟨n, ns, q1, q2, q3, q4⟩ | ⟨j, rj, ns, q1, q2, q3, q4, q5⟩
            · rw [q1] at hres
              refine s_ret (v := .int (1 + ns.sum)) (ev_add ev_c (ev_sum (EvN.dp (evn_lcD (ds := ns.map .int) hw (by rw [List.length_map, q2, ds_len]) (by omega) (immAll_ints _) (fun _ => rfl) fun i x d H6 e6 hd6 y => ?_)))) fun H6 e6 => ?_
              · obtain ⟨m, hm, rfl⟩ := map_get hd6
                obtain ⟨d0, hd0, hx0⟩ := y
                obtain ⟨ri, hri, rfl⟩ := ds_get hd0
                obtain ⟨m', hm1, hm2⟩ := q4 i ri hri
                rw [hm] at hm2
                cases hm2
                refine evd_callS (args e6 rfl rfl rfl hx0) fun vs H7 e7 hv Q q => ⟨f, rfl, al, ri, hsh, (fun z => by rw [hm1] at z; cases z), by omega, hv, ?_⟩
                rw [hm1]
                exact fun v H' a b => q v H' a b
              · rw [← q3]
                exact hres _ _ (e15.trans e6) (.int _)
            · rw [q3] at hres
              have hrj : (match cp al f rj with
                | .ok n => RI.ok (1 + n)
                | e => e) = cp al f rj := by rcases q4 with q | q <;> rw [q]
              rw [hrj] at hres
              have hjl : j < (Raw.ds rs).length := by rw [ds_len]; exact (List.getElem?_eq_some_iff.mp q1).1
              refine s_retR (evr_op2 (K := K) (d := .int 1) (ev_int ev_c) (evr_cb (evr_lc (K := K) (ds := ns.map .int) hw hjl (by omega) (by rw [List.length_map, q2]) (immAll_ints _) (fun _ => rfl) (fun i x d H6 e6 hd6 y => ?_) fun x H6 e6 y => ?_)))
              · obtain ⟨m, hm, rfl⟩ := map_get hd6
                obtain ⟨d0, hd0, hx0⟩ := y
                obtain ⟨ri, hri, rfl⟩ := ds_get hd0
                have hij : i < j := by rw [← q2]; exact (List.getElem?_eq_some_iff.mp hm).1
                obtain ⟨m', hm1, hm2⟩ := q5 i ri hij hri
                rw [hm] at hm2
                cases hm2
                refine evd_callS (args e6 rfl rfl rfl hx0) fun vs H7 e7 hv Q q => ⟨f, rfl, al, ri, hsh, (fun z => by rw [hm1] at z; cases z), by omega, hv, ?_⟩
                rw [hm1]
                exact fun v H' a b => q v H' a b
              · obtain ⟨d0, hd0, hx0⟩ := y
                obtain ⟨ri, hri, rfl⟩ := ds_get hd0
                rw [q1] at hri
                cases hri
                refine evr_callS (args e6 rfl rfl rfl hx0) fun vs H7 e7 hv Q => ⟨f, rfl, al, rj, hsh, (fun z => by rcases q4 with q | q <;> rw [q] at z <;> cases z), by omega, hv, ?_⟩
                rcases q4 with q | q
                · rw [q] at hres ⊢
                  exact fun H' a => hres H' (e15.trans (e6.trans (e7.trans a)))
                · rw [q] at hres ⊢
                  exact fun H' a => hres H' (e15.trans (e6.trans (e7.trans a)))
          · have hcp : cp al (f + 1) (.node wd rs) = .no := by rw [cp, if_neg (by rw [nb]; decide), if_neg (by rw [hb]; decide)]
            rw [hcp] at hres
            exact hres H5 (e14.trans e5)
theorem ok_check_part (G : Pg K mg) {k : Nat} (f : Nat) : FnOk P w K mg base (L2N.CX P w) (k + 1 + f) G.f_check_part G.fd_check_part ["alphabet", "told", "deep"] (spCP G f) := by
  induction f with
  | zero => exact cp_step G ⟨fun vs H Q E ⟨g, h, _⟩ => (by cases h), fun A outer s H args us vs Q E hr e0 hb hv ⟨g, h, _⟩ => (by cases h)⟩
  | succ g ih => exact cp_step G (ih.imp fun vs H Q E ⟨g', h, q⟩ => by cases h; exact q)
end
end K38
namespace K38
open PySem PySem.Spec PyProof.Rows L2 Evl KD KR RZ
mutual
def Sen.raw : Sen → Raw
  | .sign c => .leaf "sign" (one c)
  | .kind k => .leaf "kind" (kinds3.getD k "")
  | .un w a => .node w.s [a.raw]
  | .bi w a b => .node w.s [a.raw, b.raw]
end
theorem raw_d : ∀ t : Sen, t.raw.d = t.d
  | .sign c => rfl
  | .kind k => rfl
  | .un w a => by
    show PyData.tuple [.str w.s, a.raw.d] = .tuple [.str w.s, a.d]
    rw [raw_d a]
  | .bi w a b => by
    show PyData.tuple [.str w.s, a.raw.d, b.raw.d] = .tuple [.str w.s, a.d, b.d]
    rw [raw_d a, raw_d b]
def csR (al : Al) (r : Raw) : RR := if goodAl al then (match cp al 6 r with
  | .ok n => if 24 < n then .big else .ok .none
  | .big => .big
  | _ => .no) else .no
def caR3 (al : Al) (r : Raw) (z : Str) : RR := match csR al r with
  | .ok _ => (match ctR al z with
    | .ok _ => if z.length = 0 then .no else .ok .none
    | e => e)
  | e => e
theorem csR_ok {al : Al} {r : Raw} {d : PyData} (h : csR al r = .ok d) : d = .none ∧ goodAl al = true ∧ ∃ n, cp al 6 r = .ok n ∧ ¬ 24 < n := by
  unfold csR at h
  split at h
  · rename_i hg
    split at h
    · rename_i n hn
      split at h
      · cases h
      · rename_i h24
        cases h
        exact ⟨rfl, hg, n, hn, h24⟩
    · cases h
    · cases h
  · cases h
theorem ctR_ok {al : Al} {z : Str} {d : PyData} (h : ctR al z = .ok d) : d = .none ∧ okText al z ∧ z.length ≤ 400 := by
  unfold ctR at h
  split at h
  · split at h
    · rename_i ha
      split at h
      · cases h
      · cases h
        exact ⟨rfl, fun c hc => List.all_eq_true.mp ha c hc, by omega⟩
    · cases h
  · cases h
theorem caR3_ok {al : Al} {r : Raw} {z : Str} {d : PyData} (h : caR3 al r z = .ok d) : d = .none ∧ (∃ e, csR al r = .ok e) ∧ okText al z ∧ z.length ≤ 400 ∧ 0 < z.length := by
  unfold caR3 at h
  split at h
  · rename_i e he
    split at h
    · rename_i e2 he2
      split at h
      · cases h
      · cases h
        obtain ⟨_, h1, h2⟩ := ctR_ok he2
        exact ⟨rfl, ⟨e, he⟩, h1, h2, by omega⟩
    · rename_i hx
      exact absurd h (hx _)
  · rename_i hx
    exact absurd h (hx _)
section
variable {P : Program} {w : World} {K : PySem.W.Frag} {mg : Str → Option Value} {base : Heap}
def spCS (G : Pg K mg) : Sp := fun vs H Q E => ∃ (al : Al) (r : Raw), al.short ∧ cp al 6 r ≠ .bad ∧ DpAll K H vs [al.d, r.d] ∧ Res G.C_NotAllowed G.C_TooLarge K H Q E (csR al r)
theorem ok_check_sentence (G : Pg K mg) {k : Nat} : FnOk P w K mg base (L2N.CX P w) (k + 8) G.f_check_sentence G.fd_check_sentence ["alphabet", "sentence"] (spCS G) := by
  refine Fun.okXN G.F_check_sentence sc_check_sentence (fun vs H Q E h => ?_) (fun cdv A outer s H vs Q E hr h => ?_)
  · obtain ⟨al, r, _, _, hd, _⟩ := h
    exact dpAll_len hd
  · have tk : L2N.Takes (cxOf (L2N.CX P w) P w K mg base ["alphabet", "sentence"] "check_sentence" (defScope s_check_sentence) G.f_check_sentence cdv A outer s H E) (fun cls d _ H => E cls d H) := L2N.takes_of rfl rfl rfl rfl
    have hr_check_alphabet := hr
    have hr_check_part := hr
    have G_check_alphabet := (ok_check_alphabet (P := P) (w := w) (base := base) G (k := k)).mono (k := k + 7) (by omega)
    have G_check_part := (ok_check_part (P := P) (w := w) (base := base) G (k := k) 6).mono (k := k + 7) (by omega)
    refine ⟨_, (pss_cons (ps_expr (pe_callS G_check_alphabet hr_check_alphabet (by rfl) G.m_check_alphabet G.k_check_alphabet G.b_check_alphabet (fun σ => L2N.passAt tk σ) (pa_cons (pv 0) pa_nil)))
      (pss_cons (ps_if (pt_cmpR op_gt (pe_callS G_check_part hr_check_part (by rfl) G.m_check_part G.k_check_part G.b_check_part (fun σ => L2N.passAt tk σ) (pa_cons (pv 0) (pa_cons (pv 1) (pa_cons pe_int pa_nil)))) (pe_gI (by rfl) G.m_MAX_PARTS) (nomark _)) (pss_one (L2N.ps_raise rfl tk (L2N.pmk_own PySem.F.excBase_Exception G.xC_TooLarge G.mC_TooLarge G.kC_TooLarge (G.rs_TooLarge _ rfl) rfl))) pss_nil)
      (pss_one (ps_ret pe_non)))), ?_⟩
    obtain ⟨al, r, hsh, hnb, hd, hres⟩ := h
    cases hd with
    | cons h1 h2 =>
    cases h2 with
    | cons h2 h3 =>
    cases h3
    rename_i va vt
    have an : ∀ {σ : L2.St} {H1 : Hp}, Ex H H1 → σ[0]? = some (some va) → EvD K (tVar 0) σ H1 al.d := fun x h => evd_var h (Dpx x h1)
    cases hg : goodAl al with
    | false =>
      have e : csR al r = .no := by unfold csR; rw [hg]; rfl
      rw [e] at hres
      refine q_R fun D => s_dropR (evr_callS (ead_cons (an (Ex.refl H) rfl) ead_nil) fun vs H1 x hv Q => ⟨al, hsh, hv, ?_⟩)
      have e2 : caR al = .no := by unfold caR; rw [hg]; rfl
      rw [e2]
      exact fun H' a => hres H' (x.trans a)
    | true =>
      refine q_dropD (d := .none) (evd_callS (ead_cons (an (Ex.refl H) rfl) ead_nil) fun vs H1 x hv Q q => ⟨al, hsh, hv, ?_⟩) fun H1 x1 => ?_
      · have e2 : caR al = .ok .none := by unfold caR; rw [hg]; rfl
        rw [e2]
        exact fun v H' a b => q v H' a b
      have hcs : csR al r = (match cp al 6 r with
        | .ok n => if 24 < n then .big else .ok .none
        | .big => .big
        | _ => .no) := by unfold csR; rw [hg]; rfl
      rw [hcs] at hres
      have args : EvAD K (tCons (tVar 0) (tCons (tVar 1) (tCons (tC (.int 1)) tNil))) (start ["alphabet", "sentence"] [va, vt]) H1 [al.d, r.d, .int (7 - (6 : Nat))] := ead_cons (an x1 rfl) (ead_cons (evd_var rfl (Dpx x1 h2)) (ead_cons (ev_int ev_c) ead_nil))
      cases hc : cp al 6 r with
      | ok n =>
        rw [hc] at hres
        have hv : Ev (tCallS (spCP G 6) (fun σ => WE (fun cls d _ H => E cls d H) σ) (tCons (tVar 0) (tCons (tVar 1) (tCons (tC (.int 1)) tNil)))) (start ["alphabet", "sentence"] [va, vt]) H1 (.int n) := evd_int (K := K) (evd_callS args fun vs H2 x hv Q q => ⟨al, r, hsh, hnb, by omega, hv, by rw [hc]; exact fun v H' a b => q v H' a b⟩)
        refine q_when (b := decide (24 < n)) (et_test (ev_gt hv ev_c)) (fun hb H2 e2 => ?_) fun hb H2 e2 => ?_
        · have h3 : Res G.C_NotAllowed G.C_TooLarge K H Q E (if 24 < n then .big else .ok .none) := hres
          rw [if_pos (of_decide_eq_true hb)] at h3
          exact h3 H2 (x1.trans e2)
        · have h3 : Res G.C_NotAllowed G.C_TooLarge K H Q E (if 24 < n then .big else .ok .none) := hres
          rw [if_neg (of_decide_eq_false hb)] at h3
          exact h3 _ _ (x1.trans e2) .non
      | no =>
        rw [hc] at hres
        exact q_R fun D => s_ifR (evr_test (evr_op1 (evr_callS args fun vs H2 x hv Q => ⟨al, r, hsh, hnb, by omega, hv, by rw [hc]; exact fun H' a => hres H' (x1.trans (x.trans a))⟩)))
      | big =>
        rw [hc] at hres
        exact q_R fun D => s_ifR (evr_test (evr_op1 (evr_callS args fun vs H2 x hv Q => ⟨al, r, hsh, hnb, by omega, hv, by rw [hc]; exact fun H' a => hres H' (x1.trans (x.trans a))⟩)))
      | bad => exact absurd hc hnb
def spA3 (G : Pg K mg) : Sp := fun vs H Q E => ∃ (al : Al) (r : Raw) (z : Str), al.short ∧ cp al 6 r ≠ .bad ∧ z.length ≤ 1000 ∧ DpAll K H vs [al.d, r.d, .str z] ∧ Res G.C_NotAllowed G.C_TooLarge K H Q E (caR3 al r z)
theorem ok_check_asked (G : Pg K mg) {k : Nat} : FnOk P w K mg base (L2N.CX P w) (k + 9) G.f_check_asked G.fd_check_asked ["alphabet", "sentence", "text"] (spA3 G) := by
  refine Fun.okXN G.F_check_asked sc_check_asked (fun vs H Q E h => ?_) (fun cdv A outer s H vs Q E hr h => ?_)
  · obtain ⟨al, r, z, _, _, _, hd, _⟩ := h
    exact dpAll_len hd
  · have tk : L2N.Takes (cxOf (L2N.CX P w) P w K mg base ["alphabet", "sentence", "text"] "check_asked" (defScope s_check_asked) G.f_check_asked cdv A outer s H E) (fun cls d _ H => E cls d H) := L2N.takes_of rfl rfl rfl rfl
    have hr_check_sentence := hr
    have hr_check_text := hr
    have G_check_sentence := ok_check_sentence (P := P) (w := w) (base := base) G (k := k)
    have G_check_text := (ok_check_text (P := P) (w := w) (base := base) G (k := k)).mono (k := k + 8) (by omega)
    refine ⟨_, (pss_cons (ps_expr (pe_callS G_check_sentence hr_check_sentence (by rfl) G.m_check_sentence G.k_check_sentence G.b_check_sentence (fun σ => L2N.passAt tk σ) (pa_cons (pv 0) (pa_cons (pv 1) pa_nil))))
      (pss_cons (ps_expr (pe_callS G_check_text hr_check_text (by rfl) G.m_check_text G.k_check_text G.b_check_text (fun σ => L2N.passAt tk σ) (pa_cons (pv 0) (pa_cons (pv 2) pa_nil))))
      (pss_one (ps_if (pt_cmpR op_eq (pe_callB call_len (by rfl) G.n_len (by decide +kernel) (pa_cons (pv 2) pa_nil)) pe_int (nomark _)) (pss_one (L2N.ps_raise rfl tk (L2N.pmk_own PySem.F.excBase_Exception G.xC_NotAllowed G.mC_NotAllowed G.kC_NotAllowed (G.rs_NotAllowed _ rfl) rfl))) pss_nil)))), ?_⟩
    obtain ⟨al, r, z, hsh, hnb, hz, hd, hres⟩ := h
    cases hd with
    | cons h1 h2 =>
    cases h2 with
    | cons h2 h3 =>
    cases h3 with
    | cons h3 h4 =>
    cases h4
    cases dp_str h3
    rename_i va vt
    have an : ∀ {σ : L2.St} {H1 : Hp}, Ex H H1 → σ[0]? = some (some va) → EvD K (tVar 0) σ H1 al.d := fun x h => evd_var h (Dpx x h1)
    have tn : ∀ {σ : L2.St} {H1 : Hp}, Ex H H1 → σ[1]? = some (some vt) → EvD K (tVar 1) σ H1 r.d := fun x h => evd_var h (Dpx x h2)
    have raise : ∀ {e : RR}, (∀ d, e ≠ .ok d) → csR al r = e → Res G.C_NotAllowed G.C_TooLarge K H Q E e := fun {e} hne he => by
      unfold caR3 at hres
      rw [he] at hres
      cases e with
      | ok d => exact absurd rfl (hne d)
      | no => exact hres
      | big => exact hres
    cases hcs : csR al r with
    | no =>
      have hr' := raise (by intro d q; cases q) hcs
      exact q_R fun D => s_dropR (evr_callS (ead_cons (an (Ex.refl H) rfl) (ead_cons (tn (Ex.refl H) rfl) ead_nil)) fun vs H1 x hv Q => ⟨al, r, hsh, hnb, hv, by rw [hcs]; exact fun H' a => hr' H' (x.trans a)⟩)
    | big =>
      have hr' := raise (by intro d q; cases q) hcs
      exact q_R fun D => s_dropR (evr_callS (ead_cons (an (Ex.refl H) rfl) (ead_cons (tn (Ex.refl H) rfl) ead_nil)) fun vs H1 x hv Q => ⟨al, r, hsh, hnb, hv, by rw [hcs]; exact fun H' a => hr' H' (x.trans a)⟩)
    | ok d0 =>
      refine q_dropD (d := d0) (evd_callS (ead_cons (an (Ex.refl H) rfl) (ead_cons (tn (Ex.refl H) rfl) ead_nil)) fun vs H1 x hv Q q => ⟨al, r, hsh, hnb, hv, by rw [hcs]; exact fun v H' a b => q v H' a b⟩) fun H1 x1 => ?_
      have h2 : Res G.C_NotAllowed G.C_TooLarge K H Q E (match ctR al z with
        | .ok _ => if z.length = 0 then .no else .ok .none
        | e => e) := by
        unfold caR3 at hres
        rw [hcs] at hres
        exact hres
      have args : EvAD K (tCons (tVar 0) (tCons (tVar 2) tNil)) (start ["alphabet", "sentence", "text"] [va, vt, .str z]) H1 [al.d, .str z] := ead_cons (an x1 rfl) (ead_cons (ev_str (ev_var rfl)) ead_nil)
      cases hct : ctR al z with
      | no =>
        rw [hct] at h2
        exact q_R fun D => s_dropR (evr_callS args fun vs H2 x hv Q => ⟨al, z, hsh, hz, hv, by rw [hct]; exact fun H' a => h2 H' (x1.trans (x.trans a))⟩)
      | big =>
        rw [hct] at h2
        exact q_R fun D => s_dropR (evr_callS args fun vs H2 x hv Q => ⟨al, z, hsh, hz, hv, by rw [hct]; exact fun H' a => h2 H' (x1.trans (x.trans a))⟩)
      | ok d1 =>
        rw [hct] at h2
        refine q_dropD (d := d1) (evd_callS args fun vs H2 x hv Q q => ⟨al, z, hsh, hz, hv, by rw [hct]; exact fun v H' a b => q v H' a b⟩) fun H2 x2 => ?_
        refine s_when (b := decide (z.length = 0)) (et_is (et_test (ev_eq (ev_lenS (ev_var rfl) (by omega)) ev_c)) (by rw [dint]; exact decide_eq_decide.mpr (by omega))) (fun hb H3 x3 => ?_) fun hb H3 x3 => ?_
        · have h3 : Res G.C_NotAllowed G.C_TooLarge K H Q E (if z.length = 0 then .no else .ok .none) := h2
          rw [if_pos (of_decide_eq_true hb)] at h3
          exact h3 H3 (x1.trans (x2.trans x3))
        · have h3 : Res G.C_NotAllowed G.C_TooLarge K H Q E (if z.length = 0 then .no else .ok .none) := h2
          rw [if_neg (of_decide_eq_false hb)] at h3
          exact h3 _ _ (x1.trans (x2.trans x3)) .non
end
end K38
namespace K38
open PySem PySem.Spec PyProof.Rows L2 Evl KD KR RZ
theorem inV_strs (s : Str) (l : List Str) : inV (.str s) (l.map .str) = decide (s ∈ l) := by
  induction l with
  | nil => rfl
  | cons x l ih =>
    show ((x == s) || inV (.str s) (l.map .str)) = _
    rw [ih]
    by_cases h : x = s
    · subst h; simp
    · rw [beq_eq_false_iff_ne.mpr h]
      simp [Ne.symm h]
theorem un_of {s : Str} (h : inV (.str s) oneV = true) : ∃ u : Un, s = u.s := by
  have h' : s ∈ (["not", "next", "leap", "caller", "partner"] : List Str) := by
    have := inV_strs s ["not", "next", "leap", "caller", "partner"]
    exact of_decide_eq_true (this ▸ h)
  simp at h'
  rcases h' with h | h | h | h | h
  · exact ⟨.not, h⟩
  · exact ⟨.next, h⟩
  · exact ⟨.leap, h⟩
  · exact ⟨.caller, h⟩
  · exact ⟨.partner, h⟩
theorem bi_of {s : Str} (h : inV (.str s) twoV = true) : ∃ u : Bi, s = u.s := by
  have h' : s ∈ (["both", "either", "until", "leapuntil"] : List Str) := by
    have := inV_strs s ["both", "either", "until", "leapuntil"]
    exact of_decide_eq_true (this ▸ h)
  simp at h'
  rcases h' with h | h | h | h
  · exact ⟨.both, h⟩
  · exact ⟨.either, h⟩
  · exact ⟨.until, h⟩
  · exact ⟨.leapuntil, h⟩
theorem kind_of {s : Str} (h : inV (.str s) kindV = true) : ∃ k : Nat, k < 3 ∧ s = kinds3.getD k "" := by
  have h' : s ∈ (["call", "plain", "return"] : List Str) := by
    have := inV_strs s ["call", "plain", "return"]
    exact of_decide_eq_true (this ▸ h)
  simp at h'
  rcases h' with h | h | h
  · exact ⟨0, by decide, h⟩
  · exact ⟨1, by decide, h⟩
  · exact ⟨2, by decide, h⟩
theorem cp_sen {al : Al} : ∀ (f : Nat) (r : Raw) (n : Int), cp al f r = .ok n → ∃ t : Sen, r = t.raw ∧ t.dep < f
  | 0, r, n, h => by cases h
  | f + 1, .nil, n, h => by cases h
  | f + 1, .leaf w s, n, h => by
    rw [cp] at h
    split at h
    · rename_i hw
      split at h
      · cases h
      · split at h
        · rename_i hs
          unfold signOk at hs
          have hl := of_decide_eq_true (Bool.and_eq_true _ _ ▸ hs).1
          refine ⟨.sign (s.cps.toList.getD 0 0), ?_, by show 0 < f + 1; omega⟩
          rw [Sen.raw, ← str_one hl, hw]
        · cases h
    · split at h
      · rename_i hk
        obtain ⟨h1, h2⟩ := Bool.and_eq_true _ _ ▸ hk
        obtain ⟨k, _, hk⟩ := kind_of h2
        exact ⟨.kind k, by rw [Sen.raw, ← hk, of_decide_eq_true h1], by show 0 < f + 1; omega⟩
      · split at h <;> cases h
  | f + 1, .node w rs, n, h => by
    rw [cp] at h
    split at h
    · cases h
    · split at h
      · rename_i hb
        cases ha : cpAll (cp al f) rs with
        | ok m =>
          rcases cpAll_bad (g := cp al f) (rs := rs) (by rw [ha]; intro q; cases q) with ⟨_, ns, _, _, _, q4⟩ | ⟨j, r', ns, _, _, e3, e4, _⟩
          · rcases Bool.or_eq_true _ _ ▸ hb with q | q
            · obtain ⟨q1, q2⟩ := Bool.and_eq_true _ _ ▸ q
              obtain ⟨u, rfl⟩ := un_of q1
              have hl := of_decide_eq_true q2
              match rs, hl, q4 with
              | [r1], _, q4 =>
                obtain ⟨m1, hm1, _⟩ := q4 0 r1 rfl
                obtain ⟨t1, rfl, ht⟩ := cp_sen f r1 m1 hm1
                exact ⟨.un u t1, rfl, by show t1.dep + 1 < f + 1; omega⟩
            · obtain ⟨q1, q2⟩ := Bool.and_eq_true _ _ ▸ q
              obtain ⟨u, rfl⟩ := bi_of q1
              have hl := of_decide_eq_true q2
              match rs, hl, q4 with
              | [r1, r2], _, q4 =>
                obtain ⟨m1, hm1, _⟩ := q4 0 r1 rfl
                obtain ⟨m2, hm2, _⟩ := q4 1 r2 rfl
                obtain ⟨t1, rfl, ht1⟩ := cp_sen f r1 m1 hm1
                obtain ⟨t2, rfl, ht2⟩ := cp_sen f r2 m2 hm2
                exact ⟨.bi u t1 t2, rfl, by show max t1.dep t2.dep + 1 < f + 1; omega⟩
          · rw [ha] at e3
            rw [← e3] at e4
            rcases e4 with q | q <;> cases q
        | no => rw [ha] at h; cases h
        | big => rw [ha] at h; cases h
        | bad => rw [ha] at h; cases h
      · cases h
/-- the places at which t holds -/
def placesD (al : Al) (z : Str) (t : Sen) : List PyData := kept z.length (fun i => (trL al z t).getD i false) (fun i => .int (i : Nat))
section
variable {P : Program} {w : World} {K : PySem.W.Frag} {mg : Str → Option Value} {base : Heap}
theorem ev_seen (G : Pg K mg) {σ : L2.St} {H : Hp} {te1 te2 : TE} {al : Al} {z : Str} (h1 : EvD K te1 σ H al.d) (h2 : Ev te2 σ H (.str z)) (hz : z.length ≤ 1000) :
    ∀ H1, Ex H H1 → ∀ Q : VK, (∀ x H2, H1 x = none → Ex H1 H2 → SeenAt K G.C_Seen H2 x al z → Q (.ref x) H2) → tMake G.C_Seen (spSI G) [] E0 (tCons te1 (tCons te2 tNil)) σ H1 Q := fun H1 e Q q =>
  h1 H1 e _ fun va H2 e2 hva => h2 H2 (e.trans e2) _ fun H3 e3 => fun x dx hx hdx hne =>
    ⟨x, dx, va, al, z, H3, rfl, Ex.mut (Ex.new hdx) hx, hx, upd_same, Dpx e3 hva, hz, fun H' e' hS => ⟨rfl, q x H' (fresh_back (e2.trans e3) hx) ((e2.trans e3).trans e') hS⟩⟩
theorem evn_truths (G : Pg K mg) {n : Nat} {σ : L2.St} {H : Hp} {te1 te2 te3 : TE} {al : Al} {z : Str} {t : Sen} (h1 : EvD K te1 σ H al.d) (h2 : Ev te2 σ H (.str z)) (h3 : EvD K te3 σ H t.d) (hz : z.length ≤ 1000) (hok : okText al z) (hd : t.dep < n) :
    EvN K (tMeth G.C_Seen "truths" (spTr G n) [] E0 (tMake G.C_Seen (spSI G) [] E0 (tCons te1 (tCons te2 tNil))) (tCons te3 tNil)) σ H ((trL al z t).map .bool) := fun H1 e Q q =>
  ev_seen G h1 h2 hz H1 e _ fun x H2 hx e2 hS => by
    obtain ⟨dx, va, vp, vr, hxx, _⟩ := id hS
    refine ⟨x, dx, _, rfl, hxx, rfl, h3 H2 (e.trans e2) _ fun v H3 e3 hv => ⟨x, v, al, z, t, rfl, hS.mono e3, hz, hok, hv, hd, fun p H' hp e' hp' => q p _ H' (fresh_back (e2.trans e3) hp) ((e2.trans e3).trans e') hp' (dpAll_bools _)⟩⟩
/-- what the three that ask share -/
structure Ask3 (K : PySem.W.Frag) (H : Hp) (al : Al) (r : Raw) (z : Str) (va vt : V) : Prop where
  sh : al.short
  nb : cp al 6 r ≠ .bad
  hz : z.length ≤ 1000
  h1 : Dp K H va al.d
  h2 : Dp K H vt r.d
def spPS (G : Pg K mg) : Sp := fun vs H Q E => ∃ (al : Al) (r : Raw) (z : Str) (va vt : V), vs = [va, vt, .str z] ∧ Ask3 K H al r z va vt ∧
  (∀ e, (∀ d, e ≠ .ok d) → caR3 al r z = e → Res G.C_NotAllowed G.C_TooLarge K H Q E e) ∧ ∀ t : Sen, r = t.raw → okText al z → (∃ d, caR3 al r z = .ok d) → Res G.C_NotAllowed G.C_TooLarge K H Q E (.ok (.tuple (placesD al z t)))
theorem asked (G : Pg K mg) {k : Nat} {σ : L2.St} {H : Hp} {D : Ends} {tz : TS} {Q : VK} {E : XK} {al : Al} {r : Raw} {z : Str} {va vt : V} {te : TA} {W : L2.St → XK} (hW : W σ = E) (h : Ask3 K H al r z va vt) (ha : EvAD K te σ H [al.d, r.d, .str z])
    (hno : ∀ e, (∀ d, e ≠ .ok d) → caR3 al r z = e → Res G.C_NotAllowed G.C_TooLarge K H Q E e)
    (hok : ∀ (t : Sen) H1, r = t.raw → t.dep < 6 → okText al z → 0 < z.length → (∃ d, caR3 al r z = .ok d) → Ex H H1 → tz D σ H1) : tSeq (tDrop (tCallS (spA3 G) W te)) tz D σ H := by
  cases hc : caR3 al r z with
  | ok d =>
    obtain ⟨_, ⟨e, he⟩, hot, hz4, hz0⟩ := caR3_ok hc
    obtain ⟨_, _, n, hn, _⟩ := csR_ok he
    obtain ⟨t, ht, hd⟩ := cp_sen 6 r n hn
    refine q_dropD (d := d) (evd_callS ha fun vs H1 x hv Q' q => ⟨al, r, z, h.sh, h.nb, h.hz, hv, by rw [hc]; exact fun v H' a b => q v H' a b⟩) fun H1 e1 => hok t H1 ht hd hot hz0 ⟨d, hc⟩ e1
  | no =>
    have hr := hno .no (by intro d q; cases q) hc
    exact q_R fun D => s_dropR (evr_callS ha fun vs H1 x hv Q' => ⟨al, r, z, h.sh, h.nb, h.hz, hv, by rw [hc, hW]; exact fun H' a => hr H' (x.trans a)⟩)
  | big =>
    have hr := hno .big (by intro d q; cases q) hc
    exact q_R fun D => s_dropR (evr_callS ha fun vs H1 x hv Q' => ⟨al, r, z, h.sh, h.nb, h.hz, hv, by rw [hc, hW]; exact fun H' a => hr H' (x.trans a)⟩)
theorem ok_places_so (G : Pg K mg) {k : Nat} : FnOk P w K mg base (L2N.CX P w) (k + 10) G.f_places_so G.fd_places_so ["alphabet", "sentence", "text"] (spPS G) := by
  refine Fun.okXN G.F_places_so sc_places_so (fun vs H Q E h => ?_) (fun cdv A outer s H vs Q E hr h => ?_)
  · obtain ⟨al, r, z, va, vt, rfl, _⟩ := h
    rfl
  · have tk : L2N.Takes (cxOf (L2N.CX P w) P w K mg base ["alphabet", "sentence", "text", "at", "own"] "places_so" (defScope s_places_so) G.f_places_so cdv A outer s H E) (fun cls d _ H => E cls d H) := L2N.takes_of rfl rfl rfl rfl
    have hr_check_asked := hr
    have hr_Seen := hr
    have hr_Seen_truths := hr
    have G_check_asked := ok_check_asked (P := P) (w := w) (base := base) G (k := k)
    have G_Seen_init := (ok_init (P := P) (w := w) (base := base) G (k := k)).mono (k := k + 8) (by omega)
    have G_Seen_truths := (ok_truths (P := P) (w := w) (base := base) G (k := k) 6).mono (k := k + 9) (by omega)
    refine ⟨_, (pss_cons (ps_expr (pe_callS G_check_asked hr_check_asked (by rfl) G.m_check_asked G.k_check_asked G.b_check_asked (fun σ => L2N.passAt tk σ) (pa_cons (pv 0) (pa_cons (pv 1) (pa_cons (pv 2) pa_nil)))))
      (pss_one (ps_ret (pe_callTy call_tuple_of (by rfl) G.n_tuple (by decide +kernel) (pa_cons (pe_lc (own := [("at", 3), ("own", 4)]) rfl sc_places_so.nd (pi_enum (by rfl) G.n_enumerate (pa_cons (pe_meth (pe_make G.mk_Seen G_Seen_init hr_Seen (by rfl) G.mC_Seen G.b_Seen_init .nil pass0 (pa_cons (pv 0) (pa_cons (pv 2) pa_nil))) G.cl_Seen G.mt_Seen_truths G_Seen_truths hr_Seen_truths G.b_Seen_truths .nil pass0 (pa_cons (pv 1) pa_nil)) pa_nil)) (blkOk_by (own := [("at", 3), ("own", 4)]) (N := ["alphabet", "sentence", "text", "at", "own"]) (sc := defScope s_places_so) (by decide +kernel)) (fun _ _ _ _ _ => (gtupK (K := K) (n := 2) rfl rfl (pgs_cons (pg_name (i := 3) sc_places_so.nd rfl (Or.inl rfl)) (pgs_cons (pg_name (i := 4) sc_places_so.nd rfl (Or.inl rfl)) pgs_nil)))) (fun _ _ _ _ _ => pts_one (pt_val (pv 4))) (fun _ _ _ _ _ => (pv 3))) pa_nil))))), ?_⟩
    obtain ⟨al, r, z, va, vt, rfl, hA, hno, hok⟩ := h
    refine asked G (W := fun σ => WE (fun cls d _ H => E cls d H) σ) (k := k) rfl hA (ead_cons (evd_var rfl hA.h1) (ead_cons (evd_var rfl hA.h2) (ead_cons (ev_str (ev_var rfl)) ead_nil))) hno fun t H1 ht hd hot hz0 hex e1 => ?_
    have hres := hok t ht hot hex
    have htd : Dp K H1 vt t.d := by rw [← raw_d, ← ht]; exact Dpx e1 hA.h2
    have hlen := trL_len al z t
    have hz := hA.hz
    refine s_retD (evd_tupleOf (EvN.dp (evn_lc (evw_enum (ead_cons (EvN.dp (evn_truths G (evd_var rfl (Dpx e1 hA.h1)) (ev_var rfl) (evd_var rfl htd) hz hot hd)) ead_nil)) mono_pair (fun i => (trL al z t).getD i false) (fun i => .int (i : Nat)) (by rw [List.length_map, hlen]; omega) (fun _ _ _ => rfl) fun i x H2 e2 hi y => ?_)) (kept_imm fun _ _ _ => rfl)) fun v H2 e2 hv => ?_
    · refine g_pair y fun u v hu ⟨d, hd1, hd2⟩ => ?_
      subst hu
      obtain ⟨b, hb, rfl⟩ := map_get hd1
      cases dp_bool hd2
      refine ⟨Ex.refl _, rfl, ?_, fun _ => ev_int (ev_var rfl)⟩
      rw [List.getD_eq_getElem?_getD, hb]
      exact et_B (ev_var rfl)
    · rw [List.length_map, hlen] at hv
      exact hres v H2 (e1.trans e2) hv
end
end K38
namespace K38
open PySem PySem.Spec PyProof.Rows L2 Evl KD KR RZ
def atP (al : Al) (z : Str) (t : Sen) (p : Int) : RR := if 0 ≤ p ∧ p < (z.length : Int) then .ok (.bool ((trL al z t).getD p.toNat false)) else .no
section
variable {P : Program} {w : World} {K : PySem.W.Frag} {mg : Str → Option Value} {base : Heap}
def spIS (G : Pg K mg) : Sp := fun vs H Q E => ∃ (al : Al) (r : Raw) (z : Str) (va vt : V) (p : Int), vs = [va, vt, .str z, .int p] ∧ Ask3 K H al r z va vt ∧
  (∀ e, (∀ d, e ≠ .ok d) → caR3 al r z = e → Res G.C_NotAllowed G.C_TooLarge K H Q E e) ∧ ∀ t : Sen, r = t.raw → okText al z → (∃ d, caR3 al r z = .ok d) → Res G.C_NotAllowed G.C_TooLarge K H Q E (atP al z t p)
theorem ok_is_so (G : Pg K mg) {k : Nat} : FnOk P w K mg base (L2N.CX P w) (k + 10) G.f_is_so G.fd_is_so ["alphabet", "sentence", "text", "place"] (spIS G) := by
  refine Fun.okXN G.F_is_so sc_is_so (fun vs H Q E h => ?_) (fun cdv A outer s H vs Q E hr h => ?_)
  · obtain ⟨al, r, z, va, vt, p, rfl, _⟩ := h
    rfl
  · have tk : L2N.Takes (cxOf (L2N.CX P w) P w K mg base ["alphabet", "sentence", "text", "place"] "is_so" (defScope s_is_so) G.f_is_so cdv A outer s H E) (fun cls d _ H => E cls d H) := L2N.takes_of rfl rfl rfl rfl
    have hr_check_asked := hr
    have hr_Seen := hr
    have hr_Seen_truths := hr
    have G_check_asked := ok_check_asked (P := P) (w := w) (base := base) G (k := k)
    have G_Seen_init := (ok_init (P := P) (w := w) (base := base) G (k := k)).mono (k := k + 8) (by omega)
    have G_Seen_truths := (ok_truths (P := P) (w := w) (base := base) G (k := k) 6).mono (k := k + 9) (by omega)
    refine ⟨_, (pss_cons (ps_expr (pe_callS G_check_asked hr_check_asked (by rfl) G.m_check_asked G.k_check_asked G.b_check_asked (fun σ => L2N.passAt tk σ) (pa_cons (pv 0) (pa_cons (pv 1) (pa_cons (pv 2) pa_nil)))))
      (pss_cons (ps_if (pt_not (pt_chain op_le op_lt pe_int (pv 3) (pe_callB call_len (by rfl) G.n_len (by decide +kernel) (pa_cons (pv 2) pa_nil)))) (pss_one (L2N.ps_raise rfl tk (L2N.pmk_own PySem.F.excBase_Exception G.xC_NotAllowed G.mC_NotAllowed G.kC_NotAllowed (G.rs_NotAllowed _ rfl) rfl))) pss_nil)
      (pss_one (ps_ret (pe_ix ix_list (pe_meth (pe_make G.mk_Seen G_Seen_init hr_Seen (by rfl) G.mC_Seen G.b_Seen_init .nil pass0 (pa_cons (pv 0) (pa_cons (pv 2) pa_nil))) G.cl_Seen G.mt_Seen_truths G_Seen_truths hr_Seen_truths G.b_Seen_truths .nil pass0 (pa_cons (pv 1) pa_nil)) (pv 3) (fun _ _ => rfl)))))), ?_⟩
    obtain ⟨al, r, z, va, vt, p, rfl, hA, hno, hok⟩ := h
    refine asked G (W := fun σ => WE (fun cls d _ H => E cls d H) σ) (k := k) rfl hA (ead_cons (evd_var rfl hA.h1) (ead_cons (evd_var rfl hA.h2) (ead_cons (ev_str (ev_var rfl)) ead_nil))) hno fun t H1 ht hd hot hz0 hex e1 => ?_
    have hres := hok t ht hot hex
    have htd : Dp K H1 vt t.d := by rw [← raw_d, ← ht]; exact Dpx e1 hA.h2
    have hlen := trL_len al z t
    have hz := hA.hz
    refine q_when (b := !(decide (0 ≤ p) && decide (p < (z.length : Int)))) (et_not (et_test (ev_chain ev_c (ev_var rfl) (ev_lenS (ev_var rfl) (by omega)) rv_I0 fun _ => rv_I0))) (fun hb H2 e2 => ?_) fun hb H2 e2 => ?_
    · have hn : ¬ (0 ≤ p ∧ p < (z.length : Int)) := fun q => by
        rw [decide_eq_true q.1, decide_eq_true q.2] at hb
        cases hb
      unfold atP at hres
      rw [if_neg hn] at hres
      exact hres H2 (e1.trans e2)
    · have hp : 0 ≤ p ∧ p < (z.length : Int) := by
        have h' : (decide (0 ≤ p) && decide (p < (z.length : Int))) = true := by simpa using hb
        obtain ⟨q1, q2⟩ := Bool.and_eq_true _ _ ▸ h'
        exact ⟨of_decide_eq_true q1, of_decide_eq_true q2⟩
      unfold atP at hres
      rw [if_pos hp] at hres
      obtain ⟨i, rfl⟩ : ∃ i : Nat, p = i := ⟨p.toNat, by omega⟩
      have e12 := e1.trans e2
      refine s_ret (v := .bl ((trL al z t).getD i false)) (evd_bool (evd_ixL (EvN.dp (evn_truths G (evd_var rfl (Dpx e12 hA.h1)) (ev_var rfl) (evd_var rfl (Dpx e2 htd)) hz hot hd)) (ev_var rfl) (atI_nat (by rw [List.getElem?_map, getD_some (x := false) (by omega)]; rfl)))) fun H3 e3 => ?_
      exact hres _ _ (e12.trans e3) (by rw [Int.toNat_natCast]; exact .bl _)
def spKH (G : Pg K mg) : Sp := fun vs H Q E => ∃ (al : Al) (z : Str) (t : Sen) (va vt : V), vs = [va, vt, .str z] ∧ z.length ≤ 1000 ∧ 0 < z.length ∧ Dp K H va al.d ∧ Dp K H vt t.d ∧ okText al z ∧ t.dep < 6 ∧ ∀ H', Ex H H' → Q (.bl ((trL al z t).getD 0 false)) H'
theorem ok_known_holds (G : Pg K mg) {k : Nat} : FnOk P w K mg base CX0 (k + 10) G.f_known_holds G.fd_known_holds ["alphabet", "sentence", "text"] (spKH G) := by
  refine Fun.ok G.F_known_holds sc_known_holds (fun vs H Q E h => ?_) (fun cdv A outer s H vs Q E hr h => ?_)
  · obtain ⟨al, z, t, va, vt, rfl, _⟩ := h
    rfl
  · have hr_Seen := hr
    have hr_Seen_truths := hr
    have G_Seen_init := (ok_init (P := P) (w := w) (base := base) G (k := k)).mono (k := k + 8) (by omega)
    have G_Seen_truths := (ok_truths (P := P) (w := w) (base := base) G (k := k) 6).mono (k := k + 9) (by omega)
    refine ⟨_, (pss_one (ps_ret (pe_ix ix_list (pe_meth (pe_make G.mk_Seen G_Seen_init hr_Seen (by rfl) G.mC_Seen G.b_Seen_init .nil pass0 (pa_cons (pv 0) (pa_cons (pv 2) pa_nil))) G.cl_Seen G.mt_Seen_truths G_Seen_truths hr_Seen_truths G.b_Seen_truths .nil pass0 (pa_cons (pv 1) pa_nil)) pe_int (fun _ _ => rfl)))), ?_⟩
    obtain ⟨al, z, t, va, vt, rfl, hz, hz0, h1, h2, hot, hd, hres⟩ := h
    have hlen := trL_len al z t
    refine s_ret (v := .bl ((trL al z t).getD 0 false)) (evd_bool (evd_ixL (EvN.dp (evn_truths G (evd_var rfl h1) (ev_var rfl) (evd_var rfl h2) hz hot hd)) ev_c (atI_nat (k := 0) (by rw [List.getElem?_map, getD_some (x := false) (by omega)]; rfl)))) fun H3 e3 => hres H3 e3
def spHo (G : Pg K mg) : Sp := fun vs H Q E => ∃ (al : Al) (r : Raw) (z : Str) (va vt : V), vs = [va, vt, .str z] ∧ Ask3 K H al r z va vt ∧
  (∀ e, (∀ d, e ≠ .ok d) → caR3 al r z = e → Res G.C_NotAllowed G.C_TooLarge K H Q E e) ∧ ∀ t : Sen, r = t.raw → okText al z → (∃ d, caR3 al r z = .ok d) → Res G.C_NotAllowed G.C_TooLarge K H Q E (.ok (.bool ((trL al z t).getD 0 false)))
theorem ok_holds (G : Pg K mg) {k : Nat} : FnOk P w K mg base (L2N.CX P w) (k + 11) G.f_holds G.fd_holds ["alphabet", "sentence", "text"] (spHo G) := by
  refine Fun.okXN G.F_holds sc_holds (fun vs H Q E h => ?_) (fun cdv A outer s H vs Q E hr h => ?_)
  · obtain ⟨al, r, z, va, vt, rfl, _⟩ := h
    rfl
  · have tk : L2N.Takes (cxOf (L2N.CX P w) P w K mg base ["alphabet", "sentence", "text"] "holds" (defScope s_holds) G.f_holds cdv A outer s H E) (fun cls d _ H => E cls d H) := L2N.takes_of rfl rfl rfl rfl
    have hr_check_asked := hr
    have hr_known_holds := hr
    have G_check_asked := (ok_check_asked (P := P) (w := w) (base := base) G (k := k)).mono (k := k + 10) (by omega)
    have G_known_holds := ok_known_holds (P := P) (w := w) (base := base) G (k := k)
    refine ⟨_, (pss_cons (ps_expr (pe_callS G_check_asked hr_check_asked (by rfl) G.m_check_asked G.k_check_asked G.b_check_asked (fun σ => L2N.passAt tk σ) (pa_cons (pv 0) (pa_cons (pv 1) (pa_cons (pv 2) pa_nil)))))
      (pss_one (ps_ret (pe_call G_known_holds hr_known_holds (by rfl) G.m_known_holds G.k_known_holds G.b_known_holds .nil pass0 (pa_cons (pv 0) (pa_cons (pv 1) (pa_cons (pv 2) pa_nil))))))), ?_⟩
    obtain ⟨al, r, z, va, vt, rfl, hA, hno, hok⟩ := h
    refine asked G (W := fun σ => WE (fun cls d _ H => E cls d H) σ) (k := k) rfl hA (ead_cons (evd_var rfl hA.h1) (ead_cons (evd_var rfl hA.h2) (ead_cons (ev_str (ev_var rfl)) ead_nil))) hno fun t H1 ht hd hot hz0 hex e1 => ?_
    have hres := hok t ht hot hex
    have htd : Dp K H1 vt t.d := by rw [← raw_d, ← ht]; exact Dpx e1 hA.h2
    refine s_retD (d := .bool ((trL al z t).getD 0 false)) (evd_call (ead_cons (evd_var rfl (Dpx e1 hA.h1)) (ead_cons (evd_var rfl htd) (ead_cons (ev_str (ev_var rfl)) ead_nil))) fun vs H2 x hv Q q => ?_) fun v H2 e2 hv => hres v H2 (e1.trans e2) hv
    cases hv with
    | cons g1 g2 =>
    cases g2 with
    | cons g2 g3 =>
    cases g3 with
    | cons g3 g4 =>
    cases g4
    cases dp_str g3
    exact ⟨al, z, t, _, _, rfl, hA.hz, hz0, g1, g2, hot, hd, fun H' e => q _ H' e (.bl _)⟩
end
end K38
namespace K38
open PySem PySem.Spec PyProof.Rows L2 Evl KD KR RZ
/-! ### the parts of a sentence -/
def Sen.size : Sen → Nat
  | .sign _ => 1
  | .kind _ => 1
  | .un _ a => a.size + 1
  | .bi _ a b => a.size + b.size + 1
def Sen.asc : Sen → Prop
  | .sign c => c < 128
  | .kind _ => True
  | .un _ a => a.asc
  | .bi _ a b => a.asc ∧ b.asc
def Sen.kids : Sen → List Sen
  | .sign _ => []
  | .kind _ => []
  | .un _ a => [a]
  | .bi _ a b => [a, b]
def hasS (l : List Sen) (t : Sen) : Bool := (l.map Sen.d).any fun z => PyData.eqv z t.d
def addS (l m : List Sen) : List Sen := l ++ m.filter fun p => !hasS l p
def endS (l : List Sen) (t : Sen) : List Sen := if hasS l t = true then l else l ++ [t]
def kpL : Sen → List Sen
  | .sign c => endS [] (.sign c)
  | .kind k => endS [] (.kind k)
  | .un w a => endS (addS [] (kpL a)) (.un w a)
  | .bi w a b => endS (addS (addS [] (kpL a)) (kpL b)) (.bi w a b)
def acc (t : Sen) (i : Nat) : List Sen := (t.kids.take i).foldl (fun l a => addS l (kpL a)) []
theorem kpL_eq (t : Sen) : kpL t = endS (acc t 2) t := by cases t <;> rfl
theorem size_dep : ∀ t : Sen, t.size + 1 ≤ 2 ^ (t.dep + 1)
  | .sign _ => (by decide : 1 + 1 ≤ 2 ^ (0 + 1))
  | .kind _ => (by decide : 1 + 1 ≤ 2 ^ (0 + 1))
  | .un _ a => by
    have := size_dep a
    show a.size + 1 + 1 ≤ 2 ^ (a.dep + 1 + 1)
    rw [Nat.pow_succ]
    omega
  | .bi _ a b => by
    have h1 := size_dep a
    have h2 := size_dep b
    show a.size + b.size + 1 + 1 ≤ 2 ^ (max a.dep b.dep + 1 + 1)
    have h3 : 2 ^ (a.dep + 1) ≤ 2 ^ (max a.dep b.dep + 1) := Nat.pow_le_pow_right (by decide) (by omega)
    have h4 : 2 ^ (b.dep + 1) ≤ 2 ^ (max a.dep b.dep + 1) := Nat.pow_le_pow_right (by decide) (by omega)
    rw [Nat.pow_succ 2 (max a.dep b.dep + 1)]
    omega
theorem addS_len (l m : List Sen) : (addS l m).length ≤ l.length + m.length := by
  unfold addS
  rw [List.length_append]
  have := List.length_filter_le (fun p => !hasS l p) m
  omega
theorem endS_len (l : List Sen) (t : Sen) : (endS l t).length ≤ l.length + 1 := by
  unfold endS
  split
  · omega
  · rw [List.length_append]; exact Nat.le_refl _
theorem kpL_len : ∀ t : Sen, (kpL t).length ≤ t.size
  | .sign c => endS_len [] _
  | .kind k => endS_len [] _
  | .un w a => by
    have h := kpL_len a
    have h1 := endS_len (addS [] (kpL a)) (.un w a)
    have h2 := addS_len [] (kpL a)
    show (endS (addS [] (kpL a)) (.un w a)).length ≤ a.size + 1
    simp at h2
    omega
  | .bi w a b => by
    have h := kpL_len a
    have h' := kpL_len b
    have h1 := endS_len (addS (addS [] (kpL a)) (kpL b)) (.bi w a b)
    have h2 := addS_len [] (kpL a)
    have h3 := addS_len (addS [] (kpL a)) (kpL b)
    show (endS (addS (addS [] (kpL a)) (kpL b)) (.bi w a b)).length ≤ a.size + b.size + 1
    simp at h2
    omega
theorem acc_len (t : Sen) (i : Nat) : (acc t i).length ≤ t.size := by
  cases t with
  | sign c => simp [acc, Sen.kids, Sen.size]
  | kind c => simp [acc, Sen.kids, Sen.size]
  | un w a =>
    have h := kpL_len a
    match i with
    | 0 => simp [acc, Sen.size]
    | i + 1 =>
      have h2 := addS_len [] (kpL a)
      show ((List.take i []).foldl (fun l a => addS l (kpL a)) (addS [] (kpL a))).length ≤ a.size + 1
      simp at h2 ⊢
      omega
  | bi w a b =>
    have h := kpL_len a
    have h' := kpL_len b
    have h2 := addS_len [] (kpL a)
    have h3 := addS_len (addS [] (kpL a)) (kpL b)
    simp at h2
    match i with
    | 0 => simp [acc, Sen.size]
    | 1 =>
      show (addS [] (kpL a)).length ≤ a.size + b.size + 1
      omega
    | i + 2 =>
      show ((List.take i []).foldl (fun l a => addS l (kpL a)) (addS (addS [] (kpL a)) (kpL b))).length ≤ a.size + b.size + 1
      simp
      omega
theorem mem_addS {l m : List Sen} {P : Sen → Prop} (h1 : ∀ p ∈ l, P p) (h2 : ∀ p ∈ m, P p) : ∀ p ∈ addS l m, P p := fun p hp => by
  rcases List.mem_append.mp hp with h | h
  · exact h1 p h
  · exact h2 p (List.mem_filter.mp h).1
theorem mem_endS {l : List Sen} {t : Sen} {P : Sen → Prop} (h1 : ∀ p ∈ l, P p) (h2 : P t) : ∀ p ∈ endS l t, P p := fun p hp => by
  unfold endS at hp
  split at hp
  · exact h1 p hp
  · rcases List.mem_append.mp hp with h | h
    · exact h1 p h
    · rw [List.mem_singleton.mp h]; exact h2
def Sen.fit (n : Nat) (p : Sen) : Prop := p.asc ∧ p.dep ≤ n
theorem kpL_fit : ∀ (t : Sen) (n : Nat), t.fit n → ∀ p ∈ kpL t, p.fit n
  | .sign c, n, h => mem_endS (fun p hp => by simp at hp) h
  | .kind c, n, h => mem_endS (fun p hp => by simp at hp) h
  | .un w a, n, h => mem_endS (mem_addS (fun p hp => by simp at hp) (kpL_fit a n ⟨h.1, by have : a.dep + 1 ≤ n := h.2; omega⟩)) h
  | .bi w a b, n, h => by
    have h2 : max a.dep b.dep + 1 ≤ n := h.2
    exact mem_endS (mem_addS (mem_addS (fun p hp => by simp at hp) (kpL_fit a n ⟨h.1.1, by omega⟩)) (kpL_fit b n ⟨h.1.2, by omega⟩)) h
theorem acc_fit {t : Sen} {n : Nat} (h : t.fit n) (i : Nat) : ∀ p ∈ acc t i, p.fit n := by
  have key : ∀ (l : List Sen) (a : List Sen), (∀ q ∈ l, q.fit n) → (∀ q ∈ a, q.fit n) → ∀ p ∈ l.foldl (fun l a => addS l (kpL a)) a, p.fit n := by
    intro l
    induction l with
    | nil => intro a _ ha; exact ha
    | cons x l ih => intro a hl ha; exact ih _ (fun q hq => hl q (List.mem_cons_of_mem _ hq)) (mem_addS ha (kpL_fit x n (hl x List.mem_cons_self)))
  refine key _ _ (fun q hq => ?_) (fun q hq => by simp at hq)
  have hq := List.mem_of_mem_take hq
  cases t with
  | sign c => simp [Sen.kids] at hq
  | kind c => simp [Sen.kids] at hq
  | un w a =>
    have : a.dep + 1 ≤ n := h.2
    rw [List.mem_singleton.mp hq]
    exact ⟨h.1, by omega⟩
  | bi w a b =>
    have : max a.dep b.dep + 1 ≤ n := h.2
    rcases List.mem_cons.mp hq with rfl | hq
    · exact ⟨h.1.1, by omega⟩
    · rw [List.mem_singleton.mp hq]
      exact ⟨h.1.2, by omega⟩
theorem imm_d : ∀ t : Sen, imm t.d = true
  | .sign c => rfl
  | .kind c => rfl
  | .un w a => by
    show (true && (imm a.d && true)) = true
    rw [imm_d a]; rfl
  | .bi w a b => by
    show (true && (imm a.d && (imm b.d && true))) = true
    rw [imm_d a, imm_d b]; rfl
theorem lay_d : ∀ t : Sen, t.asc → PyData.canLay0 t.d = true
  | .sign c, h => by
    have h' : c < 128 := h
    show (PyData.strOk "sign" && (PyData.strOk (one c) && true)) = true
    have e : PyData.strOk (one c) = true := by
      simp [PyData.strOk, one]
      omega
    rw [e]
    decide +kernel
  | .kind k, _ => by
    show (PyData.strOk "kind" && (PyData.strOk (kinds3.getD k "") && true)) = true
    have e : PyData.strOk (kinds3.getD k "") = true := by
      match k with
      | 0 => decide +kernel
      | 1 => decide +kernel
      | 2 => decide +kernel
      | k + 3 => exact (by decide +kernel : PyData.strOk (Str.ofString "") = true)
    rw [e]
    decide +kernel
  | .un w a, h => by
    show (PyData.strOk w.s && (PyData.canLay0 a.d && true)) = true
    rw [lay_d a h]
    cases w <;> decide +kernel
  | .bi w a b, h => by
    show (PyData.strOk w.s && (PyData.canLay0 a.d && (PyData.canLay0 b.d && true))) = true
    rw [lay_d a h.1, lay_d b h.2]
    cases w <;> decide +kernel
theorem depth_d : ∀ t : Sen, PyData.depth t.d ≤ t.dep + 1
  | .sign c => Nat.le_refl _
  | .kind c => Nat.le_refl _
  | .un w a => by
    have := depth_d a
    show max 0 (max (PyData.depth a.d) 0) + 1 ≤ a.dep + 1 + 1
    omega
  | .bi w a b => by
    have := depth_d a
    have := depth_d b
    show max 0 (max (PyData.depth a.d) (max (PyData.depth b.d) 0)) + 1 ≤ max a.dep b.dep + 1 + 1
    omega
theorem shaped_d {t : Sen} {n : Nat} (h : t.fit n) (hn : n ≤ 50) : SeqAt.shaped t.d = true := by
  unfold SeqAt.shaped
  rw [lay_d t h.1, Bool.true_and, decide_eq_true_eq]
  have := depth_d t
  have := h.2
  omega
theorem shaped_ds {l : List Sen} {n : Nat} (h : ∀ t ∈ l, t.fit n) (hn : n ≤ 50) : SeqAt.shaped (.list (l.map Sen.d)) = true := by
  unfold SeqAt.shaped
  have h1 : ∀ l : List Sen, (∀ t ∈ l, t.fit n) → PyData.canLayAll0 (l.map Sen.d) = true ∧ PyData.depthAll (l.map Sen.d) ≤ n + 1 := by
    intro l
    induction l with
    | nil => intro _; exact ⟨rfl, Nat.zero_le _⟩
    | cons t l ih =>
      intro hl
      obtain ⟨i1, i2⟩ := ih fun q hq => hl q (List.mem_cons_of_mem _ hq)
      have ht := hl t List.mem_cons_self
      refine ⟨?_, ?_⟩
      · show (PyData.canLay0 t.d && PyData.canLayAll0 (l.map Sen.d)) = true
        rw [i1, lay_d t ht.1]
        rfl
      · show max (PyData.depth t.d) (PyData.depthAll (l.map Sen.d)) ≤ n + 1
        have := depth_d t
        have := ht.2
        omega
  obtain ⟨i1, i2⟩ := h1 l h
  show (PyData.canLayAll0 (l.map Sen.d) && decide (PyData.depthAll (l.map Sen.d) + 1 ≤ 64)) = true
  rw [i1, Bool.true_and, decide_eq_true_eq]
  omega
def dS : Sen := .kind 0
theorem kept_filter (l : List Sen) (p : Sen → Bool) : kept l.length (fun i => p (l.getD i dS)) (fun i => (l.getD i dS).d) = (l.filter p).map Sen.d := by
  have e : l = (List.range l.length).map fun i => l.getD i dS := by
    apply List.ext_getElem
    · simp
    · intro i h1 h2
      simp [List.getD_eq_getElem?_getD, h1]
  unfold kept
  conv => rhs; rw [e]
  rw [List.filter_map, List.map_map]
  rfl
/-- what stands behind the word -/
def Sen.rest : Sen → List PyData
  | .sign c => [.str (one c)]
  | .kind k => [.str (kinds3.getD k "")]
  | .un _ a => [a.d]
  | .bi _ a b => [a.d, b.d]
theorem d_rest (t : Sen) : t.d = .tuple (.str t.w :: t.rest) := by cases t <;> rfl
theorem rest_len (t : Sen) : 1 ≤ t.rest.length ∧ t.rest.length ≤ 2 := by cases t <;> simp [Sen.rest]
theorem rest_imm (t : Sen) : immAll t.rest = true := by
  cases t with
  | sign c => rfl
  | kind k => rfl
  | un w a =>
    show (imm a.d && true) = true
    rw [imm_d]; rfl
  | bi w a b =>
    show (imm a.d && (imm b.d && true)) = true
    rw [imm_d, imm_d]; rfl
theorem rest_at {t : Sen} {i : Nat} {d : PyData} (h : t.rest[i]? = some d) : (∃ s, d = .str s ∧ acc t (i + 1) = acc t i) ∨ ∃ a, a ∈ t.kids ∧ d = a.d ∧ acc t (i + 1) = addS (acc t i) (kpL a) := by
  cases t with
  | sign c =>
    refine .inl ?_
    match i, h with
    | 0, h => cases h; exact ⟨_, rfl, rfl⟩
    | i + 1, h => simp [Sen.rest] at h
  | kind c =>
    refine .inl ?_
    match i, h with
    | 0, h => cases h; exact ⟨_, rfl, rfl⟩
    | i + 1, h => simp [Sen.rest] at h
  | un w a =>
    refine .inr ?_
    match i, h with
    | 0, h => cases h; exact ⟨a, List.mem_singleton.mpr rfl, rfl, rfl⟩
    | i + 1, h => simp [Sen.rest] at h
  | bi w a b =>
    refine .inr ?_
    match i, h with
    | 0, h => cases h; exact ⟨a, List.mem_cons_self, rfl, rfl⟩
    | 1, h => cases h; exact ⟨b, List.mem_cons_of_mem _ (List.mem_singleton.mpr rfl), rfl, rfl⟩
    | i + 2, h => simp [Sen.rest] at h
theorem acc_all (t : Sen) : acc t t.rest.length = acc t 2 := by cases t <;> rfl
end K38
namespace KR
open PySem PySem.Spec PyProof.Rows L2 Evl KD
section
variable {K : PySem.W.Frag} {σ : L2.St} {H : Hp} {te ta tb : TE} {D : Ends} {tz : TS} {ds : List PyData}
theorem s_retIf {tt : TT} {b : Bool} (h : EvT tt σ H b) (h1 : b = true → ∀ H1, Ex H H1 → ta σ H1 D.rt) (h2 : b = false → ∀ H1, Ex H H1 → tb σ H1 D.rt) : tRet (tIf tt ta tb) D σ H := h H (Ex.refl H) _ fun H1 e1 => by
  cases b with
  | true =>
    show ta σ H1 D.rt
    exact h1 rfl H1 e1
  | false =>
    show tb σ H1 D.rt
    exact h2 rfl H1 e1
theorem s_extN {l : Addr} {xs : List V} (hl : H l = some (.lst xs)) (ha : Ev ta σ H (.ref l)) (h : EvN K te σ H ds) (hz : xs.length + ds.length ≤ 100000) (k : ∀ ys H1, Ex H H1 → DpAll K H1 ys ds → D.nx σ (upd H1 l (.lst (xs ++ ys)))) :
    tDrop (tBM K "list" rExtend ta (tCons te tNil)) D σ H := ha H (Ex.refl H) _ fun H1 e1 =>
  ⟨Or.inl ⟨rfl, xs, sq_of (e1 l _ hl)⟩, h H1 e1 _ fun p ys H2 hp e2 h2 hd => ⟨l, p, xs, ys, rfl, rfl, e2 l _ (e1 l _ hl), h2, sz_of (by rw [dpAll_len hd]; exact hz), k ys H2 (e1.trans e2) hd⟩⟩
theorem ev_isTupS {s : Str} (ha : Ev ta σ H (.str s)) : Ev (tCB (rIsi K) (tCons ta (tCons (tC (.ty "tuple")) tNil))) σ H (.bl false) := fun H1 e Q q =>
  ha H1 e _ fun H2 e2 => ⟨.str s, .ty "tuple", .type "str", .type "tuple", false, rfl, .ty _, .base (.str s), kit_ty (by decide +kernel), q H2 e2⟩
theorem ty_tup {a : Addr} {xs : List V} (h : SqT K H a xs) : TyX K H (.ref a) (.type "tuple") := by
  rcases h with (h | ⟨o, h⟩) | ⟨o, its, n, h1, h2, _⟩
  · exact .base (.tup h)
  · exact .fTuple h
  · exact .kTuple h1 h2
theorem ev_isTupT (ha : EvD K ta σ H (.tuple ds)) : Ev (tCB (rIsi K) (tCons ta (tCons (tC (.ty "tuple")) tNil))) σ H (.bl true) := fun H1 e Q q =>
  ha H1 e _ fun v H2 e2 hd => by
    obtain ⟨a, xs, rfl, hs, hx⟩ := dp_tuple hd
    exact ⟨.ref a, .ty "tuple", .type "tuple", .type "tuple", true, rfl, .ty _, ty_tup hs, kit_ty (by decide +kernel), q H2 e2⟩
end
end KR
namespace K38
open PySem PySem.Spec PyProof.Rows L2 Evl KD KR RZ
theorem hasS_eq (l : List Sen) (t : Sen) : ((l.map Sen.d).any fun z => PyData.eqv z t.d) = hasS l t := rfl
theorem rest_sl (t : Sen) : ((PyData.str t.w :: t.rest).drop (HT.sIx (PyData.str t.w :: t.rest).length 0 (some 1))).take (HT.sIx (PyData.str t.w :: t.rest).length (PyData.str t.w :: t.rest).length none - HT.sIx (PyData.str t.w :: t.rest).length 0 (some 1)) = t.rest := rest_eq (rest_len t).1
section
variable {P : Program} {w : World} {K : PySem.W.Frag} {mg : Str → Option Value} {base : Heap}
def spKPa (G : Pg K mg) (n : Nat) : Sp := fun vs H Q E => ∃ (v : V) (t : Sen), vs = [v] ∧ Dp K H v t.d ∧ t.asc ∧ t.dep < n ∧ n ≤ 10 ∧ ∀ p xs H', H p = none → Ex H H' → H' p = some (.lst xs) → DpAll K H' xs ((kpL t).map Sen.d) → Q (.ref p) H'
/-- `[part for part in .. if part not in found]` -/
theorem evn_fresh {σ : L2.St} {H : Hp} {tl : TE} {j jf : Nat} {pf : Addr} {l m : List Sen} {n : Nat} (hm : EvN K tl σ H (m.map Sen.d)) (hf : Dp K H (.ref pf) (.list (l.map Sen.d))) (hl : ∀ p ∈ l, p.fit n) (hml : ∀ p ∈ m, p.fit n) (hn : n ≤ 50) (hlen : m.length ≤ 50000)
    (hw : ∀ x, wipe ((wipe σ [j]).set j (some x)) [j] = wipe σ [j]) (hj : ∀ x, ((wipe σ [j]).set j (some x))[j]? = some (some x)) (hjf : ∀ x, ((wipe σ [j]).set j (some x))[jf]? = some (some (.ref pf))) :
    EvN K (tLc (iList K tl) (gName j) (tTest (tOp (rNotInD K) (tVar j) (tVar jf))) (tVar j) [j]) σ H ((m.filter fun p => !hasS l p).map Sen.d) := by
  have h := evn_lc (K := K) (te := tVar j) (tt := tTest (tOp (rNotInD K) (tVar j) (tVar jf))) (vs := [j]) (evw_list (EvN.dp hm)) (mono_name (i := j)) (fun i => !hasS l (m.getD i dS)) (fun i => (m.getD i dS).d) (by rw [List.length_map]; exact hlen) (fun i _ _ => imm_d _) fun i x H1 e1 hi y => ?_
  · rw [List.length_map, kept_filter m (fun p => !hasS l p)] at h
    exact h
  · rw [List.length_map] at hi
    obtain ⟨d, hd, hx⟩ := y
    have hmi : m[i]? = some (m.getD i dS) := by rw [List.getD_eq_getElem?_getD, List.getElem?_eq_getElem hi]; rfl
    rw [List.getElem?_map, hmi] at hd
    cases hd
    have hfit := hml _ (List.mem_of_getElem? hmi)
    refine ⟨Ex.refl H1, hw x, ?_, fun _ => evd_var (hj x) hx⟩
    exact et_is (et_test (ev_ninD (evd_var (hj x) hx) (evd_var (hjf x) (Dpx e1 hf)) (shaped_d hfit hn) (shaped_ds hl hn))) (by rw [hasS_eq])
theorem ok_known_parts (G : Pg K mg) {k : Nat} : ∀ n, FnOk P w K mg base CX0 (k + n) G.f_known_parts G.fd_known_parts ["sentence"] (spKPa G n)
  | 0 => ⟨fun vs H Q E h => by obtain ⟨_, _, _, _, _, h, _⟩ := h; omega, fun A outer s H args us vs Q E hr e0 hb hv h => by obtain ⟨_, _, _, _, _, h, _⟩ := h; omega⟩
  | n + 1 => by
    have G_known_parts := ok_known_parts G (k := k) n
    refine Fun.ok G.F_known_parts sc_known_parts (fun vs H Q E h => ?_) (fun cdv A outer s H vs Q E hr h => ?_)
    · obtain ⟨v, t, rfl, _⟩ := h
      rfl
    · have hr_known_parts := hr
      have hu65 : (A.deeper (envOfC "known_parts" (defScope s_known_parts) s.heap.objs.size G.f_known_parts cdv)).units + 65 < cLine := by have := hr.un; omega
      refine ⟨_, (pss_cons (ps_set (i := 1) sc_known_parts.nd rfl (Or.inr rfl) (pe_lst pa_nil))
      (pss_cons (ps_for PassesOwn.never rfl (pi_tup (pe_slice sl_tup (pv 0) (po_some pe_int) po_none)) (pg_name (i := 2) sc_known_parts.nd rfl (Or.inl rfl)) (pss_one (ps_if (pt_val (pe_callB call_isi (by rfl) G.n_isinstance (by decide +kernel) (pa_cons (pv 2) (pa_cons (pe_ty (n := "tuple") (by rfl) G.n_tuple (by decide +kernel)) pa_nil)))) (pss_one (ps_expr (pe_bm PySem.F.plainAttrs_list PySem.F.slot_list_extend PySem.F.type_list_extend mt_extend (pv 1) (pa_cons (pe_lc (own := [("part", 3)]) rfl sc_known_parts.nd (pi_list (pe_call G_known_parts hr_known_parts (by rfl) G.m_known_parts G.k_known_parts G.b_known_parts .nil pass0 (pa_cons (pv 2) pa_nil))) (blkOk_by (own := [("part", 3)]) (N := ["sentence", "found", "inner", "part"]) (sc := defScope s_known_parts) (by decide +kernel)) (fun _ _ _ _ _ => (pg_name (i := 3) sc_known_parts.nd rfl (Or.inl rfl))) (fun _ _ _ _ _ => pts_one (pt_cmpR (op_ninK (K := K) rfl hu65) (pv 3) (pv 1) (by rfl))) (fun _ _ _ _ _ => (pv 3))) pa_nil)))) pss_nil)))
      (pss_one (ps_ret (pe_ifExp (pt_cmpR (op_ninK (K := K) rfl hu65) (pv 0) (pv 1) (by rfl)) (pe_lst (StX.pa_star (pv 1) (pa_cons (pv 0) pa_nil))) (pv 1)))))), ?_⟩
      obtain ⟨v, t, rfl, hd, has, hdep, hn10, hres⟩ := h
      have hfit : t.fit n := ⟨has, by omega⟩
      have hsz : t.size ≤ 2 ^ 11 := by
        have h1 := size_dep t
        have h2 : 2 ^ (t.dep + 1) ≤ 2 ^ 11 := Nat.pow_le_pow_right (by decide) (by omega)
        omega
      refine q_asgN (K := K) (evn_lst (ds := []) ead_nil (by decide)) fun pf xs0 H1 hpf e1 h1 hx0 => ?_
      have tn : ∀ {σ : L2.St} {H1 : Hp}, Ex H H1 → σ[0]? = some (some v) → EvD K (tVar 0) σ H1 (.tuple (.str t.w :: t.rest)) := fun x h => by rw [← d_rest]; exact evd_var h (Dpx x hd)
      have hsl := evd_slT (K := K) (lo := some 1) (hi := none) (tn e1 (σ := [some v, some (.ref pf), none, none]) rfl) (eo_some ev_c) eo_none (rest_ne (rest_len t).1)
      rw [rest_sl] at hsl
      refine q_forS (evs_tup hsl (rest_imm t)) (fun H2 i σ' H' => Ex H H' ∧ Tups K H2 H' ∧ (∃ xs, H' pf = some (.lst xs) ∧ DpAll K H' xs ((acc t i).map Sen.d)) ∧ ∃ x y, σ' = [some v, some (.ref pf), x, y])
        (fun H2 e2 => ⟨e1.trans e2, Tups.refl _, ⟨xs0, e2 _ _ h1, Dpax e2 hx0⟩, none, none, rfl⟩) (fun _ _ _ _ _ _ p => p.2.1) (fun H2 i x σ' H' H4 e2 hi p e4 y => ?_) fun H2 σ' H' e2 p => ?_
      · obtain ⟨p1, p2, ⟨xs, p3, p4⟩, x1, x2, rfl⟩ := p
        have p1' := p1.trans e4
        have p2' := p2.trans (Tups.of_ex e4)
        obtain ⟨d, hd', hx⟩ := y
        rcases rest_at hd' with ⟨s, rfl, ha⟩ | ⟨a, ha, rfl, hac⟩
        · cases dp_str hx
          refine s_when (b := false) (et_B (ev_isTupS (ev_var rfl))) (fun h => by cases h) fun _ H5 e5 => ?_
          rw [ha]
          exact ⟨p1'.trans e5, p2'.trans (Tups.of_ex e5), ⟨xs, e5 _ _ (e4 _ _ p3), Dpax (e4.trans e5) p4⟩, _, _, rfl⟩
        · have ha' : a.d = .tuple (.str a.w :: a.rest) := d_rest a
          refine s_when (b := true) (et_B (ev_isTupT (K := K) (evd_var rfl (by rw [← ha']; exact hx)))) (fun _ H5 e5 => ?_) (fun h => by cases h)
          have p3' := e5 _ _ (e4 _ _ p3)
          have p4' := Dpax (e4.trans e5) p4
          have hafit : a.fit n := by
            cases t with
            | sign c => simp [Sen.kids] at ha
            | kind c => simp [Sen.kids] at ha
            | un w b =>
              have : b.dep + 1 ≤ n := hfit.2
              rw [List.mem_singleton.mp ha]
              exact ⟨has, by omega⟩
            | bi w b c =>
              have : max b.dep c.dep + 1 ≤ n := hfit.2
              rcases List.mem_cons.mp ha with rfl | ha
              · exact ⟨has.1, by omega⟩
              · rw [List.mem_singleton.mp ha]
                exact ⟨has.2, by omega⟩
          have hadep : a.dep < n := by
            cases t with
            | sign c => simp [Sen.kids] at ha
            | kind c => simp [Sen.kids] at ha
            | un w b =>
              have : b.dep + 1 < n + 1 := hdep
              rw [List.mem_singleton.mp ha]
              omega
            | bi w b c =>
              have : max b.dep c.dep + 1 < n + 1 := hdep
              rcases List.mem_cons.mp ha with rfl | ha
              · omega
              · rw [List.mem_singleton.mp ha]
                omega
          have hksz : (kpL a).length ≤ 2 ^ 11 := by
            have h0 := kpL_len a
            have h1 := size_dep a
            have h2 : 2 ^ (a.dep + 1) ≤ 2 ^ 11 := Nat.pow_le_pow_right (by decide) (by omega)
            omega
          have hacl := acc_len t i
          refine s_extN p3' (ev_var rfl) (evn_fresh (l := acc t i) (m := kpL a) (n := n) (evn_call (ead_cons (evd_var rfl (Dpx e5 hx)) ead_nil) fun vs H6 e6 hv Q q => ?_) (.lst (sq_of p3') p4') (acc_fit hfit i) (kpL_fit a n hafit) (by omega) (by omega) (fun _ => rfl) (fun _ => rfl) (fun _ => rfl)) ?_ fun ys H6 e6 hy => ?_
          · cases hv with
            | cons g1 g2 =>
            cases g2
            exact ⟨_, a, rfl, g1, hafit.1, hadep, by omega, q⟩
          · have h9 := List.length_filter_le (fun p => !hasS (acc t i) p) (kpL a)
            rw [dpAll_len p4, List.length_map, List.length_map]
            omega
          · have q3 := e6 _ _ p3'
            have q4 := Dpax e6 p4'
            have tu : Tups K H6 (upd H6 pf (.lst (xs ++ ys))) := tups_upd q3
            refine ⟨Ex.mut (p1'.trans (e5.trans e6)) hpf, (p2'.trans (Tups.of_ex (e5.trans e6))).trans tu, ⟨_, upd_same, ?_⟩, _, _, rfl⟩
            rw [hac]
            unfold addS
            rw [List.map_append]
            exact dpAll_app (dpAll_imm tu _ _ (all_imm fun d hd => by obtain ⟨q, _, rfl⟩ := List.mem_map.mp hd; exact imm_d q) q4) (dpAll_imm tu _ _ (all_imm fun d hd => by obtain ⟨q, _, rfl⟩ := List.mem_map.mp hd; exact imm_d q) hy)
      · obtain ⟨p1, p2, ⟨xs, p3, p4⟩, x1, x2, rfl⟩ := p
        rw [acc_all] at p4
        have hacl := acc_len t 2
        refine s_retIf (b := !hasS (acc t 2) t) (et_is (et_test (ev_ninD (evd_var (K := K) rfl (Dpx p1 hd)) (evd_var rfl (.lst (sq_of p3) p4)) (shaped_d hfit (by omega)) (shaped_ds (acc_fit hfit 2) (by omega)))) (by rw [hasS_eq])) (fun hb H3 e3 => ?_) fun hb H3 e3 => ?_
        · refine evn_lst (K := K) (H := H3) (ead_star (evd_var rfl (.lst (sq_of (e3 _ _ p3)) (Dpax e3 p4))) (ead_cons (evd_var rfl (Dpx (p1.trans e3) hd)) ead_nil)) (by rw [List.length_append, List.length_map]; show _ + 1 ≤ 100000; omega) H3 (Ex.refl H3) _ fun p ys H4 hp e4 h4 hy => hres p ys H4 (fresh_back (p1.trans e3) hp) (p1.trans (e3.trans e4)) h4 ?_
          rw [kpL_eq]
          unfold endS
          rw [if_neg (by rw [Bool.not_eq_true']at hb; rw [hb]; decide), List.map_append]
          exact hy
        · refine ev_var (v := .ref pf) rfl H3 (Ex.refl H3) _ fun H4 e4 => hres pf xs H4 hpf (p1.trans (e3.trans e4)) (e4 _ _ (e3 _ _ p3)) ?_
          rw [kpL_eq]
          unfold endS
          rw [if_pos (by simpa using hb)]
          exact Dpax (e3.trans e4) p4
def spPa (G : Pg K mg) : Sp := fun vs H Q E => ∃ (al : Al) (t : Sen) (va vt : V), vs = [va, vt] ∧ al.short ∧ Dp K H va al.d ∧ Dp K H vt t.d ∧ t.asc ∧ t.dep < 6 ∧ (∃ d, csR al t.raw = .ok d) ∧ ∀ v H', Ex H H' → Dp K H' v (.tuple ((kpL t).map Sen.d)) → Q v H'
theorem ok_parts (G : Pg K mg) {k : Nat} : FnOk P w K mg base (L2N.CX P w) (k + 9) G.f_parts G.fd_parts ["alphabet", "sentence"] (spPa G) := by
  refine Fun.okXN G.F_parts sc_parts (fun vs H Q E h => ?_) (fun cdv A outer s H vs Q E hr h => ?_)
  · obtain ⟨al, t, va, vt, rfl, _⟩ := h
    rfl
  · have tk : L2N.Takes (cxOf (L2N.CX P w) P w K mg base ["alphabet", "sentence"] "parts" (defScope s_parts) G.f_parts cdv A outer s H E) (fun cls d _ H => E cls d H) := L2N.takes_of rfl rfl rfl rfl
    have hr_check_sentence := hr
    have hr_known_parts := hr
    have G_check_sentence := ok_check_sentence (P := P) (w := w) (base := base) G (k := k)
    have G_known_parts := (ok_known_parts (P := P) (w := w) (base := base) G (k := k) 6).mono (k := k + 8) (by omega)
    refine ⟨_, (pss_cons (ps_expr (pe_callS G_check_sentence hr_check_sentence (by rfl) G.m_check_sentence G.k_check_sentence G.b_check_sentence (fun σ => L2N.passAt tk σ) (pa_cons (pv 0) (pa_cons (pv 1) pa_nil))))
      (pss_one (ps_ret (pe_callTy call_tuple_of (by rfl) G.n_tuple (by decide +kernel) (pa_cons (pe_call G_known_parts hr_known_parts (by rfl) G.m_known_parts G.k_known_parts G.b_known_parts .nil pass0 (pa_cons (pv 1) pa_nil)) pa_nil))))), ?_⟩
    obtain ⟨al, t, va, vt, rfl, hsh, h1, h2, has, hdep, ⟨d, hcs⟩, hres⟩ := h
    have hnb : cp al 6 t.raw ≠ .bad := by
      obtain ⟨_, _, n, hn, _⟩ := csR_ok hcs
      rw [hn]
      intro z
      cases z
    refine q_dropD (d := d) (evd_callS (ead_cons (evd_var rfl h1) (ead_cons (evd_var rfl h2) ead_nil)) fun vs H1 x hv Q' q => ⟨al, t.raw, hsh, hnb, by rw [raw_d]; exact hv, by rw [hcs]; exact fun v H' a b => q v H' a b⟩) fun H1 e1 => ?_
    refine s_retD (evd_tupleOf (EvN.dp (evn_call (es := (kpL t).map Sen.d) (ead_cons (evd_var rfl (Dpx e1 h2)) ead_nil) fun vs H2 e2 hv Q' q => ?_)) (all_imm fun d hd => by obtain ⟨q, _, rfl⟩ := List.mem_map.mp hd; exact imm_d q)) fun v H2 e2 hv => hres v H2 (e1.trans e2) hv
    cases hv with
    | cons g1 g2 =>
    cases g2
    exact ⟨_, t, rfl, g1, has, hdep, by omega, q⟩
end
end K38
namespace KR
open PySem PySem.Spec PyProof.Rows L2 Evl KD
/-- a list that is no frozen one -/
def EvM (K : PySem.W.Frag) (te : TE) (σ : L2.St) (H : Hp) (ds : List PyData) : Prop := ∀ H1, Ex H H1 → ∀ Q : VK, (∀ p xs H2, Ex H1 H2 → H2 p = some (.lst xs) → DpAll K H2 xs ds → Q (.ref p) H2) → te σ H1 Q
section
variable {K : PySem.W.Frag} {σ : L2.St} {H : Hp} {te ta tb : TE} {D : Ends} {tz : TS} {ds es : List PyData} {d : PyData}
theorem _root_.KD.EvN.m (h : EvN K te σ H ds) : EvM K te σ H ds := fun H1 e Q q => h H1 e Q fun p xs H2 _ => q p xs H2
theorem EvM.dp (h : EvM K te σ H ds) : EvD K te σ H (.list ds) := fun H1 e Q q => h H1 e Q fun p xs H2 e2 hp ha => q (.ref p) H2 e2 (.lst (sq_of hp) ha)
theorem evm_var {i : Nat} {p : Addr} {xs : List V} (h : σ[i]? = some (some (.ref p))) (hp : H p = some (.lst xs)) (hx : DpAll K H xs ds) : EvM K (tVar i) σ H ds := fun H1 e Q q => ⟨_, h, q p xs H1 (Ex.refl H1) (e p _ hp) (Dpax e hx)⟩
theorem evn_cat (ha : EvM K ta σ H ds) (hb : EvM K tb σ H es) (hl : ds.length + es.length ≤ 100000) : EvN K (tOp rCat ta tb) σ H (ds ++ es) := fun H1 e Q q =>
  ha H1 e _ fun p xs H2 e2 h2 hx => hb H2 (e.trans e2) _ fun p' ys H3 e3 h3 hy => ⟨p, p', xs, ys, rfl, rfl, e3 p _ h2, h3, sz_of (by rw [dpAll_len hx, dpAll_len hy]; exact hl), fun l hl =>
    q l _ _ (fresh_back (e2.trans e3) hl) ((e2.trans e3).trans (Ex.new hl)) upd_same (dpAll_app (Dpax (e3.trans (Ex.new hl)) hx) (Dpax (Ex.new hl) hy))⟩
theorem s_asgL' {i : Nat} (h : EvN K te σ H ds) (k : ∀ p xs H1, H p = none → Ex H H1 → H1 p = some (.lst xs) → DpAll K H1 xs ds → D.nx (σ.set i (some (.ref p))) H1) : tAsg te (gName i) D σ H := h H (Ex.refl H) _ fun p xs H1 hp e1 h1 ha => k p xs H1 hp e1 h1 ha
theorem evn_rep1 {b : Bool} (ha : EvM K ta σ H [d]) (hb : Ev tb σ H (.int (if b then 1 else 0))) : EvN K (tOp rRep ta tb) σ H (if b then [d] else []) := fun H1 e Q q =>
  ha H1 e _ fun p xs H2 e2 h2 hx => hb H2 (e.trans e2) _ fun H3 e3 => by
    cases hx with
    | cons h t =>
    cases t
    rename_i v
    refine ⟨p, _, [v], rfl, rfl, e3 p _ h2, ?_, ?_, ?_, fun l hl => q l _ _ (fresh_back (e2.trans e3) hl) ((e2.trans e3).trans (Ex.new hl)) upd_same ?_⟩
    · cases b <;> decide
    · cases b <;> decide
    · cases b with
      | true => exact (by decide : 1 * 1 ≤ sizeLine)
      | false => exact (by decide : 1 * 0 ≤ sizeLine)
    · cases b with
      | true => exact .cons (Dpx (e3.trans (Ex.new hl)) h) .nil
      | false => exact .nil
end
end KR
namespace K38
open PySem PySem.Spec PyProof.Rows L2 Evl KD KR RZ
section
variable {P : Program} {w : World} {K : PySem.W.Frag} {mg : Str → Option Value} {base : Heap}
theorem kid_fit {t a : Sen} {n : Nat} (ha : a ∈ t.kids) (h : t.fit n) : a.fit n ∧ a.dep < t.dep := by
  cases t with
  | sign c => simp [Sen.kids] at ha
  | kind c => simp [Sen.kids] at ha
  | un w b =>
    have h1 : b.dep + 1 ≤ n := h.2
    rw [List.mem_singleton.mp ha]
    exact ⟨⟨h.1, by omega⟩, Nat.lt_succ_self _⟩
  | bi w b c =>
    have h1 : max b.dep c.dep + 1 ≤ n := h.2
    rcases List.mem_cons.mp ha with rfl | ha
    · exact ⟨⟨h.1.1, by omega⟩, by show a.dep < max a.dep c.dep + 1; omega⟩
    · rw [List.mem_singleton.mp ha]
      exact ⟨⟨h.1.2, by omega⟩, by show c.dep < max b.dep c.dep + 1; omega⟩
theorem kpL_le {t : Sen} (h : t.dep ≤ 10) : (kpL t).length ≤ 2 ^ 11 := by
  have h0 := kpL_len t
  have h1 := size_dep t
  have h2 : 2 ^ (t.dep + 1) ≤ 2 ^ 11 := Nat.pow_le_pow_right (by decide) (by omega)
  omega
theorem acc_le {t : Sen} (h : t.dep ≤ 10) (i : Nat) : (acc t i).length ≤ 2 ^ 11 := by
  have h0 := acc_len t i
  have h1 := size_dep t
  have h2 : 2 ^ (t.dep + 1) ≤ 2 ^ 11 := Nat.pow_le_pow_right (by decide) (by omega)
  omega
theorem ok_law_parts (G : Pg K mg) {k : Nat} : ∀ n, FnOk P w K mg base CX0 (k + n) G.f_law_parts G.fd_law_parts ["told"] (spKPa G n)
  | 0 => ⟨fun vs H Q E h => by obtain ⟨_, _, _, _, _, h, _⟩ := h; omega, fun A outer s H args us vs Q E hr e0 hb hv h => by obtain ⟨_, _, _, _, _, h, _⟩ := h; omega⟩
  | n + 1 => by
    have G_law_parts := ok_law_parts G (k := k) n
    refine Fun.ok G.F_law_parts sc_law_parts (fun vs H Q E h => ?_) (fun cdv A outer s H vs Q E hr h => ?_)
    · obtain ⟨v, t, rfl, _⟩ := h
      rfl
    · have hr_law_parts := hr
      have hu65 : (A.deeper (envOfC "_law_parts" (defScope s_law_parts) s.heap.objs.size G.f_law_parts cdv)).units + 65 < cLine := by have := hr.un; omega
      refine ⟨_, (pss_cons (ps_set (i := 1) sc_law_parts.nd rfl (Or.inr rfl) (pe_lst pa_nil))
      (pss_cons (ps_for PassesOwn.never rfl (pi_tup (pe_slice sl_tup (pv 0) (po_some pe_int) po_none)) (pg_name (i := 2) sc_law_parts.nd rfl (Or.inl rfl)) (pss_one (ps_if (pt_val (pe_callB call_isi (by rfl) G.n_isinstance (by decide +kernel) (pa_cons (pv 2) (pa_cons (pe_ty (n := "tuple") (by rfl) G.n_tuple (by decide +kernel)) pa_nil)))) (pss_one (ps_set (i := 1) sc_law_parts.nd rfl (Or.inr rfl) (pe_op op_cat (pv 1) (pe_lc (own := [("part", 3)]) rfl sc_law_parts.nd (pi_list (pe_call G_law_parts hr_law_parts (by rfl) G.m_law_parts G.k_law_parts G.b_law_parts .nil pass0 (pa_cons (pv 2) pa_nil))) (blkOk_by (own := [("part", 3)]) (N := ["told", "found", "own", "part"]) (sc := defScope s_law_parts) (by decide +kernel)) (fun _ _ _ _ _ => (pg_name (i := 3) sc_law_parts.nd rfl (Or.inl rfl))) (fun _ _ _ _ _ => pts_one (pt_cmpR (op_ninK (K := K) rfl hu65) (pv 3) (pv 1) (by rfl))) (fun _ _ _ _ _ => (pv 3)))))) pss_nil)))
      (pss_one (ps_ret (pe_op op_cat (pv 1) (pe_op op_rep (pe_lst (pa_cons (pv 0) pa_nil)) (pe_callTy call_int1 (by rfl) G.n_int (by decide +kernel) (pa_cons (pe_cmpR (op_ninK (K := K) rfl hu65) (pv 0) (pv 1) (by rfl)) pa_nil)))))))), ?_⟩
      obtain ⟨v, t, rfl, hd, has, hdep, hn10, hres⟩ := h
      have hfit : t.fit n := ⟨has, by omega⟩
      refine q_asgN (K := K) (evn_lst (ds := []) ead_nil (by decide)) fun pf0 xs0 H1 hpf e1 h1 hx0 => ?_
      have tn : ∀ {σ : L2.St} {H1 : Hp}, Ex H H1 → σ[0]? = some (some v) → EvD K (tVar 0) σ H1 (.tuple (.str t.w :: t.rest)) := fun x h => by rw [← d_rest]; exact evd_var h (Dpx x hd)
      have hsl := evd_slT (K := K) (lo := some 1) (hi := none) (tn e1 (σ := [some v, some (.ref pf0), none, none]) rfl) (eo_some ev_c) eo_none (rest_ne (rest_len t).1)
      rw [rest_sl] at hsl
      refine q_forS (evs_tup hsl (rest_imm t)) (fun H2 i σ' H' => Ex H H' ∧ Ex H2 H' ∧ ∃ pf xs, H' pf = some (.lst xs) ∧ DpAll K H' xs ((acc t i).map Sen.d) ∧ ∃ x y, σ' = [some v, some (.ref pf), x, y])
        (fun H2 e2 => ⟨e1.trans e2, Ex.refl _, pf0, xs0, e2 _ _ h1, Dpax e2 hx0, none, none, rfl⟩) (fun _ _ _ _ _ _ p => Tups.of_ex p.2.1) (fun H2 i x σ' H' H4 e2 hi p e4 y => ?_) fun H2 σ' H' e2 p => ?_
      · obtain ⟨p1, p2, pf, xs, p3, p4, x1, x2, rfl⟩ := p
        have p1' := p1.trans e4
        obtain ⟨d, hd', hx⟩ := y
        rcases rest_at hd' with ⟨s, rfl, ha⟩ | ⟨a, ha, rfl, hac⟩
        · cases dp_str hx
          refine s_when (b := false) (et_B (ev_isTupS (ev_var rfl))) (fun h => by cases h) fun _ H5 e5 => ?_
          rw [ha]
          exact ⟨p1'.trans e5, p2.trans (e4.trans e5), pf, xs, e5 _ _ (e4 _ _ p3), Dpax (e4.trans e5) p4, _, _, rfl⟩
        · have ha' : a.d = .tuple (.str a.w :: a.rest) := d_rest a
          refine s_when (b := true) (et_B (ev_isTupT (K := K) (evd_var rfl (by rw [← ha']; exact hx)))) (fun _ H5 e5 => ?_) (fun h => by cases h)
          have p3' := e5 _ _ (e4 _ _ p3)
          have p4' := Dpax (e4.trans e5) p4
          obtain ⟨hafit, halt⟩ := kid_fit ha hfit
          have hadep : a.dep < n := by omega
          have hk1 := kpL_le (t := a) (by omega)
          have hk2 := acc_le (t := t) (by omega) i
          have h9 := List.length_filter_le (fun p => !hasS (acc t i) p) (kpL a)
          refine s_asgL' (evn_cat (evm_var rfl p3' p4') (EvN.m (evn_fresh (l := acc t i) (m := kpL a) (n := n) (evn_call (ead_cons (evd_var rfl (Dpx e5 hx)) ead_nil) fun vs H6 e6 hv Q q => ?_) (.lst (sq_of p3') p4') (acc_fit hfit i) (kpL_fit a n hafit) (by omega) (by omega) (fun _ => rfl) (fun _ => rfl) (fun _ => rfl))) ?_) fun p ys H6 hp6 e6 h6 hy => ?_
          · cases hv with
            | cons g1 g2 =>
            cases g2
            exact ⟨_, a, rfl, g1, hafit.1, hadep, by omega, q⟩
          · rw [List.length_map, List.length_map]
            omega
          · refine ⟨p1'.trans (e5.trans e6), p2.trans (e4.trans (e5.trans e6)), p, ys, h6, ?_, _, _, rfl⟩
            rw [hac]
            unfold addS
            rw [List.map_append]
            exact hy
      · obtain ⟨p1, p2, pf, xs, p3, p4, x1, x2, rfl⟩ := p
        rw [acc_all] at p4
        have hk2 := acc_le (t := t) (by omega) 2
        refine s_retN (evn_cat (evm_var rfl p3 p4) (EvN.m (evn_rep1 (b := !hasS (acc t 2) t) (EvN.m (evn_lst (ead_cons (evd_var rfl (Dpx p1 hd)) ead_nil) (by show 1 ≤ 100000; decide))) (ev_intb ?_))) ?_) fun p ys H3 hp e3 h3 hy => hres p ys H3 (fresh_back p1 hp) (p1.trans e3) h3 ?_
        · exact ev_is (ev_ninD (evd_var (K := K) rfl (Dpx p1 hd)) (evd_var rfl (.lst (sq_of p3) p4)) (shaped_d hfit (by omega)) (shaped_ds (acc_fit hfit 2) (by omega))) (by rw [hasS_eq])
        · rw [List.length_map]
          cases hasS (acc t 2) t <;> simp <;> omega
        · rw [kpL_eq]
          unfold endS
          cases hb : hasS (acc t 2) t with
          | true =>
            rw [hb] at hy
            simpa using hy
          | false =>
            rw [hb] at hy
            simpa using hy
end
end K38
namespace KR
open PySem PySem.Spec PyProof.Rows L2 Evl KD
section
variable {K : PySem.W.Frag} {σ : L2.St} {H : Hp} {te ta tb : TE} {D : Ends} {tz : TS} {ds es : List PyData} {d : PyData}
theorem q_parDD {i j : Nat} {ta : TA} {d1 d2 : PyData} (ha : EvAD K ta σ H [d1, d2]) (k : ∀ v1 v2 H1, Ex H H1 → Dp K H1 v1 d1 → Dp K H1 v2 d2 → tz D ((σ.set i (some v1)).set j (some v2)) H1) : tSeq (tPar i j ta) tz D σ H :=
  ha H (Ex.refl H) _ fun vs H1 e1 hv => by
    cases hv with
    | cons h1 h2 =>
    cases h2 with
    | cons h2 h3 =>
    cases h3
    exact ⟨_, _, rfl, k _ _ H1 e1 h1 h2⟩
theorem q_asgT2 {i j n : Nat} {d1 d2 : PyData} (ha : EvD K te σ H (.tuple [d1, d2])) (hn : n = 2) (k : ∀ v1 v2 H1, Ex H H1 → Dp K H1 v1 d1 → Dp K H1 v2 d2 → tz D ((σ.set i (some v1)).set j (some v2)) H1) : tSeq (tAsg te (gTup K n (gCons (gName i) (gCons (gName j) gNil)))) tz D σ H :=
  ha H (Ex.refl H) _ fun v H1 e1 hv => by
    obtain ⟨a, xs, rfl, hs, hx⟩ := dp_tuple hv
    cases hx with
    | cons h1 h2 =>
    cases h2 with
    | cons h2 h3 =>
    cases h3
    rename_i v1 v2
    exact ⟨a, [v1, v2], rfl, hs, hn.symm, v1, [v2], rfl, v2, [], rfl, rfl, k v1 v2 _ e1 h1 h2⟩
/-- one of a new list's items, by a yes or no -/
theorem evd_pick {b : Bool} {d0 d1 : PyData} {ta : TA} (ha : EvAD K ta σ H [d0, d1]) (hb : Ev tb σ H (.bl b)) : EvD K (tOp (rIxL K) (tLst ta) (tCB (fun xs H Q => (∃ i, xs = [.int i] ∧ Q (.int i) H) ∨ ∃ k, xs = [.bl k] ∧ Q (.int (if k then 1 else 0)) H) (tCons tb tNil))) σ H (if b then d1 else d0) :=
  evd_ixL (EvN.dp (evn_lst ha (by show 2 ≤ 100000; decide))) (ev_intb hb) (by cases b <;> rfl)
end
end KR
namespace K38
open PySem PySem.Spec PyProof.Rows L2 Evl KD KR RZ
/-! ### the law's partner -/
def b2i (b : Bool) : Int := if b then 1 else 0
def lpGo (z : Str) (cl op : Nat → Bool) (st : Int) : Nat → Int → Int → Int
  | 0, _, _ => -1
  | f + 1, p, need => if 0 ≤ p ∧ p < (z.length : Int) then (if cl (at_ z p.toNat) = true ∧ need = 0 then p else lpGo z cl op st f (p + st) (need + b2i (op (at_ z p.toNat)) - b2i (cl (at_ z p.toNat)))) else -1
def lawP (al : Al) (z : Str) (i : Nat) : Int := if inB al (at_ z i) = true then -1 else if inC al (at_ z i) = true then lpGo z (inA al) (inC al) (-1) (z.length + 2) ((i : Int) + -1) 0 else lpGo z (inC al) (inA al) 1 (z.length + 2) ((i : Int) + 1) 0
def inS (s : Str) (c : Nat) : Bool := decide (c ∈ s.cps.toList)
def fuelOk (z : Str) (st p : Int) (m : Nat) : Prop := (st = 1 ∧ (z.length : Int) - p < m) ∨ (st = -1 ∧ p + 1 < m)
section
variable {P : Program} {w : World} {K : PySem.W.Frag} {mg : Str → Option Value} {base : Heap}
def spLP : Sp := fun vs H Q E => ∃ (va : V) (al : Al) (z : Str) (i : Nat), vs = [va, .str z, .int (i : Nat)] ∧ Dp K H va al.d ∧ i < z.length ∧ z.length ≤ 1000 ∧ ∀ H', Ex H H' → Q (.int (lawP al z i)) H'
theorem ok_law_partner (G : Pg K mg) {k : Nat} : FnOk P w K mg base CX0 (k + 1) G.f_law_partner G.fd_law_partner ["alphabet", "text", "at"] (spLP (K := K)) := by
  refine Fun.ok G.F_law_partner sc_law_partner (fun vs H Q E h => ?_) (fun cdv A outer s H vs Q E hr h => ?_)
  · obtain ⟨va, al, z, i, rfl, _⟩ := h
    rfl
  · refine ⟨_, (pss_cons (ps_if (pt_cmpR op_in_sign (pe_ix ix_str (pv 1) (pv 2) (fun _ _ => rfl)) (pe_ix ix_tup (pv 0) pe_int (fun _ _ => rfl)) (by rfl)) (pss_one (ps_ret (pe_un un_neg pe_int))) pss_nil)
      (pss_cons (ps_par (i := 3) (j := 4) rfl sc_law_partner.nd rfl rfl (by decide) rfl rfl (pa_cons (pe_ix ix_list (pe_lst (pa_cons pe_int (pa_cons (pe_un un_neg pe_int) pa_nil))) (pe_callTy call_int1 (by rfl) G.n_int (by decide +kernel) (pa_cons (pe_cmpR op_in_sign (pe_ix ix_str (pv 1) (pv 2) (fun _ _ => rfl)) (pe_ix ix_tup (pv 0) pe_int (fun _ _ => rfl)) (by rfl)) pa_nil)) (fun _ _ => rfl)) (pa_cons pe_int pa_nil)) (by rfl))
      (pss_cons (ps_asg (pe_ix ix_list (pe_lst (pa_cons (pe_tup (pa_cons (pe_ix ix_tup (pv 0) pe_int (fun _ _ => rfl)) (pa_cons (pe_ix ix_tup (pv 0) pe_int (fun _ _ => rfl)) pa_nil))) (pa_cons (pe_tup (pa_cons (pe_ix ix_tup (pv 0) pe_int (fun _ _ => rfl)) (pa_cons (pe_ix ix_tup (pv 0) pe_int (fun _ _ => rfl)) pa_nil))) pa_nil))) (pe_callTy call_int1 (by rfl) G.n_int (by decide +kernel) (pa_cons (pe_cmpR op_eq (pv 3) pe_int (nomark _)) pa_nil)) (fun _ _ => rfl)) (pg_tup rfl (pgs_cons (pg_name (i := 5) sc_law_partner.nd rfl (Or.inl rfl)) (pgs_cons (pg_name (i := 6) sc_law_partner.nd rfl (Or.inl rfl)) pgs_nil))))
      (pss_cons (ps_set (i := 7) sc_law_partner.nd rfl (Or.inl rfl) (pe_op op_add (pv 2) (pv 3)))
      (pss_cons (ps_while PassesOwn.never (pt_chain op_le op_lt pe_int (pv 7) (pe_callB call_len (by rfl) G.n_len (by decide +kernel) (pa_cons (pv 1) pa_nil))) (pss_cons (ps_if (PW.pt (pw_and (pt_cmpR op_in_sign (pe_ix ix_str (pv 1) (pv 7) (fun _ _ => rfl)) (pv 5) (by rfl)) (pw_and1 (pt_cmpR op_eq (pv 4) pe_int (nomark _))))) (pss_one (ps_ret (pv 7))) pss_nil)
        (pss_cons (ps_set (i := 4) sc_law_partner.nd rfl (Or.inl rfl) (pe_op op_sub (pe_op op_add (pv 4) (pe_callTy call_int1 (by rfl) G.n_int (by decide +kernel) (pa_cons (pe_cmpR op_in_sign (pe_ix ix_str (pv 1) (pv 7) (fun _ _ => rfl)) (pv 6) (by rfl)) pa_nil))) (pe_callTy call_int1 (by rfl) G.n_int (by decide +kernel) (pa_cons (pe_cmpR op_in_sign (pe_ix ix_str (pv 1) (pv 7) (fun _ _ => rfl)) (pv 5) (by rfl)) pa_nil))))
        (pss_one (ps_set (i := 7) sc_law_partner.nd rfl (Or.inl rfl) (pe_op op_add (pv 7) (pv 3)))))))
      (pss_one (ps_ret (pe_un un_neg pe_int)))))))), ?_⟩
    obtain ⟨va, al, z, i, rfl, hd, hi, hz, hres⟩ := h
    have an : ∀ {σ : L2.St} {H1 : Hp}, Ex H H1 → σ[0]? = some (some va) → EvD K (tVar 0) σ H1 al.d := fun x h => evd_var h (Dpx x hd)
    have ch : ∀ {σ : L2.St} {H1 : Hp}, σ[1]? = some (some (.str z)) → σ[2]? = some (some (.int (i : Nat))) → Ev (tOp rIxS (tVar 1) (tVar 2)) σ H1 (.str ⟨#[at_ z i]⟩) := fun h1 h2 => ev_ixS (ev_var h1) (ev_var h2) (by omega) (atI_at hi)
    refine q_when (b := inB al (at_ z i)) (et_test (ev_inS (ch rfl rfl) (evd_str (evd_ixT (an (Ex.refl H) rfl) ev_c rfl)))) (fun hb H1 e1 => ?_) fun hb H1 e1 => ?_
    · refine s_ret (v := .int (-1)) (ev_neg ev_c) fun H2 e2 => ?_
      have h := hres H2 (e1.trans e2)
      unfold lawP at h
      rw [if_pos hb] at h
      exact h
    · have hl : lawP al z i = if inC al (at_ z i) = true then lpGo z (inA al) (inC al) (-1) (z.length + 2) ((i : Int) + -1) 0 else lpGo z (inC al) (inA al) 1 (z.length + 2) ((i : Int) + 1) 0 := by
        unfold lawP
        rw [if_neg (by rw [hb]; decide)]
      rw [hl] at hres
      refine q_parDD (d1 := if inC al (at_ z i) then .int (-1) else .int 1) (d2 := .int 0) (ead_cons (evd_pick (ead_cons (ev_int ev_c) (ead_cons (ev_int (ev_neg ev_c)) ead_nil)) (ev_inS (ch rfl rfl) (evd_str (evd_ixT (an e1 rfl) ev_c rfl)))) (ead_cons (ev_int ev_c) ead_nil)) fun v1 v2 H2 e2 hv1 hv2 => ?_
      cases dp_int hv2
      have e12 := e1.trans e2
      obtain ⟨st, hst, hst', rfl⟩ : ∃ st : Int, (st = if inC al (at_ z i) then -1 else 1) ∧ decide (st = 1) = !inC al (at_ z i) ∧ v1 = .int st := by
        cases hc : inC al (at_ z i) with
        | true => rw [hc] at hv1; exact ⟨-1, rfl, rfl, dp_int hv1⟩
        | false => rw [hc] at hv1; exact ⟨1, rfl, rfl, dp_int hv1⟩
      have two : ∀ {σ : L2.St} {H1 : Hp}, Ex H H1 → σ[0]? = some (some va) → EvD K (tTup (tCons (tOp (rIxT K) (tVar 0) (tC (.int 0))) (tCons (tOp (rIxT K) (tVar 0) (tC (.int 2))) tNil))) σ H1 (.tuple [.str al.a, .str al.c]) := fun x h => evd_tup (ead_cons (evd_ixT (an x h) ev_c rfl) (ead_cons (evd_ixT (an x h) ev_c rfl) ead_nil)) (by show 2 ≤ 100000; decide)
      have two' : ∀ {σ : L2.St} {H1 : Hp}, Ex H H1 → σ[0]? = some (some va) → EvD K (tTup (tCons (tOp (rIxT K) (tVar 0) (tC (.int 2))) (tCons (tOp (rIxT K) (tVar 0) (tC (.int 0))) tNil))) σ H1 (.tuple [.str al.c, .str al.a]) := fun x h => evd_tup (ead_cons (evd_ixT (an x h) ev_c rfl) (ead_cons (evd_ixT (an x h) ev_c rfl) ead_nil)) (by show 2 ≤ 100000; decide)
      obtain ⟨cs, os, hco⟩ : ∃ cs os : Str, (if (!inC al (at_ z i)) = true then PyData.tuple [.str al.c, .str al.a] else .tuple [.str al.a, .str al.c]) = .tuple [.str cs, .str os] ∧ cs = (if inC al (at_ z i) then al.a else al.c) ∧ os = (if inC al (at_ z i) then al.c else al.a) := by
        cases hc : inC al (at_ z i) with
        | true => exact ⟨al.a, al.c, rfl, rfl, rfl⟩
        | false => exact ⟨al.c, al.a, rfl, rfl, rfl⟩
      have hp := evd_pick (K := K) (b := !inC al (at_ z i)) (ead_cons (two e12 (σ := [some va, some (.str z), some (.int (i : Nat)), some (.int st), some (.int 0), none, none, none]) rfl) (ead_cons (two' e12 rfl) ead_nil)) (tb := tOp rEq (tVar 3) (tC (.int 1))) (ev_is (ev_eq (ev_var rfl) ev_c) (by rw [dint, hst']))
      rw [hco.1] at hp
      refine q_asgT2 hp (by rfl) fun v3 v4 H3 e3 h3 h4 => ?_
      cases dp_str h3
      cases dp_str h4
      have e13 := e12.trans e3
      refine q_asg (v := .int ((i : Int) + st)) (ev_add (ev_var rfl) (ev_var rfl)) fun H4 e4 => ?_
      have hgo : ∀ H', Ex H H' → Q (.int (lpGo z (inS cs) (inS os) st (z.length + 2) ((i : Int) + st) 0)) H' := by
        cases hc : inC al (at_ z i) with
        | true =>
          rw [hc] at hres hst hco
          obtain ⟨_, rfl, rfl⟩ := hco
          subst hst
          exact hres
        | false =>
          rw [hc] at hres hst hco
          obtain ⟨_, rfl, rfl⟩ := hco
          subst hst
          exact hres
      have hst2 : st = 1 ∨ st = -1 := by
        cases hc : inC al (at_ z i) with
        | true => rw [hc] at hst; exact .inr hst
        | false => rw [hc] at hst; exact .inl hst
      clear hres hl hp hco two two' hst hst'
      obtain ⟨res, hres⟩ : ∃ res, res = lpGo z (inS cs) (inS os) st (z.length + 2) ((i : Int) + st) 0 := ⟨_, rfl⟩
      rw [← hres] at hgo
      refine q_while (fun m σ' H' => Ex H H' ∧ ∃ p need : Int, σ' = [some va, some (.str z), some (.int (i : Nat)), some (.int st), some (.int need), some (.str cs), some (.str os), some (.int p)] ∧ lpGo z (inS cs) (inS os) st m p need = res ∧ fuelOk z st p m) (z.length + 2)
        ⟨e13.trans e4, _, 0, rfl, hres.symm, ?_⟩ fun m σ' H' hw => ?_
      · rcases hst2 with h | h
        · exact .inl ⟨h, by omega⟩
        · exact .inr ⟨h, by omega⟩
      · obtain ⟨x, p, need, rfl, hr1, hf⟩ := hw
        refine ⟨decide (0 ≤ p) && decide (p < (z.length : Int)), et_test (ev_chain ev_c (ev_var rfl) (ev_lenS (ev_var rfl) (by omega)) rv_I0 fun _ => rv_I0), fun hb H5 e5 => ?_, fun hb H5 e5 => ?_⟩
        · obtain ⟨q1, q2⟩ := Bool.and_eq_true _ _ ▸ hb
          have hp1 : 0 ≤ p ∧ p < (z.length : Int) := ⟨of_decide_eq_true q1, of_decide_eq_true q2⟩
          obtain ⟨j, rfl⟩ : ∃ j : Nat, p = j := ⟨p.toNat, by omega⟩
          have hj : j < z.length := by omega
          obtain ⟨m', rfl⟩ : ∃ m', m = m' + 1 := ⟨m - 1, by rcases hf with ⟨_, h⟩ | ⟨_, h⟩ <;> omega⟩
          rw [lpGo, if_pos hp1, Int.toNat_natCast] at hr1
          have x5 := x.trans e5
          have cj : ∀ {σ : L2.St} {H1 : Hp}, σ[1]? = some (some (.str z)) → σ[7]? = some (some (.int (j : Nat))) → Ev (tOp rIxS (tVar 1) (tVar 7)) σ H1 (.str ⟨#[at_ z j]⟩) := fun h1 h2 => ev_ixS (ev_var h1) (ev_var h2) (by omega) (atI_at hj)
          refine ⟨fun σ2 H2 => Ex H H2 ∧ ∃ p need : Int, σ2 = [some va, some (.str z), some (.int (i : Nat)), some (.int st), some (.int need), some (.str cs), some (.str os), some (.int p)] ∧ lpGo z (inS cs) (inS os) st m' p need = res ∧ fuelOk z st p m', fun σ2 H2 h => ⟨m', by omega, h⟩, ?_⟩
          refine q_when (b := inS cs (at_ z j) && decide (need = 0)) (et_and (et_test (ev_inS (cj rfl rfl) (ev_var rfl))) fun _ => et_is (et_test (ev_eq (ev_var rfl) ev_c)) (dint _ _)) (fun hb H6 e6 => ?_) fun hb H6 e6 => ?_
          · obtain ⟨q3, q4⟩ := Bool.and_eq_true _ _ ▸ hb
            rw [if_pos ⟨q3, of_decide_eq_true q4⟩] at hr1
            refine s_ret (v := .int (j : Nat)) (ev_var rfl) fun H7 e7 => ?_
            rw [hr1]
            exact hgo H7 (x5.trans (e6.trans e7))
          · rw [if_neg (fun q => by rw [q.1, decide_eq_true q.2] at hb; cases hb)] at hr1
            refine q_asg (v := .int (need + b2i (inS os (at_ z j)) - b2i (inS cs (at_ z j)))) (ev_sub (ev_add (ev_var rfl) (ev_intb (ev_inS (cj rfl rfl) (ev_var rfl)))) (ev_intb (ev_inS (cj rfl rfl) (ev_var rfl)))) fun H7 e7 => ?_
            refine s_asg (v := .int ((j : Int) + st)) (ev_add (ev_var rfl) (ev_var rfl)) fun H8 e8 => ?_
            refine ⟨x5.trans (e6.trans (e7.trans e8)), _, _, rfl, hr1, ?_⟩
            rcases hf with ⟨h1, h2⟩ | ⟨h1, h2⟩
            · exact .inl ⟨h1, by omega⟩
            · exact .inr ⟨h1, by omega⟩
        · refine s_ret (v := .int (-1)) (ev_neg ev_c) fun H6 e6 => ?_
          have hn : ¬ (0 ≤ p ∧ p < (z.length : Int)) := fun q => by
            rw [decide_eq_true q.1, decide_eq_true q.2] at hb
            cases hb
          have : res = -1 := by
            rw [← hr1]
            cases m with
            | zero => rfl
            | succ m => rw [lpGo, if_neg hn]
          rw [← this]
          exact hgo H6 (x.trans (e5.trans e6))
end
end K38
namespace K38
open PySem PySem.Spec PyProof.Rows L2 Evl KD KR RZ
/-! ### the law's partner is the stack's -/
/-- no letter of two kinds -/
def Al.dis (al : Al) : Prop := ∀ c, ¬ (inA al c = true ∧ inC al c = true) ∧ ¬ (inA al c = true ∧ inB al c = true) ∧ ¬ (inB al c = true ∧ inC al c = true)
section
variable {al : Al} {z : Str}
def RL (al : Al) (z : Str) (j : Nat) : List Int := (runP al z j).2.reverse
def FL (al : Al) (z : Str) (j : Nat) : List Int := (runP al z j).1
theorem runP_succ (al : Al) (z : Str) (i : Nat) : runP al z (i + 1) = stepP al (runP al z i) i (at_ z i) := rfl
theorem RL_step (al : Al) (z : Str) (j : Nat) : RL al z (j + 1) = if inA al (at_ z j) = true then (j : Int) :: RL al z j else if inC al (at_ z j) = true then (RL al z j).tail else RL al z j := by
  unfold RL
  rw [runP_succ]
  unfold stepP
  by_cases ha : inA al (at_ z j) = true
  · rw [if_pos ha, if_pos ha]
    simp
  · rw [if_neg ha, if_neg ha]
    by_cases hc : inC al (at_ z j) = true
    · rw [if_pos hc, hc, Bool.true_and]
      by_cases hl : decide ((0 : Int) < ((runP al z j).2.length : Int)) = true
      · rw [if_pos hl]
        simp
      · rw [if_neg hl]
        have : (runP al z j).2 = [] := by
          rw [decide_eq_true_eq] at hl
          exact List.eq_nil_of_length_eq_zero (by omega)
        rw [this]
        rfl
    · rw [if_neg hc, if_neg (by rw [Bool.eq_false_iff.mpr hc]; simp)]
theorem RL_mem (al : Al) (z : Str) (j : Nat) : ∀ p ∈ RL al z j, ∃ k : Nat, p = k ∧ k < j := fun p hp => (runP_line al z j).2 p (List.mem_reverse.mp hp)
theorem RL_nodup (al : Al) (z : Str) : ∀ j, (RL al z j).Nodup
  | 0 => List.nodup_nil
  | j + 1 => by
    have ih := RL_nodup al z j
    rw [RL_step]
    split
    · refine List.nodup_cons.mpr ⟨fun h => ?_, ih⟩
      obtain ⟨k, e, hk⟩ := RL_mem al z j _ h
      omega
    · split
      · exact ih.sublist (List.tail_sublist _)
      · exact ih
/-- one step of what was found -/
theorem FL_step (al : Al) (z : Str) (j : Nat) : (∃ l r, inA al (at_ z j) = false ∧ inC al (at_ z j) = true ∧ RL al z j = l :: r ∧ FL al z (j + 1) = ((FL al z j).set j l).set l.toNat (j : Int)) ∨
    ((inA al (at_ z j) = true ∨ inC al (at_ z j) = false ∨ RL al z j = []) ∧ FL al z (j + 1) = FL al z j) := by
  unfold FL
  rw [runP_succ]
  unfold stepP
  by_cases ha : inA al (at_ z j) = true
  · rw [if_pos ha]
    exact .inr ⟨.inl ha, rfl⟩
  · rw [if_neg ha]
    by_cases hc : (inC al (at_ z j) && decide ((0 : Int) < ((runP al z j).2.length : Int))) = true
    · rw [if_pos hc]
      obtain ⟨h1, h2⟩ := Bool.and_eq_true _ _ ▸ hc
      rw [decide_eq_true_eq] at h2
      have hne : (runP al z j).2 ≠ [] := fun e => by rw [e] at h2; simp at h2
      refine .inl ⟨(runP al z j).2.getLastD 0, (runP al z j).2.dropLast.reverse, Bool.eq_false_iff.mpr ha, h1, ?_, rfl⟩
      unfold RL
      conv => lhs; rw [← List.dropLast_concat_getLast hne]
      rw [List.reverse_append, List.getLastD_eq_getLast?, List.getLast?_eq_getLast hne]
      rfl
    · rw [if_neg hc]
      refine .inr ⟨.inr ?_, rfl⟩
      by_cases h1 : inC al (at_ z j) = true
      · right
        rw [h1, Bool.true_and, decide_eq_true_eq] at hc
        unfold RL
        rw [List.eq_nil_of_length_eq_zero (l := (runP al z j).2) (by omega)]
        rfl
      · exact .inl (Bool.eq_false_iff.mpr h1)
theorem FL_len (al : Al) (z : Str) (j : Nat) : (FL al z j).length = z.length := runP_len al z j
/-- what stands on neither side stays -/
theorem FL_keep (al : Al) (z : Str) {s : Nat} : ∀ (m j : Nat), s < j → (s : Int) ∉ RL al z j → (FL al z (j + m)).getD s (-1) = (FL al z j).getD s (-1) ∧ (s : Int) ∉ RL al z (j + m)
  | 0, j, _, h => ⟨rfl, h⟩
  | m + 1, j, hj, h => by
    obtain ⟨ih, hn⟩ := FL_keep al z m j hj h
    have e : j + (m + 1) = (j + m) + 1 := by omega
    rw [e]
    refine ⟨?_, ?_⟩
    · rw [← ih]
      rcases FL_step al z (j + m) with ⟨l, r, _, _, hr, hf⟩ | ⟨_, hf⟩
      · rw [hf]
        obtain ⟨k, rfl, hk⟩ := RL_mem al z (j + m) l (by rw [hr]; exact List.mem_cons_self)
        have h1 : k ≠ s := fun q => hn (by rw [hr, q]; exact List.mem_cons_self)
        rw [Int.toNat_natCast, List.getD_eq_getElem?_getD, List.getElem?_set_ne h1, List.getElem?_set_ne (by omega), ← List.getD_eq_getElem?_getD]
      · rw [hf]
    · rw [RL_step]
      split
      · intro q
        rcases List.mem_cons.mp q with q | q
        · omega
        · exact hn q
      · split
        · exact fun q => hn (List.mem_of_mem_tail q)
        · exact hn
/-- what waits, and what is not yet reached, has no partner -/
theorem FL_open (al : Al) (z : Str) : ∀ j (s : Nat), ((s : Int) ∈ RL al z j ∨ j ≤ s) → (FL al z j).getD s (-1) = -1
  | 0, s, _ => by
    show (List.replicate z.length (-1 : Int)).getD s (-1) = -1
    rw [List.getD_eq_getElem?_getD, List.getElem?_replicate]
    split <;> rfl
  | j + 1, s, h => by
    have hs : s ≠ j → (s : Int) ∈ RL al z j ∨ j ≤ s := fun hne => by
      rcases h with h | h
      · rw [RL_step] at h
        split at h
        · rcases List.mem_cons.mp h with q | q
          · omega
          · exact .inl q
        · split at h
          · exact .inl (List.mem_of_mem_tail h)
          · exact .inl h
      · exact .inr (by omega)
    rcases FL_step al z j with ⟨l, r, ha, hc, hr, hf⟩ | ⟨_, hf⟩
    · have hstep := RL_step al z j
      rw [if_neg (by rw [ha]; decide), if_pos hc, hr, List.tail_cons] at hstep
      obtain ⟨k, rfl, hk⟩ := RL_mem al z j l (by rw [hr]; exact List.mem_cons_self)
      have hnd := RL_nodup al z j
      rw [hr] at hnd
      have hkr := (List.nodup_cons.mp hnd).1
      have h1 : k ≠ s := fun q => by
        subst q
        rcases h with h | h
        · rw [hstep] at h; exact hkr h
        · omega
      have h2 : j ≠ s := fun q => by
        subst q
        rcases h with h | h
        · rw [hstep] at h
          obtain ⟨k', e, hk'⟩ := RL_mem al z j _ (by rw [hr]; exact List.mem_cons_of_mem _ h)
          omega
        · omega
      rw [hf, Int.toNat_natCast, List.getD_eq_getElem?_getD, List.getElem?_set_ne h1, List.getElem?_set_ne h2, ← List.getD_eq_getElem?_getD]
      exact FL_open al z j s (hs (Ne.symm h2))
    · rw [hf]
      by_cases hne : s = j
      · subst hne
        exact FL_open al z s s (.inr (Nat.le_refl _))
      · exact FL_open al z j s (hs hne)
theorem lp_bk (hdis : al.dis) : ∀ (j f need : Nat), j ≤ z.length → j < f → lpGo z (inA al) (inC al) (-1) f ((j : Int) + -1) (need : Int) = (RL al z j)[need]?.getD (-1)
  | 0, f + 1, need, _, _ => by
    rw [lpGo, if_neg (by omega)]
    rfl
  | j + 1, f + 1, need, hj, hf => by
    have e : ((j + 1 : Nat) : Int) + -1 = (j : Int) := by omega
    rw [lpGo, e, if_pos (by omega), Int.toNat_natCast, RL_step]
    obtain ⟨d1, d2, d3⟩ := hdis (at_ z j)
    by_cases ha : inA al (at_ z j) = true
    · have hc : inC al (at_ z j) = false := Bool.eq_false_iff.mpr fun q => d1 ⟨ha, q⟩
      rw [if_pos ha, ha, hc]
      cases need with
      | zero => rw [if_pos ⟨rfl, rfl⟩]; rfl
      | succ need =>
        rw [if_neg (by omega), show ((need + 1 : Nat) : Int) + b2i false - b2i true = (need : Int) from by show ((need + 1 : Nat) : Int) + 0 - 1 = _; omega, lp_bk hdis j f need (by omega) (by omega)]
        rfl
    · rw [if_neg ha, Bool.eq_false_iff.mpr ha, if_neg (by simp)]
      by_cases hc : inC al (at_ z j) = true
      · rw [if_pos hc, hc, show (need : Int) + b2i true - b2i false = ((need + 1 : Nat) : Int) from by show (need : Int) + 1 - 0 = _; omega, lp_bk hdis j f (need + 1) (by omega) (by omega)]
        simp
      · rw [if_neg hc, Bool.eq_false_iff.mpr hc, show (need : Int) + b2i false - b2i false = (need : Int) from by show (need : Int) + 0 - 0 = _; omega, lp_bk hdis j f need (by omega) (by omega)]
theorem lp_fw (hdis : al.dis) : ∀ (m j f need : Nat) (s : Int), j + m = z.length → m < f → (RL al z j)[need]? = some s → lpGo z (inC al) (inA al) 1 f (j : Int) (need : Int) = (FL al z z.length).getD s.toNat (-1)
  | 0, j, f + 1, need, s, hj, _, hs => by
    rw [lpGo, if_neg (by omega)]
    have hjn : j = z.length := by omega
    subst hjn
    obtain ⟨k, rfl, _⟩ := RL_mem al z _ s (List.mem_of_getElem? hs)
    rw [Int.toNat_natCast, FL_open al z _ k (.inl (List.mem_of_getElem? hs))]
  | m + 1, j, f + 1, need, s, hj, hf, hs => by
    rw [lpGo, if_pos (by omega), Int.toNat_natCast]
    obtain ⟨d1, d2, d3⟩ := hdis (at_ z j)
    have e : ((j : Int) + 1) = ((j + 1 : Nat) : Int) := by omega
    have hst := RL_step al z j
    by_cases ha : inA al (at_ z j) = true
    · have hc : inC al (at_ z j) = false := Bool.eq_false_iff.mpr fun q => d1 ⟨ha, q⟩
      rw [if_pos ha] at hst
      rw [ha, hc, if_neg (by simp), e, show (need : Int) + b2i true - b2i false = ((need + 1 : Nat) : Int) from by show (need : Int) + 1 - 0 = _; omega]
      exact lp_fw hdis m (j + 1) f (need + 1) s (by omega) (by omega) (by rw [hst]; exact hs)
    · rw [if_neg ha] at hst
      rw [Bool.eq_false_iff.mpr ha]
      by_cases hc : inC al (at_ z j) = true
      · rw [if_pos hc] at hst
        rw [hc]
        cases need with
        | zero =>
          rw [if_pos ⟨rfl, rfl⟩]
          rcases FL_step al z j with ⟨l, r, _, _, hr, hF⟩ | ⟨h, _⟩
          · rw [hr] at hs
            cases hs
            rw [hr, List.tail_cons] at hst
            obtain ⟨k, rfl, hk⟩ := RL_mem al z j s (by rw [hr]; exact List.mem_cons_self)
            have hnd := RL_nodup al z j
            rw [hr] at hnd
            have hk2 := (FL_keep al z (s := k) m (j + 1) (by omega) (by rw [hst]; exact (List.nodup_cons.mp hnd).1)).1
            rw [show j + 1 + m = z.length by omega] at hk2
            rw [Int.toNat_natCast, hk2, hF, Int.toNat_natCast, List.getD_eq_getElem?_getD, List.getElem?_set_self (by rw [List.length_set, FL_len]; omega)]
            rfl
          · rcases h with h | h | h
            · exact absurd h ha
            · rw [hc] at h; cases h
            · rw [h] at hs; cases hs
        | succ need =>
          rw [if_neg (by omega), e, show ((need + 1 : Nat) : Int) + b2i false - b2i true = (need : Int) from by show ((need + 1 : Nat) : Int) + 0 - 1 = _; omega]
          exact lp_fw hdis m (j + 1) f need s (by omega) (by omega) (by rw [hst, List.getElem?_tail]; exact hs)
      · rw [if_neg hc] at hst
        rw [Bool.eq_false_iff.mpr hc, if_neg (by simp), e, show (need : Int) + b2i false - b2i false = (need : Int) from by show (need : Int) + 0 - 0 = _; omega]
        exact lp_fw hdis m (j + 1) f need s (by omega) (by omega) (by rw [hst]; exact hs)
theorem has_one {c : Nat} (h : al.has c = true) : inA al c = true ∨ inB al c = true ∨ inC al c = true := by
  have h' := of_decide_eq_true h
  rw [all_cps, List.mem_append, List.mem_append] at h'
  rcases h' with (h' | h') | h'
  · exact .inl (decide_eq_true h')
  · exact .inr (.inl (decide_eq_true h'))
  · exact .inr (.inr (decide_eq_true h'))
theorem lawP_eq (hdis : al.dis) (hok : okText al z) {i : Nat} (hi : i < z.length) : lawP al z i = (partners al z).getD i (-1) := by
  have hP : partners al z = FL al z z.length := rfl
  obtain ⟨d1, d2, d3⟩ := hdis (at_ z i)
  have hst := RL_step al z i
  have keep : (i : Int) ∉ RL al z (i + 1) → (FL al z z.length).getD i (-1) = (FL al z (i + 1)).getD i (-1) := fun h => by
    have := (FL_keep al z (s := i) (z.length - (i + 1)) (i + 1) (by omega) h).1
    rwa [show i + 1 + (z.length - (i + 1)) = z.length by omega] at this
  have ni : (i : Int) ∉ RL al z i := fun h => by
    obtain ⟨k, e, hk⟩ := RL_mem al z i _ h
    omega
  rw [hP]
  unfold lawP
  by_cases hb : inB al (at_ z i) = true
  · have ha : inA al (at_ z i) = false := Bool.eq_false_iff.mpr fun q => d2 ⟨q, hb⟩
    have hc : inC al (at_ z i) = false := Bool.eq_false_iff.mpr fun q => d3 ⟨hb, q⟩
    rw [if_neg (by rw [ha]; decide), if_neg (by rw [hc]; decide)] at hst
    rw [if_pos hb, keep (by rw [hst]; exact ni)]
    rcases FL_step al z i with ⟨l, r, _, hc', _⟩ | ⟨_, hf⟩
    · rw [hc] at hc'; cases hc'
    · rw [hf, FL_open al z i i (.inr (Nat.le_refl _))]
  · rw [if_neg hb]
    by_cases hc : inC al (at_ z i) = true
    · have ha : inA al (at_ z i) = false := Bool.eq_false_iff.mpr fun q => d1 ⟨q, hc⟩
      rw [if_neg (by rw [ha]; decide), if_pos hc] at hst
      rw [if_pos hc, keep (by rw [hst]; exact fun q => ni (List.mem_of_mem_tail q))]
      have h0 := lp_bk (z := z) hdis i (z.length + 2) 0 (by omega) (by omega)
      rw [show ((0 : Nat) : Int) = 0 from rfl] at h0
      rw [h0]
      rcases FL_step al z i with ⟨l, r, _, _, hr, hf⟩ | ⟨h, hf⟩
      · obtain ⟨k, rfl, hk⟩ := RL_mem al z i l (by rw [hr]; exact List.mem_cons_self)
        rw [hr, hf, Int.toNat_natCast, List.getD_eq_getElem?_getD, List.getElem?_set_ne (by omega), List.getElem?_set_self (by rw [FL_len]; omega)]
        rfl
      · rcases h with h | h | h
        · rw [ha] at h; cases h
        · rw [hc] at h; cases h
        · rw [h, hf, FL_open al z i i (.inr (Nat.le_refl _))]
          rfl
    · have ha : inA al (at_ z i) = true := by
        have hm : at_ z i ∈ z.cps.toList := by
          have h' : i < z.cps.toList.length := by rw [Array.length_toList]; exact hi
          unfold at_
          rw [List.getD_eq_getElem?_getD, List.getElem?_eq_getElem h']
          exact List.getElem_mem h'
        rcases has_one (hok _ hm) with h | h | h
        · exact h
        · exact absurd h hb
        · exact absurd h hc
      rw [if_neg hc]
      rw [if_pos ha] at hst
      have h0 := lp_fw (z := z) hdis (z.length - (i + 1)) (i + 1) (z.length + 2) 0 i (by omega) (by omega) (by rw [hst]; rfl)
      rw [Int.toNat_natCast] at h0
      exact h0
end
end K38
namespace K38
open PySem PySem.Spec PyProof.Rows L2 Evl KD KR RZ
/-! ### the law's caller, leap -/
def goL (f : Nat → Bool) : Nat → Int
  | 0 => -1
  | k + 1 => if f k = true then (k : Int) else goL f k
theorem goL_congr {f g : Nat → Bool} : ∀ n, (∀ k, k < n → f k = g k) → goL f n = goL g n
  | 0, _ => rfl
  | n + 1, h => by
    unfold goL
    rw [h n (by omega), goL_congr n fun k hk => h k (by omega)]
theorem callerL_goL (al : Al) (z : Str) (rows : List Int) (place : Nat) : ∀ k, callerL al z rows place k = goL (callC al z rows place) k
  | 0 => rfl
  | k + 1 => by
    unfold callerL goL
    rw [callerL_goL al z rows place k]
theorem atI_last {α : Type} (l : List α) (x : α) : atI (l ++ [x]) (-1) = some x := by
  unfold atI ixN
  rw [if_neg (by decide), if_pos (by rw [List.length_append]; show -(((l.length + 1 : Nat)) : Int) ≤ -1; omega), List.length_append]
  show (l ++ [x])[((((l.length + 1 : Nat)) : Int) + -1).toNat]? = _
  rw [show ((((l.length + 1 : Nat)) : Int) + -1).toNat = l.length by omega]
  simp
theorem goL_last (f : Nat → Bool) : ∀ n, ∃ l, [PyData.int (-1)] ++ kept n f (fun k => .int (k : Nat)) = l ++ [.int (goL f n)]
  | 0 => ⟨[], rfl⟩
  | n + 1 => by
    cases h : f n with
    | true =>
      rw [kept_yes h]
      refine ⟨[PyData.int (-1)] ++ kept n f (fun k => .int (k : Nat)), ?_⟩
      unfold goL
      rw [if_pos h, List.append_assoc]
    | false =>
      rw [kept_no h]
      obtain ⟨l, hl⟩ := goL_last f n
      refine ⟨l, ?_⟩
      unfold goL
      rw [if_neg (by rw [h]; decide), hl]
def lawC (al : Al) (z : Str) (i : Nat) : Int := callerL al z (partners al z) i i
section
variable {P : Program} {w : World} {K : PySem.W.Frag} {mg : Str → Option Value} {base : Heap}
def spL3 (val : Al → Str → Nat → Int) : Sp := fun vs H Q E => ∃ (va : V) (al : Al) (z : Str) (i : Nat), vs = [va, .str z, .int (i : Nat)] ∧ Dp K H va al.d ∧ i < z.length ∧ z.length ≤ 1000 ∧ al.dis ∧ okText al z ∧ ∀ H', Ex H H' → Q (.int (val al z i)) H'
theorem ok_law_around (G : Pg K mg) {k : Nat} : FnOk P w K mg base CX0 (k + 2) G.f_law_around G.fd_law_around ["alphabet", "text", "at"] (spL3 (K := K) lawC) := by
  refine Fun.ok G.F_law_around sc_law_around (fun vs H Q E h => ?_) (fun cdv A outer s H vs Q E hr h => ?_)
  · obtain ⟨va, al, z, i, rfl, _⟩ := h
    rfl
  · have hr_law_partner := hr
    have G_law_partner := ok_law_partner (P := P) (w := w) (base := base) G (k := k)
    refine ⟨_, (pss_cons (ps_setLc (i := 3) (own := [("k", 4)]) rfl sc_law_around.nd rfl rfl (sw_true rfl rfl rfl (by decide +kernel)) (pi_range1 (by rfl) G.n_range (pa_cons (pv 2) pa_nil)) (blkOk_by (own := [("k", 4)]) (N := ["alphabet", "text", "at", "rows", "k"]) (sc := defScope s_law_around) (by decide +kernel)) (fun _ _ _ _ _ => (pg_name (i := 4) sc_law_around.nd rfl (Or.inl rfl))) (fun _ _ _ _ _ => pts_one (PW.pt (pw_and (pt_cmpR op_in_sign (pe_ix ix_str (pv 1) (pv 4) (fun _ _ => rfl)) (pe_ix (ixTK (K := K) rfl) (pv 0) pe_int (fun _ _ => rfl)) (by rfl)) (pw_and1 (pt_not (pt_chain op_le op_le pe_int (pe_call G_law_partner hr_law_partner (by rfl) G.m_law_partner G.k_law_partner G.b_law_partner .nil pass0 (pa_cons (pv 0) (pa_cons (pv 1) (pa_cons (pv 4) pa_nil)))) (pv 2))))))) (fun _ _ _ _ _ => (pv 4)))
      (pss_one (ps_ret (pe_ix ix_list (pe_op op_cat (pe_lst (pa_cons (pe_un un_neg pe_int) pa_nil)) (pv 3)) (pe_un un_neg pe_int) (fun _ _ => rfl))))), ?_⟩
    obtain ⟨va, al, z, i, rfl, hd, hi, hz, hdis, hok, hres⟩ := h
    have an : ∀ {σ : L2.St} {H1 : Hp}, Ex H H1 → σ[0]? = some (some va) → EvD K (tVar 0) σ H1 al.d := fun x h => evd_var h (Dpx x hd)
    have hf : ∀ k, k < i → (inA al (at_ z k) && !(decide (0 ≤ lawP al z k) && decide (lawP al z k ≤ (i : Int)))) = callC al z (partners al z) i k := fun k hk => by
      have hk' : k < z.length := by omega
      have hg : (partners al z).getD k 0 = (partners al z).getD k (-1) := by
        rw [List.getD_eq_getElem?_getD, List.getD_eq_getElem?_getD, List.getElem?_eq_getElem (by rw [partners_len]; exact hk')]
        rfl
      unfold callC
      rw [hg, ← lawP_eq hdis hok hk']
      congr 1
      have hrg : Rg z.length (lawP al z k) := by
        rw [lawP_eq hdis hok hk']
        refine partners_rg al z _ ?_
        rw [List.getD_eq_getElem?_getD, List.getElem?_eq_getElem (by rw [partners_len]; exact hk')]
        exact List.getElem_mem _
      rcases hrg with e | ⟨m, e, hm⟩
      · rw [e]; rfl
      · rw [e]
        by_cases h1 : (i : Int) < (m : Int)
        · rw [decide_eq_true h1, decide_eq_true (show (0 : Int) ≤ (m : Int) by omega), decide_eq_false (show ¬ ((m : Int) ≤ (i : Int)) by omega)]
          simp
        · rw [decide_eq_false h1, decide_eq_true (show (0 : Int) ≤ (m : Int) by omega), decide_eq_true (show ((m : Int) ≤ (i : Int)) by omega), decide_eq_false (show ¬ ((m : Int) = -1) by omega)]
          simp
    refine q_asgN (K := K) (evn_lc (evw_range1 (n := (i : Int)) (ea_cons (ev_var rfl) ea_nil) (by omega)) (mono_name (i := 4)) (fun k => inA al (at_ z k) && !(decide (0 ≤ lawP al z k) && decide (lawP al z k ≤ (i : Int)))) (fun k => .int (k : Nat)) (by omega) (fun _ _ _ => rfl) fun j x H1 e1 hj y => ?_) fun p xs H1 hp e1 h1 hx => ?_
    · subst y
      have hj' : j < z.length := by omega
      refine ⟨Ex.refl H1, rfl, ?_, fun _ => ev_int (ev_var rfl)⟩
      refine et_and (et_test (ev_inS (ev_ixS (ev_var rfl) (ev_var rfl) (by omega) (atI_at hj')) (evd_str (evd_ixT (an e1 rfl) ev_c rfl)))) fun _ => et_not (et_test (ev_chain ev_c (evd_int (K := K) (evd_call (ead_cons (an e1 rfl) (ead_cons (ev_str (ev_var rfl)) (ead_cons (ev_int (ev_var rfl)) ead_nil))) fun vs H2 e2 hv Q q => ?_)) (ev_var rfl) rv_I0 fun _ => rv_I0))
      cases hv with
      | cons g1 g2 =>
      cases g2 with
      | cons g2 g3 =>
      cases g3 with
      | cons g3 g4 =>
      cases g4
      cases dp_str g2
      cases dp_int g3
      exact ⟨_, al, z, j, rfl, g1, hj', hz, fun H' e => q _ H' e (.int _)⟩
    · rw [Int.toNat_natCast] at hx
      obtain ⟨l, hl⟩ := goL_last (fun k => inA al (at_ z k) && !(decide (0 ≤ lawP al z k) && decide (lawP al z k ≤ (i : Int)))) i
      refine s_ret (v := .int (goL (fun k => inA al (at_ z k) && !(decide (0 ≤ lawP al z k) && decide (lawP al z k ≤ (i : Int)))) i)) (evd_int (K := K) (evd_ixL (EvN.dp (evn_cat (EvN.m (evn_lst (ead_cons (ev_int (ev_neg ev_c)) ead_nil) (by show 1 ≤ 100000; decide))) (evm_var rfl h1 hx) ?_)) (ev_neg ev_c) (by rw [hl]; exact atI_last _ _))) fun H2 e2 => ?_
      · have := kept_len i (fun k => inA al (at_ z k) && !(decide (0 ≤ lawP al z k) && decide (lawP al z k ≤ (i : Int)))) (fun k => .int (k : Nat))
        show 1 + _ ≤ 100000
        omega
      · have h := hres H2 (e1.trans e2)
        unfold lawC at h
        rw [callerL_goL, ← goL_congr i hf] at h
        exact h
theorem lawP_eq0 {al : Al} {z : Str} (hdis : al.dis) (hok : okText al z) {i : Nat} (hi : i < z.length) : lawP al z i = (partners al z).getD i 0 := by
  rw [lawP_eq hdis hok hi, List.getD_eq_getElem?_getD, List.getD_eq_getElem?_getD, List.getElem?_eq_getElem (by rw [partners_len]; exact hi)]
  rfl
theorem ok_law_leap (G : Pg K mg) {k : Nat} : FnOk P w K mg base CX0 (k + 2) G.f_law_leap G.fd_law_leap ["alphabet", "text", "at"] (spL3 (K := K) behindM) := by
  refine Fun.ok G.F_law_leap sc_law_leap (fun vs H Q E h => ?_) (fun cdv A outer s H vs Q E hr h => ?_)
  · obtain ⟨va, al, z, i, rfl, _⟩ := h
    rfl
  · have hr_law_partner := hr
    have G_law_partner := ok_law_partner (P := P) (w := w) (base := base) G (k := k)
    refine ⟨_, (pss_cons (ps_if (pt_cmpR op_in_sign (pe_ix ix_str (pv 1) (pv 2) (fun _ _ => rfl)) (pe_ix ix_tup (pv 0) pe_int (fun _ _ => rfl)) (by rfl)) (pss_one (ps_ret (pe_call G_law_partner hr_law_partner (by rfl) G.m_law_partner G.k_law_partner G.b_law_partner .nil pass0 (pa_cons (pv 0) (pa_cons (pv 1) (pa_cons (pv 2) pa_nil)))))) pss_nil)
      (pss_one (ps_ret (pe_ifExp (PW.pt (pw_and (pt_cmpR op_lt (pe_op op_add (pv 2) pe_int) (pe_callB call_len (by rfl) G.n_len (by decide +kernel) (pa_cons (pv 1) pa_nil)) (nomark _)) (pw_and1 (pt_cmpR op_notIn_sign (pe_ix ix_str (pv 1) (pe_op op_add (pv 2) pe_int) (fun _ _ => rfl)) (pe_ix ix_tup (pv 0) pe_int (fun _ _ => rfl)) (by rfl))))) (pe_op op_add (pv 2) pe_int) (pe_un un_neg pe_int))))), ?_⟩
    obtain ⟨va, al, z, i, rfl, hd, hi, hz, hdis, hok, hres⟩ := h
    have an : ∀ {σ : L2.St} {H1 : Hp}, Ex H H1 → σ[0]? = some (some va) → EvD K (tVar 0) σ H1 al.d := fun x h => evd_var h (Dpx x hd)
    refine q_when (b := inA al (at_ z i)) (et_test (ev_inS (ev_ixS (ev_var rfl) (ev_var rfl) (by omega) (atI_at hi)) (evd_str (evd_ixT (an (Ex.refl H) rfl) ev_c rfl)))) (fun hb H1 e1 => ?_) fun hb H1 e1 => ?_
    · refine s_ret (v := .int (lawP al z i)) (evd_int (K := K) (evd_call (ead_cons (an e1 rfl) (ead_cons (ev_str (ev_var rfl)) (ead_cons (ev_int (ev_var rfl)) ead_nil))) fun vs H2 e2 hv Q q => ?_)) fun H2 e2 => ?_
      · cases hv with
        | cons g1 g2 =>
        cases g2 with
        | cons g2 g3 =>
        cases g3 with
        | cons g3 g4 =>
        cases g4
        cases dp_str g2
        cases dp_int g3
        exact ⟨_, al, z, i, rfl, g1, hi, hz, fun H' e => q _ H' e (.int _)⟩
      · have h := hres H2 (e1.trans e2)
        unfold behindM at h
        rw [if_pos hb, ← lawP_eq0 hdis hok hi] at h
        exact h
    · have hb' : behindM al z i = if (decide (((i : Int) + 1) < (z.length : Int)) && !inC al (at_ z (i + 1))) = true then (i : Int) + 1 else -1 := by
        unfold behindM
        rw [if_neg (by rw [hb]; decide)]
      rw [hb'] at hres
      refine s_ret (v := .int (if (decide (((i : Int) + 1) < (z.length : Int)) && !inC al (at_ z (i + 1))) = true then (i : Int) + 1 else -1)) (ev_if (b := decide (((i : Int) + 1) < (z.length : Int)) && !inC al (at_ z (i + 1))) (et_and (et_test (ev_lt (ev_add (ev_var rfl) ev_c) (ev_lenS (ev_var rfl) (by omega)))) fun h => ?_) (fun h => ?_) fun h => ?_) fun H2 e2 => hres H2 (e1.trans e2)
      · have h' := of_decide_eq_true h
        have e : ((i : Int) + 1) = ((i + 1 : Nat) : Int) := by omega
        have hx := ev_add (σ := [some va, some (.str z), some (.int (i : Nat))]) (H := H1) (ev_var (i := 2) rfl) (ev_c (v := .int 1))
        rw [e] at hx
        exact et_test (ev_ninS (ev_ixS (ev_var rfl) hx (by omega) (atI_at (by omega))) (evd_str (evd_ixT (an e1 rfl) ev_c rfl)))
      · rw [if_pos h]
        exact ev_add (ev_var rfl) ev_c
      · rw [if_neg (by rw [h]; decide)]
        exact ev_neg ev_c
end
end K38
namespace KR
open PySem PySem.Spec PyProof.Rows L2 Evl KD
section
variable {K : PySem.W.Frag} {σ : L2.St} {H : Hp} {te ta tb : TE} {D : Ends} {tz : TS} {ds es : List PyData} {d : PyData}
theorem ev_index {ys : List V} {y z : V} {j : Nat} (ha : EvL ta σ H ys) (h : Ev te σ H y) (hy : flatV y = true) (hf : ys.all flatV = true) (hj : ys[j]? = some z) (he : eqV z y = true) (hn : ∀ (m : Nat) (z' : V), m < j → ys[m]? = some z' → eqV z' y = false) :
    Ev (tBM K "list" (rIndex K) ta (tCons te tNil)) σ H (.int (j : Nat)) := fun H1 e Q q =>
  ha H1 e _ fun p H2 hp e2 h2 => ⟨Or.inl ⟨rfl, ys, sq_of h2⟩, h H2 (e.trans e2) _ fun H3 e3 => ⟨p, ys, y, j, z, rfl, rfl, sq_of (e3 p _ h2), hy, hf, hj, he, hn, q H3 (e2.trans e3)⟩⟩
theorem ev_inL {xs : List V} {x : V} (ha : Ev ta σ H x) (hb : EvL tb σ H xs) (hx : flatV x = true) (hf : xs.all flatV = true) : Ev (tOp (rIn K false) ta tb) σ H (.bl (inV x xs)) := ev_opL ha hb fun _ _ h _ => rv_isL (sq_of h) hx hf
end
end KR
namespace K38
open PySem PySem.Spec PyProof.Rows L2 Evl KD KR RZ
def Sen.wf : Sen → Prop
  | .sign _ => True
  | .kind k => k < 3
  | .un _ a => a.wf
  | .bi _ a b => a.wf ∧ b.wf
/-- at a place, off it False -/
def soV (bs : List Bool) (p : Int) : Bool := decide (0 ≤ p) && bs.getD p.toNat false
theorem soV_nat (bs : List Bool) (i : Nat) : soV bs (i : Int) = bs.getD i false := by
  unfold soV
  rw [decide_eq_true (by omega), Int.toNat_natCast, Bool.true_and]
theorem soV_out {bs : List Bool} {p : Int} (h : p < 0 ∨ (bs.length : Int) ≤ p) : soV bs p = false := by
  unfold soV
  rcases h with h | h
  · rw [decide_eq_false (by omega)]; rfl
  · rw [List.getD_eq_getElem?_getD, List.getElem?_eq_none (by omega)]
    exact Bool.and_false _
def goalM (al : Al) (z : Str) (i : Nat) : Un → Int
  | .leap => behindM al z i
  | .caller => lawC al z i
  | .partner => lawP al z i
  | _ => (i : Int) + 1
theorem getD_map {α β : Type} {f : α → β} {l : List α} {i : Nat} {b : β} {a : α} (h : i < l.length) : (l.map f).getD i b = f (l.getD i a) := by
  rw [List.getD_eq_getElem?_getD, List.getElem?_map, List.getElem?_eq_getElem h, List.getD_eq_getElem?_getD, List.getElem?_eq_getElem h]
  rfl
theorem getD_range {β : Type} {f : Nat → β} {n i : Nat} {b : β} (h : i < n) : ((List.range n).map f).getD i b = f i := by
  rw [List.getD_eq_getElem?_getD, List.getElem?_map, List.getElem?_range h]
  rfl
theorem so_un {al : Al} {z : Str} (hdis : al.dis) (hok : okText al z) {i : Nat} (hi : i < z.length) (u : Un) (hu : u ≠ .not) (a : Sen) : (trL al z (.un u a)).getD i false = soV (trL al z a) (goalM al z i u) := by
  have hl := trL_len al z a
  have rows : ∀ u' : Un, (trL al z (.un u' a) = (rowsM al z u').map fun r => decide (0 ≤ r) && (trL al z a).getD r.toNat false) → (rowsM al z u').getD i 0 = goalM al z i u' → (trL al z (.un u' a)).getD i false = soV (trL al z a) (goalM al z i u') := fun u' h1 h2 => by
    rw [h1, getD_map (a := 0) (by rw [rowsM_len]; exact hi), h2]
    rfl
  cases u with
  | not => exact absurd rfl hu
  | next =>
    show (((trL al z a).drop 1 ++ [false]).take (trL al z a).length).getD i false = soV (trL al z a) ((i : Int) + 1)
    rw [show ((i : Int) + 1) = ((i + 1 : Nat) : Int) by omega, soV_nat, List.getD_eq_getElem?_getD, List.getD_eq_getElem?_getD, List.getElem?_take, if_pos (by omega), List.getElem?_append]
    split
    · rename_i h
      rw [List.getElem?_drop, Nat.add_comm]
    · rename_i h
      rw [List.length_drop] at h
      rw [List.getElem?_eq_none (l := trL al z a) (by omega)]
      have : i - (List.drop 1 (trL al z a)).length = 0 := by rw [List.length_drop]; omega
      rw [this]
      rfl
  | leap => exact rows .leap rfl (getD_range hi)
  | caller => exact rows .caller rfl (getD_range hi)
  | partner => exact rows .partner rfl (lawP_eq0 hdis hok hi).symm
def kindIn (al : Al) (c : Nat) : Nat → Bool
  | 0 => inA al c
  | 1 => inB al c
  | _ => inC al c
theorem kind_at {al : Al} (hdis : al.dis) {c : Nat} (hc : al.has c = true) (k : Nat) (hk : k < 3) : decide (kindOf al c = kinds3.getD k "") = kindIn al c k := by
  obtain ⟨d1, d2, d3⟩ := hdis c
  have h := has_one hc
  unfold kindOf
  have ea : (if c ∈ al.a.cps.toList then (Str.ofString "call") else if c ∈ al.b.cps.toList then (Str.ofString "plain") else (Str.ofString "return")) = if inA al c = true then Str.ofString "call" else if inB al c = true then Str.ofString "plain" else Str.ofString "return" := by
    unfold inA inB
    simp only [decide_eq_true_eq]
  rw [ea]
  have fin : ∀ a b d : Bool, inA al c = a → inB al c = b → inC al c = d → (a = true ∧ b = false ∧ d = false ∨ a = false ∧ b = true ∧ d = false ∨ a = false ∧ b = false ∧ d = true) → decide ((if a = true then Str.ofString "call" else if b = true then Str.ofString "plain" else Str.ofString "return") = kinds3.getD k "") = kindIn al c k := by
    intro a b d ha hb hd h
    have hkk : kindIn al c k = [a, b, d].getD k false := by
      match k, hk with
      | 0, _ => exact ha
      | 1, _ => exact hb
      | 2, _ => exact hd
    rw [hkk]
    rcases h with ⟨rfl, rfl, rfl⟩ | ⟨rfl, rfl, rfl⟩ | ⟨rfl, rfl, rfl⟩
    · clear hkk
      revert k
      decide +kernel
    · clear hkk
      revert k
      decide +kernel
    · clear hkk
      revert k
      decide +kernel
  refine fin _ _ _ rfl rfl rfl ?_
  cases ha : inA al c <;> cases hb : inB al c <;> cases hd : inC al c <;> simp_all
theorem at_has {al : Al} {z : Str} (hok : okText al z) {i : Nat} (hi : i < z.length) : al.has (at_ z i) = true := by
  have h' : i < z.cps.toList.length := by rw [Array.length_toList]; exact hi
  refine hok _ ?_
  unfold at_
  rw [List.getD_eq_getElem?_getD, List.getElem?_eq_getElem h']
  exact List.getElem_mem h'
/-- where until goes on -/
theorem until_go {al : Al} {z : Str} {plain : Bool} {A B : List Bool} {h : Nat} (hh : h < z.length) (h1 : A.getD h false = true) (h2 : B.getD h false = false) :
    soV (untilL al z plain A B) (h : Int) = soV (untilL al z plain A B) (if plain = true then (h : Int) + 1 else behindM al z h) := by
  rw [soV_nat]
  unfold untilL
  rw [getD_range hh, untilU_step hh, h1, h2, Bool.false_or, Bool.true_and]
  cases plain with
  | true =>
    rw [if_pos rfl]
    by_cases hl : h + 1 < z.length
    · rw [show nextM al z true h = ((h + 1 : Nat) : Int) by unfold nextM; rw [if_pos rfl, if_pos (decide_eq_true (by omega))]; omega, show ((h : Int) + 1) = ((h + 1 : Nat) : Int) by omega, soV_nat, getD_range hl, Int.toNat_natCast, decide_eq_true (by omega)]
      rfl
    · rw [show nextM al z true h = -1 by unfold nextM; rw [if_pos rfl, if_neg (by rw [decide_eq_true_eq]; omega)], soV_out (.inr (by simp; omega))]
      rfl
  | false =>
    rw [if_neg (by decide), show nextM al z false h = behindM al z h from rfl]
    unfold soV
    rcases behind_fwd (al := al) hh with e | ⟨m, e, hm, hmn⟩
    · rw [e]; rfl
    · rw [e, Int.toNat_natCast, getD_range hmn]
section
variable {P : Program} {w : World} {K : PySem.W.Frag} {mg : Str → Option Value} {base : Heap}
def spLS (n : Nat) : Sp := fun vs H Q E => ∃ (va vt : V) (al : Al) (t : Sen) (z : Str) (p : Int), vs = [va, vt, .str z, .int p] ∧ Dp K H va al.d ∧ Dp K H vt t.d ∧ z.length ≤ 1000 ∧ al.dis ∧ okText al z ∧ t.wf ∧ t.dep < n ∧ ∀ H', Ex H H' → Q (.bl (soV (trL al z t) p)) H'
theorem ok_law_so (G : Pg K mg) {k : Nat} : ∀ n, FnOk P w K mg base CX0 (k + 2 + n) G.f_law_so G.fd_law_so ["alphabet", "told", "text", "at"] (spLS (K := K) n)
  | 0 => ⟨fun vs H Q E h => by obtain ⟨_, _, _, _, _, _, _, _, _, _, _, _, _, h, _⟩ := h; omega, fun A outer s H args us vs Q E hr e0 hb hv h => by obtain ⟨_, _, _, _, _, _, _, _, _, _, _, _, _, h, _⟩ := h; omega⟩
  | n + 1 => by
    have G_law_so := ok_law_so G (k := k) n
    have G_law_partner := (ok_law_partner (P := P) (w := w) (base := base) G (k := k)).mono (k := k + 2 + n) (by omega)
    have G_law_around := (ok_law_around (P := P) (w := w) (base := base) G (k := k)).mono (k := k + 2 + n) (by omega)
    have G_law_leap := (ok_law_leap (P := P) (w := w) (base := base) G (k := k)).mono (k := k + 2 + n) (by omega)
    refine Fun.ok G.F_law_so sc_law_so (fun vs H Q E h => ?_) (fun cdv A outer s H vs Q E hr h => ?_)
    · obtain ⟨va, vt, al, t, z, p, rfl, _⟩ := h
      rfl
    · have hr_law_so := hr
      have hr_law_partner := hr
      have hr_law_around := hr
      have hr_law_leap := hr
      refine ⟨_, (pss_cons (ps_set (i := 4) sc_law_so.nd rfl (Or.inl rfl) (pe_ix ix_tup (pv 1) pe_int (fun _ _ => rfl)))
      (pss_cons (ps_if (PW.pt (pw_or (pt_cmpR op_lt (pv 3) pe_int (nomark _)) (pw_or1 (pt_cmpR op_ge (pv 3) (pe_callB call_len (by rfl) G.n_len (by decide +kernel) (pa_cons (pv 2) pa_nil)) (nomark _))))) (pss_one (ps_ret pe_bl)) pss_nil)
      (pss_cons (ps_if (pt_cmpR op_eq (pv 4) pe_str (nomark _)) (pss_one (ps_ret (pe_cmpR op_eq (pe_ix ix_str (pv 2) (pv 3) (fun _ _ => rfl)) (pe_ix ix_tup (pv 1) pe_int (fun _ _ => rfl)) (nomark _)))) pss_nil)
      (pss_cons (ps_if (pt_cmpR op_eq (pv 4) pe_str (nomark _)) (pss_one (ps_ret (pe_cmpR op_in_sign (pe_ix ix_str (pv 2) (pv 3) (fun _ _ => rfl)) (pe_ix ix_tup (pv 0) (pe_bm PySem.F.plainAttrs_list PySem.F.slot_list_index PySem.F.type_list_index mt_index (pe_lst (pa_cons pe_str (pa_cons pe_str (pa_cons pe_str pa_nil)))) (pa_cons (pe_ix ix_tup (pv 1) pe_int (fun _ _ => rfl)) pa_nil)) (fun _ _ => rfl)) (by rfl)))) pss_nil)
      (pss_cons (ps_if (pt_cmpR op_eq (pv 4) pe_str (nomark _)) (pss_one (ps_ret (pe_not (pe_call G_law_so hr_law_so (by rfl) G.m_law_so G.k_law_so G.b_law_so .nil pass0 (pa_cons (pv 0) (pa_cons (pe_ix ix_tup (pv 1) pe_int (fun _ _ => rfl)) (pa_cons (pv 2) (pa_cons (pv 3) pa_nil)))))))) pss_nil)
      (pss_cons (ps_if (pt_cmpR op_in_seq (pv 4) (pe_lst (pa_cons pe_str (pa_cons pe_str pa_nil))) (by rfl)) (pss_cons (ps_setLc (i := 5) (own := [("own", 9)]) rfl sc_law_so.nd rfl rfl (sw_true rfl rfl rfl (by decide +kernel)) (pi_tup (pe_slice sl_tup (pv 1) (po_some pe_int) po_none)) (blkOk_by (own := [("own", 9)]) (N := ["alphabet", "told", "text", "at", "word", "rows", "goal", "here", "turn", "own"]) (sc := defScope s_law_so) (by decide +kernel)) (fun _ _ _ _ _ => (pg_name (i := 9) sc_law_so.nd rfl (Or.inl rfl))) (fun _ _ _ _ _ => pts_nil) (fun _ _ _ _ _ => (pe_call G_law_so hr_law_so (by rfl) G.m_law_so G.k_law_so G.b_law_so .nil pass0 (pa_cons (pv 0) (pa_cons (pv 9) (pa_cons (pv 2) (pa_cons (pv 3) pa_nil)))))))
        (pss_one (ps_ret (pe_ix ix_list (pe_lst (pa_cons (pe_callB (cr_any rfl) (by rfl) G.n_any (by decide +kernel) (pa_cons (pv 5) pa_nil)) (pa_cons (pe_callB (cr_all rfl) (by rfl) G.n_all (by decide +kernel) (pa_cons (pv 5) pa_nil)) pa_nil))) (pe_callTy call_int1 (by rfl) G.n_int (by decide +kernel) (pa_cons (pe_cmpR op_eq (pv 4) pe_str (nomark _)) pa_nil)) (fun _ _ => rfl))))) pss_nil)
      (pss_cons (ps_if (pt_cmpR op_in_seq (pv 4) (pe_lst (pa_cons pe_str (pa_cons pe_str (pa_cons pe_str (pa_cons pe_str pa_nil))))) (by rfl)) (pss_cons (ps_set (i := 6) sc_law_so.nd rfl (Or.inl rfl) (pe_ix ix_list (pe_lst (pa_cons (pe_op op_add (pv 3) pe_int) (pa_cons (pe_call G_law_leap hr_law_leap (by rfl) G.m_law_leap G.k_law_leap G.b_law_leap .nil pass0 (pa_cons (pv 0) (pa_cons (pv 2) (pa_cons (pv 3) pa_nil)))) (pa_cons (pe_call G_law_around hr_law_around (by rfl) G.m_law_around G.k_law_around G.b_law_around .nil pass0 (pa_cons (pv 0) (pa_cons (pv 2) (pa_cons (pv 3) pa_nil)))) (pa_cons (pe_call G_law_partner hr_law_partner (by rfl) G.m_law_partner G.k_law_partner G.b_law_partner .nil pass0 (pa_cons (pv 0) (pa_cons (pv 2) (pa_cons (pv 3) pa_nil)))) pa_nil))))) (pe_bm PySem.F.plainAttrs_list PySem.F.slot_list_index PySem.F.type_list_index mt_index (pe_lst (pa_cons pe_str (pa_cons pe_str (pa_cons pe_str (pa_cons pe_str pa_nil))))) (pa_cons (pv 4) pa_nil)) (fun _ _ => rfl)))
        (pss_one (ps_ret (pe_call G_law_so hr_law_so (by rfl) G.m_law_so G.k_law_so G.b_law_so .nil pass0 (pa_cons (pv 0) (pa_cons (pe_ix ix_tup (pv 1) pe_int (fun _ _ => rfl)) (pa_cons (pv 2) (pa_cons (pv 6) pa_nil)))))))) pss_nil)
      (pss_cons (ps_set (i := 7) sc_law_so.nd rfl (Or.inl rfl) (pv 3))
      (pss_cons (ps_for PassesOwn.never rfl (pi_range1 (by rfl) G.n_range (pa_cons (pe_op op_add (pe_callB call_len (by rfl) G.n_len (by decide +kernel) (pa_cons (pv 2) pa_nil)) pe_int) pa_nil)) (pg_name (i := 8) sc_law_so.nd rfl (Or.inl rfl)) (pss_cons (ps_if (PW.pt (pw_or (pt_cmpR op_lt (pv 7) pe_int (nomark _)) (pw_or1 (pt_cmpR op_ge (pv 7) (pe_callB call_len (by rfl) G.n_len (by decide +kernel) (pa_cons (pv 2) pa_nil)) (nomark _))))) (pss_one (ps_ret pe_bl)) pss_nil)
        (pss_cons (ps_if (pt_val (pe_call G_law_so hr_law_so (by rfl) G.m_law_so G.k_law_so G.b_law_so .nil pass0 (pa_cons (pv 0) (pa_cons (pe_ix ix_tup (pv 1) pe_int (fun _ _ => rfl)) (pa_cons (pv 2) (pa_cons (pv 7) pa_nil)))))) (pss_one (ps_ret pe_bl)) pss_nil)
        (pss_cons (ps_if (pt_not (pt_val (pe_call G_law_so hr_law_so (by rfl) G.m_law_so G.k_law_so G.b_law_so .nil pass0 (pa_cons (pv 0) (pa_cons (pe_ix ix_tup (pv 1) pe_int (fun _ _ => rfl)) (pa_cons (pv 2) (pa_cons (pv 7) pa_nil))))))) (pss_one (ps_ret pe_bl)) pss_nil)
        (pss_one (ps_set (i := 7) sc_law_so.nd rfl (Or.inl rfl) (pe_ix ix_list (pe_lst (pa_cons (pe_op op_add (pv 7) pe_int) (pa_cons (pe_call G_law_leap hr_law_leap (by rfl) G.m_law_leap G.k_law_leap G.b_law_leap .nil pass0 (pa_cons (pv 0) (pa_cons (pv 2) (pa_cons (pv 7) pa_nil)))) pa_nil))) (pe_callTy call_int1 (by rfl) G.n_int (by decide +kernel) (pa_cons (pe_cmpR op_eq (pv 4) pe_str (nomark _)) pa_nil)) (fun _ _ => rfl))))))))
      (pss_one (ps_ret pe_bl))))))))))), ?_⟩
      obtain ⟨va, vt, al, t, z, p, rfl, hda, hdt, hz, hdis, hok, hwf, hdep, hres⟩ := h
      have an : ∀ {σ : L2.St} {H1 : Hp}, Ex H H1 → σ[0]? = some (some va) → EvD K (tVar 0) σ H1 al.d := fun x h => evd_var h (Dpx x hda)
      have tn : ∀ {σ : L2.St} {H1 : Hp}, Ex H H1 → σ[1]? = some (some vt) → EvD K (tVar 1) σ H1 t.d := fun x h => evd_var h (Dpx x hdt)
      have hlen := trL_len al z t
      have sub : ∀ {σ : L2.St} {H1 : Hp} {te tp : TE} {a : Sen} {q : Int}, Ex H H1 → σ[0]? = some (some va) → σ[2]? = some (some (.str z)) → EvD K te σ H1 a.d → Ev tp σ H1 (.int q) → a.wf → a.dep < n → Ev (tCall (spLS (K := K) n) [] E0 (tCons (tVar 0) (tCons te (tCons (tVar 2) (tCons tp tNil))))) σ H1 (.bl (soV (trL al z a) q)) := fun x h0 h2 ht hp hw hd =>
        evd_bool (K := K) (evd_call (ead_cons (an x h0) (ead_cons ht (ead_cons (ev_str (ev_var h2)) (ead_cons (ev_int hp) ead_nil)))) fun vs H2 e2 hv Q q => by
          cases hv with
          | cons g1 g2 =>
          cases g2 with
          | cons g2 g3 =>
          cases g3 with
          | cons g3 g4 =>
          cases g4 with
          | cons g4 g5 =>
          cases g5
          cases dp_str g3
          cases dp_int g4
          exact ⟨_, _, al, _, z, _, rfl, g1, g2, hz, hdis, hok, hw, hd, fun H' e => q _ H' e (.bl _)⟩)
      refine q_asgD (d := .str t.w) (evd_ixT (ds := .str t.w :: t.rest) (by rw [← d_rest]; exact tn (Ex.refl H) rfl) ev_c (at0 _ _)) fun vw H1 e1 hvw => ?_
      cases dp_str hvw
      refine q_when (b := decide (p < 0) || decide ((z.length : Int) ≤ p)) (et_or (et_test (ev_lt (ev_var rfl) ev_c)) fun _ => et_test (ev_ge (ev_var rfl) (ev_lenS (ev_var rfl) (by omega)))) (fun hb H2 e2 => ?_) fun hb H2 e2 => ?_
      · refine s_ret (v := .bl false) ev_c fun H3 e3 => ?_
        have h := hres H3 (e1.trans (e2.trans e3))
        rw [soV_out] at h
        · exact h
        · rw [hlen]
          simpa using hb
      have hp : 0 ≤ p ∧ p < (z.length : Int) := by
        simp at hb
        exact ⟨by omega, by omega⟩
      obtain ⟨i, rfl⟩ : ∃ i : Nat, p = i := ⟨p.toNat, by omega⟩
      have hi : i < z.length := by omega
      rw [soV_nat] at hres
      have e12 := e1.trans e2
      have wt : ∀ {σ : L2.St} {H : Hp} {x : Str} {b : Bool}, σ[4]? = some (some (.str t.w)) → decide (t.w = x) = b → EvT (tTest (tOp rEq (tVar 4) (tC (.str x)))) σ H b := fun h hb => et_is (et_test (ev_eq (ev_var h) ev_c)) (by rw [dstr, hb])
      have ch : ∀ {σ : L2.St} {H1 : Hp}, σ[2]? = some (some (.str z)) → σ[3]? = some (some (.int (i : Nat))) → Ev (tOp rIxS (tVar 2) (tVar 3)) σ H1 (.str ⟨#[at_ z i]⟩) := fun h1 h2 => ev_ixS (ev_var h1) (ev_var h2) (by omega) (atI_at hi)
      have inbe : ∀ {σ : L2.St} {H : Hp} {b : Bool}, σ[4]? = some (some (.str t.w)) → inV (.str t.w) [.str "both", .str "either"] = b → EvT (tTest (tOp (rIn K false) (tVar 4) (tLst (tCons (tC (.str "both")) (tCons (tC (.str "either")) tNil))))) σ H b := fun h hb =>
        hb ▸ et_test (ev_inL (ev_var h) (el_lst (ea_cons ev_c (ea_cons ev_c ea_nil)) (by decide)) rfl rfl)
      have in4 : ∀ {σ : L2.St} {H : Hp} {b : Bool}, σ[4]? = some (some (.str t.w)) → inV (.str t.w) [.str "next", .str "leap", .str "caller", .str "partner"] = b → EvT (tTest (tOp (rIn K false) (tVar 4) (tLst (tCons (tC (.str "next")) (tCons (tC (.str "leap")) (tCons (tC (.str "caller")) (tCons (tC (.str "partner")) tNil))))))) σ H b := fun h hb =>
        hb ▸ et_test (ev_inL (ev_var h) (el_lst (ea_cons ev_c (ea_cons ev_c (ea_cons ev_c (ea_cons ev_c ea_nil)))) (by decide)) rfl rfl)
      cases t with
      | sign c =>
        refine q_when (b := true) (wt rfl rfl) (fun _ H3 e3 => ?_) (fun h => by cases h)
        have e13 := e12.trans e3
        refine s_ret (v := .bl ((trL al z (.sign c)).getD i false)) (ev_is (ev_eq (ch rfl rfl) (evd_str (evd_ixT (tn e13 rfl) ev_c rfl))) ?_) fun H4 e4 => hres H4 (e13.trans e4)
        rw [dstr]
        congr 1
        show _ = (z.cps.toList.map fun x => decide (one x = one c)).getD i false
        rw [getD_map (a := 0) (by rw [Array.length_toList]; exact hi)]
        rfl
      | kind k0 =>
        refine q_when (b := false) (wt rfl (by show decide (Str.ofString "kind" = Str.ofString "sign") = false; decide +kernel)) (fun h => by cases h) fun _ H3 e3 => ?_
        refine q_when (b := true) (wt rfl rfl) (fun _ H4 e4 => ?_) (fun h => by cases h)
        have e14 := e12.trans (e3.trans e4)
        have hk : k0 < 3 := hwf
        have hv : (trL al z (.kind k0)).getD i false = decide (kindOf al (at_ z i) = kinds3.getD k0 "") := by
          show (z.cps.toList.map fun x => decide (kindOf al x = kinds3.getD k0 "")).getD i false = _
          rw [getD_map (a := 0) (by rw [Array.length_toList]; exact hi)]
          rfl
        rw [hv, kind_at hdis (at_has hok hi) k0 hk] at hres
        have three : ∀ {σ : L2.St} {H1 : Hp}, EvL (tLst (tCons (tC (.str "call")) (tCons (tC (.str "plain")) (tCons (tC (.str "return")) tNil)))) σ H1 [.str "call", .str "plain", .str "return"] := el_lst (ea_cons ev_c (ea_cons ev_c (ea_cons ev_c ea_nil))) (by decide)
        obtain ⟨j, zj, sj, hj1, hj2, hj3, hj4, hj5⟩ : ∃ (j : Nat) (zj : V) (sj : Str), ([.str "call", .str "plain", .str "return"] : List V)[j]? = some zj ∧ eqV zj (.str (kinds3.getD k0 "")) = true ∧ (∀ (m : Nat) (z' : V), m < j → ([.str "call", .str "plain", .str "return"] : List V)[m]? = some z' → eqV z' (.str (kinds3.getD k0 "")) = false) ∧
            atI [PyData.str al.a, .str al.b, .str al.c] (j : Nat) = some (.str sj) ∧ ∀ c, decide (c ∈ sj.cps.toList) = kindIn al c k0 := by
          clear hres hv
          match k0, hk with
          | 0, _ => exact ⟨0, _, al.a, rfl, by decide +kernel, fun m z' hm => absurd hm (by omega), rfl, fun _ => rfl⟩
          | 1, _ => exact ⟨1, _, al.b, rfl, by decide +kernel, fun m z' hm h => (by match m, hm, h with | 0, _, h => cases h; decide +kernel), rfl, fun _ => rfl⟩
          | 2, _ => exact ⟨2, _, al.c, rfl, by decide +kernel, fun m z' hm h => (by match m, hm, h with | 0, _, h => cases h; decide +kernel | 1, _, h => cases h; decide +kernel), rfl, fun _ => rfl⟩
        refine s_ret (v := .bl (kindIn al (at_ z i) k0)) (ev_is (ev_inS (s := sj) (ch rfl rfl) (evd_str (evd_ixT (an e14 rfl) (ev_index (K := K) three (evd_str (K := K) (evd_ixT (tn e14 rfl) ev_c rfl)) rfl rfl hj1 hj2 hj3) hj4))) (by rw [hj5])) fun H5 e5 => hres H5 (e14.trans e5)
      | un u a =>
        have hda1 : a.dep < n := by have : a.dep + 1 < n + 1 := hdep; omega
        have t1 : ∀ {σ : L2.St} {H1 : Hp}, Ex H H1 → σ[1]? = some (some vt) → EvD K (tOp (rIxT K) (tVar 1) (tC (.int 1))) σ H1 a.d := fun x h => evd_ixT (tn x h) ev_c rfl
        have n1 : decide (u.s = Str.ofString "sign") = false := by cases u <;> decide +kernel
        have n2 : decide (u.s = Str.ofString "kind") = false := by cases u <;> decide +kernel
        refine q_when (b := false) (wt rfl n1) (fun h => by cases h) fun _ H3 e3 => ?_
        refine q_when (b := false) (wt rfl n2) (fun h => by cases h) fun _ H4 e4 => ?_
        have e14 := e12.trans (e3.trans e4)
        by_cases hu : u = .not
        · subst hu
          refine q_when (b := true) (wt rfl rfl) (fun _ H5 e5 => ?_) (fun h => by cases h)
          have e15 := e14.trans e5
          refine s_ret (v := .bl ((trL al z (.un .not a)).getD i false)) (ev_is (ev_notV (sub e15 rfl rfl (t1 e15 rfl) (ev_var rfl) hwf hda1)) ?_) fun H6 e6 => hres H6 (e15.trans e6)
          rw [soV_nat]
          show V.bl (!(trL al z a).getD i false) = V.bl (((trL al z a).map (!·)).getD i false)
          rw [getD_map (a := false) (by rw [trL_len]; exact hi)]
        · have n3 : decide (u.s = Str.ofString "not") = false := by cases u <;> first | exact absurd rfl hu | decide +kernel
          have n4 : inV (.str u.s) [.str "both", .str "either"] = false := by cases u <;> decide +kernel
          have n5 : inV (.str u.s) [.str "next", .str "leap", .str "caller", .str "partner"] = true := by cases u <;> first | exact absurd rfl hu | decide +kernel
          refine q_when (b := false) (wt rfl n3) (fun h => by cases h) fun _ H5 e5 => ?_
          refine q_when (b := false) (inbe rfl n4) (fun h => by cases h) fun _ H6 e6 => ?_
          refine q_when (b := true) (in4 rfl n5) (fun _ H7 e7 => ?_) (fun h => by cases h)
          have e17 := e14.trans (e5.trans (e6.trans e7))
          rw [so_un hdis hok hi u hu a] at hres
          have c3 : ∀ {σ : L2.St} {val : Al → Str → Nat → Int}, σ[0]? = some (some va) → σ[2]? = some (some (.str z)) → σ[3]? = some (some (.int (i : Nat))) → EvD K (tCall (spL3 (K := K) val) [] E0 (tCons (tVar 0) (tCons (tVar 2) (tCons (tVar 3) tNil)))) σ H7 (.int (val al z i)) := fun h0 h2 h3 =>
            evd_call (ead_cons (an e17 h0) (ead_cons (ev_str (ev_var h2)) (ead_cons (ev_int (ev_var h3)) ead_nil))) fun vs H8 e8 hv Q q => by
              cases hv with
              | cons g1 g2 =>
              cases g2 with
              | cons g2 g3 =>
              cases g3 with
              | cons g3 g4 =>
              cases g4
              cases dp_str g2
              cases dp_int g3
              exact ⟨_, al, z, i, rfl, g1, hi, hz, hdis, hok, fun H' e => q _ H' e (.int _)⟩
          have cP : ∀ {σ : L2.St}, σ[0]? = some (some va) → σ[2]? = some (some (.str z)) → σ[3]? = some (some (.int (i : Nat))) → EvD K (tCall (spLP (K := K)) [] E0 (tCons (tVar 0) (tCons (tVar 2) (tCons (tVar 3) tNil)))) σ H7 (.int (lawP al z i)) := fun h0 h2 h3 =>
            evd_call (ead_cons (an e17 h0) (ead_cons (ev_str (ev_var h2)) (ead_cons (ev_int (ev_var h3)) ead_nil))) fun vs H8 e8 hv Q q => by
              cases hv with
              | cons g1 g2 =>
              cases g2 with
              | cons g2 g3 =>
              cases g3 with
              | cons g3 g4 =>
              cases g4
              cases dp_str g2
              cases dp_int g3
              exact ⟨_, al, z, i, rfl, g1, hi, hz, fun H' e => q _ H' e (.int _)⟩
          have four : ∀ {σ : L2.St} {H1 : Hp}, EvL (tLst (tCons (tC (.str "next")) (tCons (tC (.str "leap")) (tCons (tC (.str "caller")) (tCons (tC (.str "partner")) tNil))))) σ H1 [.str "next", .str "leap", .str "caller", .str "partner"] := el_lst (ea_cons ev_c (ea_cons ev_c (ea_cons ev_c (ea_cons ev_c ea_nil)))) (by decide)
          obtain ⟨j, zj, hj1, hj2, hj3, hj4⟩ : ∃ (j : Nat) (zj : V), ([.str "next", .str "leap", .str "caller", .str "partner"] : List V)[j]? = some zj ∧ eqV zj (.str u.s) = true ∧ (∀ (m : Nat) (z' : V), m < j → ([.str "next", .str "leap", .str "caller", .str "partner"] : List V)[m]? = some z' → eqV z' (.str u.s) = false) ∧
              atI [PyData.int ((i : Int) + 1), .int (behindM al z i), .int (lawC al z i), .int (lawP al z i)] (j : Nat) = some (.int (goalM al z i u)) := by
            cases u with
            | not => exact absurd rfl hu
            | next => exact ⟨0, _, rfl, by decide +kernel, fun m z' hm => absurd hm (by omega), rfl⟩
            | leap => exact ⟨1, _, rfl, by decide +kernel, fun m z' hm h => (by match m, hm, h with | 0, _, h => cases h; decide +kernel), rfl⟩
            | caller => exact ⟨2, _, rfl, by decide +kernel, fun m z' hm h => (by match m, hm, h with | 0, _, h => cases h; decide +kernel | 1, _, h => cases h; decide +kernel), rfl⟩
            | partner => exact ⟨3, _, rfl, by decide +kernel, fun m z' hm h => (by match m, hm, h with | 0, _, h => cases h; decide +kernel | 1, _, h => cases h; decide +kernel | 2, _, h => cases h; decide +kernel), rfl⟩
          refine q_asgD (d := .int (goalM al z i u)) (evd_ixL (EvN.dp (evn_lst (ead_cons (ev_int (ev_add (ev_var rfl) ev_c)) (ead_cons (c3 rfl rfl rfl) (ead_cons (c3 rfl rfl rfl) (ead_cons (cP rfl rfl rfl) ead_nil)))) (by show 4 ≤ 100000; decide))) (ev_index (K := K) four (ev_var rfl) rfl rfl hj1 hj2 hj3) hj4) fun vg H8 e8 hvg => ?_
          cases dp_int hvg
          have e18 := e17.trans e8
          exact s_ret (v := .bl (soV (trL al z a) (goalM al z i u))) (sub e18 rfl rfl (t1 e18 rfl) (ev_var rfl) hwf hda1) fun H9 e9 => hres H9 (e18.trans e9)
      | bi u a b =>
        have hd2 : max a.dep b.dep + 1 < n + 1 := hdep
        have t1 : ∀ {σ : L2.St} {H1 : Hp}, Ex H H1 → σ[1]? = some (some vt) → EvD K (tOp (rIxT K) (tVar 1) (tC (.int 1))) σ H1 a.d := fun x h => evd_ixT (tn x h) ev_c rfl
        have t2 : ∀ {σ : L2.St} {H1 : Hp}, Ex H H1 → σ[1]? = some (some vt) → EvD K (tOp (rIxT K) (tVar 1) (tC (.int 2))) σ H1 b.d := fun x h => evd_ixT (tn x h) ev_c rfl
        have n1 : decide (u.s = Str.ofString "sign") = false := by cases u <;> decide +kernel
        have n2 : decide (u.s = Str.ofString "kind") = false := by cases u <;> decide +kernel
        have n3 : decide (u.s = Str.ofString "not") = false := by cases u <;> decide +kernel
        refine q_when (b := false) (wt rfl n1) (fun h => by cases h) fun _ H3 e3 => ?_
        refine q_when (b := false) (wt rfl n2) (fun h => by cases h) fun _ H4 e4 => ?_
        refine q_when (b := false) (wt rfl n3) (fun h => by cases h) fun _ H5 e5 => ?_
        have e15 := e12.trans (e3.trans (e4.trans e5))
        have both : (u = .both ∨ u = .either) → ∀ H6, Ex H5 H6 → ∀ (D : Ends), D.rt = Q → (tSeq (tAsg (tLc (iTup K (tSl (rSlT K) (tVar 1) (tPart (tC (.int 1))) tNoPart)) (gName 9) tYes (tCall (spLS (K := K) n) [] E0 (tCons (tVar 0) (tCons (tVar 9) (tCons (tVar 2) (tCons (tVar 3) tNil))))) [9]) (gName 5)) (tRet (tOp (rIxL K) (tLst (tCons (tCB (rAny K) (tCons (tVar 5) tNil)) (tCons (tCB (rAll K) (tCons (tVar 5) tNil)) tNil))) (tCB (fun xs H Q => (∃ i, xs = [.int i] ∧ Q (.int i) H) ∨ ∃ k, xs = [.bl k] ∧ Q (.int (if k then 1 else 0)) H) (tCons (tOp rEq (tVar 4) (tC (.str "both"))) tNil))))) D [some va, some vt, some (.str z), some (.int (i : Nat)), some (.str u.s), none, none, none, none, none] H6 := by
          intro hbe H6 e6 D hD
          have e16 := e15.trans e6
          have hsl := evd_slT (K := K) (lo := some 1) (hi := none) (ds := [.str u.s, a.d, b.d]) (tn (σ := [some va, some vt, some (.str z), some (.int (i : Nat)), some (.str u.s), none, none, none, none, none]) e16 rfl) (eo_some ev_c) eo_none (rest_ne (x := .str u.s) (l := [a.d, b.d]) (by simp))
          rw [show (([PyData.str u.s, a.d, b.d].drop (HT.sIx [PyData.str u.s, a.d, b.d].length 0 (some 1))).take (HT.sIx [PyData.str u.s, a.d, b.d].length [PyData.str u.s, a.d, b.d].length none - HT.sIx [PyData.str u.s, a.d, b.d].length 0 (some 1))) = [a.d, b.d] from rest_eq (x := .str u.s) (l := [a.d, b.d]) (by simp)] at hsl
          refine q_asgD (K := K) (d := .list ([(trL al z a).getD i false, (trL al z b).getD i false].map .bool)) (EvN.dp (evn_lcD (evw_tup hsl) rfl (by simp) rfl (fun _ => rfl) fun j x d H7 e7 hd7 y => ?_)) fun vr H7 e7 hvr => ?_
          · have e17 := e16.trans e7
            obtain ⟨d0, hd0, hx0⟩ := y
            match j, hd7, hd0 with
            | 0, hd7, hd0 =>
              cases hd7
              cases hd0
              exact ev_bool (ev_is (sub e17 rfl rfl (evd_var rfl hx0) (ev_var rfl) hwf.1 (by omega)) (by rw [soV_nat]))
            | 1, hd7, hd0 =>
              cases hd7
              cases hd0
              exact ev_bool (ev_is (sub e17 rfl rfl (evd_var rfl hx0) (ev_var rfl) hwf.2 (by omega)) (by rw [soV_nat]))
            | j + 2, hd7, _ => simp at hd7
          · have e17 := e16.trans e7
            have rn : ∀ {σ : L2.St}, σ[5]? = some (some vr) → EvD K (tVar 5) σ H7 (.list ([(trL al z a).getD i false, (trL al z b).getD i false].map .bool)) := fun h => evd_var h hvr
            refine s_retD (K := K) (d := .bool ((trL al z (.bi u a b)).getD i false)) ?_ fun v H8 e8 hv => ?_
            · have hpk := evd_pick (K := K) (σ := [some va, some vt, some (.str z), some (.int (i : Nat)), some (.str u.s), some vr, none, none, none, none]) (H := H7) (b := decide (u.s = Str.ofString "both")) (tb := tOp rEq (tVar 4) (tC (.str "both"))) (ead_cons (ev_bool (ev_any (K := K) (rn rfl))) (ead_cons (ev_bool (ev_all (K := K) (rn rfl))) ead_nil)) (ev_is (ev_eq (ev_var rfl) ev_c) (by rw [dstr]))
              have hval : (if decide (u.s = Str.ofString "both") = true then PyData.bool ([(trL al z a).getD i false, (trL al z b).getD i false].all id) else .bool ([(trL al z a).getD i false, (trL al z b).getD i false].any id)) = .bool ((trL al z (.bi u a b)).getD i false) := by
                rcases hbe with rfl | rfl
                · rw [if_pos (by decide +kernel)]
                  show _ = PyData.bool (((List.range z.length).map fun i => (trL al z a).getD i false && (trL al z b).getD i false).getD i false)
                  rw [getD_range hi]
                  simp
                · rw [if_neg (by decide +kernel)]
                  show _ = PyData.bool (((List.range z.length).map fun i => (trL al z a).getD i false || (trL al z b).getD i false).getD i false)
                  rw [getD_range hi]
                  simp
              rw [hval] at hpk
              exact hpk
            · cases dp_bool hv
              rw [hD]
              exact hres H8 (e17.trans e8)
        by_cases hbe : u = .both ∨ u = .either
        · have n4 : inV (.str u.s) [.str "both", .str "either"] = true := by rcases hbe with rfl | rfl <;> decide +kernel
          exact q_when (b := true) (inbe rfl n4) (fun _ H6 e6 => both hbe H6 e6 _ rfl) (fun h => by cases h)
        · obtain ⟨plain, hpl, htr, n4, n5⟩ : ∃ plain : Bool, decide (u.s = Str.ofString "leapuntil") = !plain ∧ trL al z (.bi u a b) = untilL al z plain (trL al z a) (trL al z b) ∧ inV (.str u.s) [.str "both", .str "either"] = false ∧ inV (.str u.s) [.str "next", .str "leap", .str "caller", .str "partner"] = false := by
            clear hres tn wt inbe in4 both hdt hwf hdep hlen n1 n2 n3 t1 t2 hd2
            cases u with
            | both => exact absurd (.inl rfl) hbe
            | either => exact absurd (.inr rfl) hbe
            | «until» => exact ⟨true, by decide +kernel, rfl, by decide +kernel, by decide +kernel⟩
            | leapuntil => exact ⟨false, by decide +kernel, rfl, by decide +kernel, by decide +kernel⟩
          refine q_when (b := false) (inbe rfl n4) (fun h => by cases h) fun _ H6 e6 => ?_
          refine q_when (b := false) (in4 rfl n5) (fun h => by cases h) fun _ H7 e7 => ?_
          have e17 := e15.trans (e6.trans e7)
          refine q_asg (v := .int (i : Nat)) (ev_var rfl) fun H8 e8 => ?_
          have e18 := e17.trans e8
          rw [htr] at hres
          rw [← soV_nat] at hres
          have hul : (untilL al z plain (trL al z a) (trL al z b)).length = z.length := by unfold untilL; simp
          refine q_forS (evs_range1 (n := ((z.length : Nat) : Int) + 1) (ea_cons (ev_add (ev_lenS (ev_var rfl) (by omega)) ev_c) ea_nil) (by omega)) (fun H2 j σ' H' => Ex H H' ∧ ∃ (here : Int) (x : Option V), σ' = [some va, some vt, some (.str z), some (.int (i : Nat)), some (.str u.s), none, none, some (.int here), x, none] ∧ ((0 ≤ here ∧ here < (z.length : Int)) → (j : Int) ≤ here) ∧ soV (untilL al z plain (trL al z a) (trL al z b)) here = soV (untilL al z plain (trL al z a) (trL al z b)) (i : Nat))
            (fun H2 e2 => ⟨e18.trans e2, _, none, rfl, fun _ => by omega, rfl⟩) (fun _ _ _ _ _ _ _ => trivial) (fun H2 j x σ' H' H4 e2 hj p e4 y => ?_) fun H2 σ' H' e2 p => ?_
          · obtain ⟨p1, here, x0, rfl, p2, p3⟩ := p
            have p1' := p1.trans e4
            rw [← p3] at hres
            refine q_when (b := decide (here < 0) || decide ((z.length : Int) ≤ here)) (et_or (et_test (ev_lt (ev_var rfl) ev_c)) fun _ => et_test (ev_ge (ev_var rfl) (ev_lenS (ev_var rfl) (by omega)))) (fun hb H5 e5 => ?_) fun hb H5 e5 => ?_
            · refine s_ret (v := .bl false) ev_c fun H6 e6 => ?_
              have h := hres H6 (p1'.trans (e5.trans e6))
              rw [soV_out] at h
              · exact h
              · rw [hul]
                simpa using hb
            have hp : 0 ≤ here ∧ here < (z.length : Int) := by
              simp at hb
              exact ⟨by omega, by omega⟩
            have hjh := p2 hp
            obtain ⟨h, rfl⟩ : ∃ h : Nat, here = h := ⟨here.toNat, by omega⟩
            have hh : h < z.length := by omega
            have q5 := p1'.trans e5
            have hst := untilU_step (al := al) (plain := plain) (one := trL al z a) (two := trL al z b) hh
            have huv : soV (untilL al z plain (trL al z a) (trL al z b)) (h : Int) = untilU al z plain (trL al z a) (trL al z b) h := by
              rw [soV_nat]
              exact getD_range hh
            refine q_when (b := (trL al z b).getD h false) (et_is (et_B (sub q5 rfl rfl (t2 q5 rfl) (ev_var rfl) hwf.2 (by omega))) (soV_nat _ _)) (fun hb2 H6 e6 => ?_) fun hb2 H6 e6 => ?_
            · refine s_ret (v := .bl true) ev_c fun H7 e7 => ?_
              have h9 := hres H7 (q5.trans (e6.trans e7))
              rw [huv, hst, hb2, Bool.true_or] at h9
              exact h9
            have q6 := q5.trans e6
            refine q_when (b := !(trL al z a).getD h false) (et_is (et_not (et_B (sub q6 rfl rfl (t1 q6 rfl) (ev_var rfl) hwf.1 (by omega)))) (by rw [soV_nat])) (fun hb3 H7 e7 => ?_) fun hb3 H7 e7 => ?_
            · refine s_ret (v := .bl false) ev_c fun H8 e8 => ?_
              have h9 := hres H8 (q6.trans (e7.trans e8))
              have hb3' : (trL al z a).getD h false = false := by simpa using hb3
              rw [huv, hst, hb2, hb3', Bool.false_or, Bool.false_and] at h9
              exact h9
            have q7 := q6.trans e7
            have hb3' : (trL al z a).getD h false = true := by simpa using hb3
            have hgo := until_go (al := al) (plain := plain) hh hb3' hb2
            have hcl : ∀ {σ : L2.St}, σ[0]? = some (some va) → σ[2]? = some (some (.str z)) → σ[7]? = some (some (.int (h : Nat))) → EvD K (tCall (spL3 (K := K) behindM) [] E0 (tCons (tVar 0) (tCons (tVar 2) (tCons (tVar 7) tNil)))) σ H7 (.int (behindM al z h)) := fun h0 h2 h3 =>
              evd_call (ead_cons (an q7 h0) (ead_cons (ev_str (ev_var h2)) (ead_cons (ev_int (ev_var h3)) ead_nil))) fun vs H8 e8 hv Q q => by
                cases hv with
                | cons g1 g2 =>
                cases g2 with
                | cons g2 g3 =>
                cases g3 with
                | cons g3 g4 =>
                cases g4
                cases dp_str g2
                cases dp_int g3
                exact ⟨_, al, z, h, rfl, g1, hh, hz, hdis, hok, fun H' e => q _ H' e (.int _)⟩
            refine s_asgD (K := K) (d := .int (if plain = true then (h : Int) + 1 else behindM al z h)) ?_ fun vh H8 e8 hvh => ?_
            · have hpk := evd_pick (K := K) (σ := [some va, some vt, some (.str z), some (.int (i : Nat)), some (.str u.s), none, none, some (.int (h : Nat)), some x, none]) (H := H7) (b := decide (u.s = Str.ofString "leapuntil")) (tb := tOp rEq (tVar 4) (tC (.str "leapuntil"))) (ead_cons (ev_int (ev_add (ev_var (i := 7) rfl) (ev_c (v := .int 1)))) (ead_cons (hcl rfl rfl rfl) ead_nil)) (ev_is (ev_eq (ev_var rfl) ev_c) (by rw [dstr]))
              rw [hpl] at hpk
              have : (if (!plain) = true then PyData.int (behindM al z h) else .int ((h : Int) + 1)) = .int (if plain = true then (h : Int) + 1 else behindM al z h) := by cases plain <;> rfl
              rw [this] at hpk
              exact hpk
            · cases dp_int hvh
              refine ⟨q7.trans e8, _, _, rfl, fun hr2 => ?_, by rw [← hgo, p3]⟩
              cases plain with
              | true =>
                rw [if_pos rfl]
                omega
              | false =>
                rw [if_neg (by decide)] at hr2 ⊢
                rcases behind_fwd (al := al) hh with e | ⟨m, e, hm, hmn⟩
                · rw [e] at hr2; omega
                · rw [e]; omega
          · obtain ⟨p1, here, x0, rfl, p2, p3⟩ := p
            refine s_ret (v := .bl false) ev_c fun H6 e6 => ?_
            have h := hres H6 (p1.trans e6)
            rw [← p3, soV_out] at h
            · exact h
            · rw [hul]
              by_cases h0 : here < 0
              · exact .inl h0
              · right
                by_cases h1 : (z.length : Int) ≤ here
                · exact h1
                · have := p2 ⟨by omega, by omega⟩
                  omega
end
end K38
namespace KR
open PySem PySem.Spec PyProof.Rows L2 Evl KD
/-- where the state stands: its own list, the list of numbers; all stays but the first -/
def ExS (a : Addr × Addr) (H H' : Hp) : Prop := ∀ x o, x ≠ a.1 → H x = some o → H' x = some o
theorem ExS.refl (a : Addr × Addr) (H : Hp) : ExS a H H := fun _ _ _ h => h
theorem ExS.trans {a : Addr × Addr} {H H1 H2 : Hp} (h : ExS a H H1) (g : ExS a H1 H2) : ExS a H H2 := fun x o n e => g x o n (h x o n e)
theorem ExS.of {a : Addr × Addr} {H H1 : Hp} (h : Ex H H1) : ExS a H H1 := fun x o _ e => h x o e
/-- the list of numbers, and how many were taken, at most b -/
def StA (a : Addr × Addr) (b : Nat) (H : Hp) : Prop := ∃ (k : Int) (ns : List Int), H a.1 = some (.lst [.ref a.2, .int k]) ∧ H a.2 = some (.lst (ns.map V.int)) ∧ a.2 ≠ a.1 ∧ 0 < ns.length ∧ ns.length ≤ 100000 ∧ 0 ≤ k ∧ k ≤ b
theorem StA.mono {a : Addr × Addr} {b : Nat} {H H1 : Hp} (h : StA a b H) (e : Ex H H1) : StA a b H1 := by
  obtain ⟨k, ns, h1, h2, r⟩ := h
  exact ⟨k, ns, e _ _ h1, e _ _ h2, r⟩
theorem StA.le {a : Addr × Addr} {b c : Nat} {H : Hp} (h : StA a b H) (e : b ≤ c) : StA a c H := by
  obtain ⟨k, ns, h1, h2, h3, h4, h5, h6, h7⟩ := h
  exact ⟨k, ns, h1, h2, h3, h4, h5, h6, by omega⟩
theorem StA.has {a : Addr × Addr} {b : Nat} {H : Hp} (h : StA a b H) : ∃ xs, H a.1 = some (.lst xs) := by
  obtain ⟨k, ns, h1, _⟩ := h
  exact ⟨_, h1⟩
theorem ExS.tups {K : PySem.W.Frag} {a : Addr × Addr} {H H' : Hp} {b : Nat} (h : ExS a H H') (s : StA a b H) : Tups K H H' := fun x ys q => by
  obtain ⟨xs, hx⟩ := s.has
  have ne : ∀ o, H x = some o → (∀ ys, o ≠ .lst ys) → x ≠ a.1 := fun o e n z => by
    rw [z, hx] at e
    cases e
    exact n _ rfl
  rcases q with (q | ⟨ob, q⟩) | q
  · exact .inl (.inl (h x _ (ne _ q fun _ z => by cases z) q))
  · exact .inl (.inr ⟨ob, h x _ (ne _ q fun _ z => by cases z) q⟩)
  · exact .inr q
theorem ExS.fresh {a : Addr × Addr} {H H' : Hp} {b : Nat} {p : Addr} (h : ExS a H H') (s' : StA a b H') (n : H' p = none) : H p = none := by
  cases e : H p with
  | none => rfl
  | some o =>
    by_cases hp : p = a.1
    · obtain ⟨xs, hx⟩ := s'.has
      rw [hp, hx] at n
      cases n
    · rw [h p o hp e] at n
      cases n
theorem ExS.mut {a : Addr × Addr} {H H' : Hp} {p : Addr} {o : HO} (e : ExS a H H') (h : H p = none) : ExS a H (upd H' p o) := fun x u n hx => by
  rw [upd_ne (fun z => by rw [z, h] at hx; cases hx)]
  exact e x u n hx
/-- p is no part of the state -/
def Off (a : Addr × Addr) (p : Addr) : Prop := p ≠ a.1 ∧ p ≠ a.2
theorem StA.off {a : Addr × Addr} {b : Nat} {H : Hp} {p : Addr} (s : StA a b H) (n : H p = none) : Off a p := by
  obtain ⟨k, ns, h1, h2, _⟩ := s
  exact ⟨fun z => (by rw [z, h1] at n; cases n), fun z => (by rw [z, h2] at n; cases n)⟩
theorem StA.upd {a : Addr × Addr} {b : Nat} {H : Hp} {p : Addr} {o : HO} (s : StA a b H) (h : Off a p) : StA a b (upd H p o) := by
  obtain ⟨k, ns, h1, h2, h3⟩ := s
  exact ⟨k, ns, by rw [upd_ne fun z => h.1 z.symm]; exact h1, by rw [upd_ne fun z => h.2 z.symm]; exact h2, h3⟩
section
variable {σ : L2.St} {H : Hp} {ta tb te : TE} {tr : TA} {r : R2} {Q : VK} {K : PySem.W.Frag}
theorem op_of (h : ta σ H fun x H1 => tb σ H1 fun y H2 => r x y H2 Q) : tOp r ta tb σ H Q := h
theorem cons_of {Q : List V → Hp → Prop} (h : te σ H fun x H1 => tr σ H1 fun xs H2 => Q (x :: xs) H2) : tCons te tr σ H Q := h
theorem nil_of {Q : List V → Hp → Prop} (h : Q [] H) : tNil σ H Q := h
theorem c_of {v : V} (h : Q v H) : tC v σ H Q := h
theorem lst_of (h : tr σ H fun vs H1 => vs.length ≤ sizeLine ∧ ∀ p, H1 p = none → Q (.ref p) (upd H1 p (.lst vs))) : tLst tr σ H Q := h
theorem tup_of (h : tr σ H fun vs H1 => vs.length ≤ sizeLine ∧ ∀ p, H1 p = none → Q (.ref p) (upd H1 p (.tup vs))) : tTup tr σ H Q := h
end
end KR
namespace K38
open PySem PySem.Spec PyProof.Rows L2 Evl KD KR RZ
section
variable {P : Program} {w : World} {K : PySem.W.Frag} {mg : Str → Option Value} {base : Heap}
def spNx : Sp := fun vs H Q E => ∃ (a : Addr × Addr) (m : Int) (b : Nat), vs = [.ref a.1, .int m] ∧ StA a b H ∧ 0 < m ∧ b ≤ 1000000 ∧ ∀ r H', 0 ≤ r → r < m → ExS a H H' → StA a (b + 1) H' → Q (.int r) H'
theorem ok_law_next (G : Pg K mg) {k : Nat} : FnOk P w K mg base CX0 (k + 1) G.f_law_next G.fd_law_next ["state", "many"] spNx := by
  refine Fun.ok G.F_law_next sc_law_next (fun vs H Q E h => ?_) (fun cdv A outer s H vs Q E hr h => ?_)
  · obtain ⟨a, m, b, rfl, _⟩ := h
    rfl
  · refine ⟨_, (pss_cons (ps_asg (pe_op op_add (pe_ix ix_list (pv 0) pe_int (fun _ _ => rfl)) pe_int) (pg_sub (pv 0) pe_int set_list))
      (pss_cons (ps_set (i := 2) sc_law_next.nd rfl (Or.inl rfl) (pe_op op_fdiv (pe_ix ix_list (pv 0) pe_int (fun _ _ => rfl)) (pe_callB call_len (by rfl) G.n_len (by decide +kernel) (pa_cons (pe_ix ix_list (pv 0) pe_int (fun _ _ => rfl)) pa_nil))))
      (pss_one (ps_ret (pe_op op_mod (pe_callTy call_int1 (by rfl) G.n_int (by decide +kernel) (pa_cons (pe_op op_add (pe_op op_add (pe_ix ix_list (pe_ix ix_list (pv 0) pe_int (fun _ _ => rfl)) (pe_op op_mod (pe_ix ix_list (pv 0) pe_int (fun _ _ => rfl)) (pe_callB call_len (by rfl) G.n_len (by decide +kernel) (pa_cons (pe_ix ix_list (pv 0) pe_int (fun _ _ => rfl)) pa_nil))) (fun _ _ => rfl)) (pe_op op_mul (pv 2) pe_int)) (pe_op op_mul (pe_op op_mul (pe_ix ix_list (pv 0) pe_int (fun _ _ => rfl)) (pv 2)) pe_int)) pa_nil)) (pv 1)))))), ?_⟩
    obtain ⟨a, m, b, rfl, hst, hm, hb, hres⟩ := h
    obtain ⟨a, p⟩ := a
    obtain ⟨k, ns, h1, h2, hpa, hn0, hnl, hk0, hkb⟩ := hst
    simp only at h1 h2 hpa
    have dst : ∀ {σ : L2.St} {H1 : Hp} {k : Int}, σ[0]? = some (some (.ref a)) → H1 a = some (.lst [.ref p, .int k]) → H1 p = some (.lst (ns.map V.int)) → EvD K (tVar 0) σ H1 (.list [.list (ns.map .int), .int k]) := fun h g1 g2 => evd_var h (.lst (sq_of g1) (.cons (.lst (sq_of g2) (dpAll_ints ns)) (.cons (.int _) .nil)))
    refine s_setL (D := { nx := _, rt := Q }) (j := 1) h1 (v := .int (k + 1)) (ev_add (evd_int (evd_ixL (dst rfl h1 h2) ev_c rfl)) ev_c) (ev_var rfl) ev_c (by show 1 < 2; decide) fun H1 e1 => ?_
    generalize hH2 : upd H1 a (.lst ([V.ref p, V.int k].set 1 (.int (k + 1)))) = H2
    have x2 : ExS (a, p) H H2 := fun x o n e => by rw [← hH2, upd_ne n]; exact e1 x o e
    have a2 : H2 a = some (.lst [.ref p, .int (k + 1)]) := by rw [← hH2, upd_same]; rfl
    have p2 : H2 p = some (.lst (ns.map V.int)) := x2 p _ hpa h2
    have ln : ∀ {σ : L2.St} {H3 : Hp}, Ex H2 H3 → σ[0]? = some (some (.ref a)) → Ev (tCB (fun xs H Q => ∃ x n, xs = [x] ∧ LenV K x H n ∧ Q (.int n) H) (tCons (tOp (rIxL K) (tVar 0) (tC (.int 0))) tNil)) σ H3 (.int (ns.length : Nat)) := fun e h => by
      have := ev_lenL (K := K) (evd_ixL (dst h (e _ _ a2) (e _ _ p2)) (ev_c (v := .int 0)) rfl)
      rwa [List.length_map] at this
    have s1 : ∀ {σ : L2.St} {H3 : Hp}, Ex H2 H3 → σ[0]? = some (some (.ref a)) → Ev (tOp (rIxL K) (tVar 0) (tC (.int 1))) σ H3 (.int (k + 1)) := fun e h => evd_int (evd_ixL (dst h (e _ _ a2) (e _ _ p2)) ev_c rfl)
    refine q_asg (v := .int ((k + 1) / (ns.length : Nat))) (ev_fdiv (s1 (Ex.refl _) rfl) (ln (Ex.refl _) rfl) ⟨by omega, by omega⟩) fun H3 e3 => ?_
    have hq0 : 0 ≤ (k + 1) / (ns.length : Nat) := Int.ediv_nonneg (by omega) (by omega)
    have hq1 : (k + 1) / (ns.length : Nat) ≤ k + 1 := Int.ediv_le_self _ (by omega)
    obtain ⟨j, hj⟩ : ∃ j : Nat, (k + 1) % (ns.length : Nat) = j := ⟨((k + 1) % (ns.length : Nat)).toNat, by have := Int.emod_nonneg (k + 1) (b := (ns.length : Nat)) (by omega); omega⟩
    have hjl : j < ns.length := by
      have := Int.emod_lt_of_pos (k + 1) (b := (ns.length : Nat)) (by omega)
      omega
    refine s_ret (v := .int ((ns.getD j 0 + (k + 1) / (ns.length : Nat) * 389 + (k + 1) * ((k + 1) / (ns.length : Nat)) * 17) % m)) (ev_mod (ev_inti (ev_add (ev_add (evd_int (K := K) (evd_ixL (ds := ns.map .int) (evd_ixL (dst rfl (e3 _ _ a2) (e3 _ _ p2)) ev_c rfl) (ev_is (ev_mod (s1 e3 rfl) (ln e3 rfl) (by omega)) (by rw [hj])) (atI_nat (by rw [List.getElem?_map, getD_some (x := 0) hjl]; rfl)))) (ev_mul (ev_var rfl) ev_c (.inr ⟨by decide, by decide⟩))) (ev_mul (ev_mul (s1 e3 rfl) (ev_var rfl) (.inl ⟨by omega, by omega⟩)) ev_c (.inr ⟨by decide, by decide⟩)))) (ev_var rfl) hm) fun H4 e4 => ?_
    refine hres _ H4 (Int.emod_nonneg _ (by omega)) (Int.emod_lt_of_pos _ hm) (x2.trans (ExS.of (e3.trans e4))) ⟨k + 1, ns, (e3.trans e4) _ _ a2, (e3.trans e4) _ _ p2, hpa, hn0, hnl, by omega, by omega⟩
theorem use_next {a : Addr × Addr} {b : Nat} {i : Nat} {m : Int} {tm : TE} {σ : L2.St} {H : Hp} {Q : VK} (hst : StA a b H) (hb : b ≤ 1000000) (h0 : σ[i]? = some (some (.ref a.1))) (hm : Ev tm σ H (.int m)) (pos : 0 < m) (k : ∀ r H2, 0 ≤ r → r < m → ExS a H H2 → StA a (b + 1) H2 → Q (.int r) H2) :
    tCall spNx [] E0 (tCons (tVar i) (tCons tm tNil)) σ H Q :=
  ⟨.ref a.1, h0, hm H (Ex.refl H) _ fun H1 e1 => ⟨a, m, b, rfl, hst.mono e1, pos, hb, fun r H2 h1 h2 x s => k r H2 h1 h2 ((ExS.of e1).trans x) s⟩⟩
end
end K38
namespace KR
open PySem PySem.Spec PyProof.Rows L2 Evl KD
end KR
namespace K38
open PySem PySem.Spec PyProof.Rows L2 Evl KD KR RZ
structure GA (al : Al) : Prop where
  nd : al.all.cps.toList.Nodup
  rg : ∀ c ∈ al.all.cps.toList, 97 ≤ c ∧ c ≤ 102
  ra : riseN al.a.cps.toList = true
  rb : riseN al.b.cps.toList = true
  rc : riseN al.c.cps.toList = true
  ne : al.all.cps.toList ≠ []
def abc6 : List Nat := [97, 98, 99, 100, 101, 102]
theorem nodup_len_le : ∀ {l m : List Nat}, l.Nodup → (∀ x ∈ l, x ∈ m) → l.length ≤ m.length
  | [], m, _, _ => Nat.zero_le _
  | x :: l, m, h, hs => by
    obtain ⟨hx, hl⟩ := List.nodup_cons.mp h
    have hm := hs x List.mem_cons_self
    have := nodup_len_le (l := l) (m := m.erase x) hl fun y hy => (List.mem_erase_of_ne (fun e : y = x => hx (by rw [← e]; exact hy))).mpr (hs y (List.mem_cons_of_mem _ hy))
    rw [List.length_erase_of_mem hm] at this
    have : 0 < m.length := List.length_pos_of_mem hm
    rw [List.length_cons]
    omega
theorem nodup_le6 {l : List Nat} (h : l.Nodup) (r : ∀ c ∈ l, 97 ≤ c ∧ c ≤ 102) : l.length ≤ 6 := by
  exact nodup_len_le (m := abc6) h fun c hc => by
    have := r c hc
    show c ∈ ([97, 98, 99, 100, 101, 102] : List Nat)
    simp
    omega
theorem GA.len {al : Al} (h : GA al) : al.all.length ≤ 6 := by
  have := nodup_le6 h.nd h.rg
  rw [Array.length_toList] at this
  exact this
theorem GA.len1 {al : Al} (h : GA al) : 1 ≤ al.all.length := by
  have := List.length_pos_iff.mpr h.ne
  rw [Array.length_toList] at this
  exact this
theorem GA.mem {al : Al} (h : GA al) {c : Nat} (hc : c ∈ al.a.cps.toList ∨ c ∈ al.b.cps.toList ∨ c ∈ al.c.cps.toList) : c ∈ al.all.cps.toList := by
  rw [all_cps, List.mem_append, List.mem_append]
  rcases hc with hc | hc | hc
  · exact .inl (.inl hc)
  · exact .inl (.inr hc)
  · exact .inr hc
theorem GA.dis {al : Al} (h : GA al) : al.dis := fun c => by
  have hn := h.nd
  rw [all_cps] at hn
  obtain ⟨h1, h2, h3⟩ := List.nodup_append.mp hn
  obtain ⟨h4, h5, h6⟩ := List.nodup_append.mp h1
  refine ⟨fun ⟨p, q⟩ => ?_, fun ⟨p, q⟩ => ?_, fun ⟨p, q⟩ => ?_⟩
  · exact h3 c (List.mem_append_left _ (of_decide_eq_true p)) c (of_decide_eq_true q) rfl
  · exact h6 c (of_decide_eq_true p) c (of_decide_eq_true q) rfl
  · exact h3 c (List.mem_append_right _ (of_decide_eq_true p)) c (of_decide_eq_true q) rfl
theorem GA.short {al : Al} (h : GA al) : al.short := fun s hs => by
  have hl : al.all.cps.toList.length ≤ 6 := nodup_le6 h.nd h.rg
  rw [all_cps, List.length_append, List.length_append] at hl
  have hm : ∀ c ∈ s.cps.toList, c ∈ al.all.cps.toList := fun c hc => by
    refine h.mem ?_
    simp at hs
    rcases hs with rfl | rfl | rfl
    · exact .inl hc
    · exact .inr (.inl hc)
    · exact .inr (.inr hc)
  refine ⟨?_, fun c hc => by have := h.rg c (hm c hc); omega⟩
  have e : s.length = s.cps.toList.length := by rw [Array.length_toList]; rfl
  rw [e]
  simp at hs
  rcases hs with rfl | rfl | rfl <;> omega
theorem GA.good {al : Al} (h : GA al) : goodAl al = true := by
  have h1 := h.len1
  have h2 := h.len
  have hm : metS (signsOf al.all) = signsOf al.all := by
    refine metS_nodup ?_
    rw [signsOf_map]
    exact List.pairwise_map.mpr (h.nd.imp fun hab e => hab (KR.one_inj e))
  have hml : (metS (signsOf al.all)).length = al.all.length := by
    rw [hm, signsOf_map, List.length_map, Array.length_toList]
    rfl
  have ha : badA al = false := by
    unfold badA
    rw [hml, decide_eq_true (show (1 : Int) ≤ (al.all.length : Int) by omega), decide_eq_true (show ((al.all.length : Int)) ≤ 6 by omega), decide_eq_false (show ¬ ((al.all.length : Int) < (al.all.length : Int)) by omega)]
    rfl
  have hb : badB al = false := by
    unfold badB
    rw [h.ra, h.rb, h.rc]
    have : (al.all.cps.toList.map az).all id = true := by
      rw [List.all_eq_true]
      intro b hb
      obtain ⟨c, hc, rfl⟩ := List.mem_map.mp hb
      have := h.rg c hc
      have hall : ∀ c : Nat, 97 ≤ c → c ≤ 102 → az c = true := fun c h1 h2 => by
        have : c = 97 ∨ c = 98 ∨ c = 99 ∨ c = 100 ∨ c = 101 ∨ c = 102 := by omega
        rcases this with rfl | rfl | rfl | rfl | rfl | rfl <;> decide +kernel
      exact hall c this.1 this.2
    rw [this]
    rfl
  unfold goodAl
  rw [ha, hb]
  rfl
theorem join_ones : ∀ l : List Nat, (Txt.join "" (l.map one)).cps.toList = l := fun l => by
  have e : ∀ l : List Nat, TL.joinL [] ((l.map one).map TL.tl) = l := by
    intro l
    induction l with
    | nil => rfl
    | cons x l ih =>
      cases l with
      | nil => rfl
      | cons y l =>
        show [x] ++ ([] ++ TL.joinL [] (((y :: l).map one).map TL.tl)) = _
        rw [ih]
        rfl
  show TL.tl (Txt.join "" (l.map one)) = l
  rw [TL.join_eq, TL.tl_join, tl_empty, e]
theorem str_ext {s t : Str} (h : s.cps.toList = t.cps.toList) : s = t := by
  obtain ⟨⟨a⟩⟩ := s
  obtain ⟨⟨b⟩⟩ := t
  have : a = b := h
  rw [this]
theorem cps_app (s t : Str) : (s ++ t).cps.toList = s.cps.toList ++ t.cps.toList := TL.tl_append s t
end K38
namespace KR
open PySem PySem.Spec PyProof.Rows L2 Evl KD
theorem q_parNN {K : PySem.W.Frag} {σ : L2.St} {H : Hp} {ta tb : TE} {D : Ends} {tz : TS} {i j : Nat} {ds es : List PyData} (h1 : EvN K ta σ H ds) (h2 : EvN K tb σ H es)
    (k : ∀ p q xs ys H1, H p = none → H q = none → p ≠ q → Ex H H1 → H1 p = some (.lst xs) → H1 q = some (.lst ys) → DpAll K H1 xs ds → DpAll K H1 ys es → tz D ((σ.set i (some (.ref p))).set j (some (.ref q))) H1) : tSeq (tPar i j (tCons ta (tCons tb tNil))) tz D σ H :=
  h1 H (Ex.refl H) _ fun p xs H1 hp e1 hp1 hx => h2 H1 e1 _ fun q ys H2 hq e2 hq2 hy => ⟨.ref p, .ref q, rfl, k p q xs ys H2 hp (fresh_back e1 hq) (fun z => by rw [z, hq] at hp1; cases hp1) (e1.trans e2) (e2 p _ hp1) hq2 (Dpax e2 hx) hy⟩
abbrev FB (J : It) (g : TG) (tb : TS) (D : Ends) (σ : L2.St) (H1 : Hp) : Prop := ∃ W : Nat → Nat → L2.St → Hp → Prop, (∃ m, W 0 m σ H1) ∧ ∀ i m σ H, W i m σ H →
  (J.stop i H ∧ D.nx σ H) ∨ (J.go i H ∧ ∃ N : L2.St → Hp → Prop, (∀ σ' H', N σ' H' → ∃ m', m' < m ∧ W (i + 1) m' σ' H') ∧ ∀ x H', J.yld i H x H' → g x σ H' fun σ2 H2 => tb { D with nx := N, ct := N, bk := D.nx } σ2 H2)
theorem for_rng {σ : L2.St} {H : Hp} {ta : TA} {g : TG} {tb : TS} {D : Ends} (h : ta σ H fun vs H1 => ∃ j : Int, vs = [.int j] ∧ -(2 ^ 62) ≤ j ∧ j < 2 ^ 62 ∧ FB (Itr 0 j.toNat) g tb D σ H1) : tFor (iRng1 ta) g tb D σ H := h
theorem seq_of {σ : L2.St} {H : Hp} {t tz : TS} {D : Ends} (h : t { D with nx := tz D } σ H) : tSeq t tz D σ H := h
end KR
namespace K38
open PySem PySem.Spec PyProof.Rows L2 Evl KD KR RZ
theorem eqv_lstrs' (xs ys : List Str) : PyData.eqv (.list (xs.map .str)) (.list (ys.map .str)) = decide (xs = ys) := eqv_lstrs xs ys
theorem shaped_strs (l : List Str) (h : ∀ s ∈ l, asc s) : SeqAt.shaped (.list (l.map .str)) = true := by
  unfold SeqAt.shaped
  have h1 : ∀ l : List Str, (∀ s ∈ l, asc s) → PyData.canLayAll0 (l.map .str) = true := by
    intro l
    induction l with
    | nil => intro _; rfl
    | cons s l ih =>
      intro hl
      show (PyData.strOk s && PyData.canLayAll0 (l.map .str)) = true
      rw [ih fun x hx => hl x (List.mem_cons_of_mem _ hx), Bool.and_true]
      unfold PyData.strOk
      rw [← Array.all_toList, List.all_eq_true]
      intro c hc
      have := hl s List.mem_cons_self c hc
      exact decide_eq_true (by omega)
  show (PyData.canLayAll0 (l.map .str) && decide (PyData.depthAll (l.map .str) + 1 ≤ 64)) = true
  rw [h1 l h, depth_strs]
  decide
theorem map_erase' {α β : Type} (f : α → β) : ∀ (l : List α) (k : Nat), (l.map f).eraseIdx k = (l.eraseIdx k).map f
  | [], _ => rfl
  | _ :: _, 0 => rfl
  | x :: l, k + 1 => by
    show f x :: (l.map f).eraseIdx k = f x :: (l.eraseIdx k).map f
    rw [map_erase' f l k]
theorem erase_perm {α : Type} : ∀ (l : List α) (k : Nat) (h : k < l.length), (l[k] :: l.eraseIdx k).Perm l
  | x :: l, 0, _ => List.Perm.refl _
  | x :: l, k + 1, h => by
    have hk : k < l.length := by simpa using h
    have ih := erase_perm l k hk
    show (l[k] :: x :: l.eraseIdx k).Perm (x :: l)
    exact (List.Perm.swap _ _ _).trans (ih.cons x)
/-- the letters of some texts -/
def letters (fs : List Str) : List Nat := (fs.map fun s => s.cps.toList).flatten
theorem letters_snoc (fs : List Str) (s : Str) : letters (fs ++ [s]) = letters fs ++ s.cps.toList := by simp [letters]
section
variable {P : Program} {w : World} {K : PySem.W.Frag} {mg : Str → Option Value} {base : Heap}
def spAl : Sp := fun vs H Q E => ∃ (a : Addr × Addr) (b : Nat), vs = [.ref a.1] ∧ StA a b H ∧ b ≤ 900000 ∧ ∀ v H' al, GA al → ExS a H H' → StA a (b + 9) H' → Dp K H' v al.d → Q v H'
theorem ok_law_alphabet (G : Pg K mg) {k : Nat} : FnOk P w K mg base CX0 (k + 2) G.f_law_alphabet G.fd_law_alphabet ["state"] (spAl (K := K)) := by
  refine Fun.ok G.F_law_alphabet sc_law_alphabet (fun vs H Q E h => ?_) (fun cdv A outer s H vs Q E hr h => ?_)
  · obtain ⟨a, b, rfl, _⟩ := h
    rfl
  · have hr_law_next := hr
    have G_law_next := ok_law_next (P := P) (w := w) (base := base) G (k := k)
    have hu64 : (A.deeper (envOfC "_law_alphabet" (defScope s_law_alphabet) s.heap.objs.size G.f_law_alphabet cdv)).units + 64 < cLine := by have := hr.un; omega
    refine ⟨_, (pss_cons (ps_par (i := 1) (j := 2) rfl sc_law_alphabet.nd rfl rfl (by decide) rfl rfl (pa_cons (pe_callTy (call_list_str rfl) (by rfl) G.n_list (by decide +kernel) (pa_cons pe_str pa_nil)) (pa_cons (pe_lst pa_nil) pa_nil)) (by rfl))
      (pss_cons (ps_for PassesOwn.never rfl (pi_range1 (by rfl) G.n_range (pa_cons pe_int pa_nil)) (pg_name (i := 3) sc_law_alphabet.nd rfl (Or.inl rfl)) (pss_cons (ps_set (i := 4) sc_law_alphabet.nd rfl (Or.inl rfl) pe_str)
        (pss_cons (ps_for PassesOwn.never rfl (pi_range1 (by rfl) G.n_range (pa_cons (pe_ix ix_list (pe_lst (pa_cons pe_int (pa_cons pe_int (pa_cons pe_int (pa_cons pe_int (pa_cons pe_int (pa_cons pe_int pa_nil))))))) (pe_call G_law_next hr_law_next (by rfl) G.m_law_next G.k_law_next G.b_law_next .nil pass0 (pa_cons (pv 0) (pa_cons pe_int pa_nil))) (fun _ _ => rfl)) pa_nil)) (pg_name (i := 5) sc_law_alphabet.nd rfl (Or.inl rfl)) (pss_one (ps_set (i := 4) sc_law_alphabet.nd rfl (Or.inl rfl) (pe_op op_add_str (pv 4) (pe_bm PySem.F.plainAttrs_list PySem.F.slot_list_pop PySem.F.type_list_pop mt_popAt (pv 1) (pa_cons (pe_call G_law_next hr_law_next (by rfl) G.m_law_next G.k_law_next G.b_law_next .nil pass0 (pa_cons (pv 0) (pa_cons (pe_callB call_len (by rfl) G.n_len (by decide +kernel) (pa_cons (pv 1) pa_nil)) pa_nil))) pa_nil))))))
        (pss_one (ps_expr (pe_bm PySem.F.plainAttrs_list PySem.F.slot_list_append PySem.F.type_list_append mt_append (pv 2) (pa_cons (pe_join pe_str (pe_callB (cr_sortedT rfl) (by rfl) G.n_sorted (by decide +kernel) (pa_cons (pv 4) pa_nil))) pa_nil)))))))
      (pss_cons (ps_if (pt_cmpR (op_eqK (K := K) rfl hu64) (pv 2) (pe_lst (pa_cons pe_str (pa_cons pe_str (pa_cons pe_str pa_nil)))) (nomark _)) (pss_one (ps_asg pe_str (pg_sub (pv 2) pe_int set_list))) pss_nil)
      (pss_one (ps_ret (pe_callTy call_tuple_of (by rfl) G.n_tuple (by decide +kernel) (pa_cons (pv 2) pa_nil))))))), ?_⟩
    obtain ⟨a, b, rfl, hst, hb, hres⟩ := h
    -- left, found
    refine q_parNN (K := K) (evn_listT (z := "abcdef") ev_c (by decide)) (evn_lst (ds := []) ead_nil (by decide)) fun pl pf xl xf H2 hpl hpf' hne e1 h1 h2 hxl hxf => ?_
    cases hxf
    have hxl' : xl = (abc6.map one).map V.str := dpAll_strs' (ns := abc6.map one) hxl
    have offl := hst.off hpl
    have offf := hst.off hpf'
    refine q_forS (evs_range1 (n := 3) (ea_cons ev_c ea_nil) (by decide)) (fun H3 i σ' H' => ExS a H H' ∧ StA a (b + 3 * i) H' ∧ ∃ (l : List Nat) (fs : List Str) (x3 x4 x5 : Option V), σ' = [some (.ref a.1), some (.ref pl), some (.ref pf), x3, x4, x5] ∧ fs.length = i ∧
        H' pl = some (.lst ((l.map one).map V.str)) ∧ H' pf = some (.lst (fs.map V.str)) ∧ (letters fs ++ l).Perm abc6 ∧ (∀ s ∈ fs, riseN s.cps.toList = true) ∧ 6 ≤ l.length + 2 * i)
      (fun H3 e3 => ⟨ExS.of (e1.trans e3), hst.mono (e1.trans e3), abc6, [], none, none, none, rfl, rfl, by rw [← hxl']; exact e3 _ _ h1, e3 _ _ h2, List.Perm.refl _, fun s hs => by simp at hs, by decide⟩)
      (fun _ _ _ _ _ _ _ => trivial) (fun H3 i x σ' H' H4 e3 hi p e4 y => ?_) fun H3 σ' H' e3 p => ?_
    · obtain ⟨p1, p2, l, fs, x3, x4, x5, rfl, p3, p4, p5, p6, p7, p8⟩ := p
      subst y
      refine q_asg (v := .str "") ev_c fun H5 e5 => ?_
      have e45 := e4.trans e5
      have p1' := p1.trans (ExS.of e45)
      have p2' := p2.mono e45
      have p4' := e45 _ _ p4
      have p5' := e45 _ _ p5
      -- range([..][next])
      refine seq_of (for_rng (cons_of (op_of ((evn_lst (K := K) (ds := [.int 1, .int 1, .int 2, .int 0, .int 1, .int 2]) (ead_cons (ev_int ev_c) (ead_cons (ev_int ev_c) (ead_cons (ev_int ev_c) (ead_cons (ev_int ev_c) (ead_cons (ev_int ev_c) (ead_cons (ev_int ev_c) ead_nil)))))) (by decide)) H5 (Ex.refl H5) _ fun pq xq H6 hpq e6 h6 hxq =>
        use_next (m := 6) (p2'.mono e6) (by omega) rfl ev_c (by decide) fun r H7 r0 r1 y7 s7 => ?_))))
      have hpqo : Off a pq := p2'.off hpq
      have h7 := y7 pq _ hpqo.1 h6
      have hxq' : xq = ([1, 1, 2, 0, 1, 2] : List Int).map V.int := dpAll_ints' (ns := [1, 1, 2, 0, 1, 2]) hxq
      obtain ⟨m, hm, hm2⟩ : ∃ m : Nat, atI xq r = some (.int (m : Nat)) ∧ m ≤ 2 := by
        rw [hxq']
        have : r = 0 ∨ r = 1 ∨ r = 2 ∨ r = 3 ∨ r = 4 ∨ r = 5 := by omega
        rcases this with rfl | rfl | rfl | rfl | rfl | rfl
        · exact ⟨1, rfl, by decide⟩
        · exact ⟨1, rfl, by decide⟩
        · exact ⟨2, rfl, by decide⟩
        · exact ⟨0, rfl, by decide⟩
        · exact ⟨1, rfl, by decide⟩
        · exact ⟨2, rfl, by decide⟩
      refine ⟨pq, xq, r, _, rfl, rfl, sq_of h7, hm, ⟨_, rfl, by omega, by omega, ?_⟩⟩
      rw [Int.toNat_natCast]
      have x7 : ExS a H H7 := (p1'.trans (ExS.of e6)).trans y7
      refine for_it walk_range (fun j σ' H' => ExS a H H' ∧ StA a (b + 3 * i + 1 + j) H' ∧ ∃ (o l : List Nat) (own : Str) (x5 : Option V), σ' = [some (.ref a.1), some (.ref pl), some (.ref pf), some (.int (i : Nat)), some (.str own), x5] ∧ own.cps.toList = o ∧ o.length = j ∧
          H' pl = some (.lst ((l.map one).map V.str)) ∧ H' pf = some (.lst (fs.map V.str)) ∧ (letters fs ++ (o ++ l)).Perm abc6 ∧ 6 ≤ l.length + 2 * i + j)
        ⟨x7, s7, [], l, "", x5, rfl, rfl, rfl, y7 _ _ offl.1 (e6 _ _ p4'), y7 _ _ offf.1 (e6 _ _ p5'), p6, p8⟩ (fun _ _ _ _ _ => trivial) (fun j x σ' H' H8 hj p y => ?_) fun σ' H' p => ?_
      · obtain ⟨q1, q2, o, l, own, x5, rfl, q3, q4, q5, q6, q7, q8⟩ := p
        obtain ⟨rfl, rfl⟩ := y
        have hl1 : 0 < l.length := by omega
        have hl6 : l.length ≤ 6 := by have := q7.length_eq; simp [abc6] at this; omega
        refine ⟨.str own, rfl, ⟨.ref pl, rfl, Or.inl ⟨rfl, _, sq_of q5⟩, use_next q2 (by omega) rfl (m := ((l.map one).map V.str).length) ?_ (by simp; omega) fun r H9 r0 r1 y9 s9 => ?_⟩⟩
        · intro Ha ea Qa qa
          exact ⟨.ref pl, rfl, .ref pl, _, rfl, .inl ⟨_, sq_of (ea _ _ q5), rfl⟩, qa Ha (Ex.refl _)⟩
        · have h9 := y9 _ _ offl.1 q5
          obtain ⟨rn, rfl⟩ : ∃ rn : Nat, r = rn := ⟨r.toNat, by omega⟩
          have hrl : rn < l.length := by simp at r1; omega
          refine ⟨pl, _, (rn : Nat), rn, .str (one (l[rn])), rfl, rfl, h9, by omega, by omega, (ixN_seq (ixN_nat (by simp; exact hrl))).1, by simp [hrl], ?_⟩
          have hoc : (own ++ one l[rn]).cps.toList = o ++ [l[rn]] := by rw [cps_app, q3]; rfl
          refine ⟨own, one l[rn], rfl, rfl, ?_, (q1.trans y9).mut hpl, ?_, o ++ [l[rn]], l.eraseIdx rn, own ++ one l[rn], _, rfl, hoc, by simp [q4], ?_, ?_, ?_, ?_⟩
          · have : own.length = o.length := by rw [← q3, Array.length_toList]; rfl
            refine sz_of ?_
            show own.length + 1 ≤ 100000
            omega
          · have := s9.upd (o := .lst (((l.map one).map V.str).eraseIdx rn)) offl
            exact this.le (by omega)
          · rw [upd_same]
            rw [map_erase', map_erase']
          · rw [upd_ne (Ne.symm hne)]
            exact y9 _ _ offf.1 q6
          · refine List.Perm.trans ?_ q7
            refine List.Perm.append_left _ ?_
            rw [List.append_assoc]
            refine List.Perm.append_left _ ?_
            exact erase_perm l rn hrl
          · rw [List.length_eraseIdx, if_pos hrl]
            omega
      · obtain ⟨q1, q2, o, l, own, x5, rfl, q3, q4, q5, q6, q7, q8⟩ := p
        have hol : own.length = o.length := by rw [← q3, Array.length_toList]; rfl
        -- found.append(''.join(sorted(own)))
        refine ⟨.ref pf, rfl, Or.inl ⟨rfl, _, sq_of q6⟩, ?_⟩
        refine ⟨⟨_, rfl⟩, .str own, rfl, own, rfl, by omega, fun ys p pm so hp => ?_⟩
        obtain ⟨l', rfl, pl', rl'⟩ := perm_ones pm so
        have hps : Off a p := q2.off hp
        have hyl : l'.length ≤ 2 := by rw [pl'.length_eq, q3]; omega
        refine ⟨"", p, l'.map one, rfl, rfl, .inl (sq_of upd_same), ?_, ?_⟩
        · have : ((l'.map one).map (·.length)).sum ≤ l'.length := by
            clear pm so rl' pl' hyl
            induction l' with
            | nil => exact Nat.le_refl _
            | cons x l ih => simp only [List.map_cons, List.sum_cons, List.length_cons]; show 1 + _ ≤ _; omega
          show _ + (l'.map one).length * 0 ≤ _
          omega
        · have hfl : fs.length < 3 := by omega
          have npf : pf ≠ p := fun z => by rw [← z, q6] at hp; cases hp
          have npl : pl ≠ p := fun z => by rw [← z, q5] at hp; cases hp
          refine ⟨pf, _, .str (Txt.join "" (l'.map one)), rfl, rfl, by rw [upd_ne npf]; exact q6, sz_lt (by rw [List.length_map]; omega), ?_⟩
          refine ⟨(q1.mut (ExS.fresh q1 q2 hp)).mut hpf', ((q2.upd hps).upd offf).le (by omega), l, fs ++ [Txt.join "" (l'.map one)], _, _, _, rfl, by simp [p3], by rw [upd_ne hne, upd_ne npl]; exact q5, by rw [upd_same]; simp, ?_, ?_, by omega⟩
          · rw [letters_snoc, join_ones, List.append_assoc]
            refine List.Perm.trans (List.Perm.append_left _ (List.Perm.append_right _ ?_)) q7
            rw [← q3]
            exact pl'
          · intro s hs
            rcases List.mem_append.mp hs with hs | hs
            · exact p7 s hs
            · rw [List.mem_singleton.mp hs, join_ones]
              exact riseN_pw.mpr rl'
    · obtain ⟨p1, p2, l, fs, x3, x4, x5, rfl, p3, p4, p5, p6, p7, p8⟩ := p
      obtain ⟨f0, f1, f2, rfl⟩ : ∃ f0 f1 f2, fs = [f0, f1, f2] := by
        match fs, p3 with
        | [f0, f1, f2], _ => exact ⟨f0, f1, f2, rfl⟩
      have hall : (Al.mk f0 f1 f2).all.cps.toList = letters [f0, f1, f2] := by rw [all_cps]; simp [letters]
      have hmem : ∀ c ∈ letters [f0, f1, f2], 97 ≤ c ∧ c ≤ 102 := fun c hc => by
        have : c ∈ abc6 := p6.subset (List.mem_append_left _ hc)
        simp [abc6] at this
        omega
      have hasc : ∀ s ∈ [f0, f1, f2], asc s := fun s hs c hc => by
        have := hmem c (List.mem_flatten.mpr ⟨_, List.mem_map.mpr ⟨s, hs, rfl⟩, hc⟩)
        omega
      have hnd : (letters [f0, f1, f2]).Nodup := by
        have : (letters [f0, f1, f2] ++ l).Nodup := p6.nodup_iff.mpr (by decide)
        exact (List.nodup_append.mp this).1
      have hdq := ev_eqD (K := K) (σ := [some (.ref a.1), some (.ref pl), some (.ref pf), x3, x4, x5]) (H := H') (ta := tVar 2) (evd_var rfl (.lst (sq_of p5) (dpAll_strs [f0, f1, f2]))) (EvN.dp (evn_lst (ds := ([""  , "", ""] : List Str).map .str) (ead_cons (ev_str ev_c) (ead_cons (ev_str ev_c) (ead_cons (ev_str ev_c) ead_nil))) (by decide))) (shaped_strs _ hasc) (by decide +kernel)
      rw [eqv_lstrs'] at hdq
      refine q_when (b := decide ([f0, f1, f2] = (["", "", ""] : List Str))) (et_test hdq) (fun hb H4 e4 => ?_) fun hb H4 e4 => ?_
      · have hz := of_decide_eq_true hb
        cases hz
        refine s_setL (D := { nx := _, rt := Q }) (j := 1) (e4 _ _ p5) (v := .str "a") ev_c (ev_var rfl) ev_c (by decide) fun H5 e5 => ?_
        have h5 : (upd H5 pf (.lst (([Str.ofString "", Str.ofString "", Str.ofString ""].map V.str).set 1 (.str "a")))) pf = some (.lst (([Str.ofString "", Str.ofString "a", Str.ofString ""] : List Str).map V.str)) := upd_same
        have e45 := e4.trans e5
        refine s_retD (K := K) (d := (Al.mk "" "a" "").d) (evd_tupleOf (evd_var rfl (.lst (sq_of h5) (dpAll_strs _))) rfl) fun v H6 e6 hv => ?_
        refine hres v H6 (Al.mk "" "a" "") ?_ ((p1.trans (ExS.of e45)).mut hpf' |>.trans (ExS.of e6)) (((p2.mono e45).upd offf).mono e6) hv
        have hal : (Al.mk "" "a" "").all.cps.toList = [97] := by decide +kernel
        exact ⟨by rw [hal]; decide, by rw [hal]; intro c hc; rw [List.mem_singleton.mp hc]; decide, by decide +kernel, by decide +kernel, by decide +kernel, by rw [hal]; decide⟩
      · have hz := of_decide_eq_false hb
        refine s_retD (K := K) (d := (Al.mk f0 f1 f2).d) (evd_tupleOf (evd_var rfl (.lst (sq_of (e4 _ _ p5)) (dpAll_strs [f0, f1, f2]))) rfl) fun v H6 e6 hv => ?_
        refine hres v H6 (Al.mk f0 f1 f2) ?_ (p1.trans (ExS.of (e4.trans e6))) (p2.mono (e4.trans e6)) hv
        refine ⟨by rw [hall]; exact hnd, by rw [hall]; exact hmem, p7 _ (by simp), p7 _ (by simp), p7 _ (by simp), fun h0 => hz ?_⟩
        rw [all_cps, List.append_eq_nil_iff, List.append_eq_nil_iff] at h0
        obtain ⟨⟨z0, z1⟩, z2⟩ := h0
        have e0 : (Str.ofString "").cps.toList = [] := by decide +kernel
        have g0 : f0 = Str.ofString "" := str_ext (z0.trans e0.symm)
        have g1 : f1 = Str.ofString "" := str_ext (z1.trans e0.symm)
        have g2 : f2 = Str.ofString "" := str_ext (z2.trans e0.symm)
        rw [g0, g1, g2]
end
end K38
namespace KR
open PySem PySem.Spec PyProof.Rows L2 Evl KD
section
variable {σ : L2.St} {H : Hp} {ta : TA} {te : TE} {g : TG} {tt : TT} {D : Ends} {tz : TS} {Q : VK}
theorem par_of {i j : Nat} (h : ta σ H fun vs H1 => ∃ v w, vs = [v, w] ∧ tz D ((σ.set i (some v)).set j (some w)) H1) : tSeq (tPar i j ta) tz D σ H := h
theorem ret_of (h : te σ H D.rt) : tRet te D σ H := h
theorem asg_of {i : Nat} (h : te σ H fun v H1 => tz D (σ.set i (some v)) H1) : tSeq (tAsg te (gName i)) tz D σ H := h
theorem asg_of1 {i : Nat} (h : te σ H fun v H1 => D.nx (σ.set i (some v)) H1) : tAsg te (gName i) D σ H := h
abbrev LB (J : It) (g : TG) (tt : TT) (te : TE) (vs : List Nat) (σ : L2.St) (H1 : Hp) (D : Addr) (Q : VK) : Prop := ∃ W : Nat → Nat → Hp → Prop, (∃ m, W 0 m (upd H1 D (.lst []))) ∧ ∀ i m H, W i m H →
  (J.stop i H ∧ Q (.ref D) H) ∨ (J.go i H ∧ ∃ Nx : Hp → Prop, (∀ H', Nx H' → ∃ m', m' < m ∧ W (i + 1) m' H') ∧ ∀ x H', J.yld i H x H' → g x (wipe σ vs) H' fun σ2 H2 => wipe σ2 vs = wipe σ vs ∧ tt σ2 H2 fun b H3 =>
    if b = true then te σ2 H3 fun y H4 => ∃ acc, H4 D = some (.lst acc) ∧ acc.length < sizeLine ∧ Nx (upd H4 D (.lst (acc ++ [y]))) else Nx H3)
theorem lc_rng {vs : List Nat} (h : ta σ H fun as H1 => ∃ j : Int, as = [.int j] ∧ -(2 ^ 62) ≤ j ∧ j < 2 ^ 62 ∧ ∀ D, H1 D = none → LB (Itr 0 j.toNat) g tt te vs σ H1 D Q) : tLc (iRng1 ta) g tt te vs σ H Q := h
/-- without a test, a name: what the turns keep -/
theorem lb_M {J : It} {n j : Nat} {vs : List Nat} {G : Hp → Prop} {Y : Nat → Hp → V → Hp → Prop} {H1 : Hp} {Dl : Addr} (w : Walk J n G Y) (Pv : Nat → Hp → Prop) (h0 : Pv 0 (upd H1 Dl (.lst []))) (hG : ∀ i H, i ≤ n → Pv i H → G H) (hw : ∀ x, wipe ((wipe σ vs).set j (some x)) vs = wipe σ vs)
    (hs : ∀ i x H H', i < n → Pv i H → Y i H x H' → te ((wipe σ vs).set j (some x)) H' fun y H4 => ∃ acc, H4 Dl = some (.lst acc) ∧ acc.length < sizeLine ∧ Pv (i + 1) (upd H4 Dl (.lst (acc ++ [y])))) (hd : ∀ H, Pv n H → Q (.ref Dl) H) :
    LB J (gName j) tYes te vs σ H1 Dl Q := lc_it w Pv h0 hG (fun i x H H' hi p y => ⟨hw x, by
      show te _ H' _
      exact hs i x H H' hi p y⟩) hd
end
end KR
namespace K38
open PySem PySem.Spec PyProof.Rows L2 Evl KD KR RZ
/-- a sentence over an alphabet -/
def Sen.inA (al : Al) : Sen → Prop
  | .sign c => al.has c = true
  | .kind k => k < 3
  | .un _ a => a.inA al
  | .bi _ a b => a.inA al ∧ b.inA al
theorem inA_wf {al : Al} : ∀ t : Sen, t.inA al → t.wf
  | .sign _, _ => trivial
  | .kind _, h => h
  | .un _ a, h => inA_wf a h
  | .bi _ a b, h => ⟨inA_wf a h.1, inA_wf b h.2⟩
theorem inA_asc {al : Al} (g : GA al) : ∀ t : Sen, t.inA al → t.asc
  | .sign c, h => by
    have := g.rg c (of_decide_eq_true h)
    show c < 128
    omega
  | .kind _, _ => trivial
  | .un _ a, h => inA_asc g a h
  | .bi _ a b, h => ⟨inA_asc g a h.1, inA_asc g b h.2⟩
def cD : Nat → Nat
  | 0 => 4
  | d + 1 => 4 + 2 * cD d
theorem cD_ge (d : Nat) : 4 ≤ cD d := by cases d <;> simp [cD]
theorem cD_le : ∀ d, d ≤ 6 → cD d ≤ 600 := by decide
/-- which words there are, and for how many parts -/
theorem word9 (i : Nat) (hi : i < 9) : (∃ u : Un, ([.str "not", .str "both", .str "either", .str "next", .str "leap", .str "until", .str "leapuntil", .str "caller", .str "partner"] : List PyData)[i]? = some (.str u.s) ∧ inV (.str u.s) [.str "both", .str "either", .str "until", .str "leapuntil"] = false) ∨
    ∃ u : Bi, ([.str "not", .str "both", .str "either", .str "next", .str "leap", .str "until", .str "leapuntil", .str "caller", .str "partner"] : List PyData)[i]? = some (.str u.s) ∧ inV (.str u.s) [.str "both", .str "either", .str "until", .str "leapuntil"] = true := by
  match i, hi with
  | 0, _ => exact .inl ⟨.not, rfl, by decide +kernel⟩
  | 1, _ => exact .inr ⟨.both, rfl, by decide +kernel⟩
  | 2, _ => exact .inr ⟨.either, rfl, by decide +kernel⟩
  | 3, _ => exact .inl ⟨.next, rfl, by decide +kernel⟩
  | 4, _ => exact .inl ⟨.leap, rfl, by decide +kernel⟩
  | 5, _ => exact .inr ⟨.until, rfl, by decide +kernel⟩
  | 6, _ => exact .inr ⟨.leapuntil, rfl, by decide +kernel⟩
  | 7, _ => exact .inl ⟨.caller, rfl, by decide +kernel⟩
  | 8, _ => exact .inl ⟨.partner, rfl, by decide +kernel⟩
section
variable {P : Program} {w : World} {K : PySem.W.Frag} {mg : Str → Option Value} {base : Heap}
def spSe (d : Nat) : Sp := fun vs H Q E => ∃ (a : Addr × Addr) (b : Nat) (va : V) (al : Al), vs = [.ref a.1, va, .int (d : Nat)] ∧ StA a b H ∧ b + cD d ≤ 1000000 ∧ Dp K H va al.d ∧ GA al ∧ d ≤ 6 ∧ ∀ v H' t, Sen.inA al t → t.dep ≤ d → ExS a H H' → StA a (b + cD d) H' → Dp K H' v t.d → Q v H'
theorem al_imm (al : Al) : imm al.d = true := rfl
theorem sen_step (G : Pg K mg) {k d : Nat} (hrec : ∀ d', d = d' + 1 → FnOk P w K mg base CX0 (k + d) G.f_law_sentence G.fd_law_sentence ["state", "alphabet", "deep"] (spSe (K := K) d'))
    (h0 : 1 ≤ k) (sp' : Sp) (G_law_sentence : FnOk P w K mg base CX0 (k + d) G.f_law_sentence G.fd_law_sentence ["state", "alphabet", "deep"] sp') (hsp : ∀ d', d = d' + 1 → sp' = spSe (K := K) d') :
    FnOk P w K mg base CX0 (k + d + 1) G.f_law_sentence G.fd_law_sentence ["state", "alphabet", "deep"] (spSe (K := K) d) := by
  refine Fun.ok G.F_law_sentence sc_law_sentence (fun vs H Q E h => ?_) (fun cdv A outer s H vs Q E hr h => ?_)
  · obtain ⟨a, b, va, al, rfl, _⟩ := h
    rfl
  · have hr_law_next := hr
    have hr_law_sentence := hr
    have G_law_next := (ok_law_next (P := P) (w := w) (base := base) G (k := 0)).mono (k := k + d) (by omega)
    refine ⟨_, (pss_cons (ps_par (i := 3) (j := 4) rfl sc_law_sentence.nd rfl rfl (by decide) rfl rfl (pa_cons (pe_join pe_str (pv 1)) (pa_cons (pe_call G_law_next hr_law_next (by rfl) G.m_law_next G.k_law_next G.b_law_next .nil pass0 (pa_cons (pv 0) (pa_cons pe_int pa_nil))) pa_nil)) (by rfl))
      (pss_cons (ps_if (PW.pt (pw_or (pt_cmpR op_eq (pv 2) pe_int (nomark _)) (pw_or1 (pt_cmpR op_lt (pv 4) pe_int (nomark _))))) (pss_one (ps_ret (pe_ix ix_list (pe_lst (pa_cons (pe_tup (pa_cons pe_str (pa_cons (pe_ix ix_str (pv 3) (pe_call G_law_next hr_law_next (by rfl) G.m_law_next G.k_law_next G.b_law_next .nil pass0 (pa_cons (pv 0) (pa_cons (pe_callB call_len (by rfl) G.n_len (by decide +kernel) (pa_cons (pv 3) pa_nil)) pa_nil))) (fun _ _ => rfl)) pa_nil))) (pa_cons (pe_tup (pa_cons pe_str (pa_cons (pe_ix ix_list (pe_lst (pa_cons pe_str (pa_cons pe_str (pa_cons pe_str pa_nil)))) (pe_call G_law_next hr_law_next (by rfl) G.m_law_next G.k_law_next G.b_law_next .nil pass0 (pa_cons (pv 0) (pa_cons pe_int pa_nil))) (fun _ _ => rfl)) pa_nil))) pa_nil))) (pe_call G_law_next hr_law_next (by rfl) G.m_law_next G.k_law_next G.b_law_next .nil pass0 (pa_cons (pv 0) (pa_cons pe_int pa_nil))) (fun _ _ => rfl)))) pss_nil)
      (pss_cons (ps_set (i := 5) sc_law_sentence.nd rfl (Or.inl rfl) (pe_ix ix_list (pe_lst (pa_cons pe_str (pa_cons pe_str (pa_cons pe_str (pa_cons pe_str (pa_cons pe_str (pa_cons pe_str (pa_cons pe_str (pa_cons pe_str (pa_cons pe_str pa_nil)))))))))) (pe_op op_sub (pv 4) pe_int) (fun _ _ => rfl)))
      (pss_cons (ps_set (i := 6) sc_law_sentence.nd rfl (Or.inl rfl) (pe_op op_add pe_int (pe_callTy call_int1 (by rfl) G.n_int (by decide +kernel) (pa_cons (pe_cmpR op_in_seq (pv 5) (pe_lst (pa_cons pe_str (pa_cons pe_str (pa_cons pe_str (pa_cons pe_str pa_nil))))) (by rfl)) pa_nil))))
      (pss_one (ps_ret (pe_op op_catT (pe_tup (pa_cons (pv 5) pa_nil)) (pe_callTy call_tuple_of (by rfl) G.n_tuple (by decide +kernel) (pa_cons (pe_lc (own := [("k", 7)]) rfl sc_law_sentence.nd (pi_range1 (by rfl) G.n_range (pa_cons (pv 6) pa_nil)) (blkOk_by (own := [("k", 7)]) (N := ["state", "alphabet", "deep", "letters", "pick", "word", "many", "k"]) (sc := defScope s_law_sentence) (by decide +kernel)) (fun _ _ _ _ _ => (pg_name (i := 7) sc_law_sentence.nd rfl (Or.inl rfl))) (fun _ _ _ _ _ => pts_nil) (fun _ _ _ _ _ => (pe_call G_law_sentence hr_law_sentence (by rfl) G.m_law_sentence G.k_law_sentence G.b_law_sentence .nil pass0 (pa_cons (pv 0) (pa_cons (pv 1) (pa_cons (pe_op op_sub (pv 2) pe_int) pa_nil)))))) pa_nil))))))))), ?_⟩
    obtain ⟨a, b, va, al, rfl, hst, hb, hda, hga, hd6, hres⟩ := h
    have hl1 := hga.len1
    have hl6 := hga.len
    have hcd := cD_le d hd6
    have hcd4 := cD_ge d
    have hsh := hga.short
    refine par_of (cons_of (al_join hsh (evd_var rfl hda) H (Ex.refl H) _ fun H1 e1 => cons_of (use_next (m := 11) (hst.mono e1) (by omega) rfl ev_c (by decide) fun r H2 r0 r1 y2 s2 => nil_of ⟨_, _, rfl, ?_⟩)))
    have x2 : ExS a H H2 := (ExS.of e1).trans y2
    have hda2 : Dp K H2 va al.d := dp_imm (y2.tups (hst.mono e1)) _ _ (al_imm al) (Dpx e1 hda)
    refine q_when (b := decide ((d : Int) = 0) || decide (r < 2)) (et_or (et_is (et_test (ev_eq (ev_var rfl) ev_c)) (dint _ _)) fun _ => et_test (ev_lt (ev_var rfl) ev_c)) (fun hb2 H3 e3 => ?_) fun hb2 H3 e3 => ?_
    · have x3 := x2.trans (ExS.of e3)
      have s3 := s2.mono e3
      refine ret_of (op_of (lst_of (cons_of (tup_of (cons_of (c_of (cons_of (op_of (ev_var (v := .str al.all) rfl H3 (Ex.refl H3) _ fun H3' e3' => use_next (m := (al.all.length : Nat)) (s3.mono e3') (by omega) rfl (ev_lenS (ev_var rfl) (by omega)) (by omega) fun r1 H4 r10 r11 y4 s4 => ?_)))))))))
      obtain ⟨i1, rfl⟩ : ∃ i1 : Nat, r1 = i1 := ⟨r1.toNat, by omega⟩
      have hi1 : i1 < al.all.length := by omega
      refine ⟨al.all, (i1 : Nat), at_ al.all i1, rfl, rfl, sz_of (by omega), atI_at hi1, nil_of ⟨by show 2 ≤ sizeLine; decide, fun q1 hq1 => ?_⟩⟩
      have x4 := x3.trans ((ExS.of e3').trans y4)
      generalize hH5 : upd H4 q1 (.tup [.str "sign", .str ⟨#[at_ al.all i1]⟩]) = H5
      have e5 : Ex H4 H5 := by rw [← hH5]; exact Ex.new hq1
      have t1 : H5 q1 = some (.tup [.str "sign", .str ⟨#[at_ al.all i1]⟩]) := by rw [← hH5, upd_same]
      have s5 := s4.mono e5
      refine cons_of (tup_of (cons_of (c_of (cons_of (op_of ((evn_lst (K := K) (ds := [.str "call", .str "plain", .str "return"]) (ead_cons (ev_str ev_c) (ead_cons (ev_str ev_c) (ead_cons (ev_str ev_c) ead_nil))) (by decide)) H5 (Ex.refl H5) _ fun pq xq H6 hpq e6 h6 hxq => use_next (m := 3) (s5.mono e6) (by omega) rfl ev_c (by decide) fun r2 H7 r20 r21 y7 s7 => ?_))))))
      obtain ⟨i2, rfl⟩ : ∃ i2 : Nat, r2 = i2 := ⟨r2.toNat, by omega⟩
      have hi2 : i2 < 3 := by omega
      have hpqo : Off a pq := s5.off hpq
      have hxq' : xq = ([Str.ofString "call", "plain", "return"] : List Str).map V.str := dpAll_strs' (ns := ["call", "plain", "return"]) hxq
      have hk2 : atI xq (i2 : Int) = some (.str (kinds3.getD i2 "")) := by
        rw [hxq']
        match i2, hi2 with
        | 0, _ => rfl
        | 1, _ => rfl
        | 2, _ => rfl
      refine ⟨pq, xq, (i2 : Nat), _, rfl, rfl, sq_of (y7 _ _ hpqo.1 h6), hk2, nil_of ⟨by show 2 ≤ sizeLine; decide, fun q2 hq2 => ?_⟩⟩
      generalize hH8 : upd H7 q2 (.tup [.str "kind", .str (kinds3.getD i2 "")]) = H8
      have e8 : Ex H7 H8 := by rw [← hH8]; exact Ex.new hq2
      have t2 : H8 q2 = some (.tup [.str "kind", .str (kinds3.getD i2 "")]) := by rw [← hH8, upd_same]
      have hq1o : q1 ≠ a.1 := fun z => by
        obtain ⟨xs, hx⟩ := s5.has
        rw [z, hx] at t1
        cases t1
      have t1' : H8 q1 = some (.tup [.str "sign", .str ⟨#[at_ al.all i1]⟩]) := e8 _ _ (y7 _ _ hq1o (e6 _ _ t1))
      refine nil_of ⟨by show 2 ≤ sizeLine; decide, fun q3 hq3 => ?_⟩
      generalize hH9 : upd H8 q3 (.lst [.ref q1, .ref q2]) = H9
      have e9 : Ex H8 H9 := by rw [← hH9]; exact Ex.new hq3
      have t3 : H9 q3 = some (.lst [.ref q1, .ref q2]) := by rw [← hH9, upd_same]
      have s9 := (s7.mono e8).mono e9
      refine use_next (m := 2) s9 (by omega) rfl ev_c (by decide) fun r3 H10 r30 r31 y10 s10 => ?_
      have hq3o : q3 ≠ a.1 := (((s7.mono e8)).off hq3).1
      have hq2o : q2 ≠ a.1 := fun z => by
        obtain ⟨xs, hx⟩ := (s7.mono e8).has
        rw [z, hx] at t2
        cases t2
      have x10 : ExS a H H10 := (x4.trans (ExS.of (e5.trans e6))).trans ((y7.trans (ExS.of (e8.trans e9))).trans y10)
      have st10 : StA a (b + cD d) H10 := s10.le (by omega)
      have hr3 : r3 = 0 ∨ r3 = 1 := by omega
      rcases hr3 with rfl | rfl
      · refine ⟨q3, _, 0, .ref q1, rfl, rfl, sq_of (y10 _ _ hq3o t3), rfl, ?_⟩
        refine hres _ H10 (.sign (at_ al.all i1)) ?_ (Nat.zero_le _) x10 st10 (.tup (st_of (y10 _ _ hq1o (e9 _ _ t1'))) (.cons (.str _) (.cons (.str _) .nil)))
        refine decide_eq_true ?_
        have h' : i1 < al.all.cps.toList.length := by rw [Array.length_toList]; exact hi1
        unfold at_
        rw [List.getD_eq_getElem?_getD, List.getElem?_eq_getElem h']
        exact List.getElem_mem h'
      · refine ⟨q3, _, 1, .ref q2, rfl, rfl, sq_of (y10 _ _ hq3o t3), rfl, ?_⟩
        exact hres _ H10 (.kind i2) hi2 (Nat.zero_le _) x10 st10 (.tup (st_of (y10 _ _ hq2o (e9 _ _ t2))) (.cons (.str _) (.cons (.str _) .nil)))
    · have hd0 : 0 < d ∧ ¬ r < 2 := by
        simp at hb2
        exact ⟨by omega, by omega⟩
      obtain ⟨d', rfl⟩ : ∃ d', d = d' + 1 := ⟨d - 1, by omega⟩
      cases hsp d' rfl
      obtain ⟨i, hi⟩ : ∃ i : Nat, r - 2 = i := ⟨(r - 2).toNat, by omega⟩
      have hi9 : i < 9 := by omega
      obtain ⟨wd, hwd, hkind⟩ : ∃ wd : Str, ([.str "not", .str "both", .str "either", .str "next", .str "leap", .str "until", .str "leapuntil", .str "caller", .str "partner"] : List PyData)[i]? = some (.str wd) ∧ ((∃ u : Un, wd = u.s ∧ inV (.str wd) [.str "both", .str "either", .str "until", .str "leapuntil"] = false) ∨ ∃ u : Bi, wd = u.s ∧ inV (.str wd) [.str "both", .str "either", .str "until", .str "leapuntil"] = true) := by
        rcases word9 i hi9 with ⟨u, h1, h2⟩ | ⟨u, h1, h2⟩
        · exact ⟨u.s, h1, .inl ⟨u, rfl, h2⟩⟩
        · exact ⟨u.s, h1, .inr ⟨u, rfl, h2⟩⟩
      refine q_asgD (K := K) (d := .str wd) (evd_ixL (EvN.dp (evn_lst (ds := [.str "not", .str "both", .str "either", .str "next", .str "leap", .str "until", .str "leapuntil", .str "caller", .str "partner"]) (ead_cons (ev_str ev_c) (ead_cons (ev_str ev_c) (ead_cons (ev_str ev_c) (ead_cons (ev_str ev_c) (ead_cons (ev_str ev_c) (ead_cons (ev_str ev_c) (ead_cons (ev_str ev_c) (ead_cons (ev_str ev_c) (ead_cons (ev_str ev_c) ead_nil))))))))) (by decide))) (ev_is (ev_sub (ev_var rfl) ev_c) (by rw [hi])) (atI_nat hwd)) fun vw H4 e4 hvw => ?_
      cases dp_str hvw
      obtain ⟨two, htwo⟩ : ∃ two : Bool, inV (.str wd) [.str "both", .str "either", .str "until", .str "leapuntil"] = two := ⟨_, rfl⟩
      refine q_asg (v := .int (1 + (if two then 1 else 0))) (ev_add ev_c (ev_intb (ev_is (ev_inL (K := K) (ev_var rfl) (el_lst (ea_cons ev_c (ea_cons ev_c (ea_cons ev_c (ea_cons ev_c ea_nil)))) (by decide)) rfl rfl) (by rw [htwo])))) fun H5 e5 => ?_
      have e25 := e3.trans (e4.trans e5)
      have x5 := x2.trans (ExS.of e25)
      have s5 := s2.mono e25
      have hda5 : Dp K H5 va al.d := Dpx e25 hda2
      obtain ⟨n, hn, hn2⟩ : ∃ n : Nat, ((1 : Int) + (if two = true then 1 else 0)) = n ∧ n = (if two = true then 2 else 1) := by cases two <;> exact ⟨_, rfl, rfl⟩
      -- (word,)
      refine ret_of (op_of (tup_of (cons_of (ev_var (v := .str wd) rfl H5 (Ex.refl H5) _ fun H5' e5' => nil_of ⟨by show 1 ≤ sizeLine; decide, fun q1 hq1 => ?_⟩))))
      generalize hH6 : upd H5' q1 (.tup [.str wd]) = H6
      have e6 : Ex H5' H6 := by rw [← hH6]; exact Ex.new hq1
      have t1 : H6 q1 = some (.tup [.str wd]) := by rw [← hH6, upd_same]
      have e56 := e5'.trans e6
      have s6 := s5.mono e56
      have x6 := x5.trans (ExS.of e56)
      have hda6 := Dpx e56 hda5
      have hq1o : q1 ≠ a.1 := fun z => by
        obtain ⟨xs, hx⟩ := s6.has
        rw [z, hx] at t1
        cases t1
      refine cons_of (lc_rng (cons_of (ev_var rfl H6 (Ex.refl H6) _ fun H7 e7 => nil_of ⟨_, rfl, by rw [hn]; omega, by rw [hn, hn2]; cases two <;> decide, fun Dl hDl => ?_⟩)))
      rw [hn, Int.toNat_natCast]
      have hDlo : Off a Dl := (s6.mono e7).off hDl
      refine lb_M walk_range (fun i H' => ExS a H7 H' ∧ StA a (b + 1 + i * cD d') H' ∧ ∃ xs ts, H' Dl = some (.lst xs) ∧ DpAll K H' xs (ts.map Sen.d) ∧ ts.length = i ∧ ∀ t ∈ ts, t.inA al ∧ t.dep ≤ d')
        ⟨(ExS.refl a H7).mut hDl, (((s6.mono e7)).upd hDlo).le (by omega), [], [], upd_same, .nil, rfl, fun t ht => by simp at ht⟩ (fun _ _ _ _ => trivial) (fun _ => rfl) (fun i x H8 H9 hi p y => ?_) fun H8 p => ?_
      · obtain ⟨p1, p2, xs, ts, p3, p4, p5, p6⟩ := p
        obtain ⟨rfl, rfl⟩ := y
        have hn2' : n ≤ 2 := by rw [hn2]; cases two <;> decide
        have hcd2 : cD (d' + 1) = 4 + 2 * cD d' := rfl
        have hic : i * cD d' ≤ 1 * cD d' := Nat.mul_le_mul_right _ (by omega)
        have hda9 : Dp K H9 va al.d := dp_imm (p1.tups (s6.mono e7)) _ _ (al_imm al) (Dpx e7 hda6)
        refine ⟨.ref a.1, rfl, va, rfl, .int ((d' + 1 : Nat) : Int), rfl, ((d' + 1 : Nat) : Int), 1, rfl, rfl, a, b + 1 + i * cD d', va, al, ?_, p2, by omega, hda9, hga, by omega, fun v H' t ht1 ht2 hx hs hd => ?_⟩
        · show [V.ref a.1, va, V.int (((d' + 1 : Nat) : Int) - 1)] = _
          rw [show (((d' + 1 : Nat) : Int) - 1) = (d' : Nat) by omega]
        · have tu := hx.tups (K := K) p2
          have h3 : H' Dl = some (.lst xs) := hx _ _ hDlo.1 p3
          have tu2 : Tups K H' (upd H' Dl (.lst (xs ++ [v]))) := tups_upd h3
          have im : immAll (ts.map Sen.d) = true := all_imm fun d hd => by obtain ⟨q, _, rfl⟩ := List.mem_map.mp hd; exact imm_d q
          refine ⟨xs, h3, sz_lt (by rw [dpAll_len p4, List.length_map, p5]; omega), (p1.trans hx).mut hDl, (hs.upd hDlo).le (by rw [Nat.succ_mul]; omega), xs ++ [v], ts ++ [t], upd_same, ?_, by simp [p5], fun q hq => ?_⟩
          · rw [List.map_append]
            exact dpAll_snoc (dpAll_imm tu2 _ _ im (dpAll_imm tu _ _ im p4)) (dp_imm tu2 _ _ (imm_d t) hd)
          · rcases List.mem_append.mp hq with hq | hq
            · exact p6 q hq
            · rw [List.mem_singleton.mp hq]
              exact ⟨ht1, ht2⟩
      · obtain ⟨p1, p2, xs, ts, p3, p4, p5, p6⟩ := p
        have x8 := (x6.trans (ExS.of e7)).trans p1
        have h1 : H8 q1 = some (.tup [.str wd]) := p1 _ _ hq1o (e7 _ _ t1)
        have hxl := dpAll_len p4
        rw [List.length_map, p5] at hxl
        refine ⟨Dl, xs, rfl, .inl ⟨sq_of p3, fun l hl => ?_⟩⟩
        generalize hH9 : upd H8 l (.tup xs) = H9
        have e9 : Ex H8 H9 := by rw [← hH9]; exact Ex.new hl
        have t9 : H9 l = some (.tup xs) := by rw [← hH9, upd_same]
        have hn12 : n = 1 ∨ n = 2 := by rw [hn2]; cases two <;> simp
        refine ⟨q1, l, [.str wd], xs, rfl, rfl, st_of (e9 _ _ h1), st_of t9, by simp, sz_of (by show 1 + xs.length ≤ 100000; omega), fun h => ?_, fun _ p hp => ?_⟩
        · rw [h] at hxl
          simp at hxl
          omega
        · have e10 : Ex H9 (upd H9 p (.tup ([.str wd] ++ xs))) := Ex.new hp
          have e80 := e9.trans e10
          have hcd2 : cD (d' + 1) = 4 + 2 * cD d' := rfl
          have hle : b + 1 + n * cD d' ≤ b + cD (d' + 1) := by rcases hn12 with h | h <;> rw [h, hcd2] <;> omega
          rcases hkind with ⟨u, rfl, hu⟩ | ⟨u, rfl, hu⟩
          · rw [hu] at htwo
            subst htwo
            have hn1 : n = 1 := hn2
            rw [hn1] at p5
            match ts, p5, p4, p6 with
            | [t1'], _, p4, p6 =>
              obtain ⟨g1, g2⟩ := p6 t1' List.mem_cons_self
              refine hres _ _ (.un u t1') g1 (by show t1'.dep + 1 ≤ d' + 1; omega) (x8.trans (ExS.of e80)) ((p2.mono e80).le hle) (.tup (st_of upd_same) (.cons (.str _) (Dpax e80 p4)))
          · rw [hu] at htwo
            subst htwo
            have hn1 : n = 2 := hn2
            rw [hn1] at p5
            match ts, p5, p4, p6 with
            | [t1', t2'], _, p4, p6 =>
              obtain ⟨g1, g2⟩ := p6 t1' List.mem_cons_self
              obtain ⟨g3, g4⟩ := p6 t2' (List.mem_cons_of_mem _ List.mem_cons_self)
              refine hres _ _ (.bi u t1' t2') ⟨g1, g3⟩ (by show max t1'.dep t2'.dep + 1 ≤ d' + 1; omega) (x8.trans (ExS.of e80)) ((p2.mono e80).le hle) (.tup (st_of upd_same) (.cons (.str _) (Dpax e80 p4)))
theorem ok_law_sentence (G : Pg K mg) {k : Nat} : ∀ d, FnOk P w K mg base CX0 (k + 1 + d + 1) G.f_law_sentence G.fd_law_sentence ["state", "alphabet", "deep"] (spSe (K := K) d)
  | 0 => sen_step G (k := k + 1) (d := 0) (fun _ h => by cases h) (by omega) (fun _ _ _ _ => False) ⟨fun _ _ _ _ h => h.elim, fun A outer s H args us vs Q E hr e0 hb hv h => h.elim⟩ fun _ h => by cases h
  | d + 1 => sen_step G (k := k + 1) (d := d + 1) (fun d' h => by cases h; exact ok_law_sentence G d) (by omega) (spSe (K := K) d) (ok_law_sentence G d) fun d' h => by cases h; rfl
end
end K38
namespace KR
open PySem PySem.Spec PyProof.Rows L2 Evl KD
section
variable {σ : L2.St} {H : Hp} {ta : TA} {te : TE} {g : TG} {tt : TT} {D : Ends} {tz : TS} {Q : VK} {t u : TS} {c c' : TT}
theorem m1_of {a : Str} {r : V → List V → Hp → VK → Prop} (h : te σ H fun y H2 => r (.str a) [y] H2 Q) : tM1 r (tC (.str a)) te σ H Q := ⟨⟨_, rfl⟩, h⟩
theorem and_of {b : Bool} {Q : Bool → Hp → Prop} (h : EvT c σ H b) (h1 : b = true → ∀ H1, Ex H H1 → c' σ H1 Q) (h2 : b = false → ∀ H1, Ex H H1 → Q false H1) : tAnd c c' σ H Q := h H (Ex.refl H) _ fun H1 e1 => by
  cases b with
  | true => exact h1 rfl H1 e1
  | false => exact h2 rfl H1 e1
theorem ifS_of (h : c σ H fun b H1 => if b = true then t D σ H1 else u D σ H1) : tIfS c t u D σ H := h
theorem test_of {Q : Bool → Hp → Prop} (h : te σ H fun x H' => ∃ k, x = .bl k ∧ Q k H') : tTest te σ H Q := h
theorem ev_slS {z : Str} {lo hi : Option Int} {tl th : TO} (h : Ev te σ H (.str z)) (h1 : EvO tl σ H lo) (h2 : EvO th σ H hi) (hz : z.length ≤ 100000) : Ev (tSl rSlS te tl th) σ H (.str (cutS z lo hi)) := fun H1 e Q q =>
  h H1 e _ fun H2 e2 => h1 H2 (e.trans e2) _ fun H3 e3 => h2 H3 ((e.trans e2).trans e3) _ fun H4 e4 => ⟨z, rfl, sz_of hz, q H4 ((e2.trans e3).trans e4)⟩
end
end KR
namespace K38
open PySem PySem.Spec PyProof.Rows L2 Evl KD KR RZ
theorem cut_cps (z : Str) (lo hi : Option Int) : (cutS z lo hi).cps.toList = (z.cps.toList.drop (HT.sIx z.length 0 lo)).take (HT.sIx z.length z.length hi - HT.sIx z.length 0 lo) := by
  unfold cutS
  simp
theorem cut_sub {z : Str} {lo hi : Option Int} {c : Nat} (h : c ∈ (cutS z lo hi).cps.toList) : c ∈ z.cps.toList := by
  rw [cut_cps] at h
  exact List.mem_of_mem_drop (List.mem_of_mem_take h)
theorem len_cps (z : Str) : z.length = z.cps.toList.length := by rw [Array.length_toList]; rfl
theorem cut_len (z : Str) (lo hi : Option Int) : (cutS z lo hi).length ≤ z.length := by
  rw [len_cps, len_cps z, cut_cps, List.length_take, List.length_drop]
  omega
theorem app_len (s t : Str) : (s ++ t).length = s.length + t.length := by rw [len_cps, cps_app, List.length_append, ← len_cps, ← len_cps]
theorem cut2_len (z : Str) {j : Nat} (hj : j ≤ z.length) : (cutS z none (some (j : Int))).length + (cutS z (some (j : Int)) none).length = z.length := by
  rw [len_cps, len_cps (cutS z (some (j : Int)) none), cut_cps, cut_cps, List.length_take, List.length_take, List.length_drop, List.length_drop, ← len_cps, HT.sIx_nat, HT.sIx_nat, HT.sIx_none, HT.sIx_none]
  omega
theorem ne_first {s : Str} (h : s ≠ "") : ∃ c r, s.cps.toList = c :: r := by
  cases e : s.cps.toList with
  | nil => exact absurd (str_ext (t := "") (e.trans (by decide +kernel))) h
  | cons c r => exact ⟨c, r, rfl⟩
section
variable {P : Program} {w : World} {K : PySem.W.Frag} {mg : Str → Option Value} {base : Heap}
def spTx : Sp := fun vs H Q E => ∃ (a : Addr × Addr) (b : Nat) (va : V) (al : Al), vs = [.ref a.1, va, .int 7] ∧ StA a b H ∧ b + 12 ≤ 1000000 ∧ Dp K H va al.d ∧ GA al ∧ ∀ z H', okText al z → 1 ≤ z.length → z.length ≤ 9 → ExS a H H' → StA a (b + 12) H' → Q (.str z) H'
theorem ok_law_text (G : Pg K mg) {k : Nat} : FnOk P w K mg base CX0 (k + 2) G.f_law_text G.fd_law_text ["state", "alphabet", "most"] (spTx (K := K)) := by
  refine Fun.ok G.F_law_text sc_law_text (fun vs H Q E h => ?_) (fun cdv A outer s H vs Q E hr h => ?_)
  · obtain ⟨a, b, va, al, rfl, _⟩ := h
    rfl
  · have hr_law_next := hr
    have G_law_next := ok_law_next (P := P) (w := w) (base := base) G (k := k)
    refine ⟨_, (pss_cons (ps_set (i := 3) sc_law_text.nd rfl (Or.inr rfl) (pe_join pe_str (pv 1)))
      (pss_cons (ps_set (i := 4) sc_law_text.nd rfl (Or.inl rfl) (pe_join pe_str (pe_lc (own := [("k", 6)]) rfl sc_law_text.nd (pi_range1 (by rfl) G.n_range (pa_cons (pe_op op_add pe_int (pe_call G_law_next hr_law_next (by rfl) G.m_law_next G.k_law_next G.b_law_next .nil pass0 (pa_cons (pv 0) (pa_cons (pv 2) pa_nil)))) pa_nil)) (blkOk_by (own := [("k", 6)]) (N := ["state", "alphabet", "most", "letters", "text", "at", "k"]) (sc := defScope s_law_text) (by decide +kernel)) (fun _ _ _ _ _ => (pg_name (i := 6) sc_law_text.nd rfl (Or.inl rfl))) (fun _ _ _ _ _ => pts_nil) (fun _ _ _ _ _ => (pe_ix ix_str (pv 3) (pe_call G_law_next hr_law_next (by rfl) G.m_law_next G.k_law_next G.b_law_next .nil pass0 (pa_cons (pv 0) (pa_cons (pe_callB (lenK (K := K) rfl) (by rfl) G.n_len (by decide +kernel) (pa_cons (pv 3) pa_nil)) pa_nil))) (fun _ _ => rfl))))))
      (pss_cons (ps_if (PW.pt (pw_and (pt_cmpR op_ne (pe_ix ix_tup (pv 1) pe_int (fun _ _ => rfl)) pe_str (nomark _)) (pw_and (pt_cmpR op_ne (pe_ix ix_tup (pv 1) pe_int (fun _ _ => rfl)) pe_str (nomark _)) (pw_and1 (pt_cmpR op_eq (pe_call G_law_next hr_law_next (by rfl) G.m_law_next G.k_law_next G.b_law_next .nil pass0 (pa_cons (pv 0) (pa_cons pe_int pa_nil))) pe_int (nomark _)))))) (pss_cons (ps_set (i := 5) sc_law_text.nd rfl (Or.inl rfl) (pe_call G_law_next hr_law_next (by rfl) G.m_law_next G.k_law_next G.b_law_next .nil pass0 (pa_cons (pv 0) (pa_cons (pe_op op_add (pe_callB call_len (by rfl) G.n_len (by decide +kernel) (pa_cons (pv 4) pa_nil)) pe_int) pa_nil))))
        (pss_one (ps_set (i := 4) sc_law_text.nd rfl (Or.inl rfl) (pe_op op_add_str (pe_op op_add_str (pe_op op_add_str (pe_ix ix_str (pe_ix ix_tup (pv 1) pe_int (fun _ _ => rfl)) pe_int (fun _ _ => rfl)) (pe_slice sl_str (pv 4) po_none (po_some (pv 5)))) (pe_ix ix_str (pe_ix ix_tup (pv 1) pe_int (fun _ _ => rfl)) pe_int (fun _ _ => rfl))) (pe_slice sl_str (pv 4) (po_some (pv 5)) po_none))))) pss_nil)
      (pss_one (ps_ret (pv 4)))))), ?_⟩
    obtain ⟨a, b, va, al, rfl, hst, hb, hda, hga, hres⟩ := h
    have hl1 := hga.len1
    have hl6 := hga.len
    have hsh := hga.short
    refine q_asg (al_join hsh (evd_var rfl hda)) fun H1 e1 => ?_
    have s1 := hst.mono e1
    have hda1 := Dpx e1 hda
    refine asg_of (m1_of (lc_rng (cons_of (op_of (c_of (use_next (m := 7) s1 (by omega) rfl (ev_var rfl) (by decide) fun r H2 r0 r1 y2 s2 => ⟨1, r, rfl, rfl, nil_of ⟨_, rfl, by omega, by omega, fun Dl hDl => ?_⟩⟩))))))
    obtain ⟨n, hn⟩ : ∃ n : Nat, 1 + r = n := ⟨(1 + r).toNat, by omega⟩
    rw [hn, Int.toNat_natCast]
    have hDlo := s2.off hDl
    have x2 : ExS a H H2 := (ExS.of e1).trans y2
    refine lb_M walk_range (fun i H' => ExS a H2 H' ∧ StA a (b + 1 + i) H' ∧ ∃ l : List Nat, H' Dl = some (.lst ((l.map one).map V.str)) ∧ l.length = i ∧ ∀ c ∈ l, al.has c = true)
      ⟨(ExS.refl a H2).mut hDl, s2.upd hDlo, [], upd_same, rfl, fun c hc => by simp at hc⟩ (fun _ _ _ _ => trivial) (fun _ => rfl) (fun i x H3 H4 hi p y => ?_) fun H3 p => ?_
    · obtain ⟨p1, p2, l, p3, p4, p5⟩ := p
      obtain ⟨rfl, rfl⟩ := y
      refine op_of ⟨.str al.all, rfl, use_next (m := (al.all.length : Nat)) p2 (by omega) rfl (ev_lenS (ev_var rfl) (by omega)) (by omega) fun r1 H5 r10 r11 y5 s5 => ?_⟩
      obtain ⟨i1, rfl⟩ : ∃ i1 : Nat, r1 = i1 := ⟨r1.toNat, by omega⟩
      have hi1 : i1 < al.all.length := by omega
      have h5 := y5 _ _ hDlo.1 p3
      refine ⟨al.all, (i1 : Nat), at_ al.all i1, rfl, rfl, sz_of (by omega), atI_at hi1, _, h5, sz_lt (by simp; omega), (p1.trans y5).mut hDl, (s5.upd hDlo).le (by omega), l ++ [at_ al.all i1], by rw [upd_same]; simp; rfl, by simp [p4], fun c hc => ?_⟩
      rcases List.mem_append.mp hc with hc | hc
      · exact p5 c hc
      · rw [List.mem_singleton.mp hc]
        refine decide_eq_true ?_
        have h' : i1 < al.all.cps.toList.length := by rw [Array.length_toList]; exact hi1
        unfold at_
        rw [List.getD_eq_getElem?_getD, List.getElem?_eq_getElem h']
        exact List.getElem_mem h'
    · obtain ⟨p1, p2, l, p3, p4, p5⟩ := p
      have x3 := x2.trans p1
      refine ⟨"", Dl, l.map one, rfl, rfl, .inl (sq_of p3), ?_, ?_⟩
      · have : ((l.map one).map (·.length)).sum ≤ l.length := by
          clear p3 p4 p5
          induction l with
          | nil => exact Nat.le_refl _
          | cons x l ih => simp only [List.map_cons, List.sum_cons, List.length_cons]; show 1 + _ ≤ _; omega
        show _ + (l.map one).length * 0 ≤ _
        omega
      obtain ⟨z, hz⟩ : ∃ z, Txt.join "" (l.map one) = z := ⟨_, rfl⟩
      have hzc : z.cps.toList = l := by rw [← hz, join_ones]
      rw [hz]
      have hzl : z.length = n := by rw [len_cps, hzc, p4]
      have hzok : okText al z := fun c hc => p5 c (by rw [← hzc]; exact hc)
      have hda3 : Dp K H3 va al.d := dp_imm (p1.tups s2) _ _ (al_imm al) (dp_imm (y2.tups s1) _ _ (al_imm al) hda1)
      have s3 : StA a (b + 8) H3 := p2.le (by omega)
      clear p3 p4 p5 hzc hz l
      have an : ∀ {σ : L2.St} {H1 : Hp}, Dp K H1 va al.d → σ[1]? = some (some va) → EvD K (tVar 1) σ H1 al.d := fun x h => evd_var h x
      have nev : ∀ {s : Str}, decide (V.str s = V.str (Str.ofString "")) = decide (s = "") := fun {s} => dstr _ _
      have fin : ∀ (H' : Hp) (σ : L2.St) (z : Str), σ[4]? = some (some (.str z)) → ExS a H H' → StA a (b + 12) H' → okText al z → 1 ≤ z.length → z.length ≤ 9 → tRet (tVar 4) { nx := fun x H' => Q .non H', rt := Q } σ H' := fun H' σ z h4 x' s' hk h1 h9 => s_ret (ev_var h4) fun H6 e6 => hres z H6 hk h1 h9 (x'.trans (ExS.of e6)) (s'.mono e6)
      have stop : ∀ H', Ex H3 H' → tRet (tVar 4) { nx := fun x H' => Q .non H', rt := Q } [some (.ref a.1), some va, some (.int 7), some (.str al.all), some (.str z), none, none] H' := fun H' e => fin H' _ z rfl (x3.trans (ExS.of e)) ((s3.mono e).le (by omega)) hzok (by omega) (by omega)
      refine seq_of (ifS_of (and_of (b := !decide (al.a = "")) (et_is (et_test (ev_ne (evd_str (evd_ixT (an hda3 rfl) ev_c rfl)) ev_c)) (by rw [nev])) (fun hb1 H4 e4 => ?_) fun _ H4 e4 => stop H4 e4))
      refine and_of (b := !decide (al.c = "")) (et_is (et_test (ev_ne (evd_str (evd_ixT (an (Dpx e4 hda3) rfl) ev_c rfl)) ev_c)) (by rw [nev])) (fun hb2 H5 e5 => ?_) fun _ H5 e5 => stop H5 (e4.trans e5)
      have e35 := e4.trans e5
      have s5 := s3.mono e35
      have hda5 := Dpx e35 hda3
      refine test_of (op_of (use_next (m := 2) s5 (by omega) rfl ev_c (by decide) fun r2 H6 r20 r21 y6 s6 => c_of ?_))
      have x6 := (x3.trans (ExS.of e35)).trans y6
      have hda6 : Dp K H6 va al.d := dp_imm (y6.tups s5) _ _ (al_imm al) hda5
      refine (rv_eq (H := H6) (x := .int r2) (y := .int 0) (by rfl)) H6 (Ex.refl H6) _ fun H7 e7 => ⟨_, rfl, ?_⟩
      have x7 := x6.trans (ExS.of e7)
      have s7 := s6.mono e7
      have hda7 := Dpx e7 hda6
      by_cases hr : r2 = 0
      · rw [if_pos (by rw [dint]; exact decide_eq_true hr)]
        obtain ⟨c0, ra, hc0⟩ := ne_first (s := al.a) (by simpa using hb1)
        obtain ⟨c2, rc, hc2⟩ := ne_first (s := al.c) (by simpa using hb2)
        have hz1 := ev_add (σ := [some (.ref a.1), some va, some (.int 7), some (.str al.all), some (.str z), none, none]) (H := H7) (ev_lenS (K := K) (ev_var (i := 4) rfl) (by omega : z.length ≤ 100000)) (ev_c (v := .int 1))
        refine asg_of (use_next (m := (z.length : Nat) + 1) s7 (by omega) rfl hz1 (by omega) fun r3 H8 r30 r31 y8 s8 => ?_)
        obtain ⟨j, rfl⟩ : ∃ j : Nat, r3 = j := ⟨r3.toNat, by omega⟩
        have x8 := x7.trans y8
        have hda8 : Dp K H8 va al.d := dp_imm (y8.tups s7) _ _ (al_imm al) hda7
        have hc2l := cut2_len z (j := j) (by omega)
        have l0 : ∀ c : Nat, (one c).length = 1 := fun _ => rfl
        have hA := cut_len z none (some (j : Int))
        have hB := cut_len z (some (j : Int)) none
        have ha20 := (hsh al.a (by simp)).1
        have hc20 := (hsh al.c (by simp)).1
        refine asg_of1 (i := 4) ((ev_addS (ev_addS (ev_addS (s := one c0) (ev_ixS (evd_str (evd_ixT (an hda8 rfl) ev_c rfl)) ev_c (by omega) (by rw [hc0]; exact at0 _ _)) (ev_slS (ev_var rfl) eo_none (eo_some (ev_var rfl)) (by omega)) ?_) (t := one c2) (ev_ixS (evd_str (evd_ixT (an hda8 rfl) ev_c rfl)) ev_c (by omega) (by rw [hc2]; exact at0 _ _)) ?_) (ev_slS (ev_var rfl) (eo_some (ev_var rfl)) eo_none (by omega)) ?_) H8 (Ex.refl H8) _ fun H9 e9 => ?_)
        · rw [l0]; omega
        · rw [app_len, l0, l0]; omega
        · rw [app_len, app_len, l0, l0]; omega
        · refine fin H9 _ _ rfl (x8.trans (ExS.of e9)) ((s8.mono e9).le (by omega)) (fun c hc => ?_) ?_ ?_
          · rw [cps_app, cps_app, cps_app, List.mem_append, List.mem_append, List.mem_append] at hc
            rcases hc with ((hc | hc) | hc) | hc
            · refine decide_eq_true (hga.mem (.inl ?_))
              rw [List.mem_singleton.mp (show c ∈ [c0] from hc), hc0]
              exact List.mem_cons_self
            · exact hzok c (cut_sub hc)
            · refine decide_eq_true (hga.mem (.inr (.inr ?_)))
              rw [List.mem_singleton.mp (show c ∈ [c2] from hc), hc2]
              exact List.mem_cons_self
            · exact hzok c (cut_sub hc)
          · rw [app_len, app_len, app_len, l0, l0]; omega
          · rw [app_len, app_len, app_len, l0, l0]; omega
      · rw [if_neg (by rw [dint, decide_eq_true_eq]; exact hr)]
        exact fin H7 _ z rfl x7 (s7.le (by omega)) hzok (by omega) (by omega)
end
end K38
namespace K38
open PySem PySem.Spec PyProof.Rows L2 Evl KD KR RZ
section
variable {P : Program} {w : World} {K : PySem.W.Frag} {mg : Str → Option Value} {base : Heap}
def spSt : Sp := fun vs H Q E => ∃ (a : Addr) (ns : List Int), vs = [.ref a] ∧ SqL K H a (ns.map V.int) ∧ ∀ p (ms : List Int) H', H p = none → Ex H H' → H' p = some (.lst (ms.map V.int)) → 0 < ms.length → ms.length ≤ 10000 → Q (.ref p) H'
theorem cutV_len {xs : List V} {n : Nat} : (cutV xs none (some (n : Int))).length ≤ n := by
  unfold cutV
  rw [List.length_take, HT.sIx_nat, HT.sIx_none]
  omega
theorem cutV_mem {xs : List V} {lo hi : Option Int} {x : V} (h : x ∈ cutV xs lo hi) : x ∈ xs := by
  unfold cutV at h
  exact List.mem_of_mem_drop (List.mem_of_mem_take h)
theorem ok_law_stream (G : Pg K mg) {k : Nat} : FnOk P w K mg base CX0 (k + 1) G.f_law_stream G.fd_law_stream ["script"] (spSt (K := K)) := by
  refine Fun.ok G.F_law_stream sc_law_stream (fun vs H Q E h => ?_) (fun cdv A outer s H vs Q E hr h => ?_)
  · obtain ⟨a, ns, rfl, _⟩ := h
    rfl
  · refine ⟨_, (pss_cons (ps_set (i := 1) sc_law_stream.nd rfl (Or.inl rfl) (pe_lst pa_nil))
      (pss_cons (ps_for PassesOwn.never rfl (pi_list (pe_slice sl_list (pv 0) po_none (po_some pe_int))) (pg_name (i := 2) sc_law_stream.nd rfl (Or.inl rfl)) (pss_cons (ps_set (i := 3) sc_law_stream.nd rfl (Or.inl rfl) (pe_callB call_abs (by rfl) G.n_abs (by decide +kernel) (pa_cons (pe_callTy call_int1 (by rfl) G.n_int (by decide +kernel) (pa_cons (pv 2) pa_nil)) pa_nil)))
        (pss_one (ps_if (pt_cmpR op_ge (pv 3) (pe_op op_pow pe_int pe_int) (nomark _)) (pss_one (ps_for PassesOwn.never rfl (pi_range1 (by rfl) G.n_range (pa_cons pe_int pa_nil)) (pg_name (i := 4) sc_law_stream.nd rfl (Or.inl rfl)) (pss_cons (ps_expr (pe_bm PySem.F.plainAttrs_list PySem.F.slot_list_append PySem.F.type_list_append mt_append (pv 1) (pa_cons (pe_op op_mod (pe_callTy call_int1 (by rfl) G.n_int (by decide +kernel) (pa_cons (pv 3) pa_nil)) pe_int) pa_nil)))
            (pss_cons (ps_set (i := 3) sc_law_stream.nd rfl (Or.inl rfl) (pe_op op_fdiv (pv 3) pe_int))
            (pss_one (ps_if (pt_cmpR op_eq (pv 3) pe_int (nomark _)) (pss_one ps_break) pss_nil)))))) (pss_cons (ps_set (i := 5) sc_law_stream.nd rfl (Or.inl rfl) (pe_op op_mod (pe_callTy call_int1 (by rfl) G.n_int (by decide +kernel) (pa_cons (pv 3) pa_nil)) pe_int))
          (pss_one (ps_for PassesOwn.never rfl (pi_range1 (by rfl) G.n_range (pa_cons pe_int pa_nil)) (pg_name (i := 4) sc_law_stream.nd rfl (Or.inl rfl)) (pss_cons (ps_set (i := 5) sc_law_stream.nd rfl (Or.inl rfl) (pe_op op_mod (pe_callTy call_int1 (by rfl) G.n_int (by decide +kernel) (pa_cons (pe_op op_add (pe_op op_add (pe_op op_mul (pv 5) pe_int) (pe_op op_mul pe_int (pv 4))) pe_int) pa_nil)) pe_int))
            (pss_one (ps_expr (pe_bm PySem.F.plainAttrs_list PySem.F.slot_list_append PySem.F.type_list_append mt_append (pv 1) (pa_cons (pe_op op_mod (pe_op op_mod (pe_callTy call_int1 (by rfl) G.n_int (by decide +kernel) (pa_cons (pe_op op_add (pe_op op_mul (pv 5) pe_int) (pv 4)) pa_nil)) pe_int) pe_int) pa_nil))))))))))))
      (pss_cons (ps_if (pt_cmpR op_eq (pe_callB call_len (by rfl) G.n_len (by decide +kernel) (pa_cons (pv 1) pa_nil)) pe_int (nomark _)) (pss_one (ps_expr (pe_bm PySem.F.plainAttrs_list PySem.F.slot_list_append PySem.F.type_list_append mt_append (pv 1) (pa_cons pe_int pa_nil)))) pss_nil)
      (pss_one (ps_ret (pv 1)))))), ?_⟩
    obtain ⟨a, ns, rfl, hs, hres⟩ := h
    refine q_asgL (el_lst ea_nil (by decide)) fun pn H1 hpn e1 h1 => ?_
    refine q_forNL (el_sl (K := K) (ev_var (v := .ref a) rfl) eo_none (eo_some ev_c) (ex_l e1 hs)) (fun p i σ' H' => Ex H H' ∧ H' p = some (.lst (cutV (ns.map V.int) none (some 63))) ∧ p ≠ pn ∧ ∃ (ms : List Int) (x2 x3 x4 x5 : Option V), σ' = [some (.ref a), some (.ref pn), x2, x3, x4, x5] ∧ H' pn = some (.lst (ms.map V.int)) ∧ ms.length ≤ 60 * i)
      (fun p H2 hp e2 h2 => ⟨e1.trans e2, h2, fun z => (by rw [z, h1] at hp; cases hp), [], none, none, none, none, rfl, e2 _ _ h1, by simp⟩) (fun p i σ' H' _ q => sq_of q.2.1) (fun p i x σ' H2 hx q => ?_) fun p σ' H2 q => ?_
    · obtain ⟨q1, q2, q3, ms, x2, x3, x4, x5, rfl, q4, q5⟩ := q
      have hi63 : i < 63 := Nat.lt_of_lt_of_le (List.getElem?_eq_some_iff.mp hx).1 (cutV_len (n := 63))
      obtain ⟨n, hn, rfl⟩ := List.mem_map.mp (cutV_mem (List.mem_of_getElem? hx))
      refine q_asg (v := .int (if n < 0 then -n else n)) (ev_abs (ev_inti (ev_var rfl))) fun H3 e3 => ?_
      obtain ⟨r, hr, hr0⟩ : ∃ r : Int, (if n < 0 then -n else n) = r ∧ 0 ≤ r := ⟨_, rfl, by split <;> omega⟩
      rw [hr]
      refine s_if (b := decide ((10 : Int) ^ (18 : Int).toNat ≤ r)) (et_test (ev_ge (ev_var rfl) (ev_op ev_c ev_c (rv_I ⟨by decide, by decide, by decide⟩)))) (fun _ H4 e4 => ?_) fun _ H4 e4 => ?_
      · have e34 := e3.trans e4
        refine s_forS (evs_range1 (n := 60) (ea_cons ev_c ea_nil) (by decide)) (fun H5 j σ' H' => Ex H H' ∧ H' p = some (.lst (cutV (ns.map V.int) none (some 63))) ∧ ∃ (ms : List Int) (r : Int) (x4 : Option V), σ' = [some (.ref a), some (.ref pn), some (.int n), some (.int r), x4, x5] ∧ 0 ≤ r ∧ H' pn = some (.lst (ms.map V.int)) ∧ ms.length ≤ 60 * i + j)
          (fun H5 e5 => ⟨q1.trans (e34.trans e5), e5 _ _ (e34 _ _ q2), ms, r, x4, rfl, hr0, e5 _ _ (e34 _ _ q4), by omega⟩) (fun _ _ _ _ _ _ _ => trivial) (fun H5 j y σ' H' H6 e5 hj q e6 yy => ?_) fun H5 σ' H' e5 q => ?_
        · obtain ⟨g1, g2, ms', r', x4', rfl, g3, g4, g5⟩ := q
          subst yy
          refine q_app (e6 _ _ g4) (ev_var rfl) (ev_mod (ev_inti (ev_var rfl)) ev_c (by decide)) (by rw [List.length_map]; omega) fun H7 e7 => ?_
          generalize hH8 : upd H7 pn (.lst (ms'.map V.int ++ [.int (r' % 1009)])) = H8
          have x8 : Ex H H8 := by rw [← hH8]; exact Ex.mut (g1.trans (e6.trans e7)) hpn
          have p8 : H8 p = some (.lst (cutV (ns.map V.int) none (some 63))) := by rw [← hH8, upd_ne q3]; exact e7 _ _ (e6 _ _ g2)
          have n8 : H8 pn = some (.lst ((ms' ++ [r' % 1009]).map V.int)) := by rw [← hH8, upd_same]; simp
          have hlen : (ms' ++ [r' % 1009]).length ≤ 60 * i + (j + 1) := by rw [List.length_append]; show _ + 1 ≤ _; omega
          refine q_asg (v := .int (r' / 1009)) (ev_fdiv (ev_var rfl) ev_c ⟨by decide, by decide⟩) fun H9 e9 => ?_
          have hq : 0 ≤ r' / 1009 := Int.ediv_nonneg g3 (by decide)
          refine s_when (b := decide (r' / 1009 = 0)) (et_is (et_test (ev_eq (ev_var rfl) ev_c)) (dint _ _)) (fun _ H10 e10 => ?_) fun _ H10 e10 => ?_
          · exact ⟨x8.trans (e9.trans e10), (e9.trans e10) _ _ p8, q3, ms' ++ [r' % 1009], _, _, _, _, rfl, (e9.trans e10) _ _ n8, by omega⟩
          · exact ⟨x8.trans (e9.trans e10), (e9.trans e10) _ _ p8, ms' ++ [r' % 1009], _, _, rfl, hq, (e9.trans e10) _ _ n8, hlen⟩
        · obtain ⟨g1, g2, ms', r', x4', rfl, g3, g4, g5⟩ := q
          exact ⟨g1, g2, q3, ms', _, _, _, _, rfl, g4, by omega⟩
      · have e34 := e3.trans e4
        refine q_asg (v := .int (r % 2147483647)) (ev_mod (ev_inti (ev_var rfl)) ev_c (by decide)) fun H4' e4' => ?_
        have e34' := e34.trans e4'
        refine s_forS (evs_range1 (n := 10) (ea_cons ev_c ea_nil) (by decide)) (fun H5 j σ' H' => Ex H H' ∧ H' p = some (.lst (cutV (ns.map V.int) none (some 63))) ∧ ∃ (ms : List Int) (t : Int) (x4 : Option V), σ' = [some (.ref a), some (.ref pn), some (.int n), some (.int r), x4, some (.int t)] ∧ H' pn = some (.lst (ms.map V.int)) ∧ ms.length ≤ 60 * i + j)
          (fun H5 e5 => ⟨q1.trans (e34'.trans e5), e5 _ _ (e34' _ _ q2), ms, _, x4, rfl, e5 _ _ (e34' _ _ q4), by omega⟩) (fun _ _ _ _ _ _ _ => trivial) (fun H5 j y σ' H' H6 e5 hj q e6 yy => ?_) fun H5 σ' H' e5 q => ?_
        · obtain ⟨g1, g2, ms', t, x4', rfl, g4, g5⟩ := q
          subst yy
          refine q_asg (v := .int ((t * 48271 + 7 * (j : Nat) + 11) % 2147483647)) (ev_mod (ev_inti (ev_add (ev_add (ev_mul (ev_var rfl) ev_c (.inr ⟨by decide, by decide⟩)) (ev_mul ev_c (ev_var rfl) (.inl ⟨by decide, by decide⟩))) ev_c)) ev_c (by decide)) fun H7 e7 => ?_
          refine s_app (e7 _ _ (e6 _ _ g4)) (ev_var rfl) (ev_mod (ev_mod (ev_inti (ev_add (ev_mul (ev_var rfl) ev_c (.inr ⟨by decide, by decide⟩)) (ev_var rfl))) ev_c (by decide)) ev_c (by decide)) (by rw [List.length_map]; omega) fun H8 e8 => ?_
          refine ⟨Ex.mut (g1.trans (e6.trans (e7.trans e8))) hpn, by rw [upd_ne q3]; exact e8 _ _ (e7 _ _ (e6 _ _ g2)), ms' ++ [_], _, _, rfl, by rw [upd_same, List.map_append]; rfl, by rw [List.length_append]; show _ + 1 ≤ _; omega⟩
        · obtain ⟨g1, g2, ms', t, x4', rfl, g4, g5⟩ := q
          refine ⟨g1, g2, q3, ms', _, _, _, _, rfl, g4, ?_⟩
          have : ms'.length ≤ 60 * i + 10 := g5
          omega
    · obtain ⟨q1, q2, q3, ms, x2, x3, x4, x5, rfl, q4, q5⟩ := q
      have hl63 : (cutV (ns.map V.int) none (some 63)).length ≤ 63 := cutV_len (n := 63)
      have ln := ev_lenL (K := K) (σ := [some (.ref a), some (.ref pn), x2, x3, x4, x5]) (H := H2) (evd_var (i := 1) rfl (.lst (sq_of q4) (dpAll_ints ms)))
      rw [List.length_map] at ln
      refine q_when (b := decide (((ms.length : Nat) : Int) = 0)) (et_is (et_test (ev_eq ln ev_c)) (dint _ _)) (fun hb H3 e3 => ?_) fun hb H3 e3 => ?_
      · have hm : ms = [] := List.eq_nil_of_length_eq_zero (by have := of_decide_eq_true hb; omega)
        subst hm
        refine s_app (e3 _ _ q4) (ev_var rfl) (ev_c (v := .int 0)) (by decide) fun H4 e4 => ?_
        refine s_ret (v := .ref pn) (ev_var rfl) fun H5 e5 => hres pn [0] H5 hpn ((Ex.mut (q1.trans (e3.trans e4)) hpn).trans e5) (e5 _ _ (by rw [upd_same]; rfl)) (by decide) (by decide)
      · have hm : 0 < ms.length := by have := of_decide_eq_false hb; omega
        exact s_ret (v := .ref pn) (ev_var rfl) fun H5 e5 => hres pn ms H5 hpn (q1.trans (e3.trans e5)) (e5 _ _ (e3 _ _ q4)) hm (by omega)
end
end K38
set_option maxHeartbeats 4000000
namespace KR
open PySem PySem.Spec PyProof.Rows L2 LamX
section
variable {X : Cx} {pins : List (Addr × Obj)} {σ : L2.St} {H HZ : Hp} {s s1 : Shared}
/-- x(), in the def that got the lambda: Z is that def's context, entered at s -/
theorem pe_act4 {CXg : CXT} {Eg : XK} {Ng : List Str} {qg : Str} {sg : Scope} {g f c' : Addr} {cdg pm ctv : Value} {params : Arguments} {body : Expr} {scope : Scope} {k i : Nat} {a : Str} {pn : List (Addr × Obj)} {xe : Value → Shared → Prop} {W : WX} {tb : XK → TE} {p1 p2 : Pos} {dv : Value} {hold : List Addr}
    (I : Inv X pins σ H s) (L : LamP X.N X.env.scope scope) (hf : s.heap.get? f = some (lamObj "<lambda>" (X.env.qual ++ "<lambda>") params body scope (cloFrom X.env.cells scope.names []) pm (.ref c') ctv dv)) (hfn : H f = none) (hfr : f ∉ frs X.stack)
    (hbind : ∀ s1 : Shared, (∀ b ∈ hold, ∀ o, s.heap.get? b = some o → s1.heap.get? b = some o) → ∃ binds, BindsTo s1 (lamFn "<lambda>" (X.env.qual ++ "<lambda>") params body scope (cloFrom X.env.cells scope.names []) pm (.ref c') ctv dv) ⟨[], []⟩ binds ∧ ∀ y ∈ binds, scope.names.lookup y.1 = some .local)
    (hhold : ∀ b ∈ hold, H b = none ∧ b ∉ frs X.stack)
    (tk : L2N.Takes ((cxOf CXg X.prog X.w X.K X.mg X.base Ng qg sg g cdg X.A X.stack s H Eg).tr pn xe) W) (hr : Room (k + 1) (X.A.deeper (envOfC qg sg s.heap.objs.size g cdg)))
    (hbody : ∀ (A : Around) (outer : List Env) (s : Shared) (H : Hp) (E : XK), Room k (A.deeper (lamEnvX X scope s.heap.objs.size f c')) → PE (lamCxX X A outer s H E scope f c') body (tb E))
    (hN : Ng[i]? = some a) (hv : Vis sg a) (hd : (a == ("__debug__" : Str)) = false := by decide) (hcd : (a == ("__classdict__" : Str)) = false := by decide) :
    PE ((cxOf CXg X.prog X.w X.K X.mg X.base Ng qg sg g cdg X.A X.stack s H Eg).tr pn xe) (.Call (.Name a p1) [] [] p2)
      (fun σZ HZ Q => σZ[i]? = some (some (.ref f)) ∧ HZ c' = some (CodeO c' (X.env.qual ++ "<lambda>")) ∧ tb (WE W σZ) σ HZ Q) := by
  refine ⟨fun pinsZ sZ σZ HZ Q IZ h => ?_⟩
  obtain ⟨hs, hc, ht⟩ := h
  refine wpAny_Call_Name_kw (thn ((pe_var (pos := p1) (i := i) hN hv hd hcd).run pinsZ sZ σZ HZ (fun v H1 => v = .ref f ∧ H1 = HZ) IZ ⟨.ref f, hs, rfl, rfl⟩) fun u s1 ⟨v, H1, I1, r1, q1⟩ => ?_)
  obtain ⟨ev, eH⟩ := q1
  subst ev
  rw [eH] at I1
  obtain rfl : u = Value.ref f := r1
  have of1 : s1.heap.get? f = some (lamObj "<lambda>" (X.env.qual ++ "<lambda>") params body scope (cloFrom X.env.cells scope.names []) pm (.ref c') ctv dv) := I1.base.keep f _ hf hfn hfr (fun z => nomatch (show f ∈ ([] : List Addr) from z))
  refine PySem.W.callWith_F0 ⟨_, _, _, _, of1⟩ ?_
  have un : Un (frs X.stack) [] H HZ s.heap s1.heap := I1.base
  obtain ⟨⟨oc, vs, t, hoc, hdc, hvc⟩, _, _⟩ := I1.hok c' _ hc
  have rc : codeAny (model X.prog X.w) (X.A.deeper (envOfC qg sg s.heap.objs.size g cdg)) (.call (.ref f) ⟨[], []⟩) (CR (L2N.CX X.prog X.w) (envOfC qg sg s.heap.objs.size g cdg :: X.stack) X.prog X.w HZ s1 Q (WE W σZ)) s1 := by
    refine PySem.W.kla_callFunE hr.depth of1 rfl L.co L.gen rfl ⟨c', oc, vs, t, rfl, hoc, hdc, hvc⟩ ?_
    obtain ⟨binds, hb1, hb2⟩ := hbind s1 fun b hb o e => I1.base.keep b o e (hhold b hb).1 (hhold b hb).2 (fun z => nomatch (show b ∈ ([] : List Addr) from z))
    refine hb1 _ _ _ _ (wpAny_newFunctionEnv (fun y hy => L.noc y hy) hb2 (fun h₁ hns hsb => ⟨I1.nolimit.fresh _ hsb, ?_⟩) L.kind)
    show codeAny _ _ (.expr body (lamEnvX X scope s1.heap.objs.size f c')) _ _
    have kp : ∀ b o, s1.heap.get? b = some o → h₁.get? b = some o := fun b o e => hsb.extBut b o (Nat.ne_of_lt (Heap.lt_size e)) (Heap.get?_push_of_some _ e)
    have J : Inv (lamCxX X (X.A.deeper (envOfC qg sg s.heap.objs.size g cdg)) (envOfC qg sg s.heap.objs.size g cdg :: X.stack) s1 HZ (WE W σZ) scope f c') [] σ HZ { s1 with heap := h₁, toks := s1.toks + binds.length } :=
      lam_start3 I L I1.env0 hr.hd un hns kp
    refine PySem.W.kla_codeExpr (wpAny_mono ((hbody _ _ s1 HZ (WE W σZ) (hr.deeper _)).run [] _ _ HZ Q J ht) (fun v s' hq => ?_) fun e s' hq => hq)
    obtain ⟨w', H', J', rv, q⟩ := hq
    exact ⟨w', H', J'.os, J'.bare, J'.base, J'.hok, rv, q⟩
  have hx : PassesAt (L2N.CX X.prog X.w) ((cxOf CXg X.prog X.w X.K X.mg X.base Ng qg sg g cdg X.A X.stack s H Eg).tr pn xe) σZ (WE W σZ) := L2N.passAt tk σZ
  refine wpAny_call (codeAny_mono rc fun r s' hq => ?_)
  cases r with
  | error e => exact hx pinsZ HZ s1 e s' I1 hq
  | ok fl =>
    cases fl with
    | ret u => exact I1.after hq
    | next => exact False.elim hq
    | brk => exact False.elim hq
    | cont => exact False.elim hq
end
end KR
namespace KR
open PySem PySem.Spec PyProof.Rows L2 Evl KD LamX
/-- the context of the body of the def that got the lambda -/
abbrev gotCx4 (X : Cx) (Ng : List Str) (x : Str) (sg : Scope) (g : Addr) (cdg : Value) (s : Shared) (H : Hp) : Cx := cxOf C8.CX0 X.prog X.w X.K X.mg X.base Ng x sg g cdg X.A X.stack s H C8.E0
/-- the def that calls what it got -/
def GivesTo4 (X : Cx) (Ng : List Str) (x : Str) (sg : Scope) (g : Addr) (cdg : Value) (bg : List Stmt) (a : Str) (q : Str) (TT : (XK → Hp → VK → Prop) → Hp → VK → Prop) : Prop :=
  ∀ (f c' : Addr) (s : Shared) (H : Hp) (Q : VK) (tl : XK → Hp → VK → Prop),
    (∀ (W : WX) (pn : List (Addr × Obj)) (xe : Value → Shared → Prop) (p1 p2 : Pos), L2N.Takes ((gotCx4 X Ng x sg g cdg s H).tr pn xe) W →
      PE ((gotCx4 X Ng x sg g cdg s H).tr pn xe) (.Call (.Name a p1) [] [] p2) (fun σZ HZ Q => σZ[0]? = some (some (.ref f)) ∧ HZ c' = some (CodeO c' q) ∧ tl (WE W σZ) HZ Q)) →
    H c' = some (CodeO c' q) → TT tl H Q →
    ∃ t, PSs (gotCx4 X Ng x sg g cdg s H).nox bg t ∧ t { nx := fun _ H' => Q .non H', rt := Q } (L2.start Ng [.ref f]) H
section
variable {X : Cx} {T : List (Addr × Str)} {TT : (XK → Hp → VK → Prop) → Hp → VK → Prop} {x a : Str} {g c P : Addr} {k : Nat} {pg : Arguments} {bg : List Stmt} {sg : Scope} {dV kV doc pm cdv ct oc : Value} {an od : Option Addr} {osl : Array (Option Value)} {Ng : List Str}
    {params : Arguments} {body : Expr} {scope : Scope} {t : XK → TE} {p lpos pos : Pos}
/-- the function object stands: the def runs -/
theorem lam_run4 {pins : List (Addr × Obj)} {s' : Shared} {σ : L2.St} {H1 : Hp} {Q : VK} {f c' : Addr} {pm' ctv dv : Value} {hold : List Addr}
    (lk : X.K.lookup g = some ⟨oc, od, .func (PySem.W.fnOf x x pg bg sg dV kV doc pm an cdv ct), osl⟩) (hcg : PySem.W.codeIn X.K cdv x = true) (hb : L2.Binds X.K (PySem.W.fnOf x x pg bg sg dV kV doc pm an cdv ct) [a] []) (Sg : FnScope Ng [a] sg) (hNg : Ng[0]? = some a) (hva : Vis sg a)
    (hG : GivesTo4 X Ng x sg g cdv bg a (X.env.qual ++ "<lambda>") TT) (hr : Room (k + 2) X.A) (L : LamP X.N X.env.scope scope)
    (I1 : Inv X pins σ H1 s') (hf : s'.heap.get? f = some (lamObj "<lambda>" (X.env.qual ++ "<lambda>") params body scope (cloFrom X.env.cells scope.names []) pm' (.ref c') ctv dv)) (hfn : H1 f = none) (hfr : f ∉ frs X.stack) (hco : H1 c' = some (CodeO c' (X.env.qual ++ "<lambda>")))
    (hbind : ∀ s1 : Shared, (∀ b ∈ hold, ∀ o, s'.heap.get? b = some o → s1.heap.get? b = some o) → ∃ binds, BindsTo s1 (lamFn "<lambda>" (X.env.qual ++ "<lambda>") params body scope (cloFrom X.env.cells scope.names []) pm' (.ref c') ctv dv) ⟨[], []⟩ binds ∧ ∀ y ∈ binds, scope.names.lookup y.1 = some .local)
    (hhold : ∀ b ∈ hold, H1 b = none ∧ b ∉ frs X.stack)
    (hbody : ∀ (A : Around) (outer : List Env) (s : Shared) (H : Hp) (E : XK) (f c' : Addr), Room k (A.deeper (lamEnvX X scope s.heap.objs.size f c')) → PE (lamCxX X A outer s H E scope f c') body (t E))
    (h : TT (fun E H' Q' => t E σ H' Q') H1 Q) (hd : (a == ("__debug__" : Str)) = false := by decide) (hcd : (a == ("__classdict__" : Str)) = false := by decide) :
    wpAny (model X.prog X.w) X.A (call (.ref g) [.ref f]) (EP X pins σ Q) X.xe s' := by
  have rc : codeAny (model X.prog X.w) X.A (.call (.ref g) ⟨[.ref f], []⟩) (CR C8.CX0 X.stack X.prog X.w H1 s' Q C8.E0) s' := by
    refine LamX.run_ofS (N := Ng) (ps := [a]) (us := [.ref f]) (vs := [.ref f]) lk hcg Sg hr I1.env0 (hb s' [.ref f] I1.kIn rfl) (.cons rfl .nil) rfl fun hr' => ?_
    obtain ⟨t', ht', hq'⟩ := hG f c' s' H1 Q (fun E H' Q' => t E σ H' Q') (fun W pn xe p1 p2 tk => pe_act4 (i := 0) (tb := t) I1 L hf hfn hfr hbind hhold tk hr' (fun A outer s H E hr2 => hbody A outer s H E f c' hr2) hNg hva hd hcd) hco h
    exact ⟨t', ht'.nox, hq'⟩
  refine wpAny_call (codeAny_mono rc fun r s2 hq => ?_)
  cases r with
  | error e => exact (show False from hq).elim
  | ok fl =>
    cases fl with
    | ret u => exact I1.after hq
    | next => exact False.elim hq
    | brk => exact False.elim hq
    | cont => exact False.elim hq
/-- x(lambda: body) -/
theorem pe_lam04 (hg : Gl X x) (hm : X.mg x = some (.ref g)) (hk : PySem.W.keepIn X.K (.ref g) = true)
    (lk : X.K.lookup g = some ⟨oc, od, .func (PySem.W.fnOf x x pg bg sg dV kV doc pm an cdv ct), osl⟩) (hcg : PySem.W.codeIn X.K cdv x = true) (hb : L2.Binds X.K (PySem.W.fnOf x x pg bg sg dV kV doc pm an cdv ct) [a] []) (Sg : FnScope Ng [a] sg) (hNg : Ng[0]? = some a) (hva : Vis sg a)
    (hG : GivesTo4 X Ng x sg g cdv bg a (X.env.qual ++ "<lambda>") TT)
    (TB : TabB X.base X.mg c P) (hcode : X.env.code = .ref c) (hmT : (P, X.env.qual ++ "<lambda>") ∈ T) (hu : ∀ p ∈ T, p.1 = P → p.2 = X.env.qual ++ "<lambda>") (hr : Room (k + 2) X.A) (L : LamP X.N X.env.scope scope) (hdef : defaultsOf params X.env = ([], []))
    (hbind : ∀ (q : Str) (cl : List (Str × Addr)) (pm cv ctv : Value), bindArgs (lamFn "<lambda>" q params body scope cl pm cv ctv .none) ⟨[], []⟩ = pure [])
    (hbody : ∀ (A : Around) (outer : List Env) (s : Shared) (H : Hp) (E : XK) (f c' : Addr), Room k (A.deeper (lamEnvX X scope s.heap.objs.size f c')) → PE (lamCxX X A outer s H E scope f c') body (t E))
    (hdb : (x == ("__debug__" : Str)) = false := by decide) (hd : (a == ("__debug__" : Str)) = false := by decide) (hcd : (a == ("__classdict__" : Str)) = false := by decide) :
    PE X (.Call (.Name x p) [.Lambda params body scope lpos] [] pos) (tLam T TT t) := by
  refine ⟨fun pins s σ H Q I h => ?_⟩
  obtain ⟨hT, h⟩ := h
  refine wpAny_Call_Name_kw (ld_glob I hg hm ?_ hdb)
  refine PySem.W.callWith_K (h₀ := X.base) I.ok.mod.kin hk ?_ (by rfl) (by rfl)
  show wpAny _ _ (spliced ((false, eval (.Lambda params body scope lpos) X.env) :: backTo pos (starEach [] X.env))) _ _ s
  refine Calls.spliced_cons (PySem.W.kla_eval hdef ?_)
  rw [makeFunction_eq]
  simp only [List.zip_nil_right, List.filterMap_nil, List.isEmpty_nil, if_true, pure_bind]
  refine lam_tail3 I TB hcode hmT hu hT (L.has I.ok) fun f c' pm' ctv H1 s' I1 kp nn eN T1 hf hfn hfr hco => ?_
  refine Calls.spliced_nil ⟨I1.kIn, ?_⟩
  exact lam_run4 (hold := []) lk hcg hb Sg hNg hva hG hr L I1 hf hfn hfr hco (fun s1 _ => ⟨[], .of_eq (hbind _ _ _ _ _), fun y hy => absurd hy (by simp)⟩) (fun b hb => absurd hb (by simp)) hbody (h H1 eN T1) hd hcd
/-- x(lambda y=n: body) -/
theorem pe_lam14 {e0 : Expr} {n0 : Int} {y : Str} {kk : Str → List (Str × Addr) → Value → Value → Value → Value → Option (Array Value) → Sem (List (Str × Value))} (hg : Gl X x) (hm : X.mg x = some (.ref g)) (hk : PySem.W.keepIn X.K (.ref g) = true)
    (lk : X.K.lookup g = some ⟨oc, od, .func (PySem.W.fnOf x x pg bg sg dV kV doc pm an cdv ct), osl⟩) (hcg : PySem.W.codeIn X.K cdv x = true) (hb : L2.Binds X.K (PySem.W.fnOf x x pg bg sg dV kV doc pm an cdv ct) [a] []) (Sg : FnScope Ng [a] sg) (hNg : Ng[0]? = some a) (hva : Vis sg a)
    (hG : GivesTo4 X Ng x sg g cdv bg a (X.env.qual ++ "<lambda>") TT)
    (TB : TabB X.base X.mg c P) (hcode : X.env.code = .ref c) (hmT : (P, X.env.qual ++ "<lambda>") ∈ T) (hu : ∀ p ∈ T, p.1 = P → p.2 = X.env.qual ++ "<lambda>") (hr : Room (k + 2) X.A) (L : LamP X.N X.env.scope scope)
    (hdef : defaultsOf params X.env = ([eval e0 X.env], [])) (he0 : PE X e0 (tC (.int n0)))
    (hbind1 : ∀ (q : Str) (cl : List (Str × Addr)) (pm cv ctv dv : Value), bindArgs (lamFn "<lambda>" q params body scope cl pm cv ctv dv) ⟨[], []⟩ = seqItems? dv >>= kk q cl pm cv ctv dv)
    (hbind2 : ∀ (q : Str) (cl : List (Str × Addr)) (pm cv ctv dv v : Value), kk q cl pm cv ctv dv (some #[v]) = pure [(y, v)]) (hy : scope.names.lookup y = some .local)
    (hbody : ∀ (A : Around) (outer : List Env) (s : Shared) (H : Hp) (E : XK) (f c' : Addr), Room k (A.deeper (lamEnvX X scope s.heap.objs.size f c')) → PE (lamCxX X A outer s H E scope f c') body (t E))
    (hdb : (x == ("__debug__" : Str)) = false := by decide) (hd : (a == ("__debug__" : Str)) = false := by decide) (hcd : (a == ("__classdict__" : Str)) = false := by decide) :
    PE X (.Call (.Name x p) [.Lambda params body scope lpos] [] pos) (tLam T TT t) := by
  refine ⟨fun pins s σ H Q I h => ?_⟩
  obtain ⟨hT, h⟩ := h
  refine wpAny_Call_Name_kw (ld_glob I hg hm ?_ hdb)
  refine PySem.W.callWith_K (h₀ := X.base) I.ok.mod.kin hk ?_ (by rfl) (by rfl)
  show wpAny _ _ (spliced ((false, eval (.Lambda params body scope lpos) X.env) :: backTo pos (starEach [] X.env))) _ _ s
  refine Calls.spliced_cons (lam_eval1 hdef (thn (he0.run pins s σ H (fun v H1 => v = .int n0 ∧ H1 = H) I ⟨rfl, rfl⟩) fun u s0 ⟨v0, H0, I0, r0, q0⟩ => ?_))
  obtain ⟨rfl, eH⟩ := q0
  rw [eH] at I0
  refine lam_fun1 ?_
  have I2 : Inv X pins σ H { s0 with heap := s0.heap.push { cls := .type "tuple", data := .seq #[u] } } := I0.kept (t' := s0.toks) fun b o e => Heap.get?_push_of_some _ e
  have hn0 : H s0.heap.objs.size = none := I0.hok.fresh (Nat.le_refl _)
  have ht0 : (s0.heap.push { cls := .type "tuple", data := .seq #[u] }).get? s0.heap.objs.size = some { cls := .type "tuple", data := .seq #[u] } := Heap.get?_push_size _ rfl
  refine lam_tail3 I2 TB hcode hmT hu hT (L.has I2.ok) fun f c' pm' ctv H1 s' I1 kp nn eN T1 hf hfn hfr hco => ?_
  refine Calls.spliced_nil ⟨I1.kIn, ?_⟩
  have hnfr : s0.heap.objs.size ∉ frs X.stack := fun z => by
    rcases List.mem_cons.mp (I0.stkSub _ z) with e | e
    · have h1 := I0.lt
      rw [← e] at h1
      exact Nat.lt_irrefl _ h1
    · exact I0.nofs (Nat.le_refl _) e
  have ht1 : s'.heap.get? s0.heap.objs.size = some { cls := .type "tuple", data := .seq #[u] } := kp _ _ (fun q z => by rw [hn0] at z; cases z) ht0
  refine lam_run4 (hold := [s0.heap.objs.size]) lk hcg hb Sg hNg hva hG hr L I1 hf hfn hfr hco (fun s1 h1 => ⟨[(y, u)], ?_, fun z hz => ?_⟩) (fun b hb => ?_) hbody (h H1 eN T1) hd hcd
  · exact .of_defaults (T := s0.heap.objs.size) (items := #[u]) (n := 0) rfl (h1 _ (by simp) _ ht1) rfl (hbind1 _ _ _ _ _ _) (hbind2 _ _ _ _ _ _ _)
  · rw [List.mem_singleton.mp hz]; exact hy
  · rw [List.mem_singleton.mp hb]
    exact ⟨nn _ (by show (s0.heap.push _).get? _ ≠ none; rw [ht0]; simp) hn0, hnfr⟩
end
end KR
namespace KR
open PySem PySem.Spec PyProof.Rows L2 Evl KD
section
variable {X : Cx}
theorem lc_useH {pins : List (Addr × Obj)} {s : Shared} {σ : L2.St} {H : Hp} {Q : VK} {elt tg iter : Expr} {ifs : List Expr} {scope : Scope} {own : List (Str × Nat)} {pos pos' : Pos} {wi : TI} {g : TG} {tt : TT} {te : TE} {use : Option (Value → Sem Unit)} {Qf : Value → Shared → Prop}
    (hc : L2H.HotC X) (hN : X.N.Nodup) (I : Inv X pins σ H s) (hi : PIQ L2H.HotC X tg iter wi) (ok : BlkOk X.N X.env.scope scope own)
    (hg : ∀ (s : Shared) (H : Hp) (D : Addr) (cl : List (Str × Addr)) (fp : List Addr) (xe : Value → Shared → Prop), PG (blkG X s H scope (compEnvC scope cl D X.env) fp xe) tg g)
    (ht : ∀ (s : Shared) (H : Hp) (D : Addr) (cl : List (Str × Addr)) (fp : List Addr) (xe : Value → Shared → Prop), PTs (blkG X s H scope (compEnvC scope cl D X.env) fp xe) ifs tt)
    (he : ∀ (s : Shared) (H : Hp) (D : Addr) (cl : List (Str × Addr)) (fp : List Addr) (xe : Value → Shared → Prop), PE (blkG X s H scope (compEnvC scope cl D X.env) fp xe) elt te) (hs : ∀ x, foldedSetIterable iter X.env x = pure x)
    (h : tLc wi g tt te (own.map (·.2)) σ H Q)
    (hRR : ∀ D C s' m H', Inv X pins σ H' s' → Q (.ref D) H' → s'.heap.Ns C m → FpOk X pins H' C → compPost (model X.prog X.w) X.A X.xe use Qf (.ref D) C (.ok .next) s') :
    wpAny (model X.prog X.w) X.A (comprehension (.ListComp elt [⟨tg, iter, ifs, 0⟩] scope pos) scope X.env pos' (newList []) false (eval iter X.env) use) Qf X.xe s := by
  have hfree : ∀ y ∈ scope.names, y.2 = .free → ∃ c, X.env.cells.lookup y.1 = some c := fun y hy e => by
    rcases ok.free y hy e with k | k
    · exact I.ok.has _ (.inl k)
    · exact I.ok.has _ (.inr k)
  refine wpAny_comprehension_free (use := use) rfl hs (closure_ok hfree) ok.kind (fun y hy e => by rw [ok.uniq y hy, e])
    (thn (hi.run pins s σ H _ I h) fun xv s1 hx => thn hx fun itv s2 h2 => ?_)
  obtain ⟨it, fp, tn, J, H2, e, I2, T, st2, f2, q⟩ := h2
  subst e
  refine wpAny_newObj_type (newEnv_comp ?_) (by show 0 ≤ sizeLine; decide)
  generalize hD : s2.heap.objs.size = D
  have hDn : H2 D = none := I2.hok.fresh (Nat.le_of_eq hD)
  obtain ⟨W, ⟨m0, w0⟩, turn⟩ := q D hDn
  generalize hs3 : ({ s2 with heap := s2.heap.push { cls := .type "list", data := .seq ([] : List Value).toArray } } : Shared) = s3
  have I3 : Inv X pins σ (upd H2 D (.lst [])) s3 := by
    rw [← hs3]
    refine I2.laid (t' := s2.toks) (fun b o e => Heap.get?_push_of_some _ e) (Nat.le_of_eq hD) ⟨Nat.zero_le _, [], 0, .nil, ?_⟩
    rw [← hD]
    exact Heap.get?_push_size _ rfl
  have h3 : s3.heap = s2.heap.push { cls := .type "list", data := .seq ([] : List Value).toArray } := by rw [← hs3]
  have sz : ∀ b ∈ fp, b < s2.heap.objs.size := fun b hb => by
    obtain ⟨o, e, _⟩ := T.obj _ _ st2 b hb
    exact Heap.lt_size e
  have f3 : ∀ b ∈ fp, FpOk X pins (upd H2 D (.lst [])) b ∧ b < s3.heap.objs.size := fun b hb => by
    have hlt := sz b hb
    refine ⟨⟨?_, (f2 b hb).2⟩, by rw [h3, Heap.size_push]; exact Nat.lt_succ_of_lt hlt⟩
    rw [upd_ne (by rw [← hD]; exact Nat.ne_of_lt hlt)]
    exact (f2 b hb).1
  have st3 : tn 0 s3.heap := T.keep _ _ _ st2 fun b _ o e => by rw [h3]; exact Heap.get?_push_of_some _ e
  have I40 := block_start I3 ok hN f3
  generalize hce : compEnvC scope (cellsFrom (s3.heap.objs.size + 1) scope.names (cloFrom X.env.cells scope.names [])) s3.heap.objs.size X.env = ce at I40
  have cL : ce.locals = s3.heap.objs.size := by subst hce; rfl
  have cF : ce.frame = X.env.frame := by subst hce; rfl
  show codeAny _ _ (.compStart (.ListComp elt [⟨tg, iter, ifs, 0⟩] scope pos) 0 (.ref it) (.ref D) (compEnvC scope (cellsFrom (s3.heap.objs.size + 1) scope.names (cloFrom X.env.cells scope.names [])) s3.heap.objs.size X.env)) (compPost (model X.prog X.w) X.A X.xe use Qf (.ref D) s3.heap.objs.size) { s3 with heap := pushCells (s3.heap.push { cls := .type "dict", data := .dict #[] }) scope.names }
  have nfp : ∀ b ∈ fp, (upd H2 D (.lst [])) b = none := fun b hb => (f3 b hb).1.1
  generalize hH3 : upd H2 D (.lst []) = H3 at I3 I40 w0 nfp f3
  let xe0 : Value → Shared → Prop := fun _ _ => False
  have pg : PG (blkG X s3 H3 scope ce fp xe0) tg g := by subst hce; exact hg _ _ _ _ _ _
  have pt : PTs (blkG X s3 H3 scope ce fp xe0) ifs tt := by subst hce; exact ht _ _ _ _ _ _
  have pe : PE (blkG X s3 H3 scope ce fp xe0) elt te := by subst hce; exact he _ _ _ _ _ _
  have hc' : L2H.HotC (blkG X s3 H3 scope ce fp xe0) := hc
  rw [hce]
  generalize hs4 : ({ s3 with heap := pushCells (s3.heap.push { cls := .type "dict", data := .dict #[] }) scope.names } : Shared) = s4 at I40 ⊢
  have kp4 : ∀ b o, s3.heap.get? b = some o → s4.heap.get? b = some o := fun b o e => by rw [← hs4]; exact pushCells_keeps _ _ _ _ (Heap.get?_push_of_some _ e)
  have I4 : Inv (blkG X s3 H3 scope ce fp xe0) [] (wipe σ (own.map (·.2))) H3 s4 := inv_blkG I40 fun p hp => by
    obtain ⟨p1, p2, p3, p4, p5⟩ := I3.pin p (List.mem_append_left _ hp)
    refine ⟨kp4 _ _ p1, p2, by rw [cL]; exact Nat.ne_of_lt (Heap.lt_size p1), fun z => ?_, p5⟩
    rcases List.mem_cons.mp (I3.stkSub _ z) with z | z
    · exact p3 z
    · exact p4 z
  have st4 : tn 0 s4.heap := T.keep _ _ _ st3 fun b _ o e => kp4 b o e
  have fpn : ∀ b ∈ fp, ∀ p ∈ X.pn, p.1 ≠ b := fun b hb p hp => (f3 b hb).1.2.2.2.2.2 p (List.mem_append_left _ hp)
  have stat : ∀ {σ' : L2.St} {H' : Hp} {s' : Shared}, Inv (blkG X s3 H3 scope ce fp xe0) [] σ' H' s' → (∀ b ∈ fp, H' b = none) → ∀ b ∈ fp, FpOk (blkG X s3 H3 scope ce fp xe0) [] H' b := fun {σ' H' s'} I' hn b hb =>
    ⟨hn b hb, (I'.ok.exf b hb).1, I'.ok.exfs b hb, .inl hb, fun x c e => (I'.ok.exf b hb).2 x c e, fun p hp => fpn b hb p (by simpa using (show p ∈ X.pn ++ [] from hp))⟩
  have loop : codeAny (model X.prog X.w) X.A (.compLoop (.ListComp elt [⟨tg, iter, ifs, 0⟩] scope pos) 0 (.ref it) (.ref D) ce) (compPost (model X.prog X.w) X.A X.xe use Qf (.ref D) s3.heap.objs.size) s4 := by
    refine compLoop_any (fun n s' => ∃ i H', Inv (blkG X s3 H3 scope ce fp xe0) [] (wipe σ (own.map (·.2))) H' s' ∧ tn i s'.heap ∧ (∀ b ∈ fp, H' b = none) ∧ W i n H') ?_ m0 ⟨0, H3, I4, st4, nfp, w0⟩
    rintro n s5 ⟨i, H5, I5, st5, n5, w5⟩
    rcases turn i n H5 w5 with ⟨stop, qq⟩ | ⟨go, Nx, hNx, step⟩
    · have td := T.done (blkG X s3 H3 scope ce fp xe0) rfl rfl rfl hc' i [] s5 _ H5 (fun _ _ => False) I5 (stat I5 n5) st5 stop
      refine thnF td fun r s6 ⟨hr, I6⟩ => ?_
      subst hr
      have I7 : Inv X pins σ H5 s6 := I3.call' (ch := fp) I6.os I6.base I6.hok I6.bare fun b hb => ⟨(f3 b hb).1.2.2.2.1, (f3 b hb).1.2.1, (f3 b hb).1.2.2.2.2.1, (f3 b hb).1.2.2.2.2.2⟩
      have nC : H5 s3.heap.objs.size = none := by
        have z : H5 ce.locals = none := I6.free
        rw [cL] at z
        exact z
      obtain ⟨m, hn, _⟩ := I6.loc
      have hn : s6.heap.Ns ce.locals m := hn
      rw [cL] at hn
      exact hRR D s3.heap.objs.size s6 m H5 I7 qq hn (I3.fpOk (Nat.le_refl _) nC)
    · have ti := T.item (blkG X s3 H3 scope ce fp xe0) rfl rfl rfl hc' i [] s5 _ H5 (fun _ _ => False) I5 (stat I5 n5) st5 go
      refine thnF ti fun r s6 ⟨u, hr, h6⟩ => ?_
      subst hr
      refine thnF h6 fun _ s7 ⟨x, H7, I7, r7, y7, st7, n7⟩ => ?_
      have I7' := I7.pinned (stat I7 n7) (T.obj _ _ st7)
      refine wpAny_mono (pg.run _ s7 _ H7 x u _ I7' r7 (step x H7 y7)) (fun _ s8 ⟨σ8, H8, I8, hw8, q8⟩ => ?_) (fun _ _ z => False.elim z)
      refine wpAny_mono (pt.run _ s8 σ8 H8 _ I8 q8) (fun b s9 ⟨H9, I9, q9⟩ => ?_) (fun _ _ z => False.elim z)
      have fin : ∀ {s' : Shared} {H' : Hp}, Inv (blkG X s3 H3 scope ce fp xe0) ([] ++ pinsAt fp s7.heap) σ8 H' s' → Nx H' → ∃ m, m < n ∧ ∃ i H', Inv (blkG X s3 H3 scope ce fp xe0) [] (wipe σ (own.map (·.2))) H' s' ∧ tn i s'.heap ∧ (∀ b ∈ fp, H' b = none) ∧ W i m H' := fun {s' H'} I' nx => by
        obtain ⟨m', hm, w'⟩ := hNx H' nx
        have pin' : ∀ b ∈ fp, ∀ o, s7.heap.get? b = some o → s'.heap.get? b = some o ∧ H' b = none := fun b hb o e =>
          let z := I'.pin (b, o) (List.mem_append_right _ (List.mem_append_right _ (mem_pinsAt hb e)))
          ⟨z.1, z.2.1⟩
        have hl : (wipe σ (own.map (·.2))).length = σ8.length := by rw [← hw8, wipe_length]
        refine ⟨m', hm, i + 1, H', (I'.unpinned (pins := [])).weak hl (fun j v e => ?_), T.keep _ _ _ st7 fun b hb o e => (pin' b hb o e).1, fun b hb => ?_, w'⟩
        · rw [← hw8] at e
          exact (wipe_some e).1
        · obtain ⟨o, e, _⟩ := T.obj _ _ st7 b hb
          exact (pin' b hb o e).2
      cases b with
      | false =>
        simp only [Bool.false_eq_true, if_false] at q9 ⊢
        exact fin I9 q9
      | true =>
        simp only [if_true] at q9 ⊢
        refine wpAny_mono (pe.run _ s9 σ8 H9 _ I9 q9) (fun z s10 ⟨yv, H10, I10, r10, acc, hD10, hz10, nx⟩ => ?_) (fun _ _ z => False.elim z)
        exact app_ok (X := blkG X s3 H3 scope ce fp xe0) I10 hD10 hz10 r10 fun s11 I11 => fin I11 nx
  exact codeAny_compStart_list loop (T.self X.A 0 _ _ _ st4 loop)
/-- name = [..] on one line, the name a local, in an except suite -/
theorem ps_setLcH {i : Nat} {y : Str} {py : Pos} {elt tg iter : Expr} {ifs : List Expr} {scope : Scope} {own : List (Str × Nat)} {pos spos : Pos} {wi : TI} {g : TG} {tt : TT} {te : TE} (hc : L2H.HotC X) (hN : X.N.Nodup) (hy : X.N[i]? = some y) (hyl : X.env.scope.names.lookup y = some .local)
    (hsw : swapsWith (.ListComp elt [⟨tg, iter, ifs, 0⟩] scope pos) (some (.Name y py)) spos.line X.env = pure true) (hi : L2H.PIH X tg iter wi) (ok : BlkOk X.N X.env.scope scope own)
    (hg : ∀ (s : Shared) (H : Hp) (D : Addr) (cl : List (Str × Addr)) (fp : List Addr) (xe : Value → Shared → Prop), PG (blkG X s H scope (compEnvC scope cl D X.env) fp xe) tg g)
    (ht : ∀ (s : Shared) (H : Hp) (D : Addr) (cl : List (Str × Addr)) (fp : List Addr) (xe : Value → Shared → Prop), PTs (blkG X s H scope (compEnvC scope cl D X.env) fp xe) ifs tt)
    (he : ∀ (s : Shared) (H : Hp) (D : Addr) (cl : List (Str × Addr)) (fp : List Addr) (xe : Value → Shared → Prop), PE (blkG X s H scope (compEnvC scope cl D X.env) fp xe) elt te) (hs : ∀ x, foldedSetIterable iter X.env x = pure x := by intro _; rfl) :
    PS X (.Assign [.Name y py] (.ListComp elt [⟨tg, iter, ifs, 0⟩] scope pos) spos) (tAsg (tLc wi g tt te (own.map (·.2))) (gName i)) := by
  refine ⟨fun pins s σ H D I h => ?_⟩
  rw [exec_Assign_Name_used _ _ _ _ hsw]
  refine wpAny_bind (wpAny_standAt (wpAny_bind ?_))
  show wpAny _ X.A (do let _ ← comprehension (.ListComp elt [⟨tg, iter, ifs, 0⟩] scope pos) scope X.env (firstIterPos [⟨tg, iter, ifs, 0⟩] pos) (newList []) false (eval iter X.env) (some (assign (.Name y py) X.env))) _ _ s
  have h : tLc wi g tt te (own.map (·.2)) σ H (fun x H1 => gName i x σ H1 D.nx) := h
  refine wpAny_bind (thn (lc_useH (Qf := fun _ s' => SP X pins D .next s') hc hN I (.ofH hi) ok hg ht he hs h fun L C s' m H' I' q hn f => ?_) fun _ s' hq => wpAny_pure (wpAny_pure hq))
  show wpAny _ _ (assign (.Name y py) X.env (.ref L)) _ _ _
  refine wpAny_assign_Name (store_ok2 (v := V.ref L) I' hN hy (.inl hyl) rfl (fun s2 I2 ⟨a, sb, ha⟩ => ?_) (.inr hyl))
  obtain ⟨f0, f1, f2, f3, f4, f5⟩ := f
  have haC : C ≠ a := by
    rcases ha with z | z
    · rw [z]; exact f1
    · exact fun e => f4 y a z e.symm
  refine ⟨m, hn.sameBut sb haC, fun h3 sb3 => ?_⟩
  exact ⟨_, H', I2.turned (t' := s2.toks) (fun b o hb e => (sb3.2 b hb).trans e) f0 f1 f3 f4 f5, q⟩
end
end KR
set_option maxHeartbeats 8000000
namespace KR
open PySem PySem.Spec PyProof.Rows L2 Evl KD
theorem call_isX {X : Cx} {K : PySem.W.Frag} {a : Addr} {oe : Obj} {pn : List (Addr × Obj)} {cls : Value} {d : Option Addr} (eK : X.K = K) (hz : L2N.Zn cls d oe) (hf : ∃ vs, oe.data = .fields vs) :
    CallR (X.suite a ((a, oe) :: pn)) (.builtin "isinstance") (fun xs H Q => ∃ D, cls = .ref D ∧ d = none ∧ ExcC K D ∧ rIsE K D a xs H Q) := by
  subst eK
  intro pins s σ H xs us Q I r h
  obtain ⟨D, rfl, rfl, C, h⟩ := h
  exact call_isE C hz.zc hf pins s σ H xs us Q I r h
theorem hot_suite {X : Cx} {a : Addr} {oe : Obj} {pn : List (Addr × Obj)} {cls : Value} {d : Option Addr} (hz : L2N.Zn cls d oe) (hf : ∃ vs, oe.data = .fields vs) : L2H.HotC (X.suite a ((a, oe) :: pn)) := by
  obtain ⟨vs, hv⟩ := hf
  exact ⟨(a, oe), ⟨rfl, vs, hv, hz.2.2 vs hv⟩, List.mem_cons_self⟩
end KR
namespace K38
open PySem PySem.Spec PyProof.Rows L2 Evl KD KR RZ LamX
section
variable {P : Program} {w : World} {K : PySem.W.Frag} {mg : Str → Option Value} {base : Heap}
/-- what the told one hands out -/
def toldOf : RR → PyData
  | .ok d => .tuple [.str "told", d]
  | .no => .tuple [.str "refused"]
  | .big => .tuple [.str "large"]
def TTold (cN cB : Addr) (K : PySem.W.Frag) : (XK → Hp → VK → Prop) → Hp → VK → Prop := fun tl H Q => ∃ r : RR, (∀ Q' E, Res cN cB K H Q' E r → tl E H Q') ∧ ∀ v H', Ex H H' → Dp K H' v (toldOf r) → Q v H'
/-- facts about the classes of errors -/
structure Errs (K : PySem.W.Frag) (G : Pg K mg) : Prop where
  e1 : ExcC K G.C_NotAllowed
  e2 : ExcC K G.C_TooLarge
  x1 : PySem.W.exmOne K (.ref G.C_NotAllowed) (.ref G.C_CallsError) = some true
  x2 : PySem.W.exmOne K (.ref G.C_TooLarge) (.ref G.C_CallsError) = some true
  k1 : ∀ C ∈ [G.C_TooLarge, G.C_Missing, G.C_BadForm, G.C_Broken, G.C_BadPaper], PySem.W.kitOne K (.ref G.C_NotAllowed) (.ref C) = some false
  k2 : ∀ C ∈ [G.C_NotAllowed, G.C_Missing, G.C_BadForm, G.C_Broken, G.C_BadPaper], PySem.W.kitOne K (.ref G.C_TooLarge) (.ref C) = some false
  s1 : PySem.W.kitOne K (.ref G.C_NotAllowed) (.ref G.C_NotAllowed) = some true
  s2 : PySem.W.kitOne K (.ref G.C_TooLarge) (.ref G.C_TooLarge) = some true
theorem told_gives (G : Pg K mg) (R : Errs K G) {X : Cx} (hP : X.prog = P) (hw : X.w = w) (hK : X.K = K) (hmg : X.mg = mg) {cdg : Value} : GivesTo4 X ["call", "e", "kinds", "names", "k"] "_law_told" (defScope s_law_told) G.f_law_told cdg (defBody s_law_told) "call" (X.env.qual ++ "<lambda>") (TTold G.C_NotAllowed G.C_TooLarge K) := by
  subst hP hw hK hmg
  intro f c' s H Q tl hcall hco hTT
  have tk0 : L2N.Takes (gotCx4 X ["call", "e", "kinds", "names", "k"] "_law_told" (defScope s_law_told) G.f_law_told cdg s H).nox (fun _ _ _ _ => False) := fun u s' x => by
    obtain ⟨_, _, _, _, _, _, _, _, _, _, _, _, _, _, _, _, z⟩ := x
    exact z.elim
  refine ⟨_, pss_one (L2N.ps_try_as (i := 1) (tb := fun W => tRet (tTup (tCons (tC (.str "told")) (tCons (fun σZ HZ Q => σZ[0]? = some (some (.ref f)) ∧ HZ c' = some (CodeO c' (X.env.qual ++ "<lambda>")) ∧ tl (WE W σZ) HZ Q) tNil)))) (Wout := fun _ _ _ _ => False) rfl rfl sc_law_told.nd rfl rfl ⟨by rfl, by decide, Or.inl G.mC_CallsError⟩ tk0
    (fun W pn xe tk _ => pss_one (ps_ret (pe_tup (pa_cons pe_str (pa_cons (hcall W pn xe _ _ tk) pa_nil)))))
    (fun a oe cls d pn hz hf => pss_cons (ps_set (i := 2) sc_law_told.nd rfl (Or.inr rfl) (pe_lst
        (pa_cons (pe_callB (call_isX rfl hz hf) (by rfl) G.n_isinstance (by decide +kernel) (pa_cons (pv 1) (pa_cons (pe_gR (by rfl) G.mC_NotAllowed) pa_nil)))
        (pa_cons (pe_callB (call_isX rfl hz hf) (by rfl) G.n_isinstance (by decide +kernel) (pa_cons (pv 1) (pa_cons (pe_gR (by rfl) G.mC_TooLarge) pa_nil)))
        (pa_cons (pe_callB (call_isX rfl hz hf) (by rfl) G.n_isinstance (by decide +kernel) (pa_cons (pv 1) (pa_cons (pe_gR (by rfl) G.mC_Missing) pa_nil)))
        (pa_cons (pe_callB (call_isX rfl hz hf) (by rfl) G.n_isinstance (by decide +kernel) (pa_cons (pv 1) (pa_cons (pe_gR (by rfl) G.mC_BadForm) pa_nil)))
        (pa_cons (pe_callB (call_isX rfl hz hf) (by rfl) G.n_isinstance (by decide +kernel) (pa_cons (pv 1) (pa_cons (pe_gR (by rfl) G.mC_Broken) pa_nil)))
        (pa_cons (pe_callB (call_isX rfl hz hf) (by rfl) G.n_isinstance (by decide +kernel) (pa_cons (pv 1) (pa_cons (pe_gR (by rfl) G.mC_BadPaper) pa_nil)))
        pa_nil))))))))
      (pss_cons (ps_setLcH (i := 3) (own := [("k", 4)]) (hot_suite hz hf) sc_law_told.nd rfl rfl (sw_true rfl rfl rfl (by decide +kernel)) (L2H.pi_range1H (by rfl) G.n_range (pa_cons pe_int pa_nil)) (blkOk_by (own := [("k", 4)]) (N := ["call", "e", "kinds", "names", "k"]) (sc := defScope s_law_told) (by decide +kernel)) (fun _ _ _ _ _ _ => (pg_name (i := 4) sc_law_told.nd rfl (Or.inl rfl)))
          (fun _ _ _ _ _ _ => pts_one (pt_val (pe_ix (ixLK (K := X.K) rfl) (pv 2) (pv 4) (fun _ _ => rfl)))) (fun _ _ _ _ _ _ => pe_ix (ixLK (K := X.K) rfl) (pe_lst (pa_cons pe_str (pa_cons pe_str (pa_cons pe_str (pa_cons pe_str (pa_cons pe_str (pa_cons pe_str pa_nil))))))) (pv 4) (fun _ _ => rfl)))
      (pss_one (ps_ret (pe_tup (pa_cons (pe_ix (ixLK (K := X.K) rfl) (pe_lst (pa_cons pe_str (pa_cons (pe_ix (ixLK (K := X.K) rfl) (pe_op op_cat (pv 3) (pe_lst (pa_cons pe_str pa_nil))) pe_int (fun _ _ => rfl)) pa_nil))) (pe_callTy call_int1 (by rfl) G.n_int (by decide +kernel) (pa_cons (pe_cmpR op_eq (pe_callB (lenK (K := X.K) rfl) (by rfl) G.n_len (by decide +kernel) (pa_cons (pv 3) pa_nil)) pe_int (nomark _)) pa_nil)) (fun _ _ => rfl)) pa_nil))))))), ?_⟩
  obtain ⟨r, hcallr, hfin⟩ := hTT
  refine ret_of (tup_of (cons_of (c_of (cons_of ⟨rfl, hco, hcallr _ _ ?_⟩))))
  by_cases hr : ∃ d, r = .ok d
  · obtain ⟨d, rfl⟩ := hr
    intro v H' e hv
    exact nil_of ⟨by show 2 ≤ sizeLine; decide, fun p hp => hfin _ _ (e.trans (Ex.new hp)) (.tup (st_of upd_same) (.cons (.str _) (.cons (Dpx (Ex.new hp) hv) .nil)))⟩
  · obtain ⟨Dc, b1, b2, wd, hRes, hE, hx, k1, k2, k3, htold, hkept⟩ : ∃ (Dc : Addr) (b1 b2 : Bool) (wd : Str), (∀ Q' E, (∀ H', Ex H H' → E (.ref Dc) none H') → Res G.C_NotAllowed G.C_TooLarge X.K H Q' E r) ∧ ExcC X.K Dc ∧ PySem.W.exmOne X.K (.ref Dc) (.ref G.C_CallsError) = some true ∧
        PySem.W.kitOne X.K (.ref Dc) (.ref G.C_NotAllowed) = some b1 ∧ PySem.W.kitOne X.K (.ref Dc) (.ref G.C_TooLarge) = some b2 ∧ (∀ C ∈ [G.C_Missing, G.C_BadForm, G.C_Broken, G.C_BadPaper], PySem.W.kitOne X.K (.ref Dc) (.ref C) = some false) ∧ toldOf r = .tuple [.str wd] ∧
        kept 6 (fun i => [b1, b2, false, false, false, false].getD i false) (fun i => ([PyData.str "refused", .str "large", .str "missing", .str "form", .str "broken", .str "paper"]).getD i .none) = [.str wd] := by
      cases r with
      | ok d => exact absurd ⟨d, rfl⟩ hr
      | no => exact ⟨G.C_NotAllowed, true, false, "refused", fun _ _ h => h, R.e1, R.x1, R.s1, R.k1 _ (by simp), fun C hC => R.k1 C (List.mem_cons_of_mem _ hC), rfl, rfl⟩
      | big => exact ⟨G.C_TooLarge, false, true, "large", fun _ _ h => h, R.e2, R.x2, R.k2 _ (by simp), R.s2, fun C hC => R.k2 C (List.mem_cons_of_mem _ hC), rfl, rfl⟩
    refine hRes _ _ fun H' e => ⟨true, hx, fun _ a ha => ?_, fun h => by cases h⟩
    rw [htold] at hfin
    have isx : ∀ {σ : L2.St} {H1 : Hp} {C : Addr} {b : Bool}, σ[1]? = some (some (.ref a)) → PySem.W.kitOne X.K (.ref Dc) (.ref C) = some b → Ev (tCB (fun xs H Q => ∃ D, Value.ref Dc = .ref D ∧ (none : Option Addr) = none ∧ ExcC X.K D ∧ rIsE X.K D a xs H Q) (tCons (tVar 1) (tCons (tC (.ref C)) tNil))) σ H1 (.bl b) := fun {σ H1 C b} h hk Ha ea Q q =>
      ⟨.ref a, h, Dc, rfl, rfl, hE, .ref C, .ref C, b, rfl, fun u r => r, hk, q Ha (Ex.refl Ha)⟩
    refine q_asgD (K := X.K) (d := .list ([b1, b2, false, false, false, false].map .bool)) (EvN.dp (evn_lst (ead_cons (ev_bool (isx rfl k1)) (ead_cons (ev_bool (isx rfl k2)) (ead_cons (ev_bool (isx rfl (k3 _ (by simp)))) (ead_cons (ev_bool (isx rfl (k3 _ (by simp)))) (ead_cons (ev_bool (isx rfl (k3 _ (by simp)))) (ead_cons (ev_bool (isx rfl (k3 _ (by simp)))) ead_nil)))))) (by show 6 ≤ 100000; decide))) fun vk H2 e2 hvk => ?_
    refine q_asgN (K := X.K) (evn_lc (evw_range1 (n := 6) (ea_cons ev_c ea_nil) (by decide)) (mono_name (i := 4)) (fun i => [b1, b2, false, false, false, false].getD i false) (fun i => ([PyData.str "refused", .str "large", .str "missing", .str "form", .str "broken", .str "paper"]).getD i .none) (by decide) (fun i hi _ => ?_) fun i x H3 e3 hi y => ?_) fun pn xs H3 hpn e3 h3 hx3 => ?_
    · have hi6 : i < 6 := hi
      match i, hi6 with
      | 0, _ => rfl
      | 1, _ => rfl
      | 2, _ => rfl
      | 3, _ => rfl
      | 4, _ => rfl
      | 5, _ => rfl
    · have hi6 : i < 6 := hi
      subst y
      refine ⟨Ex.refl _, rfl, et_B (evd_bool (evd_ixL (evd_var rfl (Dpx e3 hvk)) (ev_var rfl) (atI_nat (by rw [List.getElem?_map, getD_some (x := false) hi6]; rfl)))), fun _ => ?_⟩
      exact evd_ixL (EvN.dp (evn_lst (ds := [PyData.str "refused", .str "large", .str "missing", .str "form", .str "broken", .str "paper"]) (ead_cons (ev_str ev_c) (ead_cons (ev_str ev_c) (ead_cons (ev_str ev_c) (ead_cons (ev_str ev_c) (ead_cons (ev_str ev_c) (ead_cons (ev_str ev_c) ead_nil)))))) (by decide))) (ev_var rfl) (atI_nat (getD_some hi6))
    · rw [show (6 : Int).toNat = 6 from rfl, hkept] at hx3
      refine s_retD (K := X.K) (d := .tuple [.str wd]) (evd_tup (ead_cons (evd_ixL (ds := [.str "odd", .str wd]) (EvN.dp (evn_lst (ead_cons (ev_str ev_c) (ead_cons (evd_ixL (EvN.dp (evn_cat (evm_var rfl h3 hx3) (EvN.m (evn_lst (ds := [.str ""]) (ead_cons (ev_str ev_c) ead_nil) (by decide))) (by show 1 + 1 ≤ 100000; decide))) ev_c rfl) ead_nil)) (by show 2 ≤ 100000; decide))) (ev_intb (b := true) (ev_is (ev_eq (ev_lenL (K := X.K) (evd_var rfl (.lst (sq_of h3) hx3))) ev_c) rfl)) rfl) ead_nil) (by show 1 ≤ 100000; decide)) fun v H4 e4 hv => hfin v H4 (e.trans (e2.trans (e3.trans e4))) hv
end
end K38
namespace KR
open PySem PySem.Spec PyProof.Rows L2 Evl KD
theorem cb1_of {r : List V → Hp → VK → Prop} {te : TE} {σ : L2.St} {H : Hp} {Q : VK} (h : te σ H fun v H1 => r [v] H1 Q) : tCB r (tCons te tNil) σ H Q := h
end KR
namespace K38
open PySem PySem.Spec PyProof.Rows L2 Evl KD KR RZ LamX
/-- data that repr may show -/
structure Sm (d : PyData) (n w : Nat) : Prop where
  sh : PyData.showable d = true
  nd : PyData.hasDict d = false
  ls : PyData.leavesShort 13 d = true
  dp : PyData.depth d ≤ n
  wt : PyData.weight d ≤ w
theorem Sm.mono {d : PyData} {n w n' w' : Nat} (h : Sm d n w) (h1 : n ≤ n') (h2 : w ≤ w') : Sm d n' w' := ⟨h.sh, h.nd, h.ls, Nat.le_trans h.dp h1, Nat.le_trans h.wt h2⟩
theorem sm_all {n w : Nat} : ∀ {ds : List PyData}, (∀ d ∈ ds, Sm d n w) → PyData.showableAll ds = true ∧ PyData.hasDictAll ds = false ∧ PyData.leavesShortAll 13 ds = true ∧ PyData.depthAll ds ≤ n ∧ PyData.weightAll ds ≤ ds.length * (w + 1)
  | [], _ => ⟨rfl, rfl, rfl, Nat.zero_le _, Nat.zero_le _⟩
  | d :: ds, h => by
    obtain ⟨a1, a2, a3, a4, a5⟩ := sm_all (ds := ds) fun x hx => h x (List.mem_cons_of_mem _ hx)
    have hd := h d List.mem_cons_self
    refine ⟨?_, ?_, ?_, ?_, ?_⟩
    · show (PyData.showable d && PyData.showableAll ds) = true
      rw [hd.sh, a1]; rfl
    · show (PyData.hasDict d || PyData.hasDictAll ds) = false
      rw [hd.nd, a2]; rfl
    · show (PyData.leavesShort 13 d && PyData.leavesShortAll 13 ds) = true
      rw [hd.ls, a3]; rfl
    · show max (PyData.depth d) (PyData.depthAll ds) ≤ n
      have := hd.dp
      omega
    · show PyData.weight d + 1 + PyData.weightAll ds ≤ (ds.length + 1) * (w + 1)
      have := hd.wt
      rw [Nat.succ_mul]
      omega
theorem Sm.tup {n w : Nat} {ds : List PyData} (h : ∀ d ∈ ds, Sm d n w) : Sm (.tuple ds) (n + 1) (ds.length * (w + 1)) := by
  obtain ⟨a1, a2, a3, a4, a5⟩ := sm_all h
  exact ⟨a1, a2, a3, Nat.succ_le_succ a4, a5⟩
theorem Sm.lst {n w : Nat} {ds : List PyData} (h : ∀ d ∈ ds, Sm d n w) : Sm (.list ds) (n + 1) (ds.length * (w + 1)) := by
  obtain ⟨a1, a2, a3, a4, a5⟩ := sm_all h
  exact ⟨a1, a2, a3, Nat.succ_le_succ a4, a5⟩
theorem sm_str {s : Str} {w : Nat} (h : asc s) (hw : s.length ≤ w) : Sm (.str s) 0 w :=
  ⟨rfl, rfl, List.all_eq_true.mpr fun c hc => by
    have := h c hc
    exact decide_eq_true (by omega), Nat.le_refl _, hw⟩
theorem sm_bool (b : Bool) {w : Nat} : Sm (.bool b) 0 w := ⟨rfl, rfl, rfl, Nat.le_refl _, Nat.zero_le _⟩
theorem sm_nat : ∀ i : Nat, i < 20 → Sm (.int (i : Nat)) 0 5 := by
  have h : ∀ i : Nat, i < 20 → (PyData.showable (.int (i : Nat)) && PyData.leavesShort 13 (.int (i : Nat)) && decide (PyData.weight (.int (i : Nat)) ≤ 5)) = true := by decide +kernel
  intro i hi
  have := h i hi
  rw [Bool.and_eq_true, Bool.and_eq_true, decide_eq_true_eq] at this
  exact ⟨this.1.1, rfl, this.1.2, Nat.le_refl _, this.2⟩
theorem asc_of {s : Str} (h : (s.cps.toList.all fun c => decide (c < 128)) = true) : asc s := fun c hc => of_decide_eq_true (List.all_eq_true.mp h c hc)
/-- a sentence's data -/
theorem sm_sen : ∀ t : Sen, t.asc → Sm t.d (t.dep + 1) (12 * t.size + 12 * t.size)
  | .sign c, h => by
    have h' : c < 128 := h
    refine (Sm.tup (n := 0) (w := 10) fun d hd => ?_).mono (Nat.le_refl _) (by show 2 * 11 ≤ 12 * 1 + 12 * 1; decide)
    simp at hd
    rcases hd with rfl | rfl
    · exact sm_str (asc_of (by decide +kernel)) (by decide +kernel)
    · refine sm_str (fun x hx => ?_) (by show 1 ≤ 10; decide)
      rw [List.mem_singleton.mp (show x ∈ [c] from hx)]
      exact h'
  | .kind k, _ => by
    refine (Sm.tup (n := 0) (w := 10) fun d hd => ?_).mono (Nat.le_refl _) (by show 2 * 11 ≤ 12 * 1 + 12 * 1; decide)
    simp at hd
    rcases hd with rfl | rfl
    · exact sm_str (asc_of (by decide +kernel)) (by decide +kernel)
    · have : ∀ k : Nat, (((kinds3.getD k "").cps.toList.all fun c => decide (c < 128)) && decide ((kinds3.getD k "").length ≤ 10)) = true := fun k => by
        match k with
        | 0 => decide +kernel
        | 1 => decide +kernel
        | 2 => decide +kernel
        | k + 3 => exact (by decide +kernel : (((Str.ofString "").cps.toList.all fun c => decide (c < 128)) && decide ((Str.ofString "").length ≤ 10)) = true)
      obtain ⟨h1, h2⟩ := Bool.and_eq_true _ _ ▸ this k
      have h1' := asc_of h1
      have h2' := of_decide_eq_true h2
      exact sm_str h1' h2'
  | .un w a, h => by
    have ih := sm_sen a h
    have hw : asc w.s ∧ w.s.length ≤ 10 := by cases w <;> exact ⟨asc_of (by decide +kernel), by decide +kernel⟩
    refine ⟨?_, ?_, ?_, ?_, ?_⟩
    · show (true && (PyData.showable a.d && true)) = true
      rw [ih.sh]; rfl
    · show (false || (PyData.hasDict a.d || false)) = false
      rw [ih.nd]; rfl
    · show (PyData.leavesShort 13 (.str w.s) && (PyData.leavesShort 13 a.d && true)) = true
      rw [ih.ls, (sm_str hw.1 hw.2).ls]; rfl
    · exact depth_d (.un w a)
    · show w.s.length + 1 + (PyData.weight a.d + 1 + 0) ≤ 12 * (a.size + 1) + 12 * (a.size + 1)
      have := ih.wt
      have := hw.2
      omega
  | .bi w a b, h => by
    have ih := sm_sen a h.1
    have ih2 := sm_sen b h.2
    have hw : asc w.s ∧ w.s.length ≤ 10 := by cases w <;> exact ⟨asc_of (by decide +kernel), by decide +kernel⟩
    refine ⟨?_, ?_, ?_, ?_, ?_⟩
    · show (true && (PyData.showable a.d && (PyData.showable b.d && true))) = true
      rw [ih.sh, ih2.sh]; rfl
    · show (false || (PyData.hasDict a.d || (PyData.hasDict b.d || false))) = false
      rw [ih.nd, ih2.nd]; rfl
    · show (PyData.leavesShort 13 (.str w.s) && (PyData.leavesShort 13 a.d && (PyData.leavesShort 13 b.d && true))) = true
      rw [ih.ls, ih2.ls, (sm_str hw.1 hw.2).ls]; rfl
    · exact depth_d (.bi w a b)
    · show w.s.length + 1 + (PyData.weight a.d + 1 + (PyData.weight b.d + 1 + 0)) ≤ 12 * (a.size + b.size + 1) + 12 * (a.size + b.size + 1)
      have := ih.wt
      have := ih2.wt
      have := hw.2
      omega
section
variable {P : Program} {w : World} {K : PySem.W.Frag} {mg : Str → Option Value} {base : Heap}
def spSame : Sp := fun vs H Q E => ∃ (v1 v2 : V) (d : PyData), vs = [v1, v2] ∧ Dp K H v1 d ∧ Dp K H v2 d ∧ Sm d 50 500000 ∧ ∀ H', Ex H H' → Q (.bl true) H'
theorem ok_law_same (G : Pg K mg) {k : Nat} : FnG P w K mg base CX0 (k + 1) G.f_law_same G.fd_law_same ["told", "due"] (spSame (K := K)) := by
  refine okG G.F_law_same sc_law_same (fun vs H Q E h => ?_) (fun cdv A outer s H vs Q E hgd hr h => ?_)
  · obtain ⟨v1, v2, d, rfl, _⟩ := h
    rfl
  · have hu64 := hr.units
    refine ⟨_, (pss_one (ps_ret (pe_cmpR op_eq (pe_callB (cr_repr hgd hu64) (by rfl) G.n_repr (by decide +kernel) (pa_cons (pe_lst (pa_cons (pv 0) pa_nil)) pa_nil)) (pe_callB (cr_repr hgd hu64) (by rfl) G.n_repr (by decide +kernel) (pa_cons (pe_lst (pa_cons (pv 1) pa_nil)) pa_nil)) (nomark _)))), ?_⟩
    obtain ⟨v1, v2, d, rfl, h1, h2, hs, hres⟩ := h
    have hsm := Sm.lst (ds := [d]) (n := 50) (w := 500000) fun x hx => by rw [List.mem_singleton.mp hx]; exact hs
    have sh : ∀ {σ : L2.St} {H1 : Hp} {i : Nat} {v : V}, Ex H H1 → Dp K H v d → σ[i]? = some (some v) → Ev (tCB (rRepr K) (tCons (tLst (tCons (tVar i) tNil)) tNil)) σ H1 (.str (PyData.list [d]).shown) := fun x hd hv Ha ea Q q =>
      cb1_of ((EvN.dp (evn_lst (K := K) (ead_cons (evd_var hv (Dpx x hd)) ead_nil) (by show 1 ≤ 100000; decide))) Ha ea _ fun v Hb eb hv => by
        obtain ⟨p, xs, rfl, hs', hx'⟩ := dp_list hv
        exact ⟨.ref p, p, .list [d], rfl, rfl, hv, hsm.sh, hsm.nd, Nat.le_trans hsm.dp (by decide), PyData.shown_fits (by decide) (by decide) hsm.ls (Nat.le_trans hsm.wt (by show 1 * 500001 ≤ 2 ^ 20; decide)), q Hb eb⟩)
    exact s_ret (v := .bl true) (ev_is (ev_eq (sh (Ex.refl H) h1 rfl) (sh (Ex.refl H) h2 rfl)) (by simp)) fun H' e => hres H' e
end
end K38
namespace KR
open PySem PySem.Spec PyProof.Rows L2 Evl KD LamX
theorem lam_takes {X : Cx} {A : Around} {outer : List Env} {s : Shared} {H : Hp} {E : XK} {scope : Scope} {f c' : Addr} : L2N.Takes (lamCxX X A outer s H E scope f c') (fun cls d _ H => E cls d H) := L2N.takes_of rfl rfl rfl rfl
/-- a def whose code object is told -/
structure FunC (K : PySem.W.Frag) (x qual : Str) (st : Stmt) (f : Addr) (fd : FuncData) (c : Addr) : Prop where
  ex : ∃ (oc : Value) (od : Option Addr) (kV doc pm : Value) (an : Option Addr) (ct : Value) (osl : Array (Option Value)),
    fd = PySem.W.fnOf x qual (defArgs st) (defBody st) (defScope st) .none kV doc pm an (.ref c) ct ∧ K.lookup f = some ⟨oc, od, .func fd, osl⟩ ∧ PySem.W.codeIn K (.ref c) qual = true
section
variable {P : Program} {w : World} {K : PySem.W.Frag} {mg : Str → Option Value} {base : Heap}
theorem okGC {CX : CXT} {x qual : Str} {st : Stmt} {f c : Addr} {fd : FuncData} {N ps : List Str} {k : Nat} {sp : Sp} (F : FunC K x qual st f fd c) (S : FnScope N ps (defScope st)) (len : ∀ vs H Q E, sp vs H Q E → vs.length = ps.length)
    (hbody : ∀ (A : Around) (outer : List Env) (s : Shared) (H : Hp) (vs : List V) (Q : VK) (E : XK), (A.deeper (envOfC qual (defScope st) s.heap.objs.size f (.ref c))).guards = some [] → Room k (A.deeper (envOfC qual (defScope st) s.heap.objs.size f (.ref c))) → sp vs H Q E →
      ∃ t, PSs (cxOf CX P w K mg base N qual (defScope st) f (.ref c) A outer s H E) (defBody st) t ∧ t { nx := fun _ H' => Q .non H', rt := Q } (start N vs) H) : FnG P w K mg base CX (k + 1) f fd ps sp := by
  obtain ⟨oc, od, kV, doc, pm, an, ct, osl, rfl, lk, hcd⟩ := F.ex
  refine ⟨len, fun A outer s H args us vs Q E hg hr e0 hb r hsp => ?_⟩
  exact LamX.run_ofS lk hcd S hr e0 hb r (len _ _ _ _ hsp) fun hr' => hbody A outer s H vs Q E (guards_deeper hg) hr' hsp
end
end KR
namespace K38
open PySem PySem.Spec PyProof.Rows L2 Evl KD KR RZ LamX
section
variable {X : Cx} {K : PySem.W.Frag} {mg : Str → Option Value}
theorem pe_told0 (G : Pg K mg) (R : Errs K G) (eK : X.K = K) (eM : X.mg = mg) {T : List (Addr × Str)} {c P : Addr} {k : Nat} {params : Arguments} {body : Expr} {scope : Scope} {t : XK → TE} {p lpos pos : Pos}
    (hg : Gl X "_law_told") (TB : TabB X.base X.mg c P) (hcode : X.env.code = .ref c) (hmT : (P, X.env.qual ++ "<lambda>") ∈ T) (hu : ∀ p ∈ T, p.1 = P → p.2 = X.env.qual ++ "<lambda>") (hr : Room (k + 2) X.A) (L : LamP X.N X.env.scope scope) (hdef : defaultsOf params X.env = ([], []))
    (hbind : ∀ (q : Str) (cl : List (Str × Addr)) (pm cv ctv : Value), bindArgs (lamFn "<lambda>" q params body scope cl pm cv ctv .none) ⟨[], []⟩ = pure [])
    (hbody : ∀ (A : Around) (outer : List Env) (s : Shared) (H : Hp) (E : XK) (f c' : Addr), Room k (A.deeper (lamEnvX X scope s.heap.objs.size f c')) → PE (lamCxX X A outer s H E scope f c') body (t E)) :
    PE X (.Call (.Name "_law_told" p) [.Lambda params body scope lpos] [] pos) (tLam T (TTold G.C_NotAllowed G.C_TooLarge K) t) := by
  subst eK eM
  obtain ⟨oc, od, kV, doc, pm, an, cdv, ct, osl, e, lk, hcd⟩ := G.F_law_told.ex
  have hb := G.b_law_told
  rw [e] at lk hb
  exact pe_lam04 (Ng := ["call", "e", "kinds", "names", "k"]) (a := "call") hg G.m_law_told G.F_law_told.kp lk hcd hb sc_law_told rfl (Or.inl rfl) (told_gives (P := X.prog) (w := X.w) G R rfl rfl rfl rfl) TB hcode hmT hu hr L hdef hbind hbody
theorem pe_told1 (G : Pg K mg) (R : Errs K G) (eK : X.K = K) (eM : X.mg = mg) {T : List (Addr × Str)} {c P : Addr} {k : Nat} {params : Arguments} {body : Expr} {scope : Scope} {t : XK → TE} {p lpos pos : Pos} {e0 : Expr} {n0 : Int} {y : Str} {kk : Str → List (Str × Addr) → Value → Value → Value → Value → Option (Array Value) → Sem (List (Str × Value))}
    (hg : Gl X "_law_told") (TB : TabB X.base X.mg c P) (hcode : X.env.code = .ref c) (hmT : (P, X.env.qual ++ "<lambda>") ∈ T) (hu : ∀ p ∈ T, p.1 = P → p.2 = X.env.qual ++ "<lambda>") (hr : Room (k + 2) X.A) (L : LamP X.N X.env.scope scope)
    (hdef : defaultsOf params X.env = ([eval e0 X.env], [])) (he0 : PE X e0 (tC (.int n0)))
    (hbind1 : ∀ (q : Str) (cl : List (Str × Addr)) (pm cv ctv dv : Value), bindArgs (lamFn "<lambda>" q params body scope cl pm cv ctv dv) ⟨[], []⟩ = seqItems? dv >>= kk q cl pm cv ctv dv)
    (hbind2 : ∀ (q : Str) (cl : List (Str × Addr)) (pm cv ctv dv v : Value), kk q cl pm cv ctv dv (some #[v]) = pure [(y, v)]) (hy : scope.names.lookup y = some .local)
    (hbody : ∀ (A : Around) (outer : List Env) (s : Shared) (H : Hp) (E : XK) (f c' : Addr), Room k (A.deeper (lamEnvX X scope s.heap.objs.size f c')) → PE (lamCxX X A outer s H E scope f c') body (t E)) :
    PE X (.Call (.Name "_law_told" p) [.Lambda params body scope lpos] [] pos) (tLam T (TTold G.C_NotAllowed G.C_TooLarge K) t) := by
  subst eK eM
  obtain ⟨oc, od, kV, doc, pm, an, cdv, ct, osl, e, lk, hcd⟩ := G.F_law_told.ex
  have hb := G.b_law_told
  rw [e] at lk hb
  exact pe_lam14 (Ng := ["call", "e", "kinds", "names", "k"]) (a := "call") hg G.m_law_told G.F_law_told.kp lk hcd hb sc_law_told rfl (Or.inl rfl) (told_gives (P := X.prog) (w := X.w) G R rfl rfl rfl rfl) TB hcode hmT hu hr L hdef he0 hbind1 hbind2 hy hbody
end
theorem extN_of {H H' : Hp} (e : Ex H H') : ExtN H H' := fun b o h _ => e b o h
/-- a told lambda -/
theorem lv_told {cN cB : Addr} {K : PySem.W.Frag} {T : List (Addr × Str)} {t : XK → TE} {σ : L2.St} {H : Hp} {Q : VK} (hT : Tabs T H) (r : RR) (hbody : ∀ H1, ExtN H H1 → ∀ Q E, Res cN cB K H1 Q E r → t E σ H1 Q)
    (k : ∀ v H', ExtN H H' → Tabs T H' → Dp K H' v (toldOf r) → Q v H') : tLam T (TTold cN cB K) t σ H Q :=
  ⟨hT, fun H1 e1 T1 => ⟨r, fun Q' E h => hbody H1 e1 Q' E h, fun v H' e hv => k v H' (e1.trans (extN_of e)) (T1.ext e) hv⟩⟩
end K38
namespace K38
open PySem PySem.Spec PyProof.Rows L2 Evl KD KR RZ LamX
/-- all stays but the state and the tables -/
def ExL (a : Addr × Addr) (H H' : Hp) : Prop := ∀ b o, b ≠ a.1 → H b = some o → (∀ ps, o ≠ .tbl ps) → H' b = some o
def lq (x : Str) (st : Stmt) (f c : Addr) : Str := (envOfC x (defScope st) 0 f (.ref c)).qual ++ "<lambda>"
end K38
namespace K38
open PySem PySem.Spec PyProof.Rows L2 Evl KD KR RZ LamX
theorem one_first (c : Nat) : (one c).cps.toList.getD 0 0 = c := rfl
theorem cp_ok {al : Al} : ∀ (t : Sen) (f : Nat), t.inA al → t.dep < f → cp al f t.raw = .ok (t.size : Nat)
  | .sign c, f + 1, h, _ => by
    show cp al (f + 1) (.leaf "sign" (one c)) = _
    rw [cp, if_pos rfl, if_neg (show ¬ 1000 < (one c).length by show ¬ 1000 < 1; decide), if_pos]
    · rfl
    · unfold signOk
      rw [one_first, show decide ((one c).length = 1) = true from rfl]
      exact h
  | .kind k, f + 1, h, _ => by
    show cp al (f + 1) (.leaf "kind" (kinds3.getD k "")) = _
    have hk : inV (.str (kinds3.getD k "")) kindV = true := by
      have h' : k < 3 := h
      match k, h' with
      | 0, _ => decide +kernel
      | 1, _ => decide +kernel
      | 2, _ => decide +kernel
    rw [cp, if_neg (by decide +kernel), if_pos (by rw [hk]; decide +kernel)]
    rfl
  | .un w a, f + 1, h, hd => by
    have hd' : a.dep + 1 < f + 1 := hd
    have ih := cp_ok a f h (by omega)
    show cp al (f + 1) (.node w.s [a.raw]) = _
    have h1 : ((decide (w.s = Str.ofString "sign") || decide (w.s = Str.ofString "kind")) && decide (([a.raw] : List Raw).length = 1)) = false := by
      have : (decide (w.s = Str.ofString "sign") || decide (w.s = Str.ofString "kind")) = false := by cases w <;> decide +kernel
      rw [this]
      rfl
    have h2 : ((inV (.str w.s) oneV && decide (([a.raw] : List Raw).length = 1)) || (inV (.str w.s) twoV && decide (([a.raw] : List Raw).length = 2))) = true := by
      have : inV (.str w.s) oneV = true := by cases w <;> decide +kernel
      rw [this]
      rfl
    rw [cp, if_neg (by rw [h1]; decide), if_pos h2]
    show (match cpAll (cp al f) [a.raw] with
      | .ok n => RI.ok (1 + n)
      | e => e) = _
    have : cpAll (cp al f) [a.raw] = .ok (a.size : Nat) := by
      show (match cp al f a.raw with
        | .ok n => (match cpAll (cp al f) [] with
          | .ok m => RI.ok (n + m)
          | e => e)
        | e => e) = _
      rw [ih]
      show RI.ok ((a.size : Nat) + 0) = _
      rw [Int.add_zero]
    rw [this]
    show RI.ok (1 + (a.size : Nat)) = RI.ok (((a.size + 1 : Nat)) : Int)
    congr 1
    omega
  | .bi w a b, f + 1, h, hd => by
    have hd' : max a.dep b.dep + 1 < f + 1 := hd
    have ih := cp_ok a f h.1 (by omega)
    have ih2 := cp_ok b f h.2 (by omega)
    show cp al (f + 1) (.node w.s [a.raw, b.raw]) = _
    have h1 : ((decide (w.s = Str.ofString "sign") || decide (w.s = Str.ofString "kind")) && decide (([a.raw, b.raw] : List Raw).length = 1)) = false := by
      rw [show decide (([a.raw, b.raw] : List Raw).length = 1) = false from rfl, Bool.and_false]
    have h2 : ((inV (.str w.s) oneV && decide (([a.raw, b.raw] : List Raw).length = 1)) || (inV (.str w.s) twoV && decide (([a.raw, b.raw] : List Raw).length = 2))) = true := by
      have : inV (.str w.s) twoV = true := by cases w <;> decide +kernel
      rw [this, show decide (([a.raw, b.raw] : List Raw).length = 1) = false from rfl, show decide (([a.raw, b.raw] : List Raw).length = 2) = true from rfl, Bool.and_false]
      rfl
    rw [cp, if_neg (by rw [h1]; decide), if_pos h2]
    show (match cpAll (cp al f) [a.raw, b.raw] with
      | .ok n => RI.ok (1 + n)
      | e => e) = _
    have : cpAll (cp al f) [a.raw, b.raw] = .ok ((a.size : Nat) + (b.size : Nat)) := by
      show (match cp al f a.raw with
        | .ok n => (match (match cp al f b.raw with
          | .ok n => (match cpAll (cp al f) [] with
            | .ok m => RI.ok (n + m)
            | e => e)
          | e => e) with
          | .ok m => RI.ok (n + m)
          | e => e)
        | e => e) = _
      rw [ih, ih2]
      show RI.ok ((a.size : Nat) + ((b.size : Nat) + 0)) = _
      rw [Int.add_zero]
    rw [this]
    show RI.ok (1 + ((a.size : Nat) + (b.size : Nat))) = RI.ok (((a.size + b.size + 1 : Nat)) : Int)
    congr 1
    omega
theorem csR_good {al : Al} {t : Sen} (g : GA al) (h : t.inA al) (hd : t.dep < 6) (hs : t.size ≤ 24) : csR al t.raw = .ok .none := by
  unfold csR
  rw [if_pos g.good, cp_ok t 6 h hd]
  show (if 24 < ((t.size : Nat) : Int) then RR.big else .ok .none) = _
  rw [if_neg (by omega)]
theorem caR3_good {al : Al} {t : Sen} {z : Str} (g : GA al) (h : t.inA al) (hd : t.dep < 6) (hs : t.size ≤ 24) (hok : okText al z) (h1 : 1 ≤ z.length) (h2 : z.length ≤ 400) : caR3 al t.raw z = .ok .none := by
  unfold caR3
  rw [csR_good g h hd hs]
  have : ctR al z = .ok .none := by
    unfold ctR
    rw [if_pos g.good, if_pos (List.all_eq_true.mpr fun c hc => hok c hc), if_neg (by omega)]
  rw [this]
  show (if z.length = 0 then RR.no else .ok .none) = _
  rw [if_neg (by omega)]
theorem un_inj {u v : Un} (h : u.s = v.s) : u = v := by cases u <;> cases v <;> first | rfl | exact absurd h (by decide +kernel)
theorem bi_inj {u v : Bi} (h : u.s = v.s) : u = v := by cases u <;> cases v <;> first | rfl | exact absurd h (by decide +kernel)
theorem trL_raw (al : Al) (z : Str) : ∀ t t' : Sen, t.raw = t'.raw → trL al z t = trL al z t'
  | .sign c, t', h => by
    cases t' with
    | sign c' =>
      have e : one c = one c' := by injection h
      rw [KR.one_inj e]
    | kind k' =>
      have e : (Str.ofString "sign") = Str.ofString "kind" := by injection h
      exact absurd e (by decide +kernel)
    | un w a => cases h
    | bi w a b => cases h
  | .kind k, t', h => by
    cases t' with
    | sign c' =>
      have e : (Str.ofString "kind") = Str.ofString "sign" := by injection h
      exact absurd e (by decide +kernel)
    | kind k' =>
      have e : kinds3.getD k "" = kinds3.getD k' "" := by injection h
      show (z.cps.toList.map fun x => decide (kindOf al x = kinds3.getD k "")) = z.cps.toList.map fun x => decide (kindOf al x = kinds3.getD k' "")
      rw [e]
    | un w a => cases h
    | bi w a b => cases h
  | .un w a, t', h => by
    cases t' with
    | sign c' => cases h
    | kind k' => cases h
    | un w' a' =>
      have h' : Raw.node w.s [a.raw] = .node w'.s [a'.raw] := h
      injection h' with e1 e2
      have e2' : a.raw = a'.raw := by injection e2
      have ih := trL_raw al z a a' e2'
      rw [un_inj e1]
      cases w' <;> simp only [trL, ih]
    | bi w' a' b' =>
      have h' : Raw.node w.s [a.raw] = .node w'.s [a'.raw, b'.raw] := h
      injection h' with e1 e2
      exact absurd (congrArg List.length e2) (by simp)
  | .bi w a b, t', h => by
    cases t' with
    | sign c' => cases h
    | kind k' => cases h
    | un w' a' =>
      have h' : Raw.node w.s [a.raw, b.raw] = .node w'.s [a'.raw] := h
      injection h' with e1 e2
      exact absurd (congrArg List.length e2) (by simp)
    | bi w' a' b' =>
      have h' : Raw.node w.s [a.raw, b.raw] = .node w'.s [a'.raw, b'.raw] := h
      injection h' with e1 e2
      injection e2 with e2 e3
      have e3' : b.raw = b'.raw := by injection e3
      have ih := trL_raw al z a a' e2
      have ih2 := trL_raw al z b b' e3'
      rw [bi_inj e1]
      cases w' <;> simp only [trL, ih, ih2]
theorem places_raw {al : Al} {z : Str} {t t' : Sen} (h : t.raw = t'.raw) : placesD al z t' = placesD al z t := by
  unfold placesD
  rw [trL_raw al z t t' h]
/-- the places, as numbers -/
def placesN (al : Al) (z : Str) (t : Sen) : List Int := ((List.range z.length).filter fun i => (trL al z t).getD i false).map fun (i : Nat) => (i : Int)
theorem placesD_eq (al : Al) (z : Str) (t : Sen) : placesD al z t = (placesN al z t).map .int := by
  unfold placesD placesN kept
  rw [List.map_map]
  rfl
theorem placesN_mem {al : Al} {z : Str} {t : Sen} {i : Nat} (hi : i < z.length) : decide ((i : Int) ∈ placesN al z t) = (trL al z t).getD i false := by
  unfold placesN
  cases h : (trL al z t).getD i false with
  | true =>
    rw [decide_eq_true_eq]
    exact List.mem_map.mpr ⟨i, List.mem_filter.mpr ⟨List.mem_range.mpr hi, h⟩, rfl⟩
  | false =>
    rw [decide_eq_false_iff_not]
    intro hm
    obtain ⟨j, hj, e⟩ := List.mem_map.mp hm
    have : j = i := by omega
    subst this
    have := (List.mem_filter.mp hj).2
    rw [h] at this
    cases this
theorem placesN_len (al : Al) (z : Str) (t : Sen) : (placesN al z t).length ≤ z.length := by
  unfold placesN
  rw [List.length_map]
  have := List.length_filter_le (fun i => (trL al z t).getD i false) (List.range z.length)
  rwa [List.length_range] at this
theorem inV_ints (i : Int) (ns : List Int) : inV (.int i) (ns.map V.int) = decide (i ∈ ns) := by
  induction ns with
  | nil => rfl
  | cons n ns ih =>
    show ((n == i) || inV (.int i) (ns.map V.int)) = _
    rw [ih]
    by_cases h : n = i
    · subst h; simp
    · rw [beq_eq_false_iff_ne.mpr h]
      simp [Ne.symm h]
theorem ev_inInts {K : PySem.W.Frag} {σ : L2.St} {H : Hp} {ta tb : TE} {i : Int} {ns : List Int} (ha : Ev ta σ H (.int i)) (hb : EvD K tb σ H (.tuple (ns.map .int))) : Ev (tOp (rIn K false) ta tb) σ H (.bl (decide (i ∈ ns))) := fun H1 e Q q =>
  ha H1 e _ fun H2 e2 => hb H2 (e.trans e2) _ fun v H3 e3 hv => by
    obtain ⟨a, xs, rfl, hs, hx⟩ := dp_tuple hv
    have := dpAll_ints' hx
    subst this
    refine (rv_isT (H := H3) hs (x := .int i) rfl ?_) H3 (Ex.refl H3) _ fun H4 e4 => ?_
    · rw [List.all_eq_true]
      intro x hx
      obtain ⟨n, _, rfl⟩ := List.mem_map.mp hx
      rfl
    · rw [inV_ints]
      exact q H4 ((e2.trans e3).trans e4)
theorem tupsN {K : PySem.W.Frag} {H H' : Hp} (e : ExtN H H') : Tups K H H' := fun x ys q => by
  rcases q with (q | ⟨ob, q⟩) | q
  · exact .inl (.inl (e x _ q fun ps z => by cases z))
  · exact .inl (.inr ⟨ob, e x _ q fun ps z => by cases z⟩)
  · exact .inr q
end K38
namespace KR
open PySem PySem.Spec PyProof.Rows L2 Evl KD
theorem andV_of {ta tb : TE} {σ : L2.St} {H : Hp} {Q : VK} (h : ta σ H fun x H1 => ∃ c, x = .bl c ∧ if c = true then tb σ H1 Q else Q (.bl false) H1) : tAndV ta tb σ H Q := h
end KR
namespace K38
open PySem PySem.Spec PyProof.Rows L2 Evl KD KR RZ LamX
section
variable {P : Program} {w : World} {K : PySem.W.Frag} {mg : Str → Option Value} {base : Heap}
def spFi (T : List (Addr × Str)) : Sp := fun vs H Q E => ∃ (a : Addr × Addr) (b : Nat) (va vt : V) (al : Al) (t : Sen) (z : Str), vs = [.ref a.1, va, vt, .str z] ∧ StA a b H ∧ b ≤ 900000 ∧ Tabs T H ∧ Dp K H va al.d ∧ Dp K H vt t.d ∧ GA al ∧ t.inA al ∧ t.dep ≤ 3 ∧ okText al z ∧ 1 ≤ z.length ∧ z.length ≤ 9 ∧
  ∀ H', ExL a H H' → StA a (b + 1) H' → Tabs T H' → Q (.bl true) H'
theorem ok_law_fits (G : Pg K mg) (R : Errs K G) {k : Nat} {T : List (Addr × Str)} {c P0 : Addr} (F : FunC K "_law_fits" "_law_fits" s_law_fits G.f_law_fits G.fd_law_fits c) (TB : TabB base mg c P0) (hmT : (P0, lq "_law_fits" s_law_fits G.f_law_fits c) ∈ T) (hu : ∀ p ∈ T, p.1 = P0 → p.2 = lq "_law_fits" s_law_fits G.f_law_fits c) :
    FnG P w K mg base CX0 (k + 14) G.f_law_fits G.fd_law_fits ["state", "alphabet", "sentence", "text"] (spFi (K := K) T) := by
  refine okGC F sc_law_fits (fun vs H Q E h => ?_) (fun A outer s H vs Q E hgd hr h => ?_)
  · obtain ⟨a, b, va, vt, al, t, z, rfl, _⟩ := h
    rfl
  · have hrT : Room ((k + 11) + 2) (A.deeper (envOfC "_law_fits" (defScope s_law_fits) s.heap.objs.size G.f_law_fits (.ref c))) := hr
    have hu64 := hr.units
    have G_law_so := (ok_law_so (P := P) (w := w) (base := base) G (k := k) 4)
    have hr_law_so : Room (k + 2 + 4) (A.deeper (envOfC "_law_fits" (defScope s_law_fits) s.heap.objs.size G.f_law_fits (.ref c))) := hr.mono (by omega)
    have G_places_so := (ok_places_so (P := P) (w := w) (base := base) G (k := k)).mono (k := k + 11) (by omega)
    have G_holds := ok_holds (P := P) (w := w) (base := base) G (k := k)
    have G_parts := (ok_parts (P := P) (w := w) (base := base) G (k := k)).mono (k := k + 11) (by omega)
    have G_is_so := (ok_is_so (P := P) (w := w) (base := base) G (k := k)).mono (k := k + 11) (by omega)
    have G_law_same := ok_law_same (P := P) (w := w) (base := base) G (k := k)
    have hr_law_same : Room (k + 1) (A.deeper (envOfC "_law_fits" (defScope s_law_fits) s.heap.objs.size G.f_law_fits (.ref c))) := hr.mono (by omega)
    have G_law_parts := (ok_law_parts (P := P) (w := w) (base := base) G (k := k) 4)
    have hr_law_parts : Room (k + 4) (A.deeper (envOfC "_law_fits" (defScope s_law_fits) s.heap.objs.size G.f_law_fits (.ref c))) := hr.mono (by omega)
    have G_law_next := ok_law_next (P := P) (w := w) (base := base) G (k := k)
    have hr_law_next : Room (k + 1) (A.deeper (envOfC "_law_fits" (defScope s_law_fits) s.heap.objs.size G.f_law_fits (.ref c))) := hr.mono (by omega)
    have G_check_sentence := ok_check_sentence (P := P) (w := w) (base := base) G (k := k)
    have hr_check_sentence : Room (k + 8) (A.deeper (envOfC "_law_fits" (defScope s_law_fits) s.heap.objs.size G.f_law_fits (.ref c))) := hr.mono (by omega)
    refine ⟨_, (pss_cons (ps_set (i := 4) sc_law_fits.nd rfl (Or.inl rfl) (pe_callTy call_tuple_of (by rfl) G.n_tuple (by decide +kernel) (pa_cons (pe_lc (own := [("at", 6)]) rfl sc_law_fits.nd (pi_range1 (by rfl) G.n_range (pa_cons (pe_callB call_len (by rfl) G.n_len (by decide +kernel) (pa_cons (pv 3) pa_nil)) pa_nil)) (blkOk_by (own := [("at", 6)]) (N := ["state", "alphabet", "sentence", "text", "due", "told", "at"]) (sc := defScope s_law_fits) (by decide +kernel)) (fun _ _ _ _ _ => (pg_name (i := 6) sc_law_fits.nd rfl (Or.inl rfl))) (fun _ _ _ _ _ => pts_one (pt_val (pe_call G_law_so hr_law_so (by rfl) G.m_law_so G.k_law_so G.b_law_so .nil pass0 (pa_cons (pv 1) (pa_cons (pv 2) (pa_cons (pv 3) (pa_cons (pv 6) pa_nil))))))) (fun _ _ _ _ _ => (pv 6))) pa_nil)))
      (pss_cons (ps_set (i := 5) sc_law_fits.nd rfl (Or.inl rfl) (pe_lst (pa_cons (pe_told0 (k := _) G R rfl rfl (by rfl) TB rfl hmT hu hrT (lamP_by (N := ["state", "alphabet", "sentence", "text", "due", "told", "at"]) (sc := defScope s_law_fits) (by decide +kernel)) (by rfl) (fun _ _ _ _ _ => rfl) (fun A outer s H E f c' hl => (pe_callS G_places_so hl (by rfl) G.m_places_so G.k_places_so G.b_places_so (fun σ => L2N.passAt lam_takes σ) (pa_cons (pv 1) (pa_cons (pv 2) (pa_cons (pv 3) pa_nil)))))) (pa_cons (pe_told1 (k := _) G R rfl rfl (by rfl) TB rfl hmT hu hrT (lamP_by (N := ["state", "alphabet", "sentence", "text", "due", "told", "at"]) (sc := defScope s_law_fits) (by decide +kernel)) (by rfl) pe_int (fun _ _ _ _ _ _ => rfl) (fun _ _ _ _ _ _ _ => rfl) (by rfl) (fun A outer s H E f c' hl => (pe_callS G_holds hl (by rfl) G.m_holds G.k_holds G.b_holds (fun σ => L2N.passAt lam_takes σ) (pa_cons (pv 1) (pa_cons (pv 2) (pa_cons (pv 3) pa_nil)))))) (pa_cons (pe_told1 (k := _) G R rfl rfl (by rfl) TB rfl hmT hu hrT (lamP_by (N := ["state", "alphabet", "sentence", "text", "due", "told", "at"]) (sc := defScope s_law_fits) (by decide +kernel)) (by rfl) pe_int (fun _ _ _ _ _ _ => rfl) (fun _ _ _ _ _ _ _ => rfl) (by rfl) (fun A outer s H E f c' hl => (pe_callS G_parts hl (by rfl) G.m_parts G.k_parts G.b_parts (fun σ => L2N.passAt lam_takes σ) (pa_cons (pv 1) (pa_cons (pv 2) pa_nil))))) pa_nil)))))
      (pss_cons (ps_if (pt_not (pt_val (pe_callG G_law_same hgd hr_law_same (by rfl) G.m_law_same G.k_law_same G.b_law_same pass0 (pa_cons (pv 5) (pa_cons (pe_lst (pa_cons (pe_tup (pa_cons pe_str (pa_cons (pv 4) pa_nil))) (pa_cons (pe_tup (pa_cons pe_str (pa_cons (pe_cmpR op_in_seq pe_int (pv 4) (by rfl)) pa_nil))) (pa_cons (pe_tup (pa_cons pe_str (pa_cons (pe_callTy call_tuple_of (by rfl) G.n_tuple (by decide +kernel) (pa_cons (pe_call G_law_parts hr_law_parts (by rfl) G.m_law_parts G.k_law_parts G.b_law_parts .nil pass0 (pa_cons (pv 2) pa_nil)) pa_nil)) pa_nil))) pa_nil)))) pa_nil))))) (pss_one (ps_ret pe_bl)) pss_nil)
      (pss_cons (ps_set (i := 6) sc_law_fits.nd rfl (Or.inr rfl) (pe_call G_law_next hr_law_next (by rfl) G.m_law_next G.k_law_next G.b_law_next .nil pass0 (pa_cons (pv 0) (pa_cons (pe_callB call_len (by rfl) G.n_len (by decide +kernel) (pa_cons (pv 3) pa_nil)) pa_nil))))
      (pss_one (ps_ret (pe_and (pe_cmpR (op_eqK (K := K) rfl hu64) (pe_told0 (k := _) G R rfl rfl (by rfl) TB rfl hmT hu hrT (lamP_by (N := ["state", "alphabet", "sentence", "text", "due", "told", "at"]) (sc := defScope s_law_fits) (by decide +kernel)) (by rfl) (fun _ _ _ _ _ => rfl) (fun A outer s H E f c' hl => (pe_callS G_is_so hl (by rfl) G.m_is_so G.k_is_so G.b_is_so (fun σ => L2N.passAt lam_takes σ) (pa_cons (pv 1) (pa_cons (pv 2) (pa_cons (pv 3) (pa_cons (pv 6) pa_nil))))))) (pe_tup (pa_cons pe_str (pa_cons (pe_cmpR op_in_seq (pv 6) (pv 4) (by rfl)) pa_nil))) (nomark _)) (pe_one (pe_cmpR op_isN (pe_call G_check_sentence hr_check_sentence (by rfl) G.m_check_sentence G.k_check_sentence G.b_check_sentence .nil passLN (pa_cons (pv 1) (pa_cons (pv 2) pa_nil))) pe_non (nomark _)))))))))), ?_⟩
    obtain ⟨a, b, va, vt, al, t, z, rfl, hst, hb, hT, hda, hdt, hga, hin, hdep, hok, hz1, hz9, hres⟩ := h
    have hdis := hga.dis
    have hsh := hga.short
    have hasc := inA_asc hga t hin
    have hwf := inA_wf t hin
    have hsz : t.size ≤ 15 := by
      have h1 := size_dep t
      have h2 : 2 ^ (t.dep + 1) ≤ 2 ^ 4 := Nat.pow_le_pow_right (by decide) (by omega)
      omega
    have hca := caR3_good hga hin (by omega) (by omega) hok hz1 (by omega)
    have hcs := csR_good hga hin (by omega) (by omega)
    have hnb : cp al 6 t.raw ≠ .bad := by rw [cp_ok t 6 hin (by omega)]; intro q; cases q
    have hlen := trL_len al z t
    have hkl := kpL_len t
    have imt := imm_d t
    have im := al_imm al
    -- due
    refine q_asgD (K := K) (d := .tuple (placesD al z t)) (evd_tupleOf (EvN.dp (evn_lc (evw_range1 (n := (z.length : Nat)) (ea_cons (ev_lenS (ev_var rfl) (by omega)) ea_nil) (by omega)) (mono_name (i := 6)) (fun i => (trL al z t).getD i false) (fun i => .int (i : Nat)) (by omega) (fun _ _ _ => rfl) fun i x H1 e1 hi y => ?_)) (kept_imm fun _ _ _ => rfl)) fun vd H1 e1 hvd => ?_
    · subst y
      refine ⟨Ex.refl _, rfl, et_is (et_B (evd_bool (K := K) (evd_call (d := .bool (soV (trL al z t) (i : Nat))) (ead_cons (evd_var rfl (Dpx e1 hda)) (ead_cons (evd_var rfl (Dpx e1 hdt)) (ead_cons (ev_str (ev_var rfl)) (ead_cons (ev_int (ev_var rfl)) ead_nil)))) fun vs H2 e2 hv Q q => ?_))) (soV_nat _ _), fun _ => ev_int (ev_var rfl)⟩
      cases hv with
      | cons g1 g2 =>
      cases g2 with
      | cons g2 g3 =>
      cases g3 with
      | cons g3 g4 =>
      cases g4 with
      | cons g4 g5 =>
      cases g5
      cases dp_str g3
      cases dp_int g4
      exact ⟨_, _, al, t, z, _, rfl, g1, g2, by omega, hdis, hok, hwf, by omega, fun H' e => q _ H' e (.bl _)⟩
    have hT1 := hT.ext e1
    have hda1 := Dpx e1 hda
    have hdt1 := Dpx e1 hdt
    have imd : imm (.tuple (placesD al z t)) = true := kept_imm fun _ _ _ => rfl
    have ask : ∀ {H' : Hp}, Dp K H' va al.d → Dp K H' vt t.d → Ask3 K H' al t.raw z va vt := fun h1 h2 => ⟨hsh, hnb, by omega, h1, by rw [raw_d]; exact h2⟩
    have noR : ∀ {H' : Hp} {Q' : VK} {E' : XK}, ∀ e, (∀ d, e ≠ .ok d) → caR3 al t.raw z = e → Res G.C_NotAllowed G.C_TooLarge K H' Q' E' e := fun e he h => absurd (hca.symm.trans h).symm (he _)
    refine asg_of (lst_of (cons_of (lv_told (K := K) hT1 (.ok (.tuple (placesD al z t))) (fun Ha xa Q' E' hR => ?_) fun v0 H2 x2 T2 hv0 => cons_of (lv_told (K := K) T2 (.ok (.bool ((trL al z t).getD 0 false))) (fun Ha xa Q' E' hR => ?_) fun v1 H3 x3 T3 hv1 => cons_of (lv_told (K := K) T3 (.ok (.tuple ((kpL t).map Sen.d))) (fun Ha xa Q' E' hR => ?_) fun v2 H4 x4 T4 hv2 => nil_of ⟨by show 3 ≤ sizeLine; decide, fun pl hpl => ?_⟩)))))
    · exact ⟨va, rfl, vt, rfl, .str z, rfl, al, t.raw, z, va, vt, rfl, ask (dp_imm (tupsN xa) _ _ im hda1) (dp_imm (tupsN xa) _ _ imt hdt1), noR, fun t' ht' _ _ => by rw [places_raw ht']; exact hR⟩
    · exact ⟨va, rfl, vt, rfl, .str z, rfl, al, t.raw, z, va, vt, rfl, ask (dp_imm (tupsN (x2.trans xa)) _ _ im hda1) (dp_imm (tupsN (x2.trans xa)) _ _ imt hdt1), noR, fun t' ht' _ _ => by rw [← trL_raw al z t t' ht']; exact hR⟩
    · exact ⟨va, rfl, vt, rfl, al, t, va, vt, rfl, hsh, dp_imm (tupsN ((x2.trans x3).trans xa)) _ _ im hda1, dp_imm (tupsN ((x2.trans x3).trans xa)) _ _ imt hdt1, hasc, by omega, ⟨_, hcs⟩, hR⟩
    have x14 := (x2.trans x3).trans x4
    have imk : imm (.tuple ((kpL t).map Sen.d)) = true := all_imm fun d hd => by obtain ⟨q, _, rfl⟩ := List.mem_map.mp hd; exact imm_d q
    generalize hH5 : upd H4 pl (.lst [v0, v1, v2]) = H5
    have e5 : Ex H4 H5 := by rw [← hH5]; exact Ex.new hpl
    have l5 : H5 pl = some (.lst [v0, v1, v2]) := by rw [← hH5, upd_same]
    have x15 := x14.trans (extN_of e5)
    have d0 : imm (toldOf (.ok (.tuple (placesD al z t)))) = true := by show (true && (imm (.tuple (placesD al z t)) && true)) = true; rw [imd]; rfl
    have d2 : imm (toldOf (.ok (.tuple ((kpL t).map Sen.d)))) = true := by show (true && (imm (.tuple ((kpL t).map Sen.d)) && true)) = true; rw [imk]; rfl
    have dl5 : Dp K H5 (.ref pl) (.list [toldOf (.ok (.tuple (placesD al z t))), toldOf (.ok (.bool ((trL al z t).getD 0 false))), toldOf (.ok (.tuple ((kpL t).map Sen.d)))]) :=
      .lst (sq_of l5) (.cons (dp_imm (tupsN ((x3.trans x4).trans (extN_of e5))) _ _ d0 hv0) (.cons (dp_imm (tupsN (x4.trans (extN_of e5))) _ _ rfl hv1) (.cons (Dpx e5 hv2) .nil)))
    have T5 := T4.ext e5
    have hda5 := dp_imm (tupsN x15) _ _ im hda1
    have hdt5 := dp_imm (tupsN x15) _ _ imt hdt1
    have hvd5 := dp_imm (tupsN x15) _ _ imd hvd
    have st5 : StA a b H5 := by
      obtain ⟨kk, ns, g1, g2, g3⟩ := hst.mono e1
      exact ⟨kk, ns, x15 _ _ g1 (fun _ q => by cases q), x15 _ _ g2 (fun _ q => by cases q), g3⟩
    have szp : ∀ p ∈ kpL t, p.asc ∧ p.dep ≤ 3 ∧ p.size ≤ 15 := fun p hp => by
      obtain ⟨q1, q2⟩ := kpL_fit t 3 ⟨hasc, hdep⟩ p hp
      have h1 := size_dep p
      have h2 : 2 ^ (p.dep + 1) ≤ 2 ^ 4 := Nat.pow_le_pow_right (by decide) (by omega)
      exact ⟨q1, q2, by omega⟩
    have sm0 : Sm (.tuple (placesD al z t)) 1 100 := by
      rw [placesD_eq]
      refine (Sm.tup (n := 0) (w := 5) fun d hd => ?_).mono (Nat.le_refl _) (by rw [List.length_map]; have := placesN_len al z t; omega)
      obtain ⟨n, hn, rfl⟩ := List.mem_map.mp hd
      obtain ⟨i, hi, rfl⟩ := List.mem_map.mp hn
      have := List.mem_range.mp (List.mem_filter.mp hi).1
      exact sm_nat i (by omega)
    have sm2 : Sm (.tuple ((kpL t).map Sen.d)) 5 6000 := by
      refine (Sm.tup (n := 4) (w := 360) fun d hd => ?_).mono (Nat.le_refl _) (by rw [List.length_map]; have h9 := Nat.mul_le_mul_right 361 (Nat.le_trans hkl hsz); omega)
      obtain ⟨p, hp, rfl⟩ := List.mem_map.mp hd
      obtain ⟨q1, q2, q3⟩ := szp p hp
      exact (sm_sen p q1).mono (by omega) (by omega)
    have tol : ∀ {d : PyData}, Sm d 5 6000 → Sm (.tuple [.str "told", d]) 6 13000 := fun hd => (Sm.tup (n := 5) (w := 6000) fun x hx => by
      simp at hx
      rcases hx with rfl | rfl
      · exact (sm_str (asc_of (by decide +kernel)) (by decide +kernel : (Str.ofString "told").length ≤ 10)).mono (by omega) (by omega)
      · exact hd).mono (Nat.le_refl _) (by show 2 * 6001 ≤ 13000; decide)
    have smL : Sm (.list [toldOf (.ok (.tuple (placesD al z t))), toldOf (.ok (.bool ((trL al z t).getD 0 false))), toldOf (.ok (.tuple ((kpL t).map Sen.d)))]) 50 500000 := (Sm.lst (n := 6) (w := 13000) fun x hx => by
      simp at hx
      rcases hx with rfl | rfl | rfl
      · exact tol (sm0.mono (by omega) (by omega))
      · exact tol ((sm_bool _ (w := 1)).mono (by omega) (by omega))
      · exact tol sm2).mono (by omega) (by show 3 * 13001 ≤ 500000; decide)
    refine q_when (b := false) (et_is (et_not (et_B (evd_bool (K := K) (evd_call (d := .bool true) (ead_cons (evd_var rfl dl5) (ead_cons (EvN.dp (evn_lst (ds := [toldOf (.ok (.tuple (placesD al z t))), toldOf (.ok (.bool ((trL al z t).getD 0 false))), toldOf (.ok (.tuple ((kpL t).map Sen.d)))]) (ead_cons (evd_tup (ead_cons (ev_str ev_c) (ead_cons (evd_var rfl hvd5) ead_nil)) (by show 2 ≤ 100000; decide)) (ead_cons (evd_tup (ead_cons (ev_str ev_c) (ead_cons (ev_bool (ev_is (ev_inInts (ns := placesN al z t) ev_c (by rw [← placesD_eq]; exact evd_var rfl hvd5)) (congrArg V.bl (placesN_mem (i := 0) (by omega))))) ead_nil)) (by show 2 ≤ 100000; decide)) (ead_cons (evd_tup (ead_cons (ev_str ev_c) (ead_cons (evd_tupleOf (EvN.dp (evn_call (es := (kpL t).map Sen.d) (ead_cons (evd_var rfl hdt5) ead_nil) fun vs H6 e6 hv Q' q => ?_)) imk) ead_nil)) (by show 2 ≤ 100000; decide)) ead_nil))) (by show 3 ≤ 100000; decide))) ead_nil)) fun vs H6 e6 hv Q' q => ?_)))) rfl) (fun h => by cases h) fun _ H6 e6 => ?_
    · cases hv with
      | cons g1 g2 =>
      cases g2
      exact ⟨_, t, rfl, g1, hasc, by omega, by omega, q⟩
    · cases hv with
      | cons g1 g2 =>
      cases g2 with
      | cons g2 g3 =>
      cases g3
      exact ⟨_, _, _, rfl, g1, g2, smL, fun H' e => q _ H' e (.bl _)⟩
    refine asg_of (use_next (m := (z.length : Nat)) (st5.mono e6) (by omega) rfl (ev_lenS (ev_var rfl) (by omega)) (by omega) fun r H7 r0 r1 y7 s7 => ?_)
    obtain ⟨i, rfl⟩ : ∃ i : Nat, r = i := ⟨r.toNat, by omega⟩
    have hi : i < z.length := by omega
    have tu7 := y7.tups (K := K) (st5.mono e6)
    have hda7 := dp_imm tu7 _ _ im (Dpx e6 hda5)
    have hdt7 := dp_imm tu7 _ _ imt (Dpx e6 hdt5)
    have hvd7 := dp_imm tu7 _ _ imd (Dpx e6 hvd5)
    have T7 : Tabs T H7 := by
      intro p hp
      obtain ⟨ps, g1, g2, g3⟩ := (T5.ext e6) p hp
      obtain ⟨xs, hx⟩ := (st5.mono e6).has
      have na : ∀ {x : Addr} {o : HO}, H6 x = some o → (∀ xs, o ≠ .lst xs) → x ≠ a.1 := fun h1 h2 z => by
        rw [z, hx] at h1
        cases h1
        exact h2 _ rfl
      refine ⟨ps, y7 _ _ (na g1 fun _ q => by cases q) g1, g2, fun pos cv hcv => ?_⟩
      obtain ⟨c0, q1, q2⟩ := g3 pos cv hcv
      exact ⟨c0, q1, y7 _ _ (na q2 fun _ q => by cases q) q2⟩
    refine ret_of (andV_of (op_of (lv_told (K := K) T7 (.ok (.bool ((trL al z t).getD i false))) (fun Ha xa Q' E' hR => ?_) fun v H8 x8 T8 hv8 => ?_)))
    · refine ⟨va, rfl, vt, rfl, .str z, rfl, .int (i : Nat), rfl, al, t.raw, z, va, vt, (i : Nat), rfl, ask (dp_imm (tupsN xa) _ _ im hda7) (dp_imm (tupsN xa) _ _ imt hdt7), noR, fun t' ht' _ _ => ?_⟩
      unfold atP
      rw [if_pos ⟨by omega, by omega⟩, Int.toNat_natCast, ← trL_raw al z t t' ht']
      exact hR
    · have hda8 := dp_imm (tupsN x8) _ _ im hda7
      have hdt8 := dp_imm (tupsN x8) _ _ imt hdt7
      have hvd8 := dp_imm (tupsN x8) _ _ imd hvd7
      refine (evd_tup (K := K) (ds := [.str "told", .bool ((trL al z t).getD i false)]) (ead_cons (ev_str ev_c) (ead_cons (ev_bool (ev_is (ev_inInts (ns := placesN al z t) (ev_var rfl) (by rw [← placesD_eq]; exact evd_var rfl hvd8)) (congrArg V.bl (placesN_mem hi)))) ead_nil)) (by show 2 ≤ 100000; decide)) H8 (Ex.refl H8) _ fun w9 H9 e9 hw9 => ?_
      have shp : ∀ b : Bool, SeqAt.shaped (.tuple [.str "told", .bool b]) = true := fun b => by cases b <;> decide +kernel
      have eqt : ∀ b : Bool, PyData.eqv (.tuple [.str "told", .bool b]) (.tuple [.str "told", .bool b]) = true := fun b => by cases b <;> decide +kernel
      refine ⟨_, _, Dpx e9 hv8, hw9, shp _, shp _, true, congrArg V.bl (eqt _), ?_⟩
      rw [if_pos rfl]
      refine op_of ((evd_call (K := K) (d := .none) (ead_cons (evd_var rfl (Dpx e9 hda8)) (ead_cons (evd_var rfl (Dpx e9 hdt8)) ead_nil)) fun vs Hb eb hv Q' q => ⟨al, t.raw, hsh, hnb, by rw [raw_d]; exact hv, by rw [hcs]; exact fun v H' x y => q v H' x y⟩) H9 (Ex.refl H9) _ fun w10 H10 e10 hw10 => c_of ⟨rfl, ?_⟩)
      cases dp_none hw10
      refine hres H10 (fun b o n h1 h2 => (e9.trans e10) _ _ (x8 _ _ (y7 _ _ n (e6 _ _ (x15 _ _ (e1 _ _ h1) h2))) h2)) ?_ ((T8.ext e9).ext e10)
      obtain ⟨kk, ns, g1, g2, g3⟩ := s7
      exact ⟨kk, ns, (e9.trans e10) _ _ (x8 _ _ g1 (fun _ q => by cases q)), (e9.trans e10) _ _ (x8 _ _ g2 (fun _ q => by cases q)), g3⟩
end
end K38
namespace K38
open PySem PySem.Spec PyProof.Rows L2 Evl KD KR RZ LamX
/-! ### rules that hold for all sentences -/
section
variable {al : Al} {z : Str} {i : Nat}
theorem trL_ext {t t' : Sen} (h : ∀ i, i < z.length → (trL al z t).getD i false = (trL al z t').getD i false) : trL al z t = trL al z t' := by
  have h1 := trL_len al z t
  have h2 := trL_len al z t'
  apply List.ext_getElem (by omega)
  intro i q1 q2
  have := h i (by omega)
  rw [List.getD_eq_getElem?_getD, List.getD_eq_getElem?_getD, List.getElem?_eq_getElem q1, List.getElem?_eq_getElem q2] at this
  exact this
theorem at_not (hi : i < z.length) (a : Sen) : (trL al z (.un .not a)).getD i false = !(trL al z a).getD i false := by
  show ((trL al z a).map (!·)).getD i false = _
  rw [getD_map (a := false) (by rw [trL_len]; exact hi)]
theorem at_both (hi : i < z.length) (a b : Sen) : (trL al z (.bi .both a b)).getD i false = ((trL al z a).getD i false && (trL al z b).getD i false) := getD_range hi
theorem at_either (hi : i < z.length) (a b : Sen) : (trL al z (.bi .either a b)).getD i false = ((trL al z a).getD i false || (trL al z b).getD i false) := getD_range hi
theorem soV_lt {bs : List Bool} {p : Int} (h : ¬ (0 ≤ p ∧ p < (bs.length : Int))) : soV bs p = false := soV_out (by omega)
theorem until_rule (hdis : al.dis) (hok : okText al z) (plain : Bool) (u : Bi) (w : Un) (hu : ∀ a b, trL al z (.bi u a b) = untilL al z plain (trL al z a) (trL al z b)) (hw : w ≠ .not) (hg : ∀ i, i < z.length → goalM al z i w = if plain = true then (i : Int) + 1 else behindM al z i) (a b : Sen) :
    trL al z (.bi u a b) = trL al z (.bi .either b (.bi .both a (.un w (.bi u a b)))) := trL_ext fun i hi => by
  rw [at_either hi, at_both hi, so_un hdis hok hi w hw, hg i hi, hu a b]
  have h0 : (untilL al z plain (trL al z a) (trL al z b)).getD i false = untilU al z plain (trL al z a) (trL al z b) i := getD_range hi
  cases hb : (trL al z b).getD i false with
  | true => rw [h0, untilU_step hi, hb, Bool.true_or, Bool.true_or]
  | false =>
    cases ha : (trL al z a).getD i false with
    | false => rw [h0, untilU_step hi, hb, ha]; rfl
    | true =>
      have := until_go (al := al) (plain := plain) hi ha hb
      rw [← soV_nat, this]
      rfl
theorem rule3 (a b : Sen) : trL al z (.bi .both a b) = trL al z (.un .not (.bi .either (.un .not a) (.un .not b))) := trL_ext fun i hi => by
  rw [at_both hi, at_not hi, at_either hi, at_not hi, at_not hi]
  cases (trL al z a).getD i false <;> cases (trL al z b).getD i false <;> rfl
theorem rule4 (hdis : al.dis) (hok : okText al z) (e : Sen) (he : ∀ i, i < z.length → (trL al z e).getD i false = true) : trL al z (.un .next e) = trL al z (.bi .until e (.un .next e)) := trL_ext fun i hi => by
  have h0 : (untilL al z true (trL al z e) (trL al z (.un .next e))).getD i false = untilU al z true (trL al z e) (trL al z (.un .next e)) i := getD_range hi
  show _ = (untilL al z true (trL al z e) (trL al z (.un .next e))).getD i false
  rw [h0, untilU_step hi]
  by_cases hl : i + 1 < z.length
  · have : (trL al z (.un .next e)).getD i false = true := by
      rw [so_un hdis hok hi .next (by intro h; cases h)]
      show soV (trL al z e) ((i : Int) + 1) = true
      rw [show ((i : Int) + 1) = ((i + 1 : Nat) : Int) by omega, soV_nat, he (i + 1) hl]
    rw [this, Bool.true_or]
  · have h1 : (trL al z (.un .next e)).getD i false = false := by
      rw [so_un hdis hok hi .next (by intro h; cases h)]
      show soV (trL al z e) ((i : Int) + 1) = false
      exact soV_out (.inr (by rw [trL_len]; omega))
    have h2 : nextM al z true i = -1 := by
      unfold nextM
      rw [if_pos rfl, if_neg (by rw [decide_eq_true_eq]; omega)]
    rw [h1, h2]
    simp
theorem rule5 (hdis : al.dis) (hok : okText al z) (a : Sen) : trL al z (.bi .both (.kind 0) (.un .leap a)) = trL al z (.bi .both (.kind 0) (.un .partner a)) := trL_ext fun i hi => by
  rw [at_both hi, at_both hi, so_un hdis hok hi .leap (by intro h; cases h), so_un hdis hok hi .partner (by intro h; cases h)]
  have hv : (trL al z (.kind 0)).getD i false = decide (kindOf al (at_ z i) = kinds3.getD 0 "") := by
    show (z.cps.toList.map fun x => decide (kindOf al x = kinds3.getD 0 "")).getD i false = _
    rw [getD_map (a := 0) (by rw [Array.length_toList]; exact hi)]
    rfl
  rw [hv, kind_at hdis (at_has hok hi) 0 (by decide)]
  show (inA al (at_ z i) && soV (trL al z a) (behindM al z i)) = (inA al (at_ z i) && soV (trL al z a) (lawP al z i))
  cases ha : inA al (at_ z i) with
  | false => rfl
  | true =>
    have : behindM al z i = lawP al z i := by
      unfold behindM
      rw [if_pos ha, lawP_eq0 hdis hok hi]
    rw [this]
theorem rule6 (hdis : al.dis) (hok : okText al z) (a b : Sen) : trL al z (.un .next (.bi .either a b)) = trL al z (.bi .either (.un .next a) (.un .next b)) := trL_ext fun i hi => by
  rw [at_either hi, so_un hdis hok hi .next (by intro h; cases h), so_un hdis hok hi .next (by intro h; cases h), so_un hdis hok hi .next (by intro h; cases h)]
  show soV _ ((i : Int) + 1) = (soV _ ((i : Int) + 1) || soV _ ((i : Int) + 1))
  by_cases hl : i + 1 < z.length
  · rw [show ((i : Int) + 1) = ((i + 1 : Nat) : Int) by omega, soV_nat, soV_nat, soV_nat, at_either hl]
  · rw [soV_out (.inr (by rw [trL_len]; omega)), soV_out (.inr (by rw [trL_len]; omega)), soV_out (.inr (by rw [trL_len]; omega))]
    rfl
end
def everyS (a : Sen) : Sen := .bi .either a (.un .not a)
def prs (a b : Sen) : List (Sen × Sen) := [(.bi .until a b, .bi .either b (.bi .both a (.un .next (.bi .until a b)))), (.bi .leapuntil a b, .bi .either b (.bi .both a (.un .leap (.bi .leapuntil a b)))),
  (.bi .both a b, .un .not (.bi .either (.un .not a) (.un .not b))), (.un .next (everyS a), .bi .until (everyS a) (.un .next (everyS a))),
  (.bi .both (.kind 0) (.un .leap a), .bi .both (.kind 0) (.un .partner a)), (.un .next (.bi .either a b), .bi .either (.un .next a) (.un .next b))]
def okS (al : Al) (t : Sen) : Prop := t.inA al ∧ t.dep < 6 ∧ t.size ≤ 24
theorem prs_ok {al : Al} {z : Str} (hdis : al.dis) (hok : okText al z) {a b : Sen} (ha : a.inA al) (hb : b.inA al) (da : a.dep ≤ 1) (db : b.dep ≤ 1) : ∀ p ∈ prs a b, okS al p.1 ∧ okS al p.2 ∧ trL al z p.1 = trL al z p.2 := by
  have sa : a.size ≤ 3 := by
    have h1 := size_dep a
    have h2 : 2 ^ (a.dep + 1) ≤ 2 ^ 2 := Nat.pow_le_pow_right (by decide) (by omega)
    omega
  have sb : b.size ≤ 3 := by
    have h1 := size_dep b
    have h2 : 2 ^ (b.dep + 1) ≤ 2 ^ 2 := Nat.pow_le_pow_right (by decide) (by omega)
    omega
  intro p hp
  simp only [prs, List.mem_cons, List.not_mem_nil, or_false] at hp
  rcases hp with rfl | rfl | rfl | rfl | rfl | rfl
  · exact ⟨⟨⟨ha, hb⟩, by simp only [Sen.dep]; omega, by simp only [Sen.size]; omega⟩, ⟨⟨hb, ha, ha, hb⟩, by simp only [Sen.dep]; omega, by simp only [Sen.size]; omega⟩, until_rule hdis hok true .until .next (fun _ _ => rfl) (by intro h; cases h) (fun _ _ => rfl) a b⟩
  · exact ⟨⟨⟨ha, hb⟩, by simp only [Sen.dep]; omega, by simp only [Sen.size]; omega⟩, ⟨⟨hb, ha, ha, hb⟩, by simp only [Sen.dep]; omega, by simp only [Sen.size]; omega⟩, until_rule hdis hok false .leapuntil .leap (fun _ _ => rfl) (by intro h; cases h) (fun _ _ => rfl) a b⟩
  · exact ⟨⟨⟨ha, hb⟩, by simp only [Sen.dep]; omega, by simp only [Sen.size]; omega⟩, ⟨⟨ha, hb⟩, by simp only [Sen.dep]; omega, by simp only [Sen.size]; omega⟩, rule3 a b⟩
  · refine ⟨⟨⟨ha, ha⟩, by simp only [Sen.dep, everyS]; omega, by simp only [Sen.size, everyS]; omega⟩, ⟨⟨⟨ha, ha⟩, ⟨ha, ha⟩⟩, by simp only [Sen.dep, everyS]; omega, by simp only [Sen.size, everyS]; omega⟩, rule4 hdis hok _ fun i hi => ?_⟩
    unfold everyS
    rw [at_either hi, at_not hi]
    cases (trL al z a).getD i false <;> rfl
  · exact ⟨⟨⟨(by decide : 0 < 3), ha⟩, by simp only [Sen.dep]; omega, by simp only [Sen.size]; omega⟩, ⟨⟨(by decide : 0 < 3), ha⟩, by simp only [Sen.dep]; omega, by simp only [Sen.size]; omega⟩, rule5 hdis hok a⟩
  · exact ⟨⟨⟨ha, hb⟩, by simp only [Sen.dep]; omega, by simp only [Sen.size]; omega⟩, ⟨⟨ha, hb⟩, by simp only [Sen.dep]; omega, by simp only [Sen.size]; omega⟩, rule6 hdis hok a b⟩
end K38
namespace KR
open PySem PySem.Spec PyProof.Rows L2 Evl KD
section
variable {K : PySem.W.Frag} {σ : L2.St} {H : Hp} {ta te : TE} {D : Ends} {tz : TS} {d : PyData}
theorem q_appD {l : Addr} {xs : List V} (hl : H l = some (.lst xs)) (ha : Ev ta σ H (.ref l)) (h : EvD K te σ H d) (hz : xs.length < 100000) (k : ∀ v H1, Ex H H1 → Dp K H1 v d → tz D σ (upd H1 l (.lst (xs ++ [v])))) :
    tSeq (tDrop (tBM K "list" rAppend ta (tCons te tNil))) tz D σ H := ha H (Ex.refl H) _ fun H1 e1 =>
  ⟨Or.inl ⟨rfl, xs, sq_of (e1 l _ hl)⟩, h H1 e1 _ fun v H2 e2 hv => ⟨l, xs, v, rfl, rfl, e2 l _ (e1 l _ hl), sz_lt hz, k v H2 (e1.trans e2) hv⟩⟩
theorem not_of {c : TT} {Q : Bool → Hp → Prop} (h : c σ H fun b H1 => Q (!b) H1) : tNot c σ H Q := h
theorem b_of {Q : Bool → Hp → Prop} (h : te σ H fun x H' => ∃ k, x = .bl k ∧ Q k H') : tB te σ H Q := h
theorem call_of {sp : Sp} {E : XK} {t : TA} {Q : VK} (h : t σ H fun vs H1 => sp vs H1 Q E) : tCall sp [] E t σ H Q := by
  have e : (fun (vs : List V) (H1 : Hp) => sp (vs ++ []) H1 Q E) = fun vs H1 => sp vs H1 Q E := by
    funext vs H1
    rw [List.append_nil]
  show t σ H (fun vs H1 => sp (vs ++ []) H1 Q E)
  rw [e]
  exact h
end
section
variable {P : Program} {w : World} {K : PySem.W.Frag} {mg : Str → Option Value} {base : Heap}
theorem okGCn {CX : CXT} {x qual : Str} {st : Stmt} {f c : Addr} {fd : FuncData} {N ps : List Str} {k : Nat} {sp : Sp} (F : FunC K x qual st f fd c) (S : FnScope N ps (defScope st)) (len : ∀ vs H Q E, sp vs H Q E → vs.length = ps.length)
    (hbody : ∀ (A : Around) (outer : List Env) (s : Shared) (H : Hp) (vs : List V) (Q : VK) (E : XK), (A.deeper (envOfC qual (defScope st) s.heap.objs.size f (.ref c))).guards = some [] → Room k (A.deeper (envOfC qual (defScope st) s.heap.objs.size f (.ref c))) → sp vs H Q E →
      ∃ t, PSs (cxOf CX P w K mg base N qual (defScope st) f (.ref c) A outer s H E).nox (defBody st) t ∧ t { nx := fun _ H' => Q .non H', rt := Q } (start N vs) H) : FnG P w K mg base CX (k + 1) f fd ps sp :=
  okGC F S len fun A outer s H vs Q E hg hr h => by
    obtain ⟨t, ht, hq⟩ := hbody A outer s H vs Q E hg hr h
    exact ⟨t, ht.nox, hq⟩
theorem okGn {CX : CXT} {x qual : Str} {st : Stmt} {f : Addr} {fd : FuncData} {N ps : List Str} {k : Nat} {sp : Sp} (F : L2.Fun K x qual st f fd) (S : FnScope N ps (defScope st)) (len : ∀ vs H Q E, sp vs H Q E → vs.length = ps.length)
    (hbody : ∀ (cdv : Value) (A : Around) (outer : List Env) (s : Shared) (H : Hp) (vs : List V) (Q : VK) (E : XK), (A.deeper (envOfC qual (defScope st) s.heap.objs.size f cdv)).guards = some [] → Room k (A.deeper (envOfC qual (defScope st) s.heap.objs.size f cdv)) → sp vs H Q E →
      ∃ t, PSs (cxOf CX P w K mg base N qual (defScope st) f cdv A outer s H E).nox (defBody st) t ∧ t { nx := fun _ H' => Q .non H', rt := Q } (start N vs) H) : FnG P w K mg base CX (k + 1) f fd ps sp :=
  okG F S len fun cdv A outer s H vs Q E hg hr h => by
    obtain ⟨t, ht, hq⟩ := hbody cdv A outer s H vs Q E hg hr h
    exact ⟨t, ht.nox, hq⟩
end
end KR
namespace K38
open PySem PySem.Spec PyProof.Rows L2 Evl KD KR RZ LamX
def pairD (p : Sen × Sen) : PyData := .tuple [p.1.d, p.2.d]
theorem imm_pair (p : Sen × Sen) : imm (pairD p) = true := by
  show (imm p.1.d && (imm p.2.d && true)) = true
  rw [imm_d, imm_d]; rfl
section
variable {P : Program} {w : World} {K : PySem.W.Frag} {mg : Str → Option Value} {base : Heap}
def spRF (T : List (Addr × Str)) : Sp := fun vs H Q E => ∃ (a : Addr × Addr) (b : Nat) (va : V) (al : Al) (z : Str), vs = [.ref a.1, va, .str z] ∧ StA a b H ∧ b ≤ 900000 ∧ Tabs T H ∧ Dp K H va al.d ∧ GA al ∧ okText al z ∧ 1 ≤ z.length ∧ z.length ≤ 9 ∧
  ∀ H', ExL a H H' → StA a (b + 24) H' → Tabs T H' → Q (.bl true) H'
theorem sm_places {al : Al} {z : Str} (t : Sen) (hz9 : z.length ≤ 9) : Sm (toldOf (.ok (.tuple (placesD al z t)))) 50 500000 := by
  have sm0 : Sm (.tuple (placesD al z t)) 1 100 := by
    rw [placesD_eq]
    refine (Sm.tup (n := 0) (w := 5) fun d hd => ?_).mono (Nat.le_refl _) (by rw [List.length_map]; have := placesN_len al z t; omega)
    obtain ⟨n, hn, rfl⟩ := List.mem_map.mp hd
    obtain ⟨i, hi, rfl⟩ := List.mem_map.mp hn
    have := List.mem_range.mp (List.mem_filter.mp hi).1
    exact sm_nat i (by omega)
  exact (Sm.tup (n := 1) (w := 100) fun x hx => by
    simp at hx
    rcases hx with rfl | rfl
    · exact (sm_str (asc_of (by decide +kernel)) (by decide +kernel : (Str.ofString "told").length ≤ 10)).mono (by omega) (by omega)
    · exact sm0).mono (by omega) (by show 2 * 101 ≤ 500000; decide)
theorem tabs_S {T : List (Addr × Str)} {a : Addr × Addr} {b : Nat} {H H' : Hp} (hT : Tabs T H) (s : StA a b H) (y : ExS a H H') : Tabs T H' := by
  intro p hp
  obtain ⟨ps, g1, g2, g3⟩ := hT p hp
  obtain ⟨xs, hx⟩ := s.has
  have na : ∀ {x : Addr} {o : HO}, H x = some o → (∀ xs, o ≠ .lst xs) → x ≠ a.1 := fun h1 h2 z => by
    rw [z, hx] at h1
    cases h1
    exact h2 _ rfl
  refine ⟨ps, y _ _ (na g1 fun _ q => by cases q) g1, g2, fun pos cv hcv => ?_⟩
  obtain ⟨c0, q1, q2⟩ := g3 pos cv hcv
  exact ⟨c0, q1, y _ _ (na q2 fun _ q => by cases q) q2⟩
theorem ok_law_rules_fit (G : Pg K mg) (R : Errs K G) {k : Nat} {T : List (Addr × Str)} {c P0 : Addr} (F : FunC K "_law_rules_fit" "_law_rules_fit" s_law_rules_fit G.f_law_rules_fit G.fd_law_rules_fit c) (TB : TabB base mg c P0) (hmT : (P0, lq "_law_rules_fit" s_law_rules_fit G.f_law_rules_fit c) ∈ T) (hu : ∀ p ∈ T, p.1 = P0 → p.2 = lq "_law_rules_fit" s_law_rules_fit G.f_law_rules_fit c) :
    FnG P w K mg base CX0 (k + 14) G.f_law_rules_fit G.fd_law_rules_fit ["state", "alphabet", "text"] (spRF (K := K) T) := by
  refine okGCn F sc_law_rules_fit (fun vs H Q E h => ?_) (fun A outer s H vs Q E hgd hr h => ?_)
  · obtain ⟨a, b, va, al, z, rfl, _⟩ := h
    rfl
  · have hrT : Room ((k + 11) + 2) (A.deeper (envOfC "_law_rules_fit" (defScope s_law_rules_fit) s.heap.objs.size G.f_law_rules_fit (.ref c))) := hr
    have hu64 := hr.units
    have G_law_so := (ok_law_so (P := P) (w := w) (base := base) G (k := k) 6)
    have hr_law_so : Room (k + 2 + 6) (A.deeper (envOfC "_law_rules_fit" (defScope s_law_rules_fit) s.heap.objs.size G.f_law_rules_fit (.ref c))) := hr.mono (by omega)
    have G_places_so := (ok_places_so (P := P) (w := w) (base := base) G (k := k)).mono (k := k + 11) (by omega)
    have G_law_same := ok_law_same (P := P) (w := w) (base := base) G (k := k)
    have hr_law_same : Room (k + 1) (A.deeper (envOfC "_law_rules_fit" (defScope s_law_rules_fit) s.heap.objs.size G.f_law_rules_fit (.ref c))) := hr.mono (by omega)
    have G_law_sentence := ok_law_sentence (P := P) (w := w) (base := base) G (k := k) 1
    have hr_law_sentence : Room (k + 1 + 1 + 1) (A.deeper (envOfC "_law_rules_fit" (defScope s_law_rules_fit) s.heap.objs.size G.f_law_rules_fit (.ref c))) := hr.mono (by omega)
    refine ⟨_, (pss_cons (ps_par (i := 3) (j := 4) rfl sc_law_rules_fit.nd rfl rfl (by decide) rfl rfl (pa_cons (pe_call G_law_sentence hr_law_sentence (by rfl) G.m_law_sentence G.k_law_sentence G.b_law_sentence .nil pass0 (pa_cons (pv 0) (pa_cons (pv 1) (pa_cons pe_int pa_nil)))) (pa_cons (pe_call G_law_sentence hr_law_sentence (by rfl) G.m_law_sentence G.k_law_sentence G.b_law_sentence .nil pass0 (pa_cons (pv 0) (pa_cons (pv 1) (pa_cons pe_int pa_nil)))) pa_nil)) (by rfl))
      (pss_cons (ps_set (i := 5) sc_law_rules_fit.nd rfl (Or.inl rfl) (pe_tup (pa_cons pe_str (pa_cons (pv 3) (pa_cons (pe_tup (pa_cons pe_str (pa_cons (pv 3) pa_nil))) pa_nil)))))
      (pss_cons (ps_set (i := 6) sc_law_rules_fit.nd rfl (Or.inl rfl) (pe_lst (pa_cons (pe_tup (pa_cons (pe_tup (pa_cons pe_str (pa_cons (pv 3) (pa_cons (pv 4) pa_nil)))) (pa_cons (pe_tup (pa_cons pe_str (pa_cons (pv 4) (pa_cons (pe_tup (pa_cons pe_str (pa_cons (pv 3) (pa_cons (pe_tup (pa_cons pe_str (pa_cons (pe_tup (pa_cons pe_str (pa_cons (pv 3) (pa_cons (pv 4) pa_nil)))) pa_nil))) pa_nil)))) pa_nil)))) pa_nil))) (pa_cons (pe_tup (pa_cons (pe_tup (pa_cons pe_str (pa_cons (pv 3) (pa_cons (pv 4) pa_nil)))) (pa_cons (pe_tup (pa_cons pe_str (pa_cons (pv 4) (pa_cons (pe_tup (pa_cons pe_str (pa_cons (pv 3) (pa_cons (pe_tup (pa_cons pe_str (pa_cons (pe_tup (pa_cons pe_str (pa_cons (pv 3) (pa_cons (pv 4) pa_nil)))) pa_nil))) pa_nil)))) pa_nil)))) pa_nil))) pa_nil))))
      (pss_cons (ps_set (i := 6) sc_law_rules_fit.nd rfl (Or.inl rfl) (pe_op op_cat (pv 6) (pe_lst (pa_cons (pe_tup (pa_cons (pe_tup (pa_cons pe_str (pa_cons (pv 3) (pa_cons (pv 4) pa_nil)))) (pa_cons (pe_tup (pa_cons pe_str (pa_cons (pe_tup (pa_cons pe_str (pa_cons (pe_tup (pa_cons pe_str (pa_cons (pv 3) pa_nil))) (pa_cons (pe_tup (pa_cons pe_str (pa_cons (pv 4) pa_nil))) pa_nil)))) pa_nil))) pa_nil))) (pa_cons (pe_tup (pa_cons (pe_tup (pa_cons pe_str (pa_cons (pv 5) pa_nil))) (pa_cons (pe_tup (pa_cons pe_str (pa_cons (pv 5) (pa_cons (pe_tup (pa_cons pe_str (pa_cons (pv 5) pa_nil))) pa_nil)))) pa_nil))) pa_nil)))))
      (pss_cons (ps_expr (pe_bm PySem.F.plainAttrs_list PySem.F.slot_list_append PySem.F.type_list_append mt_append (pv 6) (pa_cons (pe_tup (pa_cons (pe_tup (pa_cons pe_str (pa_cons (pe_tup (pa_cons pe_str (pa_cons pe_str pa_nil))) (pa_cons (pe_tup (pa_cons pe_str (pa_cons (pv 3) pa_nil))) pa_nil)))) (pa_cons (pe_tup (pa_cons pe_str (pa_cons (pe_tup (pa_cons pe_str (pa_cons pe_str pa_nil))) (pa_cons (pe_tup (pa_cons pe_str (pa_cons (pv 3) pa_nil))) pa_nil)))) pa_nil))) pa_nil)))
      (pss_cons (ps_expr (pe_bm PySem.F.plainAttrs_list PySem.F.slot_list_append PySem.F.type_list_append mt_append (pv 6) (pa_cons (pe_tup (pa_cons (pe_tup (pa_cons pe_str (pa_cons (pe_tup (pa_cons pe_str (pa_cons (pv 3) (pa_cons (pv 4) pa_nil)))) pa_nil))) (pa_cons (pe_tup (pa_cons pe_str (pa_cons (pe_tup (pa_cons pe_str (pa_cons (pv 3) pa_nil))) (pa_cons (pe_tup (pa_cons pe_str (pa_cons (pv 4) pa_nil))) pa_nil)))) pa_nil))) pa_nil)))
      (pss_cons (ps_for PassesOwn.never rfl (pi_list (pv 6)) (pg_tup rfl (pgs_cons (pg_name (i := 7) sc_law_rules_fit.nd rfl (Or.inr rfl)) (pgs_cons (pg_name (i := 8) sc_law_rules_fit.nd rfl (Or.inr rfl)) pgs_nil))) (pss_cons (ps_if (pt_not (pt_val (pe_callG G_law_same hgd hr_law_same (by rfl) G.m_law_same G.k_law_same G.b_law_same pass0 (pa_cons (pe_told0 (k := _) G R rfl rfl (by rfl) TB rfl hmT hu hrT (lamP_by (N := ["state", "alphabet", "text", "one", "two", "every", "pairs", "first", "second", "at"]) (sc := defScope s_law_rules_fit) (by decide +kernel)) (by rfl) (fun _ _ _ _ _ => rfl) (fun A outer s H E f c' hl => (pe_callS G_places_so hl (by rfl) G.m_places_so G.k_places_so G.b_places_so (fun σ => L2N.passAt lam_takes σ) (pa_cons (pv 1) (pa_cons (pv 7) (pa_cons (pv 2) pa_nil)))))) (pa_cons (pe_told1 (k := _) G R rfl rfl (by rfl) TB rfl hmT hu hrT (lamP_by (N := ["state", "alphabet", "text", "one", "two", "every", "pairs", "first", "second", "at"]) (sc := defScope s_law_rules_fit) (by decide +kernel)) (by rfl) pe_int (fun _ _ _ _ _ _ => rfl) (fun _ _ _ _ _ _ _ => rfl) (by rfl) (fun A outer s H E f c' hl => (pe_callS G_places_so hl (by rfl) G.m_places_so G.k_places_so G.b_places_so (fun σ => L2N.passAt lam_takes σ) (pa_cons (pv 1) (pa_cons (pv 8) (pa_cons (pv 2) pa_nil)))))) pa_nil))))) (pss_one (ps_ret pe_bl)) pss_nil)
        (pss_one (ps_if (pt_not (pt_val (pe_callG G_law_same hgd hr_law_same (by rfl) G.m_law_same G.k_law_same G.b_law_same pass0 (pa_cons (pe_told0 (k := _) G R rfl rfl (by rfl) TB rfl hmT hu hrT (lamP_by (N := ["state", "alphabet", "text", "one", "two", "every", "pairs", "first", "second", "at"]) (sc := defScope s_law_rules_fit) (by decide +kernel)) (by rfl) (fun _ _ _ _ _ => rfl) (fun A outer s H E f c' hl => (pe_callS G_places_so hl (by rfl) G.m_places_so G.k_places_so G.b_places_so (fun σ => L2N.passAt lam_takes σ) (pa_cons (pv 1) (pa_cons (pv 7) (pa_cons (pv 2) pa_nil)))))) (pa_cons (pe_tup (pa_cons pe_str (pa_cons (pe_callTy call_tuple_of (by rfl) G.n_tuple (by decide +kernel) (pa_cons (pe_lc (own := [("at", 9)]) rfl sc_law_rules_fit.nd (pi_range1 (by rfl) G.n_range (pa_cons (pe_callB call_len (by rfl) G.n_len (by decide +kernel) (pa_cons (pv 2) pa_nil)) pa_nil)) (blkOk_by (own := [("at", 9)]) (N := ["state", "alphabet", "text", "one", "two", "every", "pairs", "first", "second", "at"]) (sc := defScope s_law_rules_fit) (by decide +kernel)) (fun _ _ _ _ _ => (pg_name (i := 9) sc_law_rules_fit.nd rfl (Or.inl rfl))) (fun _ _ _ _ _ => pts_one (pt_val (pe_call G_law_so hr_law_so (by rfl) G.m_law_so G.k_law_so G.b_law_so .nil pass0 (pa_cons (pv 1) (pa_cons (pv 8) (pa_cons (pv 2) (pa_cons (pv 9) pa_nil))))))) (fun _ _ _ _ _ => (pv 9))) pa_nil)) pa_nil))) pa_nil))))) (pss_one (ps_ret pe_bl)) pss_nil))))
      (pss_one (ps_ret pe_bl))))))))), ?_⟩
    obtain ⟨a, b, va, al, z, rfl, hst, hb, hT, hda, hga, hok, hz1, hz9, hres⟩ := h
    have im := al_imm al
    have hdis := hga.dis
    have hsh := hga.short
    have hcD : cD 1 = 12 := rfl
    refine par_of (cons_of ⟨.ref a.1, rfl, va, rfl, a, b, va, al, rfl, hst, by omega, hda, hga, by decide, fun v1 H1 t1 hi1 hd1 x1 s1 hv1 => cons_of ⟨.ref a.1, rfl, va, rfl, a, b + cD 1, va, al, rfl, s1, by omega, dp_imm (x1.tups hst) _ _ im hda, hga, by decide, fun v2 H2 t2 hi2 hd2 x2 s2 hv2 => nil_of ⟨v1, v2, rfl, ?_⟩⟩⟩)
    have hda2 := dp_imm (x2.tups s1) _ _ im (dp_imm (x1.tups hst) _ _ im hda)
    have hv1' := dp_imm (x2.tups s1) _ _ (imm_d t1) hv1
    have T2 : Tabs T H2 := tabs_S (tabs_S hT hst x1) s1 x2
    have x12 := x1.trans x2
    have hprs := prs_ok (z := z) hdis hok hi1 hi2 hd1 hd2
    have o : ∀ {σ : L2.St} {H' : Hp}, Ex H2 H' → σ[3]? = some (some v1) → EvD K (tVar 3) σ H' t1.d := fun x h => evd_var h (Dpx x hv1')
    have tw : ∀ {σ : L2.St} {H' : Hp}, Ex H2 H' → σ[4]? = some (some v2) → EvD K (tVar 4) σ H' t2.d := fun x h => evd_var h (Dpx x hv2)
    have l2 : ∀ {d e : PyData}, [d, e].length ≤ 100000 := fun {_ _} => by show 2 ≤ 100000; decide
    have l3 : ∀ {d e f : PyData}, [d, e, f].length ≤ 100000 := fun {_ _ _} => by show 3 ≤ 100000; decide
    have un2 : ∀ {σ : L2.St} {H' : Hp} {te : TE} {x : Str} {d : PyData}, EvD K te σ H' d → EvD K (tTup (tCons (tC (.str x)) (tCons te tNil))) σ H' (.tuple [.str x, d]) := fun h => evd_tup (ead_cons (ev_str ev_c) (ead_cons h ead_nil)) l2
    have bi3 : ∀ {σ : L2.St} {H' : Hp} {te tf : TE} {x : Str} {d e : PyData}, EvD K te σ H' d → EvD K tf σ H' e → EvD K (tTup (tCons (tC (.str x)) (tCons te (tCons tf tNil)))) σ H' (.tuple [.str x, d, e]) := fun h g => evd_tup (ead_cons (ev_str ev_c) (ead_cons h (ead_cons g ead_nil))) l3
    have pr2 : ∀ {σ : L2.St} {H' : Hp} {te tf : TE} {d e : PyData}, EvD K te σ H' d → EvD K tf σ H' e → EvD K (tTup (tCons te (tCons tf tNil))) σ H' (.tuple [d, e]) := fun h g => evd_tup (ead_cons h (ead_cons g ead_nil)) l2
    refine q_asgD (K := K) (d := (everyS t1).d) (bi3 (o (Ex.refl H2) rfl) (un2 (o (Ex.refl H2) rfl))) fun ve H3 e3 hve => ?_
    have ev : ∀ {σ : L2.St} {H' : Hp}, Ex H3 H' → σ[5]? = some (some ve) → EvD K (tVar 5) σ H' (everyS t1).d := fun x h => evd_var h (Dpx x hve)
    refine q_asgN (K := K) (ds := ((prs t1 t2).take 2).map pairD) (evn_lst (ead_cons (pr2 (bi3 (o e3 rfl) (tw e3 rfl)) (bi3 (tw e3 rfl) (bi3 (o e3 rfl) (un2 (bi3 (o e3 rfl) (tw e3 rfl)))))) (ead_cons (pr2 (bi3 (o e3 rfl) (tw e3 rfl)) (bi3 (tw e3 rfl) (bi3 (o e3 rfl) (un2 (bi3 (o e3 rfl) (tw e3 rfl)))))) ead_nil)) l2) fun p4 xs4 H4 hp4 e4 h4 hx4 => ?_
    have e24 := e3.trans e4
    refine q_asgN (K := K) (ds := ((prs t1 t2).take 4).map pairD) (evn_cat (es := (((prs t1 t2).take 4).drop 2).map pairD) (evm_var rfl h4 hx4) (EvN.m (evn_lst (ead_cons (pr2 (bi3 (o e24 rfl) (tw e24 rfl)) (un2 (bi3 (un2 (o e24 rfl)) (un2 (tw e24 rfl))))) (ead_cons (pr2 (un2 (ev e4 rfl)) (bi3 (ev e4 rfl) (un2 (ev e4 rfl)))) ead_nil)) l2)) (by show 2 + 2 ≤ 100000; decide)) fun p5 xs5 H5 hp5 e5 h5 hx5 => ?_
    have e25 := e24.trans e5
    have hxl5 := dpAll_len hx5
    have kd : ∀ {σ : L2.St} {H' : Hp}, EvD K (tTup (tCons (tC (.str "kind")) (tCons (tC (.str "call")) tNil))) σ H' (Sen.kind 0).d := un2 (ev_str ev_c)
    have hl5 : xs5.length = 4 := hxl5
    refine q_appD (K := K) (d := pairD ((prs t1 t2).getD 4 (dS, dS))) h5 (ev_var rfl) (pr2 (bi3 kd (un2 (o e25 rfl))) (bi3 kd (un2 (o e25 rfl)))) (by omega) fun v6 H6 e6 hv6 => ?_
    have n25 : H2 p5 = none := fresh_back e24 hp5
    have h6 := e6 _ _ h5
    generalize hH7 : upd H6 p5 (.lst (xs5 ++ [v6])) = H7
    have e27 : Ex H2 H7 := by rw [← hH7]; exact Ex.mut (e25.trans e6) n25
    have h7 : H7 p5 = some (.lst (xs5 ++ [v6])) := by rw [← hH7, upd_same]
    have t67 : Tups K H6 H7 := by rw [← hH7]; exact tups_upd h6
    refine q_appD (K := K) (d := pairD ((prs t1 t2).getD 5 (dS, dS))) h7 (ev_var rfl) (pr2 (un2 (bi3 (o e27 rfl) (tw e27 rfl))) (bi3 (un2 (o e27 rfl)) (un2 (tw e27 rfl)))) (by rw [List.length_append, hl5]; show 4 + 1 < 100000; decide) fun v8 H8 e8 hv8 => ?_
    have h8 := e8 _ _ h7
    generalize hH9 : upd H8 p5 (.lst (xs5 ++ [v6] ++ [v8])) = H9
    have e29 : Ex H2 H9 := by rw [← hH9]; exact Ex.mut (e27.trans e8) n25
    have h9 : H9 p5 = some (.lst (xs5 ++ [v6] ++ [v8])) := by rw [← hH9, upd_same]
    have t89 : Tups K H8 H9 := by rw [← hH9]; exact tups_upd h8
    have imp : ∀ l : List (Sen × Sen), immAll (l.map pairD) = true := fun l => all_imm fun d hd => by obtain ⟨q, _, rfl⟩ := List.mem_map.mp hd; exact imm_pair q
    have hxs : DpAll K H9 (xs5 ++ [v6] ++ [v8]) ((prs t1 t2).map pairD) := by
      have a1 := dpAll_imm ((Tups.of_ex e6).trans (t67.trans ((Tups.of_ex e8).trans t89))) _ _ (imp _) hx5
      have a2 := dp_imm (t67.trans ((Tups.of_ex e8).trans t89)) _ _ (imm_pair _) hv6
      have a3 := dp_imm t89 _ _ (imm_pair _) hv8
      exact dpAll_snoc (dpAll_snoc a1 a2) a3
    have hda9 := Dpx e29 hda2
    refine q_forL (K := K) (ev_var rfl) (sq_of h9) (fun i σ' H' => ExtN H9 H' ∧ Tabs T H' ∧ ∃ x7 x8 x9, σ' = [some (.ref a.1), some va, some (.str z), some v1, some v2, some ve, some (.ref p5), x7, x8, x9])
      (fun Ha ea => ⟨extN_of ea, (T2.ext e29).ext ea, none, none, none, rfl⟩) (fun i σ' H' _ q => sq_of (q.1 _ _ h9 (fun _ q => by cases q))) (fun i x σ' H' hxi q => ?_) fun σ' H' q => ?_
    · obtain ⟨q1, q2, x7, x8, x9, rfl⟩ := q
      obtain ⟨d, hd, hDp⟩ := dpAll_get hxs hxi
      obtain ⟨p, hp, rfl⟩ := map_get hd
      obtain ⟨⟨f1, f2, f3⟩, ⟨g1, g2, g3⟩, heq⟩ := hprs p (List.mem_of_getElem? hp)
      obtain ⟨pq, ys, rfl, hsq, hys⟩ := dp_tuple (dp_imm (tupsN q1) _ _ (imm_pair p) hDp)
      cases hys with
      | cons hf hys =>
      cases hys with
      | cons hs hys =>
      cases hys
      rename_i vf vs
      have hda' := dp_imm (tupsN q1) _ _ im hda9
      have hpl : placesD al z p.2 = placesD al z p.1 := by unfold placesD; rw [heq]
      have nb : ∀ t : Sen, t.inA al → t.dep < 6 → cp al 6 t.raw ≠ .bad := fun t h1 h2 => by rw [cp_ok t 6 h1 h2]; intro q; cases q
      have imd : imm (toldOf (.ok (.tuple (placesD al z p.1)))) = true := by
        have : imm (.tuple (placesD al z p.1)) = true := kept_imm fun _ _ _ => rfl
        show (true && (imm (.tuple (placesD al z p.1)) && true)) = true
        rw [this]; rfl
      have body : ∀ {Ha : Hp} {i : Nat} {v : V} {t : Sen} {Q' : VK} {E' : XK} {σ : L2.St}, ExtN H' Ha → Dp K H' v t.d → t.inA al → t.dep < 6 → t.size ≤ 24 → σ[1]? = some (some va) → σ[i]? = some (some v) → σ[2]? = some (some (.str z)) → Res G.C_NotAllowed G.C_TooLarge K Ha Q' E' (.ok (.tuple (placesD al z t))) →
          tCallS (spPS G) (fun σ => WE (fun cls d _ H => E' cls d H) σ) (tCons (tVar 1) (tCons (tVar i) (tCons (tVar 2) tNil))) σ Ha Q' := fun {Ha i v t Q' E' σ} xa hv hi hd hs s1 s2 s3 hR =>
        ⟨va, s1, v, s2, .str z, s3, al, t.raw, z, va, v, rfl, ⟨hsh, nb t hi hd, by omega, dp_imm (tupsN xa) _ _ im hda', by rw [raw_d]; exact dp_imm (tupsN xa) _ _ (imm_d t) hv⟩, fun e he h => absurd ((caR3_good hga hi hd hs hok hz1 (by omega)).symm.trans h).symm (he _), fun t' ht' _ _ => by rw [places_raw ht']; exact hR⟩
      refine ⟨pq, [vf, vs], rfl, hsq, rfl, vf, [vs], rfl, vs, [], rfl, rfl, ?_⟩
      refine seq_of (ifS_of (not_of (b_of (call_of (cons_of (lv_told (K := K) q2 (.ok (.tuple (placesD al z p.1))) (fun Ha xa Q' E' hR => body xa hf f1 f2 f3 rfl rfl rfl hR) fun u0 Ha xa Ta hu0 => cons_of (lv_told (K := K) Ta (.ok (.tuple (placesD al z p.2))) (fun Hb xb Q' E' hR => body (xa.trans xb) hs g1 g2 g3 rfl rfl rfl hR) fun u1 Hb xb Tb hu1 => nil_of ?_)))))))
      refine ⟨u0, u1, toldOf (.ok (.tuple (placesD al z p.1))), rfl, dp_imm (tupsN xb) _ _ imd hu0, by rw [← hpl]; exact hu1, sm_places _ hz9, fun Hc ec => ⟨true, rfl, ?_⟩⟩
      rw [if_neg (by decide)]
      have xc := (xa.trans xb).trans (extN_of ec)
      have Tc := Tb.ext ec
      refine ifS_of (not_of (b_of (call_of (cons_of (lv_told (K := K) Tc (.ok (.tuple (placesD al z p.1))) (fun Hd xd Q' E' hR => body (xc.trans xd) hf f1 f2 f3 rfl rfl rfl hR) fun u0 Hd xd Td hu0 => cons_of ?_)))))
      have hdad := dp_imm (tupsN (xc.trans xd)) _ _ im hda'
      have hsd := dp_imm (tupsN (xc.trans xd)) _ _ (imm_d p.2) hs
      refine (evd_tup (K := K) (ds := [.str "told", .tuple (placesD al z p.2)]) (ead_cons (ev_str ev_c) (ead_cons (evd_tupleOf (EvN.dp (evn_lc (evw_range1 (n := (z.length : Nat)) (ea_cons (ev_lenS (ev_var rfl) (by omega)) ea_nil) (by omega)) (mono_name (i := 9)) (fun i => (trL al z p.2).getD i false) (fun i => .int (i : Nat)) (by omega) (fun _ _ _ => rfl) fun i x He ee hi y => ?_)) (kept_imm fun _ _ _ => rfl)) ead_nil)) (by show 2 ≤ 100000; decide)) Hd (Ex.refl Hd) _ fun u1 He ee hu1 => nil_of ?_
      · subst y
        refine ⟨Ex.refl _, rfl, et_is (et_B (evd_bool (K := K) (evd_call (d := .bool (soV (trL al z p.2) (i : Nat))) (ead_cons (evd_var rfl (Dpx ee hdad)) (ead_cons (evd_var rfl (Dpx ee hsd)) (ead_cons (ev_str (ev_var rfl)) (ead_cons (ev_int (ev_var rfl)) ead_nil)))) fun vs Hf ef hv Q q => ?_))) (soV_nat _ _), fun _ => ev_int (ev_var rfl)⟩
        cases hv with
        | cons k1 k2 =>
        cases k2 with
        | cons k2 k3 =>
        cases k3 with
        | cons k3 k4 =>
        cases k4 with
        | cons k4 k5 =>
        cases k5
        cases dp_str k3
        cases dp_int k4
        exact ⟨_, _, al, p.2, z, _, rfl, k1, k2, by omega, hdis, hok, inA_wf _ g1, g2, fun H' e => q _ H' e (.bl _)⟩
      · refine ⟨u0, u1, toldOf (.ok (.tuple (placesD al z p.1))), rfl, Dpx ee hu0, by rw [← hpl]; exact hu1, sm_places _ hz9, fun Hf ef => ⟨true, rfl, ?_⟩⟩
        rw [if_neg (by decide)]
        exact ⟨q1.trans ((xc.trans xd).trans (extN_of (ee.trans ef))), (Td.ext ee).ext ef, _, _, _, rfl⟩
    · obtain ⟨q1, q2, x7, x8, x9, rfl⟩ := q
      refine s_ret (v := .bl true) ev_c fun Ha ea => hres Ha (fun b o n h1 h2 => ea _ _ (q1 _ _ (e29 _ _ (x12 _ _ n h1)) h2)) ?_ (q2.ext ea)
      have hs2 := s2.le (c := b + 24) (by omega)
      obtain ⟨kk, ns, g1, g2, g3⟩ := hs2
      exact ⟨kk, ns, ea _ _ (q1 _ _ (e29 _ _ g1) (fun _ q => by cases q)), ea _ _ (q1 _ _ (e29 _ _ g2) (fun _ q => by cases q)), g3⟩
end
end K38
namespace K38
open PySem PySem.Spec PyProof.Rows L2 Evl KD KR RZ LamX
/-! ### what is refused -/
def wrongR (c : Nat) : List Raw := [.nil, .node "sign" [], .leaf "sign" "z", .leaf "sign" "", .leaf "kind" "loose", .node "so" [(Sen.sign c).raw], .node "not" [], .node "both" [(Sen.sign c).raw], .node "until" [(Sen.sign c).raw, (Sen.sign c).raw, (Sen.sign c).raw], .node "next" [.nil]]
theorem cp_wrong {al : Al} (g : GA al) {c : Nat} : ∀ r ∈ wrongR c, cp al 6 r = .no := by
  intro r hr
  simp only [wrongR, List.mem_cons, List.not_mem_nil, or_false] at hr
  have node : ∀ (w : Str) (rs : List Raw), ((decide (w = Str.ofString "sign") || decide (w = Str.ofString "kind")) && decide (rs.length = 1)) = false → ((inV (.str w) oneV && decide (rs.length = 1)) || (inV (.str w) twoV && decide (rs.length = 2))) = false → cp al 6 (.node w rs) = .no := fun w rs h1 h2 => by
    rw [cp, if_neg (by rw [h1]; decide), if_neg (by rw [h2]; decide)]
  have b3 : ∀ {a b d e x : Bool}, a = false → b = false → ((a && x) || (b && e)) = false := fun h1 h2 => by rw [h1, h2]; rfl
  rcases hr with rfl | rfl | rfl | rfl | rfl | rfl | rfl | rfl | rfl | rfl
  · rfl
  · exact node _ _ (by decide +kernel) (by decide +kernel)
  · rw [cp, if_pos rfl, if_neg (by decide +kernel), if_neg]
    intro h
    unfold signOk at h
    have h2 := (Bool.and_eq_true _ _ ▸ h).2
    have h3 := of_decide_eq_true h2
    have h4 := g.rg _ h3
    have : (Str.ofString "z").cps.toList.getD 0 0 = 122 := by decide +kernel
    rw [this] at h4
    omega
  · rw [cp, if_pos rfl, if_neg (by decide +kernel), if_neg]
    intro h
    unfold signOk at h
    have h2 := (Bool.and_eq_true _ _ ▸ h).1
    exact absurd (of_decide_eq_true h2) (by decide +kernel)
  · rw [cp, if_neg (by decide +kernel), if_neg (by decide +kernel), if_neg (by decide +kernel)]
  · exact node _ _ (by rw [show (decide ((Str.ofString "so") = Str.ofString "sign") || decide ((Str.ofString "so") = Str.ofString "kind")) = false by decide +kernel]; rfl) (b3 (d := true) (by decide +kernel) (by decide +kernel))
  · exact node _ _ (by decide +kernel) (by decide +kernel)
  · exact node _ _ (by rw [show (decide ((Str.ofString "both") = Str.ofString "sign") || decide ((Str.ofString "both") = Str.ofString "kind")) = false by decide +kernel]; rfl) (by rw [show inV (.str (Str.ofString "both")) oneV = false by decide +kernel, Bool.false_and, Bool.false_or]; exact Bool.and_false _)
  · exact node _ _ (by rw [show (decide ((Str.ofString "until") = Str.ofString "sign") || decide ((Str.ofString "until") = Str.ofString "kind")) = false by decide +kernel]; rfl) (by rw [show inV (.str (Str.ofString "until")) oneV = false by decide +kernel, Bool.false_and, Bool.false_or]; exact Bool.and_false _)
  · rw [cp, if_neg (by decide +kernel), if_pos (by decide +kernel)]
    rfl
def deepS (c : Nat) : Nat → Sen
  | 0 => .sign c
  | n + 1 => .un .not (deepS c n)
def wideS (c : Nat) : Nat → Sen
  | 0 => .sign c
  | n + 1 => .bi .both (wideS c n) (wideS c n)
def eightS (c : Nat) : Sen := .bi .both (.bi .both (.sign c) (.sign c)) (.bi .both (.sign c) (.un .not (.sign c)))
def nineS (c : Nat) : Sen := .bi .both (.bi .both (.sign c) (.sign c)) (.bi .both (.un .not (.sign c)) (.un .not (.sign c)))
theorem cp_deep {al : Al} {c : Nat} : ∀ (n f : Nat), f ≤ n → cp al f (deepS c n).raw = .big
  | n, 0, _ => by cases n <;> rfl
  | n + 1, f + 1, h => by
    have ih := cp_deep (al := al) (c := c) n f (by omega)
    show cp al (f + 1) (.node "not" [(deepS c n).raw]) = _
    rw [cp, if_neg, if_pos]
    · show (match (match cp al f (deepS c n).raw with
        | .ok n => (match cpAll (cp al f) [] with
          | .ok m => RI.ok (n + m)
          | e => e)
        | e => e) with
        | .ok n => RI.ok (1 + n)
        | e => e) = _
      rw [ih]
    · rw [show inV (.str (Str.ofString "not")) oneV = true by decide +kernel]
      rfl
    · rw [show (decide ((Str.ofString "not") = Str.ofString "sign") || decide ((Str.ofString "not") = Str.ofString "kind")) = false by decide +kernel, Bool.false_and]
      simp
theorem csR_big {al : Al} {r : Raw} (g : GA al) (h : cp al 6 r = .big) : csR al r = .big := by
  unfold csR
  rw [if_pos g.good, h]
theorem csR_no {al : Al} {r : Raw} (g : GA al) (h : cp al 6 r = .no) : csR al r = .no := by
  unfold csR
  rw [if_pos g.good, h]
theorem csR_wide {al : Al} {t : Sen} (g : GA al) (h : t.inA al) (hd : t.dep < 6) (hs : 24 < t.size) : csR al t.raw = .big := by
  unfold csR
  rw [if_pos g.good, cp_ok t 6 h hd]
  show (if 24 < ((t.size : Nat) : Int) then RR.big else .ok .none) = _
  rw [if_pos (by omega)]
theorem first_has {al : Al} (g : GA al) : al.has (at_ al.all 0) = true := by
  have h1 := g.len1
  have h' : 0 < al.all.cps.toList.length := by rw [Array.length_toList]; exact h1
  refine decide_eq_true ?_
  unfold at_
  rw [List.getD_eq_getElem?_getD, List.getElem?_eq_getElem h']
  exact List.getElem_mem h'
theorem sign_in {al : Al} (g : GA al) : (Sen.sign (at_ al.all 0)).inA al := first_has g
theorem deep_in {al : Al} {c : Nat} (h : (Sen.sign c).inA al) : ∀ n, (deepS c n).inA al ∧ (deepS c n).dep = n ∧ (deepS c n).size = n + 1
  | 0 => ⟨h, rfl, rfl⟩
  | n + 1 => by
    obtain ⟨h1, h2, h3⟩ := deep_in h n
    exact ⟨h1, by show (deepS c n).dep + 1 = _; rw [h2], by show (deepS c n).size + 1 = _; rw [h3]⟩
theorem wide_in {al : Al} {c : Nat} (h : (Sen.sign c).inA al) : ∀ n, (wideS c n).inA al
  | 0 => h
  | n + 1 => ⟨wide_in h n, wide_in h n⟩
theorem big_text {al : Al} {t : Sen} {z : Str} (g : GA al) (h : t.inA al) (hd : t.dep < 6) (hs : t.size ≤ 24) (hok : okText al z) (hz : 400 < z.length) : caR3 al t.raw z = .big := by
  unfold caR3
  rw [csR_good g h hd hs]
  have : ctR al z = .big := by
    unfold ctR
    rw [if_pos g.good, if_pos (List.all_eq_true.mpr fun c hc => hok c hc), if_pos hz]
  rw [this]
theorem no_text {al : Al} {t : Sen} {z : Str} (g : GA al) (h : t.inA al) (hd : t.dep < 6) (hs : t.size ≤ 24) (hz : z.length = 0 ∨ ∃ c ∈ z.cps.toList, al.has c = false) : caR3 al t.raw z = .no := by
  unfold caR3
  rw [csR_good g h hd hs]
  by_cases hall : z.cps.toList.all al.has = true
  · rcases hz with hz | ⟨c, hc, hc2⟩
    · have : ctR al z = .ok .none := by
        unfold ctR
        rw [if_pos g.good, if_pos hall, if_neg (by omega)]
      rw [this]
      show (if z.length = 0 then RR.no else .ok .none) = _
      rw [if_pos hz]
    · have := List.all_eq_true.mp hall c hc
      rw [hc2] at this
      cases this
  · have : ctR al z = .no := by
      unfold ctR
      rw [if_pos g.good, if_neg hall]
    rw [this]
end K38
namespace KR
open PySem PySem.Spec PyProof.Rows L2 Evl KD LamX
section
variable {K : PySem.W.Frag} {σ : L2.St} {H : Hp} {ta tb te tl : TE} {g : TG} {tt : TT} {D : Ends} {tz : TS} {d : PyData} {ds : List PyData} {Q : VK}
theorem lc_lst {vs : List Nat} (h : tl σ H fun v H1 => ∃ a, v = .ref a ∧ (∃ xs, SqL K H1 a xs) ∧ ∀ D, H1 D = none → LB (Itl K a) g tt te vs σ H1 D Q) : tLc (iList K tl) g tt te vs σ H Q := h
theorem dpAll_rep {v : V} (h : Dp K H v d) : ∀ n : Nat, DpAll K H (List.replicate n v) (List.replicate n d)
  | 0 => .nil
  | n + 1 => .cons h (dpAll_rep h n)
theorem evn_repN {n : Nat} (ha : EvM K ta σ H [d]) (hb : Ev tb σ H (.int (n : Nat))) (hn : n ≤ 1000) : EvN K (tOp rRep ta tb) σ H (List.replicate n d) := fun H1 e Q q =>
  ha H1 e _ fun p xs H2 e2 h2 hx => hb H2 (e.trans e2) _ fun H3 e3 => by
    cases hx with
    | cons h t =>
    cases t
    rename_i v
    refine ⟨p, _, [v], rfl, rfl, e3 p _ h2, by omega, by omega, sz_of (by rw [Int.toNat_natCast]; show 1 * n ≤ 100000; omega), fun l hl => ?_⟩
    have hr : ∀ n : Nat, (List.replicate n [v]).flatten = List.replicate n v := fun n => by
      induction n with
      | zero => rfl
      | succ n ih => rw [List.replicate_succ, List.flatten_cons, ih]; rfl
    rw [Int.toNat_natCast, hr]
    exact q l _ _ (fresh_back (e2.trans e3) hl) ((e2.trans e3).trans (Ex.new hl)) upd_same (dpAll_rep (Dpx (e3.trans (Ex.new hl)) h) n)
theorem repS_one (c : Nat) (n : Nat) : (repS (one c) n).cps.toList = List.replicate n c := by
  have key : ∀ (n : Nat) (acc : Array Nat), ((List.replicate n (one c).cps).foldl (· ++ ·) acc).toList = acc.toList ++ List.replicate n c := by
    intro n
    induction n with
    | zero => intro acc; simp
    | succ n ih =>
      intro acc
      rw [List.replicate_succ, List.foldl_cons, ih]
      simp [one, List.replicate_succ]
  have := key n #[]
  simpa [repS] using this
theorem extN_mut {H H' : Hp} {p : Addr} {o : HO} (e : ExtN H H') (h : H p = none) : ExtN H (upd H' p o) := fun x u hx n => by
  rw [upd_ne (fun z => by rw [z, h] at hx; cases hx)]
  exact e x u hx n
theorem tabs_mut {T : List (Addr × Str)} {H : Hp} {p : Addr} {xs ys : List V} (t : Tabs T H) (h : H p = some (.lst xs)) : Tabs T (upd H p (.lst ys)) := by
  intro q hq
  obtain ⟨ps, g1, g2, g3⟩ := t q hq
  refine ⟨ps, by rw [upd_ne (fun z => by rw [z, h] at g1; cases g1)]; exact g1, g2, fun pos cv hcv => ?_⟩
  obtain ⟨c0, q1, q2⟩ := g3 pos cv hcv
  exact ⟨c0, q1, by rw [upd_ne (fun z => by rw [z, h] at q2; cases q2)]; exact q2⟩
end
end KR
namespace K38
open PySem PySem.Spec PyProof.Rows L2 Evl KD KR RZ LamX
section
variable {P : Program} {w : World} {K : PySem.W.Frag} {mg : Str → Option Value} {base : Heap}
def spRe (T : List (Addr × Str)) : Sp := fun vs H Q E => ∃ (va : V) (al : Al) (z : Str), vs = [va, .str z] ∧ Tabs T H ∧ Dp K H va al.d ∧ GA al ∧ okText al z ∧ 1 ≤ z.length ∧ z.length ≤ 9 ∧
  ∀ H', ExtN H H' → Tabs T H' → Q (.bl true) H'
theorem ok_law_refuses (G : Pg K mg) (R : Errs K G) {k : Nat} {T : List (Addr × Str)} {c P0 : Addr} (F : FunC K "_law_refuses" "_law_refuses" s_law_refuses G.f_law_refuses G.fd_law_refuses c) (TB : TabB base mg c P0) (hmT : (P0, lq "_law_refuses" s_law_refuses G.f_law_refuses c) ∈ T) (hu : ∀ p ∈ T, p.1 = P0 → p.2 = lq "_law_refuses" s_law_refuses G.f_law_refuses c) :
    FnG P w K mg base CX0 (k + 14) G.f_law_refuses G.fd_law_refuses ["alphabet", "text"] (spRe (K := K) T) := by
  refine okGCn F sc_law_refuses (fun vs H Q E h => ?_) (fun A outer s H vs Q E hgd hr h => ?_)
  · obtain ⟨va, al, z, rfl, _⟩ := h
    rfl
  · have hrT : Room ((k + 11) + 2) (A.deeper (envOfC "_law_refuses" (defScope s_law_refuses) s.heap.objs.size G.f_law_refuses (.ref c))) := hr
    have hu64 := hr.units
    have G_places_so := (ok_places_so (P := P) (w := w) (base := base) G (k := k)).mono (k := k + 11) (by omega)
    have G_holds := ok_holds (P := P) (w := w) (base := base) G (k := k)
    have G_is_so := (ok_is_so (P := P) (w := w) (base := base) G (k := k)).mono (k := k + 11) (by omega)
    have G_check_sentence := (ok_check_sentence (P := P) (w := w) (base := base) G (k := k)).mono (k := k + 11) (by omega)
    refine ⟨_, (pss_cons (ps_set (i := 2) sc_law_refuses.nd rfl (Or.inr rfl) (pe_tup (pa_cons pe_str (pa_cons (pe_ix ix_str (pe_join pe_str (pv 0)) pe_int (fun _ _ => rfl)) pa_nil))))
      (pss_cons (ps_set (i := 3) sc_law_refuses.nd rfl (Or.inl rfl) (pe_lst (pa_cons (pe_tup pa_nil) (pa_cons (pe_tup (pa_cons pe_str pa_nil)) (pa_cons (pe_tup (pa_cons pe_str (pa_cons pe_str pa_nil))) (pa_cons (pe_tup (pa_cons pe_str (pa_cons pe_str pa_nil))) (pa_cons (pe_tup (pa_cons pe_str (pa_cons pe_str pa_nil))) (pa_cons (pe_tup (pa_cons pe_str (pa_cons (pv 2) pa_nil))) (pa_cons (pe_tup (pa_cons pe_str pa_nil)) (pa_cons (pe_tup (pa_cons pe_str (pa_cons (pv 2) pa_nil))) (pa_cons (pe_tup (pa_cons pe_str (pa_cons (pv 2) (pa_cons (pv 2) (pa_cons (pv 2) pa_nil))))) (pa_cons (pe_tup (pa_cons pe_str (pa_cons (pe_tup pa_nil) pa_nil))) pa_nil))))))))))))
      (pss_cons (ps_set (i := 4) sc_law_refuses.nd rfl (Or.inl rfl) (pe_op op_cat (pe_lc (own := [("one", 12)]) rfl sc_law_refuses.nd (pi_list (pv 3)) (blkOk_by (own := [("one", 12)]) (N := ["alphabet", "text", "sign", "wrong", "odd", "deep", "wide", "k", "eight", "nine", "good", "large", "one"]) (sc := defScope s_law_refuses) (by decide +kernel)) (fun _ _ _ _ _ => (pg_name (i := 12) sc_law_refuses.nd rfl (Or.inr rfl))) (fun _ _ _ _ _ => pts_nil) (fun _ _ _ _ _ => (pe_told0 (k := _) G R rfl rfl (by rfl) TB rfl hmT hu hrT (lamP_by (by rfl)) (by rfl) (fun _ _ _ _ _ => rfl) (fun A outer s H E f c' hl => (pe_callS G_check_sentence hl (by rfl) G.m_check_sentence G.k_check_sentence G.b_check_sentence (fun σ => L2N.passAt lam_takes σ) (pa_cons (pv 0) (pa_cons (pv 12) pa_nil))))))) (pe_lst (pa_cons (pe_told1 (k := _) G R rfl rfl (by rfl) TB rfl hmT hu hrT (lamP_by (N := ["alphabet", "text", "sign", "wrong", "odd", "deep", "wide", "k", "eight", "nine", "good", "large", "one"]) (sc := defScope s_law_refuses) (by decide +kernel)) (by rfl) pe_int (fun _ _ _ _ _ _ => rfl) (fun _ _ _ _ _ _ _ => rfl) (by rfl) (fun A outer s H E f c' hl => (pe_callS G_holds hl (by rfl) G.m_holds G.k_holds G.b_holds (fun σ => L2N.passAt lam_takes σ) (pa_cons (pv 0) (pa_cons (pv 2) (pa_cons pe_str pa_nil)))))) (pa_cons (pe_told1 (k := _) G R rfl rfl (by rfl) TB rfl hmT hu hrT (lamP_by (N := ["alphabet", "text", "sign", "wrong", "odd", "deep", "wide", "k", "eight", "nine", "good", "large", "one"]) (sc := defScope s_law_refuses) (by decide +kernel)) (by rfl) pe_int (fun _ _ _ _ _ _ => rfl) (fun _ _ _ _ _ _ _ => rfl) (by rfl) (fun A outer s H E f c' hl => (pe_callS G_places_so hl (by rfl) G.m_places_so G.k_places_so G.b_places_so (fun σ => L2N.passAt lam_takes σ) (pa_cons (pv 0) (pa_cons (pv 2) (pa_cons pe_str pa_nil)))))) (pa_cons (pe_told1 (k := _) G R rfl rfl (by rfl) TB rfl hmT hu hrT (lamP_by (N := ["alphabet", "text", "sign", "wrong", "odd", "deep", "wide", "k", "eight", "nine", "good", "large", "one"]) (sc := defScope s_law_refuses) (by decide +kernel)) (by rfl) pe_int (fun _ _ _ _ _ _ => rfl) (fun _ _ _ _ _ _ _ => rfl) (by rfl) (fun A outer s H E f c' hl => (pe_callS G_is_so hl (by rfl) G.m_is_so G.k_is_so G.b_is_so (fun σ => L2N.passAt lam_takes σ) (pa_cons (pv 0) (pa_cons (pv 2) (pa_cons (pv 1) (pa_cons (pe_callB (lenK (K := K) rfl) (by rfl) G.n_len (by decide +kernel) (pa_cons (pv 1) pa_nil)) pa_nil))))))) pa_nil))))))
      (pss_cons (ps_set (i := 4) sc_law_refuses.nd rfl (Or.inl rfl) (pe_op op_cat (pv 4) (pe_lst (pa_cons (pe_told0 (k := _) G R rfl rfl (by rfl) TB rfl hmT hu hrT (lamP_by (N := ["alphabet", "text", "sign", "wrong", "odd", "deep", "wide", "k", "eight", "nine", "good", "large", "one"]) (sc := defScope s_law_refuses) (by decide +kernel)) (by rfl) (fun _ _ _ _ _ => rfl) (fun A outer s H E f c' hl => (pe_callS G_is_so hl (by rfl) G.m_is_so G.k_is_so G.b_is_so (fun σ => L2N.passAt lam_takes σ) (pa_cons (pv 0) (pa_cons (pv 2) (pa_cons (pv 1) (pa_cons (pe_un un_neg pe_int) pa_nil))))))) (pa_cons (pe_told1 (k := _) G R rfl rfl (by rfl) TB rfl hmT hu hrT (lamP_by (N := ["alphabet", "text", "sign", "wrong", "odd", "deep", "wide", "k", "eight", "nine", "good", "large", "one"]) (sc := defScope s_law_refuses) (by decide +kernel)) (by rfl) pe_int (fun _ _ _ _ _ _ => rfl) (fun _ _ _ _ _ _ _ => rfl) (by rfl) (fun A outer s H E f c' hl => (pe_callS G_check_sentence hl (by rfl) G.m_check_sentence G.k_check_sentence G.b_check_sentence (fun σ => L2N.passAt lam_takes σ) (pa_cons (pe_tup (pa_cons pe_str (pa_cons pe_str (pa_cons pe_str pa_nil)))) (pa_cons (pv 2) pa_nil))))) pa_nil)))))
      (pss_cons (ps_asg (pe_tup (pa_cons (pv 2) (pa_cons (pv 2) pa_nil))) (pg_tup rfl (pgs_cons (pg_name (i := 5) sc_law_refuses.nd rfl (Or.inr rfl)) (pgs_cons (pg_name (i := 6) sc_law_refuses.nd rfl (Or.inr rfl)) pgs_nil))))
      (pss_cons (ps_for PassesOwn.never rfl (pi_range1 (by rfl) G.n_range (pa_cons pe_int pa_nil)) (pg_name (i := 7) sc_law_refuses.nd rfl (Or.inl rfl)) (pss_one (ps_set (i := 5) sc_law_refuses.nd rfl (Or.inr rfl) (pe_tup (pa_cons pe_str (pa_cons (pv 5) pa_nil))))))
      (pss_cons (ps_for PassesOwn.never rfl (pi_range1 (by rfl) G.n_range (pa_cons pe_int pa_nil)) (pg_name (i := 7) sc_law_refuses.nd rfl (Or.inl rfl)) (pss_one (ps_set (i := 6) sc_law_refuses.nd rfl (Or.inr rfl) (pe_tup (pa_cons pe_str (pa_cons (pv 6) (pa_cons (pv 6) pa_nil)))))))
      (pss_cons (ps_set (i := 8) sc_law_refuses.nd rfl (Or.inr rfl) (pe_tup (pa_cons pe_str (pa_cons (pe_tup (pa_cons pe_str (pa_cons (pv 2) (pa_cons (pv 2) pa_nil)))) (pa_cons (pe_tup (pa_cons pe_str (pa_cons (pv 2) (pa_cons (pe_tup (pa_cons pe_str (pa_cons (pv 2) pa_nil))) pa_nil)))) pa_nil)))))
      (pss_cons (ps_set (i := 9) sc_law_refuses.nd rfl (Or.inr rfl) (pe_tup (pa_cons pe_str (pa_cons (pe_tup (pa_cons pe_str (pa_cons (pv 2) (pa_cons (pv 2) pa_nil)))) (pa_cons (pe_tup (pa_cons pe_str (pa_cons (pe_tup (pa_cons pe_str (pa_cons (pv 2) pa_nil))) (pa_cons (pe_tup (pa_cons pe_str (pa_cons (pv 2) pa_nil))) pa_nil)))) pa_nil)))))
      (pss_cons (ps_set (i := 10) sc_law_refuses.nd rfl (Or.inl rfl) (pe_lst (pa_cons (pe_told0 (k := _) G R rfl rfl (by rfl) TB rfl hmT hu hrT (lamP_by (N := ["alphabet", "text", "sign", "wrong", "odd", "deep", "wide", "k", "eight", "nine", "good", "large", "one"]) (sc := defScope s_law_refuses) (by decide +kernel)) (by rfl) (fun _ _ _ _ _ => rfl) (fun A outer s H E f c' hl => (pe_callS G_check_sentence hl (by rfl) G.m_check_sentence G.k_check_sentence G.b_check_sentence (fun σ => L2N.passAt lam_takes σ) (pa_cons (pv 0) (pa_cons (pv 5) pa_nil))))) (pa_cons (pe_told1 (k := _) G R rfl rfl (by rfl) TB rfl hmT hu hrT (lamP_by (N := ["alphabet", "text", "sign", "wrong", "odd", "deep", "wide", "k", "eight", "nine", "good", "large", "one"]) (sc := defScope s_law_refuses) (by decide +kernel)) (by rfl) pe_int (fun _ _ _ _ _ _ => rfl) (fun _ _ _ _ _ _ _ => rfl) (by rfl) (fun A outer s H E f c' hl => (pe_callS G_check_sentence hl (by rfl) G.m_check_sentence G.k_check_sentence G.b_check_sentence (fun σ => L2N.passAt lam_takes σ) (pa_cons (pv 0) (pa_cons (pe_tup (pa_cons pe_str (pa_cons (pv 6) (pa_cons (pv 8) pa_nil)))) pa_nil))))) pa_nil))))
      (pss_cons (ps_set (i := 11) sc_law_refuses.nd rfl (Or.inl rfl) (pe_lst (pa_cons (pe_told0 (k := _) G R rfl rfl (by rfl) TB rfl hmT hu hrT (lamP_by (N := ["alphabet", "text", "sign", "wrong", "odd", "deep", "wide", "k", "eight", "nine", "good", "large", "one"]) (sc := defScope s_law_refuses) (by decide +kernel)) (by rfl) (fun _ _ _ _ _ => rfl) (fun A outer s H E f c' hl => (pe_callS G_check_sentence hl (by rfl) G.m_check_sentence G.k_check_sentence G.b_check_sentence (fun σ => L2N.passAt lam_takes σ) (pa_cons (pv 0) (pa_cons (pe_tup (pa_cons pe_str (pa_cons (pv 5) pa_nil))) pa_nil))))) (pa_cons (pe_told1 (k := _) G R rfl rfl (by rfl) TB rfl hmT hu hrT (lamP_by (N := ["alphabet", "text", "sign", "wrong", "odd", "deep", "wide", "k", "eight", "nine", "good", "large", "one"]) (sc := defScope s_law_refuses) (by decide +kernel)) (by rfl) pe_int (fun _ _ _ _ _ _ => rfl) (fun _ _ _ _ _ _ _ => rfl) (by rfl) (fun A outer s H E f c' hl => (pe_callS G_check_sentence hl (by rfl) G.m_check_sentence G.k_check_sentence G.b_check_sentence (fun σ => L2N.passAt lam_takes σ) (pa_cons (pv 0) (pa_cons (pe_tup (pa_cons pe_str (pa_cons (pv 6) (pa_cons (pv 9) pa_nil)))) pa_nil))))) (pa_cons (pe_told1 (k := _) G R rfl rfl (by rfl) TB rfl hmT hu hrT (lamP_by (N := ["alphabet", "text", "sign", "wrong", "odd", "deep", "wide", "k", "eight", "nine", "good", "large", "one"]) (sc := defScope s_law_refuses) (by decide +kernel)) (by rfl) pe_int (fun _ _ _ _ _ _ => rfl) (fun _ _ _ _ _ _ _ => rfl) (by rfl) (fun A outer s H E f c' hl => (pe_callS G_holds hl (by rfl) G.m_holds G.k_holds G.b_holds (fun σ => L2N.passAt lam_takes σ) (pa_cons (pv 0) (pa_cons (pv 2) (pa_cons (pe_op op_mulS (pe_ix (ixTK (K := K) rfl) (pv 2) pe_int (fun _ _ => rfl)) pe_int) pa_nil)))))) pa_nil)))))
      (pss_one (ps_ret (pe_and (pe_cmpR (op_eqK (K := K) rfl hu64) (pv 4) (pe_op op_rep (pe_lst (pa_cons (pe_tup (pa_cons pe_str pa_nil)) pa_nil)) pe_int) (nomark _)) (pe_and (pe_cmpR (op_eqK (K := K) rfl hu64) (pv 10) (pe_op op_rep (pe_lst (pa_cons (pe_tup (pa_cons pe_str (pa_cons pe_non pa_nil))) pa_nil)) pe_int) (nomark _)) (pe_one (pe_cmpR (op_eqK (K := K) rfl hu64) (pv 11) (pe_op op_rep (pe_lst (pa_cons (pe_tup (pa_cons pe_str pa_nil)) pa_nil)) pe_int) (nomark _)))))))))))))))))), ?_⟩
    obtain ⟨va, al, z, rfl, hT, hda, hga, hok, hz1, hz9, hres⟩ := h
    have im := al_imm al
    have hsh := hga.short
    have hl1 := hga.len1
    have hl6 := hga.len
    obtain ⟨c0, hc0⟩ : ∃ c0, at_ al.all 0 = c0 := ⟨_, rfl⟩
    have hsi : (Sen.sign c0).inA al := by rw [← hc0]; exact sign_in hga
    have an : ∀ {σ : L2.St} {H1 : Hp}, Dp K H1 va al.d → σ[0]? = some (some va) → EvD K (tVar 0) σ H1 al.d := fun x h => evd_var h x
    have i0 : atI al.all.cps.toList 0 = some c0 := by rw [← hc0]; exact atI_at (k := 0) (by omega)
    refine q_asgD (K := K) (d := (Sen.sign c0).d) (evd_tup (ead_cons (ev_str ev_c) (ead_cons (ev_str (ev_ixS (al_join hsh (an hda rfl)) ev_c (by omega) i0)) ead_nil)) (by show 2 ≤ 100000; decide)) fun vs H1 e1 hvs => ?_
    have sg : ∀ {σ : L2.St} {H' : Hp}, Ex H1 H' → σ[2]? = some (some vs) → EvD K (tVar 2) σ H' (Sen.sign c0).d := fun x h => evd_var h (Dpx x hvs)
    have tu : ∀ {σ : L2.St} {H' : Hp} {ta : TA} {ds : List PyData}, EvAD K ta σ H' ds → ds.length ≤ 10 → EvD K (tTup ta) σ H' (.tuple ds) := fun h hl => evd_tup h (by omega)
    have st : ∀ {σ : L2.St} {H' : Hp} {x : Str}, EvD K (tC (.str x)) σ H' (.str x) := ev_str ev_c
    have sr : (Sen.sign c0).raw.d = (Sen.sign c0).d := raw_d _
    refine q_asgN (K := K) (ds := (wrongR c0).map Raw.d) (evn_lst (ead_cons (tu ead_nil (by decide)) (ead_cons (tu (ead_cons st ead_nil) (by show 1 ≤ 10; decide)) (ead_cons (tu (ead_cons st (ead_cons st ead_nil)) (by show 2 ≤ 10; decide)) (ead_cons (tu (ead_cons st (ead_cons st ead_nil)) (by show 2 ≤ 10; decide)) (ead_cons (tu (ead_cons st (ead_cons st ead_nil)) (by show 2 ≤ 10; decide)) (ead_cons (tu (ead_cons st (ead_cons (sg (Ex.refl H1) rfl) ead_nil)) (by show 2 ≤ 10; decide)) (ead_cons (tu (ead_cons st ead_nil) (by show 1 ≤ 10; decide)) (ead_cons (tu (ead_cons st (ead_cons (sg (Ex.refl H1) rfl) ead_nil)) (by show 2 ≤ 10; decide)) (ead_cons (tu (ead_cons st (ead_cons (sg (Ex.refl H1) rfl) (ead_cons (sg (Ex.refl H1) rfl) (ead_cons (sg (Ex.refl H1) rfl) ead_nil)))) (by show 4 ≤ 10; decide)) (ead_cons (tu (ead_cons st (ead_cons (tu ead_nil (by decide)) ead_nil)) (by show 2 ≤ 10; decide)) ead_nil)))))))))) (by show 10 ≤ 100000; decide)) fun pw xw H2 hpw e2 h2 hxw => ?_
    have e12 := e1.trans e2
    have hT2 := hT.ext e12
    have hda2 := Dpx e12 hda
    have hvs2 := Dpx e2 hvs
    have imr : ∀ r ∈ wrongR c0, imm r.d = true := fun r hr => by
      simp only [wrongR, List.mem_cons, List.not_mem_nil, or_false] at hr
      rcases hr with rfl | rfl | rfl | rfl | rfl | rfl | rfl | rfl | rfl | rfl <;> rfl
    have imw : immAll ((wrongR c0).map Raw.d) = true := all_imm fun d hd => by obtain ⟨q, hq, rfl⟩ := List.mem_map.mp hd; exact imr q hq
    -- odd
    have hxl := dpAll_len hxw
    have hxl' : xw.length = 10 := hxl
    have rno : ∀ {H' : Hp} {Q' : VK} {E' : XK} {al' : Al} {r : Raw}, csR al' r = .no → Res G.C_NotAllowed G.C_TooLarge K H' Q' E' .no → Res G.C_NotAllowed G.C_TooLarge K H' Q' E' (csR al' r) := fun h hR => by rw [h]; exact hR
    have imno : imm (toldOf .no) = true := rfl
    have imn : ∀ n, immAll (List.replicate n (toldOf .no)) = true := fun n => all_imm fun d hd => by rw [List.eq_of_mem_replicate hd]; rfl
    refine asg_of (op_of (lc_lst (ev_var (v := .ref pw) rfl H2 (Ex.refl H2) _ fun H3 e3 => ⟨pw, rfl, ⟨xw, sq_of (e3 _ _ h2)⟩, fun Dl hDl => ?_⟩)))
    have hT3 := hT2.ext e3
    have hda3 := Dpx e3 hda2
    refine lb_M (walk_list (xs := xw)) (fun i H' => ExtN H3 H' ∧ Tabs T H' ∧ ∃ xs, H' Dl = some (.lst xs) ∧ DpAll K H' xs (List.replicate i (toldOf .no)))
      ⟨extN_mut (ExtN.refl H3) hDl, hT3.ext (Ex.new hDl), [], upd_same, .nil⟩ (fun i H' _ q => sq_of (q.1 _ _ (e3 _ _ h2) (fun _ z => by cases z))) (fun _ => rfl) (fun i x H4 H5 hi p y => ?_) fun H4 p => ?_
    · obtain ⟨p1, p2, xs, p3, p4⟩ := p
      obtain ⟨rfl, hx⟩ := y
      obtain ⟨d, hd, hDp⟩ := dpAll_get (Dpax e3 hxw) hx
      obtain ⟨r, hr, rfl⟩ := map_get hd
      have hrm := List.mem_of_getElem? hr
      refine lv_told (K := K) p2 .no (fun Ha xa Q' E' hR => ?_) fun v H6 x6 T6 hv => ?_
      · exact ⟨va, rfl, x, rfl, al, r, hsh, (by rw [cp_wrong hga r hrm]; intro q; cases q), .cons (dp_imm (tupsN (p1.trans xa)) _ _ im hda3) (.cons (dp_imm (tupsN (p1.trans xa)) _ _ (imr r hrm) hDp) .nil), rno (csR_no hga (cp_wrong hga r hrm)) hR⟩
      · have h6 := x6 _ _ p3 (fun _ z => by cases z)
        have tu2 : Tups K H6 (upd H6 Dl (.lst (xs ++ [v]))) := tups_upd h6
        refine ⟨xs, h6, sz_lt (by rw [dpAll_len p4, List.length_replicate]; omega), extN_mut (p1.trans x6) hDl, tabs_mut T6 h6, xs ++ [v], upd_same, ?_⟩
        rw [List.replicate_succ']
        exact dpAll_snoc (dpAll_imm tu2 _ _ (imn i) (dpAll_imm (tupsN x6) _ _ (imn i) p4)) (dp_imm tu2 _ _ imno hv)
    obtain ⟨p1, p2, xs, p3, p4⟩ := p
    rw [hxl'] at p4
    have hda4 := dp_imm (tupsN p1) _ _ im hda3
    have hvs4 := dp_imm (tupsN p1) _ _ (imm_d (.sign c0)) (Dpx e3 hvs2)
    have sdep : (Sen.sign c0).dep < 6 := (by decide : 0 < 6)
    have ssz : (Sen.sign c0).size ≤ 24 := (by decide : 1 ≤ 24)
    have nbs : cp al 6 (Sen.sign c0).raw ≠ .bad := by rw [cp_ok (.sign c0) 6 hsi sdep]; intro q; cases q
    have ask : ∀ {H' : Hp} {y : Str}, y.length ≤ 1000 → Dp K H' va al.d → Dp K H' vs (Sen.sign c0).d → Ask3 K H' al (Sen.sign c0).raw y va vs := fun hy h1 h2 => ⟨hsh, nbs, hy, h1, by rw [raw_d]; exact h2⟩
    have hno1 : caR3 al (Sen.sign c0).raw "" = .no := no_text hga hsi sdep ssz (.inl (by decide +kernel))
    have hno2 : caR3 al (Sen.sign c0).raw "z" = .no := no_text hga hsi sdep ssz (.inr ⟨122, by decide +kernel, by
      cases q : al.has 122 with
      | false => rfl
      | true =>
        have := hga.rg _ (of_decide_eq_true q)
        omega⟩)
    have hok3 := caR3_good hga hsi sdep ssz hok hz1 (by omega)
    refine lst_of (cons_of (lv_told (K := K) p2 .no (fun Ha xa Q' E' hR => ?_) fun v0 H5 x5 T5 hv0 => cons_of (lv_told (K := K) T5 .no (fun Ha xa Q' E' hR => ?_) fun v1 H6 x6 T6 hv1 => cons_of (lv_told (K := K) T6 .no (fun Ha xa Q' E' hR => ?_) fun v2 H7 x7 T7 hv2 => nil_of ⟨by show 3 ≤ sizeLine; decide, fun pl hpl => ?_⟩))))
    · exact ⟨va, rfl, vs, rfl, al, _, "", va, vs, rfl, ask (by decide +kernel) (dp_imm (tupsN xa) _ _ im hda4) (dp_imm (tupsN xa) _ _ (imm_d (.sign c0)) hvs4), fun e he h => (by rw [hno1] at h; subst h; exact hR), fun t' _ _ ⟨d, hd⟩ => by rw [hno1] at hd; cases hd⟩
    · exact ⟨va, rfl, vs, rfl, al, _, "z", va, vs, rfl, ask (by decide +kernel) (dp_imm (tupsN (x5.trans xa)) _ _ im hda4) (dp_imm (tupsN (x5.trans xa)) _ _ (imm_d (.sign c0)) hvs4), fun e he h => (by rw [hno2] at h; subst h; exact hR), fun t' _ _ ⟨d, hd⟩ => by rw [hno2] at hd; cases hd⟩
    · exact ⟨va, rfl, vs, rfl, .str z, rfl, .str z, rfl, .str z, z.length, rfl, ⟨sz_of (by omega), rfl⟩, al, _, z, va, vs, (z.length : Nat), rfl, ask (by omega) (dp_imm (tupsN ((x5.trans x6).trans xa)) _ _ im hda4) (dp_imm (tupsN ((x5.trans x6).trans xa)) _ _ (imm_d (.sign c0)) hvs4), fun e he h => absurd (hok3.symm.trans h).symm (he _), fun t' _ _ _ => (by
        unfold atP
        rw [if_neg (by omega)]
        exact hR)⟩
    generalize hH8 : upd H7 pl (.lst [v0, v1, v2]) = H8
    have e78 : Ex H7 H8 := by rw [← hH8]; exact Ex.new hpl
    have l8 : H8 pl = some (.lst [v0, v1, v2]) := by rw [← hH8, upd_same]
    have x48 := ((x5.trans x6).trans x7).trans (extN_of e78)
    have d8 := x48 _ _ p3 (fun _ z => by cases z)
    refine ⟨Dl, pl, xs, [v0, v1, v2], rfl, rfl, d8, l8, sz_of (by rw [dpAll_len p4, List.length_replicate]; show 10 + 3 ≤ 100000; decide), fun p9 hp9 => ?_⟩
    generalize hH9 : upd H8 p9 (.lst (xs ++ [v0, v1, v2])) = H9
    have e89 : Ex H8 H9 := by rw [← hH9]; exact Ex.new hp9
    have l9 : H9 p9 = some (.lst (xs ++ [v0, v1, v2])) := by rw [← hH9, upd_same]
    have x49 := x48.trans (extN_of e89)
    have T9 := (T7.ext e78).ext e89
    have dx9 : DpAll K H9 (xs ++ [v0, v1, v2]) (List.replicate 13 (toldOf .no)) :=
      dpAll_app (ds := List.replicate 10 (toldOf .no)) (es := List.replicate 3 (toldOf .no)) (dpAll_imm (tupsN x49) _ _ (imn 10) p4)
        (.cons (dp_imm (tupsN (((x6.trans x7).trans (extN_of e78)).trans (extN_of e89))) _ _ imno hv0) (.cons (dp_imm (tupsN ((x7.trans (extN_of e78)).trans (extN_of e89))) _ _ imno hv1) (.cons (Dpx (e78.trans e89) hv2) .nil)))
    have hda9 := dp_imm (tupsN x49) _ _ im hda4
    have hvs9 := dp_imm (tupsN x49) _ _ (imm_d (.sign c0)) hvs4
    -- odd + [.., ..]
    refine asg_of (op_of (ev_var (v := .ref p9) rfl H9 (Ex.refl H9) _ fun H10 e10 => lst_of (cons_of (lv_told (K := K) (T9.ext e10) .no (fun Ha xa Q' E' hR => ?_) fun u0 H11 x11 T11 hu0 => cons_of (lv_told (K := K) T11 .no (fun Ha xa Q' E' hR => ?_) fun u1 H12 x12 T12 hu1 => nil_of ⟨by show 2 ≤ sizeLine; decide, fun pm hpm => ?_⟩)))))
    · exact ⟨va, rfl, vs, rfl, .str z, rfl, 1, rfl, al, _, z, va, vs, -1, rfl, ask (by omega) (dp_imm (tupsN xa) _ _ im (Dpx e10 hda9)) (dp_imm (tupsN xa) _ _ (imm_d (.sign c0)) (Dpx e10 hvs9)), fun e he h => absurd (hok3.symm.trans h).symm (he _), fun t' _ _ _ => (by
        unfold atP
        rw [if_neg (by omega)]
        exact hR)⟩
    · refine ⟨by show 3 ≤ sizeLine; decide, fun pt hpt => ⟨vs, rfl, Al.mk "a" "a" "", (Sen.sign c0).raw, ?_, ?_, .cons (.tup (st_of upd_same) (.cons (.str _) (.cons (.str _) (.cons (.str _) .nil)))) (.cons (by rw [raw_d]; exact Dpx (Ex.new hpt) (dp_imm (tupsN (x11.trans xa)) _ _ (imm_d (.sign c0)) (Dpx e10 hvs9))) .nil), ?_⟩⟩
      · intro s hs
        simp at hs
        rcases hs with rfl | rfl
        · exact ⟨by decide +kernel, asc_of (by decide +kernel)⟩
        · exact ⟨by decide +kernel, asc_of (by decide +kernel)⟩
      · show cp _ 6 (.leaf "sign" (one c0)) ≠ .bad
        rw [cp, if_pos rfl, if_neg (show ¬ 1000 < (one c0).length by show ¬ 1000 < 1; decide)]
        split <;> (intro q; cases q)
      · have : csR (Al.mk "a" "a" "") (Sen.sign c0).raw = .no := by
          unfold csR
          rw [if_neg (by decide +kernel)]
        rw [this]
        exact fun H' e => hR H' ((Ex.new hpt).trans e)
    have x912 := ((extN_of e10).trans x11).trans x12
    generalize hH13 : upd H12 pm (.lst [u0, u1]) = H13
    have e1213 : Ex H12 H13 := by rw [← hH13]; exact Ex.new hpm
    have l13 : H13 pm = some (.lst [u0, u1]) := by rw [← hH13, upd_same]
    have d13 : H13 p9 = some (.lst (xs ++ [v0, v1, v2])) := e1213 _ _ (x912 _ _ l9 (fun _ z => by cases z))
    refine ⟨p9, pm, _, [u0, u1], rfl, rfl, d13, l13, sz_of (by rw [dpAll_len dx9, List.length_replicate]; show 13 + 2 ≤ 100000; decide), fun po hpo => ?_⟩
    generalize hH14 : upd H13 po (.lst (xs ++ [v0, v1, v2] ++ [u0, u1])) = H14
    have e1314 : Ex H13 H14 := by rw [← hH14]; exact Ex.new hpo
    have l14 : H14 po = some (.lst (xs ++ [v0, v1, v2] ++ [u0, u1])) := by rw [← hH14, upd_same]
    have e1214 := e1213.trans e1314
    have x914 := x912.trans (extN_of e1214)
    have T14 := T12.ext e1214
    have dx14 : DpAll K H14 (xs ++ [v0, v1, v2] ++ [u0, u1]) (List.replicate 15 (toldOf .no)) :=
      dpAll_app (ds := List.replicate 13 (toldOf .no)) (es := List.replicate 2 (toldOf .no)) (dpAll_imm (tupsN x914) _ _ (imn 13) dx9) (.cons (dp_imm (tupsN (x12.trans (extN_of e1214))) _ _ imno hu0) (.cons (Dpx e1214 hu1) .nil))
    have hda14 := dp_imm (tupsN x914) _ _ im hda9
    have hvs14 := dp_imm (tupsN x914) _ _ (imm_d (.sign c0)) hvs9
    have x014 : ExtN H H14 := (extN_of e12).trans ((extN_of e3).trans (p1.trans (x49.trans x914)))
    clear x49 x48 x5 x6 x7 x11 x12 x912 x914 p1 p2 p3 p4 hv0 hv1 hv2 hu0 hu1 dx9 d13 d8 l8 l9 l13 hH8 hH9 hH13
    have sg2 : ∀ {σ : L2.St} {H' : Hp}, Ex H14 H' → σ[2]? = some (some vs) → EvD K (tVar 2) σ H' (Sen.sign c0).d := fun x h => evd_var h (Dpx x hvs14)
    have bi3 : ∀ {σ : L2.St} {H' : Hp} {te tf : TE} {x : Str} {d e : PyData}, EvD K te σ H' d → EvD K tf σ H' e → EvD K (tTup (tCons (tC (.str x)) (tCons te (tCons tf tNil)))) σ H' (.tuple [.str x, d, e]) := fun h g => tu (ead_cons st (ead_cons h (ead_cons g ead_nil))) (by show 3 ≤ 10; decide)
    have un2 : ∀ {σ : L2.St} {H' : Hp} {te : TE} {x : Str} {d : PyData}, EvD K te σ H' d → EvD K (tTup (tCons (tC (.str x)) (tCons te tNil))) σ H' (.tuple [.str x, d]) := fun h => tu (ead_cons st (ead_cons h ead_nil)) (by show 2 ≤ 10; decide)
    refine q_asg2 (K := K) (ead_cons (sg2 (Ex.refl H14) rfl) (ead_cons (sg2 (Ex.refl H14) rfl) ead_nil)) (by rfl) fun v5 v6 H15 e15 hv5 hv6 => ?_
    refine q_forS (evs_range1 (n := 5) (ea_cons ev_c ea_nil) (by decide)) (fun H3 i σ' H' => Ex H15 H' ∧ ∃ (v : V) (x : Option V), σ' = [some va, some (.str z), some vs, some (.ref pw), some (.ref po), some v, some v6, x, none, none, none, none, none] ∧ Dp K H' v (deepS c0 i).d)
      (fun H3 e3 => ⟨e3, v5, none, rfl, Dpx e3 hv5⟩) (fun _ _ _ _ _ _ _ => trivial) (fun H3 i x σ' H' H4 e3 hi p e4 y => ?_) fun H3 σ' H' e3 p => ?_
    · obtain ⟨q1, v, x1, rfl, q2⟩ := p
      exact s_asgD (K := K) (d := (deepS c0 (i + 1)).d) (un2 (evd_var rfl (Dpx e4 q2))) fun v' H5 e5 hv' => ⟨q1.trans (e4.trans e5), v', _, rfl, hv'⟩
    obtain ⟨q1, vdp, x1, rfl, q2⟩ := p
    have q2' : Dp K H' vdp (deepS c0 5).d := q2
    refine q_forS (evs_range1 (n := 3) (ea_cons ev_c ea_nil) (by decide)) (fun H3 i σ'' H'' => Ex H' H'' ∧ ∃ (v : V) (x : Option V), σ'' = [some va, some (.str z), some vs, some (.ref pw), some (.ref po), some vdp, some v, x, none, none, none, none, none] ∧ Dp K H'' v (wideS c0 i).d)
      (fun H3 e3 => ⟨e3, v6, _, rfl, Dpx (q1.trans e3) hv6⟩) (fun _ _ _ _ _ _ _ => trivial) (fun H3 i x σ'' H'' H4 e3 hi p e4 y => ?_) fun H3 σ'' H'' e3 p => ?_
    · obtain ⟨r1, v, x1, rfl, r2⟩ := p
      exact s_asgD (K := K) (d := (wideS c0 (i + 1)).d) (bi3 (evd_var rfl (Dpx e4 r2)) (evd_var rfl (Dpx e4 r2))) fun v' H5 e5 hv' => ⟨r1.trans (e4.trans e5), v', _, rfl, hv'⟩
    obtain ⟨r1, vwd, x2, rfl, r2⟩ := p
    have r2' : Dp K H'' vwd (wideS c0 3).d := r2
    have e1516 := e15.trans (q1.trans r1)
    refine q_asgD (K := K) (d := (eightS c0).d) (bi3 (bi3 (sg2 e1516 rfl) (sg2 e1516 rfl)) (bi3 (sg2 e1516 rfl) (un2 (sg2 e1516 rfl)))) fun v8 H16 e16 hv8 => ?_
    have e1417 := e1516.trans e16
    refine q_asgD (K := K) (d := (nineS c0).d) (bi3 (bi3 (sg2 e1417 rfl) (sg2 e1417 rfl)) (bi3 (un2 (sg2 e1417 rfl)) (un2 (sg2 e1417 rfl)))) fun v9 H17 e17 hv9 => ?_
    have x17 := e1417.trans e17
    have T17 := T14.ext x17
    have hda17 := Dpx x17 hda14
    have hvs17 := Dpx x17 hvs14
    have hdp17 := Dpx (r1.trans (e16.trans e17)) q2'
    have hwd17 := Dpx (e16.trans e17) r2'
    have hv817 := Dpx e17 hv8
    have dx17 := Dpax x17 dx14
    have l17 := x17 _ _ l14
    have x017 := x014.trans (extN_of x17)
    obtain ⟨hdi, hdd, hds⟩ := deep_in hsi 5
    have hwi := wide_in hsi 3
    have hei : (Sen.bi .both (wideS c0 3) (eightS c0)).inA al := ⟨hwi, ⟨hsi, hsi⟩, hsi, hsi⟩
    have hni : (Sen.bi .both (wideS c0 3) (nineS c0)).inA al := ⟨hwi, ⟨hsi, hsi⟩, hsi, hsi⟩
    have csd : csR al (deepS c0 5).raw = .ok .none := csR_good hga hdi (by omega) (by omega)
    have cse : csR al (Sen.bi .both (wideS c0 3) (eightS c0)).raw = .ok .none := csR_good hga hei (by decide : 4 < 6) (by decide : 24 ≤ 24)
    have csn : csR al (Sen.bi .both (wideS c0 3) (nineS c0)).raw = .big := csR_wide hga hni (by decide : 4 < 6) (by decide : 24 < 25)
    have csx : csR al (deepS c0 6).raw = .big := csR_big hga (cp_deep 6 6 (by decide))
    have nbd : cp al 6 (deepS c0 5).raw ≠ .bad := by rw [cp_ok _ 6 hdi (by omega)]; intro q; cases q
    have nbe : cp al 6 (Sen.bi .both (wideS c0 3) (eightS c0)).raw ≠ .bad := by rw [cp_ok _ 6 hei (by decide : 4 < 6)]; intro q; cases q
    have nbn : cp al 6 (Sen.bi .both (wideS c0 3) (nineS c0)).raw ≠ .bad := by rw [cp_ok _ 6 hni (by decide : 4 < 6)]; intro q; cases q
    have nbx : cp al 6 (deepS c0 6).raw ≠ .bad := by rw [cp_deep 6 6 (by decide)]; intro q; cases q
    refine asg_of (lst_of (cons_of (lv_told (K := K) T17 (.ok .none) (fun Ha xa Q' E' hR => ?_) fun w0 H18 x18 T18 hw0 => cons_of (lv_told (K := K) T18 (.ok .none) (fun Ha xa Q' E' hR => ?_) fun w1 H19 x19 T19 hw1 => nil_of ⟨by show 2 ≤ sizeLine; decide, fun pg hpg => ?_⟩))))
    · exact ⟨va, rfl, vdp, rfl, al, (deepS c0 5).raw, hsh, nbd, .cons (dp_imm (tupsN xa) _ _ im hda17) (.cons (by rw [raw_d]; exact dp_imm (tupsN xa) _ _ (imm_d _) hdp17) .nil), by rw [csd]; exact hR⟩
    · refine ⟨va, rfl, vwd, rfl, v8, rfl, by show 3 ≤ sizeLine; decide, fun pt hpt => ⟨al, (Sen.bi .both (wideS c0 3) (eightS c0)).raw, hsh, nbe, .cons (Dpx (Ex.new hpt) (dp_imm (tupsN (x18.trans xa)) _ _ im hda17)) (.cons ?_ .nil), ?_⟩⟩
      · rw [raw_d]
        exact .tup (st_of upd_same) (.cons (.str _) (.cons (Dpx (Ex.new hpt) (dp_imm (tupsN (x18.trans xa)) _ _ (imm_d _) hwd17)) (.cons (Dpx (Ex.new hpt) (dp_imm (tupsN (x18.trans xa)) _ _ (imm_d _) hv817)) .nil)))
      · rw [cse]
        exact fun v H' e hd => hR v H' ((Ex.new hpt).trans e) hd
    generalize hH20 : upd H19 pg (.lst [w0, w1]) = H20
    have e1920 : Ex H19 H20 := by rw [← hH20]; exact Ex.new hpg
    have l20 : H20 pg = some (.lst [w0, w1]) := by rw [← hH20, upd_same]
    have T20 := T19.ext e1920
    have x1720 := (x18.trans x19).trans (extN_of e1920)
    have hda20 := dp_imm (tupsN x1720) _ _ im hda17
    have hvs20 := dp_imm (tupsN x1720) _ _ (imm_d (.sign c0)) hvs17
    have hdp20 := dp_imm (tupsN x1720) _ _ (imm_d _) hdp17
    have hwd20 := dp_imm (tupsN x1720) _ _ (imm_d _) hwd17
    have hv920 := dp_imm (tupsN x1720) _ _ (imm_d _) hv9
    have dx20 := dpAll_imm (tupsN x1720) _ _ (imn 15) dx17
    have lo20 := x1720 _ _ l17 (fun _ z => by cases z)
    have dg20 : DpAll K H20 [w0, w1] (List.replicate 2 (toldOf (.ok .none))) := .cons (dp_imm (tupsN (x19.trans (extN_of e1920))) _ _ rfl hw0) (.cons (Dpx e1920 hw1) .nil)
    have hbig : caR3 al (Sen.sign c0).raw (repS (one c0) 401) = .big := big_text hga hsi sdep ssz (fun c hc => by
      rw [repS_one] at hc
      rw [List.eq_of_mem_replicate hc]
      exact hsi) (by rw [len_cps, repS_one, List.length_replicate]; decide)
    refine asg_of (lst_of (cons_of (lv_told (K := K) T20 .big (fun Ha xa Q' E' hR => ?_) fun y0 H21 x21 T21 hy0 => cons_of (lv_told (K := K) T21 .big (fun Ha xa Q' E' hR => ?_) fun y1 H22 x22 T22 hy1 => cons_of (lv_told (K := K) T22 .big (fun Ha xa Q' E' hR => ?_) fun y2 H23 x23 T23 hy2 => nil_of ⟨by show 3 ≤ sizeLine; decide, fun pz hpz => ?_⟩)))))
    · refine ⟨va, rfl, vdp, rfl, by show 2 ≤ sizeLine; decide, fun pt hpt => ⟨al, (deepS c0 6).raw, hsh, nbx, .cons (Dpx (Ex.new hpt) (dp_imm (tupsN xa) _ _ im hda20)) (.cons ?_ .nil), ?_⟩⟩
      · rw [raw_d]
        exact .tup (st_of upd_same) (.cons (.str _) (.cons (Dpx (Ex.new hpt) (dp_imm (tupsN xa) _ _ (imm_d _) hdp20)) .nil))
      · rw [csx]
        exact fun H' e => hR H' ((Ex.new hpt).trans e)
    · refine ⟨va, rfl, vwd, rfl, v9, rfl, by show 3 ≤ sizeLine; decide, fun pt hpt => ⟨al, (Sen.bi .both (wideS c0 3) (nineS c0)).raw, hsh, nbn, .cons (Dpx (Ex.new hpt) (dp_imm (tupsN (x21.trans xa)) _ _ im hda20)) (.cons ?_ .nil), ?_⟩⟩
      · rw [raw_d]
        exact .tup (st_of upd_same) (.cons (.str _) (.cons (Dpx (Ex.new hpt) (dp_imm (tupsN (x21.trans xa)) _ _ (imm_d _) hwd20)) (.cons (Dpx (Ex.new hpt) (dp_imm (tupsN (x21.trans xa)) _ _ (imm_d _) hv920)) .nil)))
      · rw [csn]
        exact fun H' e => hR H' ((Ex.new hpt).trans e)
    · have hvsa := dp_imm (tupsN ((x21.trans x22).trans xa)) _ _ (imm_d (.sign c0)) hvs20
      have hdaa := dp_imm (tupsN ((x21.trans x22).trans xa)) _ _ im hda20
      refine ⟨va, rfl, vs, rfl, op_of ((evd_str (K := K) (evd_ixT (evd_var rfl hvsa) (ev_c (v := .int 1)) rfl)) Ha (Ex.refl Ha) _ fun Hb eb => c_of ⟨one c0, 401, rfl, rfl, by decide, by decide, by show 1 ≤ 1; decide, by show 1 * 401 ≤ 2 ^ 20; decide, ?_⟩)⟩
      refine ⟨al, _, repS (one c0) 401, va, vs, rfl, ask (by rw [len_cps, repS_one, List.length_replicate]; decide) (Dpx eb hdaa) (Dpx eb hvsa), fun e he h => (by rw [hbig] at h; subst h; exact fun H' e => hR H' (eb.trans e)), fun t' _ _ ⟨d, hd⟩ => by rw [hbig] at hd; cases hd⟩
    generalize hH24 : upd H23 pz (.lst [y0, y1, y2]) = H24
    have e2324 : Ex H23 H24 := by rw [← hH24]; exact Ex.new hpz
    have l24 : H24 pz = some (.lst [y0, y1, y2]) := by rw [← hH24, upd_same]
    have T24 := T23.ext e2324
    have x2024 := ((x21.trans x22).trans x23).trans (extN_of e2324)
    have dx24 := dpAll_imm (tupsN x2024) _ _ (imn 15) dx20
    have lo24 := x2024 _ _ lo20 (fun _ z => by cases z)
    have dg24 := dpAll_imm (tupsN x2024) _ _ rfl dg20
    have lg24 := x2024 _ _ l20 (fun _ z => by cases z)
    have dz24 : DpAll K H24 [y0, y1, y2] (List.replicate 3 (toldOf .big)) := .cons (dp_imm (tupsN ((x22.trans x23).trans (extN_of e2324))) _ _ rfl hy0) (.cons (dp_imm (tupsN (x23.trans (extN_of e2324))) _ _ rfl hy1) (.cons (Dpx e2324 hy2) .nil))
    refine ret_of ((ev_andV ?_ fun _ => ev_andV ?_ fun _ => ?_ : Ev _ _ _ (.bl (true && (true && true)))) H24 (Ex.refl H24) _ fun H25 e25 => hres H25 (x017.trans (x1720.trans (x2024.trans (extN_of e25)))) (T24.ext e25))
    · exact ev_is (ev_eqD (K := K) (d := .list (List.replicate 15 (toldOf .no))) (e := .list (List.replicate 15 (toldOf .no))) (evd_var rfl (.lst (sq_of lo24) dx24)) (EvN.dp (evn_repN (n := 15) (EvN.m (evn_lst (ead_cons (tu (ead_cons st ead_nil) (by show 1 ≤ 10; decide)) ead_nil) (by show 1 ≤ 100000; decide))) ev_c (by decide))) (by decide +kernel) (by decide +kernel)) (congrArg V.bl (by decide +kernel))
    · exact ev_is (ev_eqD (K := K) (d := .list (List.replicate 2 (toldOf (.ok .none)))) (e := .list (List.replicate 2 (toldOf (.ok .none)))) (evd_var rfl (.lst (sq_of lg24) dg24)) (EvN.dp (evn_repN (n := 2) (EvN.m (evn_lst (ead_cons (tu (ead_cons st (ead_cons (.of ev_c .non) ead_nil)) (by show 2 ≤ 10; decide)) ead_nil) (by show 1 ≤ 100000; decide))) ev_c (by decide))) (by decide +kernel) (by decide +kernel)) (congrArg V.bl (by decide +kernel))
    · exact ev_is (ev_eqD (K := K) (d := .list (List.replicate 3 (toldOf .big))) (e := .list (List.replicate 3 (toldOf .big))) (evd_var rfl (.lst (sq_of l24) dz24)) (EvN.dp (evn_repN (n := 3) (EvN.m (evn_lst (ead_cons (tu (ead_cons st ead_nil) (by show 1 ≤ 10; decide)) ead_nil) (by show 1 ≤ 100000; decide))) ev_c (by decide))) (by decide +kernel) (by decide +kernel)) (congrArg V.bl (by decide +kernel))
end
end K38
namespace KR
open PySem PySem.Spec PyProof.Rows L2 Evl KD
theorem or_of {c c' : TT} {σ : L2.St} {H : Hp} {Q : Bool → Hp → Prop} (h : c σ H fun b H1 => if b = true then Q true H1 else c' σ H1 Q) : tOr c c' σ H Q := h
end KR
namespace K38
open PySem PySem.Spec PyProof.Rows L2 Evl KD KR RZ LamX
section
variable {P : Program} {w : World} {K : PySem.W.Frag} {mg : Str → Option Value} {base : Heap}
theorem tupsL {a : Addr × Addr} {b : Nat} {H H' : Hp} (h : ExL a H H') (s : StA a b H) : Tups K H H' := fun x ys q => by
  obtain ⟨xs, hx⟩ := s.has
  have ne : ∀ o : HO, H x = some o → (∀ ys, o ≠ .lst ys) → x ≠ a.1 := fun o e n z => by
    rw [z, hx] at e
    cases e
    exact n _ rfl
  rcases q with (q | ⟨ob, q⟩) | q
  · exact .inl (.inl (h x _ (ne _ q fun _ z => by cases z) q fun _ z => by cases z))
  · exact .inl (.inr ⟨ob, h x _ (ne _ q fun _ z => by cases z) q fun _ z => by cases z⟩)
  · exact .inr q
def spLaw (T : List (Addr × Str)) : Sp := fun vs H Q E => ∃ (s : Addr) (ns : List Int), vs = [.ref s] ∧ SqL K H s (ns.map V.int) ∧ Tabs T H ∧ ∀ H', Q (.bl true) H'
theorem ok_law (G : Pg K mg) {k : Nat} {T : List (Addr × Str)} (G_law_fits : FnG P w K mg base CX0 (k + 14) G.f_law_fits G.fd_law_fits ["state", "alphabet", "sentence", "text"] (spFi (K := K) T)) (G_law_rules_fit : FnG P w K mg base CX0 (k + 14) G.f_law_rules_fit G.fd_law_rules_fit ["state", "alphabet", "text"] (spRF (K := K) T)) (G_law_refuses : FnG P w K mg base CX0 (k + 14) G.f_law_refuses G.fd_law_refuses ["alphabet", "text"] (spRe (K := K) T)) :
    FnG P w K mg base CX0 (k + 15) G.f_law G.fd_law ["script"] (spLaw (K := K) T) := by
  refine okGn G.F_law sc_law (fun vs H Q E h => ?_) (fun cdv A outer s H vs Q E hgd hr h => ?_)
  · obtain ⟨a, ns, rfl, _⟩ := h
    rfl
  · have hu64 := hr.units
    have hr_law_fits := hr
    have hr_law_rules_fit := hr
    have hr_law_refuses := hr
    have G_law_stream := ok_law_stream (P := P) (w := w) (base := base) G (k := k)
    have hr_law_stream := hr.mono (j := k + 1) (by omega)
    have G_law_alphabet := ok_law_alphabet (P := P) (w := w) (base := base) G (k := k)
    have hr_law_alphabet := hr.mono (j := k + 2) (by omega)
    have G_law_text := ok_law_text (P := P) (w := w) (base := base) G (k := k)
    have hr_law_text := hr.mono (j := k + 2) (by omega)
    have G_law_sentence := ok_law_sentence (P := P) (w := w) (base := base) G (k := k) 3
    have hr_law_sentence := hr.mono (j := k + 1 + 3 + 1) (by omega)
    refine ⟨_, (pss_cons (ps_set (i := 1) sc_law.nd rfl (Or.inl rfl) (pe_lst (pa_cons (pe_call G_law_stream hr_law_stream (by rfl) G.m_law_stream G.k_law_stream G.b_law_stream .nil pass0 (pa_cons (pv 0) pa_nil)) (pa_cons pe_int pa_nil))))
      (pss_cons (ps_if (pt_cmpR (op_neK (K := K) rfl hu64) (pe_tup (pa_cons (pe_gI (by rfl) G.m_MAX_DEEP) (pa_cons (pe_gI (by rfl) G.m_MAX_PARTS) pa_nil))) (pe_tup (pa_cons pe_int (pa_cons pe_int pa_nil))) (nomark _)) (pss_one (ps_ret pe_bl)) pss_nil)
      (pss_cons (ps_for PassesOwn.never rfl (pi_range1 (by rfl) G.n_range (pa_cons pe_int pa_nil)) (pg_name (i := 2) sc_law.nd rfl (Or.inl rfl)) (pss_cons (ps_set (i := 3) sc_law.nd rfl (Or.inl rfl) (pe_call G_law_alphabet hr_law_alphabet (by rfl) G.m_law_alphabet G.k_law_alphabet G.b_law_alphabet .nil pass0 (pa_cons (pv 1) pa_nil)))
        (pss_cons (ps_for PassesOwn.never rfl (pi_range1 (by rfl) G.n_range (pa_cons pe_int pa_nil)) (pg_name (i := 4) sc_law.nd rfl (Or.inl rfl)) (pss_cons (ps_set (i := 5) sc_law.nd rfl (Or.inl rfl) (pe_call G_law_text hr_law_text (by rfl) G.m_law_text G.k_law_text G.b_law_text .nil pass0 (pa_cons (pv 1) (pa_cons (pv 3) (pa_cons pe_int pa_nil)))))
          (pss_one (ps_if (PW.pt (pw_or (pt_not (pt_val (pe_callG G_law_fits hgd hr_law_fits (by rfl) G.m_law_fits G.k_law_fits G.b_law_fits pass0 (pa_cons (pv 1) (pa_cons (pv 3) (pa_cons (pe_call G_law_sentence hr_law_sentence (by rfl) G.m_law_sentence G.k_law_sentence G.b_law_sentence .nil pass0 (pa_cons (pv 1) (pa_cons (pv 3) (pa_cons pe_int pa_nil)))) (pa_cons (pv 5) pa_nil))))))) (pw_or1 (pt_not (pt_val (pe_callG G_law_rules_fit hgd hr_law_rules_fit (by rfl) G.m_law_rules_fit G.k_law_rules_fit G.b_law_rules_fit pass0 (pa_cons (pv 1) (pa_cons (pv 3) (pa_cons (pv 5) pa_nil))))))))) (pss_one (ps_ret pe_bl)) pss_nil))))
        (pss_one (ps_if (pt_not (pt_val (pe_callG G_law_refuses hgd hr_law_refuses (by rfl) G.m_law_refuses G.k_law_refuses G.b_law_refuses pass0 (pa_cons (pv 3) (pa_cons (pv 5) pa_nil))))) (pss_one (ps_ret pe_bl)) pss_nil)))))
      (pss_one (ps_ret pe_bl))))), ?_⟩
    obtain ⟨s0, ns, rfl, hs, hT, hres⟩ := h
    have c3 : cD 3 = 60 := rfl
    refine asg_of (lst_of (cons_of ⟨.ref s0, rfl, s0, ns, rfl, hs, fun p ms H1 hp e1 h1 h0 hl => cons_of (c_of (nil_of ⟨by show 2 ≤ sizeLine; decide, fun pa hpa => ?_⟩))⟩))
    generalize hH2 : upd H1 pa (.lst [.ref p, .int 0]) = H2
    have e2 : Ex H1 H2 := by rw [← hH2]; exact Ex.new hpa
    have l2 : H2 pa = some (.lst [.ref p, .int 0]) := by rw [← hH2, upd_same]
    have st2 : StA (pa, p) 0 H2 := ⟨0, ms, l2, e2 _ _ h1, (fun z : p = pa => by rw [z, hpa] at h1; cases h1), h0, by omega, by decide, by decide⟩
    have T2 := (hT.ext e1).ext e2
    refine q_when (b := false) (et_is (et_test (ev_neD (K := K) (d := .tuple [.int 6, .int 24]) (e := .tuple [.int 6, .int 24]) (evd_tup (ead_cons (ev_int ev_c) (ead_cons (ev_int ev_c) ead_nil)) (by decide)) (evd_tup (ead_cons (ev_int ev_c) (ead_cons (ev_int ev_c) ead_nil)) (by decide)) (by decide +kernel) (by decide +kernel))) (by decide +kernel)) (fun h => by cases h) fun _ H3 e3 => ?_
    refine q_forS (evs_range1 (n := 5) (ea_cons ev_c ea_nil) (by decide)) (fun Hs i σ' H' => StA (pa, p) (494 * i) H' ∧ Tabs T H' ∧ ∃ x2 x3 x4 x5 : Option V, σ' = [some (.ref s0), some (.ref pa), x2, x3, x4, x5])
      (fun Hs es => ⟨(st2.mono e3).mono es, (T2.ext e3).ext es, none, none, none, none, rfl⟩) (fun _ _ _ _ _ _ _ => trivial) (fun Hs i x σ' H' H4 es hi q e4 y => ?_) fun Hs σ' H' es q => ?_
    · obtain ⟨q1, q2, x2, x3, x4, x5, rfl⟩ := q
      have hi5 : i < 5 := hi
      refine asg_of ⟨.ref pa, rfl, (pa, p), 494 * i, rfl, q1.mono e4, by omega, fun va H5 al hga x5' s5 hva => ?_⟩
      have T5 : Tabs T H5 := tabs_S (q2.ext e4) (q1.mono e4) x5'
      have im := al_imm al
      refine q_forS (evs_range1 (n := 5) (ea_cons ev_c ea_nil) (by decide)) (fun Hs j σ'' H'' => StA (pa, p) (494 * i + 9 + 97 * j) H'' ∧ Tabs T H'' ∧ Dp K H'' va al.d ∧ ∃ (x4 x5 : Option V), σ'' = [some (.ref s0), some (.ref pa), some x, some va, x4, x5] ∧ (1 ≤ j → ∃ z : Str, x5 = some (.str z) ∧ okText al z ∧ 1 ≤ z.length ∧ z.length ≤ 9))
        (fun Hs es => ⟨s5.mono es, T5.ext es, Dpx es hva, x4, x5, rfl, fun h => by omega⟩) (fun _ _ _ _ _ _ _ => trivial) (fun Hs j xj σ'' H'' H6 es hj q e6 y => ?_) fun Hs σ'' H'' es q => ?_
      · obtain ⟨r1, r2, r3, x4, x5, rfl, _⟩ := q
        have hj5 : j < 5 := hj
        refine asg_of ⟨.ref pa, rfl, va, rfl, (pa, p), 494 * i + 9 + 97 * j, va, al, rfl, r1.mono e6, by omega, Dpx e6 r3, hga, fun z H7 hok hz1 hz9 x7 s7 => ?_⟩
        have T7 : Tabs T H7 := tabs_S (r2.ext e6) (r1.mono e6) x7
        have hva7 := dp_imm (x7.tups (r1.mono e6)) _ _ im (Dpx e6 r3)
        refine ifS_of (or_of (not_of (b_of (call_of (cons_of ⟨.ref pa, rfl, cons_of ⟨va, rfl, cons_of ⟨.ref pa, rfl, va, rfl, (pa, p), 494 * i + 9 + 97 * j + 12, va, al, rfl, s7, by omega, hva7, hga, by decide, fun vt H8 t hin hdep x8 s8 hvt => cons_of ⟨.str z, rfl, nil_of ?_⟩⟩⟩⟩)))))
        have T8 : Tabs T H8 := tabs_S T7 s7 x8
        have hva8 := dp_imm (x8.tups s7) _ _ im hva7
        refine ⟨(pa, p), 494 * i + 9 + 97 * j + 12 + cD 3, va, vt, al, t, z, rfl, s8, by omega, T8, hva8, hvt, hga, hin, hdep, hok, hz1, hz9, fun H9 x9 s9 T9 => ⟨true, rfl, ?_⟩⟩
        have tupL : ∀ {Ha Hb : Hp} {b : Nat}, ExL (pa, p) Ha Hb → StA (pa, p) b Ha → Dp K Ha va al.d → Dp K Hb va al.d := fun hx hs hd => dp_imm (tupsL hx hs) _ _ im hd
        have hva9 := tupL x9 s8 hva8
        rw [if_neg (by decide)]
        refine not_of (b_of (call_of (cons_of ⟨.ref pa, rfl, cons_of ⟨va, rfl, cons_of ⟨.str z, rfl, nil_of ⟨(pa, p), 494 * i + 9 + 97 * j + 12 + cD 3 + 1, va, al, z, rfl, s9, by omega, T9, hva9, hga, hok, hz1, hz9, fun H10 x10 s10 T10 => ⟨true, rfl, ?_⟩⟩⟩⟩⟩)))
        rw [if_neg (by decide)]
        exact ⟨s10.le (by omega), T10, tupL x10 s9 hva9, _, _, rfl, fun _ => ⟨z, rfl, hok, hz1, hz9⟩⟩
      · obtain ⟨r1, r2, r3, x4, x5, rfl, r4⟩ := q
        obtain ⟨z, rfl, hok, hz1, hz9⟩ := r4 (by decide)
        refine ifS_of (not_of (b_of (call_of (cons_of ⟨va, rfl, cons_of ⟨.str z, rfl, nil_of ⟨va, al, z, rfl, r2, r3, hga, hok, hz1, hz9, fun H7 x7 T7 => ⟨true, rfl, ?_⟩⟩⟩⟩))))
        rw [if_neg (by decide)]
        obtain ⟨kk, nn, g1, g2, g3⟩ := r1.le (c := 494 * (i + 1)) (by show 494 * i + 9 + 97 * 5 ≤ _; omega)
        exact ⟨⟨kk, nn, x7 _ _ g1 (fun _ z => by cases z), x7 _ _ g2 (fun _ z => by cases z), g3⟩, T7, _, _, _, _, rfl⟩
    · obtain ⟨q1, q2, x2, x3, x4, x5, rfl⟩ := q
      exact s_ret (v := .bl true) ev_c fun Ha ea => hres Ha
end
end K38
set_option maxHeartbeats 0
/-! The head: the facts behind the top, by one run in the kernel. -/
namespace K38.HD
open PySem PySem.Spec PyProof.Rows L2 He KD KR
def d_check_alphabet : DefD := ⟨("check_alphabet", none), "check_alphabet", "check_alphabet", defArgs s_check_alphabet, defBody s_check_alphabet, defScope s_check_alphabet, [], []⟩
def d_check_text : DefD := ⟨("check_text", none), "check_text", "check_text", defArgs s_check_text, defBody s_check_text, defScope s_check_text, [], []⟩
def d_known_kind : DefD := ⟨("known_kind", none), "known_kind", "known_kind", defArgs s_known_kind, defBody s_known_kind, defScope s_known_kind, [], []⟩
def d_known_partners : DefD := ⟨("known_partners", none), "known_partners", "known_partners", defArgs s_known_partners, defBody s_known_partners, defScope s_known_partners, [], []⟩
def d_known_caller : DefD := ⟨("known_caller", none), "known_caller", "known_caller", defArgs s_known_caller, defBody s_known_caller, defScope s_known_caller, [], []⟩
def d_check_part : DefD := ⟨("check_part", none), "check_part", "check_part", defArgs s_check_part, defBody s_check_part, defScope s_check_part, [], []⟩
def d_check_sentence : DefD := ⟨("check_sentence", none), "check_sentence", "check_sentence", defArgs s_check_sentence, defBody s_check_sentence, defScope s_check_sentence, [], []⟩
def d_Seen_init : DefD := ⟨("Seen", some "__init__"), "__init__", "Seen.__init__", defArgs s_Seen_init, defBody s_Seen_init, defScope s_Seen_init, [], []⟩
def d_Seen_behind : DefD := ⟨("Seen", some "behind"), "behind", "Seen.behind", defArgs s_Seen_behind, defBody s_Seen_behind, defScope s_Seen_behind, [], []⟩
def d_Seen_truths : DefD := ⟨("Seen", some "truths"), "truths", "Seen.truths", defArgs s_Seen_truths, defBody s_Seen_truths, defScope s_Seen_truths, [], []⟩
def d_Seen_until : DefD := ⟨("Seen", some "until"), "until", "Seen.until", defArgs s_Seen_until, defBody s_Seen_until, defScope s_Seen_until, [], []⟩
def d_check_asked : DefD := ⟨("check_asked", none), "check_asked", "check_asked", defArgs s_check_asked, defBody s_check_asked, defScope s_check_asked, [], []⟩
def d_places_so : DefD := ⟨("places_so", none), "places_so", "places_so", defArgs s_places_so, defBody s_places_so, defScope s_places_so, [], []⟩
def d_is_so : DefD := ⟨("is_so", none), "is_so", "is_so", defArgs s_is_so, defBody s_is_so, defScope s_is_so, [], []⟩
def d_known_holds : DefD := ⟨("known_holds", none), "known_holds", "known_holds", defArgs s_known_holds, defBody s_known_holds, defScope s_known_holds, [], []⟩
def d_holds : DefD := ⟨("holds", none), "holds", "holds", defArgs s_holds, defBody s_holds, defScope s_holds, [], []⟩
def d_known_parts : DefD := ⟨("known_parts", none), "known_parts", "known_parts", defArgs s_known_parts, defBody s_known_parts, defScope s_known_parts, [], []⟩
def d_parts : DefD := ⟨("parts", none), "parts", "parts", defArgs s_parts, defBody s_parts, defScope s_parts, [], []⟩
def d_law_same : DefD := ⟨("_law_same", none), "_law_same", "_law_same", defArgs s_law_same, defBody s_law_same, defScope s_law_same, [], []⟩
def d_law_stream : DefD := ⟨("_law_stream", none), "_law_stream", "_law_stream", defArgs s_law_stream, defBody s_law_stream, defScope s_law_stream, [], []⟩
def d_law_next : DefD := ⟨("_law_next", none), "_law_next", "_law_next", defArgs s_law_next, defBody s_law_next, defScope s_law_next, [], []⟩
def d_law_told : DefD := ⟨("_law_told", none), "_law_told", "_law_told", defArgs s_law_told, defBody s_law_told, defScope s_law_told, [], []⟩
def d_law_alphabet : DefD := ⟨("_law_alphabet", none), "_law_alphabet", "_law_alphabet", defArgs s_law_alphabet, defBody s_law_alphabet, defScope s_law_alphabet, [], []⟩
def d_law_partner : DefD := ⟨("_law_partner", none), "_law_partner", "_law_partner", defArgs s_law_partner, defBody s_law_partner, defScope s_law_partner, [], []⟩
def d_law_around : DefD := ⟨("_law_around", none), "_law_around", "_law_around", defArgs s_law_around, defBody s_law_around, defScope s_law_around, [], []⟩
def d_law_leap : DefD := ⟨("_law_leap", none), "_law_leap", "_law_leap", defArgs s_law_leap, defBody s_law_leap, defScope s_law_leap, [], []⟩
def d_law_so : DefD := ⟨("_law_so", none), "_law_so", "_law_so", defArgs s_law_so, defBody s_law_so, defScope s_law_so, [], []⟩
def d_law_sentence : DefD := ⟨("_law_sentence", none), "_law_sentence", "_law_sentence", defArgs s_law_sentence, defBody s_law_sentence, defScope s_law_sentence, [], []⟩
def d_law_parts : DefD := ⟨("_law_parts", none), "_law_parts", "_law_parts", defArgs s_law_parts, defBody s_law_parts, defScope s_law_parts, [], []⟩
def d_law_text : DefD := ⟨("_law_text", none), "_law_text", "_law_text", defArgs s_law_text, defBody s_law_text, defScope s_law_text, [], []⟩
def d_law_fits : DefD := ⟨("_law_fits", none), "_law_fits", "_law_fits", defArgs s_law_fits, defBody s_law_fits, defScope s_law_fits, [], []⟩
def d_law_rules_fit : DefD := ⟨("_law_rules_fit", none), "_law_rules_fit", "_law_rules_fit", defArgs s_law_rules_fit, defBody s_law_rules_fit, defScope s_law_rules_fit, [], []⟩
def d_law_refuses : DefD := ⟨("_law_refuses", none), "_law_refuses", "_law_refuses", defArgs s_law_refuses, defBody s_law_refuses, defScope s_law_refuses, [], []⟩
def d_law : DefD := ⟨("law", none), "law", "law", defArgs s_law, defBody s_law, defScope s_law, [], []⟩
def fn0 : List DefD := [d_check_alphabet, d_check_text, d_known_kind, d_known_partners, d_known_caller, d_check_part, d_check_sentence, d_Seen_init, d_Seen_behind, d_Seen_truths, d_Seen_until, d_check_asked, d_places_so, d_is_so, d_known_holds, d_holds, d_known_parts, d_parts, d_law_same, d_law_stream]
def fn1 : List DefD := [d_law_next, d_law_told, d_law_alphabet, d_law_partner, d_law_around, d_law_leap, d_law_so, d_law_sentence, d_law_parts, d_law_text, d_law_fits, d_law_rules_fit, d_law_refuses, d_law]
def fn : List DefD := fn0 ++ fn1
def fa0 : List Fa := [.glo "check_alphabet", .glo "check_text", .glo "known_kind", .glo "known_partners", .glo "known_caller", .glo "check_part", .glo "check_sentence", .glo "check_asked", .glo "places_so", .glo "is_so", .glo "known_holds", .glo "holds", .glo "known_parts", .glo "parts", .glo "_law_same", .glo "_law_stream", .glo "_law_next", .glo "_law_told", .glo "_law_alphabet", .glo "_law_partner"]
def fa1 : List Fa := [.glo "_law_around", .glo "_law_leap", .glo "_law_so", .glo "_law_sentence", .glo "_law_parts", .glo "_law_text", .glo "_law_fits", .glo "_law_rules_fit", .glo "_law_refuses", .glo "law", .glo "CallsError", .glo "NotAllowed", .glo "TooLarge", .glo "Missing", .glo "BadPaper", .glo "BadForm", .glo "Broken", .glo "Seen", .int "MAX_SIGNS" 6, .int "MAX_TEXT" 400]
def fa2 : List Fa := [.glo "KINDS", .int "MAX_DEEP" 6, .int "MAX_PARTS" 24, .glo "ONE", .glo "TWO", .free "abs", .free "all", .free "any", .free "enumerate", .free "int", .free "isinstance", .free "len", .free "list", .free "range", .free "repr", .free "set", .free "sorted", .free "str", .free "sum", .free "tuple"]
def fa3 : List Fa := [.free "zip", .cls "Seen", .mkr "Seen", .meth "Seen" "behind", .meth "Seen" "truths", .meth "Seen" "until", .noat "Seen" "alphabet", .noat "Seen" "text", .noat "Seen" "partners", .noat "Seen" "around"]
def fa : List Fa := fa0 ++ fa1 ++ fa2 ++ fa3
def exs0 : List (PySem.W.Frag → Bool) := [(fun K => tupB K "KINDS" [.str "call", .str "plain", .str "return"]), (fun K => tupB K "ONE" [.str "not", .str "next", .str "leap", .str "caller", .str "partner"]), (fun K => tupB K "TWO" [.str "both", .str "either", .str "until", .str "leapuntil"]), (fun K => PySem.W.excIn K (ga K "NotAllowed") [.type "Exception", .type "BaseException", .type "object"] "Exception.__new__"), (fun K => PySem.W.keepIn K (.ref (ga K "NotAllowed"))), (fun K => decide (PySem.W.subIn K (.ref (ga K "NotAllowed")) (.type "BaseException") = some true)), (fun K => decide (PySem.W.typeIn K (.ref (ga K "NotAllowed")) = some (.type "type"))), (fun K => eqO (PySem.W.findIn K (.ref (ga K "NotAllowed")) "__getattribute__") (some (some (.builtin "BaseException.__getattribute__")))), (fun K => eqO (PySem.W.findIn K (.ref (ga K "NotAllowed")) "__getattr__") (some none)), (fun K => PySem.W.hasDictIn K (ga K "NotAllowed"))]
def exs1 : List (PySem.W.Frag → Bool) := [(fun K => eqO (PySem.W.findIn K (.ref (ga K "NotAllowed")) "__class__") (some (some (.builtin "object.__class__")))), (fun K => eqO (PySem.W.specialIn K (.builtin "object.__class__") "__get__") (some (some (.builtin "getset_descriptor.__get__")))), (fun K => decide (PySem.W.takesIn K (.builtin "object.__class__") = some true)), (fun K => decide (PySem.W.mroIn K (ga K "NotAllowed") (.type "object") = some true)), (fun K => decide (PySem.W.exmOne K (.ref (ga K "NotAllowed")) (.ref (ga K "CallsError")) = some true)), (fun K => decide (PySem.W.kitOne K (.ref (ga K "NotAllowed")) (.ref (ga K "NotAllowed")) = some true)), (fun K => decide (PySem.W.kitOne K (.ref (ga K "NotAllowed")) (.ref (ga K "TooLarge")) = some false)), (fun K => decide (PySem.W.kitOne K (.ref (ga K "NotAllowed")) (.ref (ga K "Missing")) = some false)), (fun K => decide (PySem.W.kitOne K (.ref (ga K "NotAllowed")) (.ref (ga K "BadForm")) = some false)), (fun K => decide (PySem.W.kitOne K (.ref (ga K "NotAllowed")) (.ref (ga K "Broken")) = some false))]
def exs2 : List (PySem.W.Frag → Bool) := [(fun K => decide (PySem.W.kitOne K (.ref (ga K "NotAllowed")) (.ref (ga K "BadPaper")) = some false)), (fun K => PySem.W.excIn K (ga K "TooLarge") [.type "Exception", .type "BaseException", .type "object"] "Exception.__new__"), (fun K => PySem.W.keepIn K (.ref (ga K "TooLarge"))), (fun K => decide (PySem.W.subIn K (.ref (ga K "TooLarge")) (.type "BaseException") = some true)), (fun K => decide (PySem.W.typeIn K (.ref (ga K "TooLarge")) = some (.type "type"))), (fun K => eqO (PySem.W.findIn K (.ref (ga K "TooLarge")) "__getattribute__") (some (some (.builtin "BaseException.__getattribute__")))), (fun K => eqO (PySem.W.findIn K (.ref (ga K "TooLarge")) "__getattr__") (some none)), (fun K => PySem.W.hasDictIn K (ga K "TooLarge")), (fun K => eqO (PySem.W.findIn K (.ref (ga K "TooLarge")) "__class__") (some (some (.builtin "object.__class__")))), (fun K => decide (PySem.W.mroIn K (ga K "TooLarge") (.type "object") = some true))]
def exs3 : List (PySem.W.Frag → Bool) := [(fun K => decide (PySem.W.exmOne K (.ref (ga K "TooLarge")) (.ref (ga K "CallsError")) = some true)), (fun K => decide (PySem.W.kitOne K (.ref (ga K "TooLarge")) (.ref (ga K "NotAllowed")) = some false)), (fun K => decide (PySem.W.kitOne K (.ref (ga K "TooLarge")) (.ref (ga K "TooLarge")) = some true)), (fun K => decide (PySem.W.kitOne K (.ref (ga K "TooLarge")) (.ref (ga K "Missing")) = some false)), (fun K => decide (PySem.W.kitOne K (.ref (ga K "TooLarge")) (.ref (ga K "BadForm")) = some false)), (fun K => decide (PySem.W.kitOne K (.ref (ga K "TooLarge")) (.ref (ga K "Broken")) = some false)), (fun K => decide (PySem.W.kitOne K (.ref (ga K "TooLarge")) (.ref (ga K "BadPaper")) = some false)), (fun K => !decide ((cT K ("_law_fits", none)).2 = (cT K ("_law_rules_fit", none)).2)), (fun K => !decide ((cT K ("_law_fits", none)).2 = (cT K ("_law_refuses", none)).2)), (fun K => !decide ((cT K ("_law_rules_fit", none)).2 = (cT K ("_law_refuses", none)).2))]
def exs : List (PySem.W.Frag → Bool) := exs0 ++ exs1 ++ exs2 ++ exs3
def ex (K : PySem.W.Frag) : Bool := exs.all fun f => f K
def tf : List Defn := [("_law_fits", none), ("_law_rules_fit", none), ("_law_refuses", none)]
def loose0 : List PySem.Str := ["CallsError", "NotAllowed", "TooLarge", "Missing", "BadPaper", "BadForm", "Broken", "MAX_SIGNS", "MAX_TEXT", "KINDS", "check_alphabet", "check_text", "known_kind", "known_partners", "known_caller", "MAX_DEEP", "MAX_PARTS", "ONE", "TWO", "check_part"]
def loose1 : List PySem.Str := ["check_sentence", "Seen", "check_asked", "places_so", "is_so", "known_holds", "holds", "known_parts", "parts", "_law_same", "_law_stream", "_law_next", "_law_told", "_law_alphabet", "_law_partner", "_law_even", "_law_around", "_law_leap", "_law_so", "_law_sentence"]
def loose2 : List PySem.Str := ["_law_parts", "_law_text", "_law_fits", "_law_rules_fit", "_law_refuses"]
def loose : List PySem.Str := loose0 ++ loose1 ++ loose2
abbrev R : PySem.W.OpenRow := PySem.W.OpenLaw.row PySem.Challenge.rw_callsproved_k38_whole_sentences_about_ne
abbrev hk : PySem.W.Hook := hookX 4 fa fn [] tf ex
def ob (s : PySem.W.SharedT) : AlX := obsX 4 fa fn [] tf ex (HandSHeadRun.getT s)
theorem ob_eq (s : PySem.W.SharedT) : ob s = hk.obs s.abs := obsX_eq (HandSHeadRun.getT_eq s)
theorem run (w : World) : HandSHeadRun.RunEq R (PySem.W.view R.prog [49]) hk ob 20000 loose w := by
  intro os
  kernel_rfl
theorem fun_of {K : PySem.W.Frag} {x q : Str} {st : Stmt} {f : Addr} {fd : FuncData} (F : FunD K x q (defArgs st) (defBody st) (defScope st) [] [] f fd) : Fun K x q st f fd := by
  obtain ⟨⟨oc, od, dV, kV, doc, pm, an, cdv, ct, osl, e, lk, hcd, hD, _⟩, kp⟩ := F
  rcases hD with ⟨_, rfl⟩ | ⟨z, _⟩
  · exact ⟨⟨oc, od, kV, doc, pm, an, cdv, ct, osl, e, lk, hcd⟩, kp⟩
  · exact absurd rfl z
theorem funC_of {K : PySem.W.Frag} {x q : Str} {st : Stmt} {p : Defn} {fd : FuncData} (F : Fun K x q st (fAd K p) fd) : FunC K x q st (fAd K p) fd (cT K p).1 := by
  obtain ⟨oc, od, kV, doc, pm, an, cdv, ct, osl, e, lk, hcd⟩ := F.ex
  obtain ⟨c, rfl⟩ := codeIn_ref hcd
  have z : (cT K p).1 = c := codeOf_eq lk (by rw [e])
  rw [z]
  exact ⟨oc, od, kV, doc, pm, an, ct, osl, e, lk, hcd⟩
section
variable {w : World} {h : Heap} {K : PySem.W.Frag} {mg : Str → Option Value}
theorem xf (c : SaysX fa fn [] tf ex w h K) (i : Nat) {f : PySem.W.Frag → Bool} (e : exs[i]? = some f := by rfl) : f K = true := List.all_eq_true.mp c.more f (List.mem_of_getElem? e)
theorem pg (X : K.In h) (G : h.Ns mainGlobals mg) (c : SaysX fa fn [] tf ex w h K) : ∃ G : Pg K mg, (∀ x (z : x ∈ [0]), True) ∧ G.f_law = fAd K ("law", none) ∧ G.f_law_fits = fAd K ("_law_fits", none) ∧ G.f_law_rules_fit = fAd K ("_law_rules_fit", none) ∧ G.f_law_refuses = fAd K ("_law_refuses", none) ∧ G.C_CallsError = ga K "CallsError" ∧ G.C_NotAllowed = ga K "NotAllowed" ∧ G.C_TooLarge = ga K "TooLarge" ∧ G.C_Missing = ga K "Missing" ∧ G.C_BadPaper = ga K "BadPaper" ∧ G.C_BadForm = ga K "BadForm" ∧ G.C_Broken = ga K "Broken" ∧ G.C_Seen = ga K "Seen" := by
  have s := c.t.d
  obtain ⟨fd_check_alphabet, F_check_alphabet⟩ := s.def_ 0 (d := d_check_alphabet) rfl
  obtain ⟨fd_check_text, F_check_text⟩ := s.def_ 1 (d := d_check_text) rfl
  obtain ⟨fd_known_kind, F_known_kind⟩ := s.def_ 2 (d := d_known_kind) rfl
  obtain ⟨fd_known_partners, F_known_partners⟩ := s.def_ 3 (d := d_known_partners) rfl
  obtain ⟨fd_known_caller, F_known_caller⟩ := s.def_ 4 (d := d_known_caller) rfl
  obtain ⟨fd_check_part, F_check_part⟩ := s.def_ 5 (d := d_check_part) rfl
  obtain ⟨fd_check_sentence, F_check_sentence⟩ := s.def_ 6 (d := d_check_sentence) rfl
  obtain ⟨fd_Seen_init, F_Seen_init⟩ := s.def_ 7 (d := d_Seen_init) rfl
  obtain ⟨fd_Seen_behind, F_Seen_behind⟩ := s.def_ 8 (d := d_Seen_behind) rfl
  obtain ⟨fd_Seen_truths, F_Seen_truths⟩ := s.def_ 9 (d := d_Seen_truths) rfl
  obtain ⟨fd_Seen_until, F_Seen_until⟩ := s.def_ 10 (d := d_Seen_until) rfl
  obtain ⟨fd_check_asked, F_check_asked⟩ := s.def_ 11 (d := d_check_asked) rfl
  obtain ⟨fd_places_so, F_places_so⟩ := s.def_ 12 (d := d_places_so) rfl
  obtain ⟨fd_is_so, F_is_so⟩ := s.def_ 13 (d := d_is_so) rfl
  obtain ⟨fd_known_holds, F_known_holds⟩ := s.def_ 14 (d := d_known_holds) rfl
  obtain ⟨fd_holds, F_holds⟩ := s.def_ 15 (d := d_holds) rfl
  obtain ⟨fd_known_parts, F_known_parts⟩ := s.def_ 16 (d := d_known_parts) rfl
  obtain ⟨fd_parts, F_parts⟩ := s.def_ 17 (d := d_parts) rfl
  obtain ⟨fd_law_same, F_law_same⟩ := s.def_ 18 (d := d_law_same) rfl
  obtain ⟨fd_law_stream, F_law_stream⟩ := s.def_ 19 (d := d_law_stream) rfl
  obtain ⟨fd_law_next, F_law_next⟩ := s.def_ 20 (d := d_law_next) rfl
  obtain ⟨fd_law_told, F_law_told⟩ := s.def_ 21 (d := d_law_told) rfl
  obtain ⟨fd_law_alphabet, F_law_alphabet⟩ := s.def_ 22 (d := d_law_alphabet) rfl
  obtain ⟨fd_law_partner, F_law_partner⟩ := s.def_ 23 (d := d_law_partner) rfl
  obtain ⟨fd_law_around, F_law_around⟩ := s.def_ 24 (d := d_law_around) rfl
  obtain ⟨fd_law_leap, F_law_leap⟩ := s.def_ 25 (d := d_law_leap) rfl
  obtain ⟨fd_law_so, F_law_so⟩ := s.def_ 26 (d := d_law_so) rfl
  obtain ⟨fd_law_sentence, F_law_sentence⟩ := s.def_ 27 (d := d_law_sentence) rfl
  obtain ⟨fd_law_parts, F_law_parts⟩ := s.def_ 28 (d := d_law_parts) rfl
  obtain ⟨fd_law_text, F_law_text⟩ := s.def_ 29 (d := d_law_text) rfl
  obtain ⟨fd_law_fits, F_law_fits⟩ := s.def_ 30 (d := d_law_fits) rfl
  obtain ⟨fd_law_rules_fit, F_law_rules_fit⟩ := s.def_ 31 (d := d_law_rules_fit) rfl
  obtain ⟨fd_law_refuses, F_law_refuses⟩ := s.def_ 32 (d := d_law_refuses) rfl
  obtain ⟨fd_law, F_law⟩ := s.def_ 33 (d := d_law) rfl
  obtain ⟨t_MAX_SIGNS, m_MAX_SIGNS⟩ := int_ok X G (s.fact 38 (f := .int "MAX_SIGNS" 6) rfl)
  obtain ⟨t_MAX_TEXT, m_MAX_TEXT⟩ := int_ok X G (s.fact 39 (f := .int "MAX_TEXT" 400) rfl)
  obtain ⟨t_MAX_DEEP, m_MAX_DEEP⟩ := int_ok X G (s.fact 41 (f := .int "MAX_DEEP" 6) rfl)
  obtain ⟨t_MAX_PARTS, m_MAX_PARTS⟩ := int_ok X G (s.fact 42 (f := .int "MAX_PARTS" 24) rfl)
  exact ⟨{
    f_check_alphabet := fAd K ("check_alphabet", none)
    fd_check_alphabet := fd_check_alphabet
    F_check_alphabet := fun_of F_check_alphabet
    b_check_alphabet := FunD.bindsN (ps := ["alphabet"]) F_check_alphabet fun _ _ _ _ _ _ us hl => match us, hl with | [_], _ => rfl
    m_check_alphabet := glo_ok X G (s.fact 0 (f := .glo "check_alphabet") rfl)
    f_check_text := fAd K ("check_text", none)
    fd_check_text := fd_check_text
    F_check_text := fun_of F_check_text
    b_check_text := FunD.bindsN (ps := ["alphabet", "text"]) F_check_text fun _ _ _ _ _ _ us hl => match us, hl with | [_, _], _ => rfl
    m_check_text := glo_ok X G (s.fact 1 (f := .glo "check_text") rfl)
    f_known_kind := fAd K ("known_kind", none)
    fd_known_kind := fd_known_kind
    F_known_kind := fun_of F_known_kind
    b_known_kind := FunD.bindsN (ps := ["alphabet", "letter"]) F_known_kind fun _ _ _ _ _ _ us hl => match us, hl with | [_, _], _ => rfl
    m_known_kind := glo_ok X G (s.fact 2 (f := .glo "known_kind") rfl)
    f_known_partners := fAd K ("known_partners", none)
    fd_known_partners := fd_known_partners
    F_known_partners := fun_of F_known_partners
    b_known_partners := FunD.bindsN (ps := ["alphabet", "text"]) F_known_partners fun _ _ _ _ _ _ us hl => match us, hl with | [_, _], _ => rfl
    m_known_partners := glo_ok X G (s.fact 3 (f := .glo "known_partners") rfl)
    f_known_caller := fAd K ("known_caller", none)
    fd_known_caller := fd_known_caller
    F_known_caller := fun_of F_known_caller
    b_known_caller := FunD.bindsN (ps := ["rows", "alphabet", "text", "place"]) F_known_caller fun _ _ _ _ _ _ us hl => match us, hl with | [_, _, _, _], _ => rfl
    m_known_caller := glo_ok X G (s.fact 4 (f := .glo "known_caller") rfl)
    f_check_part := fAd K ("check_part", none)
    fd_check_part := fd_check_part
    F_check_part := fun_of F_check_part
    b_check_part := FunD.bindsN (ps := ["alphabet", "told", "deep"]) F_check_part fun _ _ _ _ _ _ us hl => match us, hl with | [_, _, _], _ => rfl
    m_check_part := glo_ok X G (s.fact 5 (f := .glo "check_part") rfl)
    f_check_sentence := fAd K ("check_sentence", none)
    fd_check_sentence := fd_check_sentence
    F_check_sentence := fun_of F_check_sentence
    b_check_sentence := FunD.bindsN (ps := ["alphabet", "sentence"]) F_check_sentence fun _ _ _ _ _ _ us hl => match us, hl with | [_, _], _ => rfl
    m_check_sentence := glo_ok X G (s.fact 6 (f := .glo "check_sentence") rfl)
    f_Seen_init := fAd K ("Seen", some "__init__")
    fd_Seen_init := fd_Seen_init
    F_Seen_init := fun_of F_Seen_init
    b_Seen_init := FunD.bindsN (ps := ["self", "alphabet", "text"]) F_Seen_init fun _ _ _ _ _ _ us hl => match us, hl with | [_, _, _], _ => rfl
    f_Seen_behind := fAd K ("Seen", some "behind")
    fd_Seen_behind := fd_Seen_behind
    F_Seen_behind := fun_of F_Seen_behind
    b_Seen_behind := FunD.bindsN (ps := ["self", "at"]) F_Seen_behind fun _ _ _ _ _ _ us hl => match us, hl with | [_, _], _ => rfl
    f_Seen_truths := fAd K ("Seen", some "truths")
    fd_Seen_truths := fd_Seen_truths
    F_Seen_truths := fun_of F_Seen_truths
    b_Seen_truths := FunD.bindsN (ps := ["self", "told"]) F_Seen_truths fun _ _ _ _ _ _ us hl => match us, hl with | [_, _], _ => rfl
    f_Seen_until := fAd K ("Seen", some "until")
    fd_Seen_until := fd_Seen_until
    F_Seen_until := fun_of F_Seen_until
    b_Seen_until := FunD.bindsN (ps := ["self", "one", "two", "is_plain"]) F_Seen_until fun _ _ _ _ _ _ us hl => match us, hl with | [_, _, _, _], _ => rfl
    f_check_asked := fAd K ("check_asked", none)
    fd_check_asked := fd_check_asked
    F_check_asked := fun_of F_check_asked
    b_check_asked := FunD.bindsN (ps := ["alphabet", "sentence", "text"]) F_check_asked fun _ _ _ _ _ _ us hl => match us, hl with | [_, _, _], _ => rfl
    m_check_asked := glo_ok X G (s.fact 7 (f := .glo "check_asked") rfl)
    f_places_so := fAd K ("places_so", none)
    fd_places_so := fd_places_so
    F_places_so := fun_of F_places_so
    b_places_so := FunD.bindsN (ps := ["alphabet", "sentence", "text"]) F_places_so fun _ _ _ _ _ _ us hl => match us, hl with | [_, _, _], _ => rfl
    m_places_so := glo_ok X G (s.fact 8 (f := .glo "places_so") rfl)
    f_is_so := fAd K ("is_so", none)
    fd_is_so := fd_is_so
    F_is_so := fun_of F_is_so
    b_is_so := FunD.bindsN (ps := ["alphabet", "sentence", "text", "place"]) F_is_so fun _ _ _ _ _ _ us hl => match us, hl with | [_, _, _, _], _ => rfl
    m_is_so := glo_ok X G (s.fact 9 (f := .glo "is_so") rfl)
    f_known_holds := fAd K ("known_holds", none)
    fd_known_holds := fd_known_holds
    F_known_holds := fun_of F_known_holds
    b_known_holds := FunD.bindsN (ps := ["alphabet", "sentence", "text"]) F_known_holds fun _ _ _ _ _ _ us hl => match us, hl with | [_, _, _], _ => rfl
    m_known_holds := glo_ok X G (s.fact 10 (f := .glo "known_holds") rfl)
    f_holds := fAd K ("holds", none)
    fd_holds := fd_holds
    F_holds := fun_of F_holds
    b_holds := FunD.bindsN (ps := ["alphabet", "sentence", "text"]) F_holds fun _ _ _ _ _ _ us hl => match us, hl with | [_, _, _], _ => rfl
    m_holds := glo_ok X G (s.fact 11 (f := .glo "holds") rfl)
    f_known_parts := fAd K ("known_parts", none)
    fd_known_parts := fd_known_parts
    F_known_parts := fun_of F_known_parts
    b_known_parts := FunD.bindsN (ps := ["sentence"]) F_known_parts fun _ _ _ _ _ _ us hl => match us, hl with | [_], _ => rfl
    m_known_parts := glo_ok X G (s.fact 12 (f := .glo "known_parts") rfl)
    f_parts := fAd K ("parts", none)
    fd_parts := fd_parts
    F_parts := fun_of F_parts
    b_parts := FunD.bindsN (ps := ["alphabet", "sentence"]) F_parts fun _ _ _ _ _ _ us hl => match us, hl with | [_, _], _ => rfl
    m_parts := glo_ok X G (s.fact 13 (f := .glo "parts") rfl)
    f_law_same := fAd K ("_law_same", none)
    fd_law_same := fd_law_same
    F_law_same := fun_of F_law_same
    b_law_same := FunD.bindsN (ps := ["told", "due"]) F_law_same fun _ _ _ _ _ _ us hl => match us, hl with | [_, _], _ => rfl
    m_law_same := glo_ok X G (s.fact 14 (f := .glo "_law_same") rfl)
    f_law_stream := fAd K ("_law_stream", none)
    fd_law_stream := fd_law_stream
    F_law_stream := fun_of F_law_stream
    b_law_stream := FunD.bindsN (ps := ["script"]) F_law_stream fun _ _ _ _ _ _ us hl => match us, hl with | [_], _ => rfl
    m_law_stream := glo_ok X G (s.fact 15 (f := .glo "_law_stream") rfl)
    f_law_next := fAd K ("_law_next", none)
    fd_law_next := fd_law_next
    F_law_next := fun_of F_law_next
    b_law_next := FunD.bindsN (ps := ["state", "many"]) F_law_next fun _ _ _ _ _ _ us hl => match us, hl with | [_, _], _ => rfl
    m_law_next := glo_ok X G (s.fact 16 (f := .glo "_law_next") rfl)
    f_law_told := fAd K ("_law_told", none)
    fd_law_told := fd_law_told
    F_law_told := fun_of F_law_told
    b_law_told := FunD.bindsN (ps := ["call"]) F_law_told fun _ _ _ _ _ _ us hl => match us, hl with | [_], _ => rfl
    m_law_told := glo_ok X G (s.fact 17 (f := .glo "_law_told") rfl)
    f_law_alphabet := fAd K ("_law_alphabet", none)
    fd_law_alphabet := fd_law_alphabet
    F_law_alphabet := fun_of F_law_alphabet
    b_law_alphabet := FunD.bindsN (ps := ["state"]) F_law_alphabet fun _ _ _ _ _ _ us hl => match us, hl with | [_], _ => rfl
    m_law_alphabet := glo_ok X G (s.fact 18 (f := .glo "_law_alphabet") rfl)
    f_law_partner := fAd K ("_law_partner", none)
    fd_law_partner := fd_law_partner
    F_law_partner := fun_of F_law_partner
    b_law_partner := FunD.bindsN (ps := ["alphabet", "text", "at"]) F_law_partner fun _ _ _ _ _ _ us hl => match us, hl with | [_, _, _], _ => rfl
    m_law_partner := glo_ok X G (s.fact 19 (f := .glo "_law_partner") rfl)
    f_law_around := fAd K ("_law_around", none)
    fd_law_around := fd_law_around
    F_law_around := fun_of F_law_around
    b_law_around := FunD.bindsN (ps := ["alphabet", "text", "at"]) F_law_around fun _ _ _ _ _ _ us hl => match us, hl with | [_, _, _], _ => rfl
    m_law_around := glo_ok X G (s.fact 20 (f := .glo "_law_around") rfl)
    f_law_leap := fAd K ("_law_leap", none)
    fd_law_leap := fd_law_leap
    F_law_leap := fun_of F_law_leap
    b_law_leap := FunD.bindsN (ps := ["alphabet", "text", "at"]) F_law_leap fun _ _ _ _ _ _ us hl => match us, hl with | [_, _, _], _ => rfl
    m_law_leap := glo_ok X G (s.fact 21 (f := .glo "_law_leap") rfl)
    f_law_so := fAd K ("_law_so", none)
    fd_law_so := fd_law_so
    F_law_so := fun_of F_law_so
    b_law_so := FunD.bindsN (ps := ["alphabet", "told", "text", "at"]) F_law_so fun _ _ _ _ _ _ us hl => match us, hl with | [_, _, _, _], _ => rfl
    m_law_so := glo_ok X G (s.fact 22 (f := .glo "_law_so") rfl)
    f_law_sentence := fAd K ("_law_sentence", none)
    fd_law_sentence := fd_law_sentence
    F_law_sentence := fun_of F_law_sentence
    b_law_sentence := FunD.bindsN (ps := ["state", "alphabet", "deep"]) F_law_sentence fun _ _ _ _ _ _ us hl => match us, hl with | [_, _, _], _ => rfl
    m_law_sentence := glo_ok X G (s.fact 23 (f := .glo "_law_sentence") rfl)
    f_law_parts := fAd K ("_law_parts", none)
    fd_law_parts := fd_law_parts
    F_law_parts := fun_of F_law_parts
    b_law_parts := FunD.bindsN (ps := ["told"]) F_law_parts fun _ _ _ _ _ _ us hl => match us, hl with | [_], _ => rfl
    m_law_parts := glo_ok X G (s.fact 24 (f := .glo "_law_parts") rfl)
    f_law_text := fAd K ("_law_text", none)
    fd_law_text := fd_law_text
    F_law_text := fun_of F_law_text
    b_law_text := FunD.bindsN (ps := ["state", "alphabet", "most"]) F_law_text fun _ _ _ _ _ _ us hl => match us, hl with | [_, _, _], _ => rfl
    m_law_text := glo_ok X G (s.fact 25 (f := .glo "_law_text") rfl)
    f_law_fits := fAd K ("_law_fits", none)
    fd_law_fits := fd_law_fits
    F_law_fits := fun_of F_law_fits
    b_law_fits := FunD.bindsN (ps := ["state", "alphabet", "sentence", "text"]) F_law_fits fun _ _ _ _ _ _ us hl => match us, hl with | [_, _, _, _], _ => rfl
    m_law_fits := glo_ok X G (s.fact 26 (f := .glo "_law_fits") rfl)
    f_law_rules_fit := fAd K ("_law_rules_fit", none)
    fd_law_rules_fit := fd_law_rules_fit
    F_law_rules_fit := fun_of F_law_rules_fit
    b_law_rules_fit := FunD.bindsN (ps := ["state", "alphabet", "text"]) F_law_rules_fit fun _ _ _ _ _ _ us hl => match us, hl with | [_, _, _], _ => rfl
    m_law_rules_fit := glo_ok X G (s.fact 27 (f := .glo "_law_rules_fit") rfl)
    f_law_refuses := fAd K ("_law_refuses", none)
    fd_law_refuses := fd_law_refuses
    F_law_refuses := fun_of F_law_refuses
    b_law_refuses := FunD.bindsN (ps := ["alphabet", "text"]) F_law_refuses fun _ _ _ _ _ _ us hl => match us, hl with | [_, _], _ => rfl
    m_law_refuses := glo_ok X G (s.fact 28 (f := .glo "_law_refuses") rfl)
    f_law := fAd K ("law", none)
    fd_law := fd_law
    F_law := fun_of F_law
    b_law := FunD.bindsN (ps := ["script"]) F_law fun _ _ _ _ _ _ us hl => match us, hl with | [_], _ => rfl
    m_law := glo_ok X G (s.fact 29 (f := .glo "law") rfl)
    C_CallsError := ga K "CallsError"
    mC_CallsError := glo_ok X G (s.fact 30 (f := .glo "CallsError") rfl)
    C_NotAllowed := ga K "NotAllowed"
    mC_NotAllowed := glo_ok X G (s.fact 31 (f := .glo "NotAllowed") rfl)
    C_TooLarge := ga K "TooLarge"
    mC_TooLarge := glo_ok X G (s.fact 32 (f := .glo "TooLarge") rfl)
    C_Missing := ga K "Missing"
    mC_Missing := glo_ok X G (s.fact 33 (f := .glo "Missing") rfl)
    C_BadPaper := ga K "BadPaper"
    mC_BadPaper := glo_ok X G (s.fact 34 (f := .glo "BadPaper") rfl)
    C_BadForm := ga K "BadForm"
    mC_BadForm := glo_ok X G (s.fact 35 (f := .glo "BadForm") rfl)
    C_Broken := ga K "Broken"
    mC_Broken := glo_ok X G (s.fact 36 (f := .glo "Broken") rfl)
    C_Seen := ga K "Seen"
    mC_Seen := glo_ok X G (s.fact 37 (f := .glo "Seen") rfl)
    t_MAX_SIGNS := t_MAX_SIGNS
    m_MAX_SIGNS := m_MAX_SIGNS
    t_MAX_TEXT := t_MAX_TEXT
    m_MAX_TEXT := m_MAX_TEXT
    a_KINDS := ga K "KINDS"
    m_KINDS := glo_ok X G (s.fact 40 (f := .glo "KINDS") rfl)
    s_KINDS := fun H => tupB_ok (xf c 0) H
    t_MAX_DEEP := t_MAX_DEEP
    m_MAX_DEEP := m_MAX_DEEP
    t_MAX_PARTS := t_MAX_PARTS
    m_MAX_PARTS := m_MAX_PARTS
    a_ONE := ga K "ONE"
    m_ONE := glo_ok X G (s.fact 43 (f := .glo "ONE") rfl)
    s_ONE := fun H => tupB_ok (xf c 1) H
    a_TWO := ga K "TWO"
    m_TWO := glo_ok X G (s.fact 44 (f := .glo "TWO") rfl)
    s_TWO := fun H => tupB_ok (xf c 2) H
    n_abs := free_ok X G (s.fact 45 (f := .free "abs") rfl)
    n_all := free_ok X G (s.fact 46 (f := .free "all") rfl)
    n_any := free_ok X G (s.fact 47 (f := .free "any") rfl)
    n_enumerate := free_ok X G (s.fact 48 (f := .free "enumerate") rfl)
    n_int := free_ok X G (s.fact 49 (f := .free "int") rfl)
    n_isinstance := free_ok X G (s.fact 50 (f := .free "isinstance") rfl)
    n_len := free_ok X G (s.fact 51 (f := .free "len") rfl)
    n_list := free_ok X G (s.fact 52 (f := .free "list") rfl)
    n_range := free_ok X G (s.fact 53 (f := .free "range") rfl)
    n_repr := free_ok X G (s.fact 54 (f := .free "repr") rfl)
    n_set := free_ok X G (s.fact 55 (f := .free "set") rfl)
    n_sorted := free_ok X G (s.fact 56 (f := .free "sorted") rfl)
    n_str := free_ok X G (s.fact 57 (f := .free "str") rfl)
    n_sum := free_ok X G (s.fact 58 (f := .free "sum") rfl)
    n_tuple := free_ok X G (s.fact 59 (f := .free "tuple") rfl)
    n_zip := free_ok X G (s.fact 60 (f := .free "zip") rfl)
    xC_NotAllowed := xf c 3
    kC_NotAllowed := xf c 4
    rs_NotAllowed := fun X e => by subst e; exact raises_own (of_decide_eq_true (xf c 5)) (of_decide_eq_true (xf c 6))
    xC_TooLarge := xf c 21
    kC_TooLarge := xf c 22
    rs_TooLarge := fun X e => by subst e; exact raises_own (of_decide_eq_true (xf c 23)) (of_decide_eq_true (xf c 24))
    cl_Seen := cls_ok (s.fact 61 (f := .cls "Seen") rfl)
    mk_Seen := mkr_ok (s.fact 62 (f := .mkr "Seen") rfl)
    mt_Seen_behind := meth_ok (s.fact 63 (f := .meth "Seen" "behind") rfl)
    mt_Seen_truths := meth_ok (s.fact 64 (f := .meth "Seen" "truths") rfl)
    mt_Seen_until := meth_ok (s.fact 65 (f := .meth "Seen" "until") rfl)
    nA_alphabet := noat_ok (s.fact 66 (f := .noat "Seen" "alphabet") rfl)
    nA_text := noat_ok (s.fact 67 (f := .noat "Seen" "text") rfl)
    nA_partners := noat_ok (s.fact 68 (f := .noat "Seen" "partners") rfl)
    nA_around := noat_ok (s.fact 69 (f := .noat "Seen" "around") rfl)
  }, fun _ _ => trivial, rfl, rfl, rfl, rfl, rfl, rfl, rfl, rfl, rfl, rfl, rfl, rfl⟩
theorem excC_NotAllowed (c : SaysX fa fn [] tf ex w h K) : ExcC K (ga K "NotAllowed") := ⟨(eqO_ok (xf c 7)), (eqO_ok (xf c 8)), (of_decide_eq_true (xf c 5)), xf c 9, (eqO_ok (xf c 10)), (eqO_ok (xf c 11)), (of_decide_eq_true (xf c 12)), (of_decide_eq_true (xf c 13))⟩
theorem excC_TooLarge (c : SaysX fa fn [] tf ex w h K) : ExcC K (ga K "TooLarge") := ⟨(eqO_ok (xf c 25)), (eqO_ok (xf c 26)), (of_decide_eq_true (xf c 23)), xf c 27, (eqO_ok (xf c 28)), (eqO_ok (xf c 11)), (of_decide_eq_true (xf c 12)), (of_decide_eq_true (xf c 29))⟩
theorem exm_NotAllowed (c : SaysX fa fn [] tf ex w h K) : PySem.W.exmOne K (.ref (ga K "NotAllowed")) (.ref (ga K "CallsError")) = some true := (of_decide_eq_true (xf c 14))
theorem kit_NotAllowed_NotAllowed (c : SaysX fa fn [] tf ex w h K) : PySem.W.kitOne K (.ref (ga K "NotAllowed")) (.ref (ga K "NotAllowed")) = some true := (of_decide_eq_true (xf c 15))
theorem kit_NotAllowed_TooLarge (c : SaysX fa fn [] tf ex w h K) : PySem.W.kitOne K (.ref (ga K "NotAllowed")) (.ref (ga K "TooLarge")) = some false := (of_decide_eq_true (xf c 16))
theorem kit_NotAllowed_Missing (c : SaysX fa fn [] tf ex w h K) : PySem.W.kitOne K (.ref (ga K "NotAllowed")) (.ref (ga K "Missing")) = some false := (of_decide_eq_true (xf c 17))
theorem kit_NotAllowed_BadForm (c : SaysX fa fn [] tf ex w h K) : PySem.W.kitOne K (.ref (ga K "NotAllowed")) (.ref (ga K "BadForm")) = some false := (of_decide_eq_true (xf c 18))
theorem kit_NotAllowed_Broken (c : SaysX fa fn [] tf ex w h K) : PySem.W.kitOne K (.ref (ga K "NotAllowed")) (.ref (ga K "Broken")) = some false := (of_decide_eq_true (xf c 19))
theorem kit_NotAllowed_BadPaper (c : SaysX fa fn [] tf ex w h K) : PySem.W.kitOne K (.ref (ga K "NotAllowed")) (.ref (ga K "BadPaper")) = some false := (of_decide_eq_true (xf c 20))
theorem exm_TooLarge (c : SaysX fa fn [] tf ex w h K) : PySem.W.exmOne K (.ref (ga K "TooLarge")) (.ref (ga K "CallsError")) = some true := (of_decide_eq_true (xf c 30))
theorem kit_TooLarge_NotAllowed (c : SaysX fa fn [] tf ex w h K) : PySem.W.kitOne K (.ref (ga K "TooLarge")) (.ref (ga K "NotAllowed")) = some false := (of_decide_eq_true (xf c 31))
theorem kit_TooLarge_TooLarge (c : SaysX fa fn [] tf ex w h K) : PySem.W.kitOne K (.ref (ga K "TooLarge")) (.ref (ga K "TooLarge")) = some true := (of_decide_eq_true (xf c 32))
theorem kit_TooLarge_Missing (c : SaysX fa fn [] tf ex w h K) : PySem.W.kitOne K (.ref (ga K "TooLarge")) (.ref (ga K "Missing")) = some false := (of_decide_eq_true (xf c 33))
theorem kit_TooLarge_BadForm (c : SaysX fa fn [] tf ex w h K) : PySem.W.kitOne K (.ref (ga K "TooLarge")) (.ref (ga K "BadForm")) = some false := (of_decide_eq_true (xf c 34))
theorem kit_TooLarge_Broken (c : SaysX fa fn [] tf ex w h K) : PySem.W.kitOne K (.ref (ga K "TooLarge")) (.ref (ga K "Broken")) = some false := (of_decide_eq_true (xf c 35))
theorem kit_TooLarge_BadPaper (c : SaysX fa fn [] tf ex w h K) : PySem.W.kitOne K (.ref (ga K "TooLarge")) (.ref (ga K "BadPaper")) = some false := (of_decide_eq_true (xf c 36))
theorem ne_0_1 (c : SaysX fa fn [] tf ex w h K) : (cT K ("_law_fits", none)).2 ≠ (cT K ("_law_rules_fit", none)).2 := by
  have z := xf c 37
  intro q
  rw [show (!decide ((cT K ("_law_fits", none)).2 = (cT K ("_law_rules_fit", none)).2)) = false by rw [decide_eq_true q]; rfl] at z
  cases z
theorem ne_0_2 (c : SaysX fa fn [] tf ex w h K) : (cT K ("_law_fits", none)).2 ≠ (cT K ("_law_refuses", none)).2 := by
  have z := xf c 38
  intro q
  rw [show (!decide ((cT K ("_law_fits", none)).2 = (cT K ("_law_refuses", none)).2)) = false by rw [decide_eq_true q]; rfl] at z
  cases z
theorem ne_1_2 (c : SaysX fa fn [] tf ex w h K) : (cT K ("_law_rules_fit", none)).2 ≠ (cT K ("_law_refuses", none)).2 := by
  have z := xf c 39
  intro q
  rw [show (!decide ((cT K ("_law_rules_fit", none)).2 = (cT K ("_law_refuses", none)).2)) = false by rw [decide_eq_true q]; rfl] at z
  cases z
end
end K38.HD
namespace KR
open PySem PySem.Spec PyProof.Rows L2 LamX
theorem walk_ofGE {l : PySem.W.OpenLaw} {n k : Nat} {q : Program} {loose : List Str} {XP : (Str → Option Value) → Heap → Prop} {YP : World → Heap → Prop} {d : DefRec} {CX : World → CXT} {x : Str}
    (hn : l.most = some n) (hn2 : n ≤ sizeLine) (hdf : d.params.defaults = []) (hr : Room k callerA)
    (F : ∀ (w : World) (mg : Str → Option Value) (fa : Addr) (h : Heap), YP w h → h.Ns mainGlobals mg → mg d.name = some (.ref fa) → ∃ K : PySem.W.Frag, K.In h ∧ LawAtG l w K (CX w) k n x mg fa h)
    (hCX : ∀ (w : World) (H : Hp) (s : Shared) (e : Value) (s' : Shared), CX w [] H s (fun _ _ _ => False) e s' → False) :
    PySem.W.WalkO q loose XP YP l.row.toRowW d [] (fun f vs => PySem.call f vs) := by
  refine Att.attach_callB hn hdf fun w s₀ s₁ mg mb fa o pm cd doc a vs ns G Y ho hd hcd hmg hobj hints hlen hbits hg => ?_
  obtain ⟨K, KX, fd, cs, sp, hT, nT, C, hb, hsp, hF⟩ := F w mg fa _ Y G.T.g hmg
  exact law_callG KX G.T.g G.T.b G.T.builtins G.T.nolimit hg hT nT C G.T.bmain hobj hints (Nat.le_trans hlen hn2) hr hF hb (fun H hH hS => hsp H a ns hlen hbits hH hS) fun H e s' => hCX w H s₁ e s'
end KR
namespace K38
open PySem PySem.Spec PyProof.Rows L2 He KD KR RZ LamX
theorem law_at {w : World} {h : Heap} {K : PySem.W.Frag} {mg : Str → Option Value} {fa : Addr} (X : K.In h) (G0 : h.Ns mainGlobals mg) (hfa : mg ("law" : Str) = some (.ref fa)) (c : SaysX HD.fa HD.fn [] HD.tf HD.ex w h K) :
    LawAtG PySem.Challenge.rw_callsproved_k38_whole_sentences_about_ne w K CX0 15 63 "script" mg fa h := by
  obtain ⟨G, _, e0, e1, e2, e3, c0, c1, c2, c3, c4, c5, c6, c7⟩ := HD.pg X G0 c
  have ef : fa = G.f_law := by
    have z := G.m_law.symm.trans hfa
    cases z
    rfl
  subst ef
  have R : Errs K G := ⟨by rw [c1]; exact HD.excC_NotAllowed c, by rw [c2]; exact HD.excC_TooLarge c, by rw [c1, c0]; exact HD.exm_NotAllowed c, by rw [c2, c0]; exact HD.exm_TooLarge c,
    fun C hC => by
      rw [c1]
      simp only [List.mem_cons, List.not_mem_nil, or_false] at hC
      rcases hC with rfl | rfl | rfl | rfl | rfl
      · rw [c2]; exact HD.kit_NotAllowed_TooLarge c
      · rw [c3]; exact HD.kit_NotAllowed_Missing c
      · rw [c5]; exact HD.kit_NotAllowed_BadForm c
      · rw [c6]; exact HD.kit_NotAllowed_Broken c
      · rw [c4]; exact HD.kit_NotAllowed_BadPaper c,
    fun C hC => by
      rw [c2]
      simp only [List.mem_cons, List.not_mem_nil, or_false] at hC
      rcases hC with rfl | rfl | rfl | rfl | rfl
      · rw [c1]; exact HD.kit_TooLarge_NotAllowed c
      · rw [c3]; exact HD.kit_TooLarge_Missing c
      · rw [c5]; exact HD.kit_TooLarge_BadForm c
      · rw [c6]; exact HD.kit_TooLarge_Broken c
      · rw [c4]; exact HD.kit_TooLarge_BadPaper c,
    by rw [c1]; exact HD.kit_NotAllowed_NotAllowed c, by rw [c2]; exact HD.kit_TooLarge_TooLarge c⟩
  have F1 := e1 ▸ HD.funC_of (p := ("_law_fits", none)) (e1 ▸ G.F_law_fits)
  have F2 := e2 ▸ HD.funC_of (p := ("_law_rules_fit", none)) (e2 ▸ G.F_law_rules_fit)
  have F3 := e3 ▸ HD.funC_of (p := ("_law_refuses", none)) (e3 ▸ G.F_law_refuses)
  have n1 := HD.ne_0_1 c
  have n2 := HD.ne_0_2 c
  have n3 := HD.ne_1_2 c
  have hcs : ∀ p ∈ HD.tf.map (cT K), ∃ q ∈ HD.tf, cT K q = p := fun p hp => List.mem_map.mp hp
  refine ⟨G.fd_law, HD.tf.map (cT K), spLaw (K := K) [((cT K ("_law_fits", none)).2, lq "_law_fits" s_law_fits G.f_law_fits (cT K ("_law_fits", none)).1), ((cT K ("_law_rules_fit", none)).2, lq "_law_rules_fit" s_law_rules_fit G.f_law_rules_fit (cT K ("_law_rules_fit", none)).1), ((cT K ("_law_refuses", none)).2, lq "_law_refuses" s_law_refuses G.f_law_refuses (cT K ("_law_refuses", none)).1)],
    fun p hp => ?_, fun p hp => ?_, fun p hp => ?_, fun s u => ?_, fun H a ns hl hb hH hS => ?_, fun base hK hN TB => ?_⟩
  · obtain ⟨q, hq, rfl⟩ := hcs p hp
    exact c.empty q hq
  · obtain ⟨q, hq, rfl⟩ := hcs p hp
    exact c.out q hq
  · obtain ⟨q, hq, rfl⟩ := hcs p hp
    exact PySem.W.codeHd_of_K X (c.hd q hq)
  · obtain ⟨oc, od, kV, doc, pm, an, cdv, ct, osl, e, lk, hcd⟩ := G.F_law.ex
    rw [e]
    exact .of_eq rfl
  · refine ⟨a, ns, rfl, hS, fun p hp => ?_, fun H' => rfl⟩
    simp only [List.mem_cons, List.not_mem_nil, or_false] at hp
    rcases hp with rfl | rfl | rfl
    · exact TabS.nil (hH (cT K ("_law_fits", none)) (List.mem_map_of_mem (by simp [HD.tf])))
    · exact TabS.nil (hH (cT K ("_law_rules_fit", none)) (List.mem_map_of_mem (by simp [HD.tf])))
    · exact TabS.nil (hH (cT K ("_law_refuses", none)) (List.mem_map_of_mem (by simp [HD.tf])))
  · have t1 := TB (cT K ("_law_fits", none)) (List.mem_map_of_mem (by simp [HD.tf]))
    have t2 := TB (cT K ("_law_rules_fit", none)) (List.mem_map_of_mem (by simp [HD.tf]))
    have t3 := TB (cT K ("_law_refuses", none)) (List.mem_map_of_mem (by simp [HD.tf]))
    refine ok_law (k := 0) G (ok_law_fits (k := 0) G R F1 t1 (by simp) fun p hp z => ?_) (ok_law_rules_fit (k := 0) G R F2 t2 (by simp) fun p hp z => ?_) (ok_law_refuses (k := 0) G R F3 t3 (by simp) fun p hp z => ?_)
    · simp only [List.mem_cons, List.not_mem_nil, or_false] at hp
      rcases hp with rfl | rfl | rfl
      · rfl
      · exact absurd z.symm n1
      · exact absurd z.symm n2
    · simp only [List.mem_cons, List.not_mem_nil, or_false] at hp
      rcases hp with rfl | rfl | rfl
      · exact absurd z n1
      · rfl
      · exact absurd z.symm n3
    · simp only [List.mem_cons, List.not_mem_nil, or_false] at hp
      rcases hp with rfl | rfl | rfl
      · exact absurd z n2
      · exact absurd z n3
      · rfl
end K38
open PySem PySem.W PySem.Calls PyProof.Rows
theorem PySem.Challenge.cw_callsproved_k38_whole_sentences_about_ne_holds : PySem.Challenge.rw_callsproved_k38_whole_sentences_about_ne.Holds := by
  w_on; o_law
  refine HandSHeadRun.head_any (r := OpenLaw.row PySem.Challenge.rw_callsproved_k38_whole_sentences_about_ne) (q := view (OpenLaw.row PySem.Challenge.rw_callsproved_k38_whole_sentences_about_ne).prog [49]) (H := K38.HD.hk) (ob := K38.HD.ob) (M := 20000) (loose := K38.HD.loose) (d := HandSHeadRun.topDef (OpenLaw.row PySem.Challenge.rw_callsproved_k38_whole_sentences_about_ne).prog 49) (kwd := []) K38.HD.ob_eq
    (by kernel_rfl) (fun s => by kernel_rfl) K38.HD.run (by kernel_rfl) (by kernel_rfl) (by kernel_rfl) (by rfl) (by first | assumption | decide +kernel) (by decide +kernel) ⟨rfl, rfl, rfl, rfl, rfl, by decide +kernel⟩ ?hw ?hc
  case hw => w_witness2
  case hc =>
    refine KR.walk_ofGE (l := PySem.Challenge.rw_callsproved_k38_whole_sentences_about_ne) (n := 63) (k := 15) (x := "script") (CX := fun _ => L2.CX0) rfl (by decide) (by kernel_rfl) ⟨rfl, by decide, by decide⟩ ?F (fun _ _ _ _ _ z => z)
    intro w mg fa h Y G hmg0
    obtain ⟨K, KX, c⟩ := Y
    have hmg : mg ("law" : PySem.Str) = some (.ref fa) := by
      have e : (HandSHeadRun.topDef (OpenLaw.row PySem.Challenge.rw_callsproved_k38_whole_sentences_about_ne).prog 49).name = ("law" : PySem.Str) := by kernel_rfl
      rw [← e]
      exact hmg0
    exact ⟨K, KX, K38.law_at KX G hmg c⟩
#print axioms PySem.Challenge.cw_callsproved_k38_whole_sentences_about_ne_holds
