import PyProof.Rows.All
import Wide.All
import OpenK.AllK
import Wide.FinOn
import HandS.ForMost
import HandS.Walk
import HandS.Star
import HandS.Conv
import HandS.Deep
import HandS.Style
import HandS.Property
import HandS.Defaults
import PySem.Challenge.RW_leftlogs_k68_whole_three_deeds_decide
import HandS.IsInst
import HandS.TupMul
import HandS.TupAny
import HandS.RaiseMore
import HandS.DictComp
import HandS.TupLen
import HandS.Zip
import HandS.Strs
import KE.SortData
import KE.GoesEnum
import HandS.DictTup
import KE.KDictCopyH
import HandS.Flow
import KE.KStateDown
import Lean
import HandS.Head0
import HandS.Head1
import HandS.Head2
import HandS.HeadEnd
import HandS.HeadHook1
import HandS.HeadHook2
import HandS.HeadHook3
import HandS.HeadHook4
section
set_option Elab.async false
set_option linter.all false
set_option maxRecDepth 100000
/-! Ll, the base: what is known of a value (Kn), readings judged over the known part of the heap (Ev, EvA, EvT, Src, Body). -/
namespace Ll
open PySem PySem.Spec PyProof.Rows L2

/-! ### heaps -/
/-- a dict's lock taken off -/
def core : HO → HO
  | .frz _ (.dK kvs) => .dK kvs
  | o => o
def Le (G G' : Hp) : Prop := ∀ a o, G a = some o → ∃ o', G' a = some o' ∧ core o' = core o
theorem core_eq {o o' : HO} (h : core o' = core o) (n : ∀ kvs, core o ≠ .dK kvs) : o' = o := by
  have key : ∀ z : HO, (∀ kvs, core z ≠ .dK kvs) → core z = z := by
    intro z hz
    cases z with
    | frz ob u => cases u with
      | dK kvs => exact absurd rfl (hz kvs)
      | _ => rfl
    | _ => rfl
  have e1 := key o n
  have e2 := key o' (fun kvs q => n kvs (h.symm.trans q))
  rw [← e1, ← e2, h]
theorem Le.refl (G : Hp) : Le G G := fun _ o h => ⟨o, h, rfl⟩
theorem Le.trans {G G1 G2 : Hp} (a : Le G G1) (b : Le G1 G2) : Le G G2 := fun x o h => by
  obtain ⟨o1, h1, e1⟩ := a x o h
  obtain ⟨o2, h2, e2⟩ := b x o1 h1
  exact ⟨o2, h2, e2.trans e1⟩
theorem le_same {G G' : Hp} (s : Same G G') : Le G G' := fun a o h => ⟨o, s a o h, rfl⟩
theorem Le.at {G G' : Hp} (l : Le G G') {a : Addr} {o : HO} (h : G a = some o) (n : ∀ kvs, core o ≠ .dK kvs) : G' a = some o := by
  obtain ⟨o', h1, e⟩ := l a o h
  rw [core_eq e n] at h1
  exact h1
theorem same_new {H : Hp} {p : Addr} {o : HO} (h : H p = none) : Same H (upd H p o) := fun b u e => by
  have : b ≠ p := ne_of_none e h
  rw [upd_ne this]
  exact e
theorem Le.lst {G G' : Hp} {a : Addr} {xs : List V} (l : Le G G') (h : G a = some (.lst xs)) : G' a = some (.lst xs) := l.at h fun _ q => nomatch q
theorem Le.tup {G G' : Hp} {a : Addr} {xs : List V} (l : Le G G') (h : G a = some (.tup xs)) : G' a = some (.tup xs) := l.at h fun _ q => nomatch q
mutual
/-- v is, in G, the data d: None, bools, ints, texts, lists and tuples of such -/
inductive Dq (G : Hp) : V → PyData → Prop
  | non : Dq G .non .none
  | bl (b : Bool) : Dq G (.bl b) (.bool b)
  | int (i : Int) : Dq G (.int i) (.int i)
  | str (x : Str) : Dq G (.str x) (.str x)
  | lst {a : Addr} {vs : List V} {ds : List PyData} (h : G a = some (.lst vs)) (r : DqAll G vs ds) : Dq G (.ref a) (.list ds)
  | tup {a : Addr} {vs : List V} {ds : List PyData} (h : G a = some (.tup vs)) (r : DqAll G vs ds) : Dq G (.ref a) (.tuple ds)
inductive DqAll (G : Hp) : List V → List PyData → Prop
  | nil : DqAll G [] []
  | cons {v : V} {vs : List V} {d : PyData} {ds : List PyData} (h : Dq G v d) (r : DqAll G vs ds) : DqAll G (v :: vs) (d :: ds)
end
mutual
theorem Dq.dp {K : PySem.W.Frag} {G : Hp} : ∀ {v : V} {d : PyData}, Dq G v d → Dp K G v d
  | _, _, .non => .non
  | _, _, .bl b => .bl b
  | _, _, .int i => .int i
  | _, _, .str x => .str x
  | _, _, .lst h r => .lst (.inl (.inl h)) (DqAll.dp r)
  | _, _, .tup h r => .tup (.inl (.inl h)) (DqAll.dp r)
theorem DqAll.dp {K : PySem.W.Frag} {G : Hp} : ∀ {vs : List V} {ds : List PyData}, DqAll G vs ds → DpAll K G vs ds
  | _, _, .nil => .nil
  | _, _, .cons h r => .cons h.dp (DqAll.dp r)
end
mutual
theorem le_dp {G G' : Hp} (l : Le G G') : ∀ {v : V} {d : PyData}, Dq G v d → Dq G' v d
  | _, _, .non => .non
  | _, _, .bl b => .bl b
  | _, _, .int i => .int i
  | _, _, .str x => .str x
  | _, _, .lst h r => .lst (l.lst h) (le_dps l r)
  | _, _, .tup h r => .tup (l.tup h) (le_dps l r)
theorem le_dps {G G' : Hp} (l : Le G G') : ∀ {vs : List V} {ds : List PyData}, DqAll G vs ds → DqAll G' vs ds
  | _, _, .nil => .nil
  | _, _, .cons h r => .cons (le_dp l h) (le_dps l r)
end

/-! ### what is known of a value -/
structure Kn where
  p : Hp → V → Prop
  mono : ∀ (G G' : Hp) (v : V), Le G G' → p G v → p G' v
def AllK (G : Hp) : List Kn → List V → Prop
  | [], [] => True
  | k :: ks, v :: vs => k.p G v ∧ AllK G ks vs
  | _, _ => False
theorem AllK.mono {G G' : Hp} (l : Le G G') : ∀ {ks : List Kn} {vs : List V}, AllK G ks vs → AllK G' ks vs
  | [], [], _ => trivial
  | k :: _, v :: _, h => ⟨k.mono G G' v l h.1, AllK.mono l h.2⟩
theorem AllK.len {G : Hp} : ∀ {ks : List Kn} {vs : List V}, AllK G ks vs → ks.length = vs.length
  | [], [], _ => rfl
  | _ :: _, _ :: _, h => congrArg (· + 1) (AllK.len h.2)
theorem AllK.get {G : Hp} : ∀ {ks : List Kn} {vs : List V} {i : Nat} {k : Kn}, AllK G ks vs → ks[i]? = some k → ∃ v, vs[i]? = some v ∧ k.p G v
  | [], _, _, _, _, e => by simp at e
  | _ :: _, [], _, _, h, _ => h.elim
  | k :: _, v :: _, 0, k', h, e => by
    have e' : k = k' := Option.some.inj e
    exact ⟨v, rfl, e' ▸ h.1⟩
  | _ :: ks, _ :: vs, i + 1, k', h, e => AllK.get (ks := ks) (vs := vs) h.2 (show ks[i]? = some k' from e)
theorem AllK.got {G : Hp} : ∀ {ks : List Kn} {vs : List V} {i : Nat} {v : V}, AllK G ks vs → vs[i]? = some v → ∃ k, ks[i]? = some k ∧ k.p G v
  | _, [], _, _, _, e => by simp at e
  | [], _ :: _, _, _, h, _ => h.elim
  | k :: _, v :: _, 0, v', h, e => by
    have e' : v = v' := Option.some.inj e
    exact ⟨k, rfl, e' ▸ h.1⟩
  | _ :: ks, _ :: vs, i + 1, v', h, e => AllK.got (ks := ks) (vs := vs) h.2 (show vs[i]? = some v' from e)
theorem AllK.app {G : Hp} {ls : List Kn} {ws : List V} (h' : AllK G ls ws) : ∀ {ks : List Kn} {vs : List V}, AllK G ks vs → AllK G (ks ++ ls) (vs ++ ws)
  | [], [], _ => h'
  | _ :: _, _ :: _, h => ⟨h.1, AllK.app h' h.2⟩

def kVal (v : V) : Kn := ⟨fun _ w => w = v, fun _ _ _ _ h => h⟩
def kI (R : Int → Prop) : Kn := ⟨fun _ w => ∃ i, w = .int i ∧ R i, fun _ _ _ _ h => h⟩
def kS (R : Str → Prop) : Kn := ⟨fun _ w => ∃ x, w = .str x ∧ R x, fun _ _ _ _ h => h⟩
def kD (d : PyData) : Kn := ⟨fun G w => Dq G w d, fun _ _ _ l h => le_dp l h⟩
def kT (ks : List Kn) : Kn := ⟨fun G w => ∃ a vs, w = .ref a ∧ G a = some (.tup vs) ∧ AllK G ks vs, fun _ _ _ l ⟨a, vs, e, h, r⟩ => ⟨a, vs, e, l.tup h, AllK.mono l r⟩⟩
def kL (ks : List Kn) : Kn := ⟨fun G w => ∃ a vs, w = .ref a ∧ G a = some (.lst vs) ∧ AllK G ks vs, fun _ _ _ l ⟨a, vs, e, h, r⟩ => ⟨a, vs, e, l.lst h, AllK.mono l r⟩⟩
/-- one of several things known -/
def kX {ι : Type} (S : ι → Prop) (f : ι → Kn) : Kn := ⟨fun G w => ∃ x, S x ∧ (f x).p G w, fun G G' w l ⟨x, s, h⟩ => ⟨x, s, (f x).mono G G' w l h⟩⟩
/-- a dict with keys ints and texts, locked or not -/
def kDic (kvs : List (Key × Kn)) : Kn :=
  ⟨fun G w => ∃ a o ps, w = .ref a ∧ G a = some o ∧ core o = .dK ps ∧ ps.map (·.1) = kvs.map (·.1) ∧ AllK G (kvs.map (·.2)) (ps.map (·.2)),
    fun G G' w l ⟨a, o, ps, e, h, c, m, r⟩ => by
      obtain ⟨o', h', e'⟩ := l a o h
      exact ⟨a, o', ps, e, h', e'.trans c, m, AllK.mono l r⟩⟩

theorem dps_all {G : Hp} : ∀ {vs : List V} {ds : List PyData}, DqAll G vs ds ↔ AllK G (ds.map (kD)) vs
  | [], [] => Iff.intro (fun _ => trivial) fun _ => .nil
  | [], _ :: _ => Iff.intro (fun h => nomatch h) fun h => False.elim h
  | _ :: _, [] => Iff.intro (fun h => nomatch h) fun h => False.elim h
  | v :: vs, d :: ds => Iff.intro (fun h => by cases h with | cons a b => exact ⟨a, dps_all.mp b⟩) fun h => .cons h.1 (dps_all.mpr h.2)
theorem kD_list {G : Hp} {v : V} {ds : List PyData} : (kD (.list ds)).p G v ↔ (kL (ds.map (kD))).p G v := by
  constructor
  · intro h
    cases h with
    | lst h r => exact ⟨_, _, rfl, h, dps_all.mp r⟩
  · rintro ⟨a, vs, rfl, h, r⟩
    exact .lst h (dps_all.mpr r)
theorem kD_tup {G : Hp} {v : V} {ds : List PyData} : (kD (.tuple ds)).p G v ↔ (kT (ds.map (kD))).p G v := by
  constructor
  · intro h
    cases h with
    | tup h r => exact ⟨_, _, rfl, h, dps_all.mp r⟩
  · rintro ⟨a, vs, rfl, h, r⟩
    exact .tup h (dps_all.mpr r)
theorem kD_int {G : Hp} {v : V} {i : Int} : (kD (.int i)).p G v ↔ v = .int i :=
  ⟨fun h => by cases h; rfl, fun h => by subst h; exact .int i⟩
theorem kD_str {G : Hp} {v : V} {x : Str} : (kD (.str x)).p G v ↔ v = .str x :=
  ⟨fun h => by cases h; rfl, fun h => by subst h; exact .str x⟩
theorem kD_bool {G : Hp} {v : V} {b : Bool} : (kD (.bool b)).p G v ↔ v = .bl b :=
  ⟨fun h => by cases h; rfl, fun h => by subst h; exact .bl b⟩
theorem kD_none {G : Hp} {v : V} : (kD .none).p G v ↔ v = .non :=
  ⟨fun h => by cases h; rfl, fun h => by subst h; exact .non⟩

/-! ### the known part grows -/
/-- what may change (mu), and what stays true of it (J, by a count) -/
structure Md where
  mu : Addr → Prop
  kp : Addr → Prop
  muk : ∀ a, mu a → kp a
  J : Nat → Hp → Prop
  st : ∀ n H H', J n H → (∀ a o, kp a → H a = some o → H' a = some o) → J n H'
  dom : ∀ n H a, J n H → kp a → H a ≠ none
  up : ∀ n n' H, n ≤ n' → J n H → J n' H
/-- nothing changes -/
def M0 : Md := ⟨fun _ => False, fun _ => False, fun _ h => h, fun _ _ => True, fun _ _ _ _ _ => trivial, fun _ _ _ _ h => h.elim, fun _ _ _ _ _ => trivial⟩
structure Gr (mu : Addr → Prop) (G H G2 H2 : Hp) : Prop where
  gg : Same G G2
  gh : Same G2 H2
  hh : ∀ a o, ¬ mu a → H a = some o → H2 a = some o
  nw : ∀ a, H a ≠ none → G a = none → G2 a = none
section
variable {mu : Addr → Prop} {G H G1 H1 G2 H2 : Hp}
theorem Gr.refl (s : Same G H) : Gr mu G H G H := ⟨Same.refl G, s, fun _ _ _ h => h, fun _ _ h => h⟩
theorem Gr.trans (a : Gr mu G H G1 H1) (dm : ∀ a, mu a → H1 a ≠ none) (b : Gr mu G1 H1 G2 H2) : Gr mu G H G2 H2 :=
  ⟨a.gg.trans b.gg, b.gh, fun x o n h => b.hh x o n (a.hh x o n h), fun x h n => b.nw x (by
    by_cases hm : mu x
    · exact dm x hm
    · cases e : H x with
      | none => exact absurd e h
      | some o => rw [a.hh x o hm e]; exact fun q => nomatch q) (a.nw x h n)⟩
theorem Gr.new {p : Addr} {o : HO} (s : Same G H) (hp : H p = none) : Gr mu G H (upd G p o) (upd H p o) := by
  have gp : G p = none := s.free hp
  refine ⟨same_new gp, fun a u h => ?_, fun a u _ h => same_new hp a u h, fun a h n => ?_⟩
  · by_cases e : a = p
    · subst e; rw [upd_same] at h ⊢; exact h
    · rw [upd_ne e] at h ⊢; exact s a u h
  · have e : a ≠ p := fun q => h (q ▸ hp)
    rw [upd_ne e]; exact n
/-- a pure step is a step -/
theorem Gr.of0 (a : Gr (fun _ => False) G H G1 H1) : Gr mu G H G1 H1 := ⟨a.gg, a.gh, fun x o _ h => a.hh x o (fun z => z) h, a.nw⟩
theorem Gr.same (a : Gr (fun _ => False) G H G1 H1) : Same H H1 := fun x o h => a.hh x o (fun z => z) h
theorem Gr.le (a : Gr mu G H G1 H1) : Le G G1 := le_same a.gg
end

/-! ### slots -/
abbrev Env := List (Option Kn)
structure EnvOk (G : Hp) (σ : L2.St) (Γ : Env) : Prop where
  len : σ.length = Γ.length
  get : ∀ (i : Nat) (k : Kn), Γ[i]? = some (some k) → ∃ v, σ[i]? = some (some v) ∧ k.p G v
theorem EnvOk.mono {G G' : Hp} {σ : L2.St} {Γ : Env} (e : EnvOk G σ Γ) (l : Le G G') : EnvOk G' σ Γ :=
  ⟨e.len, fun i k h => let ⟨v, h1, h2⟩ := e.get i k h; ⟨v, h1, k.mono G G' v l h2⟩⟩
theorem EnvOk.set {G : Hp} {σ : L2.St} {Γ : Env} (e : EnvOk G σ Γ) (i : Nat) {k : Kn} {v : V} (hi : i < Γ.length) (h : k.p G v) : EnvOk G (σ.set i (some v)) (Γ.set i (some k)) := by
  refine ⟨by rw [List.length_set, List.length_set, e.len], fun j k' h' => ?_⟩
  by_cases q : i = j
  · subst q
    rw [List.getElem?_set_self hi] at h'
    have : k = k' := Option.some.inj (Option.some.inj h')
    subst this
    exact ⟨v, by rw [List.getElem?_set_self (by rw [e.len]; exact hi)], h⟩
  · rw [List.getElem?_set_ne q] at h' ⊢
    exact e.get j k' h'
/-- a slot's knowledge made weaker, or another -/
theorem EnvOk.put {G : Hp} {σ : L2.St} {Γ : Env} (e : EnvOk G σ Γ) {i : Nat} {v : V} {k : Kn} (hv : σ[i]? = some (some v)) (h : k.p G v) : EnvOk G σ (Γ.set i (some k)) := by
  refine ⟨by rw [List.length_set, e.len], fun j k' h' => ?_⟩
  have hi : i < Γ.length := by
    have := (List.getElem?_eq_some_iff.mp hv).1
    rw [← e.len]; exact this
  by_cases q : i = j
  · subst q
    rw [List.getElem?_set_self hi] at h'
    have : k = k' := Option.some.inj (Option.some.inj h')
    subst this
    exact ⟨v, hv, h⟩
  · rw [List.getElem?_set_ne q] at h'
    exact e.get j k' h'
def wipeE (Γ : Env) : List Nat → Env
  | [] => Γ
  | v :: vs => (wipeE Γ vs).set v none
theorem EnvOk.wipe {G : Hp} {σ : L2.St} {Γ : Env} (e : EnvOk G σ Γ) : ∀ vs : List Nat, EnvOk G (L2.wipe σ vs) (wipeE Γ vs)
  | [] => e
  | v :: vs => by
    have ih := e.wipe vs
    refine ⟨by show ((L2.wipe σ vs).set v none).length = ((wipeE Γ vs).set v none).length; rw [List.length_set, List.length_set, ih.len], fun j k h => ?_⟩
    have h : ((wipeE Γ vs).set v none)[j]? = some (some k) := h
    show ∃ w, ((L2.wipe σ vs).set v none)[j]? = some (some w) ∧ _
    by_cases q : v = j
    · subst q
      by_cases hl : v < (wipeE Γ vs).length
      · rw [List.getElem?_set_self hl] at h; cases h
      · rw [List.getElem?_eq_none (by rw [List.length_set]; omega)] at h; cases h
    · rw [List.getElem?_set_ne q] at h ⊢
      exact ih.get j k h
theorem wipe_get {σ : L2.St} {i : Nat} : ∀ (vs : List Nat), i ∈ vs → i < σ.length → (L2.wipe σ vs)[i]? = some none
  | v :: vs, h, hl => by
    show ((L2.wipe σ vs).set v none)[i]? = _
    by_cases q : v = i
    · subst q; rw [List.getElem?_set_self (by rw [wipe_length]; exact hl)]
    · rw [List.getElem?_set_ne q]
      exact wipe_get vs ((List.mem_cons.mp h).resolve_left fun z => q z.symm) hl
theorem wipe_keep {σ : L2.St} {i : Nat} : ∀ (vs : List Nat), i ∉ vs → (L2.wipe σ vs)[i]? = σ[i]?
  | [], _ => rfl
  | v :: vs, h => by
    show ((L2.wipe σ vs).set v none)[i]? = _
    have q : v ≠ i := fun z => h (z ▸ List.mem_cons_self)
    rw [List.getElem?_set_ne q]
    exact wipe_keep vs fun z => h (List.mem_cons_of_mem _ z)
theorem wipe_ext {σ τ : L2.St} (vs : List Nat) (hl : σ.length = τ.length) (h : ∀ i, i ∉ vs → σ[i]? = τ[i]?) : L2.wipe σ vs = L2.wipe τ vs := by
  apply List.ext_getElem?
  intro i
  by_cases hi : i ∈ vs
  · by_cases hs : i < σ.length
    · rw [wipe_get vs hi hs, wipe_get vs hi (hl ▸ hs)]
    · rw [List.getElem?_eq_none (by rw [wipe_length]; omega), List.getElem?_eq_none (by rw [wipe_length]; omega)]
  · rw [wipe_keep vs hi, wipe_keep vs hi, h i hi]

structure Ctx (md : Md) (n : Nat) (G H : Hp) (σ : L2.St) (Γ : Env) : Prop where
  gh : Same G H
  j : md.J n H
  sep : ∀ a, md.mu a → G a = none
  env : EnvOk G σ Γ
section
variable {md : Md} {m n k : Nat} {G H G2 H2 : Hp} {σ : L2.St} {Γ : Env}
theorem Ctx.next (c : Ctx md m G H σ Γ) (g : Gr md.mu G H G2 H2) (j : md.J n H2) : Ctx md n G2 H2 σ Γ :=
  ⟨g.gh, j, fun a h => g.nw a (md.dom _ _ a c.j (md.muk a h)) (c.sep a h), c.env.mono g.le⟩
theorem Ctx.j0 (c : Ctx md m G H σ Γ) (g : Gr (fun _ => False) G H G2 H2) : md.J m H2 := md.st _ _ _ c.j fun a o _ h => g.same a o h
/-- a value, known by P, the heap grown -/
def Out (md : Md) (n : Nat) (G H : Hp) (P : Kn) (f : VK → Prop) : Prop := ∀ Q : VK, (∀ v H2 G2, Gr md.mu G H G2 H2 → md.J n H2 → P.p G2 v → Q v H2) → f Q
theorem Out.val {P : Kn} {f : VK → Prop} {v : V} (s : Same G H) (j : md.J n H) (h : P.p G v) (hf : ∀ Q : VK, Q v H → f Q) : Out md n G H P f := fun Q q => hf Q (q v H G (Gr.refl s) j h)
theorem Out.new {P : Kn} {f : VK → Prop} {o : HO} (s : Same G H) (j : md.J n H) (h : ∀ p, H p = none → P.p (upd G p o) (.ref p)) (hf : ∀ Q : VK, (∀ p, H p = none → Q (.ref p) (upd H p o)) → f Q) : Out md n G H P f := fun Q q =>
  hf Q fun p hp => q (.ref p) _ _ (Gr.new s hp) (md.st _ _ _ j fun a u _ e => same_new hp a u e) (h p hp)
theorem Out.imp {P P' : Kn} {f : VK → Prop} (h : Out md n G H P f) (i : ∀ G v, P.p G v → P'.p G v) : Out md n G H P' f := fun Q q => h Q fun v H2 G2 g j p => q v H2 G2 g j (i _ _ p)
def Ev (md : Md) (m n : Nat) (te : TE) (Γ : Env) (P : Kn) : Prop := ∀ G H σ, Ctx md m G H σ Γ → Out md n G H P (te σ H)
def EvA (md : Md) (m n : Nat) (ta : TA) (Γ : Env) (ks : List Kn) : Prop := ∀ G H σ, Ctx md m G H σ Γ → ∀ Q : List V → Hp → Prop, (∀ vs H2 G2, Gr md.mu G H G2 H2 → md.J n H2 → AllK G2 ks vs → Q vs H2) → ta σ H Q
def EvT (md : Md) (m n : Nat) (tt : TT) (Γ : Env) (S : Bool → Prop) : Prop := ∀ G H σ, Ctx md m G H σ Γ → ∀ Q : Bool → Hp → Prop, (∀ b H2 G2, Gr md.mu G H G2 H2 → md.J n H2 → S b → Q b H2) → tt σ H Q
theorem Ctx.dm (c : Ctx md m G H σ Γ) : ∀ a, md.mu a → H a ≠ none := fun a h => md.dom _ _ a c.j (md.muk a h)
theorem Ctx.dk (c : Ctx md m G H σ Γ) : ∀ a, md.kp a → H a ≠ none := fun a h => md.dom _ _ a c.j h
theorem Out.bind {md : Md} {n k : Nat} {G H : Hp} {P P' : Kn} {f : VK → Prop} {g : V → Hp → VK → Prop} (h : Out md n G H P f) (hg : ∀ v G2 H2, Gr md.mu G H G2 H2 → md.J n H2 → P.p G2 v → Out md k G2 H2 P' (g v H2))
    (Q : VK) (q : ∀ v H2 G2, Gr md.mu G H G2 H2 → md.J k H2 → P'.p G2 v → Q v H2) : f (fun v H2 => g v H2 Q) :=
  h _ fun v H2 G2 g1 j1 p1 => hg v G2 H2 g1 j1 p1 Q fun w H3 G3 g2 j2 p2 => q w H3 G3 (g1.trans (fun a z => md.dom _ _ a j1 (md.muk a z)) g2) j2 p2
end

/-! ### expressions -/
section
variable {md : Md} {m n k l : Nat} {Γ : Env} {K : PySem.W.Frag} {ta tb te tc : TE} {tt tu : TT} {P P1 P2 P3 : Kn}
theorem ev_var {i : Nat} (h : Γ[i]? = some (some P)) : Ev md n n (tVar i) Γ P := fun G H σ c => by
  obtain ⟨v, h1, h2⟩ := c.env.get i P h
  exact Out.val c.gh c.j h2 fun Q q => ⟨v, h1, q⟩
theorem ev_imp (h : Ev md m n te Γ P) (i : ∀ G v, P.p G v → P1.p G v) : Ev md m n te Γ P1 := fun G H σ c => (h G H σ c).imp i
theorem ev_up (h : Ev md m n te Γ P) {n' : Nat} (hn : n ≤ n') : Ev md m n' te Γ P := fun G H σ c Q q => h G H σ c Q fun v H2 G2 g j p => q v H2 G2 g (md.up _ _ _ hn j) p
theorem ev_c {v : V} (h : ∀ G, P.p G v) : Ev md n n (tC v) Γ P := fun G H σ c => Out.val c.gh c.j (h G) fun Q q => q
theorem ev_int {i : Int} : Ev md n n (tC (.int i)) Γ (kD (.int i)) := ev_c fun _ => .int i
theorem ev_str {x : Str} : Ev md n n (tC (.str x)) Γ (kD (.str x)) := ev_c fun _ => .str x
theorem ev_bl {b : Bool} : Ev md n n (tC (.bl b)) Γ (kD (.bool b)) := ev_c fun _ => .bl b
theorem ev_non : Ev md n n (tC .non) Γ (kD .none) := ev_c fun _ => .non
/-- two operands, then the operation on values -/
theorem ev_op {r : R2} (ha : Ev md m n ta Γ P1) (hb : Ev md n k tb Γ P2) (hr : ∀ G H x y, Same G H → md.J k H → P1.p G x → P2.p G y → Out md k G H P (r x y H)) : Ev md m k (tOp r ta tb) Γ P := fun G H σ c Q q =>
  ha G H σ c _ fun x H1 G1 g1 j1 p1 => hb G1 H1 σ (c.next g1 j1) _ fun y H2 G2 g2 j2 p2 =>
    hr G2 H2 x y g2.gh j2 (P1.mono _ _ _ g2.le p1) p2 Q fun v H3 G3 g3 j3 p3 =>
      q v H3 G3 ((g1.trans (fun a z => md.dom _ _ a j1 (md.muk a z)) g2).trans (fun a z => md.dom _ _ a j2 (md.muk a z)) g3) j3 p3
theorem ev_un {r : V → Hp → VK → Prop} (ha : Ev md m n ta Γ P1) (hr : ∀ G H x, Same G H → md.J n H → P1.p G x → Out md n G H P (r x H)) : Ev md m n (tUn r ta) Γ P := fun G H σ c Q q =>
  ha G H σ c _ fun x H1 G1 g1 j1 p1 => hr G1 H1 x g1.gh j1 p1 Q fun v H3 G3 g3 j3 p3 => q v H3 G3 (g1.trans (fun a z => md.dom _ _ a j1 (md.muk a z)) g3) j3 p3
/-- ints -/
theorem ev_i0 {g : Int → Int → V} {R1 R2 : Int → Prop} (ha : Ev md m n ta Γ (kI R1)) (hb : Ev md n k tb Γ (kI R2)) (hr : ∀ i j, R1 i → R2 j → ∀ G, P.p G (g i j)) : Ev md m k (tOp (rI0 g) ta tb) Γ P :=
  ev_op ha hb fun G H x y s j ⟨a, ea, ra⟩ ⟨b, eb, rb⟩ => Out.val s j (hr a b ra rb G) fun Q q => ⟨a, b, ea, eb, q⟩
theorem ev_i1 {C : Int → Int → Prop} {g : Int → Int → V} {R1 R2 : Int → Prop} (ha : Ev md m n ta Γ (kI R1)) (hb : Ev md n k tb Γ (kI R2)) (hc : ∀ i j, R1 i → R2 j → C i j) (hr : ∀ i j, R1 i → R2 j → ∀ G, P.p G (g i j)) : Ev md m k (tOp (rI C g) ta tb) Γ P :=
  ev_op ha hb fun G H x y s j ⟨a, ea, ra⟩ ⟨b, eb, rb⟩ => Out.val s j (hr a b ra rb G) fun Q q => ⟨a, b, ea, eb, hc a b ra rb, q⟩
theorem ev_asI {i : Int} (h : Ev md m n te Γ (kD (.int i))) : Ev md m n te Γ (kI (· = i)) := ev_imp h fun _ _ p => ⟨i, kD_int.mp p, rfl⟩
theorem ev_ofI {i : Int} (h : Ev md m n te Γ (kI (· = i))) : Ev md m n te Γ (kD (.int i)) := ev_imp h fun _ _ ⟨j, e, r⟩ => kD_int.mpr (r ▸ e)
/-- argument lists, displays -/
theorem ea_nil : EvA md n n tNil Γ [] := fun G H σ c Q q => q [] H G (Gr.refl c.gh) c.j trivial
theorem ea_cons {tr : TA} {ks : List Kn} (h : Ev md m n te Γ P) (hr : EvA md n k tr Γ ks) : EvA md m k (tCons te tr) Γ (P :: ks) := fun G H σ c Q q =>
  h G H σ c _ fun v H1 G1 g1 j1 p1 => hr G1 H1 σ (c.next g1 j1) _ fun vs H2 G2 g2 j2 p2 => q (v :: vs) H2 G2 (g1.trans (fun a z => md.dom _ _ a j1 (md.muk a z)) g2) j2 ⟨P.mono _ _ _ g2.le p1, p2⟩
theorem ea_star {tr : TA} {ks ls : List Kn} (h : Ev md m n te Γ P) (hp : ∀ G v, P.p G v → (kT ks).p G v ∨ (kL ks).p G v) (hr : EvA md n k tr Γ ls) : EvA md m k (StX.tStar K te tr) Γ (ks ++ ls) := fun G H σ c Q q =>
  h G H σ c _ fun v H1 G1 g1 j1 p1 => by
    have fin : ∀ xs, AllK G1 ks xs → tr σ H1 (fun ys H2 => Q (xs ++ ys) H2) := fun xs ax => hr G1 H1 σ (c.next g1 j1) _ fun vs H2 G2 g2 j2 p2 =>
      q (xs ++ vs) H2 G2 (g1.trans (fun a z => md.dom _ _ a j1 (md.muk a z)) g2) j2 (AllK.app p2 (AllK.mono g2.le ax))
    rcases hp G1 v p1 with ⟨a, xs, rfl, hs, ax⟩ | ⟨a, xs, rfl, hs, ax⟩
    · exact ⟨a, xs, rfl, .inl (SqT.of (g1.gh _ _ hs)), fin xs ax⟩
    · exact ⟨a, xs, rfl, .inr (SqL.of (g1.gh _ _ hs)), fin xs ax⟩
theorem ev_tup {t : TA} {ks : List Kn} (h : EvA md m n t Γ ks) (hl : ks.length ≤ 100000) : Ev md m n (tTup t) Γ (kT ks) := fun G H σ c Q q =>
  h G H σ c _ fun vs H1 G1 g1 j1 p1 => by
    refine ⟨by rw [← AllK.len p1]; exact Nat.le_trans hl (by decide), fun p hp => ?_⟩
    refine q _ _ _ (g1.trans (fun a z => md.dom _ _ a j1 (md.muk a z)) (Gr.new g1.gh hp)) (md.st _ _ _ j1 fun a u _ e => same_new hp a u e) ⟨p, vs, rfl, upd_same, ?_⟩
    exact AllK.mono (le_same (same_new (g1.gh.free hp))) p1
theorem ev_lst {t : TA} {ks : List Kn} (h : EvA md m n t Γ ks) (hl : ks.length ≤ 100000) : Ev md m n (tLst t) Γ (kL ks) := fun G H σ c Q q =>
  h G H σ c _ fun vs H1 G1 g1 j1 p1 => by
    refine ⟨by rw [← AllK.len p1]; exact Nat.le_trans hl (by decide), fun p hp => ?_⟩
    refine q _ _ _ (g1.trans (fun a z => md.dom _ _ a j1 (md.muk a z)) (Gr.new g1.gh hp)) (md.st _ _ _ j1 fun a u _ e => same_new hp a u e) ⟨p, vs, rfl, upd_same, ?_⟩
    exact AllK.mono (le_same (same_new (g1.gh.free hp))) p1
theorem ev_ofT {ds : List PyData} (h : Ev md m n te Γ (kT (ds.map (kD)))) : Ev md m n te Γ (kD (.tuple ds)) := ev_imp h fun _ _ p => kD_tup.mpr p
theorem ev_asT {ds : List PyData} (h : Ev md m n te Γ (kD (.tuple ds))) : Ev md m n te Γ (kT (ds.map (kD))) := ev_imp h fun _ _ p => kD_tup.mp p
theorem ev_ofL {ds : List PyData} (h : Ev md m n te Γ (kL (ds.map (kD)))) : Ev md m n te Γ (kD (.list ds)) := ev_imp h fun _ _ p => kD_list.mpr p
theorem ev_asL {ds : List PyData} (h : Ev md m n te Γ (kD (.list ds))) : Ev md m n te Γ (kL (ds.map (kD))) := ev_imp h fun _ _ p => kD_list.mp p
/-- a call of a value that is known -/
theorem ev_cb {r : List V → Hp → VK → Prop} {t : TA} {ks : List Kn} (h : EvA md m n t Γ ks) (hr : ∀ G H vs, Same G H → md.J n H → AllK G ks vs → Out md n G H P (r vs H)) : Ev md m n (tCB r t) Γ P := fun G H σ c Q q =>
  h G H σ c _ fun vs H1 G1 g1 j1 p1 => hr G1 H1 vs g1.gh j1 p1 Q fun v H3 G3 g3 j3 p3 => q v H3 G3 (g1.trans (fun a z => md.dom _ _ a j1 (md.muk a z)) g3) j3 p3
theorem ev_if {S : Bool → Prop} (h : EvT md m n tt Γ S) (h1 : S true → Ev md n k ta Γ P) (h2 : S false → Ev md n k tb Γ P) : Ev md m k (tIf tt ta tb) Γ P := fun G H σ c Q q =>
  h G H σ c _ fun b H1 G1 g1 j1 s => by
    have fin : ∀ v H2 G2, Gr md.mu G1 H1 G2 H2 → md.J k H2 → P.p G2 v → Q v H2 := fun v H2 G2 g2 j2 p2 => q v H2 G2 (g1.trans (fun a z => md.dom _ _ a j1 (md.muk a z)) g2) j2 p2
    cases b with
    | true => exact h1 s G1 H1 σ (c.next g1 j1) Q fin
    | false => exact h2 s G1 H1 σ (c.next g1 j1) Q fin

/-! ### tests -/
theorem et_imp {S S' : Bool → Prop} (h : EvT md m n tt Γ S) (i : ∀ b, S b → S' b) : EvT md m n tt Γ S' := fun G H σ c Q q => h G H σ c Q fun b H2 G2 g j s => q b H2 G2 g j (i b s)
theorem et_test {b : Bool} (h : Ev md m n te Γ (kD (.bool b))) : EvT md m n (tTest te) Γ (· = b) := fun G H σ c Q q =>
  h G H σ c _ fun v H1 G1 g1 j1 p1 => ⟨b, kD_bool.mp p1, q b H1 G1 g1 j1 rfl⟩
theorem et_tB {b : Bool} (h : Ev md m n te Γ (kD (.bool b))) : EvT md m n (tB te) Γ (· = b) := fun G H σ c Q q =>
  h G H σ c _ fun v H1 G1 g1 j1 p1 => ⟨b, kD_bool.mp p1, q b H1 G1 g1 j1 rfl⟩
/-- a test by an operation on two values, answer c -/
theorem et_op {r : R2} {S : Bool → Prop} (ha : Ev md m n ta Γ P1) (hb : Ev md n k tb Γ P2) (hr : ∀ G H x y, Same G H → P1.p G x → P2.p G y → ∃ c, S c ∧ ∀ Q : VK, Q (.bl c) H → r x y H Q) : EvT md m k (tTest (tOp r ta tb)) Γ S := fun G H σ c Q q =>
  ha G H σ c _ fun x H1 G1 g1 j1 p1 => hb G1 H1 σ (c.next g1 j1) _ fun y H2 G2 g2 j2 p2 => by
    obtain ⟨d, sd, hd⟩ := hr G2 H2 x y g2.gh (P1.mono _ _ _ g2.le p1) p2
    exact hd _ ⟨d, rfl, q d H2 G2 (g1.trans (fun a z => md.dom _ _ a j1 (md.muk a z)) g2) j2 sd⟩
theorem et_and {S T : Bool → Prop} (h1 : EvT md m n tt Γ S) (h2 : S true → EvT md n k tu Γ T) (hk : n ≤ k) : EvT md m k (tAnd tt tu) Γ (fun b => (S false ∧ b = false) ∨ (S true ∧ T b)) := fun G H σ c Q q =>
  h1 G H σ c _ fun b H1 G1 g1 j1 s => by
    cases b with
    | true => exact h2 s G1 H1 σ (c.next g1 j1) Q fun b H2 G2 g2 j2 t => q b H2 G2 (g1.trans (fun a z => md.dom _ _ a j1 (md.muk a z)) g2) j2 (.inr ⟨s, t⟩)
    | false => exact q false H1 G1 g1 (md.up _ _ _ hk j1) (.inl ⟨s, rfl⟩)
theorem et_or {S T : Bool → Prop} (h1 : EvT md m n tt Γ S) (h2 : S false → EvT md n k tu Γ T) (hk : n ≤ k) : EvT md m k (tOr tt tu) Γ (fun b => (S true ∧ b = true) ∨ (S false ∧ T b)) := fun G H σ c Q q =>
  h1 G H σ c _ fun b H1 G1 g1 j1 s => by
    cases b with
    | false => exact h2 s G1 H1 σ (c.next g1 j1) Q fun b H2 G2 g2 j2 t => q b H2 G2 (g1.trans (fun a z => md.dom _ _ a j1 (md.muk a z)) g2) j2 (.inr ⟨s, t⟩)
    | true => exact q true H1 G1 g1 (md.up _ _ _ hk j1) (.inl ⟨s, rfl⟩)
theorem et_not {S : Bool → Prop} (h : EvT md m n tt Γ S) : EvT md m n (tNot tt) Γ (fun b => S (!b)) := fun G H σ c Q q =>
  h G H σ c _ fun b H1 G1 g1 j1 s => q (!b) H1 G1 g1 j1 (by simpa using s)
theorem et_yes : EvT md n n tYes Γ (· = true) := fun G H σ c Q q => q true H G (Gr.refl c.gh) c.j rfl
end
end Ll
end

section
set_option Elab.async false
set_option linter.all false
set_option maxRecDepth 100000
set_option maxHeartbeats 1000000
/-! Ll: what is walked (Src), targets (Tgt), comprehensions, bodies, promises. -/
namespace Ll
open PySem PySem.Spec PyProof.Rows L2

/-- J's turns: ks tells what is known of each item -/
def Wk (J : It) (ks : List Kn) (G2 : Hp) : Prop :=
  ∃ Y, Walk J ks.length (fun H => Same G2 H) Y ∧ ∀ i k H x H' Gc, ks[i]? = some k → Same G2 Gc → Same Gc H → Y i H x H' → ∃ G3, Gr (fun _ => False) Gc H G3 H' ∧ k.p G3 x
def Src (md : Md) (m n : Nat) (wi : TI) (Γ : Env) (ks : List Kn) : Prop :=
  ∀ G H σ, Ctx md m G H σ Γ → ∀ R : It → Hp → Prop, (∀ J H2 G2, Gr md.mu G H G2 H2 → md.J n H2 → Wk J ks G2 → R J H2) → wi σ H R
def Tgt (g : TG) (k : Kn) (Γ Γ' : Env) (js : List Nat) : Prop := ∀ G H σ x, Same G H → EnvOk G σ Γ → k.p G x → ∀ R : L2.St → Hp → Prop,
  (∀ σ', EnvOk G σ' Γ' → σ'.length = σ.length → (∀ i, i ∉ js → σ'[i]? = σ[i]?) → R σ' H) → g x σ H R
section
variable {md : Md} {m n k : Nat} {Γ Γ' : Env} {K : PySem.W.Frag} {te tl : TE} {ta : TA} {P : Kn} {ks : List Kn}
theorem wk_seq {J : It} {xs : List V} {G : Hp} (w : ∀ H, Same G H → Walk J xs.length (fun H' => Same G H') (YAt xs)) (h : AllK G ks xs) : Wk J ks G := by
  refine ⟨YAt xs, AllK.len h ▸ w G (Same.refl G), fun i k H x H' Gc hk s1 s2 ⟨e1, e2⟩ => ?_⟩
  subst e1
  obtain ⟨v, hv, pv⟩ := AllK.get h hk
  have : v = x := Option.some.inj (hv.symm.trans e2)
  subst this
  exact ⟨Gc, Gr.refl s2, k.mono _ _ _ (le_same s1) pv⟩
theorem src_list (h : Ev md m n tl Γ (kL ks)) : Src md m n (iList K tl) Γ ks := fun G H σ c R r =>
  h G H σ c _ fun v H1 G1 g1 j1 ⟨a, xs, e, hs, ax⟩ => ⟨a, e, ⟨xs, SqL.of (g1.gh _ _ hs)⟩, r _ H1 G1 g1 j1 (wk_seq (fun H _ => (walk_list (K := K) (a := a) (xs := xs)).mono (fun H s => SqL.of (s _ _ hs)) fun _ _ _ _ _ _ y => y) ax)⟩
theorem src_tup (h : Ev md m n tl Γ (kT ks)) : Src md m n (iTup K tl) Γ ks := fun G H σ c R r =>
  h G H σ c _ fun v H1 G1 g1 j1 ⟨a, xs, e, hs, ax⟩ => ⟨a, e, ⟨xs, SqT.of (g1.gh _ _ hs)⟩, r _ H1 G1 g1 j1 (wk_seq (fun H _ => (walk_tup (K := K) (a := a) (xs := xs)).mono (fun H s => SqT.of (s _ _ hs)) fun _ _ _ _ _ _ y => y) ax)⟩
def kRange (n : Nat) : List Kn := (List.range n).map fun i => kD (.int (i : Nat))
theorem kRange_len {n : Nat} : (kRange n).length = n := by unfold kRange; simp
theorem kRange_get {n i : Nat} {k : Kn} (h : (kRange n)[i]? = some k) : i < n ∧ k = kD (.int (i : Nat)) := by
  unfold kRange at h
  rw [List.getElem?_map] at h
  by_cases hi : i < n
  · rw [List.getElem?_range hi] at h
    exact ⟨hi, (Option.some.inj h).symm⟩
  · rw [List.getElem?_eq_none (by simpa using hi)] at h
    cases h
theorem src_range {j : Nat} (h : EvA md m n ta Γ [kD (.int (j : Nat))]) (hj : j ≤ 1000000) : Src md m n (iRng1 ta) Γ (kRange j) := fun G H σ c R r =>
  h G H σ c _ fun vs H1 G1 g1 j1 ax => by
    cases vs with
    | nil => exact ax.elim
    | cons v vs =>
      cases vs with
      | cons _ _ => exact ax.2.elim
      | nil =>
        have e := kD_int.mp ax.1
        subst e
        refine ⟨(j : Nat), rfl, by omega, by omega, r _ H1 G1 g1 j1 ⟨YFn fun i => .int (0 + (i : Nat)), ?_, fun i k H x H' Gc hk s1 s2 ⟨e1, e2⟩ => ?_⟩⟩
        · rw [kRange_len]
          exact (walk_range (lo := 0) (n := j)).mono (fun _ _ => trivial) fun _ _ _ _ _ _ y => y
        · subst e1 e2
          obtain ⟨_, rfl⟩ := kRange_get hk
          refine ⟨Gc, Gr.refl s2, kD_int.mpr ?_⟩
          show V.int (0 + (i : Int)) = V.int (i : Nat)
          rw [Int.zero_add]
/-- enumerate(list) -/
def kEnum (ks : List Kn) : List Kn := ks.mapIdx fun i k => kT [kD (.int (i : Nat)), k]
theorem kEnum_len : (kEnum ks).length = ks.length := by unfold kEnum; simp
theorem kEnum_get {i : Nat} {k : Kn} (h : (kEnum ks)[i]? = some k) : ∃ k', ks[i]? = some k' ∧ k = kT [kD (.int (i : Nat)), k'] := by
  unfold kEnum at h
  rw [List.getElem?_mapIdx] at h
  cases e : ks[i]? with
  | none => rw [e] at h; cases h
  | some k' => rw [e] at h; exact ⟨k', rfl, (Option.some.inj h).symm⟩
theorem src_enum (h : EvA md m n ta Γ [kL ks]) : Src md m n (iEnum K ta) Γ (kEnum ks) := fun G H σ c R r =>
  h G H σ c _ fun vs H1 G1 g1 j1 ax => by
    cases vs with
    | nil => exact ax.elim
    | cons v vs =>
      cases vs with
      | cons _ _ => exact ax.2.elim
      | nil =>
        obtain ⟨a, xs, rfl, hs, al⟩ := ax.1
        refine ⟨a, xs, rfl, SqL.of (g1.gh _ _ hs), r _ H1 G1 g1 j1 ⟨YPair (fun i => some (.int (i : Nat))) (fun i => xs[i]?), ?_, fun i k H x H' Gc hk s1 s2 y => ?_⟩⟩
        · rw [kEnum_len, AllK.len al]
          exact (walk_enum (K := K) (a := a) (xs := xs)).mono (fun H s => SqL.of (s _ _ hs)) fun _ _ _ _ _ _ y => y
        · obtain ⟨k', hk', rfl⟩ := kEnum_get hk
          obtain ⟨T, x1, x2, rfl, hT, rfl, e1, e2⟩ := y
          obtain ⟨w, hw, pw⟩ := AllK.get al hk'
          have : w = x2 := Option.some.inj (hw.symm.trans e2)
          subst this
          have : V.int (i : Nat) = x1 := Option.some.inj e1
          subst this
          have gT : Gc T = none := s2.free hT
          exact ⟨upd Gc T (.tup [.int (i : Nat), w]), Gr.new s2 hT, T, _, rfl, upd_same, .int _, k'.mono _ _ _ (le_same (s1.trans (same_new gT))) pw, trivial⟩
theorem tgt_name {j : Nat} {k : Kn} (hj : j < Γ.length) : Tgt (gName j) k Γ (Γ.set j (some k)) [j] := fun G H σ x s e p R r =>
  r _ (e.set j hj p) (by rw [List.length_set]) fun i hi => List.getElem?_set_ne fun (q : j = i) => hi (by simp [q])
theorem tgt_two {i j : Nat} {k1 k2 : Kn} (hi : i < Γ.length) (hj : j < Γ.length) : Tgt (gTup K 2 (gCons (gName i) (gCons (gName j) gNil))) (kT [k1, k2]) Γ ((Γ.set i (some k1)).set j (some k2)) [i, j] := fun G H σ x s e p R r => by
  obtain ⟨a, vs, rfl, hs, ax⟩ := p
  match vs, ax with
  | [v1, v2], ⟨p1, p2, _⟩ =>
    refine ⟨a, _, rfl, SqT.of (s _ _ hs), rfl, v1, [v2], rfl, v2, [], rfl, rfl, r _ ((e.set i hi p1).set j (by rw [List.length_set]; exact hj) p2) (by rw [List.length_set, List.length_set]) fun l hl => ?_⟩
    have n1 : i ≠ l := fun q => hl (by simp [q])
    have n2 : j ≠ l := fun q => hl (by simp [q])
    rw [List.getElem?_set_ne n2, List.getElem?_set_ne n1]

/-! ### comprehensions -/
theorem ev_lc {wi : TI} {g : TG} {tt : TT} {vs js : List Nat} {n0 : Nat} (src : Src md m n0 wi Γ ks) (hz : ks.length ≤ 1000000) (Γx : Nat → Env)
    (tgt : ∀ i k, ks[i]? = some k → Tgt g k (wipeE Γ vs) (Γx i) js) (hjs : ∀ j ∈ js, j ∈ vs) (cst : Nat → Nat) (c0 : n0 = cst 0) (Res : Nat → List Kn → Prop) (r0 : Res 0 [])
    (turn : ∀ i k acc, ks[i]? = some k → Res i acc → ∃ (S : Bool → Prop) (mid : Nat), EvT md (cst i) mid tt (Γx i) S ∧ (S true → ∃ P, Ev md mid (cst (i + 1)) te (Γx i) P ∧ Res (i + 1) (acc ++ [P])) ∧ (S false → mid ≤ cst (i + 1) ∧ Res (i + 1) acc)) :
    Ev md m (cst ks.length) (tLc wi g tt te vs) Γ (kX (Res ks.length) kL) := fun G H σ c Q q =>
  src G H σ c _ fun J H1 G1 g1 j1 ⟨Y, w, y⟩ => fun D hD => by
    have c1 : Ctx md n0 G1 H1 σ Γ := c.next g1 j1
    have G1D : G1 D = none := g1.gh.free hD
    have nkp : ¬ md.kp D := fun z => c1.dk D z hD
    have nmu : ¬ md.mu D := fun z => nkp (md.muk D z)
    refine lc_it w (fun i H' => ∃ G' xs acc, Gr md.mu G1 H1 G' H' ∧ md.J (cst i) H' ∧ G' D = none ∧ H' D = some (.lst xs) ∧ AllK G' acc xs ∧ Res i acc ∧ xs.length ≤ i) ?_ ?_ ?_ ?_
    · refine ⟨G1, [], [], ⟨Same.refl G1, fun a o h => ?_, fun a o _ h => ?_, fun _ _ h => h⟩, ?_, G1D, upd_same, trivial, r0, Nat.le_refl _⟩
      · rw [upd_ne (ne_of_none h G1D)]; exact g1.gh a o h
      · rw [upd_ne (ne_of_none h hD)]; exact h
      · rw [← c0]
        exact md.st _ _ _ j1 fun a o _ h => by rw [upd_ne (ne_of_none h hD)]; exact h
    · rintro i H' _ ⟨G', xs, acc, gr, _⟩
      exact gr.gg.trans gr.gh
    · rintro i x H' H'' hi ⟨G', xs, acc, gr, jr, G'D, hxs, ax, res, hlen⟩ hy
      obtain ⟨k, hk⟩ : ∃ k, ks[i]? = some k := ⟨ks[i], by simp [hi]⟩
      obtain ⟨G3, g3, px⟩ := y i k H' x H'' G' hk gr.gg gr.gh hy
      have G3D : G3 D = none := g3.nw D (by rw [hxs]; exact fun z => nomatch z) G'D
      have H3D : H'' D = some (.lst xs) := g3.same D _ hxs
      have j3 : md.J (cst i) H'' := md.st _ _ _ jr fun a o _ h => g3.same a o h
      have e3 : EnvOk G3 (L2.wipe σ vs) (wipeE Γ vs) := (c1.env.mono (le_same (gr.gg.trans g3.gg))).wipe vs
      refine tgt i k hk G3 H'' _ x g3.gh e3 px _ fun σ2 e2 hl hk2 => ⟨?_, ?_⟩
      · refine (wipe_ext vs hl fun j hj => hk2 j fun z => hj (hjs j z)).trans ?_
        exact wipe_ext vs (by rw [wipe_length]) fun j hj => wipe_keep vs hj
      · have c3 : Ctx md (cst i) G3 H'' σ2 (Γx i) := ⟨g3.gh, j3, fun a z => by
          have : G' a = none := gr.nw a (c1.dm a z) (c1.sep a z)
          exact g3.nw a (md.dom _ _ a jr (md.muk a z)) this, e2⟩
        obtain ⟨S, mid, ht, h1, h2⟩ := turn i k acc hk res
        refine ht G3 H'' σ2 c3 _ fun b H4 G4 g4 j4 sb => ?_
        have G4D : G4 D = none := g4.nw D (by rw [H3D]; exact fun z => nomatch z) G3D
        have H4D : H4 D = some (.lst xs) := g4.hh D _ nmu H3D
        have dm' : ∀ a, md.mu a → H' a ≠ none := fun a z => md.dom _ _ a jr (md.muk a z)
        have dm3 : ∀ a, md.mu a → H'' a ≠ none := fun a z => md.dom _ _ a j3 (md.muk a z)
        have gr3 := gr.trans dm' (g3.of0 (mu := md.mu))
        have gr4 := gr3.trans dm3 g4
        cases b with
        | false =>
          obtain ⟨hm, hr⟩ := h2 sb
          exact ⟨G4, xs, acc, gr4, md.up _ _ _ hm j4, G4D, H4D, AllK.mono (le_same (g3.gg.trans g4.gg)) ax, hr, Nat.le_succ_of_le hlen⟩
        | true =>
          obtain ⟨P, hP, hr⟩ := h1 sb
          refine hP G4 H4 σ2 (c3.next g4 j4) _ fun v H5 G5 g5 j5 pv => ?_
          have G5D : G5 D = none := g5.nw D (by rw [H4D]; exact fun z => nomatch z) G4D
          have H5D : H5 D = some (.lst xs) := g5.hh D _ nmu H4D
          have gr5 := gr4.trans (fun a z => md.dom _ _ a j4 (md.muk a z)) g5
          refine ⟨xs, H5D, Nat.lt_of_lt_of_le (by omega : xs.length < 1000001) (by decide), G5, xs ++ [v], acc ++ [P], ⟨gr5.gg, fun a o h => ?_, fun a o hn h => ?_, gr5.nw⟩, ?_, G5D, upd_same, AllK.app (show AllK G5 [P] [v] from ⟨pv, trivial⟩) (AllK.mono (le_same ((g3.gg.trans g4.gg).trans g5.gg)) ax), hr, by simp; omega⟩
          · rw [upd_ne (ne_of_none h G5D)]; exact gr5.gh a o h
          · rw [upd_ne (ne_of_none h hD)]; exact gr5.hh a o hn h
          · refine md.st _ _ _ j5 fun a o z h => ?_
            have na : a ≠ D := fun q => nkp (by rw [← q]; exact z)
            rw [upd_ne na]; exact h
    · rintro H' ⟨G', xs, acc, gr, jr, G'D, hxs, ax, res, _⟩
      refine q _ H' (upd G' D (.lst xs)) (g1.trans (fun a z => md.dom _ _ a j1 (md.muk a z)) ⟨gr.gg.trans (same_new G'D), fun a o h => ?_, gr.hh, fun a h z => ?_⟩) jr ⟨acc, res, D, xs, rfl, upd_same, AllK.mono (le_same (same_new G'D)) ax⟩
      · by_cases e : a = D
        · subst e; rw [upd_same] at h; cases h; exact hxs
        · rw [upd_ne e] at h; exact gr.gh a o h
      · have na : a ≠ D := fun e => h (by rw [e]; exact hD)
        rw [upd_ne na]; exact gr.nw a h z
/-- each item's element, no test -/
theorem ev_lcm {wi : TI} {g : TG} {vs js : List Nat} {n0 : Nat} (src : Src md m n0 wi Γ ks) (hz : ks.length ≤ 1000000) (Γx : Nat → Env)
    (tgt : ∀ i k, ks[i]? = some k → Tgt g k (wipeE Γ vs) (Γx i) js) (hjs : ∀ j ∈ js, j ∈ vs) (c : Nat) (ps : Nat → Kn)
    (turn : ∀ i k, ks[i]? = some k → Ev md (n0 + i * c) (n0 + (i + 1) * c) te (Γx i) (ps i)) :
    Ev md m (n0 + ks.length * c) (tLc wi g tYes te vs) Γ (kL ((List.range ks.length).map ps)) := by
  refine ev_imp (ev_lc (te := te) src hz Γx tgt hjs (fun i => n0 + i * c) (by simp) (fun i acc => acc = (List.range i).map ps) rfl fun i k acc hk e => ⟨_, _, et_yes, fun _ => ⟨ps i, turn i k hk, by rw [e, List.range_succ, List.map_append]; rfl⟩, fun z => nomatch z⟩) ?_
  rintro G v ⟨acc, rfl, h⟩
  exact h
/-- with a test that is decided -/
theorem ev_lcf {wi : TI} {g : TG} {tt : TT} {vs js : List Nat} {n0 : Nat} (src : Src md m n0 wi Γ ks) (hz : ks.length ≤ 1000000) (Γx : Nat → Env)
    (tgt : ∀ i k, ks[i]? = some k → Tgt g k (wipeE Γ vs) (Γx i) js) (hjs : ∀ j ∈ js, j ∈ vs) (b : Nat → Bool) (ps : Nat → Kn)
    (test : ∀ i k, ks[i]? = some k → EvT md n0 n0 tt (Γx i) (· = b i)) (turn : ∀ i k, ks[i]? = some k → b i = true → Ev md n0 n0 te (Γx i) (ps i)) :
    Ev md m n0 (tLc wi g tt te vs) Γ (kL (((List.range ks.length).filter b).map ps)) := by
  refine ev_imp (ev_lc (te := te) src hz Γx tgt hjs (fun _ => n0) rfl (fun i acc => acc = ((List.range i).filter b).map ps) rfl fun i k acc hk e => ⟨_, _, test i k hk, fun z => ⟨ps i, turn i k hk z.symm, ?_⟩, fun z => ⟨Nat.le_refl _, ?_⟩⟩) ?_
  · rw [e, List.range_succ, List.filter_append, List.map_append]
    simp [← z]
  · rw [e, List.range_succ, List.filter_append, List.map_append]
    simp [← z]
  · rintro G v ⟨acc, rfl, h⟩
    exact h
end

/-! ### bodies -/
structure At (md : Md) (n : Nat) (G0 H0 G H : Hp) (σ : L2.St) (Γ : Env) : Prop where
  gr : Gr md.mu G0 H0 G H
  c : Ctx md n G H σ Γ
theorem At.next {md : Md} {m n : Nat} {G0 H0 G H G2 H2 : Hp} {σ : L2.St} {Γ : Env} (a : At md m G0 H0 G H σ Γ) (g : Gr md.mu G H G2 H2) (j : md.J n H2) : At md n G0 H0 G2 H2 σ Γ :=
  ⟨a.gr.trans a.c.dm g, a.c.next g j⟩
theorem At.set {md : Md} {n : Nat} {G0 H0 G H : Hp} {σ : L2.St} {Γ : Env} (a : At md n G0 H0 G H σ Γ) {i : Nat} {v : V} {k : Kn} (hi : i < Γ.length) (h : k.p G v) : At md n G0 H0 G H (σ.set i (some v)) (Γ.set i (some k)) :=
  ⟨a.gr, a.c.gh, a.c.j, a.c.sep, a.c.env.set i hi h⟩
def Body (md : Md) (m n : Nat) (ts : TS) (Γ : Env) (P : Kn) : Prop := ∀ G0 H0 G H σ, At md m G0 H0 G H σ Γ → ∀ D : Ends, (∀ v H2 G2, Gr md.mu G0 H0 G2 H2 → md.J n H2 → P.p G2 v → D.rt v H2) → ts D σ H
section
variable {md : Md} {m n k : Nat} {Γ : Env} {K : PySem.W.Frag} {te : TE} {tt : TT} {P P1 P2 : Kn} {t t1 rest : TS}
theorem body_set {i : Nat} (h : Ev md m n te Γ P1) (hi : i < Γ.length) (r : Body md n k rest (Γ.set i (some P1)) P) : Body md m k (tSeq (tAsg te (gName i)) rest) Γ P := fun G0 H0 G H σ a D q =>
  h G H σ a.c _ fun v H1 G1 g1 j1 p1 => r G0 H0 G1 H1 _ ((a.next g1 j1).set hi p1) D q
theorem body_ret (h : Ev md m n te Γ P) : Body md m n (tRet te) Γ P := fun G0 H0 G H σ a D q =>
  h G H σ a.c _ fun v H1 G1 g1 j1 p1 => q v H1 G1 (a.gr.trans a.c.dm g1) j1 p1
theorem body_when {S : Bool → Prop} (h : EvT md m n tt Γ S) (h1 : S true → Body md n k t1 Γ P) (h2 : S false → Body md n k rest Γ P) : Body md m k (tSeq (tIfS tt t1 tNext) rest) Γ P := fun G0 H0 G H σ a D q =>
  h G H σ a.c _ fun b H1 G1 g1 j1 s => by
    cases b with
    | true => exact h1 s G0 H0 G1 H1 σ (a.next g1 j1) _ q
    | false => exact h2 s G0 H0 G1 H1 σ (a.next g1 j1) D q
theorem body_imp (h : Body md m n t Γ P) (i : ∀ G v, P.p G v → P1.p G v) : Body md m n t Γ P1 := fun G0 H0 G H σ a D q => h G0 H0 G H σ a D fun v H2 G2 g j p => q v H2 G2 g j (i _ _ p)
theorem body_up (h : Body md m n t Γ P) {n' : Nat} (hn : n ≤ n') : Body md m n' t Γ P := fun G0 H0 G H σ a D q => h G0 H0 G H σ a D fun v H2 G2 g j p => q v H2 G2 g (md.up _ _ _ hn j) p
/-- a slot of which one of several things is known -/
theorem body_open {ι : Type} {i : Nat} {S : ι → Prop} {f : ι → Kn} (hi : Γ[i]? = some (some (kX S f))) (h : ∀ x, S x → Body md m n t (Γ.set i (some (f x))) P) : Body md m n t Γ P := fun G0 H0 G H σ a D q => by
  obtain ⟨v, hv, x, sx, px⟩ := a.c.env.get i _ hi
  exact h x sx G0 H0 G H σ ⟨a.gr, a.c.gh, a.c.j, a.c.sep, a.c.env.put hv px⟩ D q
theorem body_openI {i : Nat} {R : Int → Prop} (hi : Γ[i]? = some (some (kI R))) (h : ∀ x, R x → Body md m n t (Γ.set i (some (kD (.int x)))) P) : Body md m n t Γ P := fun G0 H0 G H σ a D q => by
  obtain ⟨v, hv, x, e, sx⟩ := a.c.env.get i _ hi
  exact h x sx G0 H0 G H σ ⟨a.gr, a.c.gh, a.c.j, a.c.sep, a.c.env.put hv (kD_int.mpr e)⟩ D q
theorem body_put {i : Nat} {k' : Kn} (hi : Γ[i]? = some (some k')) (i1 : ∀ G v, k'.p G v → P1.p G v) (h : Body md m n t (Γ.set i (some P1)) P) : Body md m n t Γ P := fun G0 H0 G H σ a D q => by
  obtain ⟨v, hv, px⟩ := a.c.env.get i _ hi
  exact h G0 H0 G H σ ⟨a.gr, a.c.gh, a.c.j, a.c.sep, a.c.env.put hv (i1 _ _ px)⟩ D q
end

/-! ### promises -/
/-- nothing that stood is changed -/
def spP (pre : Hp → List V → Kn → Prop) : Sp := fun vs H Q _ => ∃ G P, Same G H ∧ pre G vs P ∧ ∀ v H2 G2, Gr (fun _ => False) G H G2 H2 → P.p G2 v → Q v H2
theorem env_start {G : Hp} {ks : List Kn} {vs : List V} {N : List Str} (h : AllK G ks vs) (hl : ks.length ≤ N.length) : EnvOk G (L2.start N vs) (ks.map some ++ List.replicate (N.length - ks.length) none) := by
  have e := AllK.len h
  refine ⟨by unfold L2.start; simp [e], fun i k hk => ?_⟩
  by_cases hi : i < ks.length
  · rw [List.getElem?_append_left (by simpa using hi), List.getElem?_map] at hk
    cases q : ks[i]? with
    | none => rw [q] at hk; cases hk
    | some k' =>
      rw [q] at hk
      have : k' = k := Option.some.inj (Option.some.inj hk)
      subst this
      obtain ⟨v, hv, pv⟩ := AllK.get h q
      refine ⟨v, ?_, pv⟩
      unfold L2.start
      rw [List.getElem?_append_left (by rw [List.length_map]; omega), List.getElem?_map, hv]
      rfl
  · rw [List.getElem?_append_right (by simpa using hi), List.getElem?_replicate] at hk
    split at hk <;> cases hk
theorem at_start {G H : Hp} {ks : List Kn} {vs : List V} {N : List Str} (s : Same G H) (h : AllK G ks vs) (hl : ks.length ≤ N.length) : At M0 0 G H G H (L2.start N vs) (ks.map some ++ List.replicate (N.length - ks.length) none) :=
  ⟨Gr.refl s, s, trivial, fun _ z => z.elim, env_start h hl⟩
/-- a body that keeps a promise of this kind -/
theorem body_run {pre : Hp → List V → Kn → Prop} {N : List Str} {vs : List V} {H : Hp} {Q : VK} {E : XK} {t : TS} (h : spP pre vs H Q E)
    (hb : ∀ G P, pre G vs P → ∃ ks, AllK G ks vs ∧ ks.length ≤ N.length ∧ Body M0 0 0 t (ks.map some ++ List.replicate (N.length - ks.length) none) P) : t { nx := fun _ H' => Q .non H', rt := Q } (L2.start N vs) H := by
  obtain ⟨G, P, s, p, k⟩ := h
  obtain ⟨ks, a, hl, b⟩ := hb G P p
  exact b G H G H _ (at_start s a hl) _ fun v H2 G2 g _ pv => k v H2 G2 g pv
/-- a call of such a def -/
theorem ev_call {md : Md} {m n : Nat} {Γ : Env} {pre : Hp → List V → Kn → Prop} {t : TA} {E : XK} {ks : List Kn} {P : Kn} {dvs : List V} (h : EvA md m n t Γ ks) (hp : ∀ G vs, AllK G ks vs → pre G (vs ++ dvs) P) : Ev md m n (tCall (spP pre) dvs E t) Γ P := fun G H σ c Q q =>
  h G H σ c _ fun vs H1 G1 g1 j1 a => ⟨G1, P, g1.gh, hp G1 vs a, fun v H2 G2 g2 p2 => q v H2 G2 (g1.trans (fun a z => md.dom _ _ a j1 (md.muk a z)) g2.of0) (md.st _ _ _ j1 fun a o _ h => g2.same a o h) p2⟩
end Ll
end

section
set_option Elab.async false
set_option linter.all false
set_option maxRecDepth 100000
set_option maxHeartbeats 1000000
/-! Ll: data of ints, texts, lists, tuples: == is =; the first place of an item; items by place; built-ins. -/
namespace Ll
open PySem PySem.Spec PyProof.Rows L2

mutual
/-- ints and texts within lists and tuples -/
def nb : PyData → Bool
  | .int _ => true
  | .str _ => true
  | .list xs => nbs xs
  | .tuple xs => nbs xs
  | _ => false
def nbs : List PyData → Bool
  | [] => true
  | x :: xs => nb x && nbs xs
end
mutual
theorem eqv_iff : ∀ d e : PyData, nb d = true → nb e = true → (PyData.eqv d e = true ↔ d = e)
  | .none, _, h, _ => by simp [nb] at h
  | .bool _, _, h, _ => by simp [nb] at h
  | .dict _, _, h, _ => by simp [nb] at h
  | .int i, e, _, h => by
    cases e <;> simp [nb] at h <;> simp [PyData.eqv]
  | .str x, e, _, h => by
    cases e <;> simp [nb] at h <;> simp [PyData.eqv]
  | .list xs, e, hx, h => by
    cases e with
    | list ys =>
      have := eqvs_iff xs ys (by simpa [nb] using hx) (by simpa [nb] using h)
      simp only [PyData.eqv]
      rw [this]
      simp
    | _ => simp [nb] at h <;> simp [PyData.eqv]
  | .tuple xs, e, hx, h => by
    cases e with
    | tuple ys =>
      have := eqvs_iff xs ys (by simpa [nb] using hx) (by simpa [nb] using h)
      simp only [PyData.eqv]
      rw [this]
      simp
    | _ => simp [nb] at h <;> simp [PyData.eqv]
theorem eqvs_iff : ∀ xs ys : List PyData, nbs xs = true → nbs ys = true → (PyData.eqvAll xs ys = true ↔ xs = ys)
  | [], [], _, _ => by simp [PyData.eqvAll]
  | [], _ :: _, _, _ => by simp [PyData.eqvAll]
  | _ :: _, [], _, _ => by simp [PyData.eqvAll]
  | x :: xs, y :: ys, hx, hy => by
    simp only [nbs, Bool.and_eq_true] at hx hy
    have h1 := eqv_iff x y hx.1 hy.1
    have h2 := eqvs_iff xs ys hx.2 hy.2
    simp only [PyData.eqvAll, Bool.and_eq_true, h1, h2, List.cons.injEq]
end
/-- such data, no deeper than n, its texts as they should be -/
structure Sh (n : Nat) (d : PyData) : Prop where
  nb : nb d = true
  lay : d.canLay0 = true
  dp : d.depth ≤ n
theorem Sh.shaped {n : Nat} {d : PyData} (h : Sh n d) (hn : n ≤ 64) : SeqAt.shaped d = true := by
  have := h.dp
  show (d.canLay0 && decide (d.depth ≤ 64)) = true
  rw [Bool.and_eq_true]
  exact ⟨h.lay, decide_eq_true (by omega)⟩
theorem Sh.mono {n m : Nat} {d : PyData} (h : Sh n d) (hn : n ≤ m) : Sh m d := ⟨h.nb, h.lay, Nat.le_trans h.dp hn⟩
theorem sh_int {n : Nat} {i : Int} : Sh n (.int i) := ⟨by simp [nb], by simp [PyData.canLay0], by simp [PyData.depth]⟩
theorem sh_str {n : Nat} {x : Str} (h : PyData.strOk x = true) : Sh n (.str x) := ⟨by simp [nb], by simpa [PyData.canLay0] using h, by simp [PyData.depth]⟩
theorem sh_all {n : Nat} : ∀ {ds : List PyData}, (∀ d ∈ ds, Sh n d) → nbs ds = true ∧ PyData.canLayAll0 ds = true ∧ PyData.depthAll ds ≤ n
  | [], _ => by simp [nbs, PyData.canLayAll0, PyData.depthAll]
  | d :: ds, h => by
    have h1 := h d List.mem_cons_self
    have h2 := sh_all (fun e he => h e (List.mem_cons_of_mem _ he))
    have h3 := h1.dp
    refine ⟨by simp [nbs, h1.nb, h2.1], by simp [PyData.canLayAll0, h1.lay, h2.2.1], ?_⟩
    simp only [PyData.depthAll]
    omega
theorem sh_list {n : Nat} {ds : List PyData} (h : ∀ d ∈ ds, Sh n d) : Sh (n + 1) (.list ds) := by
  obtain ⟨a, b, c⟩ := sh_all h
  exact ⟨by simpa [nb] using a, by simpa [PyData.canLay0] using b, by simp only [PyData.depth]; omega⟩
theorem sh_tup {n : Nat} {ds : List PyData} (h : ∀ d ∈ ds, Sh n d) : Sh (n + 1) (.tuple ds) := by
  obtain ⟨a, b, c⟩ := sh_all h
  exact ⟨by simpa [nb] using a, by simpa [PyData.canLay0] using b, by simp only [PyData.depth]; omega⟩
theorem eqv_dec {α : Type} [DecidableEq α] {f : α → PyData} (inj : ∀ x y, f x = f y → x = y) (hn : ∀ x, nb (f x) = true) (x y : α) : PyData.eqv (f x) (f y) = decide (x = y) := by
  by_cases h : x = y
  · subst h
    rw [decide_eq_true rfl, eqv_iff _ _ (hn x) (hn x)]
  · rw [decide_eq_false h, ← Bool.not_eq_true, eqv_iff _ _ (hn x) (hn y)]
    exact fun e => h (inj _ _ e)
/-- the first place at which something equal stands -/
def ixD (ds : List PyData) (d : PyData) : Nat := ds.findIdx fun z => PyData.eqv z d
theorem ixD_lt {n : Nat} {ds : List PyData} {d : PyData} (h : ∀ e ∈ ds, Sh n e) (m : d ∈ ds) : ixD ds d < ds.length := by
  unfold ixD
  rw [List.findIdx_lt_length]
  exact ⟨d, m, (eqv_iff d d (h d m).nb (h d m).nb).mpr rfl⟩

section
variable {md : Md} {m n k : Nat} {Γ : Env} {K : PySem.W.Frag} {ta tb te tc : TE} {t : TA} {tt tu : TT} {P P1 P2 P3 : Kn} {ds : List PyData} {d e : PyData}
/-- xs.index(y) -/
theorem ev_index (ha : Ev md m n ta Γ (kD (.list ds))) (hb : Ev md n k tb Γ (kD d)) (h : ∀ e ∈ ds, Sh 60 e) (hm : d ∈ ds) : Ev md m k (tBM K "list" (rIndexD K) ta (tCons tb tNil)) Γ (kD (.int (ixD ds d : Nat))) := fun G H σ c Q q =>
  ha G H σ c _ fun x H1 G1 g1 j1 p1 => by
    have p1' := p1
    cases p1' with
    | lst hs hr =>
      refine ⟨.inl ⟨rfl, _, SqL.of (g1.gh _ _ hs)⟩, hb G1 H1 σ (c.next g1 j1) _ fun y H2 G2 g2 j2 p2 => ?_⟩
      have hl := ixD_lt h hm
      have l2 : Le G1 H2 := (le_same g2.gg).trans (le_same g2.gh)
      refine ⟨_, y, d, ds, ixD ds d, ds[ixD ds d], rfl, rfl, (le_dp l2 p1).dp, (le_dp (le_same g2.gh) p2).dp, (sh_list h).shaped (by decide), (h d hm).shaped (by decide), by simp [hl], ?_, ?_, ?_⟩
      · exact List.findIdx_getElem (p := fun z => PyData.eqv z d) (w := hl)
      · intro i z hi hz
        have hi' : i < ds.length := Nat.lt_trans hi hl
        have := List.not_of_lt_findIdx (p := fun z => PyData.eqv z d) hi
        rw [List.getElem?_eq_getElem hi'] at hz
        cases hz
        simpa using this
      · exact q _ H2 G2 (g1.trans (fun a z => md.dom _ _ a j1 (md.muk a z)) g2) j2 (.int _)
/-- an item by its place -/
theorem atI_of {xs : List V} {j : Nat} {v : V} (h : xs[j]? = some v) : atI xs (j : Nat) = some v := atI_nat h
theorem ev_ixL {ks : List Kn} {j : Nat} (ha : Ev md m n ta Γ (kL ks)) (hb : Ev md n k tb Γ (kD (.int (j : Nat)))) (hj : ks[j]? = some P) : Ev md m k (tOp (rIxL K) ta tb) Γ P :=
  ev_op ha hb fun G H x y s jj ⟨a, xs, ea, hs, ax⟩ py => by
    obtain ⟨v, hv, pv⟩ := AllK.get ax hj
    exact Out.val s jj pv fun Q q => ⟨a, xs, j, v, ea, kD_int.mp py, SqL.of (s _ _ hs), atI_of hv, q⟩
theorem ev_ixT {ks : List Kn} {j : Nat} (ha : Ev md m n ta Γ (kT ks)) (hb : Ev md n k tb Γ (kD (.int (j : Nat)))) (hj : ks[j]? = some P) : Ev md m k (tOp (rIxT K) ta tb) Γ P :=
  ev_op ha hb fun G H x y s jj ⟨a, xs, ea, hs, ax⟩ py => by
    obtain ⟨v, hv, pv⟩ := AllK.get ax hj
    exact Out.val s jj pv fun Q q => ⟨a, xs, j, v, ea, kD_int.mp py, SqT.of (s _ _ hs), atI_of hv, q⟩
/-- == and != of such data -/
theorem et_eqD (ha : Ev md m n ta Γ (kD d)) (hb : Ev md n k tb Γ (kD e)) (h1 : Sh 60 d) (h2 : Sh 60 e) : EvT md m k (tTest (tOp (rEqD K) ta tb)) Γ (· = PyData.eqv d e) :=
  et_op ha hb fun G H x y s px py => ⟨_, rfl, fun Q q => ⟨d, e, (le_dp (le_same s) px).dp, (le_dp (le_same s) py).dp, h1.shaped (by decide), h2.shaped (by decide), q⟩⟩
theorem et_neD (ha : Ev md m n ta Γ (kD d)) (hb : Ev md n k tb Γ (kD e)) (h1 : Sh 60 d) (h2 : Sh 60 e) : EvT md m k (tTest (tOp (rNeD K) ta tb)) Γ (· = !PyData.eqv d e) :=
  et_op ha hb fun G H x y s px py => ⟨_, rfl, fun Q q => ⟨d, e, (le_dp (le_same s) px).dp, (le_dp (le_same s) py).dp, h1.shaped (by decide), h2.shaped (by decide), q⟩⟩
theorem ev_eqD (ha : Ev md m n ta Γ (kD d)) (hb : Ev md n k tb Γ (kD e)) (h1 : Sh 60 d) (h2 : Sh 60 e) : Ev md m k (tOp (rEqD K) ta tb) Γ (kD (.bool (PyData.eqv d e))) :=
  ev_op ha hb fun G H x y s jj px py => Out.val s jj (.bl _) fun Q q => ⟨d, e, (le_dp (le_same s) px).dp, (le_dp (le_same s) py).dp, h1.shaped (by decide), h2.shaped (by decide), q⟩
theorem ev_neD (ha : Ev md m n ta Γ (kD d)) (hb : Ev md n k tb Γ (kD e)) (h1 : Sh 60 d) (h2 : Sh 60 e) : Ev md m k (tOp (rNeD K) ta tb) Γ (kD (.bool (!PyData.eqv d e))) :=
  ev_op ha hb fun G H x y s jj px py => Out.val s jj (.bl _) fun Q q => ⟨d, e, (le_dp (le_same s) px).dp, (le_dp (le_same s) py).dp, h1.shaped (by decide), h2.shaped (by decide), q⟩
end
end Ll
end

section
set_option Elab.async false
set_option linter.all false
set_option maxRecDepth 100000
set_option maxHeartbeats 1000000
/-! Ll: the text by places, a def that is called by its name, the builtins' names. -/
namespace Ll
open PySem PySem.Spec PyProof.Rows L2
def top (i : Nat) : Stmt := PySem.Challenge.pw_leftlogs_k68_whole_three_deeds_decide.main.body.getD i (.Pass ⟨0, 0, 0, 0⟩)
theorem u65 {k : Nat} {A : Around} (r : Room k A) : A.units + 65 < cLine := by have := r.un; omega
theorem u64 {k : Nat} {A : Around} (r : Room k A) : A.units + 64 < cLine := by have := r.un; omega
abbrev FnP (K : PySem.W.Frag) (x : Str) (st : Stmt) (f : Addr) (fd : FuncData) : Prop := FunD K x x (defArgs st) (defBody st) (defScope st) [] [] f fd
/-- the def that the module's name x stands for keeps sp -/
structure Cal (P : Program) (w : World) (K : PySem.W.Frag) (mg : Str → Option Value) (base : Heap) (k : Nat) (x : Str) (ps : List Str) (sp : Sp) : Prop where
  ex : ∃ (f : Addr) (fd : FuncData), FnOk P w K mg base CX0 k f fd ps sp ∧ mg x = some (.ref f) ∧ PySem.W.keepIn K (.ref f) = true ∧ Binds K fd ps []
section
variable {X : Cx} {k : Nat} {sp : Sp} {x : Str} {ps : List Str} {e : Expr} {es : List Expr} {t : TA} {p pos : Pos}
theorem pe_cal (c : Cal X.prog X.w X.K X.mg X.base k x ps sp) (hr : Room k X.A) (hg : Gl X x) (ha : PA X (e :: es) t) (hd : (x == ("__debug__" : Str)) = false := by decide)
    (he : starEach (e :: es) X.env = (false, eval e X.env) :: starEach es X.env := by rfl) (hst : (backTo pos (starEach es X.env)).any (·.1) = false := by rfl) : PE X (.Call (.Name x p) (e :: es) [] pos) (tCall sp [] E0 t) := by
  obtain ⟨f, fd, F, hm, hk, hb⟩ := c.ex
  exact pe_call F hr hg hm hk hb .nil pass0 ha hd he hst
theorem pe_cal0 (c : Cal X.prog X.w X.K X.mg X.base k x ps sp) (hr : Room k X.A) (hg : Gl X x) (hd : (x == ("__debug__" : Str)) = false := by decide) : PE X (.Call (.Name x p) [] [] pos) (tCall sp [] E0 tNil) := by
  obtain ⟨f, fd, F, hm, hk, hb⟩ := c.ex
  exact pe_call0 F hr hg hm hk hb .nil pass0 hd
end
theorem cal_mk {P : Program} {w : World} {K : PySem.W.Frag} {mg : Str → Option Value} {base : Heap} {k : Nat} {x : Str} {st : Stmt} {N ps : List Str} {sp : Sp} {f : Addr} (F : ∃ fd, FnP K x st f fd) (hm : mg x = some (.ref f)) (S : FnScope N ps (defScope st))
    (hb : ∀ (kV doc pm : Value) (an : Option Addr) (cdv ct : Value) (us : List Value), us.length = ps.length → bindArgs (PySem.W.fnOf x x (defArgs st) (defBody st) (defScope st) .none kV doc pm an cdv ct) ⟨us, []⟩ = pure (ps.zip us))
    (len : ∀ vs H Q E, sp vs H Q E → vs.length = ps.length)
    (hbody : ∀ (cdv : Value) (A : Around) (outer : List PySem.Env) (s : Shared) (H : Hp) (vs : List V) (Q : VK) (E : XK), Room k (A.deeper (envOfC x (defScope st) s.heap.objs.size f cdv)) → sp vs H Q E →
      ∃ t, PSs (cxOf CX0 P w K mg base N x (defScope st) f cdv A outer s H E).nox (defBody st) t ∧ t { nx := fun _ H' => Q .non H', rt := Q } (L2.start N vs) H) : Cal P w K mg base (k + 1) x ps sp := by
  obtain ⟨fd, F⟩ := F
  refine ⟨f, fd, F.ok S len (fun cdv A outer s H vs Q E hr h => ?_), hm, F.kp, F.bindsN hb⟩
  obtain ⟨t, h1, h2⟩ := hbody cdv A outer s H vs Q E hr h
  exact ⟨t, h1.nox, h2⟩
/-- the builtins that the module's names leave alone -/
structure Bi (mg : Str → Option Value) : Prop where
  len : mg "len" = none
  range : mg "range" = none
  enumerate : mg "enumerate" = none
  tuple : mg "tuple" = none
  list : mg "list" = none
  dict : mg "dict" = none
  sorted : mg "sorted" = none
  any : mg "any" = none
  all : mg "all" = none
  max : mg "max" = none
  min : mg "min" = none
  abs : mg "abs" = none
  int : mg "int" = none
  str : mg "str" = none
  bool : mg "bool" = none
  zip : mg "zip" = none
  isinstance : mg "isinstance" = none
end Ll
end

section
set_option Elab.async false
set_option linter.all false
set_option maxRecDepth 100000
/-! Ll: the readings of operators and built-ins by short names. -/
namespace Ll
open PySem PySem.Spec PyProof.Rows L2
abbrev rAddI : R2 := rI0 fun i j => .int (i + j)
abbrev rSubI : R2 := rI0 fun i j => .int (i - j)
abbrev rMulI : R2 := rI CMul fun i j => .int (i * j)
abbrev rModI : R2 := rI (fun _ j => j ≠ 0) fun i j => .int (i.fmod j)
abbrev rDivI : R2 := rI CDivN fun i j => .int (i.fdiv j)
abbrev rPowI : R2 := rI CPow fun i j => .int (i ^ j.toNat)
abbrev rLtI : R2 := rI0 fun i j => .bl (decide (i < j))
abbrev rLeI : R2 := rI0 fun i j => .bl (decide (i ≤ j))
abbrev rGtI : R2 := rI0 fun i j => .bl (decide (j < i))
abbrev rGeI : R2 := rI0 fun i j => .bl (decide (j ≤ i))
abbrev rNegI : V → Hp → VK → Prop := rU fun i => .int (-i)
abbrev rAddT : R2 := fun x y H Q => ∃ i j, x = .str i ∧ y = .str j ∧ i.length + j.length ≤ sizeLine ∧ Q (.str (i ++ j)) H
abbrev rIsNo : R2 := fun x y H Q => y = .non ∧ Q (.bl (decide (x = .non))) H
abbrev rIsntNo : R2 := fun x y H Q => y = .non ∧ Q (.bl (!decide (x = .non))) H
abbrev cLen (K : PySem.W.Frag) : List V → Hp → VK → Prop := fun xs H Q => ∃ p ys, xs = [.ref p] ∧ (SqL K H p ys ∨ SqT K H p ys) ∧ Q (.int ys.length) H
abbrev cTup (K : PySem.W.Frag) : List V → Hp → VK → Prop := fun xs H Q => ∃ p ys, xs = [.ref p] ∧ ((SqL K H p ys ∧ ∀ l, H l = none → Q (.ref l) (upd H l (.tup ys))) ∨ (SqT K H p ys ∧ Q (.ref p) H))
abbrev cLst (K : PySem.W.Frag) : List V → Hp → VK → Prop := fun xs H Q => ∃ p ys, xs = [.ref p] ∧ (SqL K H p ys ∨ SqT K H p ys) ∧ ∀ l, H l = none → Q (.ref l) (upd H l (.lst ys))
abbrev cAbs : List V → Hp → VK → Prop := fun xs H Q => ∃ i, xs = [.int i] ∧ Q (.int (if i < 0 then -i else i)) H
abbrev cInt : List V → Hp → VK → Prop := fun xs H Q => (∃ i, xs = [.int i] ∧ Q (.int i) H) ∨ ∃ k, xs = [.bl k] ∧ Q (.int (if k then 1 else 0)) H
abbrev cMin2 : List V → Hp → VK → Prop := fun xs H Q => ∃ i j, xs = [.int i, .int j] ∧ Q (.int (if j < i then j else i)) H
abbrev cMax2 : List V → Hp → VK → Prop := fun xs H Q => ∃ i j, xs = [.int i, .int j] ∧ Q (.int (if j > i then j else i)) H
abbrev cStr : List V → Hp → VK → Prop := fun xs H Q => ∃ a, xs = [.str a] ∧ Q (.str a) H
abbrev cDic (K : PySem.W.Frag) : List V → Hp → VK → Prop := fun xs H Q => ∃ (a : Addr) (ps : List Addr) (kvs : List (Key × V)), xs = [.ref a] ∧ SqL K H a (ps.map V.ref) ∧ Paired (fun p kv => SqT K H p [L2.kV kv.1, kv.2]) ps kvs ∧
  ∀ p, H p = none → Q (.ref p) (upd H p (.dK (mergeK [] kvs)))
abbrev cJoin (K : PySem.W.Frag) : V → List V → Hp → VK → Prop := fun x xs H Q => ∃ a p, ∃ ys : List Str, x = .str a ∧ xs = [.ref p] ∧ (SqL K H p (ys.map V.str) ∨ SqT K H p (ys.map V.str)) ∧
  (ys.map (·.length)).sum + ys.length * a.length ≤ 16777216 ∧ Q (.str (Txt.join a ys)) H
end Ll
end

section
set_option Elab.async false
set_option linter.all false
set_option maxRecDepth 100000
set_option maxHeartbeats 1000000
/-! Ll: an own class's properties, o[i], i in o, its making. -/
namespace Ll
open PySem PySem.Spec PyProof.Rows L2

/-- the class at C has the name m as a def that keeps sp -/
structure Dun (P : Program) (w : World) (K : PySem.W.Frag) (mg : Str → Option Value) (base : Heap) (k : Nat) (C : Addr) (m : Str) (ps : List Str) (sp : Sp) : Prop where
  ex : ∃ (f : Addr) (fd : FuncData), Meth K C m f ∧ PySem.W.fnIn K f = true ∧ FnOk P w K mg base CX0 k f fd ps sp ∧ Binds K fd ps []
/-- .. as a property -/
structure Prp (P : Program) (w : World) (K : PySem.W.Frag) (mg : Str → Option Value) (base : Heap) (k : Nat) (C : Addr) (m : Str) (sp : Sp) : Prop where
  ex : ∃ (p g : Addr) (fd : FuncData), PropOf K C m p g ∧ FnOk P w K mg base CX0 k g fd ["self"] sp ∧ Binds K fd ["self"] []
/-- the module's name x stands for the class at C, whose __init__ keeps sp; ds: the defaults that fill up -/
structure Mak (P : Program) (w : World) (K : PySem.W.Frag) (mg : Str → Option Value) (base : Heap) (k : Nat) (C : Addr) (x : Str) (ps : List Str) (dvs : List V) (sp : Sp) : Prop where
  ex : ∃ (f : Addr) (fd : FuncData) (ds : List Value), Mk K C f ∧ FnOk P w K mg base CX0 k f fd ps sp ∧ mg x = some (.ref C) ∧ Binds K fd ps ds ∧ Vals dvs ds
section
variable {X : Cx} {k : Nat} {C : Addr} {m x : Str} {ps : List Str} {sp : Sp} {dvs : List V} {o i e : Expr} {es : List Expr} {ta tb te : TE} {t : TA} {p pos apos : Pos}
theorem pe_prp (D : Prp X.prog X.w X.K X.mg X.base k C m sp) (c : Cls X.K C) (hr : Room (k + 1) X.A) (he : PE X o te) (hab : attributeBase o m X.env (eval o X.env) = eval o X.env := by rfl) : PE X (.Attribute o m pos) (tProp C sp [] E0 te) := by
  obtain ⟨p, g, fd, h1, h2, h3⟩ := D.ex
  exact pe_prop he c h1 h2 hr h3 .nil pass0 hab
theorem pe_met (D : Dun X.prog X.w X.K X.mg X.base k C m ps sp) (c : Cls X.K C) (hr : Room k X.A) (he : PE X o ta) (ha : PA X (e :: es) t)
    (hst : starEach (e :: es) X.env = (false, eval e X.env) :: starEach es X.env := by rfl) (hpl : (backTo pos (starEach es X.env)).any (·.1) = false := by rfl)
    {pl : Sem Bool} (ht : eval (.Call (.Attribute o m apos) (e :: es) [] pos) X.env = (do
      let ov ← eval o X.env
      standAt apos.atName
      let (f, first) ← holding [ov] (getMethod ov m pl)
      callWith pos f first (backTo pos (starEach (e :: es) X.env)) (backToKw pos (keywordEach [] X.env))) := by rfl) :
    PE X (.Call (.Attribute o m apos) (e :: es) [] pos) (tMeth C m sp [] E0 ta t) := by
  obtain ⟨f, fd, h1, _, h2, h3⟩ := D.ex
  exact pe_meth he c h1 h2 hr h3 .nil pass0 ha hst hpl ht
theorem pe_mak (D : Mak X.prog X.w X.K X.mg X.base k C x ps dvs sp) (hr : Room (k + 1) X.A) (hg : Gl X x) (ha : PA X (e :: es) t) (hd : (x == ("__debug__" : Str)) = false := by decide)
    (he : starEach (e :: es) X.env = (false, eval e X.env) :: starEach es X.env := by rfl) (hst : (backTo pos (starEach es X.env)).any (·.1) = false := by rfl) : PE X (.Call (.Name x p) (e :: es) [] pos) (tMake C sp dvs E0 t) := by
  obtain ⟨f, fd, ds, h1, h2, h3, h4, h5⟩ := D.ex
  exact pe_make h1 h2 hr hg h3 h4 h5 pass0 ha hd he hst
/-- o[i] by an own __getitem__ -/
def rIxO (C : Addr) (sp : Sp) : R2 := fun x y H Q => ∃ a dx fs, x = .ref a ∧ H a = some (.ins C dx fs) ∧ sp [.ref a, y] H Q E0
theorem inst_at {pins : List (Addr × Obj)} {σ : L2.St} {H : Hp} {s : Shared} {a dx : Addr} {fs : List (Str × V)} (I : Inv X pins σ H s) (h : H a = some (.ins C dx fs)) : ∃ ox od, PySem.W.InstAt s.heap a ox C od := by
  obtain ⟨mA, O, _⟩ := ins_get I.hok h
  obtain ⟨od, J, _⟩ := O.look
  exact ⟨_, _, J⟩
/-- a def of two arguments run one deeper -/
theorem run_in1 {pins : List (Addr × Obj)} {σ : L2.St} {H : Hp} {s : Shared} {Q : VK} {us : List Value} {vs : List V} {f : Addr} {fd : FuncData} {E : Value → Shared → Prop} (F : FnOk X.prog X.w X.K X.mg X.base CX0 k f fd ps sp) (hr : Room k X.A.in1) (hb : Binds X.K fd ps [])
    (I : Inv X pins σ H s) (r : Vals vs us) (h : sp vs H Q E0) : wpAny (model X.prog X.w) X.A.in1 (call (.ref f) us) (EP X pins σ Q) E s := by
  have hl : (us ++ []).length = ps.length := by rw [List.append_nil, ← r.length]; exact F.len _ _ _ _ h
  have hb' := hb s us I.kIn hl
  rw [List.append_nil] at hb'
  refine wpAny_call (codeAny_mono (F.run X.A.in1 X.stack s H ⟨us, []⟩ us vs Q E0 hr I.env0.in1 hb' r h) fun z s' hq => ?_)
  cases z with
  | error e => exact False.elim hq
  | ok fl =>
    cases fl with
    | ret u => exact I.after hq
    | _ => exact False.elim hq
theorem pe_ixO (D : Dun X.prog X.w X.K X.mg X.base k C "__getitem__" ps sp) (hr : Room (k + 1) X.A) (ho : PE X o ta) (hi : PE X i tb)
    (hsl : ∀ a iv, subscripted i true (.ref a) iv = PySem.runValue (.builtin "lifetime.subscript" ⟨[.ref a, iv], []⟩)) : PE X (.Subscript o i pos) (tOp (rIxO C sp) ta tb) := by
  obtain ⟨f, fd, M, hf, F, hb⟩ := D.ex
  refine ⟨fun pins s σ H Q I h => ?_⟩
  refine Subscript_ (binT ho hi I h fun v u s2 x y H2 I2 rx ry q => ?_)
  obtain ⟨a, dx, fs, rfl, ha, q⟩ := q
  cases (show v = Value.ref a from rx)
  obtain ⟨ox, od, J⟩ := inst_at I2 ha
  obtain ⟨mm, fr⟩ := I2.fr
  exact PySem.W.sub_K fr I2.mod.kin J M.at_ hf M.fn (run_in1 (us := [.ref a, u]) (vs := [.ref a, y]) F hr.in1 hb I2 (.cons rfl (.cons ry .nil)) q) (hsl a u)
/-- x in o, x not in o by an own __contains__ that answers True or False -/
def rInO (C : Addr) (sp : Sp) : R2 := fun x y H Q => ∃ a dx fs, y = .ref a ∧ H a = some (.ins C dx fs) ∧ sp [.ref a, x] H (fun v H' => ∃ b, v = .bl b ∧ Q (.bl b) H') E0
def rNinO (C : Addr) (sp : Sp) : R2 := fun x y H Q => ∃ a dx fs, y = .ref a ∧ H a = some (.ins C dx fs) ∧ sp [.ref a, x] H (fun v H' => ∃ b, v = .bl b ∧ Q (.bl (!b)) H') E0
theorem op_ninO (D : Dun X.prog X.w X.K X.mg X.base k C "__contains__" ps sp) (hr : Room k X.A) : OpR X (compareOp .NotIn) (rNinO C sp) := by
  obtain ⟨f, fd, M, _, F, hb⟩ := D.ex
  intro pins s σ H x y v u Q I rx ry h
  obtain ⟨a, dx, fs, rfl, ha, q⟩ := h
  cases (show u = Value.ref a from ry)
  obtain ⟨ox, od, J⟩ := inst_at I ha
  obtain ⟨mm, fr⟩ := I.fr
  refine PySem.W.notIn_K fr I.mod.kin J M.at_ M.fn (thn (run_fn (us := [.ref a, v]) (vs := [.ref a, x]) F hr hb .nil pass0 I (.cons rfl (.cons rx .nil)) q) fun r s' ⟨z, H', I', rz, b, ez, qz⟩ => ?_)
  subst ez
  cases rz
  exact wpAny_truthy_bool ⟨.bl (!b), H', I', rfl, qz⟩
end
end Ll
end

section
set_option Elab.async false
set_option linter.all false
set_option maxRecDepth 100000
set_option maxHeartbeats 1000000
/-! Ll: rules of our own: x in a tuple of data, tuple.index of ints, tuple * n, sorted of data. -/
namespace Ll
open PySem PySem.Spec PyProof.Rows L2
section
variable {X : Cx}
def rInT (K : PySem.W.Frag) : R2 := fun x y H Q => ∃ d ds, Dp K H x d ∧ Dp K H y (.tuple ds) ∧ SeqAt.shaped d = true ∧ SeqAt.shaped (.tuple ds) = true ∧ Q (.bl (ds.any fun z => PyData.eqv z d)) H
def rNinT (K : PySem.W.Frag) : R2 := fun x y H Q => ∃ d ds, Dp K H x d ∧ Dp K H y (.tuple ds) ∧ SeqAt.shaped d = true ∧ SeqAt.shaped (.tuple ds) = true ∧ Q (.bl (!ds.any fun z => PyData.eqv z d)) H
theorem op_inT (hu : X.A.units + 65 < cLine) : OpR X (compareOp .In) (rInT X.K) := by
  rintro pins s σ H x y v u Q I rx ry ⟨d, ds, hd, he, sd, se, q⟩
  obtain ⟨as, ra⟩ := Dp.reads I d x v hd rx
  obtain ⟨bs, rb⟩ := Dp.reads I (.tuple ds) y u he ry
  exact SeqAt.in_tuple_reads rb ra (SeqAt.canLay_of_shaped se) (SeqAt.canLay_of_shaped sd) (room_in_shaped sd hu) ⟨.bl _, H, I, rfl, q⟩
theorem op_ninT (hu : X.A.units + 65 < cLine) : OpR X (compareOp .NotIn) (rNinT X.K) := by
  rintro pins s σ H x y v u Q I rx ry ⟨d, ds, hd, he, sd, se, q⟩
  obtain ⟨as, ra⟩ := Dp.reads I d x v hd rx
  obtain ⟨bs, rb⟩ := Dp.reads I (.tuple ds) y u he ry
  exact SeqAt.notIn_tuple_reads rb ra (SeqAt.canLay_of_shaped se) (SeqAt.canLay_of_shaped sd) (room_in_shaped sd hu) ⟨.bl _, H, I, rfl, q⟩

/-- t.index(n) of ints -/
def rTix (K : PySem.W.Frag) : V → List V → Hp → VK → Prop := fun x xs H Q => ∃ (p : Addr) (ys : List Int) (z : Int) (j : Nat), x = .ref p ∧ xs = [.int z] ∧ SqT K H p (ys.map V.int) ∧ ys[j]? = some z ∧ (∀ m, m < j → ys[m]? ≠ some z) ∧ Q (.int (j : Nat)) H
theorem mt_tix : MtR X "tuple.index" (rTix X.K) := by
  rintro pins s σ H x xs v us Q I rx rs ⟨p, ys, z, j, rfl, rfl, hq, hy, hno, q⟩
  cases rx
  obtain ⟨u, rfl, t, rfl⟩ := vals1 rs
  obtain ⟨its, r, pl, hz⟩ := I.tuple hq
  obtain ⟨⟨oc, odd, odt, osl⟩, ho, ec, n, ed⟩ := pl
  simp only at ec ed
  subst ec ed
  have hsz : its.toArray.size = ys.length := by rw [List.size_toArray, ← r.length, List.length_map]
  have hj : j < its.toArray.size := by rw [hsz]; exact (List.getElem?_eq_some_iff.mp hy).1
  have eachI : ∀ (m : Nat) (hm : m < its.toArray.size), ∃ y t', ys[m]? = some y ∧ its.toArray[m] = Value.int y t' := fun m hm => by
    have hm2 : m < ys.length := hsz ▸ hm
    obtain ⟨w, hw, t', e'⟩ := r.get (i := m) (x := .int ys[m]) (by simp [hm2])
    refine ⟨ys[m], t', List.getElem?_eq_getElem hm2, ?_⟩
    rw [← e', ← (List.getElem?_eq_some_iff.mp hw).2]
    simp
  have flatI : (ys.map V.int).all flatV = true := by
    rw [List.all_map]
    exact List.all_eq_true.mpr fun _ _ => rfl
  refine call_meets PySem.F.slot_tuple_index ⟨_, ho, rfl⟩ PySem.F.entry_tuple_index (PySem.F.args_tuple_index_2 _ _) (TI.tuple_indexAt p its.toArray n odd osl (.int z t) (eqU (.int z)) j hj ?_ ?_)
    ⟨ho, fun w hw => mem_eqAt (x := .int z) ⟨t, rfl⟩ rfl r flatI w (by simpa using hw), ⟨.int (j : Nat), H, I.tok _, ⟨_, rfl⟩, q⟩⟩
  · obtain ⟨y, t', e1, e2⟩ := eachI j hj
    rw [hy] at e1
    cases e1
    rw [e2]
    simp [eqU, L2.eqV]
  · intro m hm hmj
    obtain ⟨y, t', e1, e2⟩ := eachI m hm
    rw [e2]
    have : y ≠ z := fun e => hno m hmj (by rw [e1, e])
    simp [eqU, L2.eqV, this]

/-- t * n, n from 1 on (t * 1 is t itself) -/
theorem tup_mul1 (l : Addr) (items : Array Value) (n : Nat) (dd : Option Addr) (sl : Array (Option Value)) (u : Tok) :
    Meets (Builtin.«tuple.__mul__» ⟨[.ref l, .int 1 u], []⟩) (fun _ R s => s.heap.get? l = some { cls := .type "tuple", dict := dd, data := .seq items n, slots := sl } ∧ R (.ok (.ret (Value.ref l))) s) :=
  .of_wp fun prog w A R s h => by
    obtain ⟨hp, g, d, tk, os⟩ := s
    obtain ⟨hl, h⟩ := h
    have f1 := AutoSeq1.idx_int
    wp_walk using wpAny_loadPart' hl
    repeat (first
      | (refine wpAny_ite_false (by decide) ?_; wp_walk using wpAny_loadPart' hl)
      | (refine wpAny_ite_true (by simp) ?_; wp_walk using wpAny_loadPart' hl))
    exact ⟨_, rfl, h⟩
def rRepA (K : PySem.W.Frag) : R2 := fun x y H Q => ∃ l k xs, x = .ref l ∧ y = .int k ∧ SqT K H l xs ∧ xs ≠ [] ∧ 1 ≤ k ∧ k ≤ 1000 ∧ xs.length ≤ 1000 ∧ (k = 1 → Q (.ref l) H) ∧ (2 ≤ k → ∀ p, H p = none → Q (.ref p) (upd H p (.tup (List.replicate k.toNat xs).flatten)))
theorem op_repA : OpR X (binaryOp .Mult) (rRepA X.K) := by
  rintro pins s σ H x y v u Q I rx ry ⟨l, k, xs, rfl, rfl, hT, hne, h1, h2, hz, q1, q2⟩
  by_cases hk : 2 ≤ k
  · exact op_repT pins s σ H _ _ v u Q I rx ry ⟨l, k, xs, rfl, rfl, hT, hne, hk, h2, hz, q2 hk⟩
  · obtain rfl : k = 1 := by omega
    cases rx
    obtain ⟨t, rfl⟩ := ry
    obtain ⟨its, r, ⟨⟨oc, dd, od, sl⟩, ho, hc, n, hd⟩, hs⟩ := I.tuple hT
    simp only at hc hd
    subst hc hd
    refine wpAny_binaryOp_repeat_ref (T := "tuple") (U := "int") (by decide) ⟨_, ho, rfl⟩ (fun s' => typeIs_int s' 1 t) noFill_tuple_mul F.fills_int_mul F.slot_int_rmul repeat_tuple F.slot_int_index.lookup
      (call_meets F.slot_int_rmul (typeIs_int s 1 t) F.entry_int_rmul (F.args_int_rmul_2 _ _) (int_rmul_tuple 1 t l its.toArray n dd sl) ⟨ho, rfl, ⟨_, ho, rfl⟩, ?_⟩)
    exact call_meets F.slot_tuple_mul ⟨_, ho, rfl⟩ F.entry_tuple_mul (F.args_tuple_mul_2 _ _) (tup_mul1 l its.toArray n dd sl t) ⟨ho, ⟨.ref l, H, I, rfl, q1 rfl⟩⟩

/-- sorted(xs): the items in some order -/
def rSortedAny (K : PySem.W.Frag) : List V → Hp → VK → Prop := fun vs H Q => ∃ (a : Addr) (xs : List V) (ds : List PyData), vs = [.ref a] ∧ SqL K H a xs ∧ DpAll K H xs ds ∧ PySem.W.AllAlike ds ∧ PySem.W.Sortable ds ∧ ds.length ≤ 100000 ∧ (∀ d ∈ ds, d.depth ≤ 60) ∧
  ∀ ys p, ys.Perm xs → H p = none → Q (.ref p) (upd H p (.lst ys))
theorem zip_snd {α β : Type} : ∀ {as : List α} {bs : List β}, as.length = bs.length → (as.zip bs).map Prod.snd = bs
  | [], [], _ => rfl
  | a :: as, b :: bs, h => congrArg (b :: ·) (zip_snd (Nat.succ.inj h))
theorem zip_fst {α β : Type} : ∀ {as : List α} {bs : List β}, as.length = bs.length → (as.zip bs).map Prod.fst = as
  | [], [], _ => rfl
  | a :: as, b :: bs, h => congrArg (a :: ·) (zip_fst (Nat.succ.inj h))
theorem dpAll_len {K : PySem.W.Frag} {H : Hp} : ∀ {xs : List V} {ds : List PyData}, DpAll K H xs ds → xs.length = ds.length
  | _, _, .nil => rfl
  | _, _, .cons _ r => congrArg (· + 1) (dpAll_len r)
theorem each_zip {pins : List (Addr × Obj)} {σ : L2.St} {H : Hp} {s : Shared} (I : Inv X pins σ H s) : ∀ {xs : List V} {ds : List PyData} {us : List Value}, DpAll X.K H xs ds → Vals xs us →
    PySem.W.EachIs (fun (v : Value) (b : V × PyData) => RelV b.1 v) us (xs.zip ds) ∧ PySem.W.EachIs (fun (v : Value) (b : V × PyData) => ∃ as, Reads s.heap v b.2 as) us (xs.zip ds)
  | _, _, _, .nil, .nil => ⟨.nil, .nil⟩
  | _, _, _, .cons h r, .cons e t => by
    obtain ⟨h1, h2⟩ := each_zip I r t
    exact ⟨.cons e h1, .cons (Dp.reads I _ _ _ h e) h2⟩
theorem vals_each : ∀ {us : List Value} {bs : List (V × PyData)}, PySem.W.EachIs (fun (v : Value) (b : V × PyData) => RelV b.1 v) us bs → Vals (bs.map Prod.fst) us
  | _, _, .nil => .nil
  | _, _, .cons e t => .cons e (vals_each t)
theorem cr_sortedAny (hu : X.A.units + 65 < cLine) : CallR X (.builtin "sorted") (rSortedAny X.K) := by
  rintro pins s σ H vs us Q I r ⟨a, xs, ds, rfl, hs, hd, hal, hso, hl, hdp, q⟩
  obtain ⟨its, rv, pl, hz⟩ := I.list hs
  obtain ⟨u, rfl, ru⟩ := vals1 r
  cases ru
  have e0 := dpAll_len hd
  obtain ⟨e1, e2⟩ := each_zip I hd rv
  have em : (xs.zip ds).map Prod.snd = ds := zip_snd e0
  refine PySem.W.sorted_data (bs := xs.zip ds) (enc := Prod.snd) (R := fun v b => RelV b.1 v) pl.isList e1 e2 (by rw [em]; exact hal) (by rw [em]; exact hso) (by rw [List.length_zip, e0, Nat.min_self]; exact Nat.le_trans hl (by decide)) (fun b hb => ?_) fun out hlen ho => ?_
  · have : b.2 ∈ ds := by rw [← em]; exact List.mem_map_of_mem hb
    have := hdp _ this
    omega
  · obtain ⟨ep, he'⟩ := PyProof.Rows.sortedAll_at s.heap its out.toArray
    have hp : ((xs.zip ds).mergeSort (PySem.W.dataLe false Prod.snd)).Perm (xs.zip ds) := List.mergeSort_perm _ _
    have hp2 := hp.map Prod.fst
    rw [zip_fst e0] at hp2
    have hv := vals_each ho
    refine ⟨.ref _, upd H (s.heap.objs.size + 1) (.lst _), I.laid (t' := s.toks) (fun _ _ => PyProof.Rows.sortedAll_old) (Nat.le_succ _) ⟨?_, out, ep, hv, he'⟩, rfl, q _ _ hp2 (I.hok.fresh (Nat.le_succ _))⟩
    rw [hp2.length_eq]; exact hz
end
end Ll
end

section
set_option Elab.async false
set_option linter.all false
set_option maxRecDepth 100000
set_option maxHeartbeats 2000000
/-! Ll: enumerate(tuple), walked. -/
namespace Ll
open PySem PySem.Spec PyProof.Rows L2
/-- the new object, over any iterator that begins so -/
theorem enum_new1 {v : Value} {ob : Obj} {Hv : Heap → Prop} (Bg : Begins v ob Hv) (hty : ∀ h : Heap, Hv h → ∃ T a o, v = .ref a ∧ h.get? a = some o ∧ o.cls = .type T) :
    Meets (Builtin.«enumerate.__new__» ⟨[.type "enumerate", v], []⟩) (fun _ R z => Hv z.heap ∧
      R (.ok (.ret (.ref (z.heap.push ob).objs.size))) { z with heap := (z.heap.push ob).push { cls := .type "enumerate", data := .fields #[.none, .bool false, .ref z.heap.objs.size, rawInt 0, .none, .none] } }) :=
  .of_wp fun prog w A R z hz => by
    obtain ⟨hp, g, d, tk, os⟩ := z
    obtain ⟨hv, hz⟩ := hz
    have sb := sub_enumerate
    have it1 : ∀ {A' : Around} {E : Value → Shared → Prop} {Q : Value → Shared → Prop}, Q (.ref hp.objs.size) ⟨hp.push ob, g, d, tk, os⟩ → wpAny (model prog w) A' (pyIter v) Q E ⟨hp, g, d, tk, os⟩ := fun q1 =>
      Bg.iter prog w _ _ ⟨hp, g, d, tk, os⟩ _ hv q1
    wp_walk using it1
    refine wpAny_stack_any fun sk => wpAny_pure ?_
    split
    · rename_i cl _ _ _ _ _
      cases (cl == Value.type "enumerate") <;> (wp_walk using it1; exact ⟨_, rfl, hz⟩)
    · (wp_walk using it1; exact ⟨_, rfl, hz⟩)
section
variable {prog : Program} {w : World} {A : Around} {E : Value → Shared → Prop} {s : Shared}
theorem enum_tup {t : Addr} {items : Array Value} {Q : Value → Shared → Prop} (ht : s.heap.IsTuple t items)
    (h : ∀ h', IsEnum h' (s.heap.objs.size + 1) s.heap.objs.size 0 .none → h'.IsTupleIter s.heap.objs.size t 0 → (∀ b o, s.heap.get? b = some o → h'.get? b = some o) → Q (.ref (s.heap.objs.size + 1)) { s with heap := h' }) :
    wpAny (model prog w) A (call (.type "enumerate") [.ref t]) Q E s := by
  refine callType_new F.called_enumerate (by decide) (F.typeCall_enumerate_1 _) (F.newCall_enumerate_1 _) (fun ob => F.args_object_init_2 ob _) F.entry_enumerate_new
    (enum_new1 (begins_tuple t items) fun hh q => ⟨"tuple", t, _, rfl, q.choose_spec.1, q.choose_spec.2.1⟩) ⟨ht, ?_⟩
  have sz : (s.heap.push { cls := .type "tuple_iterator", data := .fields #[.ref t, .int 0 0] }).objs.size = s.heap.objs.size + 1 := Heap.size_push ..
  show _ ∧ _
  rw [sz]
  have en : IsEnum ((s.heap.push { cls := .type "tuple_iterator", data := .fields #[.ref t, .int 0 0] }).push { cls := .type "enumerate", data := .fields #[.none, .bool false, .ref s.heap.objs.size, rawInt 0, .none, .none] }) (s.heap.objs.size + 1) s.heap.objs.size 0 .none := by
    have z := Heap.get?_push_size (s.heap.push { cls := .type "tuple_iterator", data := .fields #[.ref t, .int 0 0] }) (o := { cls := .type "enumerate", data := .fields #[.none, .bool false, .ref s.heap.objs.size, rawInt 0, .none, .none] }) rfl
    rw [sz] at z
    exact z
  exact ⟨⟨_, en, rfl⟩, h _ en ⟨_, Heap.get?_push_of_some _ (Heap.get?_push_size _ rfl), rfl, rfl⟩ fun b o x => Heap.get?_push_of_some _ (Heap.get?_push_of_some _ x)⟩
end
/-- the tuple at a, each item in a new pair -/
def Itet (K : PySem.W.Frag) (a : Addr) : It where
  go := fun i H => ∃ (xs : List V) (x : V), SqT K H a xs ∧ xs[i]? = some x
  yld := fun i H v H' => ∃ T x, v = .ref T ∧ H T = none ∧ H' = upd H T (.tup [.int (i : Nat), x]) ∧ ∀ xs, SqT K H a xs → xs[i]? = some x
  stop := fun i H => ∃ xs : List V, SqT K H a xs ∧ xs.length = i
theorem turn_enumT {P : Program} {w : World} {K : PySem.W.Frag} {elts : List Expr} {kk : Nat} {tpos : Pos} (a e it : Addr) :
    Turn P w K (.Tuple elts kk tpos) (Itet K a) [e, it] e (fun i h => (∃ old, IsEnum h e it ((i : Nat) : Int) old) ∧ h.IsTupleIter it a i ∧ e ≠ it ∧ a ≠ it ∧ a ≠ e) where
  mem := by simp
  obj := fun i h st b hb => by
    obtain ⟨⟨old, he⟩, ⟨o, ho, hc, hd⟩, _⟩ := st
    rcases (show b = e ∨ b = it by simpa using hb) with z | z
    · subst z; exact ⟨_, he, fun v q => nomatch q⟩
    · subst z; exact ⟨o, ho, fun v q => by rw [hd] at q; cases q⟩
  keep := fun i h h' st k => let ⟨⟨old, he⟩, hi, hne⟩ := st; ⟨⟨old, k e (by simp) _ he⟩, hi.at fun o q => k it (by simp) o q, hne⟩
  item := by
    intro X hP hw hK hc i pins s σ H E I hf st hg
    subst hP hw hK
    obtain ⟨⟨old, he⟩, hit, hne, hai, hae⟩ := st
    obtain ⟨xs, x, hq, hx⟩ := hg
    obtain ⟨its, rv, p, hz⟩ := I.tuple hq
    obtain ⟨u, hu, ru⟩ := rv.get hx
    have lte : e < s.heap.objs.size := Heap.lt_size he
    have lti : it < s.heap.objs.size := by obtain ⟨_, q, _⟩ := hit; exact Heap.lt_size q
    have hlt : i < its.toArray.size := by
      have := (List.getElem?_eq_some_iff.mp hu).1
      simpa using this
    refine wpAny_pyNext_enum_itemD (Draws.tuple (prog := X.prog) (w := X.w) (A := X.A.in1) (I.ok.hd hc) it a hai its.toArray) (i := i) he ⟨hit, p⟩ hlt hne (by simp [hne, Ne.symm hae]) fun y h' tk hy ho hst hT hsz hk => ?_
    have : y = u := by
      have h2 : its[i]? = some y := by simpa using hy
      rw [hu] at h2
      exact (Option.some.inj h2).symm
    subst this
    refine ⟨_, rfl, wpAny_letOwnedTupleGo_enum (s := { s with heap := h', toks := tk + 1 }) ho fun h2 he2 sb => ?_⟩
    have hT2 : h2.get? s.heap.objs.size = some { cls := .type "tuple", data := .seq #[.int i tk, y] } := (sb.2 _ (Nat.ne_of_gt lte)).trans hT
    have nw : ObjOk X.prog X.w (upd H s.heap.objs.size (.tup [.int (i : Nat), x])) h2 s.heap.objs.size (.tup [.int (i : Nat), x]) :=
      ⟨by show 2 ≤ sizeLine; decide, [.int i tk, y], .cons ⟨_, rfl⟩ (.cons ru .nil), ⟨_, hT2, rfl, _, rfl⟩⟩
    have I1 : Inv X pins σ (upd H s.heap.objs.size (.tup [.int (i : Nat), x])) { s with heap := h2, toks := tk + 1 } :=
      I.turnedNew (ch := [e, it]) (fun b ob hb q => (sb.2 b (fun z => hb (by simp [z]))).trans (hk b ob (fun z => hb (by simp [z])) (fun z => hb (by simp [z])) q)) hf (Nat.le_refl _) nw
    refine ⟨.ref s.heap.objs.size, _, I1, rfl, ⟨_, x, rfl, I.hok.fresh (Nat.le_refl _), rfl, fun ys hy => by rw [I.tuple_inj hy hq]; exact hx⟩, ⟨⟨y, ?_⟩, hst.1.at fun o q => (sb.2 it (Ne.symm hne)).trans q, hne, hai, hae⟩, fun b hb => ?_⟩
    · rw [show ((i + 1 : Nat) : Int) = (i : Int) + 1 by omega]
      exact he2
    · have lb : b < s.heap.objs.size := by
        rcases (show b = e ∨ b = it by simpa using hb) with z | z
        · rw [z]; exact lte
        · rw [z]; exact lti
      rw [upd_ne (Nat.ne_of_lt lb)]
      exact (hf b hb).1
  done := by
    intro X hP hw hK hc i pins s σ H E I hf st hg
    subst hP hw hK
    obtain ⟨⟨old, he⟩, hit, hne, hai, hae⟩ := st
    obtain ⟨xs, hq, hx⟩ := hg
    obtain ⟨its, rv, p, hz⟩ := I.tuple hq
    obtain ⟨f0, f1, f2, f3, f4, f5⟩ := hf it (by simp)
    have hl := rv.length
    have ei : its.toArray.size = i := by rw [List.size_toArray]; omega
    exact wpAny_pyNext_enum_endD (Draws.tuple (prog := X.prog) (w := X.w) (A := X.A.in1) (I.ok.hd hc) it a hai its.toArray) he ⟨by rw [ei]; exact hit, p⟩ fun h' eb => ⟨rfl, I.turned (t' := s.toks) (fun b o hb q => eb b o hb q) f0 f1 f3 f4 f5⟩
  self := fun A i s Q E st h => let ⟨⟨_, he⟩, _⟩ := st; wpAny_pyIter_enum he h
def iEnumT (K : PySem.W.Frag) (ta : TA) : TI := fun σ H R => ta σ H fun vs H1 => ∃ a xs, vs = [.ref a] ∧ SqT K H1 a xs ∧ R (Itet K a) H1
theorem pi_enumT {X : Cx} {e : Expr} {ta : TA} {p pos tpos : Pos} {elts : List Expr} {kk : Nat} (hg : Gl X "enumerate") (hm : X.mg "enumerate" = none) (ha : PA X [e] ta) (hs : starEach [e] X.env = [(false, eval e X.env)] := by rfl) :
    PI X (.Tuple elts kk tpos) (.Call (.Name "enumerate" p) [e] [] pos) (iEnumT X.K ta) := by
  refine ⟨fun pins s σ H R I h => ?_⟩
  refine Call_ (ld_blt I hg hm boot_enumerate (PyProof.Rows.callWith_type1 (thn (ha.run pos pins s σ H _ I h) fun us s1 ⟨vs, H1, I1, rv1, q1⟩ => ?_) hs rfl))
  obtain ⟨a, xs, rfl, hq, q⟩ := q1
  obtain ⟨u, rfl, ru⟩ := vals1 rv1
  cases ru
  obtain ⟨its, rv, pl, hz⟩ := I1.tuple hq
  have la : a < s1.heap.objs.size := pl.lt
  refine enum_tup pl fun h' he hit hk => wpAny_pyIter_enum he ?_
  have I2 : Inv X pins σ H1 { s1 with heap := h' } := I1.kept (t' := s1.toks) hk
  refine ⟨s1.heap.objs.size + 1, [s1.heap.objs.size + 1, s1.heap.objs.size], _, _, H1, rfl, I2, turn_enumT a (s1.heap.objs.size + 1) s1.heap.objs.size, ⟨⟨.none, he⟩, hit, Nat.succ_ne_self _, Nat.ne_of_lt la, Nat.ne_of_lt (Nat.lt_succ_of_lt la)⟩, fun b hb => ?_, q⟩
  have hle : s1.heap.objs.size ≤ b := by
    rcases (show b = s1.heap.objs.size + 1 ∨ b = s1.heap.objs.size by simpa using hb) with z | z
    · rw [z]; exact Nat.le_succ _
    · rw [z]; exact Nat.le_refl _
  exact I1.fpOk hle (I1.hok.fresh hle)
theorem walk_enumT {K : PySem.W.Frag} {a : Addr} {xs : List V} : Walk (Itet K a) xs.length (fun H => SqT K H a xs ∧ ∀ ys, SqT K H a ys → ys = xs) (YPair (fun i => some (.int (i : Nat))) (fun i => xs[i]?)) := by
  refine ⟨fun i _ hi q => ⟨xs, xs[i], q.1, by simp [hi]⟩, fun _ q => ⟨xs, q.1, rfl⟩, fun i H v H' _ q y => ?_⟩
  obtain ⟨T, x, e1, e2, e3, e4⟩ := y
  exact ⟨T, .int (i : Nat), x, e1, e2, e3, rfl, e4 xs q.1⟩
end Ll
end

section
set_option Elab.async false
set_option linter.all false
set_option maxRecDepth 100000
set_option maxHeartbeats 2000000
/-! Ll: dicts whose keys are tuples: values(), max of them, update, a dict comprehension. -/
namespace Ll
open PySem PySem.Spec PyProof.Rows L2
abbrev TK := List L2.Key
/-- a view of d's values -/
def valsO (p d : Addr) : HO := .ext fun h => h.IsValuesView p d
theorem valsO_ok {P : Program} {w : World} {H : Hp} {h : Heap} {p d : Addr} (e : h.get? p = some { cls := .type "dict_values", data := .fields #[.ref d] }) : ObjOk P w H h p (valsO p d) :=
  ⟨⟨_, e, rfl, rfl⟩, ⟨_, e⟩, fun _ _ x k => let ⟨o, ho, r⟩ := x; ⟨o, k o ho, r⟩⟩
section
variable {X : Cx}
def rVals : V → List V → Hp → VK → Prop := fun x xs H Q => ∃ (a : Addr) (kvs : List (TK × V)), x = .ref a ∧ xs = [] ∧ H a = some (.dT kvs) ∧ ∀ p, H p = none → Q (.ref p) (upd H p (valsO p a))
theorem mt_vals : MtR X "dict.values" rVals := by
  rintro pins s σ H x xs v us Q I rx rxs ⟨a, kvs, rfl, rfl, ha, q⟩
  cases rx
  cases rxs
  obtain ⟨z, hsm, xs', rel, dd⟩ := dt_of I.hok ha
  obtain ⟨es, ep, hr, _⟩ := dd.raw
  refine call_meetsIn F.slot_dict_values hr.typeIs F.entry_dict_values (F.args_dict_values_1 _) (meets_dict_values_raw (prog := X.prog) (w := X.w) a hsm) ⟨⟨es, ep, hr⟩, ?_⟩
  exact ⟨.ref s.heap.objs.size, upd H s.heap.objs.size (valsO s.heap.objs.size a), I.laid (t' := s.toks) (fun b u e => Heap.get?_push_of_some _ e) (Nat.le_refl _) (valsO_ok (Heap.get?_push_size _ rfl)), rfl, q _ (I.hok.fresh (Nat.le_refl _))⟩
def rMaxVals : List V → Hp → VK → Prop := fun vs H Q => ∃ (p a : Addr) (kvs : List (TK × V)) (ns : List Int), vs = [.ref p] ∧ H p = some (valsO p a) ∧ H a = some (.dT kvs) ∧ kvs.map Prod.snd = ns.map V.int ∧ 0 < ns.length ∧
  ∀ m, m ∈ ns → (∀ y, y ∈ ns → y ≤ m) → Q (.int m) H
theorem cr_maxVals (hc : X.calm = true) : CallR X (.builtin "max") rMaxVals := by
  rintro pins s σ H vs us Q I r ⟨p, a, kvs, ns, rfl, hp, ha, hns, hpos, q⟩
  rw [Vals.ref1 r]
  obtain ⟨z, hsm, xs, rel, dd⟩ := dt_of I.hok ha
  obtain ⟨es, ep, hr, hsz, hent⟩ := dd.raw
  have hv : s.heap.IsValuesView p a := (show ObjOk X.prog X.w H s.heap p (valsO p a) from I.hok p _ hp).1
  have hl1 : kvs.length = xs.length := Paired.length rel
  have hl2 : kvs.length = ns.length := by
    have e := congrArg List.length hns
    rw [List.length_map, List.length_map] at e
    exact e
  have hP : ∀ (i : Nat) (v : Value), (∃ hi : i < es.size, v = es[i].val) → ∃ t, v = .int (ns.getD i 0) t := fun i v ⟨hi, ev⟩ => by
    obtain ⟨y, hy, _, e2, _⟩ := hent i hi
    obtain ⟨kv, hkv, _, _, r2⟩ := L2.DX.pget rel hy
    have hi3 : i < ns.length := by omega
    have e3 : (kvs.map Prod.snd)[i]? = (ns.map V.int)[i]? := by rw [hns]
    rw [List.getElem?_map, List.getElem?_map, hkv, List.getElem?_eq_getElem hi3] at e3
    have e4 : kv.2 = V.int ns[i] := Option.some.inj e3
    rw [e4, ← e2, ← ev] at r2
    obtain ⟨t, et⟩ := r2
    exact ⟨t, by rw [et, List.getD_eq_getElem?_getD, List.getElem?_eq_getElem hi3]; rfl⟩
  have hal : a < s.heap.objs.size := Heap.lt_size hr.choose_spec.1
  refine call_max_walk ?_
  refine wpAny_pyIter_values_raw hv hr ?_
  refine ⟨s.heap.objs.size, [s.heap.objs.size, a], [s.heap.objs.size], es.size, fun i v => ∃ hi : i < es.size, v = es[i].val, _, fun i j => decide (ns.getD i 0 > ns.getD j 0), rfl, Walks.rawValues (show X.A.in1.handled = none from I.ok.hd hc) _ a (Nat.ne_of_lt hal) es ep,
    ⟨⟨_, Heap.get?_push_size _ rfl, rfl, rfl⟩, hr.at fun o e => Heap.get?_push_of_some _ e⟩, fun b hb => ?_, by omega, CmpOf.ints_gt (fun i => ns.getD i 0) (fun i v z => hP i v z), fun v h' tk hv' hk => ?_⟩
  · show b < (s.heap.push _).objs.size
    rw [Heap.size_push]
    rcases List.mem_cons.mp hb with z | z
    · rw [z]
      exact Nat.lt_succ_self _
    · rw [List.mem_singleton.mp z]
      exact Nat.lt_succ_of_lt hal
  · obtain ⟨t, rfl⟩ := hP _ _ hv'
    obtain ⟨m1', m2'⟩ := argBest_gt (fun i => ns.getD i 0) (es.size - 1)
    have m1 : argBest (fun i j => decide (ns.getD i 0 > ns.getD j 0)) (es.size - 1) ≤ es.size - 1 := m1'
    have m2 : ∀ j, j ≤ es.size - 1 → ns.getD j 0 ≤ ns.getD (argBest (fun i j => decide (ns.getD i 0 > ns.getD j 0)) (es.size - 1)) 0 := m2'
    have keep : ∀ b o, s.heap.get? b = some o → h'.get? b = some o := fun b o e => hk b o (fun z => by rw [List.mem_singleton.mp z] at e; exact absurd (Heap.lt_size e) (Nat.lt_irrefl _)) (Heap.get?_push_of_some _ e)
    refine ⟨.int _, H, I.kept (t' := tk) keep, ⟨t, rfl⟩, q _ (PySem.getD_mem (by omega)) fun y hy => ?_⟩
    obtain ⟨j, hj, e⟩ := List.mem_iff_getElem.mp hy
    have z := m2 j (by omega)
    have ej : ns.getD j 0 = y := by rw [List.getD_eq_getElem?_getD, List.getElem?_eq_getElem hj, ← e] <;> rfl
    rw [ej] at z
    exact z
/-- d.update(e) -/
def rUpdT : V → List V → Hp → VK → Prop := fun x xs H Q => ∃ (a b : Addr) (kvs more : List (TK × V)), x = .ref a ∧ xs = [.ref b] ∧ a ≠ b ∧ H a = some (.dT kvs) ∧ H b = some (.dT more) ∧ kvs ≠ [] ∧ kvs.length + more.length ≤ sizeLine ∧
  Q .non (upd H a (.dT (more.foldl (fun acc p => putK acc p.1 p.2) kvs)))
theorem kt_all {H : Hp} : ∀ {more : List (TK × V)} {ys : List (TK × Addr × Value)} {kvs : List (TK × V)} {xs : List (TK × Addr × Value)}, KT H more ys → KT H kvs xs →
    KT H (more.foldl (fun acc p => putK acc p.1 p.2) kvs) (storedAllH xs ys) := by
  intro more ys kvs xs r
  induction r generalizing kvs xs with
  | nil => intro q; exact q
  | @cons p y ps yt h t ih =>
    intro q
    have z := ih (q.put p.1 h.2.1 h.2.2)
    unfold storedAllH at z ⊢
    rw [List.foldl_cons, List.foldl_cons, ← h.1]
    exact z
theorem foldPut_len : ∀ (more kvs : List (TK × V)), (more.foldl (fun acc p => putK acc p.1 p.2) kvs).length ≤ kvs.length + more.length
  | [], kvs => by simp
  | p :: ps, kvs => by
    have h1 := foldPut_len ps (putK kvs p.1 p.2)
    have h2 := length_putK kvs p.1 p.2
    simp only [List.foldl_cons, List.length_cons]
    omega
theorem mt_updT (hu : X.A.units + 65 < cLine) : MtR X "dict.update" rUpdT := by
  rintro pins s σ H x xs v us Q I rx rxs ⟨a, b, kvs, more, rfl, rfl, hab, ha, hb, hne, hz, q⟩
  cases rx
  obtain ⟨u, rfl, ru⟩ := vals1 rxs
  cases ru
  obtain ⟨z1, s1, xs1, r1, d1⟩ := dt_of I.hok ha
  obtain ⟨z2, s2, xs2, r2, d2⟩ := dt_of I.hok hb
  have e1 : kvs.length = xs1.length := Paired.length r1
  have e2 : more.length = xs2.length := Paired.length r2
  refine call_update_dictH (tupleKind_room_in1 (by show X.A.units + 1 < cLine; omega)) hab s2 d1 d2 (.inl fun e => hne (by rw [e] at e1; exact List.eq_nil_of_length_eq_zero e1)) (by omega) fun h' dd _ hs => ?_
  obtain ⟨qo, es, ep, hq, h2, h3, h4, _, h5⟩ := dd
  refine ⟨.non, _, d_write (t' := s.toks) (ob := .dT (more.foldl (fun acc p => putK acc p.1 p.2) kvs)) I (by rw [ha]; exact True.intro) hs ⟨qo, hq⟩ ⟨Nat.le_trans (foldPut_len more kvs) hz, s1, _, (kt_all r2 r1).keeps fun c ys ec => ?_, qo, es, ep, hq, h2, h3, h4, h5⟩, rfl, q⟩
  rw [upd_ne (ne_of ec ha (fun z => nomatch z))]
  exact ec
end
end Ll
end

section
set_option Elab.async false
set_option linter.all false
set_option maxRecDepth 100000
set_option maxHeartbeats 4000000
/-! Ll: {k: v for ..} whose keys are tuples. -/
namespace Ll
open PySem PySem.Spec PyProof.Rows L2
/-- a pair stored in the tracked dict with tuple keys -/
theorem dset_tup {X : Cx} {pins : List (Addr × Obj)} {σ : L2.St} {H : Hp} {s : Shared} {E : Value → Shared → Prop} {d b : Addr} {kvs : List (TK × V)} {k : TK} {z : V} {r : Value} {Q : Unit → Shared → Prop} (hu : X.A.units + 65 < cLine) (I : Inv X pins σ H s)
    (hd : H d = some (.dT kvs)) (hb : H b = some (.tup (k.map L2.kV))) (hl : kvs.length < sizeLine) (rz : RelV z r) (q : ∀ s', Inv X pins σ (upd H d (.dT (putK kvs k z))) s' → Q () s') : wpAny (model X.prog X.w) X.A (dictSet d (.ref b) r) Q E s := by
  obtain ⟨h1, sm, ys, rel, dd⟩ := dt_of I.hok hd
  have len1 : kvs.length = ys.length := Paired.length rel
  have len2 := length_putK kvs k z
  refine wpAny_dictSet_heap (hsz := by omega) (show X.A.units < cLine by omega) (key_of I.hok hb) dd fun h' d2 sb => q _ ?_
  obtain ⟨o, es, ep, ho, e2, e3, e4, _, e5⟩ := d2
  refine d_write (ob := .dT (putK kvs k z)) I (by rw [hd]; exact True.intro) sb ⟨o, ho⟩ ⟨by omega, sm, _, (rel.put k hb rz).keeps fun c vs hc => ?_, o, es, ep, ho, e2, e3, e4, e5⟩
  rw [upd_ne (ne_of hc hd (fun z => nomatch z))]
  exact hc
/-- the reading: D the new dict -/
def tDcT (wi : TI) (g : TG) (tt : TT) (tk tv : TE) (vs : List Nat) : TE := fun σ H Q => wi σ H fun J H1 => ∀ D, H1 D = none → ∃ W : Nat → Nat → Hp → Prop, (∃ m, W 0 m (upd H1 D (.dT []))) ∧ ∀ i m H, W i m H →
  (J.stop i H ∧ Q (.ref D) H) ∨ (J.go i H ∧ ∃ Nx : Hp → Prop, (∀ H', Nx H' → ∃ m', m' < m ∧ W (i + 1) m' H') ∧ ∀ x H', J.yld i H x H' → g x (wipe σ vs) H' fun σ2 H2 => wipe σ2 vs = wipe σ vs ∧ tt σ2 H2 fun b H3 =>
    if b = true then tk σ2 H3 fun y H4 => tv σ2 H4 fun z H5 => ∃ kvs k b, y = .ref b ∧ H5 b = some (.tup (k.map L2.kV)) ∧ H5 D = some (.dT kvs) ∧ kvs.length < sizeLine ∧ Nx (upd H5 D (.dT (putK kvs k z))) else Nx H3)
section
variable {X : Cx}
theorem dcT_run {pins : List (Addr × Obj)} {s₀ : Shared} {σ : L2.St} {H₀ : Hp} {Q : VK} {kx vx tg iter : Expr} {ifs : List Expr} {scope : Scope} {own : List (Str × Nat)} {pos pos' : Pos} {wi : TI} {g : TG} {tt : TT} {tk tv : TE} {Qf : Value → Shared → Prop}
    (hu : X.A.units + 65 < cLine) (calm : X.calm = true) (nd : X.N.Nodup) (I0 : Inv X pins σ H₀ s₀) (hi : PI X tg iter wi) (ok : BlkOk X.N X.env.scope scope own)
    (hg : ∀ (s : Shared) (H : Hp) (C : Addr) (cl : List (Str × Addr)) (fp : List Addr), PG (X.blk s H scope (compEnvC scope cl C X.env) fp) tg g)
    (ht : ∀ (s : Shared) (H : Hp) (C : Addr) (cl : List (Str × Addr)) (fp : List Addr), PTs (X.blk s H scope (compEnvC scope cl C X.env) fp) ifs tt)
    (hk : ∀ (s : Shared) (H : Hp) (C : Addr) (cl : List (Str × Addr)) (fp : List Addr), PE (X.blk s H scope (compEnvC scope cl C X.env) fp) kx tk)
    (hv : ∀ (s : Shared) (H : Hp) (C : Addr) (cl : List (Str × Addr)) (fp : List Addr), PE (X.blk s H scope (compEnvC scope cl C X.env) fp) vx tv)
    (fold : ∀ x, foldedSetIterable iter X.env x = pure x) (read : tDcT wi g tt tk tv (own.map (·.2)) σ H₀ Q)
    (post : ∀ D C s' m H', Inv X pins σ H' s' → Q (.ref D) H' → s'.heap.Ns C m → FpOk X pins H' C → compPost (model X.prog X.w) X.A X.xe none Qf (.ref D) C (.ok .next) s') :
    wpAny (model X.prog X.w) X.A (comprehension (.DictComp kx vx [⟨tg, iter, ifs, 0⟩] scope pos) scope X.env pos' newDict false (eval iter X.env) none) Qf X.xe s₀ := by
  have cells : ∀ y ∈ scope.names, y.2 = .free → ∃ c, X.env.cells.lookup y.1 = some c := fun y my ey => (ok.free y my ey).elim (fun z => I0.ok.has _ (.inl z)) fun z => I0.ok.has _ (.inr z)
  refine wpAny_comprehension_free (use := none) rfl fold (closure_ok cells) ok.kind (fun y my ey => by rw [ok.uniq y my, ey]) (thn (hi.run pins s₀ σ H₀ _ I0 read) fun xv s1 h1 => thn h1 fun iv s2 h2 => ?_)
  obtain ⟨it, fp, tn, J, H2, rfl, I2, T, on0, fp0, rd⟩ := h2
  refine wpAny_newObj_type (newEnv_comp ?_)
  generalize eD : s2.heap.objs.size = D
  have free2 : H2 D = none := I2.hok.fresh (Nat.le_of_eq eD)
  obtain ⟨W, ⟨n0, w0⟩, turn⟩ := rd D free2
  generalize e3 : ({ s2 with heap := s2.heap.push { cls := .type "dict", data := .dict #[] } } : Shared) = s3
  have heap3 : s3.heap = s2.heap.push { cls := .type "dict", data := .dict #[] } := by rw [← e3]
  have I3 : Inv X pins σ (upd H2 D (.dT [])) s3 := by
    subst e3
    refine I2.laid (t' := s2.toks) (fun b o e => Heap.get?_push_of_some _ e) (Nat.le_of_eq eD) ?_
    subst eD
    exact dt_empty s2.heap I2.big
  have below : ∀ b ∈ fp, b < s2.heap.objs.size := fun b hb => let ⟨_, e, _⟩ := T.obj _ _ on0 b hb; Heap.lt_size e
  have fp3 : ∀ b ∈ fp, FpOk X pins (upd H2 D (.dT [])) b ∧ b < s3.heap.objs.size := fun b hb => by
    have lb := below b hb
    have nb : b ≠ D := by subst eD; exact Nat.ne_of_lt lb
    refine ⟨⟨?_, (fp0 b hb).2⟩, ?_⟩
    · rw [upd_ne nb]; exact (fp0 b hb).1
    · rw [heap3, Heap.size_push]; exact Nat.lt_succ_of_lt lb
  have on3 : tn 0 s3.heap := T.keep _ _ _ on0 fun b _ o e => by rw [heap3]; exact Heap.get?_push_of_some _ e
  have I4 := block_start I3 ok nd fp3
  generalize eH : upd H2 D (.dT []) = H3 at I3 I4 w0 fp3
  have pG := hg s3 H3 s3.heap.objs.size (cellsFrom (s3.heap.objs.size + 1) scope.names (cloFrom X.env.cells scope.names [])) fp
  have pT := ht s3 H3 s3.heap.objs.size (cellsFrom (s3.heap.objs.size + 1) scope.names (cloFrom X.env.cells scope.names [])) fp
  have pK := hk s3 H3 s3.heap.objs.size (cellsFrom (s3.heap.objs.size + 1) scope.names (cloFrom X.env.cells scope.names [])) fp
  have pV := hv s3 H3 s3.heap.objs.size (cellsFrom (s3.heap.objs.size + 1) scope.names (cloFrom X.env.cells scope.names [])) fp
  show codeAny _ _ (.compStart (.DictComp kx vx [⟨tg, iter, ifs, 0⟩] scope pos) 0 (.ref it) (.ref D) (compEnvC scope (cellsFrom (s3.heap.objs.size + 1) scope.names (cloFrom X.env.cells scope.names [])) s3.heap.objs.size X.env)) _ { s3 with heap := pushCells (s3.heap.push { cls := .type "dict", data := .dict #[] }) scope.names }
  generalize eC : compEnvC scope (cellsFrom (s3.heap.objs.size + 1) scope.names (cloFrom X.env.cells scope.names [])) s3.heap.objs.size X.env = ce at I4 pG pT pK pV ⊢
  have locC : ce.locals = s3.heap.objs.size := by rw [← eC]; rfl
  generalize e4 : ({ s3 with heap := pushCells (s3.heap.push { cls := .type "dict", data := .dict #[] }) scope.names } : Shared) = s4 at I4 ⊢
  have on4 : tn 0 s4.heap := T.keep _ _ _ on3 fun b _ o e => by subst e4; exact pushCells_keeps _ _ _ _ (Heap.get?_push_of_some _ e)
  have fixed : ∀ {σ' : L2.St} {H' : Hp} {s' : Shared}, Inv (X.blk s3 H3 scope ce fp) [] σ' H' s' → (∀ b ∈ fp, H' b = none) → ∀ b ∈ fp, FpOk (X.blk s3 H3 scope ce fp) [] H' b := fun {σ' H' s'} I' z b hb =>
    ⟨z b hb, (I'.ok.exf b hb).1, I'.ok.exfs b hb, .inl hb, fun x c e => (I'.ok.exf b hb).2 x c e, fun p hp => by have : p ∈ ([] : List (Addr × Obj)) ++ [] := hp; simp at this⟩
  have loop : codeAny (model X.prog X.w) X.A (.compLoop (.DictComp kx vx [⟨tg, iter, ifs, 0⟩] scope pos) 0 (.ref it) (.ref D) ce) (compPost (model X.prog X.w) X.A X.xe none Qf (.ref D) s3.heap.objs.size) s4 := by
    refine compLoop_anyD (fun n s' => ∃ i H', Inv (X.blk s3 H3 scope ce fp) [] (wipe σ (own.map (·.2))) H' s' ∧ tn i s'.heap ∧ (∀ b ∈ fp, H' b = none) ∧ W i n H') ?_ n0 ⟨0, H3, I4, on4, fun b hb => (fp3 b hb).1.1, w0⟩
    rintro n s5 ⟨i, H5, I5, on5, free5, w5⟩
    rcases turn i n H5 w5 with ⟨stop, done⟩ | ⟨go, Nx, next, step⟩
    · refine thnF (T.done (X.blk s3 H3 scope ce fp) rfl rfl rfl calm i [] s5 _ H5 (fun _ _ => False) I5 (fixed I5 free5) on5 stop) fun r s6 ⟨er, I6⟩ => ?_
      subst er
      have back : Inv X pins σ H5 s6 := I3.call' (ch := fp) I6.os I6.base I6.hok I6.bare fun b hb => let z := (fp3 b hb).1; ⟨z.2.2.2.1, z.2.1, z.2.2.2.2.1, z.2.2.2.2.2⟩
      have freeC : H5 s3.heap.objs.size = none := by
        have z : H5 ce.locals = none := I6.free
        rw [locC] at z; exact z
      obtain ⟨mm, hn, _⟩ := I6.loc
      have hn2 : s6.heap.Ns ce.locals mm := hn
      rw [locC] at hn2
      exact post D s3.heap.objs.size s6 mm H5 back done hn2 (I3.fpOk (Nat.le_refl _) freeC)
    · refine thnF (T.item (X.blk s3 H3 scope ce fp) rfl rfl rfl calm i [] s5 _ H5 (fun _ _ => False) I5 (fixed I5 free5) on5 go) fun r s6 ⟨u, er, h6⟩ => ?_
      subst er
      refine thnF h6 fun _ s7 ⟨x, H7, I7, r7, y7, on7, free7⟩ => ?_
      refine thnF (pG.run _ s7 _ H7 x u _ (I7.pinned (fixed I7 free7) (T.obj _ _ on7)) r7 (step x H7 y7)) fun _ s8 ⟨σ8, H8, I8, wip, q8⟩ => ?_
      refine thnF (pT.run _ s8 σ8 H8 _ I8 q8) fun b s9 ⟨H9, I9, q9⟩ => ?_
      have turned : ∀ {s' : Shared} {H' : Hp}, Inv (X.blk s3 H3 scope ce fp) ([] ++ pinsAt fp s7.heap) σ8 H' s' → Nx H' → ∃ m, m < n ∧ ∃ i H', Inv (X.blk s3 H3 scope ce fp) [] (wipe σ (own.map (·.2))) H' s' ∧ tn i s'.heap ∧ (∀ b ∈ fp, H' b = none) ∧ W i m H' := fun {s' H'} I' nx => by
        obtain ⟨m', lt, w'⟩ := next H' nx
        have pin : ∀ b ∈ fp, ∀ o, s7.heap.get? b = some o → s'.heap.get? b = some o ∧ H' b = none := fun b hb o e =>
          let z := I'.pin (b, o) (List.mem_append_right _ (List.mem_append_right _ (mem_pinsAt hb e))); ⟨z.1, z.2.1⟩
        refine ⟨m', lt, i + 1, H', (I'.unpinned (pins := [])).weak (by rw [← wip, wipe_length]) (fun j v e => ?_), T.keep _ _ _ on7 fun b hb o e => (pin b hb o e).1, fun b hb => ?_, w'⟩
        · rw [← wip] at e; exact (wipe_some e).1
        · obtain ⟨o, e, _⟩ := T.obj _ _ on7 b hb
          exact (pin b hb o e).2
      cases b with
      | false => exact turned I9 q9
      | true =>
        have q9' : tk σ8 H9 _ := q9
        refine thnF (pK.run _ s9 σ8 H9 _ I9 q9') fun kv sA ⟨yk, HA, IA, rA, qA⟩ => ?_
        refine thnF (pV.run _ sA σ8 HA _ IA qA) fun vv sB ⟨yv, HB, IB, rB, kvs, k, bb, ek, hbb, hDB, lz, nx⟩ => ?_
        subst ek
        cases (show kv = Value.ref bb from rA)
        exact dset_tup (X := X.blk s3 H3 scope ce fp) hu IB hDB hbb lz rB fun sC IC => turned IC nx
  exact codeAny_compStart_dict loop (T.self X.A 0 _ _ _ on4 loop)
theorem pe_dcT {kx vx tg iter : Expr} {ifs : List Expr} {scope : Scope} {own : List (Str × Nat)} {pos : Pos} {wi : TI} {g : TG} {tt : TT} {tk tv : TE} (hu : X.A.units + 65 < cLine) (calm : X.calm = true) (nd : X.N.Nodup) (hi : PI X tg iter wi) (ok : BlkOk X.N X.env.scope scope own)
    (hg : ∀ (s : Shared) (H : Hp) (C : Addr) (cl : List (Str × Addr)) (fp : List Addr), PG (X.blk s H scope (compEnvC scope cl C X.env) fp) tg g)
    (ht : ∀ (s : Shared) (H : Hp) (C : Addr) (cl : List (Str × Addr)) (fp : List Addr), PTs (X.blk s H scope (compEnvC scope cl C X.env) fp) ifs tt)
    (hk : ∀ (s : Shared) (H : Hp) (C : Addr) (cl : List (Str × Addr)) (fp : List Addr), PE (X.blk s H scope (compEnvC scope cl C X.env) fp) kx tk)
    (hv : ∀ (s : Shared) (H : Hp) (C : Addr) (cl : List (Str × Addr)) (fp : List Addr), PE (X.blk s H scope (compEnvC scope cl C X.env) fp) vx tv)
    (fold : ∀ x, foldedSetIterable iter X.env x = pure x := by intro _; rfl) : PE X (.DictComp kx vx [⟨tg, iter, ifs, 0⟩] scope pos) (tDcT wi g tt tk tv (own.map (·.2))) := by
  refine ⟨fun pins s σ H Q I h => ?_⟩
  rw [arm_eval_DictComp]
  refine dcT_run hu calm nd I hi ok hg ht hk hv fold h fun D C s' m H' I' q hn f => ⟨m, hn, fun h2 sb => ?_⟩
  obtain ⟨f0, f1, f2, f3, f4, f5⟩ := f
  exact ⟨.ref D, H', I'.turned (t' := s'.toks) (fun b o hb e => (sb.2 b hb).trans e) f0 f1 f3 f4 f5, rfl, q⟩
end
end Ll
end

section
set_option Elab.async false
set_option linter.all false
/-! Ll: a walk read in one of two ways. -/
namespace Ll
open PySem PySem.Spec PyProof.Rows L2
def iEither (a b : TI) : TI := fun σ H R => a σ H R ∨ b σ H R
theorem pi_either {X : Cx} {tg e : Expr} {a b : TI} (h1 : PI X tg e a) (h2 : PI X tg e b) : PI X tg e (iEither a b) :=
  ⟨fun pins s σ H R I h => h.elim (h1.run pins s σ H R I) (h2.run pins s σ H R I)⟩
/-- over a dict that is locked already, or is to be -/
def tLockQ (t : TE) : TE := fun σ H Q => t σ H Q ∨ tLockE t σ H Q
def sLockQ (t : TS) : TS := fun D σ H => t D σ H ∨ tLock t D σ H
theorem pe_lockQ {X : Cx} {e : Expr} {t : TE} (h : PE X e t) : PE X e (tLockQ t) :=
  ⟨fun pins s σ H Q I z => z.elim (h.run pins s σ H Q I) ((pe_lock h).run pins s σ H Q I)⟩
theorem ps_lockQ {X : Cx} {st : Stmt} {t : TS} (h : PS X st t) : PS X st (sLockQ t) :=
  ⟨fun pins s σ H D I z => z.elim (h.run pins s σ H D I) ((ps_lock h).run pins s σ H D I)⟩
end Ll
end

section
set_option Elab.async false
set_option linter.all false
set_option maxRecDepth 100000
set_option maxHeartbeats 1000000
/-! Ll: tuples whose object is known to have no dict of its own; their methods. -/
namespace Ll
open PySem PySem.Spec PyProof.Rows L2
def tTupF (t : TA) : TE := fun σ H Q => t σ H fun xs H1 => xs.length ≤ sizeLine ∧ ∀ p o, o.dict = none → H1 p = none → Q (.ref p) (upd H1 p (.frz o (.tup xs)))
def tTupRgF (te : L2.St → Hp → (Int → Int → Hp → Prop) → Prop) : TE := fun σ H Q => te σ H fun a b H1 => RgOk a b ∧ ∀ q o, o.dict = none → H1 q = none → Q (.ref q) (upd H1 q (.frz o (.tup (rgV a b))))
def cTupF (K : PySem.W.Frag) : List V → Hp → VK → Prop := fun xs H Q => ∃ p ys, xs = [.ref p] ∧ SqL K H p ys ∧ ∀ l o, o.dict = none → H l = none → Q (.ref l) (upd H l (.frz o (.tup ys)))
def tBMT (r : V → List V → Hp → VK → Prop) (to : TE) (t : TA) : TE := fun σ H Q => to σ H fun x H1 => (∃ p o u, x = .ref p ∧ H1 p = some (.frz o (.tup u)) ∧ o.dict = none) ∧ t σ H1 fun xs H2 => r x xs H2 Q
section
variable {X : Cx} {es : List Expr} {e o : Expr} {t : TA} {to : TE} {pos p apos cpos : Pos}
theorem pe_tupF {x1} (h : PA X es t) : PE X (.Tuple es x1 pos) (tTupF t) := by
  refine ⟨fun pins s σ H Q I hq => ?_⟩
  refine wpAny_Tuple_spliced (thn (h.run pos pins s σ H _ I hq) fun us s1 ⟨xs, H1, I1, r, z, q⟩ => ⟨by rw [← r.length]; exact z, ?_⟩)
  have fr : H1 s1.heap.objs.size = none := I1.hok.fresh (Nat.le_refl _)
  have og := Heap.get?_push_size s1.heap (o := { cls := .type "tuple", data := .seq us.toArray }) rfl
  refine ⟨.ref s1.heap.objs.size, _, I1.laid (t' := s1.toks) (o := .frz { cls := .type "tuple", data := .seq us.toArray } (.tup xs)) (fun b u e => Heap.get?_push_of_some _ e) (Nat.le_refl _) ⟨og, z, us, r, ⟨_, og, rfl, _, rfl⟩⟩, rfl, q _ _ rfl fr⟩
theorem call_tuple_ofF : CallR X (.type "tuple") (cTupF X.K) := by
  rintro pins s σ H xs us Q I r ⟨p, ys, rfl, hq, q⟩
  obtain ⟨u, rfl, rx⟩ := vals1 r
  cases rx
  obtain ⟨its, r', pl, hz⟩ := I.list hq
  have hlen := r'.length
  refine call_tuple_list pl.isList (fun h' kp => ?_) (by simp only [List.size_toArray] <;> omega)
  have I1 : Inv X pins σ H { s with heap := h' } := I.kept (t' := s.toks) kp
  have og := Heap.get?_push_size h' (o := { cls := .type "tuple", data := .seq its.toArray }) rfl
  exact ⟨.ref h'.objs.size, _, I1.laid (t' := s.toks) (o := .frz { cls := .type "tuple", data := .seq its.toArray } (.tup ys)) (fun b o e => Heap.get?_push_of_some _ e) (Nat.le_refl _) ⟨og, hz, its, r', IsTup.new _ _⟩, rfl, q _ _ rfl (I1.hok.fresh (Nat.le_refl _))⟩
theorem pe_tupRgF {te : L2.St → Hp → (Int → Int → Hp → Prop) → Prop} (hc : X.calm = true) (hg : Gl X "tuple") (hm : X.mg "tuple" = none) (he : PRg X e te) (na : starEach [e] X.env = (false, eval e X.env) :: starEach [] X.env := by rfl) : PE X (.Call (.Name "tuple" p) [e] [] pos) (tTupRgF te) := by
  refine ⟨fun pins s σ H Q I h => ?_⟩
  refine Call_ (ld_blt I hg hm boot_tuple (PyProof.Rows.callWith_type1 (args_cons (thn (he pins s σ H _ I h) fun x s1 ⟨r, a, b, t, u, v, H1, ex, hr, I1, ok, q⟩ => args_nil ?_) na) na))
  subst ex
  obtain ⟨b1, b2, b3, b4, b5⟩ := ok
  refine call_tuple_range (n := (b - a).toNat) (I1.ok.hd hc) hr (small_one b1 b2 b3 b4) (rangeSize_nat a b) b5 fun h' tk acc hk hi => ?_
  have I2 : Inv X pins σ H1 { s1 with heap := h', toks := tk } := I1.kept hk
  have og := Heap.get?_push_size h' (o := { cls := .type "tuple", data := .seq acc }) rfl
  refine ⟨.ref h'.objs.size, _, I2.laid (t' := tk) (o := .frz { cls := .type "tuple", data := .seq acc } (.tup (rgV a b))) (fun c o e => Heap.get?_push_of_some _ e) (Nat.le_refl _) ⟨og, ?_, acc.toList, vals_rg hi, ?_⟩, rfl, q _ _ rfl (I2.hok.fresh (Nat.le_refl _))⟩
  · rw [rgV_length, sizeLine_eq]; omega
  · rw [Array.toArray_toList]; exact IsTup.new _ _
theorem pe_bmT {name : Str} {id : String} {r : V → List V → Hp → VK → Prop} (pa : PlainAttrs "tuple") (slot : Slot "tuple" name id) (hty : typeOf (.builtin id) = pure (.type "method_descriptor")) (hm : MtR X id r) (ho : PE X o to) (ha : PA X (e :: es) t)
    (hbase : attributeBase o name X.env (eval o X.env) = eval o X.env := by rfl)
    (hfew : ((backTo cpos (starEach (e :: es) X.env)).all (fun x => !x.1) && (backToKw cpos (keywordEach [] X.env)).all (fun x => x.1.isSome)
      && decide ((e :: es).length + ([] : List Keyword).length + (if ([] : List Keyword).isEmpty then 0 else 1) < 30)) = true := by rfl)
    (hline : (apos.endLine == cpos.line) = true := by rfl) (hs : starEach (e :: es) X.env = (false, eval e X.env) :: starEach es X.env := by rfl) (hplain : (backTo cpos (starEach es X.env)).any (·.1) = false := by rfl) :
    PE X (.Call (.Attribute o name apos) (e :: es) [] cpos) (tBMT r to t) := by
  refine ⟨fun pins s σ H Q I h => ?_⟩
  refine wpAny_Call_method_late hbase hfew hline rfl (thn (ho.run pins s σ H _ I h) fun v s1 ⟨x, H1, I1, r1, ty, q1⟩ => ?_)
  obtain ⟨p, oo, u, rfl, hp, hd⟩ := ty
  cases r1
  obtain ⟨og, _, its, _, it⟩ := (show ObjOk X.prog X.w H1 s1.heap p (.frz oo (.tup u)) from I1.hok p _ hp)
  obtain ⟨o2, og2, oc, _⟩ := it
  have : o2 = oo := Option.some.inj (og2.symm.trans og)
  subst this
  refine ⟨"tuple", id, pa, slot, hty, ⟨_, og, oc⟩, fun a ea => by cases ea; exact ⟨_, og, hd⟩, ?_⟩
  have hA := ha.run cpos pins s1 σ H1 _ I1 q1
  rw [hs] at hA ⊢
  refine Calls.callWith_builtin (by show (false || (backTo cpos (starEach es X.env)).any (·.1)) = false; rw [hplain] <;> rfl) (Calls.evalArgs_plain ?_)
  exact thn hA fun us s2 ⟨xs, H2, I2, r2, q2⟩ => hm pins s2 σ H2 (.ref p) xs _ us Q I2 rfl r2 q2
end
end Ll
end

section
set_option Elab.async false
set_option linter.all false
set_option maxRecDepth 100000
set_option maxHeartbeats 4000000
namespace Ll
open PySem PySem.Spec PyProof.Rows L2
section
variable {P : Program} {w : World} {K : PySem.W.Frag} {mg : Str → Option Value} {base : Heap}
abbrev N_firsts_of : List Str := ["marks", "mark"]
theorem sc_firsts_of : FnScope N_firsts_of ["marks"] (defScope (top 10)) := ⟨rfl, rfl, rfl, by decide +kernel, rfl, by decide +kernel, by decide +kernel⟩
abbrev t_firsts_of (K : PySem.W.Frag) : TS := (tRet (tLc (iList K (tVar 0)) (gName 1) tYes (tBM K "list" (rIndexD K) (tVar 0) (tCons (tVar 1) tNil)) [1]))
theorem der_firsts_of {f : Addr} {cdv : Value} {A : Around} {outer : List PySem.Env} {s : Shared} {H : Hp} {E : XK} (B : Bi mg)   (hr : Room 0 (A.deeper (envOfC "firsts_of" (defScope (top 10)) s.heap.objs.size f cdv))) :
    PSs (cxOf CX0 P w K mg base N_firsts_of "firsts_of" (defScope (top 10)) f cdv A outer s H E).nox (defBody (top 10)) (t_firsts_of K) :=
  (pss_one (ps_ret (pe_lc (own := [("mark", 1)]) (g := (gName 1)) (tt := tYes) (te := (tBM K "list" (rIndexD K) (tVar 0) (tCons (tVar 1) tNil))) rfl sc_firsts_of.nd (pi_list (pv 0)) (blkOk_by (own := [("mark", 1)]) (N := N_firsts_of) (sc := defScope (top 10)) (by decide +kernel)) (fun _ _ _ _ _ => by exact (pg_name (i := 1) sc_firsts_of.nd rfl (Or.inl rfl))) (fun _ _ _ _ _ => by exact pts_nil) (fun _ _ _ _ _ => by exact (pe_bm PySem.F.plainAttrs_list PySem.F.slot_list_index PySem.F.type_list_index (mt_indexD (u65 hr)) (pv 0) (pa_cons (pv 1) pa_nil))))))
abbrev N_blocks_of : List Str := ["marks", "firsts", "tops", "place", "first", "other"]
theorem sc_blocks_of : FnScope N_blocks_of ["marks"] (defScope (top 11)) := ⟨rfl, rfl, rfl, by decide +kernel, rfl, by decide +kernel, by decide +kernel⟩
abbrev t_blocks_of (K : PySem.W.Frag) (sp_firsts_of : Sp) : TS := (tSeq (tAsg (tCall sp_firsts_of [] E0 (tCons (tVar 0) tNil)) (gName 1))
    (tSeq (tAsg (tLc (iEnum K (tCons (tVar 1) tNil)) (gTup K 2 (gCons (gName 3) (gCons (gName 4) gNil))) (tTest (tOp rEq (tVar 4) (tVar 3))) (tVar 3) [3, 4]) (gName 2))
    (tRet (tCB (cTup K) (tCons (tLc (iList K (tVar 2)) (gName 3) tYes (tCB (cTup K) (tCons (tLc (iEnum K (tCons (tVar 1) tNil)) (gTup K 2 (gCons (gName 5) (gCons (gName 4) gNil))) (tTest (tOp rEq (tVar 4) (tVar 3))) (tVar 5) [5, 4]) tNil)) [3]) tNil)))))
theorem der_blocks_of {f : Addr} {cdv : Value} {A : Around} {outer : List PySem.Env} {s : Shared} {H : Hp} {E : XK} (B : Bi mg)  {sp_firsts_of : Sp} (c_firsts_of : Cal P w K mg base 1 "firsts_of" ["marks"] sp_firsts_of) (hr : Room 1 (A.deeper (envOfC "blocks_of" (defScope (top 11)) s.heap.objs.size f cdv))) :
    PSs (cxOf CX0 P w K mg base N_blocks_of "blocks_of" (defScope (top 11)) f cdv A outer s H E).nox (defBody (top 11)) (t_blocks_of K sp_firsts_of) :=
  (pss_cons (ps_set (i := 1) sc_blocks_of.nd rfl (Or.inr rfl) (pe_cal c_firsts_of (hr.mono (by first | decide | exact Nat.le_refl _)) (by rfl) (pa_cons (pv 0) pa_nil)))
      (pss_cons (ps_setLc (i := 2) (own := [("place", 3), ("first", 4)]) (g := (gTup K 2 (gCons (gName 3) (gCons (gName 4) gNil)))) (tt := (tTest (tOp rEq (tVar 4) (tVar 3)))) (te := (tVar 3)) rfl sc_blocks_of.nd rfl rfl (sw_true rfl rfl rfl (by decide +kernel)) (pi_enum (by rfl) B.enumerate (pa_cons (pv 1) pa_nil)) (blkOk_by (own := [("place", 3), ("first", 4)]) (N := N_blocks_of) (sc := defScope (top 11)) (by decide +kernel)) (fun _ _ _ _ _ => by exact (pg_tup rfl (pgs_cons (pg_name (i := 3) sc_blocks_of.nd rfl (Or.inl rfl)) (pgs_cons (pg_name (i := 4) sc_blocks_of.nd rfl (Or.inl rfl)) pgs_nil)))) (fun _ _ _ _ _ => by exact (pts_one (pt_cmpR op_eq (pv 4) (pv 3) (nomark _)))) (fun _ _ _ _ _ => by exact (pv 3)))
      (pss_one (ps_ret (pe_callTy call_tuple_of (by rfl) B.tuple (by decide +kernel) (pa_cons (pe_lc (own := [("place", 3)]) (g := (gName 3)) (tt := tYes) (te := (tCB (cTup K) (tCons (tLc (iEnum K (tCons (tVar 1) tNil)) (gTup K 2 (gCons (gName 5) (gCons (gName 4) gNil))) (tTest (tOp rEq (tVar 4) (tVar 3))) (tVar 5) [5, 4]) tNil))) rfl sc_blocks_of.nd (pi_list (pv 2)) (blkOk_by (own := [("place", 3)]) (N := N_blocks_of) (sc := defScope (top 11)) (by decide +kernel)) (fun _ _ _ _ _ => by exact (pg_name (i := 3) sc_blocks_of.nd rfl (Or.inr rfl))) (fun _ _ _ _ _ => by exact pts_nil) (fun _ _ _ _ _ => by exact (pe_callTy call_tuple_of (by rfl) B.tuple (by decide +kernel) (pa_cons (pe_lc (own := [("other", 5), ("first", 4)]) (g := (gTup K 2 (gCons (gName 5) (gCons (gName 4) gNil)))) (tt := (tTest (tOp rEq (tVar 4) (tVar 3)))) (te := (tVar 5)) rfl sc_blocks_of.nd (pi_enum (by rfl) B.enumerate (pa_cons (pv 1) pa_nil)) (blkOk_by (by rfl)) (fun _ _ _ _ _ => by exact (pg_tup rfl (pgs_cons (pg_name (i := 5) sc_blocks_of.nd rfl (Or.inl rfl)) (pgs_cons (pg_name (i := 4) sc_blocks_of.nd rfl (Or.inl rfl)) pgs_nil)))) (fun _ _ _ _ _ => by exact (pts_one (pt_cmpR op_eq (pv 4) (pv 3) (nomark _)))) (fun _ _ _ _ _ => by exact (pv 5))) pa_nil)))) pa_nil))))))
abbrev N_marks_of : List Str := ["many", "moves", "shows", "marks", "more", "rows", "later", "state", "row"]
theorem sc_marks_of : FnScope N_marks_of ["many", "moves", "shows"] (defScope (top 12)) := ⟨rfl, rfl, rfl, by decide +kernel, rfl, by decide +kernel, by decide +kernel⟩
abbrev t_marks_of (K : PySem.W.Frag) (sp_firsts_of : Sp) : TS := (tSeq (tAsg (tTup (tCons (tCall sp_firsts_of [] E0 (tCons (tCB (cLst K) (tCons (tVar 2) tNil)) tNil)) (tCons (tC (.bl true)) tNil))) (gTup K 2 (gCons (gName 3) (gCons (gName 4) gNil))))
    (tSeq (tWhile (tB (tVar 4)) (tSeq (tAsg (tLc (iRng1 (tCons (tVar 0) tNil)) (gName 7) tYes (tTup (tCons (tOp (rIxL K) (tVar 3) (tVar 7)) (StX.tStar K (tLc (iList K (tVar 1)) (gName 8) tYes (tOp (rIxL K) (tVar 3) (tOp (rIxT K) (tVar 8) (tVar 7))) [8]) tNil))) [7]) (gName 5))
    (tSeq (tAsg (tCall sp_firsts_of [] E0 (tCons (tVar 5) tNil)) (gName 6))
    (tSeq (tAsg (tOp (rNeD K) (tVar 6) (tVar 3)) (gName 4))
    (tAsg (tVar 6) (gName 3))))))
    (tRet (tVar 3))))
theorem der_marks_of {f : Addr} {cdv : Value} {A : Around} {outer : List PySem.Env} {s : Shared} {H : Hp} {E : XK} (B : Bi mg)  {sp_firsts_of : Sp} (c_firsts_of : Cal P w K mg base 1 "firsts_of" ["marks"] sp_firsts_of) (hr : Room 1 (A.deeper (envOfC "marks_of" (defScope (top 12)) s.heap.objs.size f cdv))) :
    PSs (cxOf CX0 P w K mg base N_marks_of "marks_of" (defScope (top 12)) f cdv A outer s H E).nox (defBody (top 12)) (t_marks_of K sp_firsts_of) :=
  (pss_cons (ps_asg (pe_tup (pa_cons (pe_cal c_firsts_of (hr.mono (by first | decide | exact Nat.le_refl _)) (by rfl) (pa_cons (pe_callTy call_list_of (by rfl) B.list (by decide +kernel) (pa_cons (pv 2) pa_nil)) pa_nil)) (pa_cons pe_bl pa_nil))) (pg_tup rfl (pgs_cons (pg_name (i := 3) sc_marks_of.nd rfl (Or.inr rfl)) (pgs_cons (pg_name (i := 4) sc_marks_of.nd rfl (Or.inl rfl)) pgs_nil))))
      (pss_cons (ps_while PassesOwn.never (pt_val (pv 4)) (pss_cons (ps_setLc (i := 5) (own := [("state", 7)]) (g := (gName 7)) (tt := tYes) (te := (tTup (tCons (tOp (rIxL K) (tVar 3) (tVar 7)) (StX.tStar K (tLc (iList K (tVar 1)) (gName 8) tYes (tOp (rIxL K) (tVar 3) (tOp (rIxT K) (tVar 8) (tVar 7))) [8]) tNil)))) rfl sc_marks_of.nd rfl rfl (sw_true rfl rfl rfl (by decide +kernel)) (pi_range1 (by rfl) B.range (pa_cons (pv 0) pa_nil)) (blkOk_by (own := [("state", 7)]) (N := N_marks_of) (sc := defScope (top 12)) (by decide +kernel)) (fun _ _ _ _ _ => by exact (pg_name (i := 7) sc_marks_of.nd rfl (Or.inr rfl))) (fun _ _ _ _ _ => by exact pts_nil) (fun _ _ _ _ _ => by exact (pe_tup (pa_cons (pe_ix ix_list (pv 3) (pv 7) (fun _ _ => rfl)) (StX.pa_star (pe_lc (own := [("row", 8)]) (g := (gName 8)) (tt := tYes) (te := (tOp (rIxL K) (tVar 3) (tOp (rIxT K) (tVar 8) (tVar 7)))) rfl sc_marks_of.nd (pi_list (pv 1)) (blkOk_by (by rfl)) (fun _ _ _ _ _ => by exact (pg_name (i := 8) sc_marks_of.nd rfl (Or.inl rfl))) (fun _ _ _ _ _ => by exact pts_nil) (fun _ _ _ _ _ => by exact (pe_ix ix_list (pv 3) (pe_ix ix_tup (pv 8) (pv 7) (fun _ _ => rfl)) (fun _ _ => rfl)))) pa_nil)))))
      (pss_cons (ps_set (i := 6) sc_marks_of.nd rfl (Or.inl rfl) (pe_cal c_firsts_of (hr.mono (by first | decide | exact Nat.le_refl _)) (by rfl) (pa_cons (pv 5) pa_nil)))
      (pss_cons (ps_set (i := 4) sc_marks_of.nd rfl (Or.inl rfl) (pe_cmpR (op_neD (u64 hr)) (pv 6) (pv 3) (nomark _)))
      (pss_one (ps_set (i := 3) sc_marks_of.nd rfl (Or.inr rfl) (pv 6)))))))
      (pss_one (ps_ret (pv 3)))))
abbrev N_Machine_init : List Str := ["self", "many", "deeds", "shows", "name", "names", "place", "moves"]
theorem sc_Machine_init : FnScope N_Machine_init ["self", "many", "deeds", "shows"] (defScope (inClass (top 14) 0)) := ⟨rfl, rfl, rfl, by decide +kernel, rfl, by decide +kernel, by decide +kernel⟩
abbrev t_Machine_init (K : PySem.W.Frag) (sp_blocks_of sp_marks_of : Sp) : TS := (tSeq (tAsg (tLc (iEither (iList K (tVar 2)) (iTup K (tVar 2))) (gTup K 2 (gCons (gName 4) (gCons (gName 7) gNil))) tYes (tVar 4) [4, 7]) (gName 5))
    (tSeq (tFor (iEnum K (tCons (tVar 5) tNil)) (gTup K 2 (gCons (gName 6) (gCons (gName 4) gNil))) (tIfS (tTest (tOp (rIn K false) (tVar 4) (tSl (rSlL K) (tVar 5) tNoPart (tPart (tVar 6))))) tNever tNext))
    (tSeq (sFld K (tVar 0) (tVar 1) "own_many")
    (tSeq (sFld K (tVar 0) (tCB (cTup K) (tCons (tCB (rSortedS K) (tCons (tVar 5) tNil)) tNil)) "own_names")
    (tSeq (sFld K (tVar 0) (tCB (cDic K) (tCons (tLc (iEither (iList K (tVar 2)) (iTup K (tVar 2))) (gTup K 2 (gCons (gName 4) (gCons (gName 7) gNil))) tYes (tTup (tCons (tVar 4) (tCons (tCB (cTup K) (tCons (tVar 7) tNil)) tNil))) [4, 7]) tNil)) "own_moves")
    (tSeq (sFld K (tVar 0) (tIf (tTest (tOp rIsNo (tVar 3) (tC .non))) (tTupRg (tRg1 (tVar 1))) (tCB (cTup K) (tCons (tVar 3) tNil))) "own_shows")
    (tSeq (sFld K (tVar 0) (tCall sp_marks_of [] E0 (tCons (tVar 1) (tCons (tLc (iTup K (tFld K (tVar 0) "own_names")) (gName 4) tYes (tDGet (tFld K (tVar 0) "own_moves") (tVar 4)) [4]) (tCons (tFld K (tVar 0) "own_shows") tNil)))) "own_marks")
    (sFld K (tVar 0) (tCall sp_blocks_of [] E0 (tCons (tFld K (tVar 0) "own_marks") tNil)) "own_kinds"))))))))
theorem der_Machine_init {f : Addr} {cdv : Value} {A : Around} {outer : List PySem.Env} {s : Shared} {H : Hp} {E : XK} (B : Bi mg)  {sp_blocks_of sp_marks_of : Sp} (c_blocks_of : Cal P w K mg base 2 "blocks_of" ["marks"] sp_blocks_of) (c_marks_of : Cal P w K mg base 2 "marks_of" ["many", "moves", "shows"] sp_marks_of) (hr : Room 2 (A.deeper (envOfC "Machine.__init__" (defScope (inClass (top 14) 0)) s.heap.objs.size f cdv))) :
    PSs (cxOf CX0 P w K mg base N_Machine_init "Machine.__init__" (defScope (inClass (top 14) 0)) f cdv A outer s H E).nox (defBody (inClass (top 14) 0)) (t_Machine_init K sp_blocks_of sp_marks_of) :=
  (pss_cons (ps_setLc (i := 5) (own := [("name", 4), ("moves", 7)]) (g := (gTup K 2 (gCons (gName 4) (gCons (gName 7) gNil)))) (tt := tYes) (te := (tVar 4)) rfl sc_Machine_init.nd rfl rfl (sw_true rfl rfl rfl (by decide +kernel)) (pi_either (pi_list (pv 2)) (pi_tup (pv 2))) (blkOk_by (own := [("name", 4), ("moves", 7)]) (N := N_Machine_init) (sc := defScope (inClass (top 14) 0)) (by decide +kernel)) (fun _ _ _ _ _ => by exact (pg_tup rfl (pgs_cons (pg_name (i := 4) sc_Machine_init.nd rfl (Or.inl rfl)) (pgs_cons (pg_name (i := 7) sc_Machine_init.nd rfl (Or.inl rfl)) pgs_nil)))) (fun _ _ _ _ _ => by exact pts_nil) (fun _ _ _ _ _ => by exact (pv 4)))
      (pss_cons (ps_for PassesOwn.never rfl (pi_enum (by rfl) B.enumerate (pa_cons (pv 5) pa_nil)) (pg_tup rfl (pgs_cons (pg_name (i := 6) sc_Machine_init.nd rfl (Or.inl rfl)) (pgs_cons (pg_name (i := 4) sc_Machine_init.nd rfl (Or.inl rfl)) pgs_nil))) (pss_one (ps_if (pt_cmpR op_in_seq (pv 4) (pe_slice sl_list (pv 5) po_none (po_some (pv 6))) (by rfl)) (pss_one ps_never) pss_nil)))
      (pss_cons (ps_fld (pv 0) (pv 1) rfl)
      (pss_cons (ps_fld (pv 0) (pe_callTy call_tuple_of (by rfl) B.tuple (by decide +kernel) (pa_cons (pe_callB cr_sortedS (by rfl) B.sorted (by decide +kernel) (pa_cons (pv 5) pa_nil)) pa_nil)) rfl)
      (pss_cons (ps_fld (pv 0) (pe_callTy (call_dictP rfl) (by rfl) B.dict (by decide +kernel) (pa_cons (pe_lc (own := [("name", 4), ("moves", 7)]) (g := (gTup K 2 (gCons (gName 4) (gCons (gName 7) gNil)))) (tt := tYes) (te := (tTup (tCons (tVar 4) (tCons (tCB (cTup K) (tCons (tVar 7) tNil)) tNil)))) rfl sc_Machine_init.nd (pi_either (pi_list (pv 2)) (pi_tup (pv 2))) (blkOk_by (own := [("name", 4), ("moves", 7)]) (N := N_Machine_init) (sc := defScope (inClass (top 14) 0)) (by decide +kernel)) (fun _ _ _ _ _ => by exact (pg_tup rfl (pgs_cons (pg_name (i := 4) sc_Machine_init.nd rfl (Or.inl rfl)) (pgs_cons (pg_name (i := 7) sc_Machine_init.nd rfl (Or.inl rfl)) pgs_nil)))) (fun _ _ _ _ _ => by exact pts_nil) (fun _ _ _ _ _ => by exact (pe_tup (pa_cons (pv 4) (pa_cons (pe_callTy call_tuple_of (by rfl) B.tuple (by decide +kernel) (pa_cons (pv 7) pa_nil)) pa_nil))))) pa_nil)) rfl)
      (pss_cons (ps_fld (pv 0) (pe_ifExp (pt_cmpR op_isN (pv 3) pe_non (nomark _)) (pe_tupRg rfl (by rfl) B.tuple (prg_1 (by rfl) B.range (pv 1))) (pe_callTy call_tuple_of (by rfl) B.tuple (by decide +kernel) (pa_cons (pv 3) pa_nil))) rfl)
      (pss_cons (ps_fld (pv 0) (pe_cal c_marks_of (hr.mono (by first | decide | exact Nat.le_refl _)) (by rfl) (pa_cons (pv 1) (pa_cons (pe_lc (own := [("name", 4)]) (g := (gName 4)) (tt := tYes) (te := (tDGet (tFld K (tVar 0) "own_moves") (tVar 4))) rfl sc_Machine_init.nd (pi_tup (pe_fld (pv 0) (by rfl))) (blkOk_by (own := [("name", 4)]) (N := N_Machine_init) (sc := defScope (inClass (top 14) 0)) (by decide +kernel)) (fun _ _ _ _ _ => by exact (pg_name (i := 4) sc_Machine_init.nd rfl (Or.inl rfl))) (fun _ _ _ _ _ => by exact pts_nil) (fun _ _ _ _ _ => by exact (pe_dget (hu_of hr) (pe_fld (pv 0) (by rfl)) (pv 4) (fun _ _ => rfl)))) (pa_cons (pe_fld (pv 0) (by rfl)) pa_nil)))) rfl)
      (pss_one (ps_fld (pv 0) (pe_cal c_blocks_of (hr.mono (by first | decide | exact Nat.le_refl _)) (by rfl) (pa_cons (pe_fld (pv 0) (by rfl)) pa_nil)) rfl)))))))))
abbrev N_Machine_many : List Str := ["self"]
theorem sc_Machine_many : FnScope N_Machine_many ["self"] (defScope (inClass (top 14) 1)) := ⟨rfl, rfl, rfl, by decide +kernel, rfl, by decide +kernel, by decide +kernel⟩
abbrev t_Machine_many (K : PySem.W.Frag) : TS := (tRet (tFld K (tVar 0) "own_many"))
theorem der_Machine_many {f : Addr} {cdv : Value} {A : Around} {outer : List PySem.Env} {s : Shared} {H : Hp} {E : XK} (B : Bi mg)   (hr : Room 0 (A.deeper (envOfC "Machine.many" (defScope (inClass (top 14) 1)) s.heap.objs.size f cdv))) :
    PSs (cxOf CX0 P w K mg base N_Machine_many "Machine.many" (defScope (inClass (top 14) 1)) f cdv A outer s H E).nox (defBody (inClass (top 14) 1)) (t_Machine_many K) :=
  (pss_one (ps_ret (pe_fld (pv 0) (by rfl))))
abbrev N_Machine_names : List Str := ["self"]
theorem sc_Machine_names : FnScope N_Machine_names ["self"] (defScope (inClass (top 14) 2)) := ⟨rfl, rfl, rfl, by decide +kernel, rfl, by decide +kernel, by decide +kernel⟩
abbrev t_Machine_names (K : PySem.W.Frag) : TS := (tRet (tFld K (tVar 0) "own_names"))
theorem der_Machine_names {f : Addr} {cdv : Value} {A : Around} {outer : List PySem.Env} {s : Shared} {H : Hp} {E : XK} (B : Bi mg)   (hr : Room 0 (A.deeper (envOfC "Machine.names" (defScope (inClass (top 14) 2)) s.heap.objs.size f cdv))) :
    PSs (cxOf CX0 P w K mg base N_Machine_names "Machine.names" (defScope (inClass (top 14) 2)) f cdv A outer s H E).nox (defBody (inClass (top 14) 2)) (t_Machine_names K) :=
  (pss_one (ps_ret (pe_fld (pv 0) (by rfl))))
abbrev N_Machine_getitem : List Str := ["self", "name"]
theorem sc_Machine_getitem : FnScope N_Machine_getitem ["self", "name"] (defScope (inClass (top 14) 6)) := ⟨rfl, rfl, rfl, by decide +kernel, rfl, by decide +kernel, by decide +kernel⟩
abbrev t_Machine_getitem (K : PySem.W.Frag) : TS := (tSeq (tIfS (tTest (tOp (rIn K true) (tVar 1) (tFld K (tVar 0) "own_names"))) tNever tNext)
    (tRet (tDGet (tFld K (tVar 0) "own_moves") (tVar 1))))
theorem der_Machine_getitem {f : Addr} {cdv : Value} {A : Around} {outer : List PySem.Env} {s : Shared} {H : Hp} {E : XK} (B : Bi mg)   (hr : Room 0 (A.deeper (envOfC "Machine.__getitem__" (defScope (inClass (top 14) 6)) s.heap.objs.size f cdv))) :
    PSs (cxOf CX0 P w K mg base N_Machine_getitem "Machine.__getitem__" (defScope (inClass (top 14) 6)) f cdv A outer s H E).nox (defBody (inClass (top 14) 6)) (t_Machine_getitem K) :=
  (pss_cons (ps_if (pt_cmpR op_notIn_seq (pv 1) (pe_fld (pv 0) (by rfl)) (by rfl)) (pss_one ps_never) pss_nil)
      (pss_one (ps_ret (pe_dget (hu_of hr) (pe_fld (pv 0) (by rfl)) (pv 1) (fun _ _ => rfl)))))
abbrev N_Machine_contains : List Str := ["self", "name"]
theorem sc_Machine_contains : FnScope N_Machine_contains ["self", "name"] (defScope (inClass (top 14) 8)) := ⟨rfl, rfl, rfl, by decide +kernel, rfl, by decide +kernel, by decide +kernel⟩
abbrev t_Machine_contains (K : PySem.W.Frag) : TS := (tRet (tAndV (tCB (rIsi K) (tCons (tVar 1) (tCons (tC (.ty "str")) tNil))) (tOp (rIn K false) (tVar 1) (tFld K (tVar 0) "own_names"))))
theorem der_Machine_contains {f : Addr} {cdv : Value} {A : Around} {outer : List PySem.Env} {s : Shared} {H : Hp} {E : XK} (B : Bi mg)   (hr : Room 0 (A.deeper (envOfC "Machine.__contains__" (defScope (inClass (top 14) 8)) s.heap.objs.size f cdv))) :
    PSs (cxOf CX0 P w K mg base N_Machine_contains "Machine.__contains__" (defScope (inClass (top 14) 8)) f cdv A outer s H E).nox (defBody (inClass (top 14) 8)) (t_Machine_contains K) :=
  (pss_one (ps_ret (pe_and (pe_callB call_isi (by rfl) B.isinstance (by decide +kernel) (pa_cons (pv 1) (pa_cons (pe_bltn (v := .ty "str") (u := .type "str") (by rfl) B.str (by decide +kernel) rfl) pa_nil))) (pe_one (pe_cmpR op_in_seq (pv 1) (pe_fld (pv 0) (by rfl)) (by rfl))))))
abbrev N_Machine_mark : List Str := ["self", "state"]
theorem sc_Machine_mark : FnScope N_Machine_mark ["self", "state"] (defScope (inClass (top 14) 14)) := ⟨rfl, rfl, rfl, by decide +kernel, rfl, by decide +kernel, by decide +kernel⟩
abbrev t_Machine_mark (K : PySem.W.Frag) : TS := (tRet (tOp (rIxL K) (tFld K (tVar 0) "own_marks") (tVar 1)))
theorem der_Machine_mark {f : Addr} {cdv : Value} {A : Around} {outer : List PySem.Env} {s : Shared} {H : Hp} {E : XK} (B : Bi mg)   (hr : Room 0 (A.deeper (envOfC "Machine.mark" (defScope (inClass (top 14) 14)) s.heap.objs.size f cdv))) :
    PSs (cxOf CX0 P w K mg base N_Machine_mark "Machine.mark" (defScope (inClass (top 14) 14)) f cdv A outer s H E).nox (defBody (inClass (top 14) 14)) (t_Machine_mark K) :=
  (pss_one (ps_ret (pe_ix ix_list (pe_fld (pv 0) (by rfl)) (pv 1) (fun _ _ => rfl))))
abbrev N_checked : List Str := ["machine", "log", "name"]
theorem sc_checked : FnScope N_checked ["machine", "log"] (defScope (top 16)) := ⟨rfl, rfl, rfl, by decide +kernel, rfl, by decide +kernel, by decide +kernel⟩
abbrev t_checked (K : PySem.W.Frag) (C : Addr) (sp_names : Sp) : TS := (tSeq (tFor (iTup K (tVar 1)) (gName 2) (tIfS (tAnd (tTest (tOp rNe (tVar 2) (tC (.str "?")))) (tTest (tOp (rIn K true) (tVar 2) (tProp C sp_names [] E0 (tVar 0))))) tNever tNext))
    (tRet (tCB (cTup K) (tCons (tVar 1) tNil))))
theorem der_checked {f : Addr} {cdv : Value} {A : Around} {outer : List PySem.Env} {s : Shared} {H : Hp} {E : XK} (B : Bi mg)  {C : Addr} {sp_names : Sp} (hC : Cls K C) (p_names : Prp P w K mg base 1 C "names" sp_names) (lk : ∃ t, mg "LOOK" = some (.str "?" t)) (hr : Room 2 (A.deeper (envOfC "checked" (defScope (top 16)) s.heap.objs.size f cdv))) :
    PSs (cxOf CX0 P w K mg base N_checked "checked" (defScope (top 16)) f cdv A outer s H E).nox (defBody (top 16)) (t_checked K C sp_names) :=
  (pss_cons (ps_for PassesOwn.never rfl (pi_tup (pv 1)) (pg_name (i := 2) sc_checked.nd rfl (Or.inl rfl)) (pss_one (ps_if (PW.pt (pw_and (pt_cmpR op_ne (pv 2) (pe_glob rfl lk.choose_spec ⟨_, rfl⟩) (nomark _)) (pw_and1 (pt_cmpR op_notIn_seq (pv 2) (pe_prp p_names hC (hr.mono (by first | decide | exact Nat.le_refl _)) (pv 0)) (by rfl))))) (pss_one ps_never) pss_nil)))
      (pss_one (ps_ret (pe_callTy call_tuple_of (by rfl) B.tuple (by decide +kernel) (pa_cons (pv 1) pa_nil)))))
abbrev N_way : List Str := ["machine", "state", "log", "here", "rows", "name"]
theorem sc_way : FnScope N_way ["machine", "state", "log"] (defScope (top 18)) := ⟨rfl, rfl, rfl, by decide +kernel, rfl, by decide +kernel, by decide +kernel⟩
abbrev t_way (K : PySem.W.Frag) (C : Addr) (sp_getitem : Sp) : TS := (tSeq (tPar 3 4 (tCons (tVar 1) (tCons (tLst tNil) tNil)))
    (tSeq (tFor (iTup K (tVar 2)) (gName 5) (tIfS (tTest (tOp rEq (tVar 5) (tC (.str "?")))) tNever (tAsg (tOp (rIxT K) (tOp (rIxO C sp_getitem) (tVar 0) (tVar 5)) (tVar 3)) (gName 3))))
    (tRet (tTup (tCons (tCB (cTup K) (tCons (tVar 4) tNil)) (tCons (tVar 3) tNil))))))
theorem der_way {f : Addr} {cdv : Value} {A : Around} {outer : List PySem.Env} {s : Shared} {H : Hp} {E : XK} (B : Bi mg)  {C : Addr} {sp_getitem : Sp} (hC : Cls K C) (m_getitem : Dun P w K mg base 1 C "__getitem__" ["self", "name"] sp_getitem) (lk : ∃ t, mg "LOOK" = some (.str "?" t)) (hr : Room 2 (A.deeper (envOfC "way" (defScope (top 18)) s.heap.objs.size f cdv))) :
    PSs (cxOf CX0 P w K mg base N_way "way" (defScope (top 18)) f cdv A outer s H E).nox (defBody (top 18)) (t_way K C sp_getitem) :=
  (pss_cons (ps_par (i := 3) (j := 4) rfl sc_way.nd rfl rfl (by decide) rfl rfl (pa_cons (pv 1) (pa_cons (pe_lst pa_nil) pa_nil)) (by rfl))
      (pss_cons (ps_for PassesOwn.never rfl (pi_tup (pv 2)) (pg_name (i := 5) sc_way.nd rfl (Or.inl rfl)) (pss_one (ps_if (pt_cmpR op_eq (pv 5) (pe_glob rfl lk.choose_spec ⟨_, rfl⟩) (nomark _)) (pss_one ps_never) (pss_one (ps_set (i := 3) sc_way.nd rfl (Or.inl rfl) (pe_ix ix_tup (pe_ixO m_getitem (hr.mono (by first | decide | exact Nat.le_refl _)) (pv 0) (pv 5) (fun _ _ => rfl)) (pv 3) (fun _ _ => rfl)))))))
      (pss_one (ps_ret (pe_tup (pa_cons (pe_callTy call_tuple_of (by rfl) B.tuple (by decide +kernel) (pa_cons (pv 4) pa_nil)) (pa_cons (pv 3) pa_nil)))))))
abbrev N_marked : List Str := ["machine", "log", "rows", "state", "seen", "end"]
theorem sc_marked : FnScope N_marked ["machine", "log"] (defScope (top 19)) := ⟨rfl, rfl, rfl, by decide +kernel, rfl, by decide +kernel, by decide +kernel⟩
abbrev t_marked (K : PySem.W.Frag) (C : Addr) (sp_many sp_mark sp_way : Sp) : TS := (tSeq (tAsg (tLc (iRng1 (tCons (tProp C sp_many [] E0 (tVar 0)) tNil)) (gName 3) tYes (tCall sp_way [] E0 (tCons (tVar 0) (tCons (tVar 3) (tCons (tVar 1) tNil)))) [3]) (gName 2))
    (tRet (tLc (iList K (tVar 2)) (gTup K 2 (gCons (gName 4) (gCons (gName 5) gNil))) tYes (tTup (tCons (tVar 4) (tCons (tMeth C "mark" sp_mark [] E0 (tVar 0) (tCons (tVar 5) tNil)) tNil))) [4, 5])))
theorem der_marked {f : Addr} {cdv : Value} {A : Around} {outer : List PySem.Env} {s : Shared} {H : Hp} {E : XK} (B : Bi mg)  {C : Addr} {sp_many sp_mark sp_way : Sp} (hC : Cls K C) (p_many : Prp P w K mg base 1 C "many" sp_many) (m_mark : Dun P w K mg base 1 C "mark" ["self", "state"] sp_mark) (c_way : Cal P w K mg base 3 "way" ["machine", "state", "log"] sp_way) (hr : Room 3 (A.deeper (envOfC "marked" (defScope (top 19)) s.heap.objs.size f cdv))) :
    PSs (cxOf CX0 P w K mg base N_marked "marked" (defScope (top 19)) f cdv A outer s H E).nox (defBody (top 19)) (t_marked K C sp_many sp_mark sp_way) :=
  (pss_cons (ps_setLc (i := 2) (own := [("state", 3)]) (g := (gName 3)) (tt := tYes) (te := (tCall sp_way [] E0 (tCons (tVar 0) (tCons (tVar 3) (tCons (tVar 1) tNil))))) rfl sc_marked.nd rfl rfl (sw_true rfl rfl rfl (by decide +kernel)) (pi_range1 (by rfl) B.range (pa_cons (pe_prp p_many hC (hr.mono (by first | decide | exact Nat.le_refl _)) (pv 0)) pa_nil)) (blkOk_by (own := [("state", 3)]) (N := N_marked) (sc := defScope (top 19)) (by decide +kernel)) (fun _ _ _ _ _ => by exact (pg_name (i := 3) sc_marked.nd rfl (Or.inl rfl))) (fun _ _ _ _ _ => by exact pts_nil) (fun _ _ _ _ _ => by exact (pe_cal c_way (hr.mono (by first | decide | exact Nat.le_refl _)) (by rfl) (pa_cons (pv 0) (pa_cons (pv 3) (pa_cons (pv 1) pa_nil))))))
      (pss_one (ps_ret (pe_lc (own := [("seen", 4), ("end", 5)]) (g := (gTup K 2 (gCons (gName 4) (gCons (gName 5) gNil)))) (tt := tYes) (te := (tTup (tCons (tVar 4) (tCons (tMeth C "mark" sp_mark [] E0 (tVar 0) (tCons (tVar 5) tNil)) tNil)))) rfl sc_marked.nd (pi_list (pv 2)) (blkOk_by (own := [("seen", 4), ("end", 5)]) (N := N_marked) (sc := defScope (top 19)) (by decide +kernel)) (fun _ _ _ _ _ => by exact (pg_tup rfl (pgs_cons (pg_name (i := 4) sc_marked.nd rfl (Or.inl rfl)) (pgs_cons (pg_name (i := 5) sc_marked.nd rfl (Or.inl rfl)) pgs_nil)))) (fun _ _ _ _ _ => by exact pts_nil) (fun _ _ _ _ _ => by exact (pe_tup (pa_cons (pv 4) (pa_cons (pe_met m_mark hC (hr.mono (by first | decide | exact Nat.le_refl _)) (pv 0) (pa_cons (pv 5) pa_nil)) pa_nil))))))))
abbrev N_telling : List Str := ["machine", "one", "other", "mine", "its", "found", "state"]
theorem sc_telling : FnScope N_telling ["machine", "one", "other"] (defScope (top 20)) := ⟨rfl, rfl, rfl, by decide +kernel, rfl, by decide +kernel, by decide +kernel⟩
abbrev t_telling (K : PySem.W.Frag) (C : Addr) (sp_many sp_checked sp_marked : Sp) : TS := (tSeq (tAsg (tTup (tCons (tCall sp_marked [] E0 (tCons (tVar 0) (tCons (tCall sp_checked [] E0 (tCons (tVar 0) (tCons (tVar 1) tNil))) tNil))) (tCons (tCall sp_marked [] E0 (tCons (tVar 0) (tCons (tCall sp_checked [] E0 (tCons (tVar 0) (tCons (tVar 2) tNil))) tNil))) tNil))) (gTup K 2 (gCons (gName 3) (gCons (gName 4) gNil))))
    (tSeq (tAsg (tLc (iRng1 (tCons (tProp C sp_many [] E0 (tVar 0)) tNil)) (gName 6) (tTest (tOp (rNeD K) (tOp (rIxL K) (tVar 3) (tVar 6)) (tOp (rIxL K) (tVar 4) (tVar 6)))) (tVar 6) [6]) (gName 5))
    (tRet (tIf (tTest (tOp rGtI (tCB (cLen K) (tCons (tVar 5) tNil)) (tC (.int 0)))) (tOp (rIxL K) (tVar 5) (tC (.int 0))) (tC .non)))))
theorem der_telling {f : Addr} {cdv : Value} {A : Around} {outer : List PySem.Env} {s : Shared} {H : Hp} {E : XK} (B : Bi mg)  {C : Addr} {sp_many sp_checked sp_marked : Sp} (hC : Cls K C) (p_many : Prp P w K mg base 1 C "many" sp_many) (c_checked : Cal P w K mg base 3 "checked" ["machine", "log"] sp_checked) (c_marked : Cal P w K mg base 4 "marked" ["machine", "log"] sp_marked) (hr : Room 4 (A.deeper (envOfC "telling" (defScope (top 20)) s.heap.objs.size f cdv))) :
    PSs (cxOf CX0 P w K mg base N_telling "telling" (defScope (top 20)) f cdv A outer s H E).nox (defBody (top 20)) (t_telling K C sp_many sp_checked sp_marked) :=
  (pss_cons (ps_asg (pe_tup (pa_cons (pe_cal c_marked (hr.mono (by first | decide | exact Nat.le_refl _)) (by rfl) (pa_cons (pv 0) (pa_cons (pe_cal c_checked (hr.mono (by first | decide | exact Nat.le_refl _)) (by rfl) (pa_cons (pv 0) (pa_cons (pv 1) pa_nil))) pa_nil))) (pa_cons (pe_cal c_marked (hr.mono (by first | decide | exact Nat.le_refl _)) (by rfl) (pa_cons (pv 0) (pa_cons (pe_cal c_checked (hr.mono (by first | decide | exact Nat.le_refl _)) (by rfl) (pa_cons (pv 0) (pa_cons (pv 2) pa_nil))) pa_nil))) pa_nil))) (pg_tup rfl (pgs_cons (pg_name (i := 3) sc_telling.nd rfl (Or.inr rfl)) (pgs_cons (pg_name (i := 4) sc_telling.nd rfl (Or.inr rfl)) pgs_nil))))
      (pss_cons (ps_setLc (i := 5) (own := [("state", 6)]) (g := (gName 6)) (tt := (tTest (tOp (rNeD K) (tOp (rIxL K) (tVar 3) (tVar 6)) (tOp (rIxL K) (tVar 4) (tVar 6))))) (te := (tVar 6)) rfl sc_telling.nd rfl rfl (sw_true rfl rfl rfl (by decide +kernel)) (pi_range1 (by rfl) B.range (pa_cons (pe_prp p_many hC (hr.mono (by first | decide | exact Nat.le_refl _)) (pv 0)) pa_nil)) (blkOk_by (own := [("state", 6)]) (N := N_telling) (sc := defScope (top 20)) (by decide +kernel)) (fun _ _ _ _ _ => by exact (pg_name (i := 6) sc_telling.nd rfl (Or.inl rfl))) (fun _ _ _ _ _ => by exact (pts_one (pt_cmpR (op_neD (u64 hr)) (pe_ix ix_list (pv 3) (pv 6) (fun _ _ => rfl)) (pe_ix ix_list (pv 4) (pv 6) (fun _ _ => rfl)) (nomark _)))) (fun _ _ _ _ _ => by exact (pv 6)))
      (pss_one (ps_ret (pe_ifExp (pt_cmpR op_gt (pe_callB call_len_seq (by rfl) B.len PySem.boot_len (pa_cons (pv 5) pa_nil)) pe_int (nomark _)) (pe_ix ix_list (pv 5) pe_int (fun _ _ => rfl)) pe_non)))))
abbrev N_same : List Str := ["machine", "one", "other"]
theorem sc_same : FnScope N_same ["machine", "one", "other"] (defScope (top 21)) := ⟨rfl, rfl, rfl, by decide +kernel, rfl, by decide +kernel, by decide +kernel⟩
abbrev t_same (K : PySem.W.Frag) (sp_telling : Sp) : TS := (tRet (tOp rIsNo (tCall sp_telling [] E0 (tCons (tVar 0) (tCons (tVar 1) (tCons (tVar 2) tNil)))) (tC .non)))
theorem der_same {f : Addr} {cdv : Value} {A : Around} {outer : List PySem.Env} {s : Shared} {H : Hp} {E : XK} (B : Bi mg)  {sp_telling : Sp} (c_telling : Cal P w K mg base 5 "telling" ["machine", "one", "other"] sp_telling) (hr : Room 5 (A.deeper (envOfC "same" (defScope (top 21)) s.heap.objs.size f cdv))) :
    PSs (cxOf CX0 P w K mg base N_same "same" (defScope (top 21)) f cdv A outer s H E).nox (defBody (top 21)) (t_same K sp_telling) :=
  (pss_one (ps_ret (pe_cmpR op_isN (pe_cal c_telling (hr.mono (by first | decide | exact Nat.le_refl _)) (by rfl) (pa_cons (pv 0) (pa_cons (pv 1) (pa_cons (pv 2) pa_nil)))) pe_non (nomark _))))
end
end Ll
end

section
set_option Elab.async false
set_option linter.all false
set_option maxRecDepth 100000
set_option maxHeartbeats 4000000
namespace Ll
open PySem PySem.Spec PyProof.Rows L2
section
variable {P : Program} {w : World} {K : PySem.W.Frag} {mg : Str → Option Value} {base : Heap}
abbrev N_ascending : List Str := ["rows", "found", "row"]
theorem sc_ascending : FnScope N_ascending ["rows"] (defScope (top 24)) := ⟨rfl, rfl, rfl, by decide +kernel, rfl, by decide +kernel, by decide +kernel⟩
abbrev t_ascending (K : PySem.W.Frag) : TS := (tSeq (tAsg (tLst tNil) (gName 1))
    (tSeq (tFor (iList K (tCB (rSortedAny K) (tCons (tVar 0) tNil))) (gName 2) (tIfS (tOr (tTest (tOp rEq (tCB (cLen K) (tCons (tVar 1) tNil)) (tC (.int 0)))) (tTest (tOp (rNeD K) (tOp (rIxL K) (tVar 1) (tUn rNegI (tC (.int 1)))) (tVar 2)))) (tDrop (tBM K "list" rAppend (tVar 1) (tCons (tVar 2) tNil))) tNext))
    (tRet (tVar 1))))
theorem der_ascending {f : Addr} {cdv : Value} {A : Around} {outer : List PySem.Env} {s : Shared} {H : Hp} {E : XK} (B : Bi mg)   (hr : Room 0 (A.deeper (envOfC "ascending" (defScope (top 24)) s.heap.objs.size f cdv))) :
    PSs (cxOf CX0 P w K mg base N_ascending "ascending" (defScope (top 24)) f cdv A outer s H E).nox (defBody (top 24)) (t_ascending K) :=
  (pss_cons (ps_set (i := 1) sc_ascending.nd rfl (Or.inl rfl) (pe_lst pa_nil))
      (pss_cons (ps_for PassesOwn.never rfl (pi_list (pe_callB (cr_sortedAny (u65 hr)) (by rfl) B.sorted (by decide +kernel) (pa_cons (pv 0) pa_nil))) (pg_name (i := 2) sc_ascending.nd rfl (Or.inl rfl)) (pss_one (ps_if (PW.pt (pw_or (pt_cmpR op_eq (pe_callB call_len_seq (by rfl) B.len PySem.boot_len (pa_cons (pv 1) pa_nil)) pe_int (nomark _)) (pw_or1 (pt_cmpR (op_neD (u64 hr)) (pe_ix ix_list (pv 1) (pe_un un_neg pe_int) (fun _ _ => rfl)) (pv 2) (nomark _))))) (pss_one (ps_expr (pe_bm PySem.F.plainAttrs_list PySem.F.slot_list_append PySem.F.type_list_append mt_append (pv 1) (pa_cons (pv 2) pa_nil)))) pss_nil)))
      (pss_one (ps_ret (pv 1)))))
abbrev N_Rules_init : List Str := ["self", "pairs", "pair"]
theorem sc_Rules_init : FnScope N_Rules_init ["self", "pairs"] (defScope (inClass (top 26) 0)) := ⟨rfl, rfl, rfl, by decide +kernel, rfl, by decide +kernel, by decide +kernel⟩
abbrev t_Rules_init (K : PySem.W.Frag) (sp_ascending : Sp) : TS := (sFld K (tVar 0) (tCB (cTup K) (tCons (tCall sp_ascending [] E0 (tCons (tLc (iList K (tVar 1)) (gName 2) tYes (tCB (cTup K) (tCons (tVar 2) tNil)) [2]) tNil)) tNil)) "own_pairs")
theorem der_Rules_init {f : Addr} {cdv : Value} {A : Around} {outer : List PySem.Env} {s : Shared} {H : Hp} {E : XK} (B : Bi mg)  {sp_ascending : Sp} (c_ascending : Cal P w K mg base 1 "ascending" ["rows"] sp_ascending) (hr : Room 1 (A.deeper (envOfC "Rules.__init__" (defScope (inClass (top 26) 0)) s.heap.objs.size f cdv))) :
    PSs (cxOf CX0 P w K mg base N_Rules_init "Rules.__init__" (defScope (inClass (top 26) 0)) f cdv A outer s H E).nox (defBody (inClass (top 26) 0)) (t_Rules_init K sp_ascending) :=
  (pss_one (ps_fld (pv 0) (pe_callTy call_tuple_of (by rfl) B.tuple (by decide +kernel) (pa_cons (pe_cal c_ascending (hr.mono (by first | decide | exact Nat.le_refl _)) (by rfl) (pa_cons (pe_lc (own := [("pair", 2)]) (g := (gName 2)) (tt := tYes) (te := (tCB (cTup K) (tCons (tVar 2) tNil))) rfl sc_Rules_init.nd (pi_list (pv 1)) (blkOk_by (own := [("pair", 2)]) (N := N_Rules_init) (sc := defScope (inClass (top 26) 0)) (by decide +kernel)) (fun _ _ _ _ _ => by exact (pg_name (i := 2) sc_Rules_init.nd rfl (Or.inl rfl))) (fun _ _ _ _ _ => by exact pts_nil) (fun _ _ _ _ _ => by exact (pe_callTy call_tuple_of (by rfl) B.tuple (by decide +kernel) (pa_cons (pv 2) pa_nil)))) pa_nil)) pa_nil)) rfl))
abbrev N_Rules_pairs : List Str := ["self"]
theorem sc_Rules_pairs : FnScope N_Rules_pairs ["self"] (defScope (inClass (top 26) 1)) := ⟨rfl, rfl, rfl, by decide +kernel, rfl, by decide +kernel, by decide +kernel⟩
abbrev t_Rules_pairs (K : PySem.W.Frag) : TS := (tRet (tFld K (tVar 0) "own_pairs"))
theorem der_Rules_pairs {f : Addr} {cdv : Value} {A : Around} {outer : List PySem.Env} {s : Shared} {H : Hp} {E : XK} (B : Bi mg)   (hr : Room 0 (A.deeper (envOfC "Rules.pairs" (defScope (inClass (top 26) 1)) s.heap.objs.size f cdv))) :
    PSs (cxOf CX0 P w K mg base N_Rules_pairs "Rules.pairs" (defScope (inClass (top 26) 1)) f cdv A outer s H E).nox (defBody (inClass (top 26) 1)) (t_Rules_pairs K) :=
  (pss_one (ps_ret (pe_fld (pv 0) (by rfl))))
abbrev N_check_deeds : List Str := ["machine", "names", "name"]
theorem sc_check_deeds : FnScope N_check_deeds ["machine", "names"] (defScope (top 27)) := ⟨rfl, rfl, rfl, by decide +kernel, rfl, by decide +kernel, by decide +kernel⟩
abbrev t_check_deeds (K : PySem.W.Frag) (C : Addr) (sp_contains : Sp) : TS := (tFor (iTup K (tVar 1)) (gName 2) (tIfS (tTest (tOp (rNinO C sp_contains) (tVar 2) (tVar 0))) tNever tNext))
theorem der_check_deeds {f : Addr} {cdv : Value} {A : Around} {outer : List PySem.Env} {s : Shared} {H : Hp} {E : XK} (B : Bi mg)  {C : Addr} {sp_contains : Sp} (hC : Cls K C) (m_contains : Dun P w K mg base 1 C "__contains__" ["self", "name"] sp_contains) (hr : Room 1 (A.deeper (envOfC "check_deeds" (defScope (top 27)) s.heap.objs.size f cdv))) :
    PSs (cxOf CX0 P w K mg base N_check_deeds "check_deeds" (defScope (top 27)) f cdv A outer s H E).nox (defBody (top 27)) (t_check_deeds K C sp_contains) :=
  (pss_one (ps_for PassesOwn.never rfl (pi_tup (pv 1)) (pg_name (i := 2) sc_check_deeds.nd rfl (Or.inl rfl)) (pss_one (ps_if (pt_cmpR (op_ninO m_contains (hr.mono (by first | decide | exact Nat.le_refl _))) (pv 2) (pv 0) (by rfl)) (pss_one ps_never) pss_nil))))
abbrev N_after_deed : List Str := ["machine", "pairs", "name", "moves", "one", "other"]
theorem sc_after_deed : FnScope N_after_deed ["machine", "pairs", "name"] (defScope (top 28)) := ⟨rfl, rfl, rfl, by decide +kernel, rfl, by decide +kernel, by decide +kernel⟩
abbrev t_after_deed (K : PySem.W.Frag) (C : Addr) (sp_getitem sp_ascending : Sp) : TS := (tSeq (tAsg (tOp (rIxO C sp_getitem) (tVar 0) (tVar 2)) (gName 3))
    (tRet (tCall sp_ascending [] E0 (tCons (tLc (iList K (tVar 1)) (gTup K 2 (gCons (gName 4) (gCons (gName 5) gNil))) tYes (tTup (tCons (tOp (rIxT K) (tVar 3) (tVar 4)) (tCons (tOp (rIxT K) (tVar 3) (tVar 5)) tNil))) [4, 5]) tNil))))
theorem der_after_deed {f : Addr} {cdv : Value} {A : Around} {outer : List PySem.Env} {s : Shared} {H : Hp} {E : XK} (B : Bi mg)  {C : Addr} {sp_getitem sp_ascending : Sp} (hC : Cls K C) (m_getitem : Dun P w K mg base 1 C "__getitem__" ["self", "name"] sp_getitem) (c_ascending : Cal P w K mg base 1 "ascending" ["rows"] sp_ascending) (hr : Room 2 (A.deeper (envOfC "after_deed" (defScope (top 28)) s.heap.objs.size f cdv))) :
    PSs (cxOf CX0 P w K mg base N_after_deed "after_deed" (defScope (top 28)) f cdv A outer s H E).nox (defBody (top 28)) (t_after_deed K C sp_getitem sp_ascending) :=
  (pss_cons (ps_set (i := 3) sc_after_deed.nd rfl (Or.inr rfl) (pe_ixO m_getitem (hr.mono (by first | decide | exact Nat.le_refl _)) (pv 0) (pv 2) (fun _ _ => rfl)))
      (pss_one (ps_ret (pe_cal c_ascending (hr.mono (by first | decide | exact Nat.le_refl _)) (by rfl) (pa_cons (pe_lc (own := [("one", 4), ("other", 5)]) (g := (gTup K 2 (gCons (gName 4) (gCons (gName 5) gNil)))) (tt := tYes) (te := (tTup (tCons (tOp (rIxT K) (tVar 3) (tVar 4)) (tCons (tOp (rIxT K) (tVar 3) (tVar 5)) tNil)))) rfl sc_after_deed.nd (pi_list (pv 1)) (blkOk_by (own := [("one", 4), ("other", 5)]) (N := N_after_deed) (sc := defScope (top 28)) (by decide +kernel)) (fun _ _ _ _ _ => by exact (pg_tup rfl (pgs_cons (pg_name (i := 4) sc_after_deed.nd rfl (Or.inl rfl)) (pgs_cons (pg_name (i := 5) sc_after_deed.nd rfl (Or.inl rfl)) pgs_nil)))) (fun _ _ _ _ _ => by exact pts_nil) (fun _ _ _ _ _ => by exact (pe_tup (pa_cons (pe_ix ix_tup (pv 3) (pv 4) (fun _ _ => rfl)) (pa_cons (pe_ix ix_tup (pv 3) (pv 5) (fun _ _ => rfl)) pa_nil))))) pa_nil)))))
abbrev N_far_from : List Str := ["machine", "bad", "found", "edge", "every", "rest", "size", "pair", "one", "other", "name"]
theorem sc_far_from : FnScope N_far_from ["machine", "bad"] (defScope (top 29)) := ⟨rfl, rfl, rfl, by decide +kernel, rfl, by decide +kernel, by decide +kernel⟩
abbrev t_far_from (K : PySem.W.Frag) (C : Addr) (sp_many sp_names sp_after_deed : Sp) : TS := (tSeq (tAsg (tTup (tCons (tDcT (iList K (tVar 1)) (gName 7) tYes (tVar 7) (tC (.int 0)) [7]) (tCons (tCB (cLst K) (tCons (tVar 1) tNil)) tNil))) (gTup K 2 (gCons (gName 2) (gCons (gName 3) gNil))))
    (tSeq (tAsg (tLc2 (iRng1 (tCons (tProp C sp_many [] E0 (tVar 0)) tNil)) (gName 8) tYes (iRng1 (tCons (tProp C sp_many [] E0 (tVar 0)) tNil)) (gName 9) tYes (tTup (tCons (tVar 8) (tCons (tVar 9) tNil))) [8, 9] [9]) (gName 4))
    (tSeq (tWhile (tTest (tOp rGtI (tCB (cLen K) (tCons (tVar 3) tNil)) (tC (.int 0)))) (tSeq (tAsg (tLc (iList K (tVar 4)) (gName 7) (tB (tDNotIn (tVar 7) (tVar 2))) (tVar 7) [7]) (gName 5))
    (tSeq (tAsg (tLc (iList K (tVar 5)) (gName 7) (tB (tCB (rAny K) (tCons (tLc (iTup K (tProp C sp_names [] E0 (tVar 0))) (gName 10) tYes (tDIn (tOp (rIxL K) (tCall sp_after_deed [] E0 (tCons (tVar 0) (tCons (tLst (tCons (tVar 7) tNil)) (tCons (tVar 10) tNil)))) (tC (.int 0))) (tVar 2)) [10]) tNil))) (tVar 7) [7]) (gName 3))
    (tSeq (tAsg (tOp rAddI (tCB rMaxVals (tCons (tBM0 K "dict" rVals (tVar 2)) tNil)) (tC (.int 1))) (gName 6))
    (tDrop (tBM K "dict" rUpdT (tVar 2) (tCons (tDcT (iList K (tVar 3)) (gName 7) tYes (tVar 7) (tVar 6) [7]) tNil)))))))
    (tRet (tVar 2)))))
theorem der_far_from {f : Addr} {cdv : Value} {A : Around} {outer : List PySem.Env} {s : Shared} {H : Hp} {E : XK} (B : Bi mg)  {C : Addr} {sp_many sp_names sp_after_deed : Sp} (hC : Cls K C) (p_many : Prp P w K mg base 1 C "many" sp_many) (p_names : Prp P w K mg base 1 C "names" sp_names) (c_after_deed : Cal P w K mg base 3 "after_deed" ["machine", "pairs", "name"] sp_after_deed) (hr : Room 3 (A.deeper (envOfC "far_from" (defScope (top 29)) s.heap.objs.size f cdv))) :
    PSs (cxOf CX0 P w K mg base N_far_from "far_from" (defScope (top 29)) f cdv A outer s H E).nox (defBody (top 29)) (t_far_from K C sp_many sp_names sp_after_deed) :=
  (pss_cons (ps_asg (pe_tup (pa_cons (pe_dcT (own := [("pair", 7)]) (g := (gName 7)) (tt := tYes) (tk := (tVar 7)) (tv := (tC (.int 0))) (u65 hr) rfl sc_far_from.nd (pi_list (pv 1)) (blkOk_by (own := [("pair", 7)]) (N := N_far_from) (sc := defScope (top 29)) (by decide +kernel)) (fun _ _ _ _ _ => by exact (pg_name (i := 7) sc_far_from.nd rfl (Or.inl rfl))) (fun _ _ _ _ _ => by exact pts_nil) (fun _ _ _ _ _ => by exact (pv 7)) (fun _ _ _ _ _ => by exact pe_int)) (pa_cons (pe_callTy call_list_of (by rfl) B.list (by decide +kernel) (pa_cons (pv 1) pa_nil)) pa_nil))) (pg_tup rfl (pgs_cons (pg_name (i := 2) sc_far_from.nd rfl (Or.inr rfl)) (pgs_cons (pg_name (i := 3) sc_far_from.nd rfl (Or.inl rfl)) pgs_nil))))
      (pss_cons (ps_setLc2 (i := 4) (own := [("one", 8), ("other", 9)]) (vs1 := [9]) (g := (gName 8)) (tt := tYes) (wi1 := (iRng1 (tCons (tProp C sp_many [] E0 (tVar 0)) tNil))) (g1 := (gName 9)) (tt1 := tYes) (te := (tTup (tCons (tVar 8) (tCons (tVar 9) tNil)))) rfl sc_far_from.nd rfl rfl (sw_true rfl rfl rfl (by decide +kernel)) (pi_range1 (by rfl) B.range (pa_cons (pe_prp p_many hC (hr.mono (by first | decide | exact Nat.le_refl _)) (pv 0)) pa_nil)) (blkOk_by (own := [("one", 8), ("other", 9)]) (N := N_far_from) (sc := defScope (top 29)) (by decide +kernel)) (by decide) (fun _ _ _ _ _ => by exact (pg_name (i := 8) sc_far_from.nd rfl (Or.inl rfl))) (fun _ _ _ _ _ => by exact pts_nil) (fun _ _ _ _ _ => by exact (pi_range1 (by rfl) B.range (pa_cons (pe_prp p_many hC (hr.mono (by first | decide | exact Nat.le_refl _)) (pv 0)) pa_nil))) (fun _ _ _ _ _ => by exact (pg_name (i := 9) sc_far_from.nd rfl (Or.inl rfl))) (fun _ _ _ _ _ => by exact pts_nil) (fun _ _ _ _ _ => by exact (pe_tup (pa_cons (pv 8) (pa_cons (pv 9) pa_nil)))))
      (pss_cons (ps_while PassesOwn.never (pt_cmpR op_gt (pe_callB call_len_seq (by rfl) B.len PySem.boot_len (pa_cons (pv 3) pa_nil)) pe_int (nomark _)) (pss_cons (ps_setLc (i := 5) (own := [("pair", 7)]) (g := (gName 7)) (tt := (tB (tDNotIn (tVar 7) (tVar 2)))) (te := (tVar 7)) rfl sc_far_from.nd rfl rfl (sw_true rfl rfl rfl (by decide +kernel)) (pi_list (pv 4)) (blkOk_by (own := [("pair", 7)]) (N := N_far_from) (sc := defScope (top 29)) (by decide +kernel)) (fun _ _ _ _ _ => by exact (pg_name (i := 7) sc_far_from.nd rfl (Or.inl rfl))) (fun _ _ _ _ _ => by exact (pts_one (pt_cmp (pc_dnotin (hu_of hr) (pv 7) (pv 2)) rfl))) (fun _ _ _ _ _ => by exact (pv 7)))
      (pss_cons (ps_setLc (i := 3) (own := [("pair", 7)]) (g := (gName 7)) (tt := (tB (tCB (rAny K) (tCons (tLc (iTup K (tProp C sp_names [] E0 (tVar 0))) (gName 10) tYes (tDIn (tOp (rIxL K) (tCall sp_after_deed [] E0 (tCons (tVar 0) (tCons (tLst (tCons (tVar 7) tNil)) (tCons (tVar 10) tNil)))) (tC (.int 0))) (tVar 2)) [10]) tNil)))) (te := (tVar 7)) rfl sc_far_from.nd rfl rfl (sw_true rfl rfl rfl (by decide +kernel)) (pi_list (pv 5)) (blkOk_by (own := [("pair", 7)]) (N := N_far_from) (sc := defScope (top 29)) (by decide +kernel)) (fun _ _ _ _ _ => by exact (pg_name (i := 7) sc_far_from.nd rfl (Or.inr rfl))) (fun _ _ _ _ _ => by exact (pts_one (pt_val (pe_callB (cr_any rfl) (by rfl) B.any (by decide +kernel) (pa_cons (pe_lc (own := [("name", 10)]) (g := (gName 10)) (tt := tYes) (te := (tDIn (tOp (rIxL K) (tCall sp_after_deed [] E0 (tCons (tVar 0) (tCons (tLst (tCons (tVar 7) tNil)) (tCons (tVar 10) tNil)))) (tC (.int 0))) (tVar 2))) rfl sc_far_from.nd (pi_tup (pe_prp p_names hC (hr.mono (by first | decide | exact Nat.le_refl _)) (pv 0))) (blkOk_by (by rfl)) (fun _ _ _ _ _ => by exact (pg_name (i := 10) sc_far_from.nd rfl (Or.inl rfl))) (fun _ _ _ _ _ => by exact pts_nil) (fun _ _ _ _ _ => by exact (pe_cmp (pc_din (hu_of hr) (pe_ix ix_list (pe_cal c_after_deed (hr.mono (by first | decide | exact Nat.le_refl _)) (by rfl) (pa_cons (pv 0) (pa_cons (pe_lst (pa_cons (pv 7) pa_nil)) (pa_cons (pv 10) pa_nil)))) pe_int (fun _ _ => rfl)) (pv 2)) rfl))) pa_nil))))) (fun _ _ _ _ _ => by exact (pv 7)))
      (pss_cons (ps_set (i := 6) sc_far_from.nd rfl (Or.inr rfl) (pe_op op_add (pe_callB (cr_maxVals rfl) (by rfl) B.max (by decide +kernel) (pa_cons (pe_bm0 F.plainAttrs_dict F.slot_dict_values F.type_dict_values mt_vals (pv 2)) pa_nil)) pe_int))
      (pss_one (ps_expr (pe_bm PySem.F.plainAttrs_dict PySem.F.slot_dict_update PySem.F.type_dict_update (mt_updT (u65 hr)) (pv 2) (pa_cons (pe_dcT (own := [("pair", 7)]) (g := (gName 7)) (tt := tYes) (tk := (tVar 7)) (tv := (tVar 6)) (u65 hr) rfl sc_far_from.nd (pi_list (pv 3)) (blkOk_by (own := [("pair", 7)]) (N := N_far_from) (sc := defScope (top 29)) (by decide +kernel)) (fun _ _ _ _ _ => by exact (pg_name (i := 7) sc_far_from.nd rfl (Or.inl rfl))) (fun _ _ _ _ _ => by exact pts_nil) (fun _ _ _ _ _ => by exact (pv 7)) (fun _ _ _ _ _ => by exact (pv 6))) pa_nil))))))))
      (pss_one (ps_ret (pv 2))))))
abbrev N_first_to : List Str := ["machine", "pairs", "bad", "sizes", "log", "here", "size", "name", "there", "pair"]
theorem sc_first_to : FnScope N_first_to ["machine", "pairs", "bad"] (defScope (top 30)) := ⟨rfl, rfl, rfl, by decide +kernel, rfl, by decide +kernel, by decide +kernel⟩
abbrev t_first_to (K : PySem.W.Frag) (C : Addr) (sp_names sp_after_deed sp_far_from : Sp) : TS := (tSeq (tAsg (tTup (tCons (tCall sp_far_from [] E0 (tCons (tVar 0) (tCons (tVar 2) tNil))) (tCons (tTup tNil) tNil))) (gTup K 2 (gCons (gName 3) (gCons (gName 4) gNil))))
    (tSeq (tIfS (tNot (tB (tCB (rAny K) (tCons (tLc (iList K (tVar 1)) (gName 9) tYes (tDIn (tVar 9) (tVar 3)) [9]) tNil)))) (tRet (tC .non)) tNext)
    (tSeq (tAsg (tCB (cLst K) (tCons (tVar 1) tNil)) (gName 5))
    (tSeq (tAsg (tCB (rMin K) (tCons (tLc (iList K (tVar 5)) (gName 9) (tB (tDIn (tVar 9) (tVar 3))) (tDGet (tVar 3) (tVar 9)) [9]) tNil)) (gName 6))
    (tSeq (tWhile (tTest (tOp rGtI (tVar 6) (tC (.int 0)))) (tSeq (tAug 6 (tC (.int 1)) (ipI fun i j => i - j))
    (tFor (iTup K (tProp C sp_names [] E0 (tVar 0))) (gName 7) (tSeq (tAsg (tCall sp_after_deed [] E0 (tCons (tVar 0) (tCons (tVar 5) (tCons (tVar 7) tNil)))) (gName 8))
    (tIfS (tB (tCB (rAny K) (tCons (tLc (iList K (tVar 8)) (gName 9) tYes (tOp rEq (tDGet1 (tVar 3) (tVar 9)) (tVar 6)) [9]) tNil))) (tSeq (tPar 4 5 (tCons (tTup (StX.tStar K (tVar 4) (tCons (tVar 7) tNil))) (tCons (tVar 8) tNil)))
    tBreak) tNext)))))
    (tRet (tVar 4)))))))
theorem der_first_to {f : Addr} {cdv : Value} {A : Around} {outer : List PySem.Env} {s : Shared} {H : Hp} {E : XK} (B : Bi mg)  {C : Addr} {sp_names sp_after_deed sp_far_from : Sp} (hC : Cls K C) (p_names : Prp P w K mg base 1 C "names" sp_names) (c_after_deed : Cal P w K mg base 3 "after_deed" ["machine", "pairs", "name"] sp_after_deed) (c_far_from : Cal P w K mg base 4 "far_from" ["machine", "bad"] sp_far_from) (hr : Room 4 (A.deeper (envOfC "first_to" (defScope (top 30)) s.heap.objs.size f cdv))) :
    PSs (cxOf CX0 P w K mg base N_first_to "first_to" (defScope (top 30)) f cdv A outer s H E).nox (defBody (top 30)) (t_first_to K C sp_names sp_after_deed sp_far_from) :=
  (pss_cons (ps_asg (pe_tup (pa_cons (pe_cal c_far_from (hr.mono (by first | decide | exact Nat.le_refl _)) (by rfl) (pa_cons (pv 0) (pa_cons (pv 2) pa_nil))) (pa_cons (pe_tup pa_nil) pa_nil))) (pg_tup rfl (pgs_cons (pg_name (i := 3) sc_first_to.nd rfl (Or.inr rfl)) (pgs_cons (pg_name (i := 4) sc_first_to.nd rfl (Or.inl rfl)) pgs_nil))))
      (pss_cons (ps_if (pt_not (pt_val (pe_callB (cr_any rfl) (by rfl) B.any (by decide +kernel) (pa_cons (pe_lc (own := [("pair", 9)]) (g := (gName 9)) (tt := tYes) (te := (tDIn (tVar 9) (tVar 3))) rfl sc_first_to.nd (pi_list (pv 1)) (blkOk_by (own := [("pair", 9)]) (N := N_first_to) (sc := defScope (top 30)) (by decide +kernel)) (fun _ _ _ _ _ => by exact (pg_name (i := 9) sc_first_to.nd rfl (Or.inl rfl))) (fun _ _ _ _ _ => by exact pts_nil) (fun _ _ _ _ _ => by exact (pe_cmp (pc_din (hu_of hr) (pv 9) (pv 3)) rfl))) pa_nil)))) (pss_one (ps_ret pe_non)) pss_nil)
      (pss_cons (ps_set (i := 5) sc_first_to.nd rfl (Or.inl rfl) (pe_callTy call_list_of (by rfl) B.list (by decide +kernel) (pa_cons (pv 1) pa_nil)))
      (pss_cons (ps_set (i := 6) sc_first_to.nd rfl (Or.inr rfl) (pe_callB (cr_min rfl) (by rfl) B.min (by decide +kernel) (pa_cons (pe_lc (own := [("pair", 9)]) (g := (gName 9)) (tt := (tB (tDIn (tVar 9) (tVar 3)))) (te := (tDGet (tVar 3) (tVar 9))) rfl sc_first_to.nd (pi_list (pv 5)) (blkOk_by (own := [("pair", 9)]) (N := N_first_to) (sc := defScope (top 30)) (by decide +kernel)) (fun _ _ _ _ _ => by exact (pg_name (i := 9) sc_first_to.nd rfl (Or.inl rfl))) (fun _ _ _ _ _ => by exact (pts_one (pt_cmp (pc_din (hu_of hr) (pv 9) (pv 3)) rfl))) (fun _ _ _ _ _ => by exact (pe_dget (hu_of hr) (pv 3) (pv 9) (fun _ _ => rfl)))) pa_nil)))
      (pss_cons (ps_while PassesOwn.never (pt_cmpR op_gt (pv 6) pe_int (nomark _)) (pss_cons (ps_aug (i := 6) sc_first_to.nd rfl (Or.inr rfl) pe_int ip_sub)
      (pss_one (ps_for PassesOwn.never rfl (pi_tup (pe_prp p_names hC (hr.mono (by first | decide | exact Nat.le_refl _)) (pv 0))) (pg_name (i := 7) sc_first_to.nd rfl (Or.inl rfl)) (pss_cons (ps_set (i := 8) sc_first_to.nd rfl (Or.inl rfl) (pe_cal c_after_deed (hr.mono (by first | decide | exact Nat.le_refl _)) (by rfl) (pa_cons (pv 0) (pa_cons (pv 5) (pa_cons (pv 7) pa_nil)))))
      (pss_one (ps_if (pt_val (pe_callB (cr_any rfl) (by rfl) B.any (by decide +kernel) (pa_cons (pe_lc (own := [("pair", 9)]) (g := (gName 9)) (tt := tYes) (te := (tOp rEq (tDGet1 (tVar 3) (tVar 9)) (tVar 6))) rfl sc_first_to.nd (pi_list (pv 8)) (blkOk_by (own := [("pair", 9)]) (N := N_first_to) (sc := defScope (top 30)) (by decide +kernel)) (fun _ _ _ _ _ => by exact (pg_name (i := 9) sc_first_to.nd rfl (Or.inl rfl))) (fun _ _ _ _ _ => by exact pts_nil) (fun _ _ _ _ _ => by exact (pe_cmpR op_eq (pe_dget1 (hu_of hr) (pv 3) (pv 9) ⟨by rfl, by rfl, by rfl, by rfl⟩) (pv 6) (nomark _)))) pa_nil))) (pss_cons (ps_par (i := 4) (j := 5) rfl sc_first_to.nd rfl rfl (by decide) rfl rfl (pa_cons (pe_tup (StX.pa_star (pv 4) (pa_cons (pv 7) pa_nil))) (pa_cons (pv 8) pa_nil)) (by rfl))
      (pss_one ps_break)) pss_nil)))))))
      (pss_one (ps_ret (pv 4))))))))
abbrev N_not_covered : List Str := ["machine", "name", "by", "moves", "bad", "mine", "mark", "its", "state", "there"]
theorem sc_not_covered : FnScope N_not_covered ["machine", "name", "by"] (defScope (top 31)) := ⟨rfl, rfl, rfl, by decide +kernel, rfl, by decide +kernel, by decide +kernel⟩
abbrev t_not_covered (K : PySem.W.Frag) (C : Addr) (sp_getitem sp_many sp_mark sp_check_deeds sp_first_to : Sp) : TS := (tSeq (tDrop (tCall sp_check_deeds [] E0 (tCons (tVar 0) (tCons (tTup (tCons (tVar 1) (tCons (tVar 2) tNil))) tNil))))
    (tSeq (tAsg (tTup (tCons (tOp (rIxO C sp_getitem) (tVar 0) (tVar 2)) (tCons (tLst tNil) tNil))) (gTup K 2 (gCons (gName 3) (gCons (gName 4) gNil))))
    (tSeq (tFor (iRng1 (tCons (tProp C sp_many [] E0 (tVar 0)) tNil)) (gName 5) (tSeq (tAsg (tMeth C "mark" sp_mark [] E0 (tVar 0) (tCons (tOp (rIxT K) (tVar 3) (tVar 5)) tNil)) (gName 6))
    (tDrop (tBM K "list" rExtend (tVar 4) (tCons (tLc (iRng1 (tCons (tProp C sp_many [] E0 (tVar 0)) tNil)) (gName 7) (tTest (tOp rNe (tMeth C "mark" sp_mark [] E0 (tVar 0) (tCons (tOp (rIxT K) (tVar 3) (tVar 7)) tNil)) (tVar 6))) (tTup (tCons (tVar 5) (tCons (tVar 7) tNil))) [7]) tNil)))))
    (tRet (tCall sp_first_to [] E0 (tCons (tVar 0) (tCons (tLc (iEnumT K (tCons (tOp (rIxO C sp_getitem) (tVar 0) (tVar 1)) tNil)) (gTup K 2 (gCons (gName 8) (gCons (gName 9) gNil))) tYes (tTup (tCons (tVar 9) (tCons (tVar 8) tNil))) [8, 9]) (tCons (tVar 4) tNil))))))))
theorem der_not_covered {f : Addr} {cdv : Value} {A : Around} {outer : List PySem.Env} {s : Shared} {H : Hp} {E : XK} (B : Bi mg)  {C : Addr} {sp_getitem sp_many sp_mark sp_check_deeds sp_first_to : Sp} (hC : Cls K C) (m_getitem : Dun P w K mg base 1 C "__getitem__" ["self", "name"] sp_getitem) (p_many : Prp P w K mg base 1 C "many" sp_many) (m_mark : Dun P w K mg base 1 C "mark" ["self", "state"] sp_mark) (c_check_deeds : Cal P w K mg base 2 "check_deeds" ["machine", "names"] sp_check_deeds) (c_first_to : Cal P w K mg base 5 "first_to" ["machine", "pairs", "bad"] sp_first_to) (hr : Room 5 (A.deeper (envOfC "not_covered" (defScope (top 31)) s.heap.objs.size f cdv))) :
    PSs (cxOf CX0 P w K mg base N_not_covered "not_covered" (defScope (top 31)) f cdv A outer s H E).nox (defBody (top 31)) (t_not_covered K C sp_getitem sp_many sp_mark sp_check_deeds sp_first_to) :=
  (pss_cons (ps_expr (pe_cal c_check_deeds (hr.mono (by first | decide | exact Nat.le_refl _)) (by rfl) (pa_cons (pv 0) (pa_cons (pe_tup (pa_cons (pv 1) (pa_cons (pv 2) pa_nil))) pa_nil))))
      (pss_cons (ps_asg (pe_tup (pa_cons (pe_ixO m_getitem (hr.mono (by first | decide | exact Nat.le_refl _)) (pv 0) (pv 2) (fun _ _ => rfl)) (pa_cons (pe_lst pa_nil) pa_nil))) (pg_tup rfl (pgs_cons (pg_name (i := 3) sc_not_covered.nd rfl (Or.inr rfl)) (pgs_cons (pg_name (i := 4) sc_not_covered.nd rfl (Or.inl rfl)) pgs_nil))))
      (pss_cons (ps_for PassesOwn.never rfl (pi_range1 (by rfl) B.range (pa_cons (pe_prp p_many hC (hr.mono (by first | decide | exact Nat.le_refl _)) (pv 0)) pa_nil)) (pg_name (i := 5) sc_not_covered.nd rfl (Or.inr rfl)) (pss_cons (ps_set (i := 6) sc_not_covered.nd rfl (Or.inr rfl) (pe_met m_mark hC (hr.mono (by first | decide | exact Nat.le_refl _)) (pv 0) (pa_cons (pe_ix ix_tup (pv 3) (pv 5) (fun _ _ => rfl)) pa_nil)))
      (pss_one (ps_expr (pe_bm PySem.F.plainAttrs_list PySem.F.slot_list_extend PySem.F.type_list_extend mt_extend (pv 4) (pa_cons (pe_lc (own := [("its", 7)]) (g := (gName 7)) (tt := (tTest (tOp rNe (tMeth C "mark" sp_mark [] E0 (tVar 0) (tCons (tOp (rIxT K) (tVar 3) (tVar 7)) tNil)) (tVar 6)))) (te := (tTup (tCons (tVar 5) (tCons (tVar 7) tNil)))) rfl sc_not_covered.nd (pi_range1 (by rfl) B.range (pa_cons (pe_prp p_many hC (hr.mono (by first | decide | exact Nat.le_refl _)) (pv 0)) pa_nil)) (blkOk_by (own := [("its", 7)]) (N := N_not_covered) (sc := defScope (top 31)) (by decide +kernel)) (fun _ _ _ _ _ => by exact (pg_name (i := 7) sc_not_covered.nd rfl (Or.inl rfl))) (fun _ _ _ _ _ => by exact (pts_one (pt_cmpR op_ne (pe_met m_mark hC (hr.mono (by first | decide | exact Nat.le_refl _)) (pv 0) (pa_cons (pe_ix ix_tup (pv 3) (pv 7) (fun _ _ => rfl)) pa_nil)) (pv 6) (nomark _)))) (fun _ _ _ _ _ => by exact (pe_tup (pa_cons (pv 5) (pa_cons (pv 7) pa_nil))))) pa_nil))))))
      (pss_one (ps_ret (pe_cal c_first_to (hr.mono (by first | decide | exact Nat.le_refl _)) (by rfl) (pa_cons (pv 0) (pa_cons (pe_lc (own := [("state", 8), ("there", 9)]) (g := (gTup K 2 (gCons (gName 8) (gCons (gName 9) gNil)))) (tt := tYes) (te := (tTup (tCons (tVar 9) (tCons (tVar 8) tNil)))) rfl sc_not_covered.nd (pi_enumT (by rfl) B.enumerate (pa_cons (pe_ixO m_getitem (hr.mono (by first | decide | exact Nat.le_refl _)) (pv 0) (pv 1) (fun _ _ => rfl)) pa_nil)) (blkOk_by (own := [("state", 8), ("there", 9)]) (N := N_not_covered) (sc := defScope (top 31)) (by decide +kernel)) (fun _ _ _ _ _ => by exact (pg_tup rfl (pgs_cons (pg_name (i := 8) sc_not_covered.nd rfl (Or.inl rfl)) (pgs_cons (pg_name (i := 9) sc_not_covered.nd rfl (Or.inl rfl)) pgs_nil)))) (fun _ _ _ _ _ => by exact pts_nil) (fun _ _ _ _ _ => by exact (pe_tup (pa_cons (pv 9) (pa_cons (pv 8) pa_nil))))) (pa_cons (pv 4) pa_nil)))))))))
abbrev N_is_covered : List Str := ["machine", "name", "by"]
theorem sc_is_covered : FnScope N_is_covered ["machine", "name", "by"] (defScope (top 32)) := ⟨rfl, rfl, rfl, by decide +kernel, rfl, by decide +kernel, by decide +kernel⟩
abbrev t_is_covered (K : PySem.W.Frag) (sp_not_covered : Sp) : TS := (tRet (tOp rIsNo (tCall sp_not_covered [] E0 (tCons (tVar 0) (tCons (tVar 1) (tCons (tVar 2) tNil)))) (tC .non)))
theorem der_is_covered {f : Addr} {cdv : Value} {A : Around} {outer : List PySem.Env} {s : Shared} {H : Hp} {E : XK} (B : Bi mg)  {sp_not_covered : Sp} (c_not_covered : Cal P w K mg base 6 "not_covered" ["machine", "name", "by"] sp_not_covered) (hr : Room 6 (A.deeper (envOfC "is_covered" (defScope (top 32)) s.heap.objs.size f cdv))) :
    PSs (cxOf CX0 P w K mg base N_is_covered "is_covered" (defScope (top 32)) f cdv A outer s H E).nox (defBody (top 32)) (t_is_covered K sp_not_covered) :=
  (pss_one (ps_ret (pe_cmpR op_isN (pe_cal c_not_covered (hr.mono (by first | decide | exact Nat.le_refl _)) (by rfl) (pa_cons (pv 0) (pa_cons (pv 1) (pa_cons (pv 2) pa_nil)))) pe_non (nomark _))))
abbrev N_by_three : List Str := ["machine", "name", "by", "log", "between"]
theorem sc_by_three : FnScope N_by_three ["machine", "name", "by"] (defScope (top 33)) := ⟨rfl, rfl, rfl, by decide +kernel, rfl, by decide +kernel, by decide +kernel⟩
abbrev t_by_three (K : PySem.W.Frag) (C : Addr) (sp_names sp_same sp_check_deeds : Sp) : TS := (tSeq (tDrop (tCall sp_check_deeds [] E0 (tCons (tVar 0) (tCons (tTup (tCons (tVar 1) (tCons (tVar 2) tNil))) tNil))))
    (tSeq (tFor (iList K (tLst (tCons (tTup tNil) (StX.tStar K (tLc (iTup K (tProp C sp_names [] E0 (tVar 0))) (gName 4) tYes (tTup (tCons (tVar 4) tNil)) [4]) tNil)))) (gName 3) (tIfS (tNot (tB (tCall sp_same [] E0 (tCons (tVar 0) (tCons (tTup (tCons (tVar 1) (StX.tStar K (tVar 3) (tCons (tVar 2) tNil)))) (tCons (tTup (StX.tStar K (tVar 3) (tCons (tVar 2) tNil))) tNil)))))) (tRet (tVar 3)) tNext))
    (tRet (tC .non))))
theorem der_by_three {f : Addr} {cdv : Value} {A : Around} {outer : List PySem.Env} {s : Shared} {H : Hp} {E : XK} (B : Bi mg)  {C : Addr} {sp_names sp_same sp_check_deeds : Sp} (hC : Cls K C) (p_names : Prp P w K mg base 1 C "names" sp_names) (c_same : Cal P w K mg base 6 "same" ["machine", "one", "other"] sp_same) (c_check_deeds : Cal P w K mg base 2 "check_deeds" ["machine", "names"] sp_check_deeds) (hr : Room 6 (A.deeper (envOfC "by_three" (defScope (top 33)) s.heap.objs.size f cdv))) :
    PSs (cxOf CX0 P w K mg base N_by_three "by_three" (defScope (top 33)) f cdv A outer s H E).nox (defBody (top 33)) (t_by_three K C sp_names sp_same sp_check_deeds) :=
  (pss_cons (ps_expr (pe_cal c_check_deeds (hr.mono (by first | decide | exact Nat.le_refl _)) (by rfl) (pa_cons (pv 0) (pa_cons (pe_tup (pa_cons (pv 1) (pa_cons (pv 2) pa_nil))) pa_nil))))
      (pss_cons (ps_for PassesOwn.never rfl (pi_list (pe_lst (pa_cons (pe_tup pa_nil) (StX.pa_star (pe_lc (own := [("between", 4)]) (g := (gName 4)) (tt := tYes) (te := (tTup (tCons (tVar 4) tNil))) rfl sc_by_three.nd (pi_tup (pe_prp p_names hC (hr.mono (by first | decide | exact Nat.le_refl _)) (pv 0))) (blkOk_by (own := [("between", 4)]) (N := N_by_three) (sc := defScope (top 33)) (by decide +kernel)) (fun _ _ _ _ _ => by exact (pg_name (i := 4) sc_by_three.nd rfl (Or.inl rfl))) (fun _ _ _ _ _ => by exact pts_nil) (fun _ _ _ _ _ => by exact (pe_tup (pa_cons (pv 4) pa_nil)))) pa_nil)))) (pg_name (i := 3) sc_by_three.nd rfl (Or.inl rfl)) (pss_one (ps_if (pt_not (pt_val (pe_cal c_same (hr.mono (by first | decide | exact Nat.le_refl _)) (by rfl) (pa_cons (pv 0) (pa_cons (pe_tup (pa_cons (pv 1) (StX.pa_star (pv 3) (pa_cons (pv 2) pa_nil)))) (pa_cons (pe_tup (StX.pa_star (pv 3) (pa_cons (pv 2) pa_nil))) pa_nil)))))) (pss_one (ps_ret (pv 3))) pss_nil)))
      (pss_one (ps_ret pe_non))))
abbrev N_greatest : List Str := ["machine", "names", "one", "other"]
theorem sc_greatest : FnScope N_greatest ["machine"] (defScope (top 34)) := ⟨rfl, rfl, rfl, by decide +kernel, rfl, by decide +kernel, by decide +kernel⟩
abbrev t_greatest (K : PySem.W.Frag) (C CR : Addr) (sp_names sp_RulesInit sp_is_covered : Sp) : TS := (tSeq (tAsg (tProp C sp_names [] E0 (tVar 0)) (gName 1))
    (tRet (tMake CR sp_RulesInit [] E0 (tCons (tLc2 (iTup K (tVar 1)) (gName 2) tYes (iTup K (tVar 1)) (gName 3) (tB (tCall sp_is_covered [] E0 (tCons (tVar 0) (tCons (tVar 2) (tCons (tVar 3) tNil))))) (tTup (tCons (tVar 2) (tCons (tVar 3) tNil))) [2, 3] [3]) tNil))))
theorem der_greatest {f : Addr} {cdv : Value} {A : Around} {outer : List PySem.Env} {s : Shared} {H : Hp} {E : XK} (B : Bi mg)  {C CR : Addr} {sp_names sp_RulesInit sp_is_covered : Sp} (hC : Cls K C) (hCR : Cls K CR) (p_names : Prp P w K mg base 1 C "names" sp_names) (k_Rules : Mak P w K mg base 2 CR "Rules" ["self", "pairs"] [] sp_RulesInit) (c_is_covered : Cal P w K mg base 7 "is_covered" ["machine", "name", "by"] sp_is_covered) (hr : Room 7 (A.deeper (envOfC "greatest" (defScope (top 34)) s.heap.objs.size f cdv))) :
    PSs (cxOf CX0 P w K mg base N_greatest "greatest" (defScope (top 34)) f cdv A outer s H E).nox (defBody (top 34)) (t_greatest K C CR sp_names sp_RulesInit sp_is_covered) :=
  (pss_cons (ps_set (i := 1) sc_greatest.nd rfl (Or.inr rfl) (pe_prp p_names hC (hr.mono (by first | decide | exact Nat.le_refl _)) (pv 0)))
      (pss_one (ps_ret (pe_mak k_Rules (hr.mono (by first | decide | exact Nat.le_refl _)) (by rfl) (pa_cons (pe_lc2 (own := [("one", 2), ("other", 3)]) (vs1 := [3]) (g := (gName 2)) (tt := tYes) (wi1 := (iTup K (tVar 1))) (g1 := (gName 3)) (tt1 := (tB (tCall sp_is_covered [] E0 (tCons (tVar 0) (tCons (tVar 2) (tCons (tVar 3) tNil)))))) (te := (tTup (tCons (tVar 2) (tCons (tVar 3) tNil)))) rfl sc_greatest.nd (pi_tup (pv 1)) (blkOk_by (own := [("one", 2), ("other", 3)]) (N := N_greatest) (sc := defScope (top 34)) (by decide +kernel)) (by decide) (fun _ _ _ _ _ => by exact (pg_name (i := 2) sc_greatest.nd rfl (Or.inl rfl))) (fun _ _ _ _ _ => by exact pts_nil) (fun _ _ _ _ _ => by exact (pi_tup (pv 1))) (fun _ _ _ _ _ => by exact (pg_name (i := 3) sc_greatest.nd rfl (Or.inl rfl))) (fun _ _ _ _ _ => by exact (pts_one (pt_val (pe_cal c_is_covered (hr.mono (by first | decide | exact Nat.le_refl _)) (by rfl) (pa_cons (pv 0) (pa_cons (pv 2) (pa_cons (pv 3) pa_nil))))))) (fun _ _ _ _ _ => by exact (pe_tup (pa_cons (pv 2) (pa_cons (pv 3) pa_nil))))) pa_nil)))))
end
end Ll
end

section
set_option Elab.async false
set_option linter.all false
set_option maxRecDepth 100000
set_option maxHeartbeats 4000000
namespace Ll
open PySem PySem.Spec PyProof.Rows L2
section
variable {P : Program} {w : World} {K : PySem.W.Frag} {mg : Str → Option Value} {base : Heap}
abbrev N__law_box : List Str := ["_law_script", "_law_k", "_law_cell"]
theorem sc__law_box : FnScope N__law_box ["_law_script", "_law_k"] (defScope (top 36)) := ⟨rfl, rfl, rfl, by decide +kernel, rfl, by decide +kernel, by decide +kernel⟩
abbrev t__law_box (K : PySem.W.Frag) : TS := (tSeq (tAsg (tIf (tTest (tOp rLtI (tVar 1) (tCB (cLen K) (tCons (tVar 0) tNil)))) (tOp (rIxL K) (tVar 0) (tVar 1)) (tC (.int 0))) (gName 2))
    (tRet (tLst (tCons (tOp rMulI (tCB cAbs (tCons (tVar 2) tNil)) (tCB cInt (tCons (tOp rGeI (tCB cAbs (tCons (tVar 2) tNil)) (tOp rPowI (tC (.int 10)) (tC (.int 18)))) tNil))) (tCons (tOp rAddI (tOp rAddI (tOp rModI (tCB cInt (tCons (tVar 2) tNil)) (tC (.int 2305843009213693951))) (tOp rMulI (tC (.int 39373)) (tVar 1))) (tC (.int 69211))) (tCons (tC (.int 0)) tNil))))))
theorem der__law_box {f : Addr} {cdv : Value} {A : Around} {outer : List PySem.Env} {s : Shared} {H : Hp} {E : XK} (B : Bi mg)   (hr : Room 0 (A.deeper (envOfC "_law_box" (defScope (top 36)) s.heap.objs.size f cdv))) :
    PSs (cxOf CX0 P w K mg base N__law_box "_law_box" (defScope (top 36)) f cdv A outer s H E).nox (defBody (top 36)) (t__law_box K) :=
  (pss_cons (ps_set (i := 2) sc__law_box.nd rfl (Or.inl rfl) (pe_ifExp (pt_cmpR op_lt (pv 1) (pe_callB call_len_seq (by rfl) B.len PySem.boot_len (pa_cons (pv 0) pa_nil)) (nomark _)) (pe_ix ix_list (pv 0) (pv 1) (fun _ _ => rfl)) pe_int))
      (pss_one (ps_ret (pe_lst (pa_cons (pe_op op_mul (pe_callB call_abs (by rfl) B.abs (by decide +kernel) (pa_cons (pv 2) pa_nil)) (pe_callTy call_int1 (by rfl) B.int (by decide +kernel) (pa_cons (pe_cmpR op_ge (pe_callB call_abs (by rfl) B.abs (by decide +kernel) (pa_cons (pv 2) pa_nil)) (pe_op op_pow pe_int pe_int) (nomark _)) pa_nil))) (pa_cons (pe_op op_add (pe_op op_add (pe_op op_modN (pe_callTy call_int1 (by rfl) B.int (by decide +kernel) (pa_cons (pv 2) pa_nil)) pe_int) (pe_op op_mul pe_int (pv 1))) pe_int) (pa_cons pe_int pa_nil)))))))
abbrev N__law_take : List Str := ["_law_box_here", "_law_below_so", "_law_drawn", "_law_once", "_law_far_so", "_law_twice_so"]
theorem sc__law_take : FnScope N__law_take ["_law_box_here", "_law_below_so"] (defScope (top 37)) := ⟨rfl, rfl, rfl, by decide +kernel, rfl, by decide +kernel, by decide +kernel⟩
abbrev t__law_take (K : PySem.W.Frag) : TS := (tSeq (tIfS (tTest (tOp rGtI (tOp (rIxL K) (tVar 0) (tC (.int 0))) (tC (.int 0)))) (tSeq (tAsg (tOp rModI (tCB cInt (tCons (tOp (rIxL K) (tVar 0) (tC (.int 0))) tNil)) (tVar 1)) (gName 2))
    (tSeq (tAsg (tOp rDivI (tOp (rIxL K) (tVar 0) (tC (.int 0))) (tVar 1)) (gSub (tVar 0) (tC (.int 0)) rSetL))
    (tRet (tVar 2)))) tNext)
    (tSeq (tAsg (tOp rAddI (tOp (rIxL K) (tVar 0) (tC (.int 2))) (tC (.int 1))) (gSub (tVar 0) (tC (.int 2)) rSetL))
    (tSeq (tAsg (tOp rModI (tCB cInt (tCons (tOp rMulI (tOp rAddI (tOp (rIxL K) (tVar 0) (tC (.int 1))) (tOp rMulI (tC (.int 48271)) (tOp (rIxL K) (tVar 0) (tC (.int 2))))) (tOp rAddI (tC (.int 39373)) (tOp (rIxL K) (tVar 0) (tC (.int 2))))) tNil)) (tC (.int 2147483647))) (gName 3))
    (tSeq (tAsg (tOp rAddI (tOp rModI (tCB cInt (tCons (tVar 3) tNil)) (tC (.int 40009))) (tC (.int 7))) (gName 4))
    (tSeq (tAsg (tOp rModI (tCB cInt (tCons (tOp rMulI (tOp rAddI (tOp rAddI (tVar 3) (tOp (rIxL K) (tVar 0) (tC (.int 2)))) (tOp rDivI (tOp (rIxL K) (tVar 0) (tC (.int 1))) (tC (.int 1000003)))) (tVar 4)) tNil)) (tC (.int 2147483629))) (gName 5))
    (tRet (tOp rModI (tCB cInt (tCons (tOp rDivI (tOp rModI (tCB cInt (tCons (tOp rAddI (tOp rMulI (tVar 5) (tC (.int 48271))) (tVar 3)) tNil)) (tC (.int 2147483587))) (tC (.int 64))) tNil)) (tVar 1))))))))
theorem der__law_take {f : Addr} {cdv : Value} {A : Around} {outer : List PySem.Env} {s : Shared} {H : Hp} {E : XK} (B : Bi mg)   (hr : Room 0 (A.deeper (envOfC "_law_take" (defScope (top 37)) s.heap.objs.size f cdv))) :
    PSs (cxOf CX0 P w K mg base N__law_take "_law_take" (defScope (top 37)) f cdv A outer s H E).nox (defBody (top 37)) (t__law_take K) :=
  (pss_cons (ps_if (pt_cmpR op_gt (pe_ix ix_list (pv 0) pe_int (fun _ _ => rfl)) pe_int (nomark _)) (pss_cons (ps_set (i := 2) sc__law_take.nd rfl (Or.inl rfl) (pe_op op_modN (pe_callTy call_int1 (by rfl) B.int (by decide +kernel) (pa_cons (pe_ix ix_list (pv 0) pe_int (fun _ _ => rfl)) pa_nil)) (pv 1)))
      (pss_cons (ps_asg (pe_op op_fdivN (pe_ix ix_list (pv 0) pe_int (fun _ _ => rfl)) (pv 1)) (pg_sub (pv 0) pe_int set_list))
      (pss_one (ps_ret (pv 2))))) pss_nil)
      (pss_cons (ps_asg (pe_op op_add (pe_ix ix_list (pv 0) pe_int (fun _ _ => rfl)) pe_int) (pg_sub (pv 0) pe_int set_list))
      (pss_cons (ps_set (i := 3) sc__law_take.nd rfl (Or.inl rfl) (pe_op op_modN (pe_callTy call_int1 (by rfl) B.int (by decide +kernel) (pa_cons (pe_op op_mul (pe_op op_add (pe_ix ix_list (pv 0) pe_int (fun _ _ => rfl)) (pe_op op_mul pe_int (pe_ix ix_list (pv 0) pe_int (fun _ _ => rfl)))) (pe_op op_add pe_int (pe_ix ix_list (pv 0) pe_int (fun _ _ => rfl)))) pa_nil)) pe_int))
      (pss_cons (ps_set (i := 4) sc__law_take.nd rfl (Or.inl rfl) (pe_op op_add (pe_op op_modN (pe_callTy call_int1 (by rfl) B.int (by decide +kernel) (pa_cons (pv 3) pa_nil)) pe_int) pe_int))
      (pss_cons (ps_set (i := 5) sc__law_take.nd rfl (Or.inl rfl) (pe_op op_modN (pe_callTy call_int1 (by rfl) B.int (by decide +kernel) (pa_cons (pe_op op_mul (pe_op op_add (pe_op op_add (pv 3) (pe_ix ix_list (pv 0) pe_int (fun _ _ => rfl))) (pe_op op_fdivN (pe_ix ix_list (pv 0) pe_int (fun _ _ => rfl)) pe_int)) (pv 4)) pa_nil)) pe_int))
      (pss_one (ps_ret (pe_op op_modN (pe_callTy call_int1 (by rfl) B.int (by decide +kernel) (pa_cons (pe_op op_fdivN (pe_op op_modN (pe_callTy call_int1 (by rfl) B.int (by decide +kernel) (pa_cons (pe_op op_add (pe_op op_mul (pv 5) pe_int) (pv 3)) pa_nil)) pe_int) pe_int) pa_nil)) (pv 1)))))))))
abbrev N__law_cells : List Str := ["_law_script", "_law_most_so", "_law_cells_here", "_law_k", "_law_cell", "_law_at_so"]
theorem sc__law_cells : FnScope N__law_cells ["_law_script", "_law_most_so"] (defScope (top 38)) := ⟨rfl, rfl, rfl, by decide +kernel, rfl, by decide +kernel, by decide +kernel⟩
abbrev t__law_cells (K : PySem.W.Frag) : TS := (tSeq (tAsg (tOrT K (tCB (cLst K) (tCons (tSl (rSlL K) (tVar 0) tNoPart (tPart (tVar 1))) tNil)) (tLst (tCons (tC (.int 0)) tNil))) (gName 2))
    (tSeq (tFor (iEnum K (tCons (tSl (rSlL K) (tVar 0) (tPart (tVar 1)) (tPart (tC (.int 63)))) tNil)) (gTup K 2 (gCons (gName 3) (gCons (gName 4) gNil))) (tSeq (tAsg (tOp rModI (tCB cInt (tCons (tVar 3) tNil)) (tVar 1)) (gName 5))
    (tAsg (tOp rAddI (tOp (rIxL K) (tVar 2) (tVar 5)) (tOp rMulI (tVar 4) (tOp rAddI (tVar 3) (tC (.int 2))))) (gSub (tVar 2) (tVar 5) rSetL))))
    (tRet (tVar 2))))
theorem der__law_cells {f : Addr} {cdv : Value} {A : Around} {outer : List PySem.Env} {s : Shared} {H : Hp} {E : XK} (B : Bi mg)   (hr : Room 0 (A.deeper (envOfC "_law_cells" (defScope (top 38)) s.heap.objs.size f cdv))) :
    PSs (cxOf CX0 P w K mg base N__law_cells "_law_cells" (defScope (top 38)) f cdv A outer s H E).nox (defBody (top 38)) (t__law_cells K) :=
  (pss_cons (ps_set (i := 2) sc__law_cells.nd rfl (Or.inl rfl) (pe_orT (pe_callTy call_list_of (by rfl) B.list (by decide +kernel) (pa_cons (pe_slice sl_list (pv 0) po_none (po_some (pv 1))) pa_nil)) (pe_one (pe_lst (pa_cons pe_int pa_nil)))))
      (pss_cons (ps_for PassesOwn.never rfl (pi_enum (by rfl) B.enumerate (pa_cons (pe_slice sl_list (pv 0) (po_some (pv 1)) (po_some pe_int)) pa_nil)) (pg_tup rfl (pgs_cons (pg_name (i := 3) sc__law_cells.nd rfl (Or.inl rfl)) (pgs_cons (pg_name (i := 4) sc__law_cells.nd rfl (Or.inl rfl)) pgs_nil))) (pss_cons (ps_set (i := 5) sc__law_cells.nd rfl (Or.inl rfl) (pe_op op_modN (pe_callTy call_int1 (by rfl) B.int (by decide +kernel) (pa_cons (pv 3) pa_nil)) (pv 1)))
      (pss_one (ps_asg (pe_op op_add (pe_ix ix_list (pv 2) (pv 5) (fun _ _ => rfl)) (pe_op op_mul (pv 4) (pe_op op_add (pv 3) pe_int))) (pg_sub (pv 2) (pv 5) set_list)))))
      (pss_one (ps_ret (pv 2)))))
abbrev N__law_of : List Str := ["_law_box_here", "_law_some"]
theorem sc__law_of : FnScope N__law_of ["_law_box_here", "_law_some"] (defScope (top 39)) := ⟨rfl, rfl, rfl, by decide +kernel, rfl, by decide +kernel, by decide +kernel⟩
abbrev t__law_of (K : PySem.W.Frag) (sp_l_take : Sp) : TS := (tRet (tOp (rIxL K) (tVar 1) (tCall sp_l_take [] E0 (tCons (tVar 0) (tCons (tCB (cLen K) (tCons (tVar 1) tNil)) tNil)))))
theorem der__law_of {f : Addr} {cdv : Value} {A : Around} {outer : List PySem.Env} {s : Shared} {H : Hp} {E : XK} (B : Bi mg)  {sp_l_take : Sp} (c__law_take : Cal P w K mg base 1 "_law_take" ["_law_box_here", "_law_below_so"] sp_l_take) (hr : Room 1 (A.deeper (envOfC "_law_of" (defScope (top 39)) s.heap.objs.size f cdv))) :
    PSs (cxOf CX0 P w K mg base N__law_of "_law_of" (defScope (top 39)) f cdv A outer s H E).nox (defBody (top 39)) (t__law_of K sp_l_take) :=
  (pss_one (ps_ret (pe_ix ix_list (pv 1) (pe_cal c__law_take (hr.mono (by first | decide | exact Nat.le_refl _)) (by rfl) (pa_cons (pv 0) (pa_cons (pe_callB call_len_seq (by rfl) B.len PySem.boot_len (pa_cons (pv 1) pa_nil)) pa_nil))) (fun _ _ => rfl))))
abbrev N__law_mixed : List Str := ["_law_box_here", "_law_rows_so", "_law_rest_so", "_law_found", "_law_turn", "_law_at_so"]
theorem sc__law_mixed : FnScope N__law_mixed ["_law_box_here", "_law_rows_so"] (defScope (top 41)) := ⟨rfl, rfl, rfl, by decide +kernel, rfl, by decide +kernel, by decide +kernel⟩
abbrev t__law_mixed (K : PySem.W.Frag) (sp_l_take : Sp) : TS := (tSeq (tPar 2 3 (tCons (tCB (cLst K) (tCons (tVar 1) tNil)) (tCons (tLst tNil) tNil)))
    (tSeq (tFor (iRng1 (tCons (tCB (cLen K) (tCons (tVar 1) tNil)) tNil)) (gName 4) (tSeq (tAsg (tCall sp_l_take [] E0 (tCons (tVar 0) (tCons (tCB (cLen K) (tCons (tVar 2) tNil)) tNil))) (gName 5))
    (tSeq (tDrop (tBM K "list" rAppend (tVar 3) (tCons (tOp (rIxL K) (tVar 2) (tVar 5)) tNil)))
    (tAsg (tOp rCat (tSl (rSlL K) (tVar 2) tNoPart (tPart (tVar 5))) (tSl (rSlL K) (tVar 2) (tPart (tOp rAddI (tVar 5) (tC (.int 1)))) tNoPart)) (gName 2)))))
    (tRet (tVar 3))))
theorem der__law_mixed {f : Addr} {cdv : Value} {A : Around} {outer : List PySem.Env} {s : Shared} {H : Hp} {E : XK} (B : Bi mg)  {sp_l_take : Sp} (c__law_take : Cal P w K mg base 1 "_law_take" ["_law_box_here", "_law_below_so"] sp_l_take) (hr : Room 1 (A.deeper (envOfC "_law_mixed" (defScope (top 41)) s.heap.objs.size f cdv))) :
    PSs (cxOf CX0 P w K mg base N__law_mixed "_law_mixed" (defScope (top 41)) f cdv A outer s H E).nox (defBody (top 41)) (t__law_mixed K sp_l_take) :=
  (pss_cons (ps_par (i := 2) (j := 3) rfl sc__law_mixed.nd rfl rfl (by decide) rfl rfl (pa_cons (pe_callTy call_list_of (by rfl) B.list (by decide +kernel) (pa_cons (pv 1) pa_nil)) (pa_cons (pe_lst pa_nil) pa_nil)) (by rfl))
      (pss_cons (ps_for PassesOwn.never rfl (pi_range1 (by rfl) B.range (pa_cons (pe_callB call_len_seq (by rfl) B.len PySem.boot_len (pa_cons (pv 1) pa_nil)) pa_nil)) (pg_name (i := 4) sc__law_mixed.nd rfl (Or.inl rfl)) (pss_cons (ps_set (i := 5) sc__law_mixed.nd rfl (Or.inl rfl) (pe_cal c__law_take (hr.mono (by first | decide | exact Nat.le_refl _)) (by rfl) (pa_cons (pv 0) (pa_cons (pe_callB call_len_seq (by rfl) B.len PySem.boot_len (pa_cons (pv 2) pa_nil)) pa_nil))))
      (pss_cons (ps_expr (pe_bm PySem.F.plainAttrs_list PySem.F.slot_list_append PySem.F.type_list_append mt_append (pv 3) (pa_cons (pe_ix ix_list (pv 2) (pv 5) (fun _ _ => rfl)) pa_nil)))
      (pss_one (ps_set (i := 2) sc__law_mixed.nd rfl (Or.inl rfl) (pe_op op_cat (pe_slice sl_list (pv 2) po_none (po_some (pv 5))) (pe_slice sl_list (pv 2) (po_some (pe_op op_add (pv 5) pe_int)) po_none)))))))
      (pss_one (ps_ret (pv 3)))))
abbrev N__law_names : List Str := ["_law_box_here", "_law_some", "_law_signs_so", "_law_k", "_law_stem_so", "_law_far_so", "_law_spot_so", "_law_near_so", "_law_first_so", "_law_stride_so", "_law_found", "_law_size_so", "_law_word_so", "_law_at_so", "_law_sign_so", "_law_turn"]
theorem sc__law_names : FnScope N__law_names ["_law_box_here", "_law_some"] (defScope (top 42)) := ⟨rfl, rfl, rfl, by decide +kernel, rfl, by decide +kernel, by decide +kernel⟩
abbrev t__law_names (K : PySem.W.Frag) (sp_l_take sp_l_of : Sp) : TS := (tSeq (tAsg (tC (.str "abcdefghijklmnopqrstuvwxyz")) (gName 2))
    (tSeq (tAsg (tBM K "str" (cJoin K) (tC (.str "")) (tCons (tLc (iRng1 (tCons (tC (.int 8)) tNil)) (gName 3) tYes (tOp rIxS (tVar 2) (tCall sp_l_take [] E0 (tCons (tVar 0) (tCons (tC (.int 26)) tNil)))) [3]) tNil)) (gName 4))
    (tSeq (tPar3 5 6 7 (tCons (tOp rAddI (tC (.int 1)) (tCall sp_l_take [] E0 (tCons (tVar 0) (tCons (tC (.int 8)) tNil)))) (tCons (tCall sp_l_take [] E0 (tCons (tVar 0) (tCons (tC (.int 8)) tNil))) (tCons (tCall sp_l_take [] E0 (tCons (tVar 0) (tCons (tC (.int 2)) tNil))) tNil))))
    (tSeq (tAsg (tCall sp_l_take [] E0 (tCons (tVar 0) (tCons (tC (.int 26)) tNil))) (gName 8))
    (tSeq (tAsg (tCall sp_l_of [] E0 (tCons (tVar 0) (tCons (tLst (tCons (tC (.int 1)) (tCons (tC (.int 3)) (tCons (tC (.int 5)) (tCons (tC (.int 7)) (tCons (tC (.int 9)) (tCons (tC (.int 11)) (tCons (tC (.int 15)) (tCons (tC (.int 17)) (tCons (tC (.int 19)) (tCons (tC (.int 21)) (tCons (tC (.int 23)) (tCons (tC (.int 25)) tNil))))))))))))) tNil))) (gName 9))
    (tSeq (tAsg (tLst tNil) (gName 10))
    (tSeq (tFor (iRng1 (tCons (tVar 1) tNil)) (gName 3) (tSeq (tAsg (tIf (tTest (tOp rEq (tVar 7) (tC (.int 0)))) (tVar 5) (tOp rAddI (tC (.int 1)) (tCall sp_l_take [] E0 (tCons (tVar 0) (tCons (tC (.int 8)) tNil))))) (gName 11))
    (tSeq (tAsg (tSl rSlS (tVar 4) tNoPart (tPart (tVar 11))) (gName 12))
    (tSeq (tIfS (tTest (tOp rGtI (tVar 7) (tC (.int 0)))) (tAsg (tBM K "str" (cJoin K) (tC (.str "")) (tCons (tLc (iRng1 (tCons (tVar 11) tNil)) (gName 15) tYes (tOp rIxS (tVar 2) (tCall sp_l_take [] E0 (tCons (tVar 0) (tCons (tC (.int 26)) tNil)))) [15]) tNil)) (gName 12)) tNext)
    (tSeq (tAsg (tOp rModI (tCB cInt (tCons (tVar 6) tNil)) (tVar 11)) (gName 13))
    (tSeq (tAsg (tOp rIxS (tVar 2) (tOp rModI (tCB cInt (tCons (tOp rAddI (tVar 8) (tOp rMulI (tVar 9) (tVar 3))) tNil)) (tC (.int 26)))) (gName 14))
    (tDrop (tBM K "list" rAppend (tVar 10) (tCons (tOp rAddT (tOp rAddT (tSl rSlS (tVar 12) tNoPart (tPart (tVar 13))) (tVar 14)) (tSl rSlS (tVar 12) (tPart (tOp rAddI (tVar 13) (tC (.int 1)))) tNoPart)) tNil)))))))))
    (tRet (tVar 10)))))))))
theorem der__law_names {f : Addr} {cdv : Value} {A : Around} {outer : List PySem.Env} {s : Shared} {H : Hp} {E : XK} (B : Bi mg)  {sp_l_take sp_l_of : Sp} (c__law_take : Cal P w K mg base 1 "_law_take" ["_law_box_here", "_law_below_so"] sp_l_take) (c__law_of : Cal P w K mg base 2 "_law_of" ["_law_box_here", "_law_some"] sp_l_of) (hr : Room 2 (A.deeper (envOfC "_law_names" (defScope (top 42)) s.heap.objs.size f cdv))) :
    PSs (cxOf CX0 P w K mg base N__law_names "_law_names" (defScope (top 42)) f cdv A outer s H E).nox (defBody (top 42)) (t__law_names K sp_l_take sp_l_of) :=
  (pss_cons (ps_set (i := 2) sc__law_names.nd rfl (Or.inr rfl) pe_str)
      (pss_cons (ps_set (i := 4) sc__law_names.nd rfl (Or.inl rfl) (pe_bm PySem.F.plainAttrs_str PySem.F.slot_str_join PySem.F.type_str_join mt_join pe_str (pa_cons (pe_lc (own := [("_law_k", 3)]) (g := (gName 3)) (tt := tYes) (te := (tOp rIxS (tVar 2) (tCall sp_l_take [] E0 (tCons (tVar 0) (tCons (tC (.int 26)) tNil))))) rfl sc__law_names.nd (pi_range1 (by rfl) B.range (pa_cons pe_int pa_nil)) (blkOk_by (own := [("_law_k", 3)]) (N := N__law_names) (sc := defScope (top 42)) (by decide +kernel)) (fun _ _ _ _ _ => by exact (pg_name (i := 3) sc__law_names.nd rfl (Or.inl rfl))) (fun _ _ _ _ _ => by exact pts_nil) (fun _ _ _ _ _ => by exact (pe_ix ix_str (pv 2) (pe_cal c__law_take (hr.mono (by first | decide | exact Nat.le_refl _)) (by rfl) (pa_cons (pv 0) (pa_cons pe_int pa_nil))) (fun _ _ => rfl)))) pa_nil)))
      (pss_cons (ps_par3 (i := 5) (j := 6) (l := 7) rfl sc__law_names.nd rfl rfl rfl (by decide) (by decide) (by decide) rfl rfl rfl (pa_cons (pe_op op_add pe_int (pe_cal c__law_take (hr.mono (by first | decide | exact Nat.le_refl _)) (by rfl) (pa_cons (pv 0) (pa_cons pe_int pa_nil)))) (pa_cons (pe_cal c__law_take (hr.mono (by first | decide | exact Nat.le_refl _)) (by rfl) (pa_cons (pv 0) (pa_cons pe_int pa_nil))) (pa_cons (pe_cal c__law_take (hr.mono (by first | decide | exact Nat.le_refl _)) (by rfl) (pa_cons (pv 0) (pa_cons pe_int pa_nil))) pa_nil))) (by rfl))
      (pss_cons (ps_set (i := 8) sc__law_names.nd rfl (Or.inl rfl) (pe_cal c__law_take (hr.mono (by first | decide | exact Nat.le_refl _)) (by rfl) (pa_cons (pv 0) (pa_cons pe_int pa_nil))))
      (pss_cons (ps_set (i := 9) sc__law_names.nd rfl (Or.inl rfl) (pe_cal c__law_of (hr.mono (by first | decide | exact Nat.le_refl _)) (by rfl) (pa_cons (pv 0) (pa_cons (pe_lst (pa_cons pe_int (pa_cons pe_int (pa_cons pe_int (pa_cons pe_int (pa_cons pe_int (pa_cons pe_int (pa_cons pe_int (pa_cons pe_int (pa_cons pe_int (pa_cons pe_int (pa_cons pe_int (pa_cons pe_int pa_nil))))))))))))) pa_nil))))
      (pss_cons (ps_set (i := 10) sc__law_names.nd rfl (Or.inl rfl) (pe_lst pa_nil))
      (pss_cons (ps_for PassesOwn.never rfl (pi_range1 (by rfl) B.range (pa_cons (pv 1) pa_nil)) (pg_name (i := 3) sc__law_names.nd rfl (Or.inl rfl)) (pss_cons (ps_set (i := 11) sc__law_names.nd rfl (Or.inl rfl) (pe_ifExp (pt_cmpR op_eq (pv 7) pe_int (nomark _)) (pv 5) (pe_op op_add pe_int (pe_cal c__law_take (hr.mono (by first | decide | exact Nat.le_refl _)) (by rfl) (pa_cons (pv 0) (pa_cons pe_int pa_nil))))))
      (pss_cons (ps_set (i := 12) sc__law_names.nd rfl (Or.inl rfl) (pe_slice sl_str (pv 4) po_none (po_some (pv 11))))
      (pss_cons (ps_if (pt_cmpR op_gt (pv 7) pe_int (nomark _)) (pss_one (ps_set (i := 12) sc__law_names.nd rfl (Or.inl rfl) (pe_bm PySem.F.plainAttrs_str PySem.F.slot_str_join PySem.F.type_str_join mt_join pe_str (pa_cons (pe_lc (own := [("_law_turn", 15)]) (g := (gName 15)) (tt := tYes) (te := (tOp rIxS (tVar 2) (tCall sp_l_take [] E0 (tCons (tVar 0) (tCons (tC (.int 26)) tNil))))) rfl sc__law_names.nd (pi_range1 (by rfl) B.range (pa_cons (pv 11) pa_nil)) (blkOk_by (own := [("_law_turn", 15)]) (N := N__law_names) (sc := defScope (top 42)) (by decide +kernel)) (fun _ _ _ _ _ => by exact (pg_name (i := 15) sc__law_names.nd rfl (Or.inl rfl))) (fun _ _ _ _ _ => by exact pts_nil) (fun _ _ _ _ _ => by exact (pe_ix ix_str (pv 2) (pe_cal c__law_take (hr.mono (by first | decide | exact Nat.le_refl _)) (by rfl) (pa_cons (pv 0) (pa_cons pe_int pa_nil))) (fun _ _ => rfl)))) pa_nil)))) pss_nil)
      (pss_cons (ps_set (i := 13) sc__law_names.nd rfl (Or.inl rfl) (pe_op op_modN (pe_callTy call_int1 (by rfl) B.int (by decide +kernel) (pa_cons (pv 6) pa_nil)) (pv 11)))
      (pss_cons (ps_set (i := 14) sc__law_names.nd rfl (Or.inl rfl) (pe_ix ix_str (pv 2) (pe_op op_modN (pe_callTy call_int1 (by rfl) B.int (by decide +kernel) (pa_cons (pe_op op_add (pv 8) (pe_op op_mul (pv 9) (pv 3))) pa_nil)) pe_int) (fun _ _ => rfl)))
      (pss_one (ps_expr (pe_bm PySem.F.plainAttrs_list PySem.F.slot_list_append PySem.F.type_list_append mt_append (pv 10) (pa_cons (pe_op op_add_str (pe_op op_add_str (pe_slice sl_str (pv 12) po_none (po_some (pv 13))) (pv 14)) (pe_slice sl_str (pv 12) (po_some (pe_op op_add (pv 13) pe_int)) po_none)) pa_nil))))))))))
      (pss_one (ps_ret (pv 10))))))))))
abbrev N__law_moves : List Str := ["_law_box_here", "_law_many_so", "_law_way_so", "_law_states_so", "_law_k", "_law_far_so", "_law_stride_so", "_law_kept_so"]
theorem sc__law_moves : FnScope N__law_moves ["_law_box_here", "_law_many_so"] (defScope (top 43)) := ⟨rfl, rfl, rfl, by decide +kernel, rfl, by decide +kernel, by decide +kernel⟩
abbrev t__law_moves (K : PySem.W.Frag) (sp_l_take sp_l_of sp_l_mixed : Sp) : TS := (tSeq (tPar 2 3 (tCons (tCall sp_l_take [] E0 (tCons (tVar 0) (tCons (tC (.int 6)) tNil))) (tCons (tLstRg (tRg1 (tVar 1))) tNil)))
    (tSeq (tIfS (tTest (tOp rEq (tVar 2) (tC (.int 0)))) (tRet (tOp (rRepA K) (tTup (tCons (tCall sp_l_take [] E0 (tCons (tVar 0) (tCons (tVar 1) tNil))) tNil)) (tVar 1))) tNext)
    (tSeq (tIfS (tTest (tOp rEq (tVar 2) (tC (.int 1)))) (tRet (tCB (cTup K) (tCons (tCall sp_l_mixed [] E0 (tCons (tVar 0) (tCons (tVar 3) tNil))) tNil))) tNext)
    (tSeq (tIfS (tTest (tOp rEq (tVar 2) (tC (.int 2)))) (tSeq (tPar 4 5 (tCons (tCall sp_l_take [] E0 (tCons (tVar 0) (tCons (tVar 1) tNil))) (tCons (tCall sp_l_take [] E0 (tCons (tVar 0) (tCons (tVar 1) tNil))) tNil)))
    (tRet (tCB (cTup K) (tCons (tOp rCat (tOp rCat (tSl (rSlL K) (tVar 3) tNoPart (tPart (tVar 4))) (tLst (tCons (tVar 5) tNil))) (tSl (rSlL K) (tVar 3) (tPart (tOp rAddI (tVar 4) (tC (.int 1)))) tNoPart)) tNil)))) tNext)
    (tSeq (tIfS (tTest (tOp rEq (tVar 2) (tC (.int 3)))) (tSeq (tAsg (tCall sp_l_of [] E0 (tCons (tVar 0) (tCons (tLst (tCons (tC (.int 1)) (tCons (tUn rNegI (tC (.int 1))) tNil))) tNil))) (gName 6))
    (tRet (tCB (cTup K) (tCons (tLc (iList K (tVar 3)) (gName 4) tYes (tCB cMin2 (tCons (tOp rSubI (tVar 1) (tC (.int 1))) (tCons (tCB cMax2 (tCons (tC (.int 0)) (tCons (tOp rAddI (tVar 4) (tVar 6)) tNil))) tNil))) [4]) tNil)))) tNext)
    (tSeq (tIfS (tTest (tOp rEq (tVar 2) (tC (.int 4)))) (tSeq (tAsg (tOrT K (tLc (iList K (tVar 3)) (gName 4) (tTest (tOp rEq (tCall sp_l_take [] E0 (tCons (tVar 0) (tCons (tC (.int 2)) tNil))) (tC (.int 0)))) (tVar 4) [4]) (tLst (tCons (tC (.int 0)) tNil))) (gName 7))
    (tRet (tCB (cTup K) (tCons (tLc (iList K (tVar 3)) (gName 4) tYes (tIf (tTest (tOp (rIn K false) (tVar 4) (tVar 7))) (tVar 4) (tCall sp_l_of [] E0 (tCons (tVar 0) (tCons (tVar 7) tNil)))) [4]) tNil)))) tNext)
    (tRet (tCB (cTup K) (tCons (tLc (iList K (tVar 3)) (gName 4) tYes (tCall sp_l_take [] E0 (tCons (tVar 0) (tCons (tVar 1) tNil))) [4]) tNil)))))))))
theorem der__law_moves {f : Addr} {cdv : Value} {A : Around} {outer : List PySem.Env} {s : Shared} {H : Hp} {E : XK} (B : Bi mg)  {sp_l_take sp_l_of sp_l_mixed : Sp} (c__law_take : Cal P w K mg base 1 "_law_take" ["_law_box_here", "_law_below_so"] sp_l_take) (c__law_of : Cal P w K mg base 2 "_law_of" ["_law_box_here", "_law_some"] sp_l_of) (c__law_mixed : Cal P w K mg base 2 "_law_mixed" ["_law_box_here", "_law_rows_so"] sp_l_mixed) (hr : Room 2 (A.deeper (envOfC "_law_moves" (defScope (top 43)) s.heap.objs.size f cdv))) :
    PSs (cxOf CX0 P w K mg base N__law_moves "_law_moves" (defScope (top 43)) f cdv A outer s H E).nox (defBody (top 43)) (t__law_moves K sp_l_take sp_l_of sp_l_mixed) :=
  (pss_cons (ps_par (i := 2) (j := 3) rfl sc__law_moves.nd rfl rfl (by decide) rfl rfl (pa_cons (pe_cal c__law_take (hr.mono (by first | decide | exact Nat.le_refl _)) (by rfl) (pa_cons (pv 0) (pa_cons pe_int pa_nil))) (pa_cons (pe_listRg rfl (by rfl) B.list (prg_1 (by rfl) B.range (pv 1))) pa_nil)) (by rfl))
      (pss_cons (ps_if (pt_cmpR op_eq (pv 2) pe_int (nomark _)) (pss_one (ps_ret (pe_op op_repA (pe_tup (pa_cons (pe_cal c__law_take (hr.mono (by first | decide | exact Nat.le_refl _)) (by rfl) (pa_cons (pv 0) (pa_cons (pv 1) pa_nil))) pa_nil)) (pv 1)))) pss_nil)
      (pss_cons (ps_if (pt_cmpR op_eq (pv 2) pe_int (nomark _)) (pss_one (ps_ret (pe_callTy call_tuple_of (by rfl) B.tuple (by decide +kernel) (pa_cons (pe_cal c__law_mixed (hr.mono (by first | decide | exact Nat.le_refl _)) (by rfl) (pa_cons (pv 0) (pa_cons (pv 3) pa_nil))) pa_nil)))) pss_nil)
      (pss_cons (ps_if (pt_cmpR op_eq (pv 2) pe_int (nomark _)) (pss_cons (ps_par (i := 4) (j := 5) rfl sc__law_moves.nd rfl rfl (by decide) rfl rfl (pa_cons (pe_cal c__law_take (hr.mono (by first | decide | exact Nat.le_refl _)) (by rfl) (pa_cons (pv 0) (pa_cons (pv 1) pa_nil))) (pa_cons (pe_cal c__law_take (hr.mono (by first | decide | exact Nat.le_refl _)) (by rfl) (pa_cons (pv 0) (pa_cons (pv 1) pa_nil))) pa_nil)) (by rfl))
      (pss_one (ps_ret (pe_callTy call_tuple_of (by rfl) B.tuple (by decide +kernel) (pa_cons (pe_op op_cat (pe_op op_cat (pe_slice sl_list (pv 3) po_none (po_some (pv 4))) (pe_lst (pa_cons (pv 5) pa_nil))) (pe_slice sl_list (pv 3) (po_some (pe_op op_add (pv 4) pe_int)) po_none)) pa_nil))))) pss_nil)
      (pss_cons (ps_if (pt_cmpR op_eq (pv 2) pe_int (nomark _)) (pss_cons (ps_set (i := 6) sc__law_moves.nd rfl (Or.inr rfl) (pe_cal c__law_of (hr.mono (by first | decide | exact Nat.le_refl _)) (by rfl) (pa_cons (pv 0) (pa_cons (pe_lst (pa_cons pe_int (pa_cons (pe_un un_neg pe_int) pa_nil))) pa_nil))))
      (pss_one (ps_ret (pe_callTy call_tuple_of (by rfl) B.tuple (by decide +kernel) (pa_cons (pe_lc (own := [("_law_k", 4)]) (g := (gName 4)) (tt := tYes) (te := (tCB cMin2 (tCons (tOp rSubI (tVar 1) (tC (.int 1))) (tCons (tCB cMax2 (tCons (tC (.int 0)) (tCons (tOp rAddI (tVar 4) (tVar 6)) tNil))) tNil)))) rfl sc__law_moves.nd (pi_list (pv 3)) (blkOk_by (own := [("_law_k", 4)]) (N := N__law_moves) (sc := defScope (top 43)) (by decide +kernel)) (fun _ _ _ _ _ => by exact (pg_name (i := 4) sc__law_moves.nd rfl (Or.inl rfl))) (fun _ _ _ _ _ => by exact pts_nil) (fun _ _ _ _ _ => by exact (pe_callB (call_min2 rfl) (by rfl) B.min (by decide +kernel) (pa_cons (pe_op op_sub (pv 1) pe_int) (pa_cons (pe_callB (call_max2 rfl) (by rfl) B.max (by decide +kernel) (pa_cons pe_int (pa_cons (pe_op op_add (pv 4) (pv 6)) pa_nil))) pa_nil))))) pa_nil))))) pss_nil)
      (pss_cons (ps_if (pt_cmpR op_eq (pv 2) pe_int (nomark _)) (pss_cons (ps_set (i := 7) sc__law_moves.nd rfl (Or.inr rfl) (pe_orT (pe_lc (own := [("_law_k", 4)]) (g := (gName 4)) (tt := (tTest (tOp rEq (tCall sp_l_take [] E0 (tCons (tVar 0) (tCons (tC (.int 2)) tNil))) (tC (.int 0))))) (te := (tVar 4)) rfl sc__law_moves.nd (pi_list (pv 3)) (blkOk_by (own := [("_law_k", 4)]) (N := N__law_moves) (sc := defScope (top 43)) (by decide +kernel)) (fun _ _ _ _ _ => by exact (pg_name (i := 4) sc__law_moves.nd rfl (Or.inl rfl))) (fun _ _ _ _ _ => by exact (pts_one (pt_cmpR op_eq (pe_cal c__law_take (hr.mono (by first | decide | exact Nat.le_refl _)) (by rfl) (pa_cons (pv 0) (pa_cons pe_int pa_nil))) pe_int (nomark _)))) (fun _ _ _ _ _ => by exact (pv 4))) (pe_one (pe_lst (pa_cons pe_int pa_nil)))))
      (pss_one (ps_ret (pe_callTy call_tuple_of (by rfl) B.tuple (by decide +kernel) (pa_cons (pe_lc (own := [("_law_k", 4)]) (g := (gName 4)) (tt := tYes) (te := (tIf (tTest (tOp (rIn K false) (tVar 4) (tVar 7))) (tVar 4) (tCall sp_l_of [] E0 (tCons (tVar 0) (tCons (tVar 7) tNil))))) rfl sc__law_moves.nd (pi_list (pv 3)) (blkOk_by (own := [("_law_k", 4)]) (N := N__law_moves) (sc := defScope (top 43)) (by decide +kernel)) (fun _ _ _ _ _ => by exact (pg_name (i := 4) sc__law_moves.nd rfl (Or.inl rfl))) (fun _ _ _ _ _ => by exact pts_nil) (fun _ _ _ _ _ => by exact (pe_ifExp (pt_cmpR op_in_seq (pv 4) (pv 7) (by rfl)) (pv 4) (pe_cal c__law_of (hr.mono (by first | decide | exact Nat.le_refl _)) (by rfl) (pa_cons (pv 0) (pa_cons (pv 7) pa_nil)))))) pa_nil))))) pss_nil)
      (pss_one (ps_ret (pe_callTy call_tuple_of (by rfl) B.tuple (by decide +kernel) (pa_cons (pe_lc (own := [("_law_k", 4)]) (g := (gName 4)) (tt := tYes) (te := (tCall sp_l_take [] E0 (tCons (tVar 0) (tCons (tVar 1) tNil)))) rfl sc__law_moves.nd (pi_list (pv 3)) (blkOk_by (own := [("_law_k", 4)]) (N := N__law_moves) (sc := defScope (top 43)) (by decide +kernel)) (fun _ _ _ _ _ => by exact (pg_name (i := 4) sc__law_moves.nd rfl (Or.inl rfl))) (fun _ _ _ _ _ => by exact pts_nil) (fun _ _ _ _ _ => by exact (pe_cal c__law_take (hr.mono (by first | decide | exact Nat.le_refl _)) (by rfl) (pa_cons (pv 0) (pa_cons (pv 1) pa_nil))))) pa_nil))))))))))
abbrev N__law_machine : List Str := ["_law_box_here", "_law_most_so", "_law_deeds_so", "_law_many_so", "_law_made", "_law_own", "_law_shows_so", "_law_k"]
theorem sc__law_machine : FnScope N__law_machine ["_law_box_here", "_law_most_so", "_law_deeds_so"] (defScope (top 44)) := ⟨rfl, rfl, rfl, by decide +kernel, rfl, by decide +kernel, by decide +kernel⟩
abbrev t__law_machine (K : PySem.W.Frag) (sp_l_take sp_l_of sp_l_names sp_l_moves : Sp) : TS := (tSeq (tPar 3 4 (tCons (tOp rAddI (tC (.int 1)) (tCall sp_l_take [] E0 (tCons (tVar 0) (tCons (tVar 1) tNil)))) (tCons tDNewK tNil)))
    (tSeq (tFor (iList K (tCall sp_l_names [] E0 (tCons (tVar 0) (tCons (tOp rAddI (tC (.int 1)) (tCall sp_l_take [] E0 (tCons (tVar 0) (tCons (tVar 2) tNil)))) tNil)))) (gName 5) (sDPut (tVar 4) (tVar 5) (tCall sp_l_moves [] E0 (tCons (tVar 0) (tCons (tVar 3) tNil)))))
    (tSeq (tAsg (tTupRgF (tRg1 (tVar 3))) (gName 6))
    (tSeq (tIfS (tTest (tOp rEq (tCall sp_l_take [] E0 (tCons (tVar 0) (tCons (tC (.int 3)) tNil))) (tC (.int 0)))) (tAsg (tCB (cTupF K) (tCons (tLc (iRng1 (tCons (tVar 3) tNil)) (gName 7) tYes (tCall sp_l_of [] E0 (tCons (tVar 0) (tCons (tLst (tCons (tC (.int 0)) (tCons (tC (.int 0)) (tCons (tC (.int 1)) (tCons (tUn rNegI (tC (.int 7))) (tCons (tOp rPowI (tC (.int 10)) (tC (.int 30))) tNil)))))) tNil))) [7]) tNil)) (gName 6)) tNext)
    (tRet (tTup (tCons (tVar 3) (tCons (tVar 4) (tCons (tVar 6) tNil)))))))))
theorem der__law_machine {f : Addr} {cdv : Value} {A : Around} {outer : List PySem.Env} {s : Shared} {H : Hp} {E : XK} (B : Bi mg)  {sp_l_take sp_l_of sp_l_names sp_l_moves : Sp} (c__law_take : Cal P w K mg base 1 "_law_take" ["_law_box_here", "_law_below_so"] sp_l_take) (c__law_of : Cal P w K mg base 2 "_law_of" ["_law_box_here", "_law_some"] sp_l_of) (c__law_names : Cal P w K mg base 3 "_law_names" ["_law_box_here", "_law_some"] sp_l_names) (c__law_moves : Cal P w K mg base 3 "_law_moves" ["_law_box_here", "_law_many_so"] sp_l_moves) (hr : Room 3 (A.deeper (envOfC "_law_machine" (defScope (top 44)) s.heap.objs.size f cdv))) :
    PSs (cxOf CX0 P w K mg base N__law_machine "_law_machine" (defScope (top 44)) f cdv A outer s H E).nox (defBody (top 44)) (t__law_machine K sp_l_take sp_l_of sp_l_names sp_l_moves) :=
  (pss_cons (ps_par (i := 3) (j := 4) rfl sc__law_machine.nd rfl rfl (by decide) rfl rfl (pa_cons (pe_op op_add pe_int (pe_cal c__law_take (hr.mono (by first | decide | exact Nat.le_refl _)) (by rfl) (pa_cons (pv 0) (pa_cons (pv 1) pa_nil)))) (pa_cons pe_dnewK pa_nil)) (by rfl))
      (pss_cons (ps_for PassesOwn.never rfl (pi_list (pe_cal c__law_names (hr.mono (by first | decide | exact Nat.le_refl _)) (by rfl) (pa_cons (pv 0) (pa_cons (pe_op op_add pe_int (pe_cal c__law_take (hr.mono (by first | decide | exact Nat.le_refl _)) (by rfl) (pa_cons (pv 0) (pa_cons (pv 2) pa_nil)))) pa_nil)))) (pg_name (i := 5) sc__law_machine.nd rfl (Or.inl rfl)) (pss_one (ps_dput (hu_of hr) (pv 4) (pv 5) (pe_cal c__law_moves (hr.mono (by first | decide | exact Nat.le_refl _)) (by rfl) (pa_cons (pv 0) (pa_cons (pv 3) pa_nil))) rfl)))
      (pss_cons (ps_set (i := 6) sc__law_machine.nd rfl (Or.inl rfl) (pe_tupRgF rfl (by rfl) B.tuple (prg_1 (by rfl) B.range (pv 3))))
      (pss_cons (ps_if (pt_cmpR op_eq (pe_cal c__law_take (hr.mono (by first | decide | exact Nat.le_refl _)) (by rfl) (pa_cons (pv 0) (pa_cons pe_int pa_nil))) pe_int (nomark _)) (pss_one (ps_set (i := 6) sc__law_machine.nd rfl (Or.inl rfl) (pe_callTy call_tuple_ofF (by rfl) B.tuple (by decide +kernel) (pa_cons (pe_lc (own := [("_law_k", 7)]) (g := (gName 7)) (tt := tYes) (te := (tCall sp_l_of [] E0 (tCons (tVar 0) (tCons (tLst (tCons (tC (.int 0)) (tCons (tC (.int 0)) (tCons (tC (.int 1)) (tCons (tUn rNegI (tC (.int 7))) (tCons (tOp rPowI (tC (.int 10)) (tC (.int 30))) tNil)))))) tNil)))) rfl sc__law_machine.nd (pi_range1 (by rfl) B.range (pa_cons (pv 3) pa_nil)) (blkOk_by (own := [("_law_k", 7)]) (N := N__law_machine) (sc := defScope (top 44)) (by decide +kernel)) (fun _ _ _ _ _ => by exact (pg_name (i := 7) sc__law_machine.nd rfl (Or.inl rfl))) (fun _ _ _ _ _ => by exact pts_nil) (fun _ _ _ _ _ => by exact (pe_cal c__law_of (hr.mono (by first | decide | exact Nat.le_refl _)) (by rfl) (pa_cons (pv 0) (pa_cons (pe_lst (pa_cons pe_int (pa_cons pe_int (pa_cons pe_int (pa_cons (pe_un un_neg pe_int) (pa_cons (pe_op op_pow pe_int pe_int) pa_nil)))))) pa_nil))))) pa_nil)))) pss_nil)
      (pss_one (ps_ret (pe_tup (pa_cons (pv 3) (pa_cons (pv 4) (pa_cons (pv 6) pa_nil))))))))))
abbrev N__law_lamp : List Str := []
theorem sc__law_lamp : FnScope N__law_lamp [] (defScope (top 45)) := ⟨rfl, rfl, rfl, by decide +kernel, rfl, by decide +kernel, by decide +kernel⟩
abbrev t__law_lamp (K : PySem.W.Frag) : TS := (tRet (tTup (tCons (tC (.int 2)) (tCons (tDisp [((tC (.str "on")), (tTup (tCons (tC (.int 1)) (tCons (tC (.int 1)) tNil)))), ((tC (.str "off")), (tTup (tCons (tC (.int 0)) (tCons (tC (.int 0)) tNil)))), ((tC (.str "flip")), (tTup (tCons (tC (.int 1)) (tCons (tC (.int 0)) tNil))))]) (tCons (tTupF (tCons (tC (.int 0)) (tCons (tC (.int 1)) tNil))) tNil)))))
theorem der__law_lamp {f : Addr} {cdv : Value} {A : Around} {outer : List PySem.Env} {s : Shared} {H : Hp} {E : XK} (B : Bi mg)   (hr : Room 0 (A.deeper (envOfC "_law_lamp" (defScope (top 45)) s.heap.objs.size f cdv))) :
    PSs (cxOf CX0 P w K mg base N__law_lamp "_law_lamp" (defScope (top 45)) f cdv A outer s H E).nox (defBody (top 45)) (t__law_lamp K) :=
  (pss_one (ps_ret (pe_tup (pa_cons pe_int (pa_cons (pe_disp (pps_cons pe_str (pe_tup (pa_cons pe_int (pa_cons pe_int pa_nil))) (pps_cons pe_str (pe_tup (pa_cons pe_int (pa_cons pe_int pa_nil))) (pps_cons pe_str (pe_tup (pa_cons pe_int (pa_cons pe_int pa_nil))) pps_nil))) (by rfl) (by rfl) (fun z => by cases z) (by decide)) (pa_cons (pe_tupF (pa_cons pe_int (pa_cons pe_int pa_nil))) pa_nil))))))
abbrev N__law_dial : List Str := ["_law_many_so", "_law_up_so", "_law_down_so", "_law_k"]
theorem sc__law_dial : FnScope N__law_dial ["_law_many_so"] (defScope (top 46)) := ⟨rfl, rfl, rfl, by decide +kernel, rfl, by decide +kernel, by decide +kernel⟩
abbrev t__law_dial (K : PySem.W.Frag) : TS := (tSeq (tPar 1 2 (tCons (tLc (iRng1 (tCons (tVar 0) tNil)) (gName 3) tYes (tCB cMin2 (tCons (tOp rAddI (tVar 3) (tC (.int 1))) (tCons (tOp rSubI (tVar 0) (tC (.int 1))) tNil))) [3]) (tCons (tLc (iRng1 (tCons (tVar 0) tNil)) (gName 3) tYes (tCB cMax2 (tCons (tOp rSubI (tVar 3) (tC (.int 1))) (tCons (tC (.int 0)) tNil))) [3]) tNil)))
    (tRet (tTup (tCons (tVar 0) (tCons (tDisp [((tC (.str "up")), (tCB (cTup K) (tCons (tVar 1) tNil))), ((tC (.str "down")), (tCB (cTup K) (tCons (tVar 2) tNil)))]) (tCons (tTupRgF (tRg1 (tVar 0))) tNil))))))
theorem der__law_dial {f : Addr} {cdv : Value} {A : Around} {outer : List PySem.Env} {s : Shared} {H : Hp} {E : XK} (B : Bi mg)   (hr : Room 0 (A.deeper (envOfC "_law_dial" (defScope (top 46)) s.heap.objs.size f cdv))) :
    PSs (cxOf CX0 P w K mg base N__law_dial "_law_dial" (defScope (top 46)) f cdv A outer s H E).nox (defBody (top 46)) (t__law_dial K) :=
  (pss_cons (ps_par (i := 1) (j := 2) rfl sc__law_dial.nd rfl rfl (by decide) rfl rfl (pa_cons (pe_lc (own := [("_law_k", 3)]) (g := (gName 3)) (tt := tYes) (te := (tCB cMin2 (tCons (tOp rAddI (tVar 3) (tC (.int 1))) (tCons (tOp rSubI (tVar 0) (tC (.int 1))) tNil)))) rfl sc__law_dial.nd (pi_range1 (by rfl) B.range (pa_cons (pv 0) pa_nil)) (blkOk_by (own := [("_law_k", 3)]) (N := N__law_dial) (sc := defScope (top 46)) (by decide +kernel)) (fun _ _ _ _ _ => by exact (pg_name (i := 3) sc__law_dial.nd rfl (Or.inl rfl))) (fun _ _ _ _ _ => by exact pts_nil) (fun _ _ _ _ _ => by exact (pe_callB (call_min2 rfl) (by rfl) B.min (by decide +kernel) (pa_cons (pe_op op_add (pv 3) pe_int) (pa_cons (pe_op op_sub (pv 0) pe_int) pa_nil))))) (pa_cons (pe_lc (own := [("_law_k", 3)]) (g := (gName 3)) (tt := tYes) (te := (tCB cMax2 (tCons (tOp rSubI (tVar 3) (tC (.int 1))) (tCons (tC (.int 0)) tNil)))) rfl sc__law_dial.nd (pi_range1 (by rfl) B.range (pa_cons (pv 0) pa_nil)) (blkOk_by (own := [("_law_k", 3)]) (N := N__law_dial) (sc := defScope (top 46)) (by decide +kernel)) (fun _ _ _ _ _ => by exact (pg_name (i := 3) sc__law_dial.nd rfl (Or.inl rfl))) (fun _ _ _ _ _ => by exact pts_nil) (fun _ _ _ _ _ => by exact (pe_callB (call_max2 rfl) (by rfl) B.max (by decide +kernel) (pa_cons (pe_op op_sub (pv 3) pe_int) (pa_cons pe_int pa_nil))))) pa_nil)) (by rfl))
      (pss_one (ps_ret (pe_tup (pa_cons (pv 0) (pa_cons (pe_disp (pps_cons pe_str (pe_callTy call_tuple_of (by rfl) B.tuple (by decide +kernel) (pa_cons (pv 1) pa_nil)) (pps_cons pe_str (pe_callTy call_tuple_of (by rfl) B.tuple (by decide +kernel) (pa_cons (pv 2) pa_nil)) pps_nil)) (by rfl) (by rfl) (fun z => by cases z) (by decide)) (pa_cons (pe_tupRgF rfl (by rfl) B.tuple (prg_1 (by rfl) B.range (pv 0))) pa_nil)))))))
abbrev N__law_copier : List Str := []
theorem sc__law_copier : FnScope N__law_copier [] (defScope (top 47)) := ⟨rfl, rfl, rfl, by decide +kernel, rfl, by decide +kernel, by decide +kernel⟩
abbrev t__law_copier (K : PySem.W.Frag) : TS := (tRet (tTup (tCons (tC (.int 4)) (tCons (tDisp [((tC (.str "set")), (tTup (tCons (tC (.int 2)) (tCons (tC (.int 3)) (tCons (tC (.int 2)) (tCons (tC (.int 3)) tNil)))))), ((tC (.str "clear")), (tTup (tCons (tC (.int 0)) (tCons (tC (.int 1)) (tCons (tC (.int 0)) (tCons (tC (.int 1)) tNil)))))), ((tC (.str "copy")), (tTup (tCons (tC (.int 0)) (tCons (tC (.int 0)) (tCons (tC (.int 3)) (tCons (tC (.int 3)) tNil))))))]) (tCons (tTupF (tCons (tC (.int 0)) (tCons (tC (.int 1)) (tCons (tC (.int 2)) (tCons (tC (.int 3)) tNil))))) tNil)))))
theorem der__law_copier {f : Addr} {cdv : Value} {A : Around} {outer : List PySem.Env} {s : Shared} {H : Hp} {E : XK} (B : Bi mg)   (hr : Room 0 (A.deeper (envOfC "_law_copier" (defScope (top 47)) s.heap.objs.size f cdv))) :
    PSs (cxOf CX0 P w K mg base N__law_copier "_law_copier" (defScope (top 47)) f cdv A outer s H E).nox (defBody (top 47)) (t__law_copier K) :=
  (pss_one (ps_ret (pe_tup (pa_cons pe_int (pa_cons (pe_disp (pps_cons pe_str (pe_tup (pa_cons pe_int (pa_cons pe_int (pa_cons pe_int (pa_cons pe_int pa_nil))))) (pps_cons pe_str (pe_tup (pa_cons pe_int (pa_cons pe_int (pa_cons pe_int (pa_cons pe_int pa_nil))))) (pps_cons pe_str (pe_tup (pa_cons pe_int (pa_cons pe_int (pa_cons pe_int (pa_cons pe_int pa_nil))))) pps_nil))) (by rfl) (by rfl) (fun z => by cases z) (by decide)) (pa_cons (pe_tupF (pa_cons pe_int (pa_cons pe_int (pa_cons pe_int (pa_cons pe_int pa_nil))))) pa_nil))))))
abbrev N__law_lamps : List Str := ["_law_made"]
theorem sc__law_lamps : FnScope N__law_lamps [] (defScope (top 48)) := ⟨rfl, rfl, rfl, by decide +kernel, rfl, by decide +kernel, by decide +kernel⟩
abbrev t__law_lamps (K : PySem.W.Frag) : TS := (tSeq (tAsg (tDisp [((tC (.str "ona")), (tTup (tCons (tC (.int 2)) (tCons (tC (.int 3)) (tCons (tC (.int 2)) (tCons (tC (.int 3)) tNil)))))), ((tC (.str "onb")), (tTup (tCons (tC (.int 1)) (tCons (tC (.int 1)) (tCons (tC (.int 3)) (tCons (tC (.int 3)) tNil)))))), ((tC (.str "offa")), (tTup (tCons (tC (.int 0)) (tCons (tC (.int 1)) (tCons (tC (.int 0)) (tCons (tC (.int 1)) tNil)))))), ((tC (.str "offb")), (tTup (tCons (tC (.int 0)) (tCons (tC (.int 0)) (tCons (tC (.int 2)) (tCons (tC (.int 2)) tNil)))))), ((tC (.str "dark")), (tTup (tCons (tC (.int 0)) (tCons (tC (.int 0)) (tCons (tC (.int 0)) (tCons (tC (.int 0)) tNil))))))]) (gName 0))
    (tRet (tTup (tCons (tC (.int 4)) (tCons (tVar 0) (tCons (tTupF (tCons (tC (.int 0)) (tCons (tC (.int 1)) (tCons (tC (.int 2)) (tCons (tC (.int 3)) tNil))))) tNil))))))
theorem der__law_lamps {f : Addr} {cdv : Value} {A : Around} {outer : List PySem.Env} {s : Shared} {H : Hp} {E : XK} (B : Bi mg)   (hr : Room 0 (A.deeper (envOfC "_law_lamps" (defScope (top 48)) s.heap.objs.size f cdv))) :
    PSs (cxOf CX0 P w K mg base N__law_lamps "_law_lamps" (defScope (top 48)) f cdv A outer s H E).nox (defBody (top 48)) (t__law_lamps K) :=
  (pss_cons (ps_set (i := 0) sc__law_lamps.nd rfl (Or.inl rfl) (pe_disp (pps_cons pe_str (pe_tup (pa_cons pe_int (pa_cons pe_int (pa_cons pe_int (pa_cons pe_int pa_nil))))) (pps_cons pe_str (pe_tup (pa_cons pe_int (pa_cons pe_int (pa_cons pe_int (pa_cons pe_int pa_nil))))) (pps_cons pe_str (pe_tup (pa_cons pe_int (pa_cons pe_int (pa_cons pe_int (pa_cons pe_int pa_nil))))) (pps_cons pe_str (pe_tup (pa_cons pe_int (pa_cons pe_int (pa_cons pe_int (pa_cons pe_int pa_nil))))) (pps_cons pe_str (pe_tup (pa_cons pe_int (pa_cons pe_int (pa_cons pe_int (pa_cons pe_int pa_nil))))) pps_nil))))) (by rfl) (by rfl) (fun z => by cases z) (by decide)))
      (pss_one (ps_ret (pe_tup (pa_cons pe_int (pa_cons (pv 0) (pa_cons (pe_tupF (pa_cons pe_int (pa_cons pe_int (pa_cons pe_int (pa_cons pe_int pa_nil))))) pa_nil)))))))
abbrev N__law_tags : List Str := ["_law_mat", "_law_own"]
theorem sc__law_tags : FnScope N__law_tags ["_law_mat"] (defScope (top 51)) := ⟨rfl, rfl, rfl, by decide +kernel, rfl, by decide +kernel, by decide +kernel⟩
abbrev t__law_tags (K : PySem.W.Frag) : TS := (tRet (tCB (cTup K) (tCons (tCB (rSortedS K) (tCons (tLockQ (tLc (iKeys (tOp (rIxT K) (tVar 0) (tC (.int 1)))) (gName 1) tYes (tCB cStr (tCons (tVar 1) tNil)) [1])) tNil)) tNil)))
theorem der__law_tags {f : Addr} {cdv : Value} {A : Around} {outer : List PySem.Env} {s : Shared} {H : Hp} {E : XK} (B : Bi mg)   (hr : Room 0 (A.deeper (envOfC "_law_tags" (defScope (top 51)) s.heap.objs.size f cdv))) :
    PSs (cxOf CX0 P w K mg base N__law_tags "_law_tags" (defScope (top 51)) f cdv A outer s H E).nox (defBody (top 51)) (t__law_tags K) :=
  (pss_one (ps_ret (pe_callTy call_tuple_of (by rfl) B.tuple (by decide +kernel) (pa_cons (pe_callB cr_sortedS (by rfl) B.sorted (by decide +kernel) (pa_cons (pe_lockQ (pe_lc (own := [("_law_own", 1)]) (g := (gName 1)) (tt := tYes) (te := (tCB cStr (tCons (tVar 1) tNil))) rfl sc__law_tags.nd (pi_keys (pe_ix ix_tup (pv 0) pe_int (fun _ _ => rfl))) (blkOk_by (own := [("_law_own", 1)]) (N := N__law_tags) (sc := defScope (top 51)) (by decide +kernel)) (fun _ _ _ _ _ => by exact (pg_name (i := 1) sc__law_tags.nd rfl (Or.inl rfl))) (fun _ _ _ _ _ => by exact pts_nil) (fun _ _ _ _ _ => by exact (pe_callTy SkE.call_str_str (by rfl) B.str (by decide +kernel) (pa_cons (pv 1) pa_nil))))) pa_nil)) pa_nil))))
abbrev N__law_known : List Str := ["_law_box_here", "_law_mat", "_law_tags_so", "_law_kept_so", "_law_own"]
theorem sc__law_known : FnScope N__law_known ["_law_box_here"] (defScope (top 49)) := ⟨rfl, rfl, rfl, by decide +kernel, rfl, by decide +kernel, by decide +kernel⟩
abbrev t__law_known (K : PySem.W.Frag) (sp_l_take sp_l_of sp_l_lamp sp_l_dial sp_l_copier sp_l_lamps sp_l_tags : Sp) : TS := (tSeq (tAsg (tCall sp_l_of [] E0 (tCons (tVar 0) (tCons (tLst (tCons (tCall sp_l_lamp [] E0 tNil) (tCons (tCall sp_l_dial [] E0 (tCons (tC (.int 3)) tNil)) (tCons (tCall sp_l_dial [] E0 (tCons (tC (.int 4)) tNil)) (tCons (tCall sp_l_copier [] E0 tNil) (tCons (tCall sp_l_lamps [] E0 tNil) tNil)))))) tNil))) (gName 1))
    (tSeq (tIfS (tTest (tOp rEq (tCall sp_l_take [] E0 (tCons (tVar 0) (tCons (tC (.int 2)) tNil))) (tC (.int 0)))) (tRet (tVar 1)) tNext)
    (tSeq (tAsg (tCall sp_l_tags [] E0 (tCons (tVar 1) tNil)) (gName 2))
    (tSeq (tAsg (tOrT K (tLc (iTup K (tVar 2)) (gName 4) (tTest (tOp rGtI (tCall sp_l_take [] E0 (tCons (tVar 0) (tCons (tC (.int 3)) tNil))) (tC (.int 0)))) (tVar 4) [4]) (tLst (tCons (tOp (rIxT K) (tVar 2) (tC (.int 0))) tNil))) (gName 3))
    (tRet (tTup (tCons (tOp (rIxT K) (tVar 1) (tC (.int 0))) (tCons (tCB (cDic K) (tCons (tLc (iList K (tVar 3)) (gName 4) tYes (tTup (tCons (tVar 4) (tCons (tDGet (tOp (rIxT K) (tVar 1) (tC (.int 1))) (tVar 4)) tNil))) [4]) tNil)) (tCons (tOp (rIxT K) (tVar 1) (tC (.int 2))) tNil)))))))))
theorem der__law_known {f : Addr} {cdv : Value} {A : Around} {outer : List PySem.Env} {s : Shared} {H : Hp} {E : XK} (B : Bi mg)  {sp_l_take sp_l_of sp_l_lamp sp_l_dial sp_l_copier sp_l_lamps sp_l_tags : Sp} (c__law_take : Cal P w K mg base 1 "_law_take" ["_law_box_here", "_law_below_so"] sp_l_take) (c__law_of : Cal P w K mg base 2 "_law_of" ["_law_box_here", "_law_some"] sp_l_of) (c__law_lamp : Cal P w K mg base 1 "_law_lamp" [] sp_l_lamp) (c__law_dial : Cal P w K mg base 1 "_law_dial" ["_law_many_so"] sp_l_dial) (c__law_copier : Cal P w K mg base 1 "_law_copier" [] sp_l_copier) (c__law_lamps : Cal P w K mg base 1 "_law_lamps" [] sp_l_lamps) (c__law_tags : Cal P w K mg base 1 "_law_tags" ["_law_mat"] sp_l_tags) (hr : Room 2 (A.deeper (envOfC "_law_known" (defScope (top 49)) s.heap.objs.size f cdv))) :
    PSs (cxOf CX0 P w K mg base N__law_known "_law_known" (defScope (top 49)) f cdv A outer s H E).nox (defBody (top 49)) (t__law_known K sp_l_take sp_l_of sp_l_lamp sp_l_dial sp_l_copier sp_l_lamps sp_l_tags) :=
  (pss_cons (ps_set (i := 1) sc__law_known.nd rfl (Or.inr rfl) (pe_cal c__law_of (hr.mono (by first | decide | exact Nat.le_refl _)) (by rfl) (pa_cons (pv 0) (pa_cons (pe_lst (pa_cons (pe_cal0 c__law_lamp (hr.mono (by first | decide | exact Nat.le_refl _)) (by rfl)) (pa_cons (pe_cal c__law_dial (hr.mono (by first | decide | exact Nat.le_refl _)) (by rfl) (pa_cons pe_int pa_nil)) (pa_cons (pe_cal c__law_dial (hr.mono (by first | decide | exact Nat.le_refl _)) (by rfl) (pa_cons pe_int pa_nil)) (pa_cons (pe_cal0 c__law_copier (hr.mono (by first | decide | exact Nat.le_refl _)) (by rfl)) (pa_cons (pe_cal0 c__law_lamps (hr.mono (by first | decide | exact Nat.le_refl _)) (by rfl)) pa_nil)))))) pa_nil))))
      (pss_cons (ps_if (pt_cmpR op_eq (pe_cal c__law_take (hr.mono (by first | decide | exact Nat.le_refl _)) (by rfl) (pa_cons (pv 0) (pa_cons pe_int pa_nil))) pe_int (nomark _)) (pss_one (ps_ret (pv 1))) pss_nil)
      (pss_cons (ps_set (i := 2) sc__law_known.nd rfl (Or.inl rfl) (pe_cal c__law_tags (hr.mono (by first | decide | exact Nat.le_refl _)) (by rfl) (pa_cons (pv 1) pa_nil)))
      (pss_cons (ps_set (i := 3) sc__law_known.nd rfl (Or.inl rfl) (pe_orT (pe_lc (own := [("_law_own", 4)]) (g := (gName 4)) (tt := (tTest (tOp rGtI (tCall sp_l_take [] E0 (tCons (tVar 0) (tCons (tC (.int 3)) tNil))) (tC (.int 0))))) (te := (tVar 4)) rfl sc__law_known.nd (pi_tup (pv 2)) (blkOk_by (own := [("_law_own", 4)]) (N := N__law_known) (sc := defScope (top 49)) (by decide +kernel)) (fun _ _ _ _ _ => by exact (pg_name (i := 4) sc__law_known.nd rfl (Or.inl rfl))) (fun _ _ _ _ _ => by exact (pts_one (pt_cmpR op_gt (pe_cal c__law_take (hr.mono (by first | decide | exact Nat.le_refl _)) (by rfl) (pa_cons (pv 0) (pa_cons pe_int pa_nil))) pe_int (nomark _)))) (fun _ _ _ _ _ => by exact (pv 4))) (pe_one (pe_lst (pa_cons (pe_ix ix_tup (pv 2) pe_int (fun _ _ => rfl)) pa_nil)))))
      (pss_one (ps_ret (pe_tup (pa_cons (pe_ix ix_tup (pv 1) pe_int (fun _ _ => rfl)) (pa_cons (pe_callTy (call_dictP rfl) (by rfl) B.dict (by decide +kernel) (pa_cons (pe_lc (own := [("_law_own", 4)]) (g := (gName 4)) (tt := tYes) (te := (tTup (tCons (tVar 4) (tCons (tDGet (tOp (rIxT K) (tVar 1) (tC (.int 1))) (tVar 4)) tNil)))) rfl sc__law_known.nd (pi_list (pv 3)) (blkOk_by (own := [("_law_own", 4)]) (N := N__law_known) (sc := defScope (top 49)) (by decide +kernel)) (fun _ _ _ _ _ => by exact (pg_name (i := 4) sc__law_known.nd rfl (Or.inl rfl))) (fun _ _ _ _ _ => by exact pts_nil) (fun _ _ _ _ _ => by exact (pe_tup (pa_cons (pv 4) (pa_cons (pe_dget (hu_of hr) (pe_ix ix_tup (pv 1) pe_int (fun _ _ => rfl)) (pv 4) (fun _ _ => rfl)) pa_nil))))) pa_nil)) (pa_cons (pe_ix ix_tup (pv 1) pe_int (fun _ _ => rfl)) pa_nil))))))))))
abbrev N__law_some_machine : List Str := ["_law_box_here", "_law_most_so", "_law_deeds_so"]
theorem sc__law_some_machine : FnScope N__law_some_machine ["_law_box_here", "_law_most_so", "_law_deeds_so"] (defScope (top 50)) := ⟨rfl, rfl, rfl, by decide +kernel, rfl, by decide +kernel, by decide +kernel⟩
abbrev t__law_some_machine (K : PySem.W.Frag) (sp_l_take sp_l_machine sp_l_known : Sp) : TS := (tRet (tIf (tAnd (tTest (tOp rGtI (tVar 1) (tC (.int 3)))) (tTest (tOp rEq (tCall sp_l_take [] E0 (tCons (tVar 0) (tCons (tC (.int 4)) tNil))) (tC (.int 0))))) (tCall sp_l_known [] E0 (tCons (tVar 0) tNil)) (tCall sp_l_machine [] E0 (tCons (tVar 0) (tCons (tVar 1) (tCons (tVar 2) tNil))))))
theorem der__law_some_machine {f : Addr} {cdv : Value} {A : Around} {outer : List PySem.Env} {s : Shared} {H : Hp} {E : XK} (B : Bi mg)  {sp_l_take sp_l_machine sp_l_known : Sp} (c__law_take : Cal P w K mg base 1 "_law_take" ["_law_box_here", "_law_below_so"] sp_l_take) (c__law_machine : Cal P w K mg base 4 "_law_machine" ["_law_box_here", "_law_most_so", "_law_deeds_so"] sp_l_machine) (c__law_known : Cal P w K mg base 3 "_law_known" ["_law_box_here"] sp_l_known) (hr : Room 4 (A.deeper (envOfC "_law_some_machine" (defScope (top 50)) s.heap.objs.size f cdv))) :
    PSs (cxOf CX0 P w K mg base N__law_some_machine "_law_some_machine" (defScope (top 50)) f cdv A outer s H E).nox (defBody (top 50)) (t__law_some_machine K sp_l_take sp_l_machine sp_l_known) :=
  (pss_one (ps_ret (pe_ifExp (PW.pt (pw_and (pt_cmpR op_gt (pv 1) pe_int (nomark _)) (pw_and1 (pt_cmpR op_eq (pe_cal c__law_take (hr.mono (by first | decide | exact Nat.le_refl _)) (by rfl) (pa_cons (pv 0) (pa_cons pe_int pa_nil))) pe_int (nomark _))))) (pe_cal c__law_known (hr.mono (by first | decide | exact Nat.le_refl _)) (by rfl) (pa_cons (pv 0) pa_nil)) (pe_cal c__law_machine (hr.mono (by first | decide | exact Nat.le_refl _)) (by rfl) (pa_cons (pv 0) (pa_cons (pv 1) (pa_cons (pv 2) pa_nil)))))))
end
end Ll
end

section
set_option Elab.async false
set_option linter.all false
set_option maxRecDepth 100000
set_option maxHeartbeats 4000000
namespace Ll
open PySem PySem.Spec PyProof.Rows L2
section
variable {P : Program} {w : World} {K : PySem.W.Frag} {mg : Str → Option Value} {base : Heap}
abbrev N__law_same : List Str := ["_law_got", "_law_due_so", "_law_mine", "_law_its"]
theorem sc__law_same : FnScope N__law_same ["_law_got", "_law_due_so"] (defScope (top 40)) := ⟨rfl, rfl, rfl, by decide +kernel, rfl, by decide +kernel, by decide +kernel⟩
abbrev t__law_same (K : PySem.W.Frag) (sp_l_same : Sp) : TS := (tSeq (tIfS (tB (tCB (rIsiT K) (tCons (tVar 1) (tCons (tTup (tCons (tC (.ty "list")) (tCons (tC (.ty "tuple")) tNil))) tNil)))) (tSeq (tIfS (tOr (tTest (tOp rNe (tCB (rIsi K) (tCons (tVar 0) (tCons (tC (.ty "list")) tNil))) (tCB (rIsi K) (tCons (tVar 1) (tCons (tC (.ty "list")) tNil))))) (tTest (tOp rNe (tCB (rIsi K) (tCons (tVar 0) (tCons (tC (.ty "tuple")) tNil))) (tCB (rIsi K) (tCons (tVar 1) (tCons (tC (.ty "tuple")) tNil)))))) (tRet (tC (.bl false))) tNext)
    (tRet (tAndV (tOp rEq (tCB (cLen K) (tCons (tVar 0) tNil)) (tCB (cLen K) (tCons (tVar 1) tNil))) (tCB (rAll K) (tCons (tLc (RZ.iZipA K (tCons (tVar 0) (tCons (tVar 1) tNil))) (gTup K 2 (gCons (gName 2) (gCons (gName 3) gNil))) tYes (tCall sp_l_same [] E0 (tCons (tVar 2) (tCons (tVar 3) tNil))) [2, 3]) tNil))))) tNext)
    (tSeq (tIfS (tOr (tTest (tOp rIsNo (tVar 1) (tC .non))) (tB (tCB (rIsiT K) (tCons (tVar 1) (tCons (tTup (tCons (tC (.ty "bool")) (tCons (tC (.ty "str")) tNil))) tNil))))) (tRet (tAndV (tOp (rEqD K) (tVar 0) (tVar 1)) (tAndV (tOp rEq (tCB (rIsi K) (tCons (tVar 0) (tCons (tC (.ty "bool")) tNil))) (tCB (rIsi K) (tCons (tVar 1) (tCons (tC (.ty "bool")) tNil)))) (tOp rEq (tOp rIsNo (tVar 0) (tC .non)) (tOp rIsNo (tVar 1) (tC .non)))))) tNext)
    (tRet (tAndV (tCB (rIsi K) (tCons (tVar 0) (tCons (tC (.ty "int")) tNil))) (tAndV (tNotV (tCB (rIsi K) (tCons (tVar 0) (tCons (tC (.ty "bool")) tNil)))) (tOp (rEqD K) (tVar 0) (tVar 1)))))))
theorem der__law_same {f : Addr} {cdv : Value} {A : Around} {outer : List PySem.Env} {s : Shared} {H : Hp} {E : XK} (B : Bi mg)  {n : Nat} {sp_l_same : Sp} (c__law_same : Cal P w K mg base n "_law_same" ["_law_got", "_law_due_so"] sp_l_same) (hr : Room n (A.deeper (envOfC "_law_same" (defScope (top 40)) s.heap.objs.size f cdv))) :
    PSs (cxOf CX0 P w K mg base N__law_same "_law_same" (defScope (top 40)) f cdv A outer s H E).nox (defBody (top 40)) (t__law_same K sp_l_same) :=
  (pss_cons (ps_if (pt_val (pe_callB call_isiT (by rfl) B.isinstance (by decide +kernel) (pa_cons (pv 1) (pa_cons (pe_tup (pa_cons (pe_bltn (v := .ty "list") (u := .type "list") (by rfl) B.list (by decide +kernel) rfl) (pa_cons (pe_bltn (v := .ty "tuple") (u := .type "tuple") (by rfl) B.tuple (by decide +kernel) rfl) pa_nil))) pa_nil)))) (pss_cons (ps_if (PW.pt (pw_or (pt_cmpR op_ne (pe_callB call_isi (by rfl) B.isinstance (by decide +kernel) (pa_cons (pv 0) (pa_cons (pe_bltn (v := .ty "list") (u := .type "list") (by rfl) B.list (by decide +kernel) rfl) pa_nil))) (pe_callB call_isi (by rfl) B.isinstance (by decide +kernel) (pa_cons (pv 1) (pa_cons (pe_bltn (v := .ty "list") (u := .type "list") (by rfl) B.list (by decide +kernel) rfl) pa_nil))) (nomark _)) (pw_or1 (pt_cmpR op_ne (pe_callB call_isi (by rfl) B.isinstance (by decide +kernel) (pa_cons (pv 0) (pa_cons (pe_bltn (v := .ty "tuple") (u := .type "tuple") (by rfl) B.tuple (by decide +kernel) rfl) pa_nil))) (pe_callB call_isi (by rfl) B.isinstance (by decide +kernel) (pa_cons (pv 1) (pa_cons (pe_bltn (v := .ty "tuple") (u := .type "tuple") (by rfl) B.tuple (by decide +kernel) rfl) pa_nil))) (nomark _))))) (pss_one (ps_ret pe_bl)) pss_nil)
      (pss_one (ps_ret (pe_and (pe_cmpR op_eq (pe_callB call_len_seq (by rfl) B.len PySem.boot_len (pa_cons (pv 0) pa_nil)) (pe_callB call_len_seq (by rfl) B.len PySem.boot_len (pa_cons (pv 1) pa_nil)) (nomark _)) (pe_one (pe_callB (cr_all rfl) (by rfl) B.all (by decide +kernel) (pa_cons (pe_lc (own := [("_law_mine", 2), ("_law_its", 3)]) (g := (gTup K 2 (gCons (gName 2) (gCons (gName 3) gNil)))) (tt := tYes) (te := (tCall sp_l_same [] E0 (tCons (tVar 2) (tCons (tVar 3) tNil)))) rfl sc__law_same.nd (RZ.pi_zipA (by rfl) B.zip (pa_cons (pv 0) (pa_cons (pv 1) pa_nil))) (blkOk_by (own := [("_law_mine", 2), ("_law_its", 3)]) (N := N__law_same) (sc := defScope (top 40)) (by decide +kernel)) (fun _ _ _ _ _ => by exact (pg_tup rfl (pgs_cons (pg_name (i := 2) sc__law_same.nd rfl (Or.inl rfl)) (pgs_cons (pg_name (i := 3) sc__law_same.nd rfl (Or.inl rfl)) pgs_nil)))) (fun _ _ _ _ _ => by exact pts_nil) (fun _ _ _ _ _ => by exact (pe_cal c__law_same (hr.mono (by first | decide | exact Nat.le_refl _)) (by rfl) (pa_cons (pv 2) (pa_cons (pv 3) pa_nil))))) pa_nil))))))) pss_nil)
      (pss_cons (ps_if (PW.pt (pw_or (pt_cmpR op_isN (pv 1) pe_non (nomark _)) (pw_or1 (pt_val (pe_callB call_isiT (by rfl) B.isinstance (by decide +kernel) (pa_cons (pv 1) (pa_cons (pe_tup (pa_cons (pe_bltn (v := .ty "bool") (u := .type "bool") (by rfl) B.bool (by decide +kernel) rfl) (pa_cons (pe_bltn (v := .ty "str") (u := .type "str") (by rfl) B.str (by decide +kernel) rfl) pa_nil))) pa_nil))))))) (pss_one (ps_ret (pe_and (pe_cmpR (op_eqD (u64 hr)) (pv 0) (pv 1) (nomark _)) (pe_and (pe_cmpR op_eq (pe_callB call_isi (by rfl) B.isinstance (by decide +kernel) (pa_cons (pv 0) (pa_cons (pe_bltn (v := .ty "bool") (u := .type "bool") (by rfl) B.bool (by decide +kernel) rfl) pa_nil))) (pe_callB call_isi (by rfl) B.isinstance (by decide +kernel) (pa_cons (pv 1) (pa_cons (pe_bltn (v := .ty "bool") (u := .type "bool") (by rfl) B.bool (by decide +kernel) rfl) pa_nil))) (nomark _)) (pe_one (pe_cmpR op_eq (pe_cmpR op_isN (pv 0) pe_non (nomark _)) (pe_cmpR op_isN (pv 1) pe_non (nomark _)) (nomark _))))))) pss_nil)
      (pss_one (ps_ret (pe_and (pe_callB call_isi (by rfl) B.isinstance (by decide +kernel) (pa_cons (pv 0) (pa_cons (pe_bltn (v := .ty "int") (u := .type "int") (by rfl) B.int (by decide +kernel) rfl) pa_nil))) (pe_and (pe_not (pe_callB call_isi (by rfl) B.isinstance (by decide +kernel) (pa_cons (pv 0) (pa_cons (pe_bltn (v := .ty "bool") (u := .type "bool") (by rfl) B.bool (by decide +kernel) rfl) pa_nil)))) (pe_one (pe_cmpR (op_eqD (u64 hr)) (pv 0) (pv 1) (nomark _)))))))))
abbrev N__law_host : List Str := ["_law_mat", "_law_own"]
theorem sc__law_host : FnScope N__law_host ["_law_mat"] (defScope (top 52)) := ⟨rfl, rfl, rfl, by decide +kernel, rfl, by decide +kernel, by decide +kernel⟩
abbrev t__law_host (K : PySem.W.Frag) (C : Addr) (sp_MachineInit : Sp) : TS := (tRet (tMake C sp_MachineInit [] E0 (tCons (tOp (rIxT K) (tVar 0) (tC (.int 0))) (tCons (tCB (cTup K) (tCons (tLockQ (tLc (iKeys (tOp (rIxT K) (tVar 0) (tC (.int 1)))) (gName 1) tYes (tTup (tCons (tVar 1) (tCons (tDGet (tOp (rIxT K) (tVar 0) (tC (.int 1))) (tVar 1)) tNil))) [1])) tNil)) (tCons (tOp (rIxT K) (tVar 0) (tC (.int 2))) tNil)))))
theorem der__law_host {f : Addr} {cdv : Value} {A : Around} {outer : List PySem.Env} {s : Shared} {H : Hp} {E : XK} (B : Bi mg)  {C : Addr} {sp_MachineInit : Sp} (hC : Cls K C) (k_Machine : Mak P w K mg base 3 C "Machine" ["self", "many", "deeds", "shows"] [] sp_MachineInit) (hr : Room 4 (A.deeper (envOfC "_law_host" (defScope (top 52)) s.heap.objs.size f cdv))) :
    PSs (cxOf CX0 P w K mg base N__law_host "_law_host" (defScope (top 52)) f cdv A outer s H E).nox (defBody (top 52)) (t__law_host K C sp_MachineInit) :=
  (pss_one (ps_ret (pe_mak k_Machine (hr.mono (by first | decide | exact Nat.le_refl _)) (by rfl) (pa_cons (pe_ix ix_tup (pv 0) pe_int (fun _ _ => rfl)) (pa_cons (pe_callTy call_tuple_of (by rfl) B.tuple (by decide +kernel) (pa_cons (pe_lockQ (pe_lc (own := [("_law_own", 1)]) (g := (gName 1)) (tt := tYes) (te := (tTup (tCons (tVar 1) (tCons (tDGet (tOp (rIxT K) (tVar 0) (tC (.int 1))) (tVar 1)) tNil)))) rfl sc__law_host.nd (pi_keys (pe_ix ix_tup (pv 0) pe_int (fun _ _ => rfl))) (blkOk_by (own := [("_law_own", 1)]) (N := N__law_host) (sc := defScope (top 52)) (by decide +kernel)) (fun _ _ _ _ _ => by exact (pg_name (i := 1) sc__law_host.nd rfl (Or.inl rfl))) (fun _ _ _ _ _ => by exact pts_nil) (fun _ _ _ _ _ => by exact (pe_tup (pa_cons (pv 1) (pa_cons (pe_dget (hu_of hr) (pe_ix ix_tup (pv 0) pe_int (fun _ _ => rfl)) (pv 1) (fun _ _ => rfl)) pa_nil)))))) pa_nil)) (pa_cons (pe_ix ix_tup (pv 0) pe_int (fun _ _ => rfl)) pa_nil))))))
abbrev N__law_kinds : List Str := ["_law_mat", "_law_many_so", "_law_made", "_law_shows_so", "_law_marks_so", "_law_turn", "_law_rows_so", "_law_k", "_law_own"]
theorem sc__law_kinds : FnScope N__law_kinds ["_law_mat"] (defScope (top 53)) := ⟨rfl, rfl, rfl, by decide +kernel, rfl, by decide +kernel, by decide +kernel⟩
abbrev t__law_kinds (K : PySem.W.Frag) : TS := (tSeq (tAsg (tVar 0) (gTup K 3 (gCons (gName 1) (gCons (gName 2) (gCons (gName 3) gNil)))))
    (tSeq (tAsg (tLc (iTup K (tVar 3)) (gName 8) tYes (tBMT (rTix K) (tVar 3) (tCons (tVar 8) tNil)) [8]) (gName 4))
    (tSeq (tFor (iRng1 (tCons (tVar 1) tNil)) (gName 5) (tSeq (tAsg (tLst tNil) (gName 6))
    (tSeq (tFor (iRng1 (tCons (tVar 1) tNil)) (gName 7) (tDrop (tBM K "list" rAppend (tVar 6) (tCons (tTup (tCons (tOp (rIxL K) (tVar 4) (tVar 7)) (tCons (tLockQ (tLc (iKeys (tVar 2)) (gName 8) tYes (tOp (rIxL K) (tVar 4) (tOp (rIxT K) (tDGet (tVar 2) (tVar 8)) (tVar 7))) [8])) tNil))) tNil))))
    (tAsg (tLc (iList K (tVar 6)) (gName 8) tYes (tBM K "list" (rIndexD K) (tVar 6) (tCons (tVar 8) tNil)) [8]) (gName 4)))))
    (tRet (tVar 4)))))
theorem der__law_kinds {f : Addr} {cdv : Value} {A : Around} {outer : List PySem.Env} {s : Shared} {H : Hp} {E : XK} (B : Bi mg)   (hr : Room 0 (A.deeper (envOfC "_law_kinds" (defScope (top 53)) s.heap.objs.size f cdv))) :
    PSs (cxOf CX0 P w K mg base N__law_kinds "_law_kinds" (defScope (top 53)) f cdv A outer s H E).nox (defBody (top 53)) (t__law_kinds K) :=
  (pss_cons (ps_asg (pv 0) (pg_tup rfl (pgs_cons (pg_name (i := 1) sc__law_kinds.nd rfl (Or.inl rfl)) (pgs_cons (pg_name (i := 2) sc__law_kinds.nd rfl (Or.inr rfl)) (pgs_cons (pg_name (i := 3) sc__law_kinds.nd rfl (Or.inr rfl)) pgs_nil)))))
      (pss_cons (ps_set (i := 4) sc__law_kinds.nd rfl (Or.inr rfl) (pe_lc (own := [("_law_own", 8)]) (g := (gName 8)) (tt := tYes) (te := (tBMT (rTix K) (tVar 3) (tCons (tVar 8) tNil))) rfl sc__law_kinds.nd (pi_tup (pv 3)) (blkOk_by (own := [("_law_own", 8)]) (N := N__law_kinds) (sc := defScope (top 53)) (by decide +kernel)) (fun _ _ _ _ _ => by exact (pg_name (i := 8) sc__law_kinds.nd rfl (Or.inl rfl))) (fun _ _ _ _ _ => by exact pts_nil) (fun _ _ _ _ _ => by exact (pe_bmT PySem.F.plainAttrs_tuple PySem.F.slot_tuple_index PySem.F.type_tuple_index mt_tix (pv 3) (pa_cons (pv 8) pa_nil)))))
      (pss_cons (ps_for PassesOwn.never rfl (pi_range1 (by rfl) B.range (pa_cons (pv 1) pa_nil)) (pg_name (i := 5) sc__law_kinds.nd rfl (Or.inl rfl)) (pss_cons (ps_set (i := 6) sc__law_kinds.nd rfl (Or.inr rfl) (pe_lst pa_nil))
      (pss_cons (ps_for PassesOwn.never rfl (pi_range1 (by rfl) B.range (pa_cons (pv 1) pa_nil)) (pg_name (i := 7) sc__law_kinds.nd rfl (Or.inr rfl)) (pss_one (ps_expr (pe_bm PySem.F.plainAttrs_list PySem.F.slot_list_append PySem.F.type_list_append mt_append (pv 6) (pa_cons (pe_tup (pa_cons (pe_ix ix_list (pv 4) (pv 7) (fun _ _ => rfl)) (pa_cons (pe_lockQ (pe_lc (own := [("_law_own", 8)]) (g := (gName 8)) (tt := tYes) (te := (tOp (rIxL K) (tVar 4) (tOp (rIxT K) (tDGet (tVar 2) (tVar 8)) (tVar 7)))) rfl sc__law_kinds.nd (pi_keys (pv 2)) (blkOk_by (own := [("_law_own", 8)]) (N := N__law_kinds) (sc := defScope (top 53)) (by decide +kernel)) (fun _ _ _ _ _ => by exact (pg_name (i := 8) sc__law_kinds.nd rfl (Or.inl rfl))) (fun _ _ _ _ _ => by exact pts_nil) (fun _ _ _ _ _ => by exact (pe_ix ix_list (pv 4) (pe_ix ix_tup (pe_dget (hu_of hr) (pv 2) (pv 8) (fun _ _ => rfl)) (pv 7) (fun _ _ => rfl)) (fun _ _ => rfl))))) pa_nil))) pa_nil)))))
      (pss_one (ps_set (i := 4) sc__law_kinds.nd rfl (Or.inr rfl) (pe_lc (own := [("_law_own", 8)]) (g := (gName 8)) (tt := tYes) (te := (tBM K "list" (rIndexD K) (tVar 6) (tCons (tVar 8) tNil))) rfl sc__law_kinds.nd (pi_list (pv 6)) (blkOk_by (own := [("_law_own", 8)]) (N := N__law_kinds) (sc := defScope (top 53)) (by decide +kernel)) (fun _ _ _ _ _ => by exact (pg_name (i := 8) sc__law_kinds.nd rfl (Or.inl rfl))) (fun _ _ _ _ _ => by exact pts_nil) (fun _ _ _ _ _ => by exact (pe_bm PySem.F.plainAttrs_list PySem.F.slot_list_index PySem.F.type_list_index (mt_indexD (u65 hr)) (pv 6) (pa_cons (pv 8) pa_nil)))))))))
      (pss_one (ps_ret (pv 4))))))
abbrev N__law_way : List Str := ["_law_mat", "_law_state_so", "_law_log_so", "_law_here", "_law_seen_so", "_law_own"]
theorem sc__law_way : FnScope N__law_way ["_law_mat", "_law_state_so", "_law_log_so"] (defScope (top 54)) := ⟨rfl, rfl, rfl, by decide +kernel, rfl, by decide +kernel, by decide +kernel⟩
abbrev t__law_way (K : PySem.W.Frag) : TS := (tSeq (tPar 3 4 (tCons (tVar 1) (tCons (tTup tNil) tNil)))
    (tSeq (tFor (iTup K (tVar 2)) (gName 5) (tIfS (tTest (tOp rEq (tVar 5) (tC (.str "?")))) (tAsg (tOp (rCatA K) (tVar 4) (tTup (tCons (tOp (rIxT K) (tOp (rIxT K) (tVar 0) (tC (.int 2))) (tVar 3)) tNil))) (gName 4)) (tAsg (tOp (rIxT K) (tDGet (tOp (rIxT K) (tVar 0) (tC (.int 1))) (tVar 5)) (tVar 3)) (gName 3))))
    (tRet (tTup (tCons (tVar 4) (tCons (tVar 3) tNil))))))
theorem der__law_way {f : Addr} {cdv : Value} {A : Around} {outer : List PySem.Env} {s : Shared} {H : Hp} {E : XK} (B : Bi mg)   (hr : Room 0 (A.deeper (envOfC "_law_way" (defScope (top 54)) s.heap.objs.size f cdv))) :
    PSs (cxOf CX0 P w K mg base N__law_way "_law_way" (defScope (top 54)) f cdv A outer s H E).nox (defBody (top 54)) (t__law_way K) :=
  (pss_cons (ps_par (i := 3) (j := 4) rfl sc__law_way.nd rfl rfl (by decide) rfl rfl (pa_cons (pv 1) (pa_cons (pe_tup pa_nil) pa_nil)) (by rfl))
      (pss_cons (ps_for PassesOwn.never rfl (pi_tup (pv 2)) (pg_name (i := 5) sc__law_way.nd rfl (Or.inl rfl)) (pss_one (ps_if (pt_cmpR op_eq (pv 5) pe_str (nomark _)) (pss_one (ps_set (i := 4) sc__law_way.nd rfl (Or.inl rfl) (pe_op op_catA (pv 4) (pe_tup (pa_cons (pe_ix ix_tup (pe_ix ix_tup (pv 0) pe_int (fun _ _ => rfl)) (pv 3) (fun _ _ => rfl)) pa_nil))))) (pss_one (ps_set (i := 3) sc__law_way.nd rfl (Or.inl rfl) (pe_ix ix_tup (pe_dget (hu_of hr) (pe_ix ix_tup (pv 0) pe_int (fun _ _ => rfl)) (pv 5) (fun _ _ => rfl)) (pv 3) (fun _ _ => rfl)))))))
      (pss_one (ps_ret (pe_tup (pa_cons (pv 4) (pa_cons (pv 3) pa_nil)))))))
abbrev N__law_marks : List Str := ["_law_mat", "_law_log_so", "_law_kinds_so", "_law_ways_so", "_law_k", "_law_seen_so", "_law_end_so"]
theorem sc__law_marks : FnScope N__law_marks ["_law_mat", "_law_log_so"] (defScope (top 55)) := ⟨rfl, rfl, rfl, by decide +kernel, rfl, by decide +kernel, by decide +kernel⟩
abbrev t__law_marks (K : PySem.W.Frag) (sp_l_kinds sp_l_way : Sp) : TS := (tSeq (tAsg (tCall sp_l_kinds [] E0 (tCons (tVar 0) tNil)) (gName 2))
    (tSeq (tAsg (tLc (iRng1 (tCons (tOp (rIxT K) (tVar 0) (tC (.int 0))) tNil)) (gName 4) tYes (tCall sp_l_way [] E0 (tCons (tVar 0) (tCons (tVar 4) (tCons (tVar 1) tNil)))) [4]) (gName 3))
    (tRet (tLc (iList K (tVar 3)) (gTup K 2 (gCons (gName 5) (gCons (gName 6) gNil))) tYes (tTup (tCons (tVar 5) (tCons (tOp (rIxL K) (tVar 2) (tVar 6)) tNil))) [5, 6]))))
theorem der__law_marks {f : Addr} {cdv : Value} {A : Around} {outer : List PySem.Env} {s : Shared} {H : Hp} {E : XK} (B : Bi mg)  {sp_l_kinds sp_l_way : Sp} (c__law_kinds : Cal P w K mg base 1 "_law_kinds" ["_law_mat"] sp_l_kinds) (c__law_way : Cal P w K mg base 1 "_law_way" ["_law_mat", "_law_state_so", "_law_log_so"] sp_l_way) (hr : Room 1 (A.deeper (envOfC "_law_marks" (defScope (top 55)) s.heap.objs.size f cdv))) :
    PSs (cxOf CX0 P w K mg base N__law_marks "_law_marks" (defScope (top 55)) f cdv A outer s H E).nox (defBody (top 55)) (t__law_marks K sp_l_kinds sp_l_way) :=
  (pss_cons (ps_set (i := 2) sc__law_marks.nd rfl (Or.inr rfl) (pe_cal c__law_kinds (hr.mono (by first | decide | exact Nat.le_refl _)) (by rfl) (pa_cons (pv 0) pa_nil)))
      (pss_cons (ps_setLc (i := 3) (own := [("_law_k", 4)]) (g := (gName 4)) (tt := tYes) (te := (tCall sp_l_way [] E0 (tCons (tVar 0) (tCons (tVar 4) (tCons (tVar 1) tNil))))) rfl sc__law_marks.nd rfl rfl (sw_true rfl rfl rfl (by decide +kernel)) (pi_range1 (by rfl) B.range (pa_cons (pe_ix ix_tup (pv 0) pe_int (fun _ _ => rfl)) pa_nil)) (blkOk_by (own := [("_law_k", 4)]) (N := N__law_marks) (sc := defScope (top 55)) (by decide +kernel)) (fun _ _ _ _ _ => by exact (pg_name (i := 4) sc__law_marks.nd rfl (Or.inl rfl))) (fun _ _ _ _ _ => by exact pts_nil) (fun _ _ _ _ _ => by exact (pe_cal c__law_way (hr.mono (by first | decide | exact Nat.le_refl _)) (by rfl) (pa_cons (pv 0) (pa_cons (pv 4) (pa_cons (pv 1) pa_nil))))))
      (pss_one (ps_ret (pe_lc (own := [("_law_seen_so", 5), ("_law_end_so", 6)]) (g := (gTup K 2 (gCons (gName 5) (gCons (gName 6) gNil)))) (tt := tYes) (te := (tTup (tCons (tVar 5) (tCons (tOp (rIxL K) (tVar 2) (tVar 6)) tNil)))) rfl sc__law_marks.nd (pi_list (pv 3)) (blkOk_by (own := [("_law_seen_so", 5), ("_law_end_so", 6)]) (N := N__law_marks) (sc := defScope (top 55)) (by decide +kernel)) (fun _ _ _ _ _ => by exact (pg_tup rfl (pgs_cons (pg_name (i := 5) sc__law_marks.nd rfl (Or.inl rfl)) (pgs_cons (pg_name (i := 6) sc__law_marks.nd rfl (Or.inl rfl)) pgs_nil)))) (fun _ _ _ _ _ => by exact pts_nil) (fun _ _ _ _ _ => by exact (pe_tup (pa_cons (pv 5) (pa_cons (pe_ix ix_list (pv 2) (pv 6) (fun _ _ => rfl)) pa_nil)))))))))
abbrev N__law_equal : List Str := ["_law_mat", "_law_one_so", "_law_two_so"]
theorem sc__law_equal : FnScope N__law_equal ["_law_mat", "_law_one_so", "_law_two_so"] (defScope (top 56)) := ⟨rfl, rfl, rfl, by decide +kernel, rfl, by decide +kernel, by decide +kernel⟩
abbrev t__law_equal (K : PySem.W.Frag) (sp_l_marks : Sp) : TS := (tRet (tOp (rEqD K) (tCall sp_l_marks [] E0 (tCons (tVar 0) (tCons (tVar 1) tNil))) (tCall sp_l_marks [] E0 (tCons (tVar 0) (tCons (tVar 2) tNil)))))
theorem der__law_equal {f : Addr} {cdv : Value} {A : Around} {outer : List PySem.Env} {s : Shared} {H : Hp} {E : XK} (B : Bi mg)  {sp_l_marks : Sp} (c__law_marks : Cal P w K mg base 2 "_law_marks" ["_law_mat", "_law_log_so"] sp_l_marks) (hr : Room 2 (A.deeper (envOfC "_law_equal" (defScope (top 56)) s.heap.objs.size f cdv))) :
    PSs (cxOf CX0 P w K mg base N__law_equal "_law_equal" (defScope (top 56)) f cdv A outer s H E).nox (defBody (top 56)) (t__law_equal K sp_l_marks) :=
  (pss_one (ps_ret (pe_cmpR (op_eqD (u64 hr)) (pe_cal c__law_marks (hr.mono (by first | decide | exact Nat.le_refl _)) (by rfl) (pa_cons (pv 0) (pa_cons (pv 1) pa_nil))) (pe_cal c__law_marks (hr.mono (by first | decide | exact Nat.le_refl _)) (by rfl) (pa_cons (pv 0) (pa_cons (pv 2) pa_nil))) (nomark _))))
abbrev N__law_log : List Str := ["_law_box_here", "_law_tags_so", "_law_most_so", "_law_looks_so", "_law_pool_so", "_law_turn"]
theorem sc__law_log : FnScope N__law_log ["_law_box_here", "_law_tags_so", "_law_most_so", "_law_looks_so"] (defScope (top 57)) := ⟨rfl, rfl, rfl, by decide +kernel, rfl, by decide +kernel, by decide +kernel⟩
abbrev t__law_log (K : PySem.W.Frag) (sp_l_take sp_l_of : Sp) : TS := (tSeq (tAsg (tOp rCat (tOp rCat (tCB (cLst K) (tCons (tVar 1) tNil)) (tCB (cLst K) (tCons (tVar 1) tNil))) (tOp rRep (tLst (tCons (tC (.str "?")) tNil)) (tCB cInt (tCons (tOrV (tVar 3) (tOp (rEqD K) (tVar 1) (tTup tNil))) tNil)))) (gName 4))
    (tRet (tCB (cTup K) (tCons (tLc (iRng1 (tCons (tCall sp_l_take [] E0 (tCons (tVar 0) (tCons (tOp rAddI (tVar 2) (tC (.int 1))) tNil))) tNil)) (gName 5) tYes (tCall sp_l_of [] E0 (tCons (tVar 0) (tCons (tVar 4) tNil))) [5]) tNil))))
theorem der__law_log {f : Addr} {cdv : Value} {A : Around} {outer : List PySem.Env} {s : Shared} {H : Hp} {E : XK} (B : Bi mg)  {sp_l_take sp_l_of : Sp} (c__law_take : Cal P w K mg base 1 "_law_take" ["_law_box_here", "_law_below_so"] sp_l_take) (c__law_of : Cal P w K mg base 2 "_law_of" ["_law_box_here", "_law_some"] sp_l_of) (hr : Room 2 (A.deeper (envOfC "_law_log" (defScope (top 57)) s.heap.objs.size f cdv))) :
    PSs (cxOf CX0 P w K mg base N__law_log "_law_log" (defScope (top 57)) f cdv A outer s H E).nox (defBody (top 57)) (t__law_log K sp_l_take sp_l_of) :=
  (pss_cons (ps_set (i := 4) sc__law_log.nd rfl (Or.inr rfl) (pe_op op_cat (pe_op op_cat (pe_callTy call_list_of (by rfl) B.list (by decide +kernel) (pa_cons (pv 1) pa_nil)) (pe_callTy call_list_of (by rfl) B.list (by decide +kernel) (pa_cons (pv 1) pa_nil))) (pe_op op_rep (pe_lst (pa_cons pe_str pa_nil)) (pe_callTy call_int1 (by rfl) B.int (by decide +kernel) (pa_cons (pe_or (pv 3) (pe_one (pe_cmpR (op_eqD (u64 hr)) (pv 1) (pe_tup pa_nil) (nomark _)))) pa_nil)))))
      (pss_one (ps_ret (pe_callTy call_tuple_of (by rfl) B.tuple (by decide +kernel) (pa_cons (pe_lc (own := [("_law_turn", 5)]) (g := (gName 5)) (tt := tYes) (te := (tCall sp_l_of [] E0 (tCons (tVar 0) (tCons (tVar 4) tNil)))) rfl sc__law_log.nd (pi_range1 (by rfl) B.range (pa_cons (pe_cal c__law_take (hr.mono (by first | decide | exact Nat.le_refl _)) (by rfl) (pa_cons (pv 0) (pa_cons (pe_op op_add (pv 2) pe_int) pa_nil))) pa_nil)) (blkOk_by (own := [("_law_turn", 5)]) (N := N__law_log) (sc := defScope (top 57)) (by decide +kernel)) (fun _ _ _ _ _ => by exact (pg_name (i := 5) sc__law_log.nd rfl (Or.inl rfl))) (fun _ _ _ _ _ => by exact pts_nil) (fun _ _ _ _ _ => by exact (pe_cal c__law_of (hr.mono (by first | decide | exact Nat.le_refl _)) (by rfl) (pa_cons (pv 0) (pa_cons (pv 4) pa_nil))))) pa_nil)))))
abbrev N__law_far : List Str := ["_law_mat", "_law_one_so", "_law_by_so", "_law_kinds_so", "_law_made", "_law_edge", "_law_seen_so", "_law_size_so", "_law_mine", "_law_its", "_law_ends_so", "_law_later_so", "_law_far_so", "_law_k", "_law_own"]
theorem sc__law_far : FnScope N__law_far ["_law_mat", "_law_one_so", "_law_by_so"] (defScope (top 58)) := ⟨rfl, rfl, rfl, by decide +kernel, rfl, by decide +kernel, by decide +kernel⟩
abbrev t__law_far (K : PySem.W.Frag) (sp_l_kinds : Sp) : TS := (tSeq (tAsg (tTup (tCons (tCall sp_l_kinds [] E0 (tCons (tVar 0) tNil)) (tCons (tOp (rIxT K) (tVar 0) (tC (.int 1))) tNil))) (gTup K 2 (gCons (gName 3) (gCons (gName 4) gNil))))
    (tSeq (tPar3 5 6 7 (tCons (tLc (iRng1 (tCons (tOp (rIxT K) (tVar 0) (tC (.int 0))) tNil)) (gName 13) tYes (tTup (tCons (tOp (rIxT K) (tDGet (tVar 4) (tVar 1)) (tVar 13)) (tCons (tVar 13) tNil))) [13]) (tCons (tLst tNil) (tCons (tC (.int 0)) tNil))))
    (tSeq (tWhile (tTest (tOp (rNeD K) (tVar 5) (tLst tNil))) (tSeq (tAsg (tLc (iList K (tVar 5)) (gTup K 2 (gCons (gName 8) (gCons (gName 9) gNil))) tYes (tTup (tCons (tOp (rIxT K) (tDGet (tVar 4) (tVar 2)) (tVar 8)) (tCons (tOp (rIxT K) (tDGet (tVar 4) (tVar 2)) (tVar 9)) tNil))) [8, 9]) (gName 10))
    (tSeq (tIfS (tTest (tOp (rNeD K) (tLc (iList K (tVar 10)) (gName 14) (tTest (tOp rNe (tOp (rIxL K) (tVar 3) (tOp (rIxT K) (tVar 14) (tC (.int 0)))) (tOp (rIxL K) (tVar 3) (tOp (rIxT K) (tVar 14) (tC (.int 1)))))) (tVar 14) [14]) (tLst tNil))) (tRet (tVar 7)) tNext)
    (tSeq (tPar 6 11 (tCons (tOp rCat (tVar 6) (tVar 5)) (tCons (tLst tNil) tNil)))
    (tSeq (tFor (iList K (tVar 5)) (gTup K 2 (gCons (gName 8) (gCons (gName 9) gNil))) (sLockQ (tFor (iVals (tVar 4)) (gName 12) (tIfS (tTest (tOp (rNotInD K) (tTup (tCons (tOp (rIxT K) (tVar 12) (tVar 8)) (tCons (tOp (rIxT K) (tVar 12) (tVar 9)) tNil))) (tOp rCat (tVar 6) (tVar 11)))) (tDrop (tBM K "list" rAppend (tVar 11) (tCons (tTup (tCons (tOp (rIxT K) (tVar 12) (tVar 8)) (tCons (tOp (rIxT K) (tVar 12) (tVar 9)) tNil))) tNil))) tNext))))
    (tPar 5 7 (tCons (tVar 11) (tCons (tOp rAddI (tVar 7) (tC (.int 1))) tNil))))))))
    (tRet (tC .non)))))
theorem der__law_far {f : Addr} {cdv : Value} {A : Around} {outer : List PySem.Env} {s : Shared} {H : Hp} {E : XK} (B : Bi mg)  {sp_l_kinds : Sp} (c__law_kinds : Cal P w K mg base 1 "_law_kinds" ["_law_mat"] sp_l_kinds) (hr : Room 1 (A.deeper (envOfC "_law_far" (defScope (top 58)) s.heap.objs.size f cdv))) :
    PSs (cxOf CX0 P w K mg base N__law_far "_law_far" (defScope (top 58)) f cdv A outer s H E).nox (defBody (top 58)) (t__law_far K sp_l_kinds) :=
  (pss_cons (ps_asg (pe_tup (pa_cons (pe_cal c__law_kinds (hr.mono (by first | decide | exact Nat.le_refl _)) (by rfl) (pa_cons (pv 0) pa_nil)) (pa_cons (pe_ix ix_tup (pv 0) pe_int (fun _ _ => rfl)) pa_nil))) (pg_tup rfl (pgs_cons (pg_name (i := 3) sc__law_far.nd rfl (Or.inr rfl)) (pgs_cons (pg_name (i := 4) sc__law_far.nd rfl (Or.inr rfl)) pgs_nil))))
      (pss_cons (ps_par3 (i := 5) (j := 6) (l := 7) rfl sc__law_far.nd rfl rfl rfl (by decide) (by decide) (by decide) rfl rfl rfl (pa_cons (pe_lc (own := [("_law_k", 13)]) (g := (gName 13)) (tt := tYes) (te := (tTup (tCons (tOp (rIxT K) (tDGet (tVar 4) (tVar 1)) (tVar 13)) (tCons (tVar 13) tNil)))) rfl sc__law_far.nd (pi_range1 (by rfl) B.range (pa_cons (pe_ix ix_tup (pv 0) pe_int (fun _ _ => rfl)) pa_nil)) (blkOk_by (own := [("_law_k", 13)]) (N := N__law_far) (sc := defScope (top 58)) (by decide +kernel)) (fun _ _ _ _ _ => by exact (pg_name (i := 13) sc__law_far.nd rfl (Or.inl rfl))) (fun _ _ _ _ _ => by exact pts_nil) (fun _ _ _ _ _ => by exact (pe_tup (pa_cons (pe_ix ix_tup (pe_dget (hu_of hr) (pv 4) (pv 1) (fun _ _ => rfl)) (pv 13) (fun _ _ => rfl)) (pa_cons (pv 13) pa_nil))))) (pa_cons (pe_lst pa_nil) (pa_cons pe_int pa_nil))) (by rfl))
      (pss_cons (ps_while PassesOwn.never (pt_cmpR (op_neD (u64 hr)) (pv 5) (pe_lst pa_nil) (nomark _)) (pss_cons (ps_setLc (i := 10) (own := [("_law_mine", 8), ("_law_its", 9)]) (g := (gTup K 2 (gCons (gName 8) (gCons (gName 9) gNil)))) (tt := tYes) (te := (tTup (tCons (tOp (rIxT K) (tDGet (tVar 4) (tVar 2)) (tVar 8)) (tCons (tOp (rIxT K) (tDGet (tVar 4) (tVar 2)) (tVar 9)) tNil)))) rfl sc__law_far.nd rfl rfl (sw_true rfl rfl rfl (by decide +kernel)) (pi_list (pv 5)) (blkOk_by (own := [("_law_mine", 8), ("_law_its", 9)]) (N := N__law_far) (sc := defScope (top 58)) (by decide +kernel)) (fun _ _ _ _ _ => by exact (pg_tup rfl (pgs_cons (pg_name (i := 8) sc__law_far.nd rfl (Or.inl rfl)) (pgs_cons (pg_name (i := 9) sc__law_far.nd rfl (Or.inl rfl)) pgs_nil)))) (fun _ _ _ _ _ => by exact pts_nil) (fun _ _ _ _ _ => by exact (pe_tup (pa_cons (pe_ix ix_tup (pe_dget (hu_of hr) (pv 4) (pv 2) (fun _ _ => rfl)) (pv 8) (fun _ _ => rfl)) (pa_cons (pe_ix ix_tup (pe_dget (hu_of hr) (pv 4) (pv 2) (fun _ _ => rfl)) (pv 9) (fun _ _ => rfl)) pa_nil)))))
      (pss_cons (ps_if (pt_cmpR (op_neD (u64 hr)) (pe_lc (own := [("_law_own", 14)]) (g := (gName 14)) (tt := (tTest (tOp rNe (tOp (rIxL K) (tVar 3) (tOp (rIxT K) (tVar 14) (tC (.int 0)))) (tOp (rIxL K) (tVar 3) (tOp (rIxT K) (tVar 14) (tC (.int 1))))))) (te := (tVar 14)) rfl sc__law_far.nd (pi_list (pv 10)) (blkOk_by (own := [("_law_own", 14)]) (N := N__law_far) (sc := defScope (top 58)) (by decide +kernel)) (fun _ _ _ _ _ => by exact (pg_name (i := 14) sc__law_far.nd rfl (Or.inl rfl))) (fun _ _ _ _ _ => by exact (pts_one (pt_cmpR op_ne (pe_ix ix_list (pv 3) (pe_ix ix_tup (pv 14) pe_int (fun _ _ => rfl)) (fun _ _ => rfl)) (pe_ix ix_list (pv 3) (pe_ix ix_tup (pv 14) pe_int (fun _ _ => rfl)) (fun _ _ => rfl)) (nomark _)))) (fun _ _ _ _ _ => by exact (pv 14))) (pe_lst pa_nil) (nomark _)) (pss_one (ps_ret (pv 7))) pss_nil)
      (pss_cons (ps_par (i := 6) (j := 11) rfl sc__law_far.nd rfl rfl (by decide) rfl rfl (pa_cons (pe_op op_cat (pv 6) (pv 5)) (pa_cons (pe_lst pa_nil) pa_nil)) (by rfl))
      (pss_cons (ps_for PassesOwn.never rfl (pi_list (pv 5)) (pg_tup rfl (pgs_cons (pg_name (i := 8) sc__law_far.nd rfl (Or.inl rfl)) (pgs_cons (pg_name (i := 9) sc__law_far.nd rfl (Or.inl rfl)) pgs_nil))) (pss_one (ps_lockQ (ps_for PassesOwn.never rfl (pi_values (pv 4)) (pg_name (i := 12) sc__law_far.nd rfl (Or.inl rfl)) (pss_one (ps_if (pt_cmpR (op_notInD (u65 hr)) (pe_tup (pa_cons (pe_ix ix_tup (pv 12) (pv 8) (fun _ _ => rfl)) (pa_cons (pe_ix ix_tup (pv 12) (pv 9) (fun _ _ => rfl)) pa_nil))) (pe_op op_cat (pv 6) (pv 11)) (by rfl)) (pss_one (ps_expr (pe_bm PySem.F.plainAttrs_list PySem.F.slot_list_append PySem.F.type_list_append mt_append (pv 11) (pa_cons (pe_tup (pa_cons (pe_ix ix_tup (pv 12) (pv 8) (fun _ _ => rfl)) (pa_cons (pe_ix ix_tup (pv 12) (pv 9) (fun _ _ => rfl)) pa_nil))) pa_nil)))) pss_nil))))))
      (pss_one (ps_par (i := 5) (j := 7) rfl sc__law_far.nd rfl rfl (by decide) rfl rfl (pa_cons (pv 11) (pa_cons (pe_op op_add (pv 7) pe_int) pa_nil)) (by rfl))))))))
      (pss_one (ps_ret pe_non)))))
abbrev N__law_by_hand : List Str := ["_law_size_so", "_law_rows_so", "_law_made", "_law_last_so", "_law_low_so", "_law_mat", "_law_got", "_law_six_so", "_law_k"]
theorem sc__law_by_hand : FnScope N__law_by_hand [] (defScope (top 59)) := ⟨rfl, rfl, rfl, by decide +kernel, rfl, by decide +kernel, by decide +kernel⟩
abbrev t__law_by_hand (K : PySem.W.Frag) (C : Addr) (sp_MachineInit sp_not_covered sp_is_covered sp_by_three sp_l_host sp_l_far sp_l_same : Sp) : TS := (tSeq (tFor (iTup K (tTup (tCons (tC (.int 2)) (tCons (tC (.int 3)) tNil)))) (gName 0) (tSeq (tPar 1 2 (tCons (tLstRg (tRg1 (tVar 0))) (tCons tDNewK tNil)))
    (tSeq (tAsg (tOp rSubI (tVar 0) (tC (.int 1))) (gName 3))
    (tSeq (sDPut (tVar 2) (tC (.str "a")) (tCB (cTup K) (tCons (tOp rCat (tOp rCat (tLst (tCons (tVar 0) tNil)) (tSl (rSlL K) (tVar 1) (tPart (tC (.int 1))) tNoPart)) (tLc (iList K (tVar 1)) (gName 8) tYes (tOp rAddI (tVar 0) (tVar 8)) [8])) tNil)))
    (tSeq (sDPut (tVar 2) (tC (.str "b")) (tCB (cTup K) (tCons (tOp rCat (tOp rCat (tOp rCat (tOp rRep (tLst (tCons (tC (.int 0)) tNil)) (tVar 3)) (tLst (tCons (tVar 3) tNil))) (tOp rRep (tLst (tCons (tC (.int 0)) tNil)) (tVar 3))) (tLst (tCons (tOp rAddI (tVar 0) (tVar 3)) tNil))) tNil)))
    (tSeq (tAsg (tLc (iList K (tVar 1)) (gName 8) tYes (tCB cMin2 (tCons (tOp rAddI (tVar 8) (tC (.int 1))) (tCons (tVar 3) tNil))) [8]) (gName 4))
    (tSeq (sDPut (tVar 2) (tC (.str "c")) (tCB (cTup K) (tCons (tOp rCat (tVar 4) (tLc (iList K (tVar 4)) (gName 8) tYes (tOp rAddI (tVar 0) (tVar 8)) [8])) tNil)))
    (tSeq (tAsg (tTup (tCons (tOp rMulI (tC (.int 2)) (tVar 0)) (tCons (tVar 2) (tCons (tTupRgF (tRg1 (tOp rMulI (tC (.int 2)) (tVar 0)))) tNil)))) (gName 5))
    (tSeq (tAsg (tLst (tCons (tCall sp_not_covered [] E0 (tCons (tCall sp_l_host [] E0 (tCons (tVar 5) tNil)) (tCons (tC (.str "a")) (tCons (tC (.str "b")) tNil)))) (tCons (tCall sp_is_covered [] E0 (tCons (tCall sp_l_host [] E0 (tCons (tVar 5) tNil)) (tCons (tC (.str "a")) (tCons (tC (.str "a")) tNil)))) tNil))) (gName 6))
    (tSeq (tDrop (tBM K "list" rAppend (tVar 6) (tCons (tCall sp_is_covered [] E0 (tCons (tCall sp_l_host [] E0 (tCons (tVar 5) tNil)) (tCons (tC (.str "a")) (tCons (tC (.str "b")) tNil)))) tNil)))
    (tSeq (tIfS (tNot (tB (tCall sp_l_same [] E0 (tCons (tVar 6) (tCons (tLst (tCons (tOp (rRepA K) (tTup (tCons (tC (.str "c")) tNil)) (tVar 3)) (tCons (tC (.bl false)) (tCons (tC (.bl false)) tNil)))) tNil))))) (tRet (tC (.bl false))) tNext)
    (tIfS (tTest (tOp rNe (tCall sp_l_far [] E0 (tCons (tVar 5) (tCons (tC (.str "a")) (tCons (tC (.str "b")) tNil)))) (tVar 3))) (tRet (tC (.bl false))) tNext))))))))))))
    (tSeq (tAsg (tLst (tCons (tTup (tCons (tC (.str "turn")) (tCons (tTup (tCons (tC (.int 1)) (tCons (tC (.int 0)) (tCons (tC (.int 2)) (tCons (tC (.int 3)) (tCons (tC (.int 4)) (tCons (tC (.int 5)) tNil))))))) tNil))) (tCons (tTup (tCons (tC (.str "pass")) (tCons (tTup (tCons (tC (.int 1)) (tCons (tC (.int 2)) (tCons (tC (.int 3)) (tCons (tC (.int 4)) (tCons (tC (.int 5)) (tCons (tC (.int 0)) tNil))))))) tNil))) (tCons (tTup (tCons (tC (.str "wipe")) (tCons (tTup (tCons (tC (.int 0)) (tCons (tC (.int 0)) (tCons (tC (.int 0)) (tCons (tC (.int 0)) (tCons (tC (.int 0)) (tCons (tC (.int 5)) tNil))))))) tNil))) tNil)))) (gName 7))
    (tSeq (tIfS (tNot (tB (tCall sp_l_same [] E0 (tCons (tCall sp_not_covered [] E0 (tCons (tMake C sp_MachineInit [.non] E0 (tCons (tC (.int 6)) (tCons (tVar 7) tNil))) (tCons (tC (.str "turn")) (tCons (tC (.str "wipe")) tNil)))) (tCons (tOp (rRepA K) (tTup (tCons (tC (.str "pass")) tNil)) (tC (.int 4))) tNil))))) (tRet (tC (.bl false))) tNext)
    (tRet (tOp rIsNo (tCall sp_by_three [] E0 (tCons (tCall sp_l_host [] E0 (tCons (tVar 5) tNil)) (tCons (tC (.str "a")) (tCons (tC (.str "b")) tNil)))) (tC .non))))))
theorem der__law_by_hand {f : Addr} {cdv : Value} {A : Around} {outer : List PySem.Env} {s : Shared} {H : Hp} {E : XK} (B : Bi mg)  {C : Addr} {sp_MachineInit sp_not_covered sp_is_covered sp_by_three sp_l_host sp_l_far sp_l_same : Sp} (hC : Cls K C) (k_Machine2 : Mak P w K mg base 3 C "Machine" ["self", "many", "deeds", "shows"] [.non] sp_MachineInit) (c_not_covered : Cal P w K mg base 6 "not_covered" ["machine", "name", "by"] sp_not_covered) (c_is_covered : Cal P w K mg base 7 "is_covered" ["machine", "name", "by"] sp_is_covered) (c_by_three : Cal P w K mg base 7 "by_three" ["machine", "name", "by"] sp_by_three) (c__law_host : Cal P w K mg base 5 "_law_host" ["_law_mat"] sp_l_host) (c__law_far : Cal P w K mg base 2 "_law_far" ["_law_mat", "_law_one_so", "_law_by_so"] sp_l_far) (c__law_same : Cal P w K mg base 4 "_law_same" ["_law_got", "_law_due_so"] sp_l_same) (hr : Room 7 (A.deeper (envOfC "_law_by_hand" (defScope (top 59)) s.heap.objs.size f cdv))) :
    PSs (cxOf CX0 P w K mg base N__law_by_hand "_law_by_hand" (defScope (top 59)) f cdv A outer s H E).nox (defBody (top 59)) (t__law_by_hand K C sp_MachineInit sp_not_covered sp_is_covered sp_by_three sp_l_host sp_l_far sp_l_same) :=
  (pss_cons (ps_for PassesOwn.never rfl (pi_tup (pe_tup (pa_cons pe_int (pa_cons pe_int pa_nil)))) (pg_name (i := 0) sc__law_by_hand.nd rfl (Or.inr rfl)) (pss_cons (ps_par (i := 1) (j := 2) rfl sc__law_by_hand.nd rfl rfl (by decide) rfl rfl (pa_cons (pe_listRg rfl (by rfl) B.list (prg_1 (by rfl) B.range (pv 0))) (pa_cons pe_dnewK pa_nil)) (by rfl))
      (pss_cons (ps_set (i := 3) sc__law_by_hand.nd rfl (Or.inr rfl) (pe_op op_sub (pv 0) pe_int))
      (pss_cons (ps_dput (hu_of hr) (pv 2) pe_str (pe_callTy call_tuple_of (by rfl) B.tuple (by decide +kernel) (pa_cons (pe_op op_cat (pe_op op_cat (pe_lst (pa_cons (pv 0) pa_nil)) (pe_slice sl_list (pv 1) (po_some pe_int) po_none)) (pe_lc (own := [("_law_k", 8)]) (g := (gName 8)) (tt := tYes) (te := (tOp rAddI (tVar 0) (tVar 8))) rfl sc__law_by_hand.nd (pi_list (pv 1)) (blkOk_by (own := [("_law_k", 8)]) (N := N__law_by_hand) (sc := defScope (top 59)) (by decide +kernel)) (fun _ _ _ _ _ => by exact (pg_name (i := 8) sc__law_by_hand.nd rfl (Or.inl rfl))) (fun _ _ _ _ _ => by exact pts_nil) (fun _ _ _ _ _ => by exact (pe_op op_add (pv 0) (pv 8))))) pa_nil)) rfl)
      (pss_cons (ps_dput (hu_of hr) (pv 2) pe_str (pe_callTy call_tuple_of (by rfl) B.tuple (by decide +kernel) (pa_cons (pe_op op_cat (pe_op op_cat (pe_op op_cat (pe_op op_rep (pe_lst (pa_cons pe_int pa_nil)) (pv 3)) (pe_lst (pa_cons (pv 3) pa_nil))) (pe_op op_rep (pe_lst (pa_cons pe_int pa_nil)) (pv 3))) (pe_lst (pa_cons (pe_op op_add (pv 0) (pv 3)) pa_nil))) pa_nil)) rfl)
      (pss_cons (ps_setLc (i := 4) (own := [("_law_k", 8)]) (g := (gName 8)) (tt := tYes) (te := (tCB cMin2 (tCons (tOp rAddI (tVar 8) (tC (.int 1))) (tCons (tVar 3) tNil)))) rfl sc__law_by_hand.nd rfl rfl (sw_true rfl rfl rfl (by decide +kernel)) (pi_list (pv 1)) (blkOk_by (own := [("_law_k", 8)]) (N := N__law_by_hand) (sc := defScope (top 59)) (by decide +kernel)) (fun _ _ _ _ _ => by exact (pg_name (i := 8) sc__law_by_hand.nd rfl (Or.inl rfl))) (fun _ _ _ _ _ => by exact pts_nil) (fun _ _ _ _ _ => by exact (pe_callB (call_min2 rfl) (by rfl) B.min (by decide +kernel) (pa_cons (pe_op op_add (pv 8) pe_int) (pa_cons (pv 3) pa_nil)))))
      (pss_cons (ps_dput (hu_of hr) (pv 2) pe_str (pe_callTy call_tuple_of (by rfl) B.tuple (by decide +kernel) (pa_cons (pe_op op_cat (pv 4) (pe_lc (own := [("_law_k", 8)]) (g := (gName 8)) (tt := tYes) (te := (tOp rAddI (tVar 0) (tVar 8))) rfl sc__law_by_hand.nd (pi_list (pv 4)) (blkOk_by (own := [("_law_k", 8)]) (N := N__law_by_hand) (sc := defScope (top 59)) (by decide +kernel)) (fun _ _ _ _ _ => by exact (pg_name (i := 8) sc__law_by_hand.nd rfl (Or.inl rfl))) (fun _ _ _ _ _ => by exact pts_nil) (fun _ _ _ _ _ => by exact (pe_op op_add (pv 0) (pv 8))))) pa_nil)) rfl)
      (pss_cons (ps_set (i := 5) sc__law_by_hand.nd rfl (Or.inl rfl) (pe_tup (pa_cons (pe_op op_mul pe_int (pv 0)) (pa_cons (pv 2) (pa_cons (pe_tupRgF rfl (by rfl) B.tuple (prg_1 (by rfl) B.range (pe_op op_mul pe_int (pv 0)))) pa_nil)))))
      (pss_cons (ps_set (i := 6) sc__law_by_hand.nd rfl (Or.inl rfl) (pe_lst (pa_cons (pe_cal c_not_covered (hr.mono (by first | decide | exact Nat.le_refl _)) (by rfl) (pa_cons (pe_cal c__law_host (hr.mono (by first | decide | exact Nat.le_refl _)) (by rfl) (pa_cons (pv 5) pa_nil)) (pa_cons pe_str (pa_cons pe_str pa_nil)))) (pa_cons (pe_cal c_is_covered (hr.mono (by first | decide | exact Nat.le_refl _)) (by rfl) (pa_cons (pe_cal c__law_host (hr.mono (by first | decide | exact Nat.le_refl _)) (by rfl) (pa_cons (pv 5) pa_nil)) (pa_cons pe_str (pa_cons pe_str pa_nil)))) pa_nil))))
      (pss_cons (ps_expr (pe_bm PySem.F.plainAttrs_list PySem.F.slot_list_append PySem.F.type_list_append mt_append (pv 6) (pa_cons (pe_cal c_is_covered (hr.mono (by first | decide | exact Nat.le_refl _)) (by rfl) (pa_cons (pe_cal c__law_host (hr.mono (by first | decide | exact Nat.le_refl _)) (by rfl) (pa_cons (pv 5) pa_nil)) (pa_cons pe_str (pa_cons pe_str pa_nil)))) pa_nil)))
      (pss_cons (ps_if (pt_not (pt_val (pe_cal c__law_same (hr.mono (by first | decide | exact Nat.le_refl _)) (by rfl) (pa_cons (pv 6) (pa_cons (pe_lst (pa_cons (pe_op op_repA (pe_tup (pa_cons pe_str pa_nil)) (pv 3)) (pa_cons pe_bl (pa_cons pe_bl pa_nil)))) pa_nil))))) (pss_one (ps_ret pe_bl)) pss_nil)
      (pss_one (ps_if (pt_cmpR op_ne (pe_cal c__law_far (hr.mono (by first | decide | exact Nat.le_refl _)) (by rfl) (pa_cons (pv 5) (pa_cons pe_str (pa_cons pe_str pa_nil)))) (pv 3) (nomark _)) (pss_one (ps_ret pe_bl)) pss_nil)))))))))))))
      (pss_cons (ps_set (i := 7) sc__law_by_hand.nd rfl (Or.inl rfl) (pe_lst (pa_cons (pe_tup (pa_cons pe_str (pa_cons (pe_tup (pa_cons pe_int (pa_cons pe_int (pa_cons pe_int (pa_cons pe_int (pa_cons pe_int (pa_cons pe_int pa_nil))))))) pa_nil))) (pa_cons (pe_tup (pa_cons pe_str (pa_cons (pe_tup (pa_cons pe_int (pa_cons pe_int (pa_cons pe_int (pa_cons pe_int (pa_cons pe_int (pa_cons pe_int pa_nil))))))) pa_nil))) (pa_cons (pe_tup (pa_cons pe_str (pa_cons (pe_tup (pa_cons pe_int (pa_cons pe_int (pa_cons pe_int (pa_cons pe_int (pa_cons pe_int (pa_cons pe_int pa_nil))))))) pa_nil))) pa_nil)))))
      (pss_cons (ps_if (pt_not (pt_val (pe_cal c__law_same (hr.mono (by first | decide | exact Nat.le_refl _)) (by rfl) (pa_cons (pe_cal c_not_covered (hr.mono (by first | decide | exact Nat.le_refl _)) (by rfl) (pa_cons (pe_mak k_Machine2 (hr.mono (by first | decide | exact Nat.le_refl _)) (by rfl) (pa_cons pe_int (pa_cons (pv 7) pa_nil))) (pa_cons pe_str (pa_cons pe_str pa_nil)))) (pa_cons (pe_op op_repA (pe_tup (pa_cons pe_str pa_nil)) pe_int) pa_nil))))) (pss_one (ps_ret pe_bl)) pss_nil)
      (pss_one (ps_ret (pe_cmpR op_isN (pe_cal c_by_three (hr.mono (by first | decide | exact Nat.le_refl _)) (by rfl) (pa_cons (pe_cal c__law_host (hr.mono (by first | decide | exact Nat.le_refl _)) (by rfl) (pa_cons (pv 5) pa_nil)) (pa_cons pe_str (pa_cons pe_str pa_nil)))) pe_non (nomark _)))))))
abbrev N__law_right : List Str := ["_law_box_here", "_law_mat", "_law_tags_so", "_law_host_so", "_law_right_so", "_law_own", "_law_by_so", "_law_found", "_law_near_so", "_law_row_so", "_law_more_so", "_law_far_so"]
theorem sc__law_right : FnScope N__law_right ["_law_box_here"] (defScope (top 60)) := ⟨rfl, rfl, rfl, by decide +kernel, rfl, by decide +kernel, by decide +kernel⟩
abbrev t__law_right (K : PySem.W.Frag) (CR : Addr) (sp_pairs sp_not_covered sp_by_three sp_greatest sp_l_tags sp_l_some_machine sp_l_host sp_l_equal sp_l_log : Sp) : TS := (tSeq (tAsg (tCall sp_l_some_machine [] E0 (tCons (tVar 0) (tCons (tC (.int 5)) (tCons (tC (.int 3)) tNil)))) (gName 1))
    (tSeq (tAsg (tTup (tCons (tCall sp_l_tags [] E0 (tCons (tVar 1) tNil)) (tCons (tCall sp_l_host [] E0 (tCons (tVar 1) tNil)) tNil))) (gTup K 2 (gCons (gName 2) (gCons (gName 3) gNil))))
    (tSeq (tAsg (tProp CR sp_pairs [] E0 (tCall sp_greatest [] E0 (tCons (tVar 3) tNil))) (gName 4))
    (tSeq (tFor (iTup K (tVar 2)) (gName 5) (tSeq (tIfS (tTest (tOp rNe (tOp (rInT K) (tTup (tCons (tVar 5) (tCons (tVar 5) tNil))) (tVar 4)) (tOp rIsNo (tCall sp_by_three [] E0 (tCons (tVar 3) (tCons (tVar 5) (tCons (tVar 5) tNil)))) (tC .non)))) (tRet (tC (.bl false))) tNext)
    (tFor (iTup K (tVar 2)) (gName 6) (tSeq (tAsg (tCall sp_not_covered [] E0 (tCons (tVar 3) (tCons (tVar 5) (tCons (tVar 6) tNil)))) (gName 7))
    (tSeq (tIfS (tTest (tOp rNe (tOp rIsNo (tVar 7) (tC .non)) (tOp (rInT K) (tTup (tCons (tVar 5) (tCons (tVar 6) tNil))) (tVar 4)))) (tRet (tC (.bl false))) tNext)
    (tSeq (tAsg (tCall sp_by_three [] E0 (tCons (tVar 3) (tCons (tVar 5) (tCons (tVar 6) tNil)))) (gName 8))
    (tSeq (tIfS (tAnd (tTest (tOp (rInT K) (tTup (tCons (tVar 5) (tCons (tVar 5) tNil))) (tVar 4))) (tTest (tOp rNe (tOp rIsNo (tVar 7) (tC .non)) (tOp rIsNo (tVar 8) (tC .non))))) (tRet (tC (.bl false))) tNext)
    (tSeq (tAsg (tOp (rCatA K) (tIf (tB (tCB (rIsi K) (tCons (tVar 7) (tCons (tC (.ty "tuple")) tNil)))) (tVar 7) (tTup tNil)) (tTup (tCons (tVar 6) tNil))) (gName 9))
    (tSeq (tIfS (tTest (tOp (rNeD K) (tLc (iTup K (tVar 9)) (gName 11) (tTest (tOp (rIn K true) (tVar 11) (tVar 2))) (tVar 11) [11]) (tLst tNil))) (tRet (tC (.bl false))) tNext)
    (tSeq (tIfS (tAnd (tTest (tOp rIsntNo (tVar 7) (tC .non))) (tB (tCall sp_l_equal [] E0 (tCons (tVar 1) (tCons (tOp (rCatA K) (tTup (tCons (tVar 5) tNil)) (tVar 9)) (tCons (tVar 9) tNil)))))) (tRet (tC (.bl false))) tNext)
    (tSeq (tAsg (tLc (iTup K (tVar 2)) (gName 11) (tTest (tOp (rInT K) (tTup (tCons (tVar 6) (tCons (tVar 11) tNil))) (tVar 4))) (tVar 11) [11]) (gName 8))
    (tSeq (tAsg (tLc (iList K (tVar 8)) (gName 11) (tTest (tOp (rNinT K) (tTup (tCons (tVar 5) (tCons (tVar 11) tNil))) (tVar 4))) (tVar 11) [11]) (gName 10))
    (tSeq (tIfS (tAnd (tTest (tOp rIsNo (tVar 7) (tC .non))) (tTest (tOp (rNeD K) (tVar 10) (tLst tNil)))) (tRet (tC (.bl false))) tNext)
    (tSeq (tAsg (tOp (rCatA K) (tCall sp_l_log [] E0 (tCons (tVar 0) (tCons (tVar 2) (tCons (tC (.int 8)) (tCons (tC (.bl false)) tNil))))) (tTup (tCons (tVar 6) tNil))) (gName 9))
    (tIfS (tAnd (tTest (tOp rIsNo (tVar 7) (tC .non))) (tNot (tB (tCall sp_l_equal [] E0 (tCons (tVar 1) (tCons (tOp (rCatA K) (tTup (tCons (tVar 5) tNil)) (tVar 9)) (tCons (tVar 9) tNil))))))) (tRet (tC (.bl false))) tNext)))))))))))))))
    (tRet (tC (.bl true)))))))
theorem der__law_right {f : Addr} {cdv : Value} {A : Around} {outer : List PySem.Env} {s : Shared} {H : Hp} {E : XK} (B : Bi mg)  {CR : Addr} {sp_pairs sp_not_covered sp_by_three sp_greatest sp_l_tags sp_l_some_machine sp_l_host sp_l_equal sp_l_log : Sp} (hCR : Cls K CR) (p_pairs : Prp P w K mg base 1 CR "pairs" sp_pairs) (c_not_covered : Cal P w K mg base 6 "not_covered" ["machine", "name", "by"] sp_not_covered) (c_by_three : Cal P w K mg base 7 "by_three" ["machine", "name", "by"] sp_by_three) (c_greatest : Cal P w K mg base 8 "greatest" ["machine"] sp_greatest) (c__law_tags : Cal P w K mg base 1 "_law_tags" ["_law_mat"] sp_l_tags) (c__law_some_machine : Cal P w K mg base 5 "_law_some_machine" ["_law_box_here", "_law_most_so", "_law_deeds_so"] sp_l_some_machine) (c__law_host : Cal P w K mg base 5 "_law_host" ["_law_mat"] sp_l_host) (c__law_equal : Cal P w K mg base 3 "_law_equal" ["_law_mat", "_law_one_so", "_law_two_so"] sp_l_equal) (c__law_log : Cal P w K mg base 3 "_law_log" ["_law_box_here", "_law_tags_so", "_law_most_so", "_law_looks_so"] sp_l_log) (hr : Room 8 (A.deeper (envOfC "_law_right" (defScope (top 60)) s.heap.objs.size f cdv))) :
    PSs (cxOf CX0 P w K mg base N__law_right "_law_right" (defScope (top 60)) f cdv A outer s H E).nox (defBody (top 60)) (t__law_right K CR sp_pairs sp_not_covered sp_by_three sp_greatest sp_l_tags sp_l_some_machine sp_l_host sp_l_equal sp_l_log) :=
  (pss_cons (ps_set (i := 1) sc__law_right.nd rfl (Or.inl rfl) (pe_cal c__law_some_machine (hr.mono (by first | decide | exact Nat.le_refl _)) (by rfl) (pa_cons (pv 0) (pa_cons pe_int (pa_cons pe_int pa_nil)))))
      (pss_cons (ps_asg (pe_tup (pa_cons (pe_cal c__law_tags (hr.mono (by first | decide | exact Nat.le_refl _)) (by rfl) (pa_cons (pv 1) pa_nil)) (pa_cons (pe_cal c__law_host (hr.mono (by first | decide | exact Nat.le_refl _)) (by rfl) (pa_cons (pv 1) pa_nil)) pa_nil))) (pg_tup rfl (pgs_cons (pg_name (i := 2) sc__law_right.nd rfl (Or.inr rfl)) (pgs_cons (pg_name (i := 3) sc__law_right.nd rfl (Or.inl rfl)) pgs_nil))))
      (pss_cons (ps_set (i := 4) sc__law_right.nd rfl (Or.inr rfl) (pe_prp p_pairs hCR (hr.mono (by first | decide | exact Nat.le_refl _)) (pe_cal c_greatest (hr.mono (by first | decide | exact Nat.le_refl _)) (by rfl) (pa_cons (pv 3) pa_nil))))
      (pss_cons (ps_for PassesOwn.never rfl (pi_tup (pv 2)) (pg_name (i := 5) sc__law_right.nd rfl (Or.inr rfl)) (pss_cons (ps_if (pt_cmpR op_ne (pe_cmpR (op_inT (u65 hr)) (pe_tup (pa_cons (pv 5) (pa_cons (pv 5) pa_nil))) (pv 4) (by rfl)) (pe_cmpR op_isN (pe_cal c_by_three (hr.mono (by first | decide | exact Nat.le_refl _)) (by rfl) (pa_cons (pv 3) (pa_cons (pv 5) (pa_cons (pv 5) pa_nil)))) pe_non (nomark _)) (nomark _)) (pss_one (ps_ret pe_bl)) pss_nil)
      (pss_one (ps_for PassesOwn.never rfl (pi_tup (pv 2)) (pg_name (i := 6) sc__law_right.nd rfl (Or.inr rfl)) (pss_cons (ps_set (i := 7) sc__law_right.nd rfl (Or.inl rfl) (pe_cal c_not_covered (hr.mono (by first | decide | exact Nat.le_refl _)) (by rfl) (pa_cons (pv 3) (pa_cons (pv 5) (pa_cons (pv 6) pa_nil)))))
      (pss_cons (ps_if (pt_cmpR op_ne (pe_cmpR op_isN (pv 7) pe_non (nomark _)) (pe_cmpR (op_inT (u65 hr)) (pe_tup (pa_cons (pv 5) (pa_cons (pv 6) pa_nil))) (pv 4) (by rfl)) (nomark _)) (pss_one (ps_ret pe_bl)) pss_nil)
      (pss_cons (ps_set (i := 8) sc__law_right.nd rfl (Or.inl rfl) (pe_cal c_by_three (hr.mono (by first | decide | exact Nat.le_refl _)) (by rfl) (pa_cons (pv 3) (pa_cons (pv 5) (pa_cons (pv 6) pa_nil)))))
      (pss_cons (ps_if (PW.pt (pw_and (pt_cmpR (op_inT (u65 hr)) (pe_tup (pa_cons (pv 5) (pa_cons (pv 5) pa_nil))) (pv 4) (by rfl)) (pw_and1 (pt_cmpR op_ne (pe_cmpR op_isN (pv 7) pe_non (nomark _)) (pe_cmpR op_isN (pv 8) pe_non (nomark _)) (nomark _))))) (pss_one (ps_ret pe_bl)) pss_nil)
      (pss_cons (ps_set (i := 9) sc__law_right.nd rfl (Or.inl rfl) (pe_op op_catA (pe_ifExp (pt_val (pe_callB call_isi (by rfl) B.isinstance (by decide +kernel) (pa_cons (pv 7) (pa_cons (pe_bltn (v := .ty "tuple") (u := .type "tuple") (by rfl) B.tuple (by decide +kernel) rfl) pa_nil)))) (pv 7) (pe_tup pa_nil)) (pe_tup (pa_cons (pv 6) pa_nil))))
      (pss_cons (ps_if (pt_cmpR (op_neD (u64 hr)) (pe_lc (own := [("_law_far_so", 11)]) (g := (gName 11)) (tt := (tTest (tOp (rIn K true) (tVar 11) (tVar 2)))) (te := (tVar 11)) rfl sc__law_right.nd (pi_tup (pv 9)) (blkOk_by (own := [("_law_far_so", 11)]) (N := N__law_right) (sc := defScope (top 60)) (by decide +kernel)) (fun _ _ _ _ _ => by exact (pg_name (i := 11) sc__law_right.nd rfl (Or.inl rfl))) (fun _ _ _ _ _ => by exact (pts_one (pt_cmpR op_notIn_seq (pv 11) (pv 2) (by rfl)))) (fun _ _ _ _ _ => by exact (pv 11))) (pe_lst pa_nil) (nomark _)) (pss_one (ps_ret pe_bl)) pss_nil)
      (pss_cons (ps_if (PW.pt (pw_and (pt_cmpR op_notN (pv 7) pe_non (nomark _)) (pw_and1 (pt_val (pe_cal c__law_equal (hr.mono (by first | decide | exact Nat.le_refl _)) (by rfl) (pa_cons (pv 1) (pa_cons (pe_op op_catA (pe_tup (pa_cons (pv 5) pa_nil)) (pv 9)) (pa_cons (pv 9) pa_nil)))))))) (pss_one (ps_ret pe_bl)) pss_nil)
      (pss_cons (ps_setLc (i := 8) (own := [("_law_far_so", 11)]) (g := (gName 11)) (tt := (tTest (tOp (rInT K) (tTup (tCons (tVar 6) (tCons (tVar 11) tNil))) (tVar 4)))) (te := (tVar 11)) rfl sc__law_right.nd rfl rfl (sw_true rfl rfl rfl (by decide +kernel)) (pi_tup (pv 2)) (blkOk_by (own := [("_law_far_so", 11)]) (N := N__law_right) (sc := defScope (top 60)) (by decide +kernel)) (fun _ _ _ _ _ => by exact (pg_name (i := 11) sc__law_right.nd rfl (Or.inl rfl))) (fun _ _ _ _ _ => by exact (pts_one (pt_cmpR (op_inT (u65 hr)) (pe_tup (pa_cons (pv 6) (pa_cons (pv 11) pa_nil))) (pv 4) (by rfl)))) (fun _ _ _ _ _ => by exact (pv 11)))
      (pss_cons (ps_setLc (i := 10) (own := [("_law_far_so", 11)]) (g := (gName 11)) (tt := (tTest (tOp (rNinT K) (tTup (tCons (tVar 5) (tCons (tVar 11) tNil))) (tVar 4)))) (te := (tVar 11)) rfl sc__law_right.nd rfl rfl (sw_true rfl rfl rfl (by decide +kernel)) (pi_list (pv 8)) (blkOk_by (own := [("_law_far_so", 11)]) (N := N__law_right) (sc := defScope (top 60)) (by decide +kernel)) (fun _ _ _ _ _ => by exact (pg_name (i := 11) sc__law_right.nd rfl (Or.inl rfl))) (fun _ _ _ _ _ => by exact (pts_one (pt_cmpR (op_ninT (u65 hr)) (pe_tup (pa_cons (pv 5) (pa_cons (pv 11) pa_nil))) (pv 4) (by rfl)))) (fun _ _ _ _ _ => by exact (pv 11)))
      (pss_cons (ps_if (PW.pt (pw_and (pt_cmpR op_isN (pv 7) pe_non (nomark _)) (pw_and1 (pt_cmpR (op_neD (u64 hr)) (pv 10) (pe_lst pa_nil) (nomark _))))) (pss_one (ps_ret pe_bl)) pss_nil)
      (pss_cons (ps_set (i := 9) sc__law_right.nd rfl (Or.inl rfl) (pe_op op_catA (pe_cal c__law_log (hr.mono (by first | decide | exact Nat.le_refl _)) (by rfl) (pa_cons (pv 0) (pa_cons (pv 2) (pa_cons pe_int (pa_cons pe_bl pa_nil))))) (pe_tup (pa_cons (pv 6) pa_nil))))
      (pss_one (ps_if (PW.pt (pw_and (pt_cmpR op_isN (pv 7) pe_non (nomark _)) (pw_and1 (pt_not (pt_val (pe_cal c__law_equal (hr.mono (by first | decide | exact Nat.le_refl _)) (by rfl) (pa_cons (pv 1) (pa_cons (pe_op op_catA (pe_tup (pa_cons (pv 5) pa_nil)) (pv 9)) (pa_cons (pv 9) pa_nil))))))))) (pss_one (ps_ret pe_bl)) pss_nil)))))))))))))))))
      (pss_one (ps_ret pe_bl))))))
abbrev N_law : List Str := ["_law_script", "_law_cells_here", "_law_k", "_law_box_here", "_law_turn"]
theorem sc_law : FnScope N_law ["_law_script"] (defScope (top 61)) := ⟨rfl, rfl, rfl, by decide +kernel, rfl, by decide +kernel, by decide +kernel⟩
abbrev t_law (K : PySem.W.Frag) (sp_l_box sp_l_cells sp_l_by_hand sp_l_right : Sp) : TS := (tSeq (tIfS (tNot (tB (tCall sp_l_by_hand [] E0 tNil))) (tRet (tC (.bl false))) tNext)
    (tSeq (tAsg (tCall sp_l_cells [] E0 (tCons (tVar 0) (tCons (tC (.int 3)) tNil))) (gName 1))
    (tSeq (tFor (iRng1 (tCons (tCB (cLen K) (tCons (tVar 1) tNil)) tNil)) (gName 2) (tSeq (tAsg (tCall sp_l_box [] E0 (tCons (tVar 1) (tCons (tVar 2) tNil))) (gName 3))
    (tIfS (tNot (tB (tCB (rAll K) (tCons (tLc (iRng1 (tCons (tC (.int 4)) tNil)) (gName 4) tYes (tCall sp_l_right [] E0 (tCons (tVar 3) tNil)) [4]) tNil)))) (tRet (tC (.bl false))) tNext)))
    (tRet (tC (.bl true))))))
theorem der_law {f : Addr} {cdv : Value} {A : Around} {outer : List PySem.Env} {s : Shared} {H : Hp} {E : XK} (B : Bi mg)  {sp_l_box sp_l_cells sp_l_by_hand sp_l_right : Sp} (c__law_box : Cal P w K mg base 1 "_law_box" ["_law_script", "_law_k"] sp_l_box) (c__law_cells : Cal P w K mg base 1 "_law_cells" ["_law_script", "_law_most_so"] sp_l_cells) (c__law_by_hand : Cal P w K mg base 8 "_law_by_hand" [] sp_l_by_hand) (c__law_right : Cal P w K mg base 9 "_law_right" ["_law_box_here"] sp_l_right) (hr : Room 9 (A.deeper (envOfC "law" (defScope (top 61)) s.heap.objs.size f cdv))) :
    PSs (cxOf CX0 P w K mg base N_law "law" (defScope (top 61)) f cdv A outer s H E).nox (defBody (top 61)) (t_law K sp_l_box sp_l_cells sp_l_by_hand sp_l_right) :=
  (pss_cons (ps_if (pt_not (pt_val (pe_cal0 c__law_by_hand (hr.mono (by first | decide | exact Nat.le_refl _)) (by rfl)))) (pss_one (ps_ret pe_bl)) pss_nil)
      (pss_cons (ps_set (i := 1) sc_law.nd rfl (Or.inl rfl) (pe_cal c__law_cells (hr.mono (by first | decide | exact Nat.le_refl _)) (by rfl) (pa_cons (pv 0) (pa_cons pe_int pa_nil))))
      (pss_cons (ps_for PassesOwn.never rfl (pi_range1 (by rfl) B.range (pa_cons (pe_callB call_len_seq (by rfl) B.len PySem.boot_len (pa_cons (pv 1) pa_nil)) pa_nil)) (pg_name (i := 2) sc_law.nd rfl (Or.inl rfl)) (pss_cons (ps_set (i := 3) sc_law.nd rfl (Or.inr rfl) (pe_cal c__law_box (hr.mono (by first | decide | exact Nat.le_refl _)) (by rfl) (pa_cons (pv 1) (pa_cons (pv 2) pa_nil))))
      (pss_one (ps_if (pt_not (pt_val (pe_callB (cr_all rfl) (by rfl) B.all (by decide +kernel) (pa_cons (pe_lc (own := [("_law_turn", 4)]) (g := (gName 4)) (tt := tYes) (te := (tCall sp_l_right [] E0 (tCons (tVar 3) tNil))) rfl sc_law.nd (pi_range1 (by rfl) B.range (pa_cons pe_int pa_nil)) (blkOk_by (own := [("_law_turn", 4)]) (N := N_law) (sc := defScope (top 61)) (by decide +kernel)) (fun _ _ _ _ _ => by exact (pg_name (i := 4) sc_law.nd rfl (Or.inl rfl))) (fun _ _ _ _ _ => by exact pts_nil) (fun _ _ _ _ _ => by exact (pe_cal c__law_right (hr.mono (by first | decide | exact Nat.le_refl _)) (by rfl) (pa_cons (pv 3) pa_nil)))) pa_nil)))) (pss_one (ps_ret pe_bl)) pss_nil))))
      (pss_one (ps_ret pe_bl)))))
end
end Ll
end

section
set_option Elab.async false
set_option linter.all false
/-! Ll, the plain law: refinement of marks, covering, three words decide, the search backwards. -/
namespace Ll

/-! ### the first place that agrees -/
section
variable {n : Nat} {e : Nat → Nat → Bool}
def fst1 (n : Nat) (e : Nat → Nat → Bool) (i : Nat) : Nat := (List.range n).findIdx fun j => e j i
structure Eqv (n : Nat) (e : Nat → Nat → Bool) : Prop where
  r : ∀ i, i < n → e i i = true
  s : ∀ i j, i < n → j < n → e i j = true → e j i = true
  t : ∀ i j k, i < n → j < n → k < n → e i j = true → e j k = true → e i k = true
theorem fst1_spec (h : Eqv n e) {i : Nat} (hi : i < n) : fst1 n e i ≤ i ∧ e (fst1 n e i) i = true ∧ ∀ j, j < fst1 n e i → e j i = false := by
  unfold fst1
  have hl : (List.range n).findIdx (fun j => e j i) < (List.range n).length := by
    rw [List.findIdx_lt_length]
    exact ⟨i, List.mem_range.mpr hi, h.r i hi⟩
  have h1 := List.findIdx_getElem (p := fun j => e j i) (w := hl)
  rw [List.getElem_range] at h1
  have h2 : ∀ j, j < (List.range n).findIdx (fun j => e j i) → e j i = false := fun j hj => by
    have := List.not_of_lt_findIdx (p := fun j => e j i) hj
    rw [List.getElem_range] at this
    simpa using this
  refine ⟨?_, h1, h2⟩
  apply Nat.le_of_not_lt
  intro hc
  have := h2 i hc
  rw [h.r i hi] at this
  cases this
theorem fst1_eq (h : Eqv n e) {i j : Nat} (hi : i < n) (hj : j < n) : fst1 n e i = fst1 n e j ↔ e i j = true := by
  obtain ⟨a1, a2, a3⟩ := fst1_spec h hi
  obtain ⟨b1, b2, b3⟩ := fst1_spec h hj
  constructor
  · intro q
    rw [← q] at b2
    exact h.t _ _ _ hi (by omega) hj (h.s _ _ (by omega) hi a2) b2
  · intro q
    have c1 : e (fst1 n e i) j = true := h.t _ _ _ (by omega) hi hj a2 q
    have c2 : e (fst1 n e j) i = true := h.t _ _ _ (by omega) hj hi b2 (h.s _ _ hi hj q)
    apply Nat.le_antisymm
    · apply Nat.le_of_not_lt
      intro z
      have := a3 _ z
      rw [c2] at this; cases this
    · apply Nat.le_of_not_lt
      intro z
      have := b3 _ z
      rw [c1] at this; cases this
end

/-! ### marks -/
def agree (rows : List (List Nat)) (μ : List Nat) (j i : Nat) : Bool := decide (μ.getD j 0 = μ.getD i 0) && rows.all fun r => decide (μ.getD (r.getD j 0) 0 = μ.getD (r.getD i 0) 0)
def stp (n : Nat) (rows : List (List Nat)) (μ : List Nat) : List Nat := (List.range n).map (fst1 n (agree rows μ))
def mk0 (n : Nat) (sh : List Int) : List Nat := (List.range n).map (fst1 n fun j i => decide (sh.getD j 0 = sh.getD i 0))
def itr (n : Nat) (rows : List (List Nat)) : Nat → List Nat → List Nat
  | 0, μ => μ
  | k + 1, μ => itr n rows k (stp n rows μ)
theorem agree_iff {rows : List (List Nat)} {μ : List Nat} {j i : Nat} : agree rows μ j i = true ↔ μ.getD j 0 = μ.getD i 0 ∧ ∀ r ∈ rows, μ.getD (r.getD j 0) 0 = μ.getD (r.getD i 0) 0 := by
  simp [agree]
theorem agree_eqv (n : Nat) (rows : List (List Nat)) (μ : List Nat) : Eqv n (agree rows μ) :=
  ⟨fun i _ => agree_iff.mpr ⟨rfl, fun _ _ => rfl⟩, fun i j _ _ h => by rw [agree_iff] at h ⊢; exact ⟨h.1.symm, fun r hr => (h.2 r hr).symm⟩,
    fun i j k _ _ _ h1 h2 => by rw [agree_iff] at h1 h2 ⊢; exact ⟨h1.1.trans h2.1, fun r hr => (h1.2 r hr).trans (h2.2 r hr)⟩⟩
theorem mk0_eqv (n : Nat) (sh : List Int) : Eqv n fun j i => decide (sh.getD j 0 = sh.getD i 0) :=
  ⟨fun i _ => by simp, fun i j _ _ h => by simp at h ⊢; exact h.symm, fun i j k _ _ _ h1 h2 => by simp at h1 h2 ⊢; exact h1.trans h2⟩
theorem agree_same {rows rows' : List (List Nat)} (h : ∀ r, r ∈ rows ↔ r ∈ rows') (μ : List Nat) : agree rows μ = agree rows' μ := by
  funext j i
  rw [Bool.eq_iff_iff, agree_iff, agree_iff]
  exact ⟨fun z => ⟨z.1, fun r hr => z.2 r ((h r).mpr hr)⟩, fun z => ⟨z.1, fun r hr => z.2 r ((h r).mp hr)⟩⟩
theorem stp_same {rows rows' : List (List Nat)} (h : ∀ r, r ∈ rows ↔ r ∈ rows') (n : Nat) (μ : List Nat) : stp n rows μ = stp n rows' μ := by
  unfold stp; rw [agree_same h]
theorem itr_same {rows rows' : List (List Nat)} (h : ∀ r, r ∈ rows ↔ r ∈ rows') (n : Nat) : ∀ k μ, itr n rows k μ = itr n rows' k μ
  | 0, _ => rfl
  | k + 1, μ => by simp only [itr]; rw [stp_same h, itr_same h n k]
theorem itr_add (n : Nat) (rows : List (List Nat)) : ∀ a b μ, itr n rows (a + b) μ = itr n rows b (itr n rows a μ)
  | 0, b, μ => by rw [Nat.zero_add]; rfl
  | a + 1, b, μ => by rw [show a + 1 + b = (a + b) + 1 by omega]; simp only [itr]; exact itr_add n rows a b _
theorem itr_fix {n : Nat} {rows : List (List Nat)} {μ : List Nat} (h : stp n rows μ = μ) : ∀ k, itr n rows k μ = μ
  | 0 => rfl
  | k + 1 => by simp only [itr]; rw [h]; exact itr_fix h k
/-- each place's mark is the first place of its kind -/
structure Canon (n : Nat) (μ : List Nat) : Prop where
  len : μ.length = n
  le : ∀ i, i < n → μ.getD i 0 ≤ i
  idem : ∀ i, i < n → μ.getD (μ.getD i 0) 0 = μ.getD i 0
theorem getD_map_range {n i : Nat} {f : Nat → Nat} (hi : i < n) : ((List.range n).map f).getD i 0 = f i := by
  rw [List.getD_eq_getElem?_getD, List.getElem?_map, List.getElem?_range hi]; rfl
theorem canon_fst {n : Nat} {e : Nat → Nat → Bool} (h : Eqv n e) : Canon n ((List.range n).map (fst1 n e)) := by
  refine ⟨by simp, fun i hi => ?_, fun i hi => ?_⟩
  · rw [getD_map_range hi]; exact (fst1_spec h hi).1
  · have h1 := fst1_spec h hi
    have hl : fst1 n e i < n := by omega
    rw [getD_map_range hi, getD_map_range hl]
    exact (fst1_eq h hl hi).mpr h1.2.1
theorem stp_canon {n : Nat} {rows : List (List Nat)} {μ : List Nat} : Canon n (stp n rows μ) := canon_fst (agree_eqv n rows μ)
theorem mk0_canon {n : Nat} {sh : List Int} : Canon n (mk0 n sh) := canon_fst (mk0_eqv n sh)
theorem itr_canon {n : Nat} {rows : List (List Nat)} : ∀ k {μ}, Canon n μ → Canon n (itr n rows k μ)
  | 0, _, h => h
  | k + 1, _, h => itr_canon k stp_canon
def tops (n : Nat) (μ : List Nat) : Nat := (List.range n).countP fun i => decide (μ.getD i 0 = i)
theorem tops_le {n : Nat} {μ : List Nat} : tops n μ ≤ n := by
  have := List.countP_le_length (p := fun i => decide (μ.getD i 0 = i)) (l := List.range n)
  rw [List.length_range] at this
  exact this
theorem tops_pos {n : Nat} {μ : List Nat} (h : Canon n μ) (hn : 0 < n) : 0 < tops n μ := by
  unfold tops
  rw [List.countP_pos_iff]
  refine ⟨0, List.mem_range.mpr hn, ?_⟩
  have := h.le 0 hn
  simpa using this
theorem stp_eq {n : Nat} {rows : List (List Nat)} {μ : List Nat} {i j : Nat} (hi : i < n) (hj : j < n) : (stp n rows μ).getD i 0 = (stp n rows μ).getD j 0 ↔ agree rows μ i j = true := by
  unfold stp
  rw [getD_map_range hi, getD_map_range hj, fst1_eq (agree_eqv n rows μ) hi hj]
theorem tops_sub {n : Nat} {rows : List (List Nat)} {μ : List Nat} (h : Canon n μ) {i : Nat} (hi : i < n) (ht : μ.getD i 0 = i) : (stp n rows μ).getD i 0 = i := by
  unfold stp
  rw [getD_map_range hi]
  obtain ⟨a1, a2, a3⟩ := fst1_spec (agree_eqv n rows μ) hi
  have := (agree_iff.mp a2).1
  have h2 := h.le _ (show fst1 n (agree rows μ) i < n by omega)
  omega
theorem countP_mono_lt {α : Type} {p q : α → Bool} : ∀ {l : List α}, (∀ x ∈ l, p x = true → q x = true) → l.countP p ≤ l.countP q ∧ ((∃ x ∈ l, p x = false ∧ q x = true) → l.countP p < l.countP q)
  | [], _ => ⟨by simp, fun ⟨x, h, _⟩ => by simp at h⟩
  | a :: l, h => by
    have ih := countP_mono_lt (l := l) fun x hx => h x (List.mem_cons_of_mem _ hx)
    have ha := h a List.mem_cons_self
    simp only [List.countP_cons]
    refine ⟨?_, ?_⟩
    · cases hp : p a <;> cases hq : q a <;> simp_all <;> omega
    · rintro ⟨x, hx, h1, h2⟩
      rcases List.mem_cons.mp hx with rfl | hx
      · simp [h1, h2]; have := ih.1; omega
      · have := ih.2 ⟨x, hx, h1, h2⟩
        cases hp : p a <;> cases hq : q a <;> simp_all <;> omega
theorem list_ext_getD {n : Nat} {a b : List Nat} (ha : a.length = n) (hb : b.length = n) (h : ∀ i, i < n → a.getD i 0 = b.getD i 0) : a = b := by
  apply List.ext_getElem (by omega)
  intro i h1 h2
  have := h i (by omega)
  rw [List.getD_eq_getElem?_getD, List.getD_eq_getElem?_getD, List.getElem?_eq_getElem h1, List.getElem?_eq_getElem h2] at this
  simpa using this
theorem tops_lt {n : Nat} {rows : List (List Nat)} {μ : List Nat} (h : Canon n μ) (hne : stp n rows μ ≠ μ) : tops n μ < tops n (stp n rows μ) := by
  unfold tops
  have base := countP_mono_lt (p := fun i => decide (μ.getD i 0 = i)) (q := fun i => decide ((stp n rows μ).getD i 0 = i)) (l := List.range n) fun x hx hp => by
    simp only [decide_eq_true_eq] at hp ⊢
    exact tops_sub h (List.mem_range.mp hx) hp
  apply base.2
  apply Classical.byContradiction
  intro hc
  apply hne
  have all : ∀ i, i < n → (stp n rows μ).getD i 0 = i → μ.getD i 0 = i := fun i hi ht => Classical.byContradiction fun z => hc ⟨i, List.mem_range.mpr hi, by simpa using z, by simpa using ht⟩
  have cs : Canon n (stp n rows μ) := stp_canon
  refine list_ext_getD cs.len h.len fun i hi => ?_
  have l1 := cs.le i hi
  have hl : (stp n rows μ).getD i 0 < n := by omega
  have ht := all _ hl (cs.idem i hi)
  have ag := (agree_iff.mp ((stp_eq hl hi).mp (cs.idem i hi))).1
  omega
theorem itr_grow {n : Nat} {rows : List (List Nat)} : ∀ k {μ : List Nat}, Canon n μ → stp n rows (itr n rows k μ) = itr n rows k μ ∨ tops n μ + k ≤ tops n (itr n rows k μ)
  | 0, μ, _ => .inr (Nat.le_refl _)
  | k + 1, μ, h => by
    by_cases q : stp n rows μ = μ
    · refine .inl ?_
      rw [itr_fix q (k + 1)]; exact q
    · have := tops_lt h q
      rcases itr_grow k (stp_canon (n := n) (rows := rows) (μ := μ)) with z | z
      · exact .inl z
      · refine .inr ?_
        show _ ≤ tops n (itr n rows k (stp n rows μ))
        omega
theorem itr_stable {n : Nat} {rows : List (List Nat)} {μ : List Nat} (h : Canon n μ) : stp n rows (itr n rows n μ) = itr n rows n μ := by
  rcases itr_grow (rows := rows) n h with z | z
  · exact z
  · by_cases hn : 0 < n
    · have := tops_pos h hn
      have := tops_le (n := n) (μ := itr n rows n μ)
      omega
    · have e : n = 0 := by omega
      subst e
      have l1 := (stp_canon (n := 0) (rows := rows) (μ := itr 0 rows 0 μ)).len
      have l2 := h.len
      rw [List.length_eq_zero_iff] at l1 l2
      show stp 0 rows μ = μ
      rw [l2]; rfl
theorem itr_any {n k : Nat} {rows : List (List Nat)} {μ : List Nat} (h : Canon n μ) (hk : stp n rows (itr n rows k μ) = itr n rows k μ) : itr n rows n μ = itr n rows k μ := by
  rcases Nat.le_total k n with z | z
  · obtain ⟨d, rfl⟩ : ∃ d, n = k + d := ⟨n - k, by omega⟩
    rw [itr_add (k + d) rows k d, itr_fix hk]
  · obtain ⟨d, rfl⟩ : ∃ d, k = n + d := ⟨k - n, by omega⟩
    rw [itr_add n rows n d, itr_fix (itr_stable h)]
theorem mark_cong {n : Nat} {rows : List (List Nat)} {μ : List Nat} (hf : stp n rows μ = μ) {s t : Nat} (hs : s < n) (ht : t < n) (h : μ.getD s 0 = μ.getD t 0) : ∀ r ∈ rows, μ.getD (r.getD s 0) 0 = μ.getD (r.getD t 0) 0 := by
  have := (stp_eq (rows := rows) (μ := μ) hs ht).mp (by rw [hf]; exact h)
  exact (agree_iff.mp this).2

/-! ### a machine, plainly -/
structure Pm (α : Type) where
  n : Nat
  nm : List α
  mv : α → Nat → Nat
  mu : Nat → Nat
  cl : ∀ a ∈ nm, ∀ s, s < n → mv a s < n
  cg : ∀ a ∈ nm, ∀ s t, s < n → t < n → mu s = mu t → mu (mv a s) = mu (mv a t)
section
variable {α : Type} (M : Pm α)
def Pm.run (M : Pm α) (w : List α) (s : Nat) : Nat := w.foldl (fun s a => M.mv a s) s
/-- the log over M's names -/
def Pm.Ov (M : Pm α) (w : List α) : Prop := ∀ x ∈ w, x ∈ M.nm
theorem Pm.run_app {M : Pm α} {v w : List α} {s : Nat} : M.run (v ++ w) s = M.run w (M.run v s) := by unfold Pm.run; rw [List.foldl_append]
theorem Pm.run_cons {M : Pm α} {a : α} {w : List α} {s : Nat} : M.run (a :: w) s = M.run w (M.mv a s) := rfl
theorem Pm.run_lt {M : Pm α} : ∀ {w : List α} {s : Nat}, M.Ov w → s < M.n → M.run w s < M.n
  | [], _, _, h => h
  | a :: w, s, hw, h => by
    rw [Pm.run_cons]
    exact Pm.run_lt (fun x hx => hw x (List.mem_cons_of_mem _ hx)) (M.cl a (hw a List.mem_cons_self) s h)
/-- w shows a difference -/
def Pm.Wit (M : Pm α) (a b : α) (w : List α) : Prop := ∃ s, s < M.n ∧ M.mu (M.mv b (M.run w (M.mv a s))) ≠ M.mu (M.mv b (M.run w s))
def Pm.Cov (M : Pm α) (a b : α) : Prop := ∀ w, M.Ov w → ¬M.Wit a b w
def Pm.Three (M : Pm α) (a b : α) : Prop := ¬M.Wit a b [] ∧ ∀ x ∈ M.nm, ¬M.Wit a b [x]
theorem Pm.not_wit {M : Pm α} {a b : α} {w : List α} (h : ¬M.Wit a b w) {s : Nat} (hs : s < M.n) : M.mu (M.mv b (M.run w (M.mv a s))) = M.mu (M.mv b (M.run w s)) :=
  Classical.byContradiction fun z => h ⟨s, hs, z⟩
theorem Pm.cov_three {M : Pm α} {a b : α} (h : M.Cov a b) : M.Three a b := ⟨h [] (fun _ z => nomatch z), fun x hx => h [x] fun y hy => by rw [List.mem_singleton.mp hy]; exact hx⟩
theorem rev_ind {β : Type} {p : List β → Prop} (h0 : p []) (h1 : ∀ w x, p w → p (w ++ [x])) (w : List β) : p w := by
  have : ∀ v : List β, p v.reverse := fun v => by
    induction v with
    | nil => exact h0
    | cons x v ih => rw [List.reverse_cons]; exact h1 _ _ ih
  have := this w.reverse
  rwa [List.reverse_reverse] at this
theorem Pm.step_cov {M : Pm α} {a b x : α} (ha : a ∈ M.nm) (hb : b ∈ M.nm) (hx : x ∈ M.nm) (h3 : ¬M.Wit a b [x]) {u v : Nat} (hu : u < M.n) (hv : v < M.n) (h : M.mu (M.mv a u) = M.mu (M.mv a v)) : M.mu (M.mv b (M.mv x u)) = M.mu (M.mv b (M.mv x v)) := by
  have e1 := Pm.not_wit h3 hu
  have e2 := Pm.not_wit h3 hv
  have e3 := M.cg b hb _ _ (M.cl x hx _ (M.cl a ha _ hu)) (M.cl x hx _ (M.cl a ha _ hv)) (M.cg x hx _ _ (M.cl a ha _ hu) (M.cl a ha _ hv) h)
  exact e1.symm.trans (e3.trans e2)
theorem Pm.three_self {M : Pm α} {a : α} (ha : a ∈ M.nm) (h : M.Three a a) : M.Cov a a := by
  intro w
  refine rev_ind (p := fun w => M.Ov w → ¬M.Wit a a w) (fun _ => h.1) (fun w x ih hw => ?_) w
  have hw1 : M.Ov w := fun y hy => hw y (List.mem_append_left _ hy)
  have hx : x ∈ M.nm := hw x (by simp)
  rintro ⟨s, hs, hne⟩
  rw [Pm.run_app, Pm.run_app] at hne
  exact hne (Pm.step_cov ha ha hx (h.2 x hx) (Pm.run_lt hw1 (M.cl a ha _ hs)) (Pm.run_lt hw1 hs) (Pm.not_wit (ih hw1) hs))
theorem Pm.three_steady {M : Pm α} {a b : α} (ha : a ∈ M.nm) (hb : b ∈ M.nm) (hst : M.Cov a a) (h : M.Three a b) : M.Cov a b := by
  intro w
  refine rev_ind (p := fun w => M.Ov w → ¬M.Wit a b w) (fun _ => h.1) (fun w x _ hw => ?_) w
  have hw1 : M.Ov w := fun y hy => hw y (List.mem_append_left _ hy)
  have hx : x ∈ M.nm := hw x (by simp)
  rintro ⟨s, hs, hne⟩
  rw [Pm.run_app, Pm.run_app] at hne
  exact hne (Pm.step_cov ha hb hx (h.2 x hx) (Pm.run_lt hw1 (M.cl a ha _ hs)) (Pm.run_lt hw1 hs) (Pm.not_wit (hst w hw1) hs))
theorem Pm.cov_trans {M : Pm α} {a b c : α} (ha : a ∈ M.nm) (hb : b ∈ M.nm) (hc : c ∈ M.nm) (h1 : M.Cov a b) (h2 : M.Cov b c) : M.Cov a c := by
  rintro w hw ⟨s, hs, hne⟩
  have hu : M.run w (M.mv a s) < M.n := Pm.run_lt hw (M.cl a ha _ hs)
  have hv : M.run w s < M.n := Pm.run_lt hw hs
  have n0 := h2 [] (fun _ z => nomatch z)
  have e1 := Pm.not_wit n0 hu
  have e2 := Pm.not_wit n0 hv
  have e3 := M.cg c hc _ _ (M.cl b hb _ hu) (M.cl b hb _ hv) (Pm.not_wit (h1 w hw) hs)
  exact hne (e1.symm.trans (e3.trans e2))

/-! ### the search backwards -/
abbrev Pr := Nat × Nat
def Pm.sc (M : Pm α) (x : α) (p : Pr) : Pr := (M.mv x p.1, M.mv x p.2)
def Pm.In (M : Pm α) (p : Pr) : Prop := p.1 < M.n ∧ p.2 < M.n
def Pm.Bad (M : Pm α) (b : α) (p : Pr) : Prop := M.mu (M.mv b p.1) ≠ M.mu (M.mv b p.2)
def Rk (M : Pm α) (bad : Pr → Prop) : Nat → Pr → Prop
  | 0, p => bad p
  | k + 1, p => Rk M bad k p ∨ ∃ x ∈ M.nm, Rk M bad k (M.sc x p)
/-- p is k steps away -/
def Ds (M : Pm α) (bad : Pr → Prop) (p : Pr) (k : Nat) : Prop := Rk M bad k p ∧ ∀ j, j < k → ¬Rk M bad j p
variable {M} {bad : Pr → Prop}
theorem Pm.sc_in {x : α} {p : Pr} (hx : x ∈ M.nm) (h : M.In p) : M.In (M.sc x p) := ⟨M.cl x hx _ h.1, M.cl x hx _ h.2⟩
theorem rk_mono {j k : Nat} {p : Pr} (h : j ≤ k) (r : Rk M bad j p) : Rk M bad k p := by
  induction k with
  | zero => have : j = 0 := by omega
            subst this; exact r
  | succ k ih =>
    by_cases q : j = k + 1
    · subst q; exact r
    · exact .inl (ih (by omega))
theorem ds_uniq {p : Pr} {j k : Nat} (h1 : Ds M bad p j) (h2 : Ds M bad p k) : j = k := by
  rcases Nat.lt_trichotomy j k with z | z | z
  · exact absurd h1.1 (h2.2 j z)
  · exact z
  · exact absurd h2.1 (h1.2 k z)
theorem rk_ds {p : Pr} : ∀ {k : Nat}, Rk M bad k p → ∃ j, j ≤ k ∧ Ds M bad p j
  | 0, h => ⟨0, Nat.le_refl _, h, fun _ z => absurd z (Nat.not_lt_zero _)⟩
  | k + 1, h => by
    by_cases q : Rk M bad k p
    · obtain ⟨j, hj, d⟩ := rk_ds q
      exact ⟨j, by omega, d⟩
    · exact ⟨k + 1, Nat.le_refl _, h, fun j hj r => q (rk_mono (by omega) r)⟩
theorem ds_step {p : Pr} {k : Nat} (h : Ds M bad p (k + 1)) : ∃ x ∈ M.nm, Ds M bad (M.sc x p) k := by
  rcases h.1 with z | ⟨x, hx, z⟩
  · exact absurd z (h.2 k (Nat.lt_succ_self _))
  · refine ⟨x, hx, z, fun j hj r => ?_⟩
    exact h.2 (j + 1) (by omega) (.inr ⟨x, hx, r⟩)
/-- once no pair is new, none ever is -/
theorem rk_stop {k : Nat} (h : ∀ p, M.In p → ¬Ds M bad p k) : ∀ j p, M.In p → Rk M bad j p → ∃ i, i < k ∧ Rk M bad i p := by
  have hk : ∀ p, M.In p → Rk M bad k p → ∃ i, i < k ∧ Rk M bad i p := fun p hp r => by
    apply Classical.byContradiction
    intro hc
    exact h p hp ⟨r, fun j hj rj => hc ⟨j, hj, rj⟩⟩
  intro j
  induction j with
  | zero => intro p hp r; exact hk p hp (rk_mono (Nat.zero_le _) r)
  | succ j ih =>
    intro p hp r
    rcases r with z | ⟨x, hx, z⟩
    · exact ih p hp z
    · obtain ⟨i, hi, ri⟩ := ih _ (Pm.sc_in hx hp) z
      exact hk p hp (rk_mono (by omega : i + 1 ≤ k) (.inr ⟨x, hx, ri⟩))
theorem rk_word {p : Pr} : ∀ {k : Nat}, Rk M bad k p → ∃ w, M.Ov w ∧ w.length ≤ k ∧ bad (M.run w p.1, M.run w p.2)
  | 0, h => ⟨[], (fun _ z => nomatch z), Nat.le_refl _, h⟩
  | k + 1, h => by
    rcases h with z | ⟨x, hx, z⟩
    · obtain ⟨w, h1, h2, h3⟩ := rk_word z
      exact ⟨w, h1, by omega, h3⟩
    · obtain ⟨w, h1, h2, h3⟩ := rk_word (p := M.sc x p) z
      refine ⟨x :: w, fun y hy => ?_, by simp; omega, h3⟩
      rcases List.mem_cons.mp hy with rfl | hy
      · exact hx
      · exact h1 y hy
theorem word_rk : ∀ {w : List α} {p : Pr}, M.Ov w → bad (M.run w p.1, M.run w p.2) → Rk M bad w.length p
  | [], p, _, h => h
  | x :: w, p, hw, h => .inr ⟨x, hw x List.mem_cons_self, word_rk (w := w) (p := M.sc x p) (fun y hy => hw y (List.mem_cons_of_mem _ hy)) h⟩
/-- what the search answers -/
def NC (M : Pm α) (a b : α) : Option (List α) → Prop
  | none => M.Cov a b
  | some w => M.Ov w ∧ M.Wit a b w ∧ (∀ v, M.Ov v → M.Wit a b v → w.length ≤ v.length) ∧ w.length ≤ 40
theorem wit_iff {a b : α} {w : List α} : M.Wit a b w ↔ ∃ s, s < M.n ∧ M.Bad b (M.run w (M.mv a s), M.run w s) := Iff.rfl
end
end Ll
end

section
set_option Elab.async false
set_option linter.all false
set_option maxRecDepth 100000
set_option maxHeartbeats 1000000
/-! Ll: bodies with loops and with an object that is still being built. -/
namespace Ll
open PySem PySem.Spec PyProof.Rows L2

/-- what is told of objects that are being built: entry heap, known part, heap -/
structure Op (md : Md) where
  q : Hp → Hp → Hp → Prop
  st : ∀ H0 G H G2 H2, q H0 G H → Gr md.mu G H G2 H2 → q H0 G2 H2
def o0 {md : Md} : Op md := ⟨fun _ _ _ => True, fun _ _ _ _ _ _ _ => trivial⟩
/-- what is told of one such object -/
structure Ob where
  ok : Hp → HO → Prop
  mono : ∀ G G' o, Le G G' → ok G o → ok G' o
def oOb {md : Md} (p : Addr) (k : Ob) : Op md :=
  ⟨fun H0 G H => ¬md.kp p ∧ H0 p = none ∧ G p = none ∧ ∃ o, H p = some o ∧ k.ok G o, fun H0 G H G2 H2 ⟨h1, h2, h3, o, h4, h5⟩ g =>
    ⟨h1, h2, g.nw p (by rw [h4]; exact fun z => nomatch z) h3, o, g.hh p o (fun z => h1 (md.muk p z)) h4, k.mono _ _ _ g.le h5⟩⟩
def bL (ks : List Kn) : Ob := ⟨fun G o => ∃ xs, o = .lst xs ∧ AllK G ks xs, fun _ _ _ l ⟨xs, e, a⟩ => ⟨xs, e, AllK.mono l a⟩⟩
structure St (md : Md) (n : Nat) (Γ : Env) (O : Op md) (G0 H0 Gb G H : Hp) (σ : L2.St) : Prop where
  gr : Gr md.mu G0 H0 G H
  sb : Same Gb G
  c : Ctx md n G H σ Γ
  o : O.q H0 G H
section
variable {md : Md} {m n k : Nat} {Γ Γ' : Env} {O : Op md} {G0 H0 Gb G H G2 H2 : Hp} {σ : L2.St}
theorem St.next (s : St md m Γ O G0 H0 Gb G H σ) (g : Gr md.mu G H G2 H2) (j : md.J n H2) : St md n Γ O G0 H0 Gb G2 H2 σ :=
  ⟨s.gr.trans s.c.dm g, s.sb.trans g.gg, s.c.next g j, O.st _ _ _ _ _ s.o g⟩
theorem St.rebase (s : St md m Γ O G0 H0 Gb G H σ) {Gc : Hp} (h : Same Gc Gb) : St md m Γ O G0 H0 Gc G H σ := ⟨s.gr, h.trans s.sb, s.c, s.o⟩
theorem St.env (s : St md m Γ O G0 H0 Gb G H σ) {σ' : L2.St} (h : EnvOk G σ' Γ') : St md m Γ' O G0 H0 Gb G H σ' := ⟨s.gr, s.sb, ⟨s.c.gh, s.c.j, s.c.sep, h⟩, s.o⟩
theorem St.set (s : St md m Γ O G0 H0 Gb G H σ) {i : Nat} {v : V} {k : Kn} (hi : i < Γ.length) (h : k.p G v) : St md m (Γ.set i (some k)) O G0 H0 Gb G H (σ.set i (some v)) := s.env (s.c.env.set i hi h)
/-- an object of one's own, new -/
theorem St.open' (s : St md m Γ o0 G0 H0 Gb G H σ) {p : Addr} {o : HO} {k : Ob} (hp : H p = none) (h : k.ok G o) : St md m Γ (oOb p k) G0 H0 Gb G (upd H p o) σ := by
  have gp : G p = none := s.c.gh.free hp
  have h0 : H0 p = none := by
    cases e : H0 p with
    | none => rfl
    | some u =>
      by_cases hm : md.mu p
      · exact absurd hp (s.c.dm p hm)
      · rw [s.gr.hh p u hm e] at hp; cases hp
  have nk : ¬md.kp p := fun z => s.c.dk p z hp
  refine ⟨⟨s.gr.gg, fun a u e => ?_, fun a u hn e => ?_, s.gr.nw⟩, s.sb, ⟨fun a u e => ?_, md.st _ _ _ s.c.j fun a u hk e => ?_, s.c.sep, s.c.env⟩, nk, h0, gp, o, upd_same, h⟩
  · rw [upd_ne (ne_of_none e gp)]; exact s.c.gh a u e
  · have := s.gr.hh a u hn e
    rw [upd_ne (ne_of_none this hp)]; exact this
  · rw [upd_ne (ne_of_none e gp)]; exact s.c.gh a u e
  · rw [upd_ne (ne_of_none e hp)]; exact e
/-- .. written -/
theorem St.write {p : Addr} {k k' : Ob} (s : St md m Γ (oOb p k) G0 H0 Gb G H σ) {o' : HO} (h : k'.ok G o') : St md m Γ (oOb p k') G0 H0 Gb G (upd H p o') σ := by
  obtain ⟨nk, h0, gp, o, hp, _⟩ := s.o
  refine ⟨⟨s.gr.gg, fun a u e => ?_, fun a u hn e => ?_, s.gr.nw⟩, s.sb, ⟨fun a u e => ?_, md.st _ _ _ s.c.j fun a u hk e => ?_, s.c.sep, s.c.env⟩, nk, h0, gp, o', upd_same, h⟩
  · rw [upd_ne (ne_of_none e gp)]; exact s.c.gh a u e
  · rw [upd_ne (ne_of_none e h0)]; exact s.gr.hh a u hn e
  · rw [upd_ne (ne_of_none e gp)]; exact s.c.gh a u e
  · have : a ≠ p := fun q => nk (q ▸ hk)
    rw [upd_ne this]; exact e
/-- .. done: it is known from now on -/
theorem St.close {p : Addr} {k : Ob} (s : St md m Γ (oOb p k) G0 H0 Gb G H σ) : ∃ o, H p = some o ∧ k.ok G o ∧ St md m Γ o0 G0 H0 Gb (upd G p o) H σ := by
  obtain ⟨nk, h0, gp, o, hp, ho⟩ := s.o
  have sg : Same G (upd G p o) := same_new gp
  have gh : Same (upd G p o) H := fun a u e => by
    by_cases q : a = p
    · subst q; rw [upd_same] at e; rw [hp]; exact e
    · rw [upd_ne q] at e; exact s.c.gh a u e
  refine ⟨o, hp, ho, ⟨s.gr.gg.trans sg, gh, s.gr.hh, fun a hne e => ?_⟩, s.sb.trans sg, ⟨gh, s.c.j, fun a ha => ?_, s.c.env.mono (le_same sg)⟩, trivial⟩
  · have : a ≠ p := fun q => hne (q ▸ h0)
    rw [upd_ne this]; exact s.gr.nw a hne e
  · have : a ≠ p := fun q => nk (md.muk p (q ▸ ha))
    rw [upd_ne this]; exact s.c.sep a ha
/-- looked at from outside: the known part without it -/
theorem St.shut {p : Addr} {k : Ob} (s : St md m Γ (oOb p k) G0 H0 Gb G H σ) {o : HO} (hp : H p = some o) {G3 H3 : Hp} (g : Gr md.mu (upd G p o) H G3 H3) (j : md.J n H3) : St md n Γ (oOb p k) G0 H0 Gb G H3 σ := by
  obtain ⟨nk, h0, gp, o', hp', ho⟩ := s.o
  rw [hp] at hp'
  cases hp'
  have sg : Same G (upd G p o) := same_new gp
  have gh : Same G H3 := (sg.trans g.gg).trans g.gh
  have hh : ∀ a u, ¬md.mu a → H0 a = some u → H3 a = some u := fun a u hn e => g.hh a u hn (s.gr.hh a u hn e)
  exact ⟨⟨s.gr.gg, gh, hh, s.gr.nw⟩, s.sb, ⟨gh, j, s.c.sep, s.c.env⟩, nk, h0, gp, o, g.hh p o (fun z => nk (md.muk p z)) hp, ho⟩
end

abbrev Asn (md : Md) := Nat → Env → Op md → Prop
structure Es (md : Md) where
  nx : Asn md := fun _ _ _ => False
  rt : Nat → Kn → Prop := fun _ _ => False
  bk : Asn md := fun _ _ _ => False
  ct : Asn md := fun _ _ _ => False
structure Gd (md : Md) (E : Es md) (G0 H0 Gb : Hp) (D : Ends) : Prop where
  nx : ∀ n Γ O G H σ, E.nx n Γ O → St md n Γ O G0 H0 Gb G H σ → D.nx σ H
  rt : ∀ n P v G H, E.rt n P → Gr md.mu G0 H0 G H → md.J n H → P.p G v → D.rt v H
  bk : ∀ n Γ O G H σ, E.bk n Γ O → St md n Γ O G0 H0 Gb G H σ → D.bk σ H
  ct : ∀ n Γ O G H σ, E.ct n Γ O → St md n Γ O G0 H0 Gb G H σ → D.ct σ H
def Tr (md : Md) (m : Nat) (Γ : Env) (O : Op md) (t : TS) (E : Es md) : Prop := ∀ G0 H0 Gb G H σ, St md m Γ O G0 H0 Gb G H σ → ∀ D : Ends, Gd md E G0 H0 Gb D → t D σ H
section
variable {md : Md} {m n k : Nat} {Γ Γ' : Env} {O : Op md} {K : PySem.W.Frag} {te : TE} {tt : TT} {ta : TA} {P P1 P2 : Kn} {t u t1 rest : TS} {E : Es md}
theorem tr_next (h : E.nx m Γ O) : Tr md m Γ O tNext E := fun G0 H0 Gb G H σ s D d => d.nx _ _ _ _ _ _ h s
theorem tr_break (h : E.bk m Γ O) : Tr md m Γ O tBreak E := fun G0 H0 Gb G H σ s D d => d.bk _ _ _ _ _ _ h s
theorem tr_ret (h : Ev md m n te Γ P) (hr : E.rt n P) : Tr md m Γ O (tRet te) E := fun G0 H0 Gb G H σ s D d =>
  h G H σ s.c _ fun v H1 G1 g j p => d.rt n P v G1 H1 hr (s.gr.trans s.c.dm g) j p
theorem tr_seq (N : Asn md) (h1 : Tr md m Γ O t { E with nx := N }) (h2 : ∀ n Γ' O', N n Γ' O' → Tr md n Γ' O' u E) : Tr md m Γ O (tSeq t u) E := fun G0 H0 Gb G H σ s D d =>
  h1 G0 H0 Gb G H σ s _ ⟨fun n Γ' O' G' H' σ' hn s' => h2 n Γ' O' hn G0 H0 Gb G' H' σ' s' D d, d.rt, d.bk, d.ct⟩
theorem tr_set {i : Nat} (h : Ev md m n te Γ P1) (hi : i < Γ.length) (r : Tr md n (Γ.set i (some P1)) O rest E) : Tr md m Γ O (tSeq (tAsg te (gName i)) rest) E := fun G0 H0 Gb G H σ s D d =>
  h G H σ s.c _ fun v H1 G1 g j p => r G0 H0 Gb G1 H1 _ ((s.next g j).set hi p) D d
theorem tr_setL {i : Nat} (h : Ev md m n te Γ P1) (hi : i < Γ.length) (r : E.nx n (Γ.set i (some P1)) O) : Tr md m Γ O (tAsg te (gName i)) E := fun G0 H0 Gb G H σ s D d =>
  h G H σ s.c _ fun v H1 G1 g j p => d.nx _ _ _ _ _ _ r ((s.next g j).set hi p)
theorem tr_asg {g : TG} {js : List Nat} (h : Ev md m n te Γ P1) (hg : Tgt g P1 Γ Γ' js) (r : Tr md n Γ' O rest E) : Tr md m Γ O (tSeq (tAsg te g) rest) E := fun G0 H0 Gb G H σ s D d =>
  h G H σ s.c _ fun v H1 G1 g1 j p => hg G1 H1 σ v g1.gh (s.c.env.mono g1.le) p _ fun σ' e' _ _ => r G0 H0 Gb G1 H1 _ ((s.next g1 j).env e') D d
theorem tr_drop (h : Ev md m n te Γ P1) (r : Tr md n Γ O rest E) : Tr md m Γ O (tSeq (tDrop te) rest) E := fun G0 H0 Gb G H σ s D d =>
  h G H σ s.c _ fun v H1 G1 g j p => r G0 H0 Gb G1 H1 _ (s.next g j) D d
theorem tr_par {i j : Nat} (h : EvA md m n ta Γ [P1, P2]) (hi : i < Γ.length) (hj : j < Γ.length) (r : Tr md n ((Γ.set i (some P1)).set j (some P2)) O rest E) : Tr md m Γ O (tSeq (tPar i j ta) rest) E := fun G0 H0 Gb G H σ s D d =>
  h G H σ s.c _ fun vs H1 G1 g jj p => by
    match vs, p with
    | [v, w], ⟨p1, p2, _⟩ => exact ⟨v, w, rfl, r G0 H0 Gb G1 H1 _ (((s.next g jj).set hi p1).set (by rw [List.length_set]; exact hj) p2) D d⟩
theorem tr_parL {i j : Nat} (h : EvA md m n ta Γ [P1, P2]) (hi : i < Γ.length) (hj : j < Γ.length) (r : E.nx n ((Γ.set i (some P1)).set j (some P2)) O) : Tr md m Γ O (tPar i j ta) E := fun G0 H0 Gb G H σ s D d =>
  h G H σ s.c _ fun vs H1 G1 g jj p => by
    match vs, p with
    | [v, w], ⟨p1, p2, _⟩ => exact ⟨v, w, rfl, d.nx _ _ _ _ _ _ r (((s.next g jj).set hi p1).set (by rw [List.length_set]; exact hj) p2)⟩
theorem tr_par3 {i j l : Nat} {P3 : Kn} (h : EvA md m n ta Γ [P1, P2, P3]) (hi : i < Γ.length) (hj : j < Γ.length) (hl : l < Γ.length) (r : Tr md n (((Γ.set i (some P1)).set j (some P2)).set l (some P3)) O rest E) : Tr md m Γ O (tSeq (tPar3 i j l ta) rest) E := fun G0 H0 Gb G H σ s D d =>
  h G H σ s.c _ fun vs H1 G1 g jj p => by
    match vs, p with
    | [v, w, z], ⟨p1, p2, p3, _⟩ => exact ⟨v, w, z, rfl, r G0 H0 Gb G1 H1 _ ((((s.next g jj).set hi p1).set (by rw [List.length_set]; exact hj) p2).set (by rw [List.length_set, List.length_set]; exact hl) p3) D d⟩
theorem tr_if {S : Bool → Prop} (h : EvT md m n tt Γ S) (h1 : S true → Tr md n Γ O t E) (h2 : S false → Tr md n Γ O u E) : Tr md m Γ O (tIfS tt t u) E := fun G0 H0 Gb G H σ s D d =>
  h G H σ s.c _ fun b H1 G1 g j sb => by
    cases b with
    | true => exact h1 sb G0 H0 Gb G1 H1 σ (s.next g j) D d
    | false => exact h2 sb G0 H0 Gb G1 H1 σ (s.next g j) D d
theorem tr_when {S : Bool → Prop} (h : EvT md m n tt Γ S) (h1 : S true → Tr md n Γ O (tSeq t rest) E) (h2 : S false → Tr md n Γ O (tSeq u rest) E) : Tr md m Γ O (tSeq (tIfS tt t u) rest) E := fun G0 H0 Gb G H σ s D d =>
  h G H σ s.c _ fun b H1 G1 g j sb => by
    cases b with
    | true => exact h1 sb G0 H0 Gb G1 H1 σ (s.next g j) D d
    | false => exact h2 sb G0 H0 Gb G1 H1 σ (s.next g j) D d
theorem tr_skip (h : Tr md m Γ O rest E) : Tr md m Γ O (tSeq tNext rest) E := h
theorem tr_done (h : Tr md m Γ O t { nx := fun _ _ _ => False, rt := E.rt, bk := E.bk, ct := E.ct }) : Tr md m Γ O (tSeq t rest) E := fun G0 H0 Gb G H σ s D d =>
  h G0 H0 Gb G H σ s _ ⟨fun _ _ _ _ _ _ z => z.elim, d.rt, d.bk, d.ct⟩
theorem tr_up (h : Tr md n Γ O t E) (hn : m ≤ n) : Tr md m Γ O t E := fun G0 H0 Gb G H σ s D d => h G0 H0 Gb G H σ ⟨s.gr, s.sb, ⟨s.c.gh, md.up _ _ _ hn s.c.j, s.c.sep, s.c.env⟩, s.o⟩ D d
/-- a slot of which one of several things is known -/
theorem tr_open {ι : Type} {i : Nat} {S : ι → Prop} {f : ι → Kn} (hi : Γ[i]? = some (some (kX S f))) (h : ∀ x, S x → Tr md m (Γ.set i (some (f x))) O t E) : Tr md m Γ O t E := fun G0 H0 Gb G H σ s D d => by
  obtain ⟨v, hv, x, sx, px⟩ := s.c.env.get i _ hi
  exact h x sx G0 H0 Gb G H σ (s.env (s.c.env.put hv px)) D d
theorem tr_openI {i : Nat} {R : Int → Prop} (hi : Γ[i]? = some (some (kI R))) (h : ∀ x, R x → Tr md m (Γ.set i (some (kD (.int x)))) O t E) : Tr md m Γ O t E := fun G0 H0 Gb G H σ s D d => by
  obtain ⟨v, hv, x, e, sx⟩ := s.c.env.get i _ hi
  exact h x sx G0 H0 Gb G H σ (s.env (s.c.env.put hv (kD_int.mpr e))) D d
theorem tr_openS {i : Nat} {R : Str → Prop} (hi : Γ[i]? = some (some (kS R))) (h : ∀ x, R x → Tr md m (Γ.set i (some (kD (.str x)))) O t E) : Tr md m Γ O t E := fun G0 H0 Gb G H σ s D d => by
  obtain ⟨v, hv, x, e, sx⟩ := s.c.env.get i _ hi
  exact h x sx G0 H0 Gb G H σ (s.env (s.c.env.put hv (kD_str.mpr e))) D d
theorem tr_put {i : Nat} {k' : Kn} (hi : Γ[i]? = some (some k')) (i1 : ∀ G v, k'.p G v → P1.p G v) (h : Tr md m (Γ.set i (some P1)) O t E) : Tr md m Γ O t E := fun G0 H0 Gb G H σ s D d => by
  obtain ⟨v, hv, px⟩ := s.c.env.get i _ hi
  exact h G0 H0 Gb G H σ (s.env (s.c.env.put hv (i1 _ _ px))) D d
/-- a plain fact that a slot's knowledge gives -/
theorem tr_know {i : Nat} {k' : Kn} {φ : Prop} (hi : Γ[i]? = some (some k')) (h : ∀ G v, k'.p G v → φ) (r : φ → Tr md m Γ O t E) : Tr md m Γ O t E := fun G0 H0 Gb G H σ s D d => by
  obtain ⟨v, hv, px⟩ := s.c.env.get i _ hi
  exact r (h _ _ px) G0 H0 Gb G H σ s D d
theorem tr_mono {E' : Es md} (h : Tr md m Γ O t E) (n1 : ∀ n Γ' O', E.nx n Γ' O' → E'.nx n Γ' O') (r1 : ∀ n P, E.rt n P → E'.rt n P) (b1 : ∀ n Γ' O', E.bk n Γ' O' → E'.bk n Γ' O') (c1 : ∀ n Γ' O', E.ct n Γ' O' → E'.ct n Γ' O') : Tr md m Γ O t E' := fun G0 H0 Gb G H σ s D d =>
  h G0 H0 Gb G H σ s D ⟨fun n Γ' O' G' H' σ' z => d.nx _ _ _ _ _ _ (n1 _ _ _ z), fun n P v G' H' z => d.rt n P v G' H' (r1 _ _ z), fun n Γ' O' G' H' σ' z => d.bk _ _ _ _ _ _ (b1 _ _ _ z), fun n Γ' O' G' H' σ' z => d.ct _ _ _ _ _ _ (c1 _ _ _ z)⟩
/-- for: I by the turn -/
theorem tr_for {wi : TI} {g : TG} {tb : TS} {ks : List Kn} {n0 : Nat} (src : Src md m n0 wi Γ ks) (I : Nat → Asn md) (h0 : I 0 n0 Γ O)
    (turn : ∀ i k n Γ' O', ks[i]? = some k → I i n Γ' O' → ∃ Γ'' js, Tgt g k Γ' Γ'' js ∧ Tr md n Γ'' O' tb { nx := I (i + 1), ct := I (i + 1), bk := E.nx, rt := E.rt })
    (done : ∀ n Γ' O', I ks.length n Γ' O' → E.nx n Γ' O') : Tr md m Γ O (tFor wi g tb) E := fun G0 H0 Gb G H σ s D d =>
  src G H σ s.c _ fun J H1 G1 g1 j1 ⟨Y, w, y⟩ => by
    have s1 := s.next g1 j1
    refine for_it w (fun i σ' H' => ∃ n Γ' O' G', I i n Γ' O' ∧ St md n Γ' O' G0 H0 G1 G' H' σ') ⟨n0, Γ, O, G1, h0, s1.gr, Same.refl G1, s1.c, s1.o⟩ ?_ ?_ ?_
    · rintro i σ' H' _ ⟨n, Γ', O', G', _, s'⟩
      exact s'.sb.trans s'.c.gh
    · rintro i x σ' H' H'' hi ⟨n, Γ', O', G', hI, s'⟩ hy
      obtain ⟨k, hk⟩ : ∃ k, ks[i]? = some k := ⟨ks[i], by simp [hi]⟩
      obtain ⟨G3, g3, px⟩ := y i k H' x H'' G' hk s'.sb s'.c.gh hy
      have g3' : Gr md.mu G' H' G3 H'' := g3.of0
      have s3 := s'.next g3' (s'.c.j0 g3)
      obtain ⟨Γ'', js, tg, tr⟩ := turn i k n Γ' O' hk hI
      refine tg G3 H'' σ' x g3.gh s3.c.env px _ fun σ2 e2 _ _ => tr G0 H0 G1 G3 H'' σ2 (s3.env e2) _ ⟨fun n Γ O G H σ z s => ⟨n, Γ, O, G, z, s⟩, d.rt, fun n Γ O G H σ z s => d.nx n Γ O G H σ z (s.rebase s1.sb), fun n Γ O G H σ z s => ⟨n, Γ, O, G, z, s⟩⟩
    · rintro σ' H' ⟨n, Γ', O', G', hI, s'⟩
      exact d.nx _ _ _ _ _ _ (done _ _ _ hI) (s'.rebase s1.sb)
theorem tr_while {c : TT} {tb : TS} (I : Nat → Asn md) (h0 : ∃ l, I l m Γ O)
    (turn : ∀ l n Γ' O', I l n Γ' O' → ∃ k S, EvT md n k c Γ' S ∧ (S true → Tr md k Γ' O' tb { nx := fun n Γ O => ∃ l', l' < l ∧ I l' n Γ O, ct := fun n Γ O => ∃ l', l' < l ∧ I l' n Γ O, bk := E.nx, rt := E.rt }) ∧ (S false → E.nx k Γ' O')) : Tr md m Γ O (tWhile c tb) E := fun G0 H0 Gb G H σ s D d => by
  obtain ⟨l0, h0⟩ := h0
  refine ⟨fun l σ' H' => ∃ n Γ' O' G', I l n Γ' O' ∧ St md n Γ' O' G0 H0 Gb G' H' σ', ⟨l0, m, Γ, O, G, h0, s⟩, ?_⟩
  rintro l σ' H' ⟨n, Γ', O', G', hI, s'⟩
  obtain ⟨k, S, ht, h1, h2⟩ := turn l n Γ' O' hI
  refine ht G' H' σ' s'.c _ fun b H1 G1 g1 j1 sb => ?_
  cases b with
  | false => exact d.nx _ _ _ _ _ _ (h2 sb) (s'.next g1 j1)
  | true => exact ⟨fun σ H => ∃ l', l' < l ∧ ∃ n Γ' O' G', I l' n Γ' O' ∧ St md n Γ' O' G0 H0 Gb G' H σ, fun σ H z => z, h1 sb G0 H0 Gb G1 H1 σ' (s'.next g1 j1) _
      ⟨fun n Γ O G H σ ⟨l', hl, z⟩ s => ⟨l', hl, n, Γ, O, G, z, s⟩, d.rt, fun n Γ O G H σ z s => d.nx _ _ _ _ _ _ z s, fun n Γ O G H σ ⟨l', hl, z⟩ s => ⟨l', hl, n, Γ, O, G, z, s⟩⟩⟩
/-- new objects -/
def New (tn : TE) (o : HO) : Prop := ∀ σ H (Q : VK), (∀ p, H p = none → Q (.ref p) (upd H p o)) → tn σ H Q
theorem new_lst : New (tLst tNil) (.lst []) := fun σ H Q q => ⟨by decide, fun p hp => q p hp⟩
theorem new_dK : New tDNewK (.dK []) := fun σ H Q q p hp => q p hp
def kP (p : Addr) : Kn := kVal (.ref p)
theorem tr_new {i : Nat} {tn : TE} {o : HO} {k : Ob} (hn : New tn o) (hk : ∀ G, k.ok G o) (hi : i < Γ.length) (r : ∀ p, Tr md m (Γ.set i (some (kP p))) (oOb p k) rest E) : Tr md m Γ o0 (tSeq (tAsg tn (gName i)) rest) E := fun G0 H0 Gb G H σ s D d =>
  hn σ H _ fun p hp => r p G0 H0 Gb G _ _ ((s.open' hp (hk G)).set hi rfl) D d
theorem tr_par2new {i j : Nat} {tn : TE} {o : HO} {k : Ob} (h : Ev md m n te Γ P1) (hn : New tn o) (hk : ∀ G, k.ok G o) (hi : i < Γ.length) (hj : j < Γ.length)
    (r : ∀ p, Tr md n ((Γ.set i (some P1)).set j (some (kP p))) (oOb p k) rest E) : Tr md m Γ o0 (tSeq (tPar i j (tCons te (tCons tn tNil))) rest) E := fun G0 H0 Gb G H σ s D d =>
  h G H σ s.c _ fun v H1 G1 g j1 p1 => hn σ H1 _ fun p hp =>
    ⟨v, .ref p, rfl, r p G0 H0 Gb G1 _ _ ((((s.next g j1).open' hp (hk G1)).set hi p1).set (by rw [List.length_set]; exact hj) rfl) D d⟩
theorem tr_close {i : Nat} {p : Addr} {k : Ob} (hi : Γ[i]? = some (some (kP p))) (hk : ∀ G o, G p = some o → k.ok G o → P1.p G (.ref p)) (r : Tr md m (Γ.set i (some P1)) o0 t E) : Tr md m Γ (oOb p k) t E := fun G0 H0 Gb G H σ s D d => by
  obtain ⟨o, hp, ho, s1⟩ := s.close
  obtain ⟨v, hv, ev⟩ := s1.c.env.get i _ hi
  subst ev
  obtain ⟨_, _, gp, _⟩ := s.o
  exact r G0 H0 Gb _ H σ (s1.env (s1.c.env.put hv (hk _ o upd_same (k.mono _ _ _ (le_same (same_new gp)) ho)))) D d
theorem kL_of {p : Addr} {ks : List Kn} : ∀ G o, G p = some o → (bL ks).ok G o → (kL ks).p G (.ref p) := fun G o e ⟨xs, eo, a⟩ => ⟨p, xs, rfl, by rw [e, eo], a⟩
/-- xs.append(e) -/
theorem tr_app {i : Nat} {p : Addr} {ks : List Kn} (h : Ev md m n te Γ P1) (hi : Γ[i]? = some (some (kP p))) (hl : ks.length < 1000000) (r : Tr md n Γ (oOb p (bL (ks ++ [P1]))) rest E) : Tr md m Γ (oOb p (bL ks)) (tSeq (tDrop (tBM K "list" rAppend (tVar i) (tCons te tNil))) rest) E := fun G0 H0 Gb G H σ s D d => by
  obtain ⟨v, hv, ev⟩ := s.c.env.get i _ hi
  subst ev
  obtain ⟨_, _, _, o, hp, xs, eo, _⟩ := s.o
  subst eo
  refine ⟨.ref p, hv, .inl ⟨rfl, xs, SqL.of hp⟩, h G H σ s.c _ fun v H1 G1 g j1 p1 => ?_⟩
  have s1 := s.next g j1
  obtain ⟨_, _, _, o1, hp1, ys, eo1, a1⟩ := s1.o
  subst eo1
  refine ⟨p, ys, v, rfl, rfl, hp1, by rw [← AllK.len a1]; exact Nat.lt_of_lt_of_le hl (by decide), r G0 H0 Gb G1 _ σ (s1.write ⟨ys ++ [v], rfl, AllK.app (show AllK G1 [P1] [v] from ⟨p1, trivial⟩) a1⟩) D d⟩
theorem tr_appL {i : Nat} {p : Addr} {ks : List Kn} (h : Ev md m n te Γ P1) (hi : Γ[i]? = some (some (kP p))) (hl : ks.length < 1000000) (r : E.nx n Γ (oOb p (bL (ks ++ [P1])))) : Tr md m Γ (oOb p (bL ks)) (tDrop (tBM K "list" rAppend (tVar i) (tCons te tNil))) E :=
  fun G0 H0 Gb G H σ s D d => tr_app (rest := tNext) h hi hl (tr_next r) G0 H0 Gb G H σ s D d
/-- a test that looks at the object being built -/
theorem tr_peek {i : Nat} {p : Addr} {k : Ob} {S : Bool → Prop} (hi : Γ[i]? = some (some (kP p))) (hk : ∀ G o, G p = some o → k.ok G o → P1.p G (.ref p)) (h : EvT md m n tt (Γ.set i (some P1)) S)
    (h1 : S true → Tr md n Γ (oOb p k) t E) (h2 : S false → Tr md n Γ (oOb p k) u E) : Tr md m Γ (oOb p k) (tIfS tt t u) E := fun G0 H0 Gb G H σ s D d => by
  obtain ⟨o, hp, ho, s1⟩ := s.close
  obtain ⟨v, hv, ev⟩ := s1.c.env.get i _ hi
  subst ev
  obtain ⟨_, _, gp, _⟩ := s.o
  have c1 : Ctx md m (upd G p o) H σ (Γ.set i (some P1)) := ⟨s1.c.gh, s1.c.j, s1.c.sep, s1.c.env.put hv (hk _ o upd_same (k.mono _ _ _ (le_same (same_new gp)) ho))⟩
  refine h _ H σ c1 _ fun b H1 G1 g j sb => ?_
  have s2 := s.shut hp g j
  cases b with
  | true => exact h1 sb G0 H0 Gb G H1 σ s2 D d
  | false => exact h2 sb G0 H0 Gb G H1 σ s2 D d
end

/-! ### promises -/
def spQ (R : List Kn → Kn → Prop) : Sp := spP fun G vs P => ∃ ks, R ks P ∧ AllK G ks vs
theorem ev_callQ {md : Md} {m n : Nat} {Γ : Env} {R : List Kn → Kn → Prop} {t : TA} {E : XK} {ks : List Kn} {P : Kn} (h : EvA md m n t Γ ks) (hp : R ks P) : Ev md m n (tCall (spQ R) [] E t) Γ P :=
  ev_call h fun G vs a => ⟨ks, hp, by rw [List.append_nil]; exact a⟩
abbrev E0' (R : Nat → Kn → Prop) : Es M0 := { rt := R }
def eRet {md : Md} (n : Nat) (P : Kn) : Es md := { rt := fun n' P' => n' = n ∧ P' = P }
/-- .. or its end is met: None -/
def eEnd {md : Md} (n : Nat) : Es md := { nx := fun n' _ _ => n' = n, rt := fun n' P' => n' = n ∧ P' = kD .none }
theorem tr_run {R : List Kn → Kn → Prop} {N : List Str} {vs : List V} {H : Hp} {Q : VK} {E : XK} {t : TS} (h : spQ R vs H Q E)
    (hb : ∀ ks P, R ks P → ks.length ≤ N.length ∧ (Tr M0 0 (ks.map some ++ List.replicate (N.length - ks.length) none) o0 t (eRet 0 P) ∨ (P = kD .none ∧ Tr M0 0 (ks.map some ++ List.replicate (N.length - ks.length) none) o0 t (eEnd 0)))) :
    t { nx := fun _ H' => Q .non H', rt := Q } (L2.start N vs) H := by
  obtain ⟨G, P, s, ⟨ks, hr, a⟩, k⟩ := h
  obtain ⟨hl, b⟩ := hb ks P hr
  have st : St M0 0 (ks.map some ++ List.replicate (N.length - ks.length) none) o0 G H G G H (L2.start N vs) := ⟨Gr.refl s, Same.refl G, ⟨s, trivial, fun _ z => z.elim, env_start a hl⟩, trivial⟩
  rcases b with b | ⟨rfl, b⟩
  · exact b G H G G H _ st _ ⟨fun _ _ _ _ _ _ z => z.elim, fun n P' v G' H' ⟨_, e⟩ g _ p => k v H' G' g (e ▸ p), fun _ _ _ _ _ _ z => z.elim, fun _ _ _ _ _ _ z => z.elim⟩
  · exact b G H G G H _ st _ ⟨fun n Γ O G' H' σ _ s' => k .non H' G' s'.gr (kD_none.mpr rfl), fun n P' v G' H' ⟨_, e⟩ g _ p => k v H' G' g (e ▸ p), fun _ _ _ _ _ _ z => z.elim, fun _ _ _ _ _ _ z => z.elim⟩
end Ll
end

section
set_option Elab.async false
set_option linter.all false
set_option maxRecDepth 100000
set_option maxHeartbeats 1000000
/-! Ll: expressions by what is known of their parts. -/
namespace Ll
open PySem PySem.Spec PyProof.Rows L2

/-! ### what AllK says of flat things -/
theorem allK_map {ι : Type} {G : Hp} {f : ι → Kn} {g : ι → V} (h : ∀ x v, (f x).p G v → v = g x) : ∀ {xs : List ι} {vs : List V}, AllK G (xs.map f) vs → vs = xs.map g
  | [], [], _ => rfl
  | x :: xs, v :: vs, a => by
    have e := h x v a.1
    subst e
    exact congrArg (_ :: ·) (allK_map h a.2)
theorem allK_bl {G : Hp} {bs : List Bool} {vs : List V} (a : AllK G (bs.map fun b => kD (.bool b)) vs) : vs = bs.map V.bl := allK_map (fun b v h => kD_bool.mp h) a
theorem allK_int {G : Hp} {ns : List Int} {vs : List V} (a : AllK G (ns.map fun i => kD (.int i)) vs) : vs = ns.map V.int := allK_map (fun b v h => kD_int.mp h) a
theorem allK_str {G : Hp} {ns : List Str} {vs : List V} (a : AllK G (ns.map fun i => kD (.str i)) vs) : vs = ns.map V.str := allK_map (fun b v h => kD_str.mp h) a
theorem allK_of {G : Hp} {R : Kn → Prop} {P : V → Prop} (h : ∀ k v, R k → k.p G v → P v) : ∀ {ks : List Kn} {vs : List V}, (∀ k ∈ ks, R k) → AllK G ks vs → ∀ v ∈ vs, P v
  | [], [], _, _, v, hv => by simp at hv
  | k :: ks, v :: vs, hr, a, w, hw => by
    rcases List.mem_cons.mp hw with rfl | hw
    · exact h k _ (hr k List.mem_cons_self) a.1
    · exact allK_of h (fun k hk => hr k (List.mem_cons_of_mem _ hk)) a.2 w hw
section
variable {md : Md} {m n k l : Nat} {Γ Γ' : Env} {K : PySem.W.Frag} {te ta tb tc : TE} {tt tu : TT} {t : TA} {P P1 P2 P3 : Kn} {ks ls : List Kn} {i j : Int} {d e : PyData} {b c : Bool} {x y : Str}
theorem ea1 {Q : List V → Hp → Prop} {G H : Hp} {σ : L2.St} (h : EvA md m n t Γ [P]) (c : Ctx md m G H σ Γ) (q : ∀ v H2 G2, Gr md.mu G H G2 H2 → md.J n H2 → P.p G2 v → Q [v] H2) : t σ H Q :=
  h G H σ c _ fun vs H2 G2 g jj a => by
    match vs, a with
    | [v], ⟨p, _⟩ => exact q v H2 G2 g jj p
theorem ev_cb1 {r : List V → Hp → VK → Prop} (h : EvA md m n t Γ [P1]) (hr : ∀ G H v, Same G H → md.J n H → P1.p G v → Out md n G H P (r [v] H)) : Ev md m n (tCB r t) Γ P := fun G H σ c Q q =>
  ea1 h c fun v H1 G1 g1 j1 p1 => hr G1 H1 v g1.gh j1 p1 Q fun v H3 G3 g3 j3 p3 => q v H3 G3 (g1.trans (fun a z => md.dom _ _ a j1 (md.muk a z)) g3) j3 p3
/-! ints -/
theorem ev_i0D {g : Int → Int → V} (ha : Ev md m n ta Γ (kD (.int i))) (hb : Ev md n k tb Γ (kD (.int j))) (hr : ∀ G, P.p G (g i j)) : Ev md m k (tOp (rI0 g) ta tb) Γ P :=
  ev_i0 (ev_asI ha) (ev_asI hb) fun a b ea eb G => by rw [ea, eb]; exact hr G
theorem ev_i1D {C : Int → Int → Prop} {g : Int → Int → V} (ha : Ev md m n ta Γ (kD (.int i))) (hb : Ev md n k tb Γ (kD (.int j))) (hc : C i j) (hr : ∀ G, P.p G (g i j)) : Ev md m k (tOp (rI C g) ta tb) Γ P :=
  ev_i1 (ev_asI ha) (ev_asI hb) (fun a b ea eb => by rw [ea, eb]; exact hc) fun a b ea eb G => by rw [ea, eb]; exact hr G
theorem ev_add (ha : Ev md m n ta Γ (kD (.int i))) (hb : Ev md n k tb Γ (kD (.int j))) : Ev md m k (tOp rAddI ta tb) Γ (kD (.int (i + j))) := ev_i0D ha hb fun _ => .int _
theorem ev_sub (ha : Ev md m n ta Γ (kD (.int i))) (hb : Ev md n k tb Γ (kD (.int j))) : Ev md m k (tOp rSubI ta tb) Γ (kD (.int (i - j))) := ev_i0D ha hb fun _ => .int _
theorem ev_cmpI {g : Int → Int → Bool} (ha : Ev md m n ta Γ (kD (.int i))) (hb : Ev md n k tb Γ (kD (.int j))) : Ev md m k (tOp (rI0 fun i j => .bl (g i j)) ta tb) Γ (kD (.bool (g i j))) := ev_i0D ha hb fun _ => .bl _
theorem et_cmpI {g : Int → Int → Bool} (ha : Ev md m n ta Γ (kD (.int i))) (hb : Ev md n k tb Γ (kD (.int j))) : EvT md m k (tTest (tOp (rI0 fun i j => .bl (g i j)) ta tb)) Γ (· = g i j) := et_test (ev_cmpI ha hb)
theorem ev_eqF {f : V → V → Bool} (hf : ∀ G v, (kD d).p G v → ∀ w, (kD e).p G w → scal v w = true ∧ f v w = b) (r : R2) (hr : ∀ x y H Q, scal x y = true → Q (.bl (f x y)) H → r x y H Q) (ha : Ev md m n ta Γ (kD d)) (hb : Ev md n k tb Γ (kD e)) : Ev md m k (tOp r ta tb) Γ (kD (.bool b)) :=
  ev_op ha hb fun G H v w s jj pv pw => by
    obtain ⟨h1, h2⟩ := hf G v pv w pw
    exact Out.val s jj (.bl b) fun Q q => hr v w H Q h1 (h2 ▸ q)
theorem ev_eqI (ha : Ev md m n ta Γ (kD (.int i))) (hb : Ev md n k tb Γ (kD (.int j))) : Ev md m k (tOp rEq ta tb) Γ (kD (.bool (decide (i = j)))) :=
  ev_eqF (f := fun v w => decide (v = w)) (fun G v pv w pw => by rw [kD_int.mp pv, kD_int.mp pw]; exact ⟨rfl, by simp⟩) rEq (fun x y H Q h q => ⟨h, q⟩) ha hb
theorem ev_neI (ha : Ev md m n ta Γ (kD (.int i))) (hb : Ev md n k tb Γ (kD (.int j))) : Ev md m k (tOp rNe ta tb) Γ (kD (.bool (!decide (i = j)))) :=
  ev_eqF (f := fun v w => !decide (v = w)) (fun G v pv w pw => by rw [kD_int.mp pv, kD_int.mp pw]; exact ⟨rfl, by simp⟩) rNe (fun x y H Q h q => ⟨h, q⟩) ha hb
theorem ev_eqS (ha : Ev md m n ta Γ (kD (.str x))) (hb : Ev md n k tb Γ (kD (.str y))) : Ev md m k (tOp rEq ta tb) Γ (kD (.bool (decide (x = y)))) :=
  ev_eqF (f := fun v w => decide (v = w)) (fun G v pv w pw => by rw [kD_str.mp pv, kD_str.mp pw]; exact ⟨rfl, by simp⟩) rEq (fun x y H Q h q => ⟨h, q⟩) ha hb
theorem ev_neS (ha : Ev md m n ta Γ (kD (.str x))) (hb : Ev md n k tb Γ (kD (.str y))) : Ev md m k (tOp rNe ta tb) Γ (kD (.bool (!decide (x = y)))) :=
  ev_eqF (f := fun v w => !decide (v = w)) (fun G v pv w pw => by rw [kD_str.mp pv, kD_str.mp pw]; exact ⟨rfl, by simp⟩) rNe (fun x y H Q h q => ⟨h, q⟩) ha hb
theorem ev_neB (ha : Ev md m n ta Γ (kD (.bool b))) (hb : Ev md n k tb Γ (kD (.bool c))) : Ev md m k (tOp rNe ta tb) Γ (kD (.bool (!decide (b = c)))) :=
  ev_eqF (f := fun v w => !decide (v = w)) (fun G v pv w pw => by rw [kD_bool.mp pv, kD_bool.mp pw]; exact ⟨rfl, by simp⟩) rNe (fun x y H Q h q => ⟨h, q⟩) ha hb
def isNo : PyData → Bool
  | .none => true
  | _ => false
theorem ev_isNo (ha : Ev md m n ta Γ (kD d)) (hb : Ev md n k tb Γ (kD .none)) : Ev md m k (tOp rIsNo ta tb) Γ (kD (.bool (isNo d))) :=
  ev_op ha hb fun G H v w s jj pv pw => Out.val s jj (.bl _) fun Q q => ⟨kD_none.mp pw, by
    have : decide (v = V.non) = isNo d := by cases pv <;> simp [isNo]
    rw [this]; exact q⟩
theorem ev_isntNo (ha : Ev md m n ta Γ (kD d)) (hb : Ev md n k tb Γ (kD .none)) : Ev md m k (tOp rIsntNo ta tb) Γ (kD (.bool (!isNo d))) :=
  ev_op ha hb fun G H v w s jj pv pw => Out.val s jj (.bl _) fun Q q => ⟨kD_none.mp pw, by
    have : decide (v = V.non) = isNo d := by cases pv <;> simp [isNo]
    rw [this]; exact q⟩
theorem ev_not (h : Ev md m n te Γ (kD (.bool b))) : Ev md m n (tNotV te) Γ (kD (.bool (!b))) := fun G H σ cc Q q =>
  h G H σ cc _ fun v H1 G1 g jj p => ⟨b, kD_bool.mp p, q _ H1 G1 g jj (.bl _)⟩
theorem ev_and (ha : Ev md m n ta Γ (kD (.bool b))) (hb : b = true → Ev md n n tb Γ (kD (.bool c))) : Ev md m n (tAndV ta tb) Γ (kD (.bool (b && c))) := fun G H σ cc Q q =>
  ha G H σ cc _ fun v H1 G1 g jj p => ⟨b, kD_bool.mp p, by
    cases b with
    | false => exact q _ H1 G1 g jj (.bl _)
    | true => exact hb rfl G1 H1 σ (cc.next g jj) Q fun w H2 G2 g2 j2 p2 => q w H2 G2 (g.trans (fun a z => md.dom _ _ a jj (md.muk a z)) g2) j2 p2⟩
theorem ev_or (ha : Ev md m n ta Γ (kD (.bool b))) (hb : b = false → Ev md n n tb Γ (kD (.bool c))) : Ev md m n (tOrV ta tb) Γ (kD (.bool (b || c))) := fun G H σ cc Q q =>
  ha G H σ cc _ fun v H1 G1 g jj p => ⟨b, kD_bool.mp p, by
    cases b with
    | true => exact q _ H1 G1 g jj (.bl _)
    | false => exact hb rfl G1 H1 σ (cc.next g jj) Q fun w H2 G2 g2 j2 p2 => q w H2 G2 (g.trans (fun a z => md.dom _ _ a jj (md.muk a z)) g2) j2 p2⟩
/-! tests with exact answers -/
theorem et_andD (h1 : EvT md m n tt Γ (· = b)) (h2 : b = true → EvT md n n tu Γ (· = c)) : EvT md m n (tAnd tt tu) Γ (· = (b && c)) :=
  et_imp (et_and (T := (· = c)) h1 (fun z => h2 z.symm) (Nat.le_refl _)) fun z h => by
    rcases h with ⟨e, rfl⟩ | ⟨e, rfl⟩
    · rw [← e]; rfl
    · rw [← e]; rfl
theorem et_orD (h1 : EvT md m n tt Γ (· = b)) (h2 : b = false → EvT md n n tu Γ (· = c)) : EvT md m n (tOr tt tu) Γ (· = (b || c)) :=
  et_imp (et_or (T := (· = c)) h1 (fun z => h2 z.symm) (Nat.le_refl _)) fun z h => by
    rcases h with ⟨e, rfl⟩ | ⟨e, rfl⟩
    · rw [← e]; rfl
    · rw [← e]; rfl
theorem et_notD (h : EvT md m n tt Γ (· = b)) : EvT md m n (tNot tt) Γ (· = !b) := et_imp (et_not h) fun z e => by rw [← e]; simp
/-! sequences -/
theorem ev_any {bs : List Bool} (h : EvA md m n t Γ [kL (bs.map fun b => kD (.bool b))]) : Ev md m n (tCB (rAny K) t) Γ (kD (.bool (bs.any id))) :=
  ev_cb1 h fun G H v s jj ⟨a, xs, e, hs, ax⟩ => Out.val s jj (.bl _) fun Q q => ⟨a, bs, by rw [e], allK_bl ax ▸ SqL.of (s _ _ hs), q⟩
theorem ev_all {bs : List Bool} (h : EvA md m n t Γ [kL (bs.map fun b => kD (.bool b))]) : Ev md m n (tCB (rAll K) t) Γ (kD (.bool (bs.all id))) :=
  ev_cb1 h fun G H v s jj ⟨a, xs, e, hs, ax⟩ => Out.val s jj (.bl _) fun Q q => ⟨a, bs, by rw [e], allK_bl ax ▸ SqL.of (s _ _ hs), q⟩
theorem ev_lenL (h : EvA md m n t Γ [kL ks]) : Ev md m n (tCB (cLen K) t) Γ (kD (.int (ks.length : Nat))) :=
  ev_cb1 h fun G H v s jj ⟨a, xs, e, hs, ax⟩ => Out.val s jj (.int _) fun Q q => ⟨a, xs, by rw [e], .inl (SqL.of (s _ _ hs)), by rw [← AllK.len ax]; exact q⟩
theorem ev_lenT (h : EvA md m n t Γ [kT ks]) : Ev md m n (tCB (cLen K) t) Γ (kD (.int (ks.length : Nat))) :=
  ev_cb1 h fun G H v s jj ⟨a, xs, e, hs, ax⟩ => Out.val s jj (.int _) fun Q q => ⟨a, xs, by rw [e], .inr (SqT.of (s _ _ hs)), by rw [← AllK.len ax]; exact q⟩
theorem ev_tupL (h : EvA md m n t Γ [kL ks]) : Ev md m n (tCB (cTup K) t) Γ (kT ks) :=
  ev_cb1 h fun G H v s jj ⟨a, xs, e, hs, ax⟩ => Out.new (o := .tup xs) s jj (fun p hp => ⟨p, xs, rfl, upd_same, AllK.mono (le_same (same_new (s.free hp))) ax⟩) fun Q q => ⟨a, xs, by rw [e], .inl ⟨SqL.of (s _ _ hs), fun l hl => q l hl⟩⟩
theorem ev_tupT (h : EvA md m n t Γ [kT ks]) : Ev md m n (tCB (cTup K) t) Γ (kT ks) :=
  ev_cb1 h fun G H v s jj ⟨a, xs, e, hs, ax⟩ => Out.val s jj ⟨a, xs, e, hs, ax⟩ fun Q q => ⟨a, xs, by rw [e], .inr ⟨SqT.of (s _ _ hs), e ▸ q⟩⟩
theorem ev_lstL (h : EvA md m n t Γ [kL ks]) : Ev md m n (tCB (cLst K) t) Γ (kL ks) :=
  ev_cb1 h fun G H v s jj ⟨a, xs, e, hs, ax⟩ => Out.new (o := .lst xs) s jj (fun p hp => ⟨p, xs, rfl, upd_same, AllK.mono (le_same (same_new (s.free hp))) ax⟩) fun Q q => ⟨a, xs, by rw [e], .inl (SqL.of (s _ _ hs)), fun l hl => q l hl⟩
theorem ev_lstT (h : EvA md m n t Γ [kT ks]) : Ev md m n (tCB (cLst K) t) Γ (kL ks) :=
  ev_cb1 h fun G H v s jj ⟨a, xs, e, hs, ax⟩ => Out.new (o := .lst xs) s jj (fun p hp => ⟨p, xs, rfl, upd_same, AllK.mono (le_same (same_new (s.free hp))) ax⟩) fun Q q => ⟨a, xs, by rw [e], .inr (SqT.of (s _ _ hs)), fun l hl => q l hl⟩
theorem rg_all {G : Hp} {z : Nat} : AllK G (kRange z) (rgV 0 (z : Nat)) := by
  have e : (((z : Nat) : Int) - 0).toNat = z := by omega
  unfold rgV kRange
  rw [e]
  have key : ∀ l : List Nat, AllK G (l.map fun i => kD (.int (i : Nat))) (l.map fun i => V.int (0 + (i : Nat))) := fun l => by
    induction l with
    | nil => trivial
    | cons a l ih => exact ⟨kD_int.mpr (congrArg V.int (Int.zero_add _)), ih⟩
  exact key _
theorem ev_lstRg {z : Nat} (h : Ev md m n te Γ (kD (.int (z : Nat)))) (hz : z ≤ 1000000) : Ev md m n (tLstRg (tRg1 te)) Γ (kL (kRange z)) := fun G H σ cc Q q =>
  h G H σ cc _ fun v H1 G1 g jj p => ⟨_, kD_int.mp p, RgOk.of_le (by omega) (by omega) (by omega) (by omega), fun a ha =>
    q _ _ _ (g.trans (fun a z => md.dom _ _ a jj (md.muk a z)) (Gr.new g.gh ha)) (md.st _ _ _ jj fun b u _ e => same_new ha b u e) ⟨a, _, rfl, upd_same, rg_all⟩⟩
theorem ev_tupRg {z : Nat} (h : Ev md m n te Γ (kD (.int (z : Nat)))) (hz : z ≤ 1000000) : Ev md m n (tTupRg (tRg1 te)) Γ (kT (kRange z)) := fun G H σ cc Q q =>
  h G H σ cc _ fun v H1 G1 g jj p => ⟨_, kD_int.mp p, RgOk.of_le (by omega) (by omega) (by omega) (by omega), fun a ha =>
    q _ _ _ (g.trans (fun a z => md.dom _ _ a jj (md.muk a z)) (Gr.new g.gh ha)) (md.st _ _ _ jj fun b u _ e => same_new ha b u e) ⟨a, _, rfl, upd_same, rg_all⟩⟩
theorem ev_cat (ha : Ev md m n ta Γ (kL ks)) (hb : Ev md n k tb Γ (kL ls)) (hl : ks.length + ls.length ≤ 1000000) : Ev md m k (tOp rCat ta tb) Γ (kL (ks ++ ls)) :=
  ev_op ha hb fun G H v w s jj ⟨a, xs, e, hs, ax⟩ ⟨b, ys, e', hs', ay⟩ => Out.new (o := .lst (xs ++ ys)) s jj (fun p hp => ⟨p, _, rfl, upd_same, AllK.mono (le_same (same_new (s.free hp))) (AllK.app ay ax)⟩) fun Q q =>
    ⟨a, b, xs, ys, e, e', s _ _ hs, s _ _ hs', by rw [← AllK.len ax, ← AllK.len ay]; exact Nat.le_trans hl (by decide), fun p hp => q p hp⟩
theorem allK_nil {G : Hp} {vs : List V} (h : AllK G [] vs) : vs = [] := by
  cases vs with
  | nil => rfl
  | cons _ _ => exact h.elim
theorem allK_nil' {G : Hp} {ks : List Kn} (h : AllK G ks []) : ks = [] := by
  cases ks with
  | nil => rfl
  | cons _ _ => exact h.elim
theorem ev_catA (ha : Ev md m n ta Γ (kT ks)) (hb : Ev md n k tb Γ (kT ls)) (hl : ks.length + ls.length ≤ 1000000) : Ev md m k (tOp (rCatA K) ta tb) Γ (kT (ks ++ ls)) :=
  ev_op ha hb fun G H v w s jj ⟨a, xs, e, hs, ax⟩ ⟨b, ys, e', hs', ay⟩ => fun Q q =>
    ⟨a, b, xs, ys, e, e', SqT.of (s _ _ hs), SqT.of (s _ _ hs'), by rw [← AllK.len ax, ← AllK.len ay]; exact Nat.le_trans hl (by decide),
      fun z => q _ H G (Gr.refl s) jj ⟨b, ys, rfl, hs', by subst z; rw [allK_nil' ax]; exact ay⟩,
      fun _ z => q _ H G (Gr.refl s) jj ⟨a, xs, rfl, hs, by subst z; rw [allK_nil' ay, List.append_nil]; exact ax⟩,
      fun _ _ p hp => q _ _ _ (Gr.new s hp) (md.st _ _ _ jj fun a u _ e => same_new hp a u e) ⟨p, _, rfl, upd_same, AllK.mono (le_same (same_new (s.free hp))) (AllK.app ay ax)⟩⟩
theorem allK_drop {G : Hp} : ∀ (a : Nat) {ks : List Kn} {vs : List V}, AllK G ks vs → AllK G (ks.drop a) (vs.drop a)
  | 0, _, _, h => h
  | a + 1, [], [], _ => trivial
  | a + 1, _ :: _, _ :: _, h => allK_drop a h.2
theorem allK_take {G : Hp} : ∀ (a : Nat) {ks : List Kn} {vs : List V}, AllK G ks vs → AllK G (ks.take a) (vs.take a)
  | 0, _, _, h => trivial
  | a + 1, [], [], _ => trivial
  | a + 1, _ :: _, _ :: _, h => ⟨h.1, allK_take a h.2⟩
theorem ev_slTake {z : Nat} (ha : Ev md m n ta Γ (kL ks)) (hb : Ev md n k tb Γ (kD (.int (z : Nat)))) : Ev md m k (tSl (rSlL K) ta tNoPart (tPart tb)) Γ (kL (ks.take z)) := fun G H σ cc Q q =>
  ha G H σ cc _ fun v H1 G1 g1 j1 p1 => hb G1 H1 σ (cc.next g1 j1) _ fun w H2 G2 g2 j2 p2 => by
    obtain ⟨a, xs, e, hs, ax⟩ := (kL ks).mono _ _ _ g2.le p1
    refine ⟨_, kD_int.mp p2, a, xs, e, SqL.of (g2.gh _ _ hs), fun p hp => ?_⟩
    refine q _ _ _ ((g1.trans (fun a z => md.dom _ _ a j1 (md.muk a z)) g2).trans (fun a z => md.dom _ _ a j2 (md.muk a z)) (Gr.new g2.gh hp)) (md.st _ _ _ j2 fun a u _ e => same_new hp a u e) ⟨p, _, rfl, upd_same, ?_⟩
    unfold cutV
    rw [HT.sIx_none, HT.sIx_nat, List.drop_zero, Nat.sub_zero]
    have : xs.take (min z xs.length) = xs.take z := by
      rcases Nat.le_total z xs.length with h | h
      · rw [Nat.min_eq_left h]
      · rw [Nat.min_eq_right h, List.take_of_length_le (Nat.le_refl _), List.take_of_length_le h]
    rw [this]
    exact AllK.mono (le_same (same_new (g2.gh.free hp))) (allK_take z ax)
theorem ev_slDrop {z : Nat} (ha : Ev md m n ta Γ (kL ks)) (hb : Ev md n k tb Γ (kD (.int (z : Nat)))) : Ev md m k (tSl (rSlL K) ta (tPart tb) tNoPart) Γ (kL (ks.drop z)) := fun G H σ cc Q q =>
  ha G H σ cc _ fun v H1 G1 g1 j1 p1 => hb G1 H1 σ (cc.next g1 j1) _ fun w H2 G2 g2 j2 p2 => by
    obtain ⟨a, xs, e, hs, ax⟩ := (kL ks).mono _ _ _ g2.le p1
    refine ⟨_, kD_int.mp p2, a, xs, e, SqL.of (g2.gh _ _ hs), fun p hp => ?_⟩
    refine q _ _ _ ((g1.trans (fun a z => md.dom _ _ a j1 (md.muk a z)) g2).trans (fun a z => md.dom _ _ a j2 (md.muk a z)) (Gr.new g2.gh hp)) (md.st _ _ _ j2 fun a u _ e => same_new hp a u e) ⟨p, _, rfl, upd_same, ?_⟩
    unfold cutV
    rw [HT.sIx_none, HT.sIx_nat]
    have : (xs.drop (min z xs.length)).take (xs.length - min z xs.length) = xs.drop z := by
      rcases Nat.le_total z xs.length with h | h
      · rw [Nat.min_eq_left h, List.take_of_length_le (by rw [List.length_drop]; exact Nat.le_refl _)]
      · rw [Nat.min_eq_right h, List.drop_of_length_le (Nat.le_refl _), List.drop_of_length_le h]; simp
    rw [this]
    exact AllK.mono (le_same (same_new (g2.gh.free hp))) (allK_drop z ax)
theorem inS {ws : List Str} {x : Str} : inV (.str x) (ws.map V.str) = decide (x ∈ ws) := by
  unfold inV
  rw [List.any_map, Bool.eq_iff_iff, List.any_eq_true, decide_eq_true_iff]
  constructor
  · rintro ⟨w, hw, e⟩
    have : w = x := by simpa [eqV] using e
    exact this ▸ hw
  · intro h
    exact ⟨x, h, by simp [eqV]⟩
theorem all_flat_str {ws : List Str} : (ws.map V.str).all flatV = true := by rw [List.all_map]; exact List.all_eq_true.mpr fun _ _ => rfl
theorem inI {ws : List Int} {x : Int} : inV (.int x) (ws.map V.int) = decide (x ∈ ws) := by
  unfold inV
  rw [List.any_map, Bool.eq_iff_iff, List.any_eq_true, decide_eq_true_iff]
  constructor
  · rintro ⟨w, hw, e⟩
    have : w = x := by simpa [eqV] using e
    exact this ▸ hw
  · intro h
    exact ⟨x, h, by simp [eqV]⟩
theorem all_flat_int {ws : List Int} : (ws.map V.int).all flatV = true := by rw [List.all_map]; exact List.all_eq_true.mpr fun _ _ => rfl
theorem ev_inI {ws : List Int} (ha : Ev md m n ta Γ (kD (.int i))) (hb : Ev md n k tb Γ (kL (ws.map fun w => kD (.int w)))) : Ev md m k (tOp (rIn K false) ta tb) Γ (kD (.bool (decide (i ∈ ws)))) :=
  ev_op ha hb fun G H v w s jj pv ⟨a, xs, e, hs, ax⟩ => Out.val s jj (.bl _) fun Q q => ⟨a, xs, e, .inl (SqL.of (s _ _ hs)), by rw [kD_int.mp pv]; rfl, by rw [allK_int ax]; exact all_flat_int, by
    rw [kD_int.mp pv, allK_int ax, inI]; exact q⟩
theorem ev_inST {ws : List Str} (ha : Ev md m n ta Γ (kD (.str x))) (hb : Ev md n k tb Γ (kT (ws.map fun w => kD (.str w)))) : Ev md m k (tOp (rIn K false) ta tb) Γ (kD (.bool (decide (x ∈ ws)))) :=
  ev_op ha hb fun G H v w s jj pv ⟨a, xs, e, hs, ax⟩ => Out.val s jj (.bl _) fun Q q => ⟨a, xs, e, .inr (SqT.of (s _ _ hs)), by rw [kD_str.mp pv]; rfl, by rw [allK_str ax]; exact all_flat_str, by
    rw [kD_str.mp pv, allK_str ax, inS]; exact q⟩
theorem ev_inSL {ws : List Str} (ha : Ev md m n ta Γ (kD (.str x))) (hb : Ev md n k tb Γ (kL (ws.map fun w => kD (.str w)))) : Ev md m k (tOp (rIn K false) ta tb) Γ (kD (.bool (decide (x ∈ ws)))) :=
  ev_op ha hb fun G H v w s jj pv ⟨a, xs, e, hs, ax⟩ => Out.val s jj (.bl _) fun Q q => ⟨a, xs, e, .inl (SqL.of (s _ _ hs)), by rw [kD_str.mp pv]; rfl, by rw [allK_str ax]; exact all_flat_str, by
    rw [kD_str.mp pv, allK_str ax, inS]; exact q⟩
theorem ev_ninST {ws : List Str} (ha : Ev md m n ta Γ (kD (.str x))) (hb : Ev md n k tb Γ (kT (ws.map fun w => kD (.str w)))) : Ev md m k (tOp (rIn K true) ta tb) Γ (kD (.bool (!decide (x ∈ ws)))) :=
  ev_op ha hb fun G H v w s jj pv ⟨a, xs, e, hs, ax⟩ => Out.val s jj (.bl _) fun Q q => ⟨a, xs, e, .inr (SqT.of (s _ _ hs)), by rw [kD_str.mp pv]; rfl, by rw [allK_str ax]; exact all_flat_str, by
    rw [kD_str.mp pv, allK_str ax, inS]; exact q⟩

/-! ### comprehensions, no draws -/
theorem ev_lcX {ι : Type} {wi : TI} {g : TG} {vs js : List Nat} {n0 : Nat} {xs : List ι} {kf pf : ι → Kn} (src : Src md m n0 wi Γ (xs.map kf)) (hz : xs.length ≤ 1000000) (Γx : ι → Env)
    (tgt : ∀ x, Tgt g (kf x) (wipeE Γ vs) (Γx x) js) (turn : ∀ x ∈ xs, Ev md n0 n0 te (Γx x) (pf x)) (hjs : ∀ j ∈ js, j ∈ vs := by decide) : Ev md m n0 (tLc wi g tYes te vs) Γ (kL (xs.map pf)) := by
  refine ev_imp (ev_lc (te := te) src (by rw [List.length_map]; exact hz) (fun i => match xs[i]? with | some x => Γx x | none => Γ) (fun i k hk => ?_) hjs (fun _ => n0) rfl (fun i acc => acc = (xs.take i).map pf) rfl fun i k acc hk e => ?_) ?_
  · rw [List.getElem?_map] at hk
    cases q : xs[i]? with
    | none => rw [q] at hk; cases hk
    | some x => rw [q] at hk; cases hk; simp only; exact tgt x
  · rw [List.getElem?_map] at hk
    cases q : xs[i]? with
    | none => rw [q] at hk; cases hk
    | some x =>
      simp only
      refine ⟨_, _, et_yes, fun _ => ⟨pf x, turn x (List.mem_of_getElem? q), ?_⟩, fun z => nomatch z⟩
      rw [e, List.take_succ, q, List.map_append]; rfl
  · rintro G v ⟨acc, rfl, h⟩
    rw [List.length_map, List.take_of_length_le (Nat.le_refl _)] at h
    exact h
theorem ev_lcF {ι : Type} {wi : TI} {g : TG} {vs js : List Nat} {n0 : Nat} {xs : List ι} {kf pf : ι → Kn} (src : Src md m n0 wi Γ (xs.map kf)) (hz : xs.length ≤ 1000000) (Γx : ι → Env)
    (tgt : ∀ x, Tgt g (kf x) (wipeE Γ vs) (Γx x) js) (bf : ι → Bool) (test : ∀ x ∈ xs, EvT md n0 n0 tt (Γx x) (· = bf x)) (turn : ∀ x ∈ xs, bf x = true → Ev md n0 n0 te (Γx x) (pf x)) (hjs : ∀ j ∈ js, j ∈ vs := by decide) :
    Ev md m n0 (tLc wi g tt te vs) Γ (kL ((xs.filter bf).map pf)) := by
  refine ev_imp (ev_lc (te := te) src (by rw [List.length_map]; exact hz) (fun i => match xs[i]? with | some x => Γx x | none => Γ) (fun i k hk => ?_) hjs (fun _ => n0) rfl (fun i acc => acc = ((xs.take i).filter bf).map pf) rfl fun i k acc hk e => ?_) ?_
  · rw [List.getElem?_map] at hk
    cases q : xs[i]? with
    | none => rw [q] at hk; cases hk
    | some x => rw [q] at hk; cases hk; simp only; exact tgt x
  · rw [List.getElem?_map] at hk
    cases q : xs[i]? with
    | none => rw [q] at hk; cases hk
    | some x =>
      simp only
      refine ⟨_, _, test x (List.mem_of_getElem? q), fun z => ⟨pf x, turn x (List.mem_of_getElem? q) z.symm, ?_⟩, fun z => ⟨Nat.le_refl _, ?_⟩⟩
      · rw [e, List.take_succ, q, List.filter_append, List.map_append]; simp [← z]
      · rw [e, List.take_succ, q, List.filter_append, List.map_append]; simp [← z]
  · rintro G v ⟨acc, rfl, h⟩
    rw [List.length_map, List.take_of_length_le (Nat.le_refl _)] at h
    exact h
theorem kRange_map {z : Nat} : kRange z = (List.range z).map fun i => kD (.int (i : Nat)) := rfl
theorem kEnum_map {ι : Type} {xs : List ι} {f : ι → Kn} : kEnum (xs.map f) = (xs.mapIdx fun i x => (i, x)).map fun p => kT [kD (.int (p.1 : Nat)), f p.2] := by
  unfold kEnum
  apply List.ext_getElem?
  intro i
  simp only [List.getElem?_mapIdx, List.getElem?_map]
  cases xs[i]? <;> rfl
theorem ev_listD {ι : Type} {xs : List ι} {f : ι → PyData} (h : Ev md m n te Γ (kL (xs.map fun x => kD (f x)))) : Ev md m n te Γ (kD (.list (xs.map f))) := ev_ofL (by rw [List.map_map]; exact h)
theorem ev_tupD {ι : Type} {xs : List ι} {f : ι → PyData} (h : Ev md m n te Γ (kT (xs.map fun x => kD (f x)))) : Ev md m n te Γ (kD (.tuple (xs.map f))) := ev_ofT (by rw [List.map_map]; exact h)
theorem ev_Dlist {ι : Type} {xs : List ι} {f : ι → PyData} (h : Ev md m n te Γ (kD (.list (xs.map f)))) : Ev md m n te Γ (kL (xs.map fun x => kD (f x))) := by
  have := ev_asL h
  rw [List.map_map] at this
  exact this
theorem ev_Dtup {ι : Type} {xs : List ι} {f : ι → PyData} (h : Ev md m n te Γ (kD (.tuple (xs.map f)))) : Ev md m n te Γ (kT (xs.map fun x => kD (f x))) := by
  have := ev_asT h
  rw [List.map_map] at this
  exact this
end
end Ll
end

section
set_option Elab.async false
set_option linter.all false
set_option maxRecDepth 100000
set_option maxHeartbeats 1000000
/-! Ll: a machine as data; defs that keep promises of this kind. -/
namespace Ll
open PySem PySem.Spec PyProof.Rows L2

/-! ### data -/
def eI (i : Nat) : PyData := .int (i : Nat)
def eIs (l : List Nat) : PyData := .list (l.map eI)
def eRow (l : List Nat) : PyData := .tuple (l.map eI)
def eW (w : List Str) : PyData := .tuple (w.map .str)
def ePr (p : Nat × Nat) : PyData := .tuple [eI p.1, eI p.2]
def kAny : Kn := ⟨fun _ _ => True, fun _ _ _ _ _ => trivial⟩
/-- small letters only -/
def Lt (x : Str) : Prop := ∀ c ∈ x.cps.toList, 97 ≤ c ∧ c ≤ 122
theorem Lt.ok {x : Str} (h : Lt x) : PyData.strOk x = true := by
  unfold PyData.strOk
  rw [Array.all_eq_true']
  intro c hc
  have := h c (by simpa using hc)
  simp; omega
theorem Lt.ne {x : Str} (h : Lt x) : x ≠ "?" := by
  intro e
  subst e
  have := h 63 (by decide)
  omega
structure Mc where
  n : Nat
  ds : List (Str × List Nat)
  sh : List Int
structure Mc.Ok (M : Mc) : Prop where
  n1 : 0 < M.n
  n6 : M.n ≤ 6
  d0 : M.ds ≠ []
  d8 : M.ds.length ≤ 8
  nd : (M.ds.map (·.1)).Nodup
  lt : ∀ d ∈ M.ds, Lt d.1
  rw : ∀ d ∈ M.ds, d.2.length = M.n ∧ ∀ x ∈ d.2, x < M.n
  sl : M.sh.length = M.n
def Mc.nms (M : Mc) : List Str := M.ds.map (·.1)
def Mc.rows (M : Mc) : List (List Nat) := M.ds.map (·.2)
def Mc.row (M : Mc) (a : Str) : List Nat := ((M.ds.find? fun d => decide (d.1 = a)).map (·.2)).getD []
def Mc.mv (M : Mc) (a : Str) (s : Nat) : Nat := (M.row a).getD s 0
def Mc.marks (M : Mc) : List Nat := itr M.n M.rows M.n (mk0 M.n M.sh)
def Mc.mu (M : Mc) (s : Nat) : Nat := M.marks.getD s 0
theorem find_of {α : Type} : ∀ {ds : List (Str × α)} {d : Str × α}, (ds.map (·.1)).Nodup → d ∈ ds → ds.find? (fun e => decide (e.1 = d.1)) = some d
  | e :: ds, d, nd, h => by
    rw [List.map_cons, List.nodup_cons] at nd
    by_cases q : e.1 = d.1
    · rw [List.find?_cons_of_pos (by simpa using q)]
      rcases List.mem_cons.mp h with rfl | h
      · rfl
      · exact absurd (List.mem_map.mpr ⟨d, h, q.symm⟩) nd.1
    · rw [List.find?_cons_of_neg (by simpa using q)]
      rcases List.mem_cons.mp h with rfl | h
      · exact absurd rfl q
      · exact find_of nd.2 h
section
variable {M : Mc} (o : M.Ok)
theorem Mc.Ok.row_of (o : M.Ok) {d : Str × List Nat} (h : d ∈ M.ds) : M.row d.1 = d.2 := by
  unfold Mc.row
  rw [find_of o.nd h]; rfl
theorem Mc.Ok.of_nm (o : M.Ok) {a : Str} (h : a ∈ M.nms) : ∃ d ∈ M.ds, d.1 = a ∧ M.row a = d.2 := by
  obtain ⟨d, hd, rfl⟩ := List.mem_map.mp h
  exact ⟨d, hd, rfl, o.row_of hd⟩
theorem Mc.Ok.row_mem (o : M.Ok) {a : Str} (h : a ∈ M.nms) : M.row a ∈ M.rows := by
  obtain ⟨d, hd, _, e⟩ := o.of_nm h
  rw [e]; exact List.mem_map.mpr ⟨d, hd, rfl⟩
theorem Mc.Ok.row_len (o : M.Ok) {a : Str} (h : a ∈ M.nms) : (M.row a).length = M.n ∧ ∀ x ∈ M.row a, x < M.n := by
  obtain ⟨d, hd, _, e⟩ := o.of_nm h
  rw [e]; exact o.rw d hd
theorem Mc.Ok.mv_lt (o : M.Ok) {a : Str} (h : a ∈ M.nms) {s : Nat} (hs : s < M.n) : M.mv a s < M.n := by
  obtain ⟨h1, h2⟩ := o.row_len h
  unfold Mc.mv
  rw [List.getD_eq_getElem?_getD, List.getElem?_eq_getElem (by omega)]
  exact h2 _ (List.getElem_mem _)
theorem Mc.Ok.ltn (o : M.Ok) {a : Str} (h : a ∈ M.nms) : Lt a := by
  obtain ⟨d, hd, rfl, _⟩ := o.of_nm h
  exact o.lt d hd
def Mc.Ok.pm (o : M.Ok) : Pm Str := ⟨M.n, M.nms, M.mv, M.mu, fun _ h _ hs => o.mv_lt h hs, fun a h s t hs ht e =>
  mark_cong (itr_stable mk0_canon) hs ht e _ (o.row_mem h)⟩
end
theorem eI_inj {i j : Nat} (h : eI i = eI j) : i = j := by
  unfold eI at h; injection h with h; exact Int.ofNat_inj.mp h
theorem sh_eI {n i : Nat} : Sh n (eI i) := sh_int

/-- what is known of an own object of the class at C -/
structure Fk where
  f : Str
  k : Kn
def kIns (C : Addr) (fs : List (Str × Kn)) (no : List Str) : Kn :=
  ⟨fun G v => ∃ a dx vs, v = .ref a ∧ G a = some (.ins C dx vs) ∧ (∀ q ∈ fs, ∃ w, vs.lookup q.1 = some w ∧ q.2.p G w) ∧ ∀ m ∈ no, vs.lookup m = none,
    fun G G' v l ⟨a, dx, vs, e, h, q, r⟩ => ⟨a, dx, vs, e, l.at h (fun _ z => nomatch z), fun x hx => let ⟨w, h1, h2⟩ := q x hx; ⟨w, h1, x.2.mono _ _ _ l h2⟩, r⟩⟩
/-- a dict from texts: for each of them what is known of its value -/
def kMap {ι : Type} (dom : List ι) (key : ι → Str) (k : ι → Kn) : Kn :=
  ⟨fun G v => ∃ a o ps, v = .ref a ∧ G a = some o ∧ core o = .dK ps ∧ ∀ x ∈ dom, ∃ w, valV ps (.inr (key x)) = some w ∧ (k x).p G w,
    fun G G' v l ⟨a, o, ps, e, h, c, q⟩ => by
      obtain ⟨o', h', e'⟩ := l a o h
      exact ⟨a, o', ps, e, h', e'.trans c, fun x hx => let ⟨w, h1, h2⟩ := q x hx; ⟨w, h1, (k x).mono _ _ _ l h2⟩⟩⟩
def kMoves (M : Mc) : Kn := kMap M.ds (·.1) fun d => kD (eRow d.2)
def kMac (C : Addr) (M : Mc) (nm : List Str) : Kn := kIns C [("own_many", kD (eI M.n)), ("own_names", kD (eW nm)), ("own_moves", kMoves M), ("own_shows", kAny), ("own_marks", kD (eIs M.marks)), ("own_kinds", kAny)] ["mark"]
/-- nm: the machine's names in some order -/
structure Mc.Nm (M : Mc) (nm : List Str) : Prop where
  ok : M.Ok
  mem : ∀ a, a ∈ nm ↔ a ∈ M.nms
  len : nm.length = M.ds.length
theorem core_dK {o : HO} {ps : List (L2.Key × V)} (h : core o = .dK ps) : o = .dK ps ∨ ∃ od, o = .frz od (.dK ps) := by
  cases o with
  | frz od u =>
    cases u with
    | dK kvs => exact .inr ⟨od, by rw [show HO.dK kvs = .dK ps from h]⟩
    | _ => exact absurd h (by simp [core])
  | dK kvs => exact .inl h
  | _ => exact absurd h (by simp [core])
theorem rd_core {H : Hp} {a : Addr} {o : HO} {ps : List (L2.Key × V)} (e : H a = some o) (h : core o = .dK ps) : Rd H a (.dK ps) := by
  rcases core_dK h with rfl | ⟨od, rfl⟩
  · exact .inl e
  · exact .inr ⟨od, e⟩

/-- a tuple of ints, held one way or another; one without a dict -/
def kSq (l : List Int) : Kn := ⟨fun G v => ∃ a, v = .ref a ∧ Rd G a (.tup (l.map V.int)), fun _ _ _ le ⟨a, e, h⟩ => ⟨a, e, h.elim (fun z => .inl (le.tup z)) fun ⟨o, z⟩ => .inr ⟨o, le.at z fun _ y => nomatch y⟩⟩⟩
def kSh (l : List Int) : Kn := ⟨fun G v => ∃ a o, v = .ref a ∧ G a = some (.frz o (.tup (l.map V.int))) ∧ o.dict = none, fun _ _ _ le ⟨a, o, e, h, d⟩ => ⟨a, o, e, le.at h (fun _ y => nomatch y), d⟩⟩
theorem kSh_Sq {l : List Int} (G : Hp) (v : V) (h : (kSh l).p G v) : (kSq l).p G v := let ⟨a, o, e, h, _⟩ := h; ⟨a, e, .inr ⟨o, h⟩⟩
theorem rd_same {G H : Hp} {a : Addr} {u : HO} (s : Same G H) (h : Rd G a u) : Rd H a u := h.elim (fun z => .inl (s _ _ z)) fun ⟨o, z⟩ => .inr ⟨o, s _ _ z⟩
theorem kSq_of {l : List Int} (G : Hp) (v : V) (h : (kT (l.map fun i => kD (.int i))).p G v) : (kSq l).p G v := by
  obtain ⟨a, vs, e, hs, ax⟩ := h
  exact ⟨a, e, .inl (by rw [hs, allK_int ax])⟩
/-! ### reading fields, dicts -/
section
variable {md : Md} {m n k : Nat} {Γ : Env} {K : PySem.W.Frag} {te ta tb td ty : TE} {t : TA} {P P1 : Kn} {C : Addr} {fs : List (Str × Kn)} {no : List Str} {f : Str}
theorem ev_fld (hc : Cls K C) (hn : NoAttr K C f) (h : Ev md m n te Γ (kIns C fs no)) (hm : (f, P) ∈ fs) : Ev md m n (tFld K te f) Γ P := fun G H σ c Q q =>
  h G H σ c _ fun v H1 G1 g j ⟨a, dx, vs, e, hs, hf, _⟩ => by
    obtain ⟨w, h1, h2⟩ := hf _ hm
    exact ⟨a, C, dx, vs, w, e, g.gh _ _ hs, hc, hn, h1, q w H1 G1 g j h2⟩
theorem ev_prop {R : List Kn → Kn → Prop} (h : Ev md m n te Γ (kIns C fs no)) (hr : R [kIns C fs no] P) : Ev md m n (tProp C (spQ R) [] E0 te) Γ P := fun G H σ c Q q =>
  h G H σ c _ fun v H1 G1 g j p => by
    have p' := p
    obtain ⟨a, dx, vs, e, hs, _, _⟩ := p'
    subst e
    exact ⟨a, dx, vs, rfl, g.gh _ _ hs, G1, P, g.gh, ⟨_, hr, p, trivial⟩, fun w H2 G2 g2 p2 => q w H2 G2 (g.trans (fun a z => md.dom _ _ a j (md.muk a z)) g2.of0) (md.st _ _ _ j fun a o _ h => g2.same a o h) p2⟩
theorem ev_meth {R : List Kn → Kn → Prop} {nm : Str} {ks : List Kn} (h : Ev md m n te Γ (kIns C fs no)) (hno : nm ∈ no) (ha : EvA md n k t Γ ks) (hr : R (kIns C fs no :: ks) P) : Ev md m k (tMeth C nm (spQ R) [] E0 te t) Γ P := fun G H σ c Q q =>
  h G H σ c _ fun v H1 G1 g j p => by
    have p' := p
    obtain ⟨a, dx, vs, e, hs, _, hl⟩ := p'
    subst e
    refine ⟨a, dx, vs, rfl, g.gh _ _ hs, hl _ hno, ha G1 H1 σ (c.next g j) _ fun ws H2 G2 g2 j2 p2 => ?_⟩
    have g12 := g.trans (fun a z => md.dom _ _ a j (md.muk a z)) g2
    exact ⟨G2, P, g2.gh, ⟨_, hr, by rw [List.append_nil]; exact ⟨(kIns C fs no).mono _ _ _ g2.le p, p2⟩⟩, fun w H3 G3 g3 p3 => q w H3 G3 (g12.trans (fun a z => md.dom _ _ a j2 (md.muk a z)) g3.of0) (md.st _ _ _ j2 fun a o _ h => g3.same a o h) p3⟩
theorem ev_ixO {R : List Kn → Kn → Prop} (h : Ev md m n ta Γ (kIns C fs no)) (hb : Ev md n k tb Γ P1) (hr : R [kIns C fs no, P1] P) : Ev md m k (tOp (rIxO C (spQ R)) ta tb) Γ P :=
  ev_op h hb fun G H v w s j p1 p2 => by
    have p' := p1
    obtain ⟨a, dx, vs, e, hs, _, _⟩ := p'
    subst e
    exact fun Q q => ⟨a, dx, vs, rfl, s _ _ hs, G, P, s, ⟨_, hr, p1, p2, trivial⟩, fun w H2 G2 g2 p2 => q w H2 G2 g2.of0 (md.st _ _ _ j fun a o _ h => g2.same a o h) p2⟩
theorem et_ninO {R : List Kn → Kn → Prop} {b : Bool} (hb : Ev md m n tb Γ P1) (h : Ev md n k ta Γ (kIns C fs no)) (hr : R [kIns C fs no, P1] (kD (.bool b))) : EvT md m k (tTest (tOp (rNinO C (spQ R)) tb ta)) Γ (· = !b) := fun G H σ c Q q =>
  hb G H σ c _ fun v H1 G1 g1 j1 p1 => h G1 H1 σ (c.next g1 j1) _ fun w H2 G2 g2 j2 p2 => by
    have p' := p2
    obtain ⟨a, dx, vs, e, hs, _, _⟩ := p'
    subst e
    exact ⟨a, dx, vs, rfl, g2.gh _ _ hs, G2, kD (.bool b), g2.gh, ⟨_, hr, p2, P1.mono _ _ _ g2.le p1, trivial⟩, fun u H3 G3 g3 p3 => ⟨b, kD_bool.mp p3, !b, rfl,
      q _ H3 G3 ((g1.trans (fun a z => md.dom _ _ a j1 (md.muk a z)) g2).trans (fun a z => md.dom _ _ a j2 (md.muk a z)) g3.of0) (md.st _ _ _ j2 fun a o _ h => g3.same a o h) rfl⟩⟩
theorem ev_map {ι : Type} {dom : List ι} {key : ι → Str} {kf : ι → Kn} {x : ι} (h : Ev md m n td Γ (kMap dom key kf)) (hb : Ev md n k ty Γ (kD (.str (key x)))) (hx : x ∈ dom) : Ev md m k (tDGet td ty) Γ (kf x) := fun G H σ c Q q =>
  h G H σ c _ fun v H1 G1 g1 j1 p1 => hb G1 H1 σ (c.next g1 j1) _ fun w H2 G2 g2 j2 p2 => by
    obtain ⟨a, o, ps, e, hs, hc, hf⟩ := (kMap dom key kf).mono _ _ _ g2.le p1
    obtain ⟨z, h1, h2⟩ := hf x hx
    exact ⟨a, z, e, .inl ⟨ps, .inr (key x), rd_core (g2.gh _ _ hs) hc, kD_str.mp p2, h1.symm⟩, q z H2 G2 (g1.trans (fun a z => md.dom _ _ a j1 (md.muk a z)) g2) j2 h2⟩
theorem allK_ofI {G : Hp} : ∀ {l : List Int}, AllK G (l.map fun i => kD (.int i)) (l.map V.int)
  | [] => trivial
  | i :: l => ⟨.int i, allK_ofI⟩
theorem ev_lstSq {l : List Int} (h : EvA md m n t Γ [kSq l]) : Ev md m n (tCB (cLst K) t) Γ (kL (l.map fun i => kD (.int i))) :=
  ev_cb1 h fun G H v s jj ⟨a, e, hr⟩ => Out.new (o := .lst (l.map V.int)) s jj (fun p hp => ⟨p, _, rfl, upd_same, allK_ofI⟩) fun Q q => ⟨a, _, by rw [e], .inr (.inl (rd_same s hr)), fun z hz => q z hz⟩
theorem ev_tupSq {l : List Int} (h : EvA md m n t Γ [kSq l]) : Ev md m n (tCB (cTup K) t) Γ (kSq l) :=
  ev_cb1 h fun G H v s jj ⟨a, e, hr⟩ => Out.val s jj ⟨a, e, hr⟩ fun Q q => ⟨a, _, by rw [e], .inr ⟨.inl (rd_same s hr), e ▸ q⟩⟩
theorem ev_isS {x : Str} (ha : Ev md m n te Γ (kD (.str x))) : Ev md m n (tCB (rIsi K) (tCons te (tCons (tC (.ty "str")) tNil))) Γ (kD (.bool true)) := fun G H σ c Q q =>
  ha G H σ c _ fun v H1 G1 g j p => ⟨v, .ty "str", .type "str", .type "str", true, rfl, .ty _, by rw [kD_str.mp p]; exact .base (.str _), by rfl, q _ H1 G1 g j (.bl _)⟩
end

/-! ### defs -/
section
variable {P : Program} {w : World} {K : PySem.W.Frag} {mg : Str → Option Value} {base : Heap} {k : Nat} {x q : Str} {st : Stmt} {N ps : List Str} {f C : Addr} {fd : FuncData} {sp : Sp} {dvs : List V} {t : TS} {R : List Kn → Kn → Prop}
theorem fn_S (F : FunD K x q (defArgs st) (defBody st) (defScope st) dvs [] f fd) (S : FnScope N ps (defScope st)) (len : ∀ vs H Q E, sp vs H Q E → vs.length = ps.length)
    (der : ∀ (cdv : Value) (A : Around) (outer : List PySem.Env) (s : Shared) (H : Hp) (E : XK), Room k (A.deeper (envOfC q (defScope st) s.heap.objs.size f cdv)) → PSs (cxOf CX0 P w K mg base N q (defScope st) f cdv A outer s H E).nox (defBody st) t)
    (run : ∀ vs H Q E, sp vs H Q E → t { nx := fun _ H' => Q .non H', rt := Q } (L2.start N vs) H) : FnOk P w K mg base CX0 (k + 1) f fd ps sp :=
  F.ok S len fun cdv A outer s H vs Q E hr h => ⟨t, (der cdv A outer s H E hr).nox, run vs H Q E h⟩
theorem spQ_len (len : ∀ ks Pk, R ks Pk → ks.length = ps.length) : ∀ vs H Q E, spQ R vs H Q E → vs.length = ps.length := fun vs H Q E ⟨G, Pk, _, ⟨ks, hr, a⟩, _⟩ => by
  rw [← AllK.len a]; exact len ks Pk hr
theorem fn_Q (F : FunD K x q (defArgs st) (defBody st) (defScope st) dvs [] f fd) (S : FnScope N ps (defScope st)) (hN : ps.length ≤ N.length) (len : ∀ ks Pk, R ks Pk → ks.length = ps.length)
    (der : ∀ (cdv : Value) (A : Around) (outer : List PySem.Env) (s : Shared) (H : Hp) (E : XK), Room k (A.deeper (envOfC q (defScope st) s.heap.objs.size f cdv)) → PSs (cxOf CX0 P w K mg base N q (defScope st) f cdv A outer s H E).nox (defBody st) t)
    (body : ∀ ks Pk, R ks Pk → Tr M0 0 (ks.map some ++ List.replicate (N.length - ks.length) none) o0 t (eRet 0 Pk) ∨ (Pk = kD .none ∧ Tr M0 0 (ks.map some ++ List.replicate (N.length - ks.length) none) o0 t (eEnd 0))) : FnOk P w K mg base CX0 (k + 1) f fd ps (spQ R) :=
  fn_S F S (spQ_len len) der fun vs H Q E h => tr_run h fun ks Pk hr => ⟨by rw [len ks Pk hr]; exact hN, body ks Pk hr⟩
theorem cal_of (F : ∃ fd, FnP K x st f fd ∧ FnOk P w K mg base CX0 k f fd ps sp) (hm : mg x = some (.ref f))
    (hb : ∀ (kV doc pm : Value) (an : Option Addr) (cdv ct : Value) (us : List Value), us.length = ps.length → bindArgs (PySem.W.fnOf x x (defArgs st) (defBody st) (defScope st) .none kV doc pm an cdv ct) ⟨us, []⟩ = pure (ps.zip us)) : Cal P w K mg base k x ps sp := by
  obtain ⟨fd, F, ok⟩ := F
  exact ⟨f, fd, ok, hm, F.kp, F.bindsN hb⟩
end
-- bindArgs of plain positional parameters
/-- a def's name, its object, its datum -/
abbrev Fd (K : PySem.W.Frag) (mg : Str → Option Value) (x : Str) (i : Nat) : Prop := ∃ f fd, FnP K x (top i) f fd ∧ mg x = some (.ref f)
theorem cal_Q {P : Program} {w : World} {K : PySem.W.Frag} {mg : Str → Option Value} {base : Heap} {k i : Nat} {x : Str} {N ps : List Str} {t : TS} {R : List Kn → Kn → Prop} (F : Fd K mg x i) (S : FnScope N ps (defScope (top i))) (hN : ps.length ≤ N.length)
    (hb : ∀ (kV doc pm : Value) (an : Option Addr) (cdv ct : Value) (us : List Value), us.length = ps.length → bindArgs (PySem.W.fnOf x x (defArgs (top i)) (defBody (top i)) (defScope (top i)) .none kV doc pm an cdv ct) ⟨us, []⟩ = pure (ps.zip us))
    (len : ∀ ks Pk, R ks Pk → ks.length = ps.length)
    (der : ∀ (f : Addr) (cdv : Value) (A : Around) (outer : List PySem.Env) (s : Shared) (H : Hp) (E : XK), Room k (A.deeper (envOfC x (defScope (top i)) s.heap.objs.size f cdv)) → PSs (cxOf CX0 P w K mg base N x (defScope (top i)) f cdv A outer s H E).nox (defBody (top i)) t)
    (body : ∀ ks Pk, R ks Pk → Tr M0 0 (ks.map some ++ List.replicate (N.length - ks.length) none) o0 t (eRet 0 Pk) ∨ (Pk = kD .none ∧ Tr M0 0 (ks.map some ++ List.replicate (N.length - ks.length) none) o0 t (eEnd 0))) : Cal P w K mg base (k + 1) x ps (spQ R) := by
  obtain ⟨f, fd, F, hm⟩ := F
  exact cal_of ⟨fd, F, fn_Q F S hN len (der f) body⟩ hm hb
theorem cal_S {P : Program} {w : World} {K : PySem.W.Frag} {mg : Str → Option Value} {base : Heap} {k i : Nat} {x : Str} {N ps : List Str} {t : TS} {sp : Sp} (F : Fd K mg x i) (S : FnScope N ps (defScope (top i)))
    (hb : ∀ (kV doc pm : Value) (an : Option Addr) (cdv ct : Value) (us : List Value), us.length = ps.length → bindArgs (PySem.W.fnOf x x (defArgs (top i)) (defBody (top i)) (defScope (top i)) .none kV doc pm an cdv ct) ⟨us, []⟩ = pure (ps.zip us))
    (len : ∀ vs H Q E, sp vs H Q E → vs.length = ps.length)
    (der : ∀ (f : Addr) (cdv : Value) (A : Around) (outer : List PySem.Env) (s : Shared) (H : Hp) (E : XK), Room k (A.deeper (envOfC x (defScope (top i)) s.heap.objs.size f cdv)) → PSs (cxOf CX0 P w K mg base N x (defScope (top i)) f cdv A outer s H E).nox (defBody (top i)) t)
    (run : ∀ vs H Q E, sp vs H Q E → t { nx := fun _ H' => Q .non H', rt := Q } (L2.start N vs) H) : Cal P w K mg base (k + 1) x ps sp := by
  obtain ⟨f, fd, F, hm⟩ := F
  exact cal_of ⟨fd, F, fn_S F S len (der f) run⟩ hm hb
end Ll
end

section
set_option Elab.async false
set_option linter.all false
set_option maxRecDepth 100000
set_option maxHeartbeats 1000000
/-! Ll: more of bodies: loops over something of several, objects within tuples, nested comprehensions, dicts of pairs. -/
namespace Ll
open PySem PySem.Spec PyProof.Rows L2
section
variable {md : Md} {m n k : Nat} {Γ Γ' : Env} {O : Op md} {K : PySem.W.Frag} {te ta tb tl : TE} {tt : TT} {t0 : TA} {P P1 P2 : Kn} {t u t1 rest : TS} {E : Es md}
theorem St.of {G H : Hp} {σ : L2.St} (c : Ctx md n G H σ Γ) : St md n Γ o0 G H G G H σ := ⟨Gr.refl c.gh, Same.refl G, c, trivial⟩
theorem for_core {J : It} {g : TG} {tb : TS} {ks : List Kn} {n0 : Nat} {G0 H0 Gb G1 H1 : Hp} {σ : L2.St} {D : Ends} (s1 : St md n0 Γ O G0 H0 Gb G1 H1 σ) (wk : Wk J ks G1) (d : Gd md E G0 H0 Gb D) (I : Nat → Asn md) (h0 : I 0 n0 Γ O)
    (turn : ∀ i k n Γ' O', ks[i]? = some k → I i n Γ' O' → ∃ Γ'' js, Tgt g k Γ' Γ'' js ∧ Tr md n Γ'' O' tb { nx := I (i + 1), ct := I (i + 1), bk := E.nx, rt := E.rt })
    (done : ∀ n Γ' O', I ks.length n Γ' O' → E.nx n Γ' O') :
    ∃ W : Nat → Nat → L2.St → Hp → Prop, (∃ m, W 0 m σ H1) ∧ ∀ i m σ H, W i m σ H →
      (J.stop i H ∧ D.nx σ H) ∨ (J.go i H ∧ ∃ N : L2.St → Hp → Prop, (∀ σ' H', N σ' H' → ∃ m', m' < m ∧ W (i + 1) m' σ' H') ∧ ∀ x H', J.yld i H x H' → g x σ H' fun σ2 H2 => tb { D with nx := N, ct := N, bk := D.nx } σ2 H2) := by
  obtain ⟨Y, w, y⟩ := wk
  refine for_it w (fun i σ' H' => ∃ n Γ' O' G', I i n Γ' O' ∧ St md n Γ' O' G0 H0 G1 G' H' σ') ⟨n0, Γ, O, G1, h0, s1.gr, Same.refl G1, s1.c, s1.o⟩ ?_ ?_ ?_
  · rintro i σ' H' _ ⟨n, Γ', O', G', _, s'⟩
    exact s'.sb.trans s'.c.gh
  · rintro i x σ' H' H'' hi ⟨n, Γ', O', G', hI, s'⟩ hy
    obtain ⟨k, hk⟩ : ∃ k, ks[i]? = some k := ⟨ks[i], by simp [hi]⟩
    obtain ⟨G3, g3, px⟩ := y i k H' x H'' G' hk s'.sb s'.c.gh hy
    have g3' : Gr md.mu G' H' G3 H'' := g3.of0
    have s3 := s'.next g3' (s'.c.j0 g3)
    obtain ⟨Γ'', js, tg, tr⟩ := turn i k n Γ' O' hk hI
    refine tg G3 H'' σ' x g3.gh s3.c.env px _ fun σ2 e2 _ _ => tr G0 H0 G1 G3 H'' σ2 (s3.env e2) _ ⟨fun n Γ O G H σ z s => ⟨n, Γ, O, G, z, s⟩, d.rt, fun n Γ O G H σ z s => d.nx n Γ O G H σ z (s.rebase s1.sb), fun n Γ O G H σ z s => ⟨n, Γ, O, G, z, s⟩⟩
  · rintro σ' H' ⟨n, Γ', O', G', hI, s'⟩
    exact d.nx _ _ _ _ _ _ (done _ _ _ hI) (s'.rebase s1.sb)
/-- for over a list of which one of several things is known -/
theorem tr_forL {ι : Type} {S : ι → Prop} {kf : ι → List Kn} {g : TG} {tb : TS} {n0 : Nat} (h : Ev md m n0 tl Γ (kX S fun x => kL (kf x)))
    (r : ∀ x, S x → ∃ I : Nat → Asn md, I 0 n0 Γ O ∧
      (∀ i k n Γ' O', (kf x)[i]? = some k → I i n Γ' O' → ∃ Γ'' js, Tgt g k Γ' Γ'' js ∧ Tr md n Γ'' O' tb { nx := I (i + 1), ct := I (i + 1), bk := E.nx, rt := E.rt }) ∧
      ∀ n Γ' O', I (kf x).length n Γ' O' → E.nx n Γ' O') : Tr md m Γ O (tFor (iList K tl) g tb) E := fun G0 H0 Gb G H σ s D d =>
  h G H σ s.c _ fun v H1 G1 g1 j1 ⟨x, sx, a, xs, e, hs, ax⟩ => by
    obtain ⟨I, h0, turn, done⟩ := r x sx
    exact ⟨a, e, ⟨xs, SqL.of (g1.gh _ _ hs)⟩, for_core (s.next g1 j1) (wk_seq (fun H _ => (walk_list (K := K) (a := a) (xs := xs)).mono (fun H s => SqL.of (s _ _ hs)) fun _ _ _ _ _ _ y => y) ax) d I h0 turn done⟩
/-- x -= e of ints -/
theorem tr_aug {i : Nat} {f : Int → Int → Int} {a b : Int} (hi : Γ[i]? = some (some (kD (.int a)))) (h : Ev md m n te Γ (kD (.int b))) (r : Tr md n (Γ.set i (some (kD (.int (f a b))))) O rest E) : Tr md m Γ O (tSeq (tAug i te (ipI f)) rest) E := fun G0 H0 Gb G H σ s D d => by
  obtain ⟨v, hv, pv⟩ := s.c.env.get i _ hi
  refine ⟨v, hv, h G H σ s.c _ fun w H1 G1 g j p => ⟨a, b, kD_int.mp pv, kD_int.mp p, r G0 H0 Gb G1 H1 _ ((s.next g j).set (by rw [List.getElem?_eq_some_iff] at hi; exact hi.1) (.int _)) D d⟩⟩
/-- something new that nobody needs to know -/
theorem St.extra {G0 H0 Gb G H : Hp} {σ : L2.St} (s : St md m Γ O G0 H0 Gb G H σ) {p : Addr} {o : HO} (hp : H p = none) : St md m Γ O G0 H0 Gb G (upd H p o) σ :=
  s.next (G2 := G) ⟨Same.refl G, fun a u e => by rw [upd_ne (ne_of_none e (s.c.gh.free hp))]; exact s.c.gh a u e, fun a u _ e => same_new hp a u e, fun _ _ h => h⟩ (md.st _ _ _ s.c.j fun a u _ e => same_new hp a u e)
/-- x, y = (e, new) by way of a tuple -/
theorem tr_tup2new {i j : Nat} {tn : TE} {o : HO} {k : Ob} (h : Ev md m n te Γ P1) (hn : New tn o) (hk : ∀ G, k.ok G o) (hi : i < Γ.length) (hj : j < Γ.length)
    (r : ∀ p, Tr md n ((Γ.set i (some P1)).set j (some (kP p))) (oOb p k) rest E) : Tr md m Γ o0 (tSeq (tAsg (tTup (tCons te (tCons tn tNil))) (gTup K 2 (gCons (gName i) (gCons (gName j) gNil)))) rest) E := fun G0 H0 Gb G H σ s D d =>
  h G H σ s.c _ fun v H1 G1 g j1 p1 => hn σ H1 _ fun p hp => ⟨(show 2 ≤ sizeLine by decide), fun q hq => by
    have s2 := ((s.next g j1).open' hp (hk G1)).extra (o := .tup [v, .ref p]) hq
    refine ⟨q, _, rfl, SqT.of upd_same, rfl, v, [.ref p], rfl, .ref p, [], rfl, rfl, ?_⟩
    exact r p G0 H0 Gb G1 _ _ ((s2.set hi p1).set (by rw [List.length_set]; exact hj) rfl) D d⟩
/-- xs.extend(e), the last of a body -/
theorem tr_extL {i : Nat} {p : Addr} {ks ls : List Kn} (h : Ev md m n te Γ (kL ls)) (hi : Γ[i]? = some (some (kP p))) (hl : ks.length + ls.length ≤ 1000000) (r : E.nx n Γ (oOb p (bL (ks ++ ls)))) : Tr md m Γ (oOb p (bL ks)) (tDrop (tBM K "list" rExtend (tVar i) (tCons te tNil))) E := fun G0 H0 Gb G H σ s D d => by
  obtain ⟨v, hv, ev⟩ := s.c.env.get i _ hi
  subst ev
  obtain ⟨_, _, _, o, hp, xs, eo, _⟩ := s.o
  subst eo
  refine ⟨.ref p, hv, .inl ⟨rfl, xs, SqL.of hp⟩, h G H σ s.c _ fun v H1 G1 g j1 ⟨b, zs, eb, hb, az⟩ => ?_⟩
  have s1 := s.next g j1
  obtain ⟨_, _, _, o1, hp1, ys, eo1, a1⟩ := s1.o
  subst eo1
  exact ⟨p, b, ys, zs, rfl, by rw [eb], hp1, g.gh _ _ hb, by rw [← AllK.len a1, ← AllK.len az]; exact Nat.le_trans hl (by decide), d.nx _ _ _ _ _ _ r (s1.write ⟨ys ++ zs, rfl, AllK.app az a1⟩)⟩
/-- the known part without an address -/
def less (G : Hp) (p : Addr) : Hp := fun a => if a = p then none else G a
theorem less_same {G : Hp} {p : Addr} : less G p p = none := by simp [less]
theorem less_ne {G : Hp} {p a : Addr} (h : a ≠ p) : less G p a = G a := by simp [less, h]
mutual
theorem dq_less {G : Hp} {p : Addr} (h1 : ∀ xs, G p ≠ some (.lst xs)) (h2 : ∀ xs, G p ≠ some (.tup xs)) : ∀ {v : V} {d : PyData}, Dq G v d → Dq (less G p) v d
  | _, _, .non => .non
  | _, _, .bl b => .bl b
  | _, _, .int i => .int i
  | _, _, .str x => .str x
  | _, _, .lst (a := a) (vs := vs) h r => .lst (by have ne : a ≠ p := (fun q => h1 vs (by rw [← q]; exact h)); rw [less_ne ne]; exact h) (dqs_less h1 h2 r)
  | _, _, .tup (a := a) (vs := vs) h r => .tup (by have ne : a ≠ p := (fun q => h2 vs (by rw [← q]; exact h)); rw [less_ne ne]; exact h) (dqs_less h1 h2 r)
theorem dqs_less {G : Hp} {p : Addr} (h1 : ∀ xs, G p ≠ some (.lst xs)) (h2 : ∀ xs, G p ≠ some (.tup xs)) : ∀ {vs : List V} {ds : List PyData}, DqAll G vs ds → DqAll (less G p) vs ds
  | _, _, .nil => .nil
  | _, _, .cons h r => .cons (dq_less h1 h2 h) (dqs_less h1 h2 r)
end
/-- known without an object of such a kind -/
def KLess (T : HO → Prop) (P : Kn) : Prop := ∀ (G : Hp) (p : Addr) (v : V) (o : HO), G p = some o → T o → P.p G v → P.p (less G p) v
def NoSeq (o : HO) : Prop := (∀ xs, o ≠ .lst xs) ∧ ∀ xs, o ≠ .tup xs
theorem kless_D {T : HO → Prop} (hT : ∀ o, T o → NoSeq o) {d : PyData} : KLess T (kD d) := fun G p v o e t h => dq_less (fun xs z => (hT o t).1 xs (Option.some.inj (e.symm.trans z))) (fun xs z => (hT o t).2 xs (Option.some.inj (e.symm.trans z))) h
/-- data found while the object being built is looked at as it stands -/
theorem ev_peekP {i : Nat} {p : Addr} {k : Ob} {T : HO → Prop} (hl : KLess T P2) {G0 H0 Gb G H : Hp} {σ : L2.St} (s : St md m Γ (oOb p k) G0 H0 Gb G H σ) (hi : Γ[i]? = some (some (kP p))) (hk : ∀ G o, G p = some o → k.ok G o → P1.p G (.ref p))
    (nt : ∀ G o, k.ok G o → T o) (h : Ev md m n te (Γ.set i (some P1)) P2) {Q : VK} (q : ∀ v H3 G3, St md n Γ (oOb p k) G0 H0 Gb G3 H3 σ → P2.p G3 v → Q v H3) : te σ H Q := by
  obtain ⟨o, hp, ho, s1⟩ := s.close
  obtain ⟨v, hv, ev⟩ := s1.c.env.get i _ hi
  subst ev
  obtain ⟨nk, h0, gp, _⟩ := s.o
  have c1 : Ctx md m (upd G p o) H σ (Γ.set i (some P1)) := ⟨s1.c.gh, s1.c.j, s1.c.sep, s1.c.env.put hv (hk _ o upd_same (k.mono _ _ _ (le_same (same_new gp)) ho))⟩
  refine h _ H σ c1 _ fun w H2 G2 g j pw => ?_
  have e2 : G2 p = some o := g.gg _ _ upd_same
  have sg : Same G (less G2 p) := fun a u e => by
    rw [less_ne (ne_of_none e gp)]
    exact g.gg a u (same_new gp a u e)
  have gh : Same (less G2 p) H2 := fun a u e => by
    by_cases q : a = p
    · subst q; rw [less_same] at e; cases e
    · rw [less_ne q] at e; exact g.gh a u e
  have sep : ∀ a, md.mu a → less G2 p a = none := fun a ha => by
    by_cases q : a = p
    · subst q; exact less_same
    · rw [less_ne q]; exact g.nw a (s.c.dm a ha) (by rw [upd_ne q]; exact s.c.sep a ha)
  refine q w H2 (less G2 p) ⟨⟨s.gr.gg.trans sg, gh, fun a u hn e => g.hh a u hn (s.gr.hh a u hn e), fun a hne e => ?_⟩, s.sb.trans sg, ⟨gh, j, sep, s.c.env.mono (le_same sg)⟩, nk, h0, less_same, o, g.hh p o (fun z => nk (md.muk p z)) hp, k.mono _ _ _ (le_same sg) ho⟩ (hl _ _ _ o e2 (nt _ _ ho) pw)
  by_cases q : a = p
  · subst q; exact less_same
  · rw [less_ne q]
    have ha : G a = none := s.gr.nw a hne e
    by_cases hm : md.mu a
    · exact g.nw a (s.c.dm a hm) (by rw [upd_ne q]; exact ha)
    · cases eh : H0 a with
      | none => exact absurd eh hne
      | some u => exact g.nw a (by rw [s.gr.hh a u hm eh]; exact fun z => nomatch z) (by rw [upd_ne q]; exact ha)
theorem ev_peek {i : Nat} {p : Addr} {k : Ob} {d : PyData} {G0 H0 Gb G H : Hp} {σ : L2.St} (s : St md m Γ (oOb p k) G0 H0 Gb G H σ) (hi : Γ[i]? = some (some (kP p))) (hk : ∀ G o, G p = some o → k.ok G o → P1.p G (.ref p))
    (nt : ∀ G o, k.ok G o → (∀ xs, o ≠ .lst xs) ∧ ∀ xs, o ≠ .tup xs) (h : Ev md m n te (Γ.set i (some P1)) (kD d)) {Q : VK} (q : ∀ v H3 G3, St md n Γ (oOb p k) G0 H0 Gb G3 H3 σ → Dq G3 v d → Q v H3) : te σ H Q :=
  ev_peekP (T := NoSeq) (kless_D fun _ h => h) s hi hk nt h q
/-- one of several things that an object being built may be -/
theorem tr_openO {ι : Type} {S : ι → Prop} {p : Addr} {k : Ob} {k' : ι → Ob} (h : ∀ G o, k.ok G o → ∃ y, S y ∧ (k' y).ok G o) (r : ∀ y, S y → Tr md m Γ (oOb p (k' y)) t E) : Tr md m Γ (oOb p k) t E := fun G0 H0 Gb G H σ s D d => by
  obtain ⟨nk, h0, gp, o, hp, ho⟩ := s.o
  obtain ⟨y, sy, hy⟩ := h _ _ ho
  exact r y sy G0 H0 Gb G H σ ⟨s.gr, s.sb, s.c, nk, h0, gp, o, hp, hy⟩ D d
theorem tr_setO {i l : Nat} {p : Addr} {k : Ob} {d : PyData} (hi : Γ[i]? = some (some (kP p))) (hk : ∀ G o, G p = some o → k.ok G o → P1.p G (.ref p))
    (nt : ∀ G o, k.ok G o → (∀ xs, o ≠ .lst xs) ∧ ∀ xs, o ≠ .tup xs) (h : Ev md m n te (Γ.set i (some P1)) (kD d)) (hl : l < Γ.length) (r : Tr md n (Γ.set l (some (kD d))) (oOb p k) rest E) : Tr md m Γ (oOb p k) (tSeq (tAsg te (gName l)) rest) E := fun G0 H0 Gb G H σ s D dd =>
  ev_peek s hi hk nt h fun v H3 G3 s3 pv => r G0 H0 Gb G3 H3 _ (s3.set hl pv) D dd

/-! ### nested comprehension, no draws -/
theorem it_gen {J : It} {N : Nat} {Gp : Hp → Prop} {Y : Nat → Hp → V → Hp → Prop} (w : Walk J N Gp Y) {Hs : Hp} (Pv : Nat → Hp → Prop) (h0 : Pv 0 Hs) (hG : ∀ i H, i ≤ N → Pv i H → Gp H) {Qd : Hp → Prop} {Bd : V → Hp → (Hp → Prop) → Prop}
    (hs : ∀ i x H H', i < N → Pv i H → Y i H x H' → Bd x H' (Pv (i + 1))) (hd : ∀ H, Pv N H → Qd H) :
    ∃ W : Nat → Nat → Hp → Prop, (∃ m, W 0 m Hs) ∧ ∀ i m H, W i m H → (J.stop i H ∧ Qd H) ∨ (J.go i H ∧ ∃ Nx : Hp → Prop, (∀ H', Nx H' → ∃ m', m' < m ∧ W (i + 1) m' H') ∧ ∀ x H', J.yld i H x H' → Bd x H' Nx) := by
  refine ⟨fun i m H => m = N - i ∧ i ≤ N ∧ Pv i H, ⟨N, by simp, Nat.zero_le _, h0⟩, ?_⟩
  rintro i m H ⟨rfl, hi, p⟩
  have q := hG i H hi p
  by_cases hlt : i < N
  · exact .inr ⟨w.goes i H hlt q, Pv (i + 1), fun H' p' => ⟨N - (i + 1), by omega, rfl, hlt, p'⟩, fun x H' y => hs i x H H' hlt p (w.yields i H x H' hlt q y)⟩
  · have e : i = N := by omega
    subst e
    exact .inl ⟨w.stops H q, hd H p⟩
theorem ev_lc2X {ι κ : Type} {wi wi1 : TI} {g g1 : TG} {tt1 : TT} {vs vs1 js js1 : List Nat} {n0 B : Nat} {xs : List ι} {ys : ι → List κ} {kf : ι → Kn} {kf1 : ι → κ → Kn} {pf : ι → κ → Kn} (src : Src md m n0 wi Γ (xs.map kf)) (hb : ∀ x ∈ xs, (ys x).length ≤ B) (hz : xs.length * B ≤ 1000000)
    (Γx : ι → Env) (Γy : ι → κ → Env) (tgt : ∀ x, Tgt g (kf x) (wipeE Γ vs) (Γx x) js) (src1 : ∀ x ∈ xs, Src md n0 n0 wi1 (Γx x) ((ys x).map (kf1 x))) (tgt1 : ∀ x y, Tgt g1 (kf1 x y) (wipeE (Γx x) vs1) (Γy x y) js1)
    (bf : ι → κ → Bool) (test : ∀ x ∈ xs, ∀ y ∈ ys x, EvT md n0 n0 tt1 (Γy x y) (· = bf x y)) (turn : ∀ x ∈ xs, ∀ y ∈ ys x, bf x y = true → Ev md n0 n0 te (Γy x y) (pf x y)) (hjs : ∀ j ∈ js, j ∈ vs := by decide) (hjs1 : ∀ j ∈ js1, j ∈ vs1 := by decide) (hv1 : ∀ j ∈ vs1, j ∈ vs := by decide) :
    Ev md m n0 (tLc2 wi g tYes wi1 g1 tt1 te vs vs1) Γ (kL (xs.flatMap fun x => ((ys x).filter (bf x)).map (pf x))) := fun G H σ c Q q =>
  src G H σ c _ fun J H1 G1 g1' j1 ⟨Y, w, y⟩ => fun D hD => by
    have c1 : Ctx md n0 G1 H1 σ Γ := c.next g1' j1
    let acc : Nat → List Kn := fun i => (xs.take i).flatMap fun x => ((ys x).filter (bf x)).map (pf x)
    have accl : ∀ i, i ≤ xs.length → (acc i).length ≤ i * B := fun i => by
      induction i with
      | zero => intro _; simp [acc]
      | succ i ih =>
        intro hi
        have h1 := ih (by omega)
        have e : xs[i]? = some xs[i] := by simp [show i < xs.length by omega]
        have h2 : ((ys xs[i]).filter (bf xs[i])).length ≤ B := Nat.le_trans (List.length_filter_le _ _) (hb _ (List.getElem_mem _))
        show ((xs.take (i + 1)).flatMap _).length ≤ _
        rw [List.take_succ, e, List.flatMap_append, List.length_append]
        have h3 : ((acc i).length) ≤ i * B := h1
        simp only [Option.toList, List.flatMap_cons, List.flatMap_nil, List.append_nil, List.length_map]
        have : (i + 1) * B = i * B + B := by rw [Nat.add_mul, Nat.one_mul]
        show (acc i).length + _ ≤ _
        omega
    have s0 : St md n0 (wipeE Γ vs) (oOb D (bL [])) G1 H1 G1 G1 (upd H1 D (.lst [])) (L2.wipe σ vs) := ((St.of c1).env (c1.env.wipe vs)).open' hD ⟨[], rfl, trivial⟩
    refine it_gen w (fun i H' => ∃ G', St md n0 (wipeE Γ vs) (oOb D (bL (acc i))) G1 H1 G1 G' H' (L2.wipe σ vs)) ⟨G1, s0⟩ (fun i H' _ ⟨G', s'⟩ => s'.sb.trans s'.c.gh) (fun i x H' H'' hi ⟨G', s'⟩ hy => ?_) fun H' ⟨G', s'⟩ => ?_
    · rw [List.length_map] at hi
      have ex : xs[i]? = some xs[i] := by simp [hi]
      generalize xs[i] = xi at ex
      have hk : (xs.map kf)[i]? = some (kf xi) := by rw [List.getElem?_map, ex]; rfl
      have hm : xi ∈ xs := List.mem_of_getElem? ex
      obtain ⟨G3, g3, px⟩ := y i _ H' x H'' G' hk s'.sb s'.c.gh hy
      have s3 := s'.next (g3.of0 (mu := md.mu)) (s'.c.j0 g3)
      refine tgt xi G3 H'' _ x g3.gh s3.c.env px _ fun σ2 e2 hl hk2 => ⟨?_, ?_⟩
      · refine (wipe_ext vs hl fun j hj => hk2 j fun z => hj (hjs j z)).trans ?_
        exact wipe_ext vs (by rw [wipe_length]) fun j hj => wipe_keep vs hj
      · have s4 := s3.env e2
        refine src1 xi hm G3 H'' σ2 s4.c _ fun J1 H4 G4 g4 j4 ⟨Y1, w1, y1⟩ => ?_
        have s5 := s4.next g4 j4
        have s6 := s5.env (s5.c.env.wipe vs1)
        refine it_gen w1 (fun j H' => ∃ G', St md n0 (wipeE (Γx xi) vs1) (oOb D (bL (acc i ++ (((ys xi).take j).filter (bf xi)).map (pf xi)))) G1 H1 G4 G' H' (L2.wipe σ2 vs1)) ⟨G4, ?_⟩ (fun j H' _ ⟨G', s'⟩ => s'.sb.trans s'.c.gh) (fun j x1 H5 H6 hj ⟨G5, s6⟩ hy1 => ?_) fun H5 ⟨G5, s6⟩ => ?_
        · rw [List.take_zero, List.filter_nil, List.map_nil, List.append_nil]
          exact ⟨s6.gr, Same.refl G4, s6.c, s6.o⟩
        · rw [List.length_map] at hj
          have ey : (ys xi)[j]? = some (ys xi)[j] := by simp [hj]
          generalize (ys xi)[j] = yj at ey
          have hk1 : ((ys xi).map (kf1 xi))[j]? = some (kf1 xi yj) := by rw [List.getElem?_map, ey]; rfl
          have hm1 : yj ∈ ys xi := List.mem_of_getElem? ey
          obtain ⟨G7, g7, px1⟩ := y1 j _ H5 x1 H6 G5 hk1 s6.sb s6.c.gh hy1
          have s7 := s6.next (g7.of0 (mu := md.mu)) (s6.c.j0 g7)
          refine tgt1 xi yj G7 H6 _ x1 g7.gh s7.c.env px1 _ fun σ3 e3 hl3 hk3 => ⟨?_, ?_⟩
          · refine (wipe_ext vs1 hl3 fun l hl => hk3 l fun z => hl (hjs1 l z)).trans ?_
            exact wipe_ext vs1 (by rw [wipe_length]) fun l hl => wipe_keep vs1 hl
          · have s8 := s7.env e3
            refine test xi hm yj hm1 G7 H6 σ3 s8.c _ fun b H8 G8 g8 j8 eb => ?_
            have s9 := s8.next g8 j8
            have keepE : EnvOk G8 (L2.wipe σ2 vs1) (wipeE (Γx xi) vs1) := s6.c.env.mono (le_same (g7.gg.trans g8.gg))
            cases b with
            | false =>
              refine ⟨G8, ?_⟩
              rw [List.take_succ, ey, List.filter_append]
              have : List.filter (bf xi) (some yj).toList = [] := by simp [← eb]
              rw [this, List.append_nil]
              exact s9.env keepE
            | true =>
              refine turn xi hm yj hm1 eb.symm G8 H8 σ3 s9.c _ fun v H9 G9 g9 j9 pv => ?_
              have sA := s9.next g9 j9
              have keepE9 : EnvOk G9 (L2.wipe σ2 vs1) (wipeE (Γx xi) vs1) := keepE.mono g9.le
              obtain ⟨_, _, _, o, hp, zs, eo, az⟩ := sA.o
              subst eo
              refine ⟨zs, hp, ?_, G9, ?_⟩
              · rw [← AllK.len az]
                have h1 := accl i (by omega)
                have h2 := hb xi hm
                have h3 : (((ys xi).take j).filter (bf xi)).length ≤ j := Nat.le_trans (List.length_filter_le _ _) (by rw [List.length_take]; omega)
                have h4 : (i + 1) * B ≤ xs.length * B := Nat.mul_le_mul_right _ (by omega)
                have h5 : (i + 1) * B = i * B + B := by rw [Nat.add_mul, Nat.one_mul]
                rw [List.length_append, List.length_map]
                exact Nat.lt_of_lt_of_le (by omega : (acc i).length + (((ys xi).take j).filter (bf xi)).length < 1000001) (by decide)
              · rw [List.take_succ, ey, List.filter_append, List.map_append, ← List.append_assoc]
                have : List.map (pf xi) (List.filter (bf xi) (some yj).toList) = [pf xi yj] := by simp [← eb]
                rw [this]
                exact (sA.env keepE9).write ⟨zs ++ [v], rfl, AllK.app (show AllK G9 [pf xi yj] [v] from ⟨pv, trivial⟩) az⟩
        · refine ⟨G5, ?_⟩
          rw [List.length_map, List.take_of_length_le (Nat.le_refl _)] at s6
          have e1 : acc (i + 1) = acc i ++ ((ys xi).filter (bf xi)).map (pf xi) := by
            show (xs.take (i + 1)).flatMap _ = _
            rw [List.take_succ, ex, List.flatMap_append]
            simp [acc]
          rw [e1]
          have eG : Same G' G5 := (g3.gg.trans g4.gg).trans s6.sb
          exact (s6.env (s'.c.env.mono (le_same eG))).rebase (s'.sb.trans (g3.gg.trans g4.gg))
    · rw [List.length_map, show acc xs.length = xs.flatMap fun x => ((ys x).filter (bf x)).map (pf x) by show (xs.take _).flatMap _ = _; rw [List.take_of_length_le (Nat.le_refl _)]] at s'
      obtain ⟨o, hp, ⟨zs, eo, az⟩, s2⟩ := s'.close
      subst eo
      refine q _ _ _ (g1'.trans (fun a z => md.dom _ _ a j1 (md.muk a z)) s2.gr) s2.c.j ⟨D, zs, rfl, upd_same, ?_⟩
      obtain ⟨_, _, gp, _⟩ := s'.o
      exact AllK.mono (le_same (same_new gp)) az
end
end Ll
end

section
set_option Elab.async false
set_option linter.all false
set_option maxRecDepth 100000
set_option maxHeartbeats 1000000
/-! Ll: an own class's making; lists sorted; dicts of pairs. -/
namespace Ll
open PySem PySem.Spec PyProof.Rows L2
def IsIns (o : HO) : Prop := ∃ C dx ws, o = .ins C dx ws
theorem ins_noseq (o : HO) (h : IsIns o) : NoSeq o := by
  obtain ⟨C, dx, ws, rfl⟩ := h
  exact ⟨(fun _ z => nomatch z), (fun _ z => nomatch z)⟩
theorem kless_any {T : HO → Prop} : KLess T kAny := fun _ _ _ _ _ _ _ => trivial
/-- an own object being made -/
def bI (C dx : Addr) (fs : List (Str × Kn)) : Ob :=
  ⟨fun G o => ∃ ws, o = .ins C dx ws ∧ (∀ q ∈ fs, ∃ w, ws.lookup q.1 = some w ∧ q.2.p G w) ∧ (∀ m, m ∉ fs.map (·.1) → ws.lookup m = none) ∧ ws.length ≤ fs.length,
    fun G G' o l ⟨ws, e, h, r⟩ => ⟨ws, e, fun q hq => let ⟨w, h1, h2⟩ := h q hq; ⟨w, h1, q.2.mono _ _ _ l h2⟩, r⟩⟩
theorem putF_len {f : Str} {v : V} : ∀ {ws : List (Str × V)}, (putF f v ws).length ≤ ws.length + 1
  | [] => Nat.le_refl _
  | (g, x) :: r => by
    unfold putF
    split
    · simp
    · have := putF_len (f := f) (v := v) (ws := r)
      simp; omega
theorem bI_nt {C dx : Addr} {fs : List (Str × Kn)} : ∀ G o, (bI C dx fs).ok G o → IsIns o := fun G o ⟨ws, e, _⟩ => ⟨C, dx, ws, e⟩
theorem kIns_of {C dx p : Addr} {fs : List (Str × Kn)} {no : List Str} (hno : ∀ m ∈ no, m ∉ fs.map (·.1)) : ∀ G o, G p = some o → (bI C dx fs).ok G o → (kIns C fs no).p G (.ref p) := fun G o e ⟨ws, eo, h, r, _⟩ =>
  ⟨p, dx, ws, rfl, by rw [e, eo], h, fun m hm => r m (hno m hm)⟩
/-- what __init__ promises: R tells of the arguments and the fields -/
def spI (C : Addr) (R : List Kn → List (Str × Kn) → Prop) : Sp := fun vs H Q _ => ∃ G x dx rest ks fs, vs = .ref x :: rest ∧ Same G H ∧ AllK G ks rest ∧ R ks fs ∧ G x = none ∧ H x = some (.ins C dx []) ∧
  ∀ H2 G2 o, Gr (fun a => a = x) G H G2 H2 → H2 x = some o → (bI C dx fs).ok G2 o → Q .non H2
section
variable {md : Md} {m n k : Nat} {Γ : Env} {K : PySem.W.Frag} {te ta : TE} {t : TA} {P P1 P2 : Kn} {rest : TS} {E : Es md} {C dx x : Addr} {fs : List (Str × Kn)} {f : Str}
theorem St.fld {G0 H0 Gb G H : Hp} {σ : L2.St} (s : St md m Γ (oOb x (bI C dx fs)) G0 H0 Gb G H σ) (hf : f ∉ fs.map (·.1)) (hl : fs.length < 900) {v : V} (p : P2.p G v) : ∃ ws, H x = some (.ins C dx ws) ∧ ws.length < 1000 ∧ St md m Γ (oOb x (bI C dx (fs ++ [(f, P2)]))) G0 H0 Gb G (upd H x (.ins C dx (putF f v ws))) σ := by
  obtain ⟨_, _, _, o, hp, ws, eo, h1, h2, h3⟩ := s.o
  subst eo
  refine ⟨ws, hp, by omega, s.write ⟨_, rfl, fun q hq => ?_, fun m hm => ?_, ?_⟩⟩
  · rw [lookup_putF]
    rcases List.mem_append.mp hq with hq | hq
    · have : q.1 ≠ f := fun e => hf (e ▸ List.mem_map.mpr ⟨q, hq, rfl⟩)
      rw [if_neg this]
      exact h1 q hq
    · rw [List.mem_singleton.mp hq]
      exact ⟨v, by simp, p⟩
  · rw [List.map_append, List.mem_append] at hm
    rw [lookup_putF, if_neg (fun e => hm (.inr (by simp [e])))]
    exact h2 m fun z => hm (.inl z)
  · have := putF_len (f := f) (v := v) (ws := ws)
    rw [List.length_append]
    simp; omega
/-- self.f = e, self (slot 0) looked at as it stands -/
theorem tr_fld (hc : Cls K C) (hn : NoAttr K C f) (hf : f ∉ fs.map (·.1)) (hl : fs.length < 900) (hk : KLess IsIns P2) (h0 : Γ[0]? = some (some (kP x))) (h : Ev md m n te (Γ.set 0 (some (kIns C fs []))) P2) (r : Tr md n Γ (oOb x (bI C dx (fs ++ [(f, P2)]))) rest E) :
    Tr md m Γ (oOb x (bI C dx fs)) (tSeq (sFld K (tVar 0) te f) rest) E := fun G0 H0 Gb G H σ s D d =>
  ev_peekP hk s h0 (kIns_of (no := []) (fun _ z => nomatch z)) bI_nt h fun v H3 G3 s3 pv => by
    obtain ⟨w, hw, ew⟩ := s3.c.env.get 0 _ h0
    subst ew
    obtain ⟨ws, h1, h2, s4⟩ := s3.fld (f := f) hf hl pv
    exact ⟨.ref x, hw, x, C, dx, ws, rfl, h1, hc, hn, h2, r G0 H0 Gb G3 _ σ s4 D d⟩
theorem tr_fldL (hc : Cls K C) (hn : NoAttr K C f) (hf : f ∉ fs.map (·.1)) (hl : fs.length < 900) (hk : KLess IsIns P2) (h0 : Γ[0]? = some (some (kP x))) (h : Ev md m n te (Γ.set 0 (some (kIns C fs []))) P2) (r : E.nx n Γ (oOb x (bI C dx (fs ++ [(f, P2)])))) :
    Tr md m Γ (oOb x (bI C dx fs)) (sFld K (tVar 0) te f) E := fun G0 H0 Gb G H σ s D d => tr_fld (rest := tNext) hc hn hf hl hk h0 h (tr_next r) G0 H0 Gb G H σ s D d
/-- a body of __init__ -/
theorem tr_runI {R : List Kn → List (Str × Kn) → Prop} {N : List Str} {vs : List V} {H : Hp} {Q : VK} {E : XK} {t : TS} (h : spI C R vs H Q E) (hlen : ∀ ks fs, R ks fs → ks.length + 1 ≤ N.length)
    (hb : ∀ (x dx : Addr) ks fs, R ks fs → Tr M0 0 (some (kP x) :: ks.map some ++ List.replicate (N.length - (ks.length + 1)) none) (oOb x (bI C dx [])) t { nx := fun _ _ O => ∃ k : Ob, O = oOb x k ∧ ∀ G o, k.ok G o → (bI C dx fs).ok G o }) :
    t { nx := fun _ H' => Q .non H', rt := Q } (L2.start N vs) H := by
  obtain ⟨G, x, dx, rest, ks, fs, rfl, s, a, hr, gx, hx, post⟩ := h
  have gl : Gr M0.mu G (less H x) G H := ⟨Same.refl G, s, fun b u _ e => by
    by_cases q : b = x
    · subst q; rw [less_same] at e; cases e
    · rw [less_ne q] at e; exact e, fun _ _ h => h⟩
  have env : EnvOk G (L2.start N (.ref x :: rest)) ((kP x :: ks).map some ++ List.replicate (N.length - (kP x :: ks).length) none) := env_start (N := N) (ks := kP x :: ks) (vs := .ref x :: rest) ⟨rfl, a⟩ (by simpa using hlen ks fs hr)
  have st : St M0 0 (some (kP x) :: ks.map some ++ List.replicate (N.length - (ks.length + 1)) none) (oOb x (bI C dx [])) G (less H x) G G H (L2.start N (.ref x :: rest)) :=
    ⟨gl, Same.refl G, ⟨s, trivial, fun _ z => z.elim, env⟩, fun z => z, less_same, gx, _, hx, [], rfl, (fun _ z => nomatch z), (fun _ _ => rfl), Nat.le_refl _⟩
  refine hb x dx ks fs hr G (less H x) G G H _ st _ ⟨fun n Γ O G' H' σ ⟨k, eo, hko⟩ s' => ?_, fun _ _ _ _ _ z => z.elim, fun _ _ _ _ _ _ z => z.elim, fun _ _ _ _ _ _ z => z.elim⟩
  subst eo
  obtain ⟨_, _, _, o, hp, ho⟩ := s'.o
  refine post H' G' o ⟨s'.gr.gg, s'.gr.gh, fun b u hb e => s'.gr.hh b u (fun z => z) (by rw [less_ne hb]; exact e), fun b hb e => ?_⟩ hp (hko _ _ ho)
  by_cases q : b = x
  · subst q
    obtain ⟨_, _, g', _⟩ := s'.o
    exact g'
  · exact s'.gr.nw b (by rw [less_ne q]; exact hb) e
theorem ev_make {R : List Kn → List (Str × Kn) → Prop} {dks ks : List Kn} {dvs : List V} {no : List Str} (h : EvA md m n t Γ ks) (hd : ∀ G, AllK G dks dvs) (hr : R (ks ++ dks) fs) (hno : ∀ m ∈ no, m ∉ fs.map (·.1)) : Ev md m n (tMake C (spI C R) dvs E0 t) Γ (kIns C fs no) := fun G H σ c Q q =>
  h G H σ c _ fun vs H1 G1 g1 j1 a => fun x dx hx hdx hne => by
    have gx : G1 x = none := g1.gh.free hx
    have gdx : G1 dx = none := g1.gh.free hdx
    have sm : Same G1 (upd (upd H1 dx (.own x)) x (.ins C dx [])) := fun b u e => by
      rw [upd_ne (ne_of_none e gx), upd_ne (ne_of_none e gdx)]; exact g1.gh b u e
    refine ⟨G1, x, dx, vs ++ dvs, ks ++ dks, fs, rfl, sm, AllK.app (hd G1) a, hr, gx, upd_same, fun H2 G2 o g2 hp ho => ⟨rfl, ?_⟩⟩
    have g2x : G2 x = none := g2.nw x (by rw [upd_same]; exact fun z => nomatch z) gx
    have keep : ∀ b u, H1 b = some u → H2 b = some u := fun b u e => g2.hh b u (ne_of_none e hx) (by rw [upd_ne (ne_of_none e hx), upd_ne (ne_of_none e hdx)]; exact e)
    have g3 : Gr md.mu G1 H1 (upd G2 x o) H2 := by
      refine ⟨g2.gg.trans (same_new g2x), fun b u e => ?_, fun b u _ e => keep b u e, fun b hb e => ?_⟩
      · by_cases z : b = x
        · subst z; rw [upd_same] at e; rw [hp]; exact e
        · rw [upd_ne z] at e; exact g2.gh b u e
      · have z : b ≠ x := fun z => hb (z ▸ hx)
        rw [upd_ne z]
        refine g2.nw b ?_ e
        cases eb : H1 b with
        | none => exact absurd eb hb
        | some u => rw [upd_ne z, upd_ne (ne_of_none eb hdx), eb]; exact fun y => nomatch y
    refine q _ H2 _ (g1.trans (fun a z => md.dom _ _ a j1 (md.muk a z)) g3) (md.st _ _ _ j1 fun b u _ e => keep b u e) ?_
    exact kIns_of hno _ o upd_same ((bI C dx fs).mono _ _ _ (le_same (same_new g2x)) ho)
/-! sorted -/
theorem perm_all {G : Hp} {ys xs : List V} (h : ys.Perm xs) : ∀ {ds : List PyData}, AllK G (ds.map kD) xs → ∃ es : List PyData, es.Perm ds ∧ AllK G (es.map kD) ys := by
  induction h with
  | nil => intro ds a; exact ⟨ds, .refl _, a⟩
  | @cons x l1 l2 _ ih =>
    intro ds a
    match ds, a with
    | d :: ds, ⟨h1, h2⟩ =>
      obtain ⟨es, p, q⟩ := ih h2
      exact ⟨d :: es, p.cons d, h1, q⟩
  | swap x y l =>
    intro ds a
    match ds, a with
    | d :: e :: ds, ⟨h1, h2, h3⟩ => exact ⟨e :: d :: ds, .swap _ _ _, h2, h1, h3⟩
  | trans _ _ ih1 ih2 =>
    intro ds a
    obtain ⟨es, p, q⟩ := ih2 a
    obtain ⟨fs, p2, q2⟩ := ih1 q
    exact ⟨fs, p2.trans p, q2⟩
theorem ev_sorted {ds : List PyData} (h : EvA md m n t Γ [kD (.list ds)]) (h1 : PySem.W.AllAlike ds) (h2 : PySem.W.Sortable ds) (h3 : ∀ d ∈ ds, Sh 60 d) (hl : ds.length ≤ 100000) : Ev md m n (tCB (rSortedAny K) t) Γ (kX (fun es : List PyData => es.Perm ds) fun es => kL (es.map kD)) :=
  ev_cb1 h fun G H v s jj pv => fun Q q => by
    obtain ⟨a, xs, e, hs, ax⟩ := kD_list.mp pv
    refine ⟨a, xs, ds, by rw [e], SqL.of (s _ _ hs), DqAll.dp (le_dps (le_same s) (dps_all.mpr ax)), h1, h2, hl, fun d hd => (h3 d hd).dp, fun ys p hp hn => ?_⟩
    obtain ⟨es, pe, ay⟩ := perm_all hp ax
    exact q _ _ _ (Gr.new s hn) (md.st _ _ _ jj fun a u _ e => same_new hn a u e) ⟨es, pe, p, ys, rfl, upd_same, AllK.mono (le_same (same_new (s.free hn))) ay⟩
/-- sorted texts -/
theorem perm_str {ys xs : List V} {ws : List Str} (h : ys.Perm xs) (e : xs = ws.map V.str) : True := trivial
theorem ev_sortedS {ws : List Str} (h : EvA md m n t Γ [kL (ws.map fun x => kD (.str x))]) (hl : ws.length < 64) : Ev md m n (tCB (rSortedS K) t) Γ (kX (fun es : List Str => es.Perm ws) fun es => kL (es.map fun x => kD (.str x))) :=
  ev_cb1 h fun G H v s jj ⟨a, xs, e, hs, ax⟩ => fun Q q => by
    refine ⟨a, ws, by rw [e], allK_str ax ▸ SqL.of (s _ _ hs), hl, fun ys p hp _ hn => ?_⟩
    refine q _ _ _ (Gr.new s hn) (md.st _ _ _ jj fun a u _ e => same_new hn a u e) ⟨ys, hp, p, _, rfl, upd_same, ?_⟩
    have key : ∀ l : List Str, AllK (upd G p (.lst (ys.map V.str))) (l.map fun x => kD (.str x)) (l.map V.str) := fun l => by
      induction l with
      | nil => trivial
      | cons a l ih => exact ⟨.str a, ih⟩
    exact key ys
/-- xs[j] by what is known of xs -/
theorem ev_ixLg {j : Nat} {tb : TE} (ha : Ev md m n ta Γ P1) (hb : Ev md n k tb Γ (kD (.int (j : Nat)))) (hP : ∀ G v, P1.p G v → ∃ a xs w, v = .ref a ∧ G a = some (.lst xs) ∧ xs[j]? = some w ∧ P.p G w) : Ev md m k (tOp (rIxL K) ta tb) Γ P :=
  ev_op ha hb fun G H x y s jj p1 py => by
    obtain ⟨a, xs, w, e, hs, hw, pw⟩ := hP G x p1
    exact Out.val s jj pw fun Q q => ⟨a, xs, j, w, e, kD_int.mp py, SqL.of (s _ _ hs), atI_nat hw, q⟩
theorem ev_ixLast {ks : List Kn} {tb : TE} {i : Int} (ha : Ev md m n ta Γ (kL ks)) (hb : Ev md n k tb Γ (kD (.int i))) (hi : i = -1) (hj : ks[ks.length - 1]? = some P) : Ev md m k (tOp (rIxL K) ta tb) Γ P :=
  ev_op ha hb fun G H x y s jj ⟨a, xs, e, hs, ax⟩ py => by
    obtain ⟨v, hv, pv⟩ := AllK.get ax hj
    rw [AllK.len ax] at hv
    have hpos : 0 < xs.length := Nat.lt_of_le_of_lt (Nat.zero_le _) (List.getElem?_eq_some_iff.mp hv).1
    refine Out.val s jj pv fun Q q => ⟨a, xs, -1, v, e, by rw [kD_int.mp py, hi], SqL.of (s _ _ hs), ?_, q⟩
    unfold atI ixN
    rw [if_neg (by omega), if_pos (by omega)]
    show xs[(-1 + (xs.length : Int)).toNat]? = _
    rw [show (-1 + (xs.length : Int)).toNat = xs.length - 1 by omega]
    exact hv
theorem ev_neg {i : Int} (h : Ev md m n te Γ (kD (.int i))) : Ev md m n (tUn rNegI te) Γ (kD (.int (-i))) :=
  ev_un h fun G H x s jj p => Out.val s jj (.int _) fun Q q => ⟨i, kD_int.mp p, q⟩
end
end Ll
end

section
set_option Elab.async false
set_option linter.all false
set_option maxRecDepth 100000
set_option maxHeartbeats 1000000
/-! Ll: dicts from pairs of places to ints. -/
namespace Ll
open PySem PySem.Spec PyProof.Rows L2
def key2 (p : Nat × Nat) : List L2.Key := [.inl (p.1 : Nat), .inl (p.2 : Nat)]
theorem key2_inj {p q : Nat × Nat} (h : key2 p = key2 q) : p = q := by
  unfold key2 at h
  simp only [List.cons.injEq, Sum.inl.injEq, and_true] at h
  exact Prod.ext (Int.ofNat_inj.mp h.1) (Int.ofNat_inj.mp h.2)
theorem ePr_at {G : Hp} {v : V} {p : Nat × Nat} (h : Dq G v (ePr p)) : ∃ b, v = .ref b ∧ G b = some (.tup ((key2 p).map L2.kV)) := by
  obtain ⟨b, vs, e, hs, a⟩ := kD_tup.mp h
  match vs, a with
  | [x, y], ⟨h1, h2, _⟩ =>
    refine ⟨b, e, ?_⟩
    rw [hs, kD_int.mp h1, kD_int.mp h2]; rfl
def mkd (z : Int) (xs : List (Nat × Nat)) : List (TK × V) := xs.foldl (fun acc p => putK acc (key2 p) (.int z)) []
theorem mkd_snoc {z : Int} {xs : List (Nat × Nat)} {p : Nat × Nat} : mkd z (xs ++ [p]) = putK (mkd z xs) (key2 p) (.int z) := by unfold mkd; rw [List.foldl_append]; rfl
theorem mkd_len {z : Int} {xs : List (Nat × Nat)} : (mkd z xs).length ≤ xs.length := by
  refine rev_ind (p := fun xs => (mkd z xs).length ≤ xs.length) (Nat.le_refl _) (fun w x ih => ?_) xs
  rw [mkd_snoc]
  have := length_putK (mkd z w) (key2 x) (.int z)
  simp; omega
theorem putK_val {kvs : List (TK × V)} {k : TK} {v : V} {T : V → Prop} (h : ∀ q ∈ kvs, T q.2) (hv : T v) : ∀ q ∈ putK kvs k v, T q.2 := by
  unfold putK
  split
  · intro q hq
    obtain ⟨r, hr, e⟩ := List.mem_map.mp hq
    rw [← e]
    split
    · exact hv
    · exact h r hr
  · intro q hq
    rcases List.mem_append.mp hq with hq | hq
    · exact h q hq
    · rw [List.mem_singleton.mp hq]; exact hv
theorem mkd_val {z : Int} {xs : List (Nat × Nat)} : ∀ q ∈ mkd z xs, q.2 = .int z :=
  rev_ind (p := fun xs => ∀ q ∈ mkd z xs, q.2 = .int z) (fun _ h => nomatch h) (fun w x ih => by rw [mkd_snoc]; exact putK_val (T := fun v => v = .int z) ih rfl) xs
theorem mkd_get {z : Int} {xs : List (Nat × Nat)} {p : Nat × Nat} : valV (mkd z xs) (key2 p) = if p ∈ xs then some (.int z) else none := by
  refine rev_ind (p := fun xs => valV (mkd z xs) (key2 p) = if p ∈ xs then some (.int z) else none) rfl (fun w x ih => ?_) xs
  rw [mkd_snoc, valV_put, ih]
  by_cases h : p = x
  · subst h; simp
  · have : key2 p ≠ key2 x := fun e => h (key2_inj e)
    simp [this, h]
theorem fold_get {z : Int} {k : TK} : ∀ {more kvs : List (TK × V)}, (∀ q ∈ more, q.2 = .int z) → valV (more.foldl (fun acc p => putK acc p.1 p.2) kvs) k = if (valV more k).isSome then some (.int z) else valV kvs k
  | [], kvs, _ => by simp [valV_nil]
  | q :: more, kvs, h => by
    rw [List.foldl_cons, fold_get fun r hr => h r (List.mem_cons_of_mem _ hr), valV_put, h q List.mem_cons_self]
    by_cases e : q.1 = k
    · rw [valV_pos e, if_pos e.symm]
      simp
    · have ne : ¬k = q.1 := fun z => e z.symm
      rw [valV_neg e]
      simp only [if_neg ne]
theorem fold_val {T : V → Prop} : ∀ {more kvs : List (TK × V)}, (∀ q ∈ more, T q.2) → (∀ q ∈ kvs, T q.2) → ∀ q ∈ more.foldl (fun acc p => putK acc p.1 p.2) kvs, T q.2
  | [], _, _, h => h
  | r :: more, kvs, h1, h2 => by
    rw [List.foldl_cons]
    exact fold_val (fun q hq => h1 q (List.mem_cons_of_mem _ hq)) (putK_val (T := T) h2 (h1 r List.mem_cons_self))
theorem val_mem {kvs : List (TK × V)} {k : TK} {v : V} (h : valV kvs k = some v) : ∃ q ∈ kvs, q.2 = v := by
  unfold valV at h
  cases e : kvs.find? (fun kv => decide (kv.1 = k)) with
  | none => rw [e] at h; cases h
  | some q => rw [e] at h; exact ⟨q, List.mem_of_find?_eq_some e, Option.some.inj h⟩
def bT (kvs : List (TK × V)) : Ob := ⟨fun _ o => o = .dT kvs, fun _ _ _ _ h => h⟩
section
variable {md : Md} {m n k n0 : Nat} {Γ : Env} {K : PySem.W.Frag} {td ty tv : TE} {wi : TI} {P P1 : Kn} {xs : List (Nat × Nat)} {z : Int} {j : Nat}
theorem dc_run (src : Src md m n0 wi Γ (xs.map fun p => kD (ePr p))) (hz : xs.length ≤ 1000) (hj : j < Γ.length) (hv : ∀ p, Ev md n0 n0 tv ((wipeE Γ [j]).set j (some (kD (ePr p)))) (kD (.int z))) {G H : Hp} {σ : L2.St} (c : Ctx md m G H σ Γ) (Q : VK)
    (q : ∀ D H2 G2, Gr md.mu G H G2 H2 → md.J n0 H2 → H D = none → G2 D = none → ¬md.kp D → H2 D = some (.dT (mkd z xs)) → Q (.ref D) H2) : tDcT wi (gName j) tYes (tVar j) tv [j] σ H Q :=
  src G H σ c _ fun J H1 G1 g1 j1 ⟨Y, w, y⟩ => fun D hD => by
    have c1 : Ctx md n0 G1 H1 σ Γ := c.next g1 j1
    have s0 : St md n0 (wipeE Γ [j]) (oOb D (bT (mkd z []))) G1 H1 G1 G1 (upd H1 D (.dT [])) (L2.wipe σ [j]) := ((St.of c1).env (c1.env.wipe [j])).open' hD rfl
    refine it_gen w (fun i H' => ∃ G', St md n0 (wipeE Γ [j]) (oOb D (bT (mkd z (xs.take i)))) G1 H1 G1 G' H' (L2.wipe σ [j])) ⟨G1, s0⟩ (fun i H' _ ⟨G', s'⟩ => s'.sb.trans s'.c.gh) (fun i x H' H'' hi ⟨G', s'⟩ hy => ?_) fun H' ⟨G', s'⟩ => ?_
    · rw [List.length_map] at hi
      have ex : xs[i]? = some xs[i] := by simp [hi]
      generalize xs[i] = xi at ex
      have hk : (xs.map fun p => kD (ePr p))[i]? = some (kD (ePr xi)) := by rw [List.getElem?_map, ex]; rfl
      obtain ⟨G3, g3, px⟩ := y i _ H' x H'' G' hk s'.sb s'.c.gh hy
      have s3 := s'.next (g3.of0 (mu := md.mu)) (s'.c.j0 g3)
      have hjw : j < (wipeE Γ [j]).length := by show j < (Γ.set j none).length; rw [List.length_set]; exact hj
      refine tgt_name (k := kD (ePr xi)) hjw G3 H'' _ x g3.gh s3.c.env px _ fun σ2 e2 hl hk2 => ⟨?_, ?_⟩
      · refine (wipe_ext [j] hl fun l hl => hk2 l hl).trans ?_
        exact wipe_ext [j] (by rw [wipe_length]) fun l hl => wipe_keep [j] hl
      · have s4 := s3.env e2
        refine et_yes (md := md) (n := n0) G3 H'' σ2 s4.c _ fun b Hb Gb gb jb eb => ?_
        subst eb
        have s4 := s4.next gb jb
        rw [if_pos rfl]
        refine ev_var (md := md) (n := n0) (i := j) (P := kD (ePr xi)) (by rw [List.getElem?_set_self hjw]) Gb Hb σ2 s4.c _ fun yv H4 G4 g4 j4 p4 => ?_
        have s5 := s4.next g4 j4
        refine hv xi G4 H4 σ2 s5.c _ fun zv H5 G5 g5 j5 p5 => ?_
        have s6 := s5.next g5 j5
        obtain ⟨b, eb, hb⟩ := ePr_at (le_dp g5.le p4)
        obtain ⟨_, _, _, o, hp, eo⟩ := s6.o
        have eo' : o = .dT (mkd z (xs.take i)) := eo
        subst eo'
        refine ⟨_, key2 xi, b, eb, g5.gh _ _ hb, hp, ?_, G5, ?_⟩
        · have := mkd_len (z := z) (xs := xs.take i)
          rw [List.length_take] at this
          exact Nat.lt_of_le_of_lt (by omega : _ ≤ 1000) (by decide)
        · have e1 : mkd z (xs.take (i + 1)) = putK (mkd z (xs.take i)) (key2 xi) (.int z) := by rw [List.take_succ, ex]; exact mkd_snoc
          rw [e1]
          have s7 : St md n0 (wipeE Γ [j]) (oOb D (bT (mkd z (xs.take i)))) G1 H1 G1 G5 H5 (L2.wipe σ [j]) := s6.env (s'.c.env.mono (le_same (g3.gg.trans (gb.gg.trans (g4.gg.trans g5.gg)))))
          rw [kD_int.mp p5]
          exact s7.write rfl
    · rw [List.length_map, List.take_of_length_le (Nat.le_refl _)] at s'
      obtain ⟨nk, h0, gp, o, hp, eo⟩ := s'.o
      have eo' : o = .dT (mkd z xs) := eo
      subst eo'
      refine q D H' G' (g1.trans (fun a z => md.dom _ _ a j1 (md.muk a z)) s'.gr) s'.c.j ?_ gp nk hp
      cases e : H D with
      | none => rfl
      | some u =>
        by_cases hm : md.mu D
        · exact absurd hD (c1.dm D hm)
        · rw [g1.hh D u hm e] at hD; cases hD
/-- an object that stands in the heap alone -/
theorem St.adopt {G0 H0 Gb G H G2 H2 : Hp} {σ : L2.St} (s : St md m Γ o0 G0 H0 Gb G H σ) (g : Gr md.mu G H G2 H2) (j : md.J n H2) {D : Addr} {o : HO} {k : Ob} (hD : H D = none) (gD : G2 D = none) (nk : ¬md.kp D) (hp : H2 D = some o) (ho : k.ok G2 o) : St md n Γ (oOb D k) G0 H0 Gb G2 H2 σ := by
  have s2 := s.next g j
  refine ⟨s2.gr, s2.sb, s2.c, nk, ?_, gD, o, hp, ho⟩
  cases e : H0 D with
  | none => rfl
  | some u =>
    by_cases hm : md.mu D
    · exact absurd (md.muk D hm) nk
    · rw [s.gr.hh D u hm e] at hD; cases hD
theorem ev_dnin {p : Nat × Nat} {b : Bool} (hy : Ev md m n ty Γ (kD (ePr p))) (hd : Ev md n k td Γ P1) (hP : ∀ G v, P1.p G v → ∃ a kvs, v = .ref a ∧ G a = some (.dT kvs) ∧ (valV kvs (key2 p)).isSome = b) : Ev md m k (tDNotIn ty td) Γ (kD (.bool (!b))) := fun G H σ c Q q =>
  hy G H σ c _ fun y H1 G1 g1 j1 p1 => hd G1 H1 σ (c.next g1 j1) _ fun x H2 G2 g2 j2 p2 => by
    obtain ⟨a, kvs, e, ha, hb⟩ := hP G2 x p2
    obtain ⟨b', eb, hb'⟩ := ePr_at (le_dp g2.le p1)
    exact ⟨a, _, e, .inr ⟨kvs, key2 p, b', .inl (g2.gh _ _ ha), eb, g2.gh _ _ hb', rfl⟩, hb ▸ q _ H2 G2 (g1.trans (fun a z => md.dom _ _ a j1 (md.muk a z)) g2) j2 (.bl _)⟩
theorem ev_din {p : Nat × Nat} {b : Bool} (hy : Ev md m n ty Γ (kD (ePr p))) (hd : Ev md n k td Γ P1) (hP : ∀ G v, P1.p G v → ∃ a kvs, v = .ref a ∧ G a = some (.dT kvs) ∧ (valV kvs (key2 p)).isSome = b) : Ev md m k (tDIn ty td) Γ (kD (.bool b)) := fun G H σ c Q q =>
  hy G H σ c _ fun y H1 G1 g1 j1 p1 => hd G1 H1 σ (c.next g1 j1) _ fun x H2 G2 g2 j2 p2 => by
    obtain ⟨a, kvs, e, ha, hb⟩ := hP G2 x p2
    obtain ⟨b', eb, hb'⟩ := ePr_at (le_dp g2.le p1)
    exact ⟨a, _, e, .inr ⟨kvs, key2 p, b', .inl (g2.gh _ _ ha), eb, g2.gh _ _ hb', rfl⟩, hb ▸ q _ H2 G2 (g1.trans (fun a z => md.dom _ _ a j1 (md.muk a z)) g2) j2 (.bl _)⟩
theorem ev_dget {p : Nat × Nat} {i : Int} (hd : Ev md m n td Γ P1) (hy : Ev md n k ty Γ (kD (ePr p))) (hP : ∀ G v, P1.p G v → ∃ a kvs, v = .ref a ∧ G a = some (.dT kvs) ∧ valV kvs (key2 p) = some (.int i)) : Ev md m k (tDGet td ty) Γ (kD (.int i)) := fun G H σ c Q q =>
  hd G H σ c _ fun x H1 G1 g1 j1 p1 => hy G1 H1 σ (c.next g1 j1) _ fun y H2 G2 g2 j2 p2 => by
    obtain ⟨a, kvs, e, ha, hb⟩ := hP G2 x (P1.mono _ _ _ g2.le p1)
    obtain ⟨b', eb, hb'⟩ := ePr_at p2
    exact ⟨a, _, e, .inr ⟨kvs, key2 p, b', .inl (g2.gh _ _ ha), eb, g2.gh _ _ hb', hb.symm⟩, q _ H2 G2 (g1.trans (fun a z => md.dom _ _ a j1 (md.muk a z)) g2) j2 (.int _)⟩
/-- d.get(p) == i -/
theorem ev_get1 {p : Nat × Nat} {i : Int} {b : Bool} {ti : TE} {l : Nat} (hd : Ev md m n td Γ P1) (hy : Ev md n k ty Γ (kD (ePr p))) (hi : Ev md k l ti Γ (kD (.int i))) (hP : ∀ G v, P1.p G v → ∃ a kvs, v = .ref a ∧ G a = some (.dT kvs) ∧ ((valV kvs (key2 p) = none ∧ b = false) ∨ ∃ j : Int, valV kvs (key2 p) = some (.int j) ∧ b = decide (j = i))) :
    Ev md m l (tOp rEq (tDGet1 td ty) ti) Γ (kD (.bool b)) := fun G H σ c Q q =>
  hd G H σ c _ fun x H1 G1 g1 j1 p1 => by
    obtain ⟨a, kvs, e, ha, hb⟩ := hP G1 x p1
    refine ⟨a, e, .inr ⟨kvs, .inl (g1.gh _ _ ha)⟩, hy G1 H1 σ (c.next g1 j1) _ fun y H2 G2 g2 j2 p2 => ?_⟩
    obtain ⟨b', eb, hb'⟩ := ePr_at p2
    have g12 := g1.trans (fun a z => md.dom _ _ a j1 (md.muk a z)) g2
    refine ⟨_, .inr ⟨kvs, key2 p, b', .inl (g2.gh _ _ (g2.gg _ _ ha)), eb, g2.gh _ _ hb', rfl⟩, hi G2 H2 σ (c.next g12 j2) _ fun w H3 G3 g3 j3 p3 => ?_⟩
    rw [kD_int.mp p3]
    have fin := q (.bl b) H3 G3 (g12.trans (fun a z => md.dom _ _ a j2 (md.muk a z)) g3) j3 (.bl _)
    rcases hb with ⟨e1, e2⟩ | ⟨j, e1, e2⟩
    · rw [e1]
      refine ⟨rfl, ?_⟩
      rw [show decide ((none : Option V).getD V.non = V.int i) = b by rw [e2]; simp]
      exact fin
    · rw [e1]
      refine ⟨rfl, ?_⟩
      rw [show decide ((some (V.int j)).getD V.non = V.int i) = b by rw [e2]; simp]
      exact fin
/-- the greatest of d's values -/
theorem ev_maxV {mx : Int} {td : TE} (hd : Ev md m n td Γ P1) (hP : ∀ G v, P1.p G v → ∃ (a : Addr) (kvs : List (TK × V)) (ns : List Int), v = .ref a ∧ G a = some (.dT kvs) ∧ kvs.map Prod.snd = ns.map V.int ∧ mx ∈ ns ∧ ∀ y ∈ ns, y ≤ mx) : Ev md m n (tCB rMaxVals (tCons (tBM0 K "dict" rVals td) tNil)) Γ (kD (.int mx)) := fun G H σ c Q q =>
  hd G H σ c _ fun x H1 G1 g1 j1 p1 => by
    obtain ⟨a, kvs, ns, e, ha, hn, hm, hle⟩ := hP G1 x p1
    subst e
    refine ⟨.inr (.inr (.inl ⟨rfl, .inr ⟨kvs, g1.gh _ _ ha⟩⟩)), a, kvs, rfl, rfl, g1.gh _ _ ha, fun p hp => ?_⟩
    have na : a ≠ p := ne_of_none (g1.gh _ _ ha) hp
    refine ⟨p, a, kvs, ns, rfl, upd_same, by rw [upd_ne na]; exact g1.gh _ _ ha, hn, List.length_pos_of_mem hm, fun z hz hmax => ?_⟩
    have : z = mx := Int.le_antisymm (hle z hz) (hmax mx hm)
    subst this
    have gx : Gr md.mu G1 H1 G1 (upd H1 p (valsO p a)) := ⟨Same.refl _, fun b u e => by rw [upd_ne (ne_of_none e (g1.gh.free hp))]; exact g1.gh b u e, fun b u _ e => same_new hp b u e, fun _ _ h => h⟩
    exact q _ _ G1 (g1.trans (fun a z => md.dom _ _ a j1 (md.muk a z)) gx) (md.st _ _ _ j1 fun b u _ e => same_new hp b u e) (.int _)
end
end Ll
end

section
set_option Elab.async false
set_option linter.all false
set_option maxRecDepth 100000
set_option maxHeartbeats 1000000
/-! Ll, walks: firsts_of, blocks_of, marks_of. -/
namespace Ll
open PySem PySem.Spec PyProof.Rows L2
-- an index below the length of a list, by computing
theorem getK {ι : Type} {xs : List ι} {f : ι → Kn} {i : Nat} {d : ι} (h : i < xs.length) : (xs.map f)[i]? = some (f (xs.getD i d)) := by
  rw [List.getElem?_map, List.getElem?_eq_getElem h, List.getD_eq_getElem?_getD, List.getElem?_eq_getElem h]; rfl
theorem map_getD {α : Type} {n : Nat} {xs : List α} (d : α) (h : xs.length = n) : xs = (List.range n).map fun i => xs.getD i d := by
  subst h
  apply List.ext_getElem (by simp)
  intro i h1 h2
  simp [List.getD_eq_getElem?_getD, h1]

/-! ### firsts_of -/
def R_firsts (ks : List Kn) (P : Kn) : Prop := ∃ ds : List PyData, ks = [kD (.list ds)] ∧ (∀ d ∈ ds, Sh 60 d) ∧ ds.length ≤ 1000 ∧ P = kD (.list (ds.map fun d => .int (ixD ds d : Nat)))
abbrev sp_firsts_of : Sp := spQ R_firsts
theorem w_firsts {K : PySem.W.Frag} {ks : List Kn} {P : Kn} (h : R_firsts ks P) : Tr M0 0 (ks.map some ++ List.replicate (N_firsts_of.length - ks.length) none) o0 (t_firsts_of K) (eRet 0 P) := by
  obtain ⟨ds, rfl, hs, hl, rfl⟩ := h
  exact tr_ret (ev_listD (ev_lcX (xs := ds) (kf := fun d => kD d) (pf := fun d => kD (.int (ixD ds d : Nat))) (src_list (ev_asL (ev_var rfl))) (by omega) (fun d => [some (kD (.list ds)), some (kD d)]) (fun d => tgt_name (of_decide_eq_true rfl)) fun d hd => ev_index (ev_var rfl) (ev_var rfl) hs hd)) ⟨rfl, rfl⟩
theorem cal_firsts {P : Program} {w : World} {K : PySem.W.Frag} {mg : Str → Option Value} {base : Heap} (B : Bi mg) (F : Fd K mg "firsts_of" 10) : Cal P w K mg base 1 "firsts_of" ["marks"] sp_firsts_of :=
  cal_Q F sc_firsts_of (by decide) (fun _ _ _ _ _ _ us hl => match us, hl with | [_], _ => rfl) (fun ks Pk ⟨_, e, _⟩ => by rw [e]; rfl) (fun f cdv A outer s H E hr => der_firsts_of B hr) fun ks Pk h => .inl (w_firsts h)
/-- firsts of f 0, .., f (n - 1) -/
theorem firsts_map {n : Nat} {f : Nat → PyData} {e : Nat → Nat → Bool} (h : ∀ j i, PyData.eqv (f j) (f i) = e j i) : PyData.list (((List.range n).map f).map fun d => PyData.int (ixD ((List.range n).map f) d : Nat)) = eIs ((List.range n).map (fst1 n e)) := by
  unfold eIs
  rw [List.map_map, List.map_map]
  congr 1
  apply List.map_congr_left
  intro i _
  show PyData.int _ = eI _
  unfold eI ixD fst1
  rw [List.findIdx_map]
  have : (fun j => e j i) = ((fun z => PyData.eqv z (f i)) ∘ f) := by
    funext j
    exact (h j i).symm
  rw [this]
theorem nb_ints {l : List Nat} : nbs (l.map eI) = true := by
  induction l with
  | nil => rfl
  | cons a l ih => simp [nbs, nb, eI, ih]
theorem eI_map_inj {a b : List Nat} (h : a.map eI = b.map eI) : a = b := by
  induction a generalizing b with
  | nil => cases b with
    | nil => rfl
    | cons _ _ => cases h
  | cons x a ih => cases b with
    | nil => cases h
    | cons y b =>
      simp only [List.map_cons, List.cons.injEq] at h
      rw [eI_inj h.1, ih h.2]
theorem sh_eIs {l : List Nat} : Sh 60 (eIs l) := (sh_list (n := 0) fun d hd => by obtain ⟨i, _, rfl⟩ := List.mem_map.mp hd; exact sh_eI).mono (by decide)
theorem sh_eRow {l : List Nat} : Sh 60 (eRow l) := (sh_tup (n := 0) fun d hd => by obtain ⟨i, _, rfl⟩ := List.mem_map.mp hd; exact sh_eI).mono (by decide)
theorem eqv_eIs {a b : List Nat} : PyData.eqv (eIs a) (eIs b) = decide (a = b) :=
  eqv_dec (f := eIs) (fun x y e => by unfold eIs at e; injection e with e; exact eI_map_inj e) (fun x => by show nbs _ = true; exact nb_ints) a b
/-! ### blocks_of -/
def R_blocks (ks : List Kn) (P : Kn) : Prop := ∃ μ : List Nat, ks = [kD (eIs μ)] ∧ μ.length ≤ 1000 ∧ P = kAny
abbrev sp_blocks_of : Sp := spQ R_blocks
theorem mapIdx_len {ι : Type} {xs : List ι} : (xs.mapIdx fun i x => (i, x)).length = xs.length := by simp
theorem w_blocks {K : PySem.W.Frag} {ks : List Kn} {P : Kn} (h : R_blocks ks P) : Tr M0 0 (ks.map some ++ List.replicate (N_blocks_of.length - ks.length) none) o0 (t_blocks_of K sp_firsts_of) (eRet 0 P) := by
  obtain ⟨μ, rfl, hl, rfl⟩ := h
  have hR : R_firsts [kD (eIs μ)] (kD (.list ((μ.map eI).map fun d => .int (ixD (μ.map eI) d : Nat)))) := ⟨μ.map eI, rfl, fun d hd => by obtain ⟨i, _, rfl⟩ := List.mem_map.mp hd; exact sh_eI, by simpa using hl, rfl⟩
  generalize efs : ((μ.map eI).map fun d => ixD (μ.map eI) d) = fs
  have e1 : ((μ.map eI).map fun d => PyData.int (ixD (μ.map eI) d : Nat)) = fs.map eI := by rw [← efs, List.map_map, List.map_map, List.map_map]; rfl
  have hfl : fs.length = μ.length := by rw [← efs]; simp
  rw [e1] at hR
  refine tr_set (ev_callQ (ea_cons (ev_var rfl) ea_nil) hR) (of_decide_eq_true rfl) ?_
  have kf : ∀ {Γ : Env} {i : Nat}, Γ[i]? = some (some (kD (.list (fs.map eI)))) → EvA M0 0 0 (tCons (tVar i) tNil) Γ [kL (fs.map fun x => kD (eI x))] := fun h => ea_cons (ev_Dlist (ev_var h)) ea_nil
  have src : ∀ {Γ : Env} {i : Nat}, Γ[i]? = some (some (kD (.list (fs.map eI)))) → Src M0 0 0 (iEnum K (tCons (tVar i) tNil)) Γ ((fs.mapIdx fun i x => (i, x)).map fun p => kT [kD (.int (p.1 : Nat)), kD (eI p.2)]) := fun h => by
    rw [← kEnum_map (f := fun x => kD (eI x))]; exact src_enum (kf h)
  refine tr_set (ev_lcF (xs := fs.mapIdx fun i x => (i, x)) (pf := fun p => kD (eI p.1)) (src rfl) (by rw [mapIdx_len]; omega) (fun p => [some (kD (eIs μ)), some (kD (.list (fs.map eI))), none, some (kD (eI p.1)), some (kD (eI p.2)), none]) (fun p => tgt_two (of_decide_eq_true rfl) (of_decide_eq_true rfl))
    (fun p => decide ((p.2 : Int) = (p.1 : Int))) (fun p _ => et_test (ev_eqI (ev_var rfl) (ev_var rfl))) fun p _ _ => ev_var rfl) (of_decide_eq_true rfl) ?_
  refine tr_ret (P := kAny) (ev_imp (ev_tupL (ea_cons (ev_lcX (pf := fun _ => kAny) (src_list (ev_var rfl)) (Nat.le_trans (List.length_filter_le _ _) (by rw [mapIdx_len]; omega)) (fun p => [some (kD (eIs μ)), some (kD (.list (fs.map eI))), some (kL (((fs.mapIdx fun i x => (i, x)).filter fun p => decide ((p.2 : Int) = (p.1 : Int))).map fun p => kD (eI p.1))), some (kD (eI p.1)), none, none]) (fun p => tgt_name (of_decide_eq_true rfl)) fun p _ => ?_) ea_nil)) fun _ _ _ => trivial) ⟨rfl, rfl⟩
  refine ev_imp (ev_tupL (ea_cons (ev_lcF (xs := fs.mapIdx fun i x => (i, x)) (pf := fun p => kD (eI p.1)) (src rfl) (by rw [mapIdx_len]; omega) (fun q => [some (kD (eIs μ)), some (kD (.list (fs.map eI))), some (kL (((fs.mapIdx fun i x => (i, x)).filter fun p => decide ((p.2 : Int) = (p.1 : Int))).map fun p => kD (eI p.1))), some (kD (eI p.1)), some (kD (eI q.2)), some (kD (eI q.1))]) (fun q => tgt_two (of_decide_eq_true rfl) (of_decide_eq_true rfl))
    (fun q => decide ((q.2 : Int) = (p.1 : Int))) (fun q _ => et_test (ev_eqI (ev_var rfl) (ev_var rfl))) (fun q _ _ => ev_var rfl)) ea_nil)) fun _ _ _ => trivial
theorem cal_blocks {P : Program} {w : World} {K : PySem.W.Frag} {mg : Str → Option Value} {base : Heap} (B : Bi mg) (c1 : Cal P w K mg base 1 "firsts_of" ["marks"] sp_firsts_of) (F : Fd K mg "blocks_of" 11) : Cal P w K mg base 2 "blocks_of" ["marks"] sp_blocks_of :=
  cal_Q F sc_blocks_of (by decide) (fun _ _ _ _ _ _ us hl => match us, hl with | [_], _ => rfl) (fun ks Pk ⟨_, e, _⟩ => by rw [e]; rfl) (fun f cdv A outer s H E hr => der_blocks_of B c1 hr) fun ks Pk h => .inl (w_blocks h)

/-! ### marks_of -/
def rowD (rows : List (List Nat)) (μ : List Nat) (i : Nat) : PyData := .tuple (eI (μ.getD i 0) :: rows.map fun r => eI (μ.getD (r.getD i 0) 0))
theorem eqv_rowD {rows : List (List Nat)} {μ : List Nat} (j i : Nat) : PyData.eqv (rowD rows μ j) (rowD rows μ i) = agree rows μ j i := by
  have n1 : ∀ i, nb (rowD rows μ i) = true := fun i => by
    have : rowD rows μ i = .tuple ((μ.getD i 0 :: rows.map fun r => μ.getD (r.getD i 0) 0).map eI) := by unfold rowD; simp
    rw [this]; exact nb_ints
  rw [Bool.eq_iff_iff, eqv_iff _ _ (n1 j) (n1 i), agree_iff]
  unfold rowD
  simp only [PyData.tuple.injEq, List.cons.injEq]
  constructor
  · rintro ⟨h1, h2⟩
    exact ⟨eI_inj h1, fun r hr => eI_inj (List.map_inj_left.mp h2 r hr)⟩
  · rintro ⟨h1, h2⟩
    exact ⟨by rw [h1], List.map_inj_left.mpr fun r hr => by rw [h2 r hr]⟩
theorem sh_rowD {rows : List (List Nat)} {μ : List Nat} {i : Nat} : Sh 60 (rowD rows μ i) := by
  refine (sh_tup (n := 0) fun d hd => ?_).mono (by decide)
  rcases List.mem_cons.mp hd with rfl | hd
  · exact sh_eI
  · obtain ⟨r, _, rfl⟩ := List.mem_map.mp hd; exact sh_eI
def R_marks (ks : List Kn) (P : Kn) : Prop := ∃ (n : Nat) (rows : List (List Nat)) (sh : List Int), ks = [kD (eI n), kD (.list (rows.map eRow)), kSq sh] ∧ 0 < n ∧ n ≤ 6 ∧ sh.length = n ∧ rows.length ≤ 8 ∧ (∀ r ∈ rows, r.length = n ∧ ∀ x ∈ r, x < n) ∧ P = kD (eIs (itr n rows n (mk0 n sh)))
abbrev sp_marks_of : Sp := spQ R_marks
theorem firsts_stp {n : Nat} {rows : List (List Nat)} {μ : List Nat} (hn : n ≤ 6) : R_firsts [kD (.list ((List.range n).map (rowD rows μ)))] (kD (eIs (stp n rows μ))) :=
  ⟨_, rfl, fun d hd => by obtain ⟨i, _, rfl⟩ := List.mem_map.mp hd; exact sh_rowD, by simp; omega, by rw [firsts_map (e := agree rows μ) eqv_rowD]; rfl⟩
theorem firsts_mk0 {n : Nat} {sh : List Int} (hn : n ≤ 6) (h : sh.length = n) : R_firsts [kD (.list (sh.map .int))] (kD (eIs (mk0 n sh))) := by
  have e : sh.map PyData.int = (List.range n).map fun i => .int (sh.getD i 0) := by
    conv => lhs; rw [map_getD 0 h]
    rw [List.map_map]; rfl
  refine ⟨_, rfl, fun d hd => by obtain ⟨i, _, rfl⟩ := List.mem_map.mp hd; exact sh_int, by simp; omega, ?_⟩
  rw [e, firsts_map (e := fun j i => decide (sh.getD j 0 = sh.getD i 0)) (fun j i => by simp only [PyData.eqv]; rw [Bool.eq_iff_iff]; simp)]
  rfl
theorem getD_lt {n : Nat} {l : List Nat} (h : ∀ x ∈ l, x < n) (hn : 0 < n) (i : Nat) : l.getD i 0 < n := by
  rw [List.getD_eq_getElem?_getD]
  cases e : l[i]? with
  | none => exact hn
  | some x => exact h x (List.mem_of_getElem? e)
theorem w_marks {K : PySem.W.Frag} {ks : List Kn} {P : Kn} (h : R_marks ks P) : Tr M0 0 (ks.map some ++ List.replicate (N_marks_of.length - ks.length) none) o0 (t_marks_of K sp_firsts_of) (eRet 0 P) := by
  obtain ⟨n, rows, sh, rfl, hn0, hn, hsh, hrl, hr, rfl⟩ := h
  refine tr_asg (ev_tup (ea_cons (ev_callQ (ea_cons (ev_listD (f := PyData.int) (ev_lstSq (ea_cons (ev_var rfl) ea_nil))) ea_nil) (firsts_mk0 hn hsh)) (ea_cons ev_bl ea_nil)) (by simp)) (tgt_two (of_decide_eq_true rfl) (of_decide_eq_true rfl)) ?_
  refine tr_seq (fun n' Γ' O' => n' = 0 ∧ O' = o0 ∧ ∃ a b c d e, Γ' = [a, b, c, some (kD (eIs (itr n rows n (mk0 n sh)))), d, e] ++ [none, none, none] ∨ Γ'[3]? = some (some (kD (eIs (itr n rows n (mk0 n sh)))))) ?_ ?_
  · refine tr_while (fun l n' Γ' O' => n' = 0 ∧ O' = o0 ∧ ∃ (μ : List Nat) (more : Bool) (a b : Option Kn), Γ' = [some (kD (eI n)), some (kD (.list (rows.map eRow))), some (kSq sh), some (kD (eIs μ)), some (kD (.bool more)), a, b, none, none] ∧
      (∃ k, μ = itr n rows k (mk0 n sh)) ∧ Canon n μ ∧ (more = false → stp n rows μ = μ) ∧ l = (if more then n + 1 - tops n μ else 0)) ⟨_, rfl, rfl, mk0 n sh, true, none, none, rfl, ⟨0, rfl⟩, mk0_canon, (fun z => nomatch z), rfl⟩ ?_
    rintro l n' Γ' O' ⟨rfl, rfl, μ, more, a, b, rfl, hk, hc, hm, rfl⟩
    refine ⟨0, _, et_tB (ev_var rfl), fun e => ?_, fun e => ⟨rfl, rfl, none, none, none, none, none, .inr ?_⟩⟩
    · subst e
      refine tr_set (ev_listD (ev_lcX (xs := List.range n) (pf := fun i => kD (rowD rows μ i)) (src_range (ea_cons (ev_var rfl) ea_nil) (by omega)) (by simp; omega) (fun i => [some (kD (eI n)), some (kD (.list (rows.map eRow))), some (kSq sh), some (kD (eIs μ)), some (kD (.bool true)), a, b, some (kD (eI i)), none]) (fun i => tgt_name (of_decide_eq_true rfl)) fun i hi => ?_)) (of_decide_eq_true rfl) ?_
      · have hi' : i < n := List.mem_range.mp hi
        refine ev_ofT ?_
        have h1 := ev_tup (ea_cons (ev_ixL (K := K) (Γ := [some (kD (eI n)), some (kD (.list (rows.map eRow))), some (kSq sh), some (kD (eIs μ)), some (kD (.bool true)), a, b, some (kD (eI i)), none]) (md := M0) (m := 0) (ev_Dlist (ev_var (i := 3) rfl)) (ev_var (i := 7) rfl) (getK (d := 0) (by rw [hc.len]; exact hi')))
          (ea_star (K := K) (ev_lcX (vs := [8]) (js := [8]) (g := gName 8) (xs := rows) (pf := fun r => kD (eI (μ.getD (r.getD i 0) 0))) (src_list (K := K) (ev_Dlist (ev_var (i := 1) rfl))) (by omega) (fun r => [some (kD (eI n)), some (kD (.list (rows.map eRow))), some (kSq sh), some (kD (eIs μ)), some (kD (.bool true)), a, b, some (kD (eI i)), some (kD (eRow r))]) (fun r => tgt_name (of_decide_eq_true rfl)) fun r hr' =>
            ev_ixL (K := K) (ev_Dlist (ev_var (i := 3) rfl)) (ev_ixT (K := K) (ev_Dtup (ev_var (i := 8) rfl)) (ev_var (i := 7) rfl) (getK (d := 0) (by rw [(hr r hr').1]; exact hi'))) (getK (d := 0) (by rw [hc.len]; exact getD_lt (hr r hr').2 hn0 i))) (fun G v z => .inr z) ea_nil)) (by simp; omega)
        rw [List.append_nil] at h1
        simp only [List.map_cons, List.map_map]
        exact h1
      · refine tr_set (ev_callQ (ea_cons (ev_var rfl) ea_nil) (firsts_stp hn)) (of_decide_eq_true rfl) ?_
        refine tr_set (ev_neD (ev_var rfl) (ev_var rfl) sh_eIs sh_eIs) (of_decide_eq_true rfl) ?_
        refine tr_setL (ev_var rfl) (of_decide_eq_true rfl) ?_
        refine ⟨_, ?_, rfl, rfl, stp n rows μ, !PyData.eqv (eIs (stp n rows μ)) (eIs μ), _, _, rfl, ?_, stp_canon, fun z => ?_, rfl⟩
        · rw [eqv_eIs]
          have h1 := tops_le (n := n) (μ := μ)
          by_cases q : stp n rows μ = μ
          · simp [q]; omega
          · have h2 := tops_lt hc q
            simp [q]; omega
        · obtain ⟨k, rfl⟩ := hk
          exact ⟨k + 1, by rw [itr_add n rows k 1]; rfl⟩
        · rw [eqv_eIs] at z
          have q : stp n rows μ = μ := by simpa using z
          rw [q]; exact q
    · subst e
      obtain ⟨k, rfl⟩ := hk
      rw [itr_any mk0_canon (hm rfl)]; rfl
  · rintro n' Γ' O' ⟨rfl, rfl, a, b, c, d, e, h⟩
    have h3 : Γ'[3]? = some (some (kD (eIs (itr n rows n (mk0 n sh))))) := by
      rcases h with rfl | h
      · rfl
      · exact h
    exact tr_ret (ev_var h3) ⟨rfl, rfl⟩
theorem cal_marks {P : Program} {w : World} {K : PySem.W.Frag} {mg : Str → Option Value} {base : Heap} (B : Bi mg) (c1 : Cal P w K mg base 1 "firsts_of" ["marks"] sp_firsts_of) (F : Fd K mg "marks_of" 12) : Cal P w K mg base 2 "marks_of" ["many", "moves", "shows"] sp_marks_of :=
  cal_Q F sc_marks_of (by decide) (fun _ _ _ _ _ _ us hl => match us, hl with | [_, _, _], _ => rfl) (fun ks Pk ⟨_, _, _, e, _⟩ => by rw [e]; rfl) (fun f cdv A outer s H E hr => der_marks_of B c1 hr) fun ks Pk h => .inl (w_marks h)
end Ll
end

section
set_option Elab.async false
set_option linter.all false
set_option maxRecDepth 100000
set_option maxHeartbeats 1000000
/-! Ll, walks: the machine's small methods, checked, way, marked, telling, same. -/
namespace Ll
open PySem PySem.Spec PyProof.Rows L2
/-- what is known of the class Machine, by its class object -/
structure MacF (K : PySem.W.Frag) (C : Addr) : Prop where
  cls : Cls K C
  no : ∀ f ∈ (["own_many", "own_names", "own_moves", "own_shows", "own_marks", "own_kinds"] : List Str), NoAttr K C f
abbrev Md1 (K : PySem.W.Frag) (C : Addr) (m q : Str) (i j : Nat) : Prop := ∃ f fd, FunD K m q (defArgs (inClass (top i) j)) (defBody (inClass (top i) j)) (defScope (inClass (top i) j)) [] [] f fd ∧ Meth K C m f ∧ PySem.W.fnIn K f = true
abbrev Pd1 (K : PySem.W.Frag) (C : Addr) (m q : Str) (i j : Nat) : Prop := ∃ p f fd, FunD K m q (defArgs (inClass (top i) j)) (defBody (inClass (top i) j)) (defScope (inClass (top i) j)) [] [] f fd ∧ PropOf K C m p f
section
variable {P : Program} {w : World} {K : PySem.W.Frag} {mg : Str → Option Value} {base : Heap} {k i j : Nat} {m q : Str} {C : Addr} {N ps : List Str} {t : TS} {R : List Kn → Kn → Prop}
theorem dun_Q (F : Md1 K C m q i j) (S : FnScope N ps (defScope (inClass (top i) j))) (hN : ps.length ≤ N.length)
    (hb : ∀ (kV doc pm : Value) (an : Option Addr) (cdv ct : Value) (us : List Value), us.length = ps.length → bindArgs (PySem.W.fnOf m q (defArgs (inClass (top i) j)) (defBody (inClass (top i) j)) (defScope (inClass (top i) j)) .none kV doc pm an cdv ct) ⟨us, []⟩ = pure (ps.zip us))
    (len : ∀ ks Pk, R ks Pk → ks.length = ps.length)
    (der : ∀ (f : Addr) (cdv : Value) (A : Around) (outer : List PySem.Env) (s : Shared) (H : Hp) (E : XK), Room k (A.deeper (envOfC q (defScope (inClass (top i) j)) s.heap.objs.size f cdv)) → PSs (cxOf CX0 P w K mg base N q (defScope (inClass (top i) j)) f cdv A outer s H E).nox (defBody (inClass (top i) j)) t)
    (body : ∀ ks Pk, R ks Pk → Tr M0 0 (ks.map some ++ List.replicate (N.length - ks.length) none) o0 t (eRet 0 Pk)) : Dun P w K mg base (k + 1) C m ps (spQ R) := by
  obtain ⟨f, fd, F, M, hf⟩ := F
  exact ⟨f, fd, M, hf, fn_Q F S hN len (der f) fun ks Pk h => .inl (body ks Pk h), F.bindsN hb⟩
theorem prp_Q (F : Pd1 K C m q i j) (S : FnScope N ["self"] (defScope (inClass (top i) j))) (hN : 1 ≤ N.length)
    (hb : ∀ (kV doc pm : Value) (an : Option Addr) (cdv ct : Value) (us : List Value), us.length = 1 → bindArgs (PySem.W.fnOf m q (defArgs (inClass (top i) j)) (defBody (inClass (top i) j)) (defScope (inClass (top i) j)) .none kV doc pm an cdv ct) ⟨us, []⟩ = pure ((["self"] : List Str).zip us))
    (len : ∀ ks Pk, R ks Pk → ks.length = 1)
    (der : ∀ (f : Addr) (cdv : Value) (A : Around) (outer : List PySem.Env) (s : Shared) (H : Hp) (E : XK), Room k (A.deeper (envOfC q (defScope (inClass (top i) j)) s.heap.objs.size f cdv)) → PSs (cxOf CX0 P w K mg base N q (defScope (inClass (top i) j)) f cdv A outer s H E).nox (defBody (inClass (top i) j)) t)
    (body : ∀ ks Pk, R ks Pk → Tr M0 0 (ks.map some ++ List.replicate (N.length - ks.length) none) o0 t (eRet 0 Pk)) : Prp P w K mg base (k + 1) C m (spQ R) := by
  obtain ⟨p, f, fd, F, M⟩ := F
  exact ⟨p, f, fd, M, fn_Q F S hN len (der f) fun ks Pk h => .inl (body ks Pk h), F.bindsN hb⟩
end
theorem tr_abs {md : Md} {m : Nat} {Γ : Env} {O : Op md} {t : TS} {E : Es md} (h : False) : Tr md m Γ O t E := h.elim
def kEnv (ks : List Kn) (N : List Str) : Env := ks.map some ++ List.replicate (N.length - ks.length) none
/-! ### fields -/
def R_many (C : Addr) (ks : List Kn) (P : Kn) : Prop := ∃ M nm, ks = [kMac C M nm] ∧ P = kD (eI M.n)
def R_names (C : Addr) (ks : List Kn) (P : Kn) : Prop := ∃ M nm, ks = [kMac C M nm] ∧ P = kD (eW nm)
def R_get (C : Addr) (ks : List Kn) (P : Kn) : Prop := ∃ M nm a, ks = [kMac C M nm, kD (.str a)] ∧ Mc.Nm M nm ∧ a ∈ M.nms ∧ P = kD (eRow (M.row a))
def R_has (C : Addr) (ks : List Kn) (P : Kn) : Prop := ∃ M nm a, ks = [kMac C M nm, kD (.str a)] ∧ P = kD (.bool (decide (a ∈ nm)))
def R_mark (C : Addr) (ks : List Kn) (P : Kn) : Prop := ∃ M nm s, ks = [kMac C M nm, kD (eI s)] ∧ Mc.Ok M ∧ s < M.n ∧ P = kD (eI (M.mu s))
section
variable {P : Program} {w : World} {K : PySem.W.Frag} {mg : Str → Option Value} {base : Heap} {C : Addr}
theorem prp_many (B : Bi mg) (c : MacF K C) (F : Pd1 K C "many" "Machine.many" 14 1) : Prp P w K mg base 1 C "many" (spQ (R_many C)) := by
  refine prp_Q F sc_Machine_many (by decide) (fun _ _ _ _ _ _ us hl => match us, hl with | [_], _ => rfl) (fun ks Pk ⟨_, _, e, _⟩ => by rw [e]; rfl) (fun f cdv A outer s H E hr => der_Machine_many B hr) ?_
  rintro ks Pk ⟨M, nm, rfl, rfl⟩
  exact tr_ret (ev_fld c.cls (c.no _ (by decide)) (ev_var rfl) (.head _)) ⟨rfl, rfl⟩
theorem prp_names (B : Bi mg) (c : MacF K C) (F : Pd1 K C "names" "Machine.names" 14 2) : Prp P w K mg base 1 C "names" (spQ (R_names C)) := by
  refine prp_Q F sc_Machine_names (by decide) (fun _ _ _ _ _ _ us hl => match us, hl with | [_], _ => rfl) (fun ks Pk ⟨_, _, e, _⟩ => by rw [e]; rfl) (fun f cdv A outer s H E hr => der_Machine_names B hr) ?_
  rintro ks Pk ⟨M, nm, rfl, rfl⟩
  exact tr_ret (ev_fld c.cls (c.no _ (by decide)) (ev_var rfl) (.tail _ (.head _))) ⟨rfl, rfl⟩
theorem dun_get (B : Bi mg) (c : MacF K C) (F : Md1 K C "__getitem__" "Machine.__getitem__" 14 6) : Dun P w K mg base 1 C "__getitem__" ["self", "name"] (spQ (R_get C)) := by
  refine dun_Q F sc_Machine_getitem (by decide) (fun _ _ _ _ _ _ us hl => match us, hl with | [_, _], _ => rfl) (fun ks Pk ⟨_, _, _, e, _⟩ => by rw [e]; rfl) (fun f cdv A outer s H E hr => der_Machine_getitem B hr) ?_
  rintro ks Pk ⟨M, nm, a, rfl, o, ha, rfl⟩
  refine tr_when (et_test (ev_ninST (ws := nm) (ev_var rfl) (ev_Dtup (ev_fld c.cls (c.no _ (by decide)) (ev_var rfl) (.tail _ (.head _)))))) (fun e => tr_abs ?_) fun _ => tr_skip (tr_ret ?_ ⟨rfl, rfl⟩)
  · simp [(o.mem a).mpr ha] at e
  · obtain ⟨d, hd, e1, e2⟩ := o.ok.of_nm ha
    rw [e2]
    subst e1
    have h2 : Ev M0 0 0 (tFld K (tVar 0) "own_moves") [some (kMac C M nm), some (kD (.str d.1))] (kMap M.ds (·.1) fun d => kD (eRow d.2)) := ev_fld c.cls (c.no _ (by decide)) (ev_var rfl) (.tail _ (.tail _ (.head _)))
    exact ev_map (dom := M.ds) (key := fun d => d.1) (kf := fun d => kD (eRow d.2)) (x := d) h2 (ev_var rfl) hd
theorem dun_has (B : Bi mg) (c : MacF K C) (F : Md1 K C "__contains__" "Machine.__contains__" 14 8) : Dun P w K mg base 1 C "__contains__" ["self", "name"] (spQ (R_has C)) := by
  refine dun_Q F sc_Machine_contains (by decide) (fun _ _ _ _ _ _ us hl => match us, hl with | [_, _], _ => rfl) (fun ks Pk ⟨_, _, _, e, _⟩ => by rw [e]; rfl) (fun f cdv A outer s H E hr => der_Machine_contains B hr) ?_
  rintro ks Pk ⟨M, nm, a, rfl, rfl⟩
  exact tr_ret (ev_and (b := true) (c := decide (a ∈ nm)) (ev_isS (ev_var rfl)) fun _ => ev_inST (ev_var rfl) (ev_Dtup (ev_fld c.cls (c.no _ (by decide)) (ev_var rfl) (.tail _ (.head _))))) ⟨rfl, rfl⟩
theorem marks_len {M : Mc} : M.marks.length = M.n := (itr_canon _ mk0_canon).len
theorem dun_mark (B : Bi mg) (c : MacF K C) (F : Md1 K C "mark" "Machine.mark" 14 14) : Dun P w K mg base 1 C "mark" ["self", "state"] (spQ (R_mark C)) := by
  refine dun_Q F sc_Machine_mark (by decide) (fun _ _ _ _ _ _ us hl => match us, hl with | [_, _], _ => rfl) (fun ks Pk ⟨_, _, _, e, _⟩ => by rw [e]; rfl) (fun f cdv A outer s H E hr => der_Machine_mark B hr) ?_
  rintro ks Pk ⟨M, nm, s, rfl, o, hs, rfl⟩
  exact tr_ret (ev_ixL (ev_Dlist (ev_fld c.cls (c.no _ (by decide)) (ev_var rfl) (.tail _ (.tail _ (.tail _ (.tail _ (.head _))))))) (ev_var rfl) (getK (d := 0) (by rw [marks_len]; exact hs))) ⟨rfl, rfl⟩
/-! ### logs -/
def Mc.run (M : Mc) (v : List Str) (s : Nat) : Nat := v.foldl (fun s a => M.mv a s) s
theorem run_lt {M : Mc} (o : M.Ok) {v : List Str} {s : Nat} (hv : ∀ a ∈ v, a ∈ M.nms) (hs : s < M.n) : M.run v s < M.n := Pm.run_lt (M := o.pm) hv hs
def R_checked (C : Addr) (ks : List Kn) (P : Kn) : Prop := ∃ M nm v, ks = [kMac C M nm, kD (eW v)] ∧ (∀ a ∈ v, a ∈ nm) ∧ P = kD (eW v)
theorem cal_checked (B : Bi mg) (c : MacF K C) (lk : ∃ t, mg "LOOK" = some (.str "?" t)) (p1 : Prp P w K mg base 1 C "names" (spQ (R_names C))) (F : Fd K mg "checked" 16) : Cal P w K mg base 3 "checked" ["machine", "log"] (spQ (R_checked C)) := by
  refine cal_Q F sc_checked (by decide) (fun _ _ _ _ _ _ us hl => match us, hl with | [_, _], _ => rfl) (fun ks Pk ⟨_, _, _, e, _⟩ => by rw [e]; rfl) (fun f cdv A outer s H E hr => der_checked B c.cls p1 lk hr) ?_
  rintro ks Pk ⟨M, nm, v, rfl, hv, rfl⟩
  refine .inl (tr_seq (fun n' Γ' O' => n' = 0 ∧ O' = o0 ∧ ∃ a, Γ' = [some (kMac C M nm), some (kD (eW v)), a]) (tr_for (src_tup (ev_Dtup (xs := v) (f := .str) (ev_var rfl))) (fun _ n' Γ' O' => n' = 0 ∧ O' = o0 ∧ ∃ a, Γ' = [some (kMac C M nm), some (kD (eW v)), a]) ⟨rfl, rfl, _, rfl⟩ ?_ fun _ _ _ h => h) ?_)
  · rintro i k n' Γ' O' hk ⟨rfl, rfl, a, rfl⟩
    rw [List.getElem?_map] at hk
    cases q : v[i]? with
    | none => rw [q] at hk; cases hk
    | some x =>
      rw [q] at hk; cases hk
      have hx : x ∈ nm := hv x (List.mem_of_getElem? q)
      refine ⟨_, _, tgt_name (of_decide_eq_true rfl), tr_if (et_andD (et_test (ev_neS (ev_var rfl) ev_str)) fun _ => et_test (ev_ninST (ws := nm) (ev_var rfl) (ev_Dtup (ev_prop (ev_var rfl) ⟨M, nm, rfl, rfl⟩)))) (fun e => tr_abs ?_) fun _ => tr_next ⟨rfl, rfl, _, rfl⟩⟩
      simp [hx] at e
  · rintro n' Γ' O' ⟨rfl, rfl, a, rfl⟩
    exact tr_ret (ev_tupD (ev_tupT (ea_cons (ev_Dtup (ev_var rfl)) ea_nil))) ⟨rfl, rfl⟩
def kWay (M : Mc) (v : List Str) (s : Nat) : Kn := kT [kD (.tuple []), kD (eI (M.run v s))]
def R_way (C : Addr) (ks : List Kn) (P : Kn) : Prop := ∃ M nm s v, ks = [kMac C M nm, kD (eI s), kD (eW v)] ∧ Mc.Nm M nm ∧ s < M.n ∧ (∀ a ∈ v, a ∈ M.nms) ∧ P = kWay M v s
theorem run_snoc {M : Mc} {v : List Str} {x : Str} {s : Nat} : M.run (v ++ [x]) s = M.mv x (M.run v s) := by unfold Mc.run; rw [List.foldl_append]; rfl
theorem take_snoc {α : Type} {v : List α} {i : Nat} {x : α} (h : v[i]? = some x) : v.take (i + 1) = v.take i ++ [x] := by rw [List.take_succ, h]; rfl
theorem cal_way (B : Bi mg) (c : MacF K C) (lk : ∃ t, mg "LOOK" = some (.str "?" t)) (p1 : Dun P w K mg base 1 C "__getitem__" ["self", "name"] (spQ (R_get C))) (F : Fd K mg "way" 18) : Cal P w K mg base 3 "way" ["machine", "state", "log"] (spQ (R_way C)) := by
  refine cal_Q F sc_way (by decide) (fun _ _ _ _ _ _ us hl => match us, hl with | [_, _, _], _ => rfl) (fun ks Pk ⟨_, _, _, _, e, _⟩ => by rw [e]; rfl) (fun f cdv A outer s H E hr => der_way B c.cls p1 lk hr) ?_
  rintro ks Pk ⟨M, nm, s, v, rfl, o, hs, hv, rfl⟩
  refine .inl (tr_par (ea_cons (ev_var rfl) (ea_cons (ev_lst ea_nil (by decide)) ea_nil)) (of_decide_eq_true rfl) (of_decide_eq_true rfl) ?_)
  refine tr_seq (fun n' Γ' O' => n' = 0 ∧ O' = o0 ∧ ∃ a, Γ' = [some (kMac C M nm), some (kD (eI s)), some (kD (eW v)), some (kD (eI (M.run v s))), some (kL []), a])
    (tr_for (src_tup (ev_Dtup (xs := v) (f := .str) (ev_var rfl))) (fun i n' Γ' O' => n' = 0 ∧ O' = o0 ∧ ∃ a, Γ' = [some (kMac C M nm), some (kD (eI s)), some (kD (eW v)), some (kD (eI (M.run (v.take i) s))), some (kL []), a]) ⟨rfl, rfl, _, rfl⟩ ?_ fun n' Γ' O' ⟨e1, e2, a, e3⟩ => ⟨e1, e2, a, ?_⟩) ?_
  · rintro i k n' Γ' O' hk ⟨rfl, rfl, a, rfl⟩
    rw [List.getElem?_map] at hk
    cases q : v[i]? with
    | none => rw [q] at hk; cases hk
    | some x =>
      rw [q] at hk; cases hk
      have hx : x ∈ M.nms := hv x (List.mem_of_getElem? q)
      have hr : M.run (v.take i) s < M.n := run_lt o.ok (fun y hy => hv y (List.mem_of_mem_take hy)) hs
      refine ⟨_, _, tgt_name (of_decide_eq_true rfl), tr_if (et_test (ev_eqS (ev_var rfl) ev_str)) (fun e => tr_abs ?_) fun _ => tr_setL (ev_ixT (ev_Dtup (ev_ixO (ev_var rfl) (ev_var rfl) ⟨M, nm, x, rfl, o, hx, rfl⟩)) (ev_var rfl) (getK (d := 0) (by rw [(o.ok.row_len hx).1]; exact hr))) (of_decide_eq_true rfl) ⟨rfl, rfl, some (kD (.str x)), ?_⟩⟩
      · have := (o.ok.ltn hx).ne
        simp [this] at e
      · rw [take_snoc q, run_snoc]; rfl
  · rw [List.length_map, List.take_of_length_le (Nat.le_refl _)] at e3
    exact e3
  · rintro n' Γ' O' ⟨rfl, rfl, a, rfl⟩
    refine tr_ret (P := kWay M v s) (ev_tup (ea_cons ?_ (ea_cons (ev_var rfl) ea_nil)) (by simp)) ⟨rfl, rfl⟩
    exact ev_ofT (ds := []) (ev_tupL (ea_cons (ev_var rfl) ea_nil))
def tupM (a : Nat) : PyData := .tuple [.tuple [], eI a]
def R_marked (C : Addr) (ks : List Kn) (P : Kn) : Prop := ∃ M nm v, ks = [kMac C M nm, kD (eW v)] ∧ Mc.Nm M nm ∧ (∀ a ∈ v, a ∈ M.nms) ∧ P = kD (.list ((List.range M.n).map fun s => tupM (M.mu (M.run v s))))
theorem cal_marked (B : Bi mg) (c : MacF K C) (p1 : Prp P w K mg base 1 C "many" (spQ (R_many C))) (p2 : Dun P w K mg base 1 C "mark" ["self", "state"] (spQ (R_mark C))) (p3 : Cal P w K mg base 3 "way" ["machine", "state", "log"] (spQ (R_way C))) (F : Fd K mg "marked" 19) :
    Cal P w K mg base 4 "marked" ["machine", "log"] (spQ (R_marked C)) := by
  refine cal_Q F sc_marked (by decide) (fun _ _ _ _ _ _ us hl => match us, hl with | [_, _], _ => rfl) (fun ks Pk ⟨_, _, _, e, _⟩ => by rw [e]; rfl) (fun f cdv A outer s H E hr => der_marked B c.cls p1 p2 p3 hr) ?_
  rintro ks Pk ⟨M, nm, v, rfl, o, hv, rfl⟩
  have hn := o.ok.n6
  refine .inl (tr_set (ev_lcX (xs := List.range M.n) (pf := fun s => kWay M v s) (src_range (ea_cons (ev_prop (ev_var rfl) ⟨M, nm, rfl, rfl⟩) ea_nil) (by omega)) (by simp; omega) (fun s => [some (kMac C M nm), some (kD (eW v)), none, some (kD (eI s)), none, none]) (fun s => tgt_name (of_decide_eq_true rfl)) fun s hs => ev_callQ (ea_cons (ev_var rfl) (ea_cons (ev_var rfl) (ea_cons (ev_var rfl) ea_nil))) ⟨M, nm, s, v, rfl, o, List.mem_range.mp hs, hv, rfl⟩) (of_decide_eq_true rfl) ?_)
  refine tr_ret (ev_listD (ev_lcX (xs := List.range M.n) (kf := fun s => kWay M v s) (src_list (ev_var rfl)) (by simp; omega) (fun s => [some (kMac C M nm), some (kD (eW v)), some (kL ((List.range M.n).map fun s => kWay M v s)), none, some (kD (.tuple [])), some (kD (eI (M.run v s)))]) (fun s => tgt_two (of_decide_eq_true rfl) (of_decide_eq_true rfl)) fun s hs => ?_)) ⟨rfl, rfl⟩
  exact ev_ofT (ds := [.tuple [], _]) (ev_tup (ea_cons (ev_var rfl) (ea_cons (ev_meth (ev_var rfl) (.head _) (ea_cons (ev_var rfl) ea_nil) ⟨M, nm, _, rfl, o.ok, run_lt o.ok hv (List.mem_range.mp hs), rfl⟩) ea_nil)) (by simp))
theorem sh_tupM {a : Nat} : Sh 60 (tupM a) := by
  refine (sh_tup (n := 1) fun d hd => ?_).mono (by decide)
  rcases List.mem_cons.mp hd with rfl | hd
  · exact sh_tup (n := 0) fun d hd => by cases hd
  · rw [List.mem_singleton.mp hd]; exact sh_eI
theorem eqv_tupM {a b : Nat} : PyData.eqv (tupM a) (tupM b) = decide (a = b) :=
  eqv_dec (f := tupM) (fun x y e => by unfold tupM at e; injection e with e; injection e with _ e; injection e with e _; exact eI_inj e) (fun x => by simp [tupM, nb, nbs, eI]) a b
def Mc.dif (M : Mc) (v u : List Str) : List Nat := (List.range M.n).filter fun s => decide (M.mu (M.run v s) ≠ M.mu (M.run u s))
def R_telling (C : Addr) (ks : List Kn) (P : Kn) : Prop := ∃ M nm v u, ks = [kMac C M nm, kD (eW v), kD (eW u)] ∧ Mc.Nm M nm ∧ (∀ a ∈ v, a ∈ M.nms) ∧ (∀ a ∈ u, a ∈ M.nms) ∧ P = kD (match M.dif v u with | [] => .none | s :: _ => eI s)
theorem cal_telling (B : Bi mg) (c : MacF K C) (p1 : Prp P w K mg base 1 C "many" (spQ (R_many C))) (p2 : Cal P w K mg base 3 "checked" ["machine", "log"] (spQ (R_checked C))) (p3 : Cal P w K mg base 4 "marked" ["machine", "log"] (spQ (R_marked C))) (F : Fd K mg "telling" 20) :
    Cal P w K mg base 5 "telling" ["machine", "one", "other"] (spQ (R_telling C)) := by
  refine cal_Q F sc_telling (by decide) (fun _ _ _ _ _ _ us hl => match us, hl with | [_, _, _], _ => rfl) (fun ks Pk ⟨_, _, _, _, e, _⟩ => by rw [e]; rfl) (fun f cdv A outer s H E hr => der_telling B c.cls p1 p2 p3 hr) ?_
  rintro ks Pk ⟨M, nm, v, u, rfl, o, hv, hu, rfl⟩
  have hn := o.ok.n6
  have nmv : ∀ {v : List Str}, (∀ a ∈ v, a ∈ M.nms) → ∀ a ∈ v, a ∈ nm := fun h a ha => (o.mem a).mpr (h a ha)
  refine .inl (tr_asg (ev_tup (ea_cons (ev_callQ (ea_cons (ev_var rfl) (ea_cons (ev_callQ (ea_cons (ev_var rfl) (ea_cons (ev_var rfl) ea_nil)) ⟨M, nm, v, rfl, nmv hv, rfl⟩) ea_nil)) ⟨M, nm, v, rfl, o, hv, rfl⟩)
    (ea_cons (ev_callQ (ea_cons (ev_var rfl) (ea_cons (ev_callQ (ea_cons (ev_var rfl) (ea_cons (ev_var rfl) ea_nil)) ⟨M, nm, u, rfl, nmv hu, rfl⟩) ea_nil)) ⟨M, nm, u, rfl, o, hu, rfl⟩) ea_nil)) (by simp)) (tgt_two (of_decide_eq_true rfl) (of_decide_eq_true rfl)) ?_)
  generalize eG : (fun s => tupM (M.mu (M.run v s))) = fv
  generalize eU : (fun s => tupM (M.mu (M.run u s))) = fu
  refine tr_set (ev_lcF (xs := List.range M.n) (pf := fun s => kD (eI s)) (src_range (ea_cons (ev_prop (ev_var rfl) ⟨M, nm, rfl, rfl⟩) ea_nil) (by omega)) (by simp; omega) (fun s => [some (kMac C M nm), some (kD (eW v)), some (kD (eW u)), some (kD (.list ((List.range M.n).map fv))), some (kD (.list ((List.range M.n).map fu))), none, some (kD (eI s))]) (fun s => tgt_name (of_decide_eq_true rfl))
    (fun s => decide (M.mu (M.run v s) ≠ M.mu (M.run u s))) (fun s hs => ?_) fun s _ _ => ev_var rfl) (of_decide_eq_true rfl) ?_
  · have hs' : s < (List.range M.n).length := by simpa using hs
    have e := List.mem_range.mp hs
    have eg : (List.range M.n).getD s 0 = s := by rw [List.getD_eq_getElem?_getD, List.getElem?_range e]; rfl
    refine et_imp (et_neD (ev_ixL (ev_Dlist (ev_var rfl)) (ev_var rfl) (getK (d := 0) hs')) (ev_ixL (ev_Dlist (ev_var rfl)) (ev_var rfl) (getK (d := 0) hs')) (by rw [eg, ← eG]; exact sh_tupM) (by rw [eg, ← eU]; exact sh_tupM)) fun b hb => ?_
    rw [hb, eg, ← eG, ← eU, eqv_tupM]
    simp
  · show Tr M0 0 [_, _, _, _, _, some (kL ((M.dif v u).map fun s => kD (eI s))), _] o0 _ _
    cases ed : M.dif v u with
    | nil =>
      refine tr_ret (ev_if (P := kD .none) (et_cmpI (g := fun i j => decide (j < i)) (ev_lenL (ea_cons (ev_var rfl) ea_nil)) ev_int) (fun e => ?_) fun _ => ev_non) ⟨rfl, rfl⟩
      simp at e
    | cons s rest =>
      refine tr_ret (ev_if (P := kD (eI s)) (et_cmpI (g := fun i j => decide (j < i)) (ev_lenL (ea_cons (ev_var rfl) ea_nil)) ev_int) (fun e => ev_ixL (j := 0) (ev_var rfl) ev_int rfl) fun e => ?_) ⟨rfl, rfl⟩
      simp at e
def R_same (C : Addr) (ks : List Kn) (P : Kn) : Prop := ∃ M nm v u, ks = [kMac C M nm, kD (eW v), kD (eW u)] ∧ Mc.Nm M nm ∧ (∀ a ∈ v, a ∈ M.nms) ∧ (∀ a ∈ u, a ∈ M.nms) ∧ P = kD (.bool (decide (∀ s, s < M.n → M.mu (M.run v s) = M.mu (M.run u s))))
theorem cal_same (B : Bi mg) (p1 : Cal P w K mg base 5 "telling" ["machine", "one", "other"] (spQ (R_telling C))) (F : Fd K mg "same" 21) : Cal P w K mg base 6 "same" ["machine", "one", "other"] (spQ (R_same C)) := by
  refine cal_Q F sc_same (by decide) (fun _ _ _ _ _ _ us hl => match us, hl with | [_, _, _], _ => rfl) (fun ks Pk ⟨_, _, _, _, e, _⟩ => by rw [e]; rfl) (fun f cdv A outer s H E hr => der_same B p1 hr) ?_
  rintro ks Pk ⟨M, nm, v, u, rfl, o, hv, hu, rfl⟩
  refine .inl (tr_ret (ev_isNo (ev_callQ (ea_cons (ev_var rfl) (ea_cons (ev_var rfl) (ea_cons (ev_var rfl) ea_nil))) ⟨M, nm, v, u, rfl, o, hv, hu, rfl⟩) ev_non) ⟨rfl, ?_⟩)
  congr 2
  have key : (∀ s, s < M.n → M.mu (M.run v s) = M.mu (M.run u s)) ↔ M.dif v u = [] := by
    unfold Mc.dif
    rw [List.filter_eq_nil_iff]
    simp
  cases ed : M.dif v u with
  | nil => rw [decide_eq_true (key.mpr ed)]; rfl
  | cons s r =>
    rw [decide_eq_false (fun z => by rw [key.mp z] at ed; cases ed)]; rfl
end
end Ll
end

section
set_option Elab.async false
set_option linter.all false
set_option maxRecDepth 100000
set_option maxHeartbeats 1000000
/-! Ll, walks: ascending, Rules, check_deeds, after_deed. -/
namespace Ll
open PySem PySem.Spec PyProof.Rows L2
/-! ### ascending -/
def R_asc (ks : List Kn) (P : Kn) : Prop := ∃ ds : List PyData, ks = [kD (.list ds)] ∧ PySem.W.AllAlike ds ∧ PySem.W.Sortable ds ∧ (∀ d ∈ ds, Sh 60 d) ∧ ds.length ≤ 1000 ∧ P = kX (fun es : List PyData => (∀ d, d ∈ es ↔ d ∈ ds) ∧ es.length ≤ ds.length) fun es => kL (es.map kD)
abbrev sp_ascending : Sp := spQ R_asc
theorem eqv_sh {d e : PyData} (h1 : Sh 60 d) (h2 : Sh 60 e) : PyData.eqv d e = true ↔ d = e := eqv_iff d e h1.nb h2.nb
theorem w_asc {K : PySem.W.Frag} {ks : List Kn} {P : Kn} (h : R_asc ks P) : Tr M0 0 (ks.map some ++ List.replicate (N_ascending.length - ks.length) none) o0 (t_ascending K) (eRet 0 P) := by
  obtain ⟨ds, rfl, h1, h2, h3, hl, rfl⟩ := h
  refine tr_new (k := bL []) new_lst (fun G => ⟨[], rfl, trivial⟩) (of_decide_eq_true rfl) fun p => ?_
  refine tr_seq (fun n' Γ' O' => n' = 0 ∧ ∃ (acc : List PyData) (a : Option Kn), Γ' = [some (kD (.list ds)), some (kP p), a] ∧ O' = oOb p (bL (acc.map kD)) ∧ (∀ d, d ∈ acc ↔ d ∈ ds) ∧ acc.length ≤ ds.length) ?_ ?_
  · refine tr_forL (ev_sorted (ea_cons (ev_var rfl) ea_nil) h1 h2 h3 (by omega)) fun es pe => ⟨fun i n' Γ' O' => n' = 0 ∧ ∃ (acc : List PyData) (a : Option Kn), Γ' = [some (kD (.list ds)), some (kP p), a] ∧ O' = oOb p (bL (acc.map kD)) ∧ (∀ d, d ∈ acc ↔ d ∈ es.take i) ∧ acc.length ≤ i, ⟨rfl, [], _, rfl, rfl, fun d => by simp, Nat.le_refl _⟩, ?_, ?_⟩
    · rintro i k n' Γ' O' hk ⟨rfl, acc, a, rfl, rfl, hm, hle⟩
      rw [List.getElem?_map] at hk
      cases q : es[i]? with
      | none => rw [q] at hk; cases hk
      | some x =>
        rw [q] at hk; cases hk
        have hx : x ∈ ds := pe.mem_iff.mp (List.mem_of_getElem? q)
        have hacc : ∀ d ∈ acc, Sh 60 d := fun d hd => h3 d (pe.mem_iff.mp (List.mem_of_mem_take ((hm d).mp hd)))
        have hil : i < es.length := (List.getElem?_eq_some_iff.mp q).1
        have hes := pe.length_eq
        refine ⟨_, _, tgt_name (of_decide_eq_true rfl), ?_⟩
        refine tr_peek (i := 1) (P1 := kL (acc.map kD)) rfl kL_of (et_orD (b := decide (((acc.map kD).length : Int) = 0)) (c := !PyData.eqv (acc.getD (acc.length - 1) .none) x) (et_test (ev_eqI (ev_lenL (ea_cons (ev_var rfl) ea_nil)) ev_int)) fun hb => ?_) (fun e => ?_) fun e => ?_
        · have hne : acc.length - 1 < acc.length := by
            simp at hb
            have := List.length_pos_iff.mpr hb
            omega
          have hg : acc.getD (acc.length - 1) .none ∈ acc := by
            rw [List.getD_eq_getElem?_getD, List.getElem?_eq_getElem hne]; exact List.getElem_mem _
          exact et_neD (ev_ixLast (ev_var rfl) (ev_neg ev_int) rfl (by rw [List.length_map]; exact getK (f := kD) (d := .none) hne)) (ev_var rfl) (hacc _ hg) (h3 _ hx)
        · refine tr_appL (ev_var rfl) rfl (by rw [List.length_map]; omega) ⟨rfl, acc ++ [x], _, rfl, by rw [List.map_append]; rfl, fun d => ?_, by simp; omega⟩
          rw [take_snoc q, List.mem_append, List.mem_append, hm d]
        · refine tr_next ⟨rfl, acc, _, rfl, rfl, fun d => ?_, by omega⟩
          rw [take_snoc q, List.mem_append, hm d]
          constructor
          · exact .inl
          · rintro (z | z)
            · exact z
            · rw [List.mem_singleton.mp z]
              have e := e.symm
              rw [Bool.or_eq_false_iff] at e
              have hne : acc.length - 1 < acc.length := by
                have := e.1
                simp at this
                have := List.length_pos_iff.mpr this
                omega
              have hg : acc.getD (acc.length - 1) .none ∈ acc := by
                rw [List.getD_eq_getElem?_getD, List.getElem?_eq_getElem hne]; exact List.getElem_mem _
              have e2 : PyData.eqv (acc.getD (acc.length - 1) .none) x = true := by simpa using e.2
              rw [eqv_sh (hacc _ hg) (h3 _ hx)] at e2
              rw [← hm, ← e2]
              exact hg
    · rintro n' Γ' O' ⟨rfl, acc, a, rfl, rfl, hm, hle⟩
      rw [List.length_map] at hm hle
      exact ⟨rfl, acc, a, rfl, rfl, fun d => by rw [hm, List.take_of_length_le (Nat.le_refl _)]; exact pe.mem_iff, by rw [← pe.length_eq]; exact hle⟩
  · rintro n' Γ' O' ⟨rfl, acc, a, rfl, rfl, hm, hle⟩
    exact tr_close (i := 1) (P1 := kL (acc.map kD)) rfl kL_of (tr_ret (P := kX (fun es : List PyData => (∀ d, d ∈ es ↔ d ∈ ds) ∧ es.length ≤ ds.length) fun es => kL (es.map kD)) (ev_imp (ev_var rfl) fun G v h => ⟨acc, ⟨hm, hle⟩, h⟩) ⟨rfl, rfl⟩)
section
variable {P : Program} {w : World} {K : PySem.W.Frag} {mg : Str → Option Value} {base : Heap} {C CR : Addr}
theorem cal_asc (B : Bi mg) (F : Fd K mg "ascending" 24) : Cal P w K mg base 1 "ascending" ["rows"] sp_ascending :=
  cal_Q F sc_ascending (by decide) (fun _ _ _ _ _ _ us hl => match us, hl with | [_], _ => rfl) (fun ks Pk ⟨_, e, _⟩ => by rw [e]; rfl) (fun f cdv A outer s H E hr => der_ascending B hr) fun ks Pk h => .inl (w_asc h)
/-- pairs in some order, none lost, none new -/
theorem asc_enc {ι : Type} {enc : ι → PyData} {ps : List ι} {es : List PyData} (h : ∀ d, d ∈ es ↔ d ∈ ps.map enc) : ∃ qs : List ι, es = qs.map enc ∧ ∀ q ∈ qs, ∃ p ∈ ps, enc q = enc p := by
  have key : ∀ l : List PyData, (∀ d ∈ l, d ∈ ps.map enc) → ∃ qs : List ι, l = qs.map enc ∧ ∀ q ∈ qs, ∃ p ∈ ps, enc q = enc p := fun l => by
    induction l with
    | nil => intro _; exact ⟨[], rfl, fun _ z => nomatch z⟩
    | cons d l ih =>
      intro hl
      obtain ⟨qs, e, hq⟩ := ih fun d hd => hl d (List.mem_cons_of_mem _ hd)
      obtain ⟨p, hp, ed⟩ := List.mem_map.mp (hl d List.mem_cons_self)
      refine ⟨p :: qs, by rw [List.map_cons, ← e, ed], fun q hq' => ?_⟩
      rcases List.mem_cons.mp hq' with rfl | hq'
      · exact ⟨q, hp, rfl⟩
      · exact hq q hq'
  exact key es fun d hd => (h d).mp hd
theorem asc_mem {ι : Type} {enc : ι → PyData} (inj : ∀ x y, enc x = enc y → x = y) {ps : List ι} {es : List PyData} (h : ∀ d, d ∈ es ↔ d ∈ ps.map enc) : ∃ qs : List ι, es = qs.map enc ∧ ∀ q, q ∈ qs ↔ q ∈ ps := by
  obtain ⟨qs, e, hq⟩ := asc_enc h
  refine ⟨qs, e, fun q => ⟨fun z => ?_, fun z => ?_⟩⟩
  · obtain ⟨p, hp, ep⟩ := hq q z
    rw [inj _ _ ep]; exact hp
  · have : enc q ∈ es := (h _).mpr (List.mem_map.mpr ⟨q, z, rfl⟩)
    rw [e] at this
    obtain ⟨q', hq', eq'⟩ := List.mem_map.mp this
    rw [← inj _ _ eq']; exact hq'
/-! ### Rules -/
def ePs (p : Str × Str) : PyData := .tuple [.str p.1, .str p.2]
theorem ePs_inj (x y : Str × Str) (h : ePs x = ePs y) : x = y := by
  unfold ePs at h
  simp only [PyData.tuple.injEq, List.cons.injEq, PyData.str.injEq, and_true] at h
  exact Prod.ext h.1 h.2
theorem ePr_inj (x y : Nat × Nat) (h : ePr x = ePr y) : x = y := by
  unfold ePr at h
  simp only [PyData.tuple.injEq, List.cons.injEq, and_true] at h
  exact Prod.ext (eI_inj h.1) (eI_inj h.2)
theorem sh_ePr {p : Nat × Nat} : Sh 60 (ePr p) := by
  refine (sh_tup (n := 0) fun d hd => ?_).mono (by decide)
  rcases List.mem_cons.mp hd with rfl | hd
  · exact sh_eI
  · rw [List.mem_singleton.mp hd]; exact sh_eI
theorem sh_ePs {p : Str × Str} (h1 : Lt p.1) (h2 : Lt p.2) : Sh 60 (ePs p) := by
  refine (sh_tup (n := 0) fun d hd => ?_).mono (by decide)
  rcases List.mem_cons.mp hd with rfl | hd
  · exact sh_str h1.ok
  · rw [List.mem_singleton.mp hd]; exact sh_str h2.ok
def kPairs (ps : List (Str × Str)) : Kn := kX (fun qs : List (Str × Str) => (∀ q, q ∈ qs ↔ q ∈ ps) ∧ qs.length ≤ ps.length) fun qs => kD (.tuple (qs.map ePs))
def R_rules (ks : List Kn) (fs : List (Str × Kn)) : Prop := ∃ ps : List (Str × Str), ks = [kL (ps.map fun p => kD (ePs p))] ∧ (∀ p ∈ ps, Lt p.1 ∧ Lt p.2) ∧ ps.length ≤ 100 ∧ fs = [(("own_pairs" : Str), kPairs ps)]
theorem kless_pairs {ps : List (Str × Str)} : KLess IsIns (kPairs ps) := fun G p v o e t ⟨qs, a, b⟩ => ⟨qs, a, kless_D ins_noseq G p v o e t b⟩
structure RulF (K : PySem.W.Frag) (C : Addr) : Prop where
  cls : Cls K C
  no : NoAttr K C "own_pairs"
theorem asc_pairs {ps : List (Str × Str)} (h : ∀ p ∈ ps, Lt p.1 ∧ Lt p.2) (hl : ps.length ≤ 100) : R_asc [kD (.list (ps.map ePs))] (kX (fun es : List PyData => (∀ d, d ∈ es ↔ d ∈ ps.map ePs) ∧ es.length ≤ (ps.map ePs).length) fun es => kL (es.map kD)) :=
  ⟨_, rfl, PySem.W.AllAlike.of fun _ _ => rfl, PySem.W.Sortable.tuples fun p => ⟨_, _, rfl⟩, fun d hd => by obtain ⟨p, hp, rfl⟩ := List.mem_map.mp hd; exact sh_ePs (h p hp).1 (h p hp).2, by rw [List.length_map]; omega, rfl⟩
theorem ev_tupX {md : Md} {m n : Nat} {Γ : Env} {t : TA} {ι : Type} {S : ι → Prop} {kf : ι → List Kn} (h : EvA md m n t Γ [kX S fun x => kL (kf x)]) : Ev md m n (tCB (cTup K) t) Γ (kX S fun x => kT (kf x)) :=
  ev_cb1 h fun G H v s jj ⟨x, sx, a, xs, e, hs, ax⟩ => Out.new (o := .tup xs) s jj (fun p hp => ⟨x, sx, p, xs, rfl, upd_same, AllK.mono (le_same (same_new (s.free hp))) ax⟩) fun Q q => ⟨a, xs, by rw [e], .inl ⟨SqL.of (s _ _ hs), fun l hl => q l hl⟩⟩
theorem mak_rules (B : Bi mg) (c : RulF K CR) (c1 : Cal P w K mg base 1 "ascending" ["rows"] sp_ascending) (F : ∃ f fd ds, FunD K "__init__" "Rules.__init__" (defArgs (inClass (top 26) 0)) (defBody (inClass (top 26) 0)) (defScope (inClass (top 26) 0)) ds [] f fd ∧ Mk K CR f ∧ Binds K fd ["self", "pairs"] []) (hm : mg "Rules" = some (.ref CR)) :
    Mak P w K mg base 2 CR "Rules" ["self", "pairs"] [] (spI CR R_rules) := by
  obtain ⟨f, fd, ds, F, M, hb⟩ := F
  refine ⟨f, fd, [], M, fn_S F sc_Rules_init (fun vs H Q E ⟨G, x, dx, rest, ks, fs, e, _, a, ⟨_, ek, _⟩, _⟩ => ?_) (fun cdv A outer s H E hr => der_Rules_init B c1 hr) fun vs H Q E h => tr_runI h ?_ ?_, hm, hb, .nil⟩
  · rw [e, List.length_cons, ← AllK.len a, ek]; rfl
  · rintro ks fs ⟨ps, rfl, _⟩
    exact Nat.le_of_ble_eq_true rfl
  · rintro x dx ks fs ⟨ps, rfl, h1, h2, rfl⟩
    refine tr_fldL c.cls c.no (fun z => nomatch z) (by decide) kless_pairs rfl (ev_imp (ev_tupX (ea_cons (ev_callQ (ea_cons (ev_listD (ev_lcX (xs := ps) (pf := fun p => kD (ePs p)) (src_list (ev_var rfl)) (by omega) (fun p => [some (kIns CR [] []), some (kL (ps.map fun p => kD (ePs p))), some (kD (ePs p))]) (fun p => tgt_name (of_decide_eq_true rfl)) fun p hp =>
      ev_ofT (ds := [.str p.1, .str p.2]) (ev_tupT (ea_cons (ev_asT (ev_var rfl)) ea_nil)))) ea_nil) (asc_pairs h1 h2)) ea_nil)) fun G v ⟨es, ⟨he, hl⟩, p⟩ => ?_) ⟨_, rfl, fun _ _ h => h⟩
    obtain ⟨qs, rfl, hq⟩ := asc_mem ePs_inj he
    exact ⟨qs, ⟨hq, by simpa using hl⟩, kD_tup.mpr p⟩
def kRul (C : Addr) (ps : List (Str × Str)) : Kn := kIns C [("own_pairs", kPairs ps)] []
def R_pairs (C : Addr) (ks : List Kn) (P : Kn) : Prop := ∃ ps, ks = [kRul C ps] ∧ P = kPairs ps
theorem prp_pairs (B : Bi mg) (c : RulF K CR) (F : Pd1 K CR "pairs" "Rules.pairs" 26 1) : Prp P w K mg base 1 CR "pairs" (spQ (R_pairs CR)) := by
  refine prp_Q F sc_Rules_pairs (by decide) (fun _ _ _ _ _ _ us hl => match us, hl with | [_], _ => rfl) (fun ks Pk ⟨_, e, _⟩ => by rw [e]; rfl) (fun f cdv A outer s H E hr => der_Rules_pairs B hr) ?_
  rintro ks Pk ⟨ps, rfl, rfl⟩
  exact tr_ret (ev_fld c.cls c.no (ev_var rfl) (.head _)) ⟨rfl, rfl⟩
/-! ### deeds -/
def R_check (C : Addr) (ks : List Kn) (P : Kn) : Prop := ∃ M nm v, ks = [kMac C M nm, kD (eW v)] ∧ (∀ a ∈ v, a ∈ nm) ∧ P = kD .none
theorem cal_check (B : Bi mg) (c : MacF K C) (p1 : Dun P w K mg base 1 C "__contains__" ["self", "name"] (spQ (R_has C))) (F : Fd K mg "check_deeds" 27) : Cal P w K mg base 2 "check_deeds" ["machine", "names"] (spQ (R_check C)) := by
  refine cal_Q F sc_check_deeds (by decide) (fun _ _ _ _ _ _ us hl => match us, hl with | [_, _], _ => rfl) (fun ks Pk ⟨_, _, _, e, _⟩ => by rw [e]; rfl) (fun f cdv A outer s H E hr => der_check_deeds B c.cls p1 hr) ?_
  rintro ks Pk ⟨M, nm, v, rfl, hv, rfl⟩
  refine .inr ⟨rfl, tr_for (src_tup (ev_Dtup (xs := v) (f := .str) (ev_var rfl))) (fun _ n' Γ' O' => n' = 0 ∧ O' = o0 ∧ ∃ a, Γ' = [some (kMac C M nm), some (kD (eW v)), a]) ⟨rfl, rfl, _, rfl⟩ ?_ fun _ _ _ h => h.1⟩
  rintro i k n' Γ' O' hk ⟨rfl, rfl, a, rfl⟩
  rw [List.getElem?_map] at hk
  cases q : v[i]? with
  | none => rw [q] at hk; cases hk
  | some x =>
    rw [q] at hk; cases hk
    have hx : x ∈ nm := hv x (List.mem_of_getElem? q)
    refine ⟨_, _, tgt_name (of_decide_eq_true rfl), tr_if (et_ninO (ev_var rfl) (ev_var rfl) ⟨M, nm, x, rfl, rfl⟩) (fun e => tr_abs ?_) fun _ => tr_next ⟨rfl, rfl, _, rfl⟩⟩
    simp [hx] at e
def Mc.sc (M : Mc) (x : Str) (p : Nat × Nat) : Nat × Nat := (M.mv x p.1, M.mv x p.2)
def kQs (M : Mc) (ps : List (Nat × Nat)) (a : Str) : Kn := kX (fun qs : List (Nat × Nat) => (∀ q, q ∈ qs ↔ ∃ p ∈ ps, q = M.sc a p) ∧ qs.length ≤ ps.length) fun qs => kD (.list (qs.map ePr))
def R_after (C : Addr) (ks : List Kn) (P : Kn) : Prop := ∃ M nm ps a, ks = [kMac C M nm, kD (.list (ps.map ePr)), kD (.str a)] ∧ Mc.Nm M nm ∧ a ∈ M.nms ∧ (∀ p ∈ ps, p.1 < M.n ∧ p.2 < M.n) ∧ ps.length ≤ 100 ∧ P = kQs M ps a
theorem asc_prs {ps : List (Nat × Nat)} (hl : ps.length ≤ 100) : R_asc [kD (.list (ps.map ePr))] (kX (fun es : List PyData => (∀ d, d ∈ es ↔ d ∈ ps.map ePr) ∧ es.length ≤ (ps.map ePr).length) fun es => kL (es.map kD)) :=
  ⟨_, rfl, PySem.W.AllAlike.of fun _ _ => rfl, PySem.W.Sortable.tuples fun p => ⟨_, _, rfl⟩, fun d hd => by obtain ⟨p, hp, rfl⟩ := List.mem_map.mp hd; exact sh_ePr, by rw [List.length_map]; omega, rfl⟩
theorem cal_after (B : Bi mg) (c : MacF K C) (p1 : Dun P w K mg base 1 C "__getitem__" ["self", "name"] (spQ (R_get C))) (c1 : Cal P w K mg base 1 "ascending" ["rows"] sp_ascending) (F : Fd K mg "after_deed" 28) : Cal P w K mg base 3 "after_deed" ["machine", "pairs", "name"] (spQ (R_after C)) := by
  refine cal_Q F sc_after_deed (by decide) (fun _ _ _ _ _ _ us hl => match us, hl with | [_, _, _], _ => rfl) (fun ks Pk ⟨_, _, _, _, e, _⟩ => by rw [e]; rfl) (fun f cdv A outer s H E hr => der_after_deed B c.cls p1 c1 hr) ?_
  rintro ks Pk ⟨M, nm, ps, a, rfl, o, ha, hps, hl, rfl⟩
  refine .inl (tr_set (ev_ixO (ev_var rfl) (ev_var rfl) ⟨M, nm, a, rfl, o, ha, rfl⟩) (of_decide_eq_true rfl) ?_)
  have hrl := (o.ok.row_len ha).1
  have hR := asc_prs (ps := ps.map (M.sc a)) (by rw [List.length_map]; exact hl)
  rw [List.map_map] at hR
  refine tr_ret (ev_imp (ev_callQ (ea_cons (ev_listD (ev_lcX (xs := ps) (kf := fun p => kT [kD (eI p.1), kD (eI p.2)]) (pf := fun p => kD (ePr (M.sc a p))) (src_list (ev_imp (ev_Dlist (ev_var rfl)) fun G v h => ?_)) (by omega) (fun p => [some (kMac C M nm), some (kD (.list (ps.map ePr))), some (kD (.str a)), some (kD (eRow (M.row a))), some (kD (eI p.1)), some (kD (eI p.2))]) (fun p => tgt_two (of_decide_eq_true rfl) (of_decide_eq_true rfl)) fun p hp => ?_)) ea_nil)
    hR) fun G v ⟨es, ⟨he, hle⟩, p⟩ => ?_) ⟨rfl, rfl⟩
  · obtain ⟨b, vs, e, hs, ax⟩ := h
    refine ⟨b, vs, e, hs, ?_⟩
    have key : ∀ {l : List (Nat × Nat)} {vs : List V}, AllK G (l.map fun p => kD (ePr p)) vs → AllK G (l.map fun p => kT [kD (eI p.1), kD (eI p.2)]) vs := fun {l} => by
      induction l with
      | nil => intro vs h; cases vs with | nil => trivial | cons _ _ => exact h.elim
      | cons p l ih => intro vs h; cases vs with | nil => exact h.elim | cons v vs => exact ⟨kD_tup.mp h.1, ih h.2⟩
    exact key ax
  · exact ev_ofT (ds := [eI (M.mv a p.1), eI (M.mv a p.2)]) (ev_tup (ea_cons (ev_ixT (ev_Dtup (ev_var rfl)) (ev_var rfl) (getK (d := 0) (by rw [hrl]; exact (hps p hp).1))) (ea_cons (ev_ixT (ev_Dtup (ev_var rfl)) (ev_var rfl) (getK (d := 0) (by rw [hrl]; exact (hps p hp).2))) ea_nil)) (by simp))
  · rw [show ps.map (ePr ∘ M.sc a) = (ps.map (M.sc a)).map ePr by rw [List.map_map]] at he
    obtain ⟨qs, rfl, hq⟩ := asc_mem ePr_inj he
    refine ⟨qs, ⟨fun q => ?_, by simpa using hle⟩, kD_list.mpr p⟩
    rw [hq, List.mem_map]
    exact ⟨fun ⟨p, hp, e⟩ => ⟨p, hp, e.symm⟩, fun ⟨p, hp, e⟩ => ⟨p, hp, e.symm⟩⟩
end
end Ll
end

section
set_option Elab.async false
set_option linter.all false
set_option maxRecDepth 100000
set_option maxHeartbeats 2000000
/-! Ll, walks: far_from. -/
namespace Ll
open PySem PySem.Spec PyProof.Rows L2
noncomputable def dec (p : Prop) : Bool := @decide p (Classical.propDecidable p)
theorem dec_iff {p : Prop} : dec p = true ↔ p := @decide_eq_true_iff p (Classical.propDecidable p)
theorem dec_t {p : Prop} (h : p) : dec p = true := dec_iff.mpr h
theorem dec_f {p : Prop} (h : ¬p) : dec p = false := by
  cases e : dec p with
  | false => rfl
  | true => exact absurd (dec_iff.mp e) h
theorem dec_nf {p : Prop} : dec p = false ↔ ¬p := ⟨(fun h z => by rw [dec_t z] at h; cases h), dec_f⟩
theorem flat_len {α β : Type} {f : α → List β} {B : Nat} : ∀ {xs : List α}, (∀ x ∈ xs, (f x).length ≤ B) → (xs.flatMap f).length ≤ xs.length * B
  | [], _ => by simp
  | x :: xs, h => by
    have h1 := flat_len (xs := xs) fun y hy => h y (List.mem_cons_of_mem _ hy)
    have h2 := h x List.mem_cons_self
    rw [List.flatMap_cons, List.length_append, List.length_cons, Nat.add_mul, Nat.one_mul]
    omega
def every (n : Nat) : List Pr := (List.range n).flatMap fun x => ((List.range n).filter fun _ => true).map fun j => (x, j)
theorem mem_every {n : Nat} {p : Pr} : p ∈ every n ↔ p.1 < n ∧ p.2 < n := by
  unfold every
  simp only [List.mem_flatMap, List.mem_range, List.mem_map, List.mem_filter, and_true]
  constructor
  · rintro ⟨x, hx, j, hj, rfl⟩; exact ⟨hx, hj⟩
  · rintro ⟨h1, h2⟩; exact ⟨p.1, h1, p.2, h2, rfl⟩
theorem every_len {n : Nat} (hn : n ≤ 6) : (every n).length ≤ 36 := by
  have h1 := flat_len (xs := List.range n) (f := fun x => ((List.range n).filter fun _ => true).map fun j => (x, j)) (B := 6) fun x _ => by
    rw [List.length_map]
    refine Nat.le_trans (List.length_filter_le _ _) ?_
    simp; omega
  rw [List.length_range] at h1
  have : n * 6 ≤ 36 := by omega
  exact Nat.le_trans h1 this
section
variable {M : Mc}
/-- what the dict found holds after k rounds -/
structure FdS (pm : Pm Str) (bl : List Pr) (k : Nat) (kvs : List (TK × V)) : Prop where
  rk : ∀ p, pm.In p → Rk pm (· ∈ bl) k p → ∃ j : Nat, j ≤ k ∧ Ds pm (· ∈ bl) p j ∧ valV kvs (key2 p) = some (.int (j : Nat))
  no : ∀ p, pm.In p → ¬Rk pm (· ∈ bl) k p → valV kvs (key2 p) = none
  va : ∀ q ∈ kvs, ∃ j : Nat, j ≤ k ∧ q.2 = .int (j : Nat)
  ln : kvs.length ≤ 40 * (k + 1)
def bS (pm : Pm Str) (bl : List Pr) (k : Nat) : Ob := ⟨fun _ o => ∃ kvs, o = .dT kvs ∧ FdS pm bl k kvs, fun _ _ _ _ h => h⟩
def kS2 (T : List (TK × V) → Prop) : Kn := ⟨fun G v => ∃ a kvs, v = .ref a ∧ G a = some (.dT kvs) ∧ T kvs, fun _ _ _ l ⟨a, kvs, e, h, t⟩ => ⟨a, kvs, e, l.at h (fun _ z => nomatch z), t⟩⟩
theorem bS_nt {pm : Pm Str} {bl : List Pr} {k : Nat} : ∀ G o, (bS pm bl k).ok G o → (∀ xs, o ≠ .lst xs) ∧ ∀ xs, o ≠ .tup xs := fun G o ⟨kvs, e, _⟩ => by
  subst e
  exact ⟨(fun _ z => nomatch z), (fun _ z => nomatch z)⟩
theorem kS_of {pm : Pm Str} {bl : List Pr} {k : Nat} {D : Addr} : ∀ G o, G D = some o → (bS pm bl k).ok G o → (kS2 (FdS pm bl k)).p G (.ref D) := fun G o e ⟨kvs, eo, f⟩ => ⟨D, kvs, rfl, by rw [e, eo], f⟩
/-- .. at the end -/
def Fz (pm : Pm Str) (bl : List Pr) (kvs : List (TK × V)) : Prop := ∀ p, pm.In p → (∀ j : Nat, Ds pm (· ∈ bl) p j → valV kvs (key2 p) = some (.int (j : Nat)) ∧ j ≤ 40) ∧ ((∀ j, ¬Rk pm (· ∈ bl) j p) → valV kvs (key2 p) = none)
theorem fd_some {pm : Pm Str} {bl : List Pr} {k : Nat} {kvs : List (TK × V)} (h : FdS pm bl k kvs) {p : Pr} (hp : pm.In p) : (valV kvs (key2 p)).isSome = dec (Rk pm (· ∈ bl) k p) := by
  by_cases q : Rk pm (· ∈ bl) k p
  · obtain ⟨j, _, _, e⟩ := h.rk p hp q
    rw [e, dec_t q]; rfl
  · rw [h.no p hp q, dec_f q]; rfl
theorem fd_start {pm : Pm Str} {bl : List Pr} (hl : bl.length ≤ 40) : FdS pm bl 0 (mkd 0 bl) := by
  refine ⟨fun p hp hr => ⟨0, Nat.le_refl _, ⟨hr, fun _ z => absurd z (Nat.not_lt_zero _)⟩, ?_⟩, fun p hp hr => ?_, fun q hq => ⟨0, Nat.le_refl _, mkd_val q hq⟩, Nat.le_trans mkd_len (by omega)⟩
  · rw [mkd_get, if_pos (show p ∈ bl from hr)]; rfl
  · rw [mkd_get, if_neg (show ¬p ∈ bl from hr)]
theorem fd_next {pm : Pm Str} {bl ed : List Pr} {k : Nat} {kvs : List (TK × V)} (h : FdS pm bl k kvs) (he : ∀ p, p ∈ ed ↔ pm.In p ∧ Ds pm (· ∈ bl) p (k + 1)) (hl : ed.length ≤ 40) : FdS pm bl (k + 1) ((mkd ((k + 1 : Nat) : Int) ed).foldl (fun acc p => putK acc p.1 p.2) kvs) := by
  have g : ∀ p : Pr, valV ((mkd ((k + 1 : Nat) : Int) ed).foldl (fun acc p => putK acc p.1 p.2) kvs) (key2 p) = if p ∈ ed then some (.int ((k + 1 : Nat) : Int)) else valV kvs (key2 p) := fun p => by
    rw [fold_get (z := ((k + 1 : Nat) : Int)) mkd_val, mkd_get]
    by_cases q : p ∈ ed <;> simp [q]
  refine ⟨fun p hp hr => ?_, fun p hp hr => ?_, fun q hq => ?_, ?_⟩
  · rw [g]
    by_cases q : p ∈ ed
    · rw [if_pos q]; exact ⟨k + 1, Nat.le_refl _, ((he p).mp q).2, rfl⟩
    · rw [if_neg q]
      have r : Rk pm (· ∈ bl) k p := by
        apply Classical.byContradiction
        intro z
        exact q ((he p).mpr ⟨hp, hr, fun j hj rj => z (rk_mono (by omega) rj)⟩)
      obtain ⟨j, h1, h2, h3⟩ := h.rk p hp r
      exact ⟨j, by omega, h2, h3⟩
  · rw [g, if_neg fun z => hr ((he p).mp z).2.1]
    exact h.no p hp fun z => hr (.inl z)
  · exact fold_val (T := fun v => ∃ j : Nat, j ≤ k + 1 ∧ v = .int (j : Nat)) (fun q hq => ⟨k + 1, Nat.le_refl _, mkd_val q hq⟩) (fun q hq => let ⟨j, h1, h2⟩ := h.va q hq; ⟨j, by omega, h2⟩) q hq
  · have h1 := foldPut_len (mkd ((k + 1 : Nat) : Int) ed) kvs
    have h2 := mkd_len (z := ((k + 1 : Nat) : Int)) (xs := ed)
    have h3 := h.ln
    omega
theorem fd_max {pm : Pm Str} {bl : List Pr} {k : Nat} {kvs : List (TK × V)} (h : FdS pm bl k kvs) {p : Pr} (hp : pm.In p) (hd : Ds pm (· ∈ bl) p k) : ∃ ns : List Int, kvs.map Prod.snd = ns.map V.int ∧ ((k : Nat) : Int) ∈ ns ∧ ∀ y ∈ ns, y ≤ ((k : Nat) : Int) := by
  obtain ⟨j, h1, h2, h3⟩ := h.rk p hp hd.1
  have ej := ds_uniq h2 hd
  subst ej
  obtain ⟨q, hq, eq⟩ := val_mem h3
  have key : ∀ l : List (TK × V), (∀ q ∈ l, ∃ i : Nat, i ≤ j ∧ q.2 = .int (i : Nat)) → ∃ ns : List Int, l.map Prod.snd = ns.map V.int ∧ ∀ y ∈ ns, y ≤ ((j : Nat) : Int) := fun l => by
    induction l with
    | nil => intro _; exact ⟨[], rfl, fun _ z => nomatch z⟩
    | cons a l ih =>
      intro hl
      obtain ⟨ns, e, hn⟩ := ih fun q hq => hl q (List.mem_cons_of_mem _ hq)
      obtain ⟨i, hi, ei⟩ := hl a List.mem_cons_self
      refine ⟨(i : Nat) :: ns, by rw [List.map_cons, List.map_cons, e, ei], fun y hy => ?_⟩
      rcases List.mem_cons.mp hy with rfl | hy
      · omega
      · exact hn y hy
  obtain ⟨ns, e, hn⟩ := key kvs h.va
  refine ⟨ns, e, ?_, hn⟩
  have : V.int ((j : Nat) : Int) ∈ kvs.map Prod.snd := List.mem_map.mpr ⟨q, hq, eq⟩
  rw [e] at this
  obtain ⟨y, hy, ey⟩ := List.mem_map.mp this
  injection ey with ey
  rw [← ey]; exact hy
theorem fd_done {pm : Pm Str} {bl : List Pr} {k : Nat} {kvs : List (TK × V)} (h : FdS pm bl k kvs) (hk : k ≤ 40) (hno : ∀ p, pm.In p → ¬Ds pm (· ∈ bl) p k) : Fz pm bl kvs := fun p hp => by
  refine ⟨fun j hd => ?_, fun hn => h.no p hp (hn k)⟩
  obtain ⟨i, hi, ri⟩ := rk_stop hno j p hp hd.1
  obtain ⟨j', h1, h2, h3⟩ := h.rk p hp (rk_mono (by omega) ri)
  rw [ds_uniq hd h2]; exact ⟨h3, by omega⟩
end
def R_far (C : Addr) (ks : List Kn) (P : Kn) : Prop := ∃ M nm bl, ∃ o : Mc.Nm M nm, ks = [kMac C M nm, kD (.list (bl.map ePr))] ∧ (∀ p ∈ bl, p.1 < M.n ∧ p.2 < M.n) ∧ bl.length ≤ 40 ∧ P = kS2 (Fz o.ok.pm bl)
theorem tr_tupDc {md : Md} {m n n0 : Nat} {Γ : Env} {K : PySem.W.Frag} {E : Es md} {rest : TS} {wi : TI} {tv te : TE} {P2 : Kn} {xs : List Pr} {z : Int} {j i1 i2 : Nat} {k : Ob} (src : Src md m n0 wi Γ (xs.map fun p => kD (ePr p))) (hz : xs.length ≤ 1000) (hj : j < Γ.length)
    (hv : ∀ p, Ev md n0 n0 tv ((wipeE Γ [j]).set j (some (kD (ePr p)))) (kD (.int z))) (h : Ev md n0 n te Γ P2) (hk : ∀ G, k.ok G (.dT (mkd z xs))) (h1 : i1 < Γ.length) (h2 : i2 < Γ.length) (r : ∀ D, Tr md n ((Γ.set i1 (some (kP D))).set i2 (some P2)) (oOb D k) rest E) :
    Tr md m Γ o0 (tSeq (tAsg (tTup (tCons (tDcT wi (gName j) tYes (tVar j) tv [j]) (tCons te tNil))) (gTup K 2 (gCons (gName i1) (gCons (gName i2) gNil)))) rest) E := fun G0 H0 Gb G H σ s D d =>
  by
    unfold tSeq tAsg tTup tCons
    refine dc_run src hz hj hv s.c _ fun A H1 G1 g1 j1 hA gA nk hp => ?_
    have s1 := s.adopt g1 j1 hA gA nk hp (hk G1)
    refine h G1 H1 σ s1.c _ fun v H2 G2 g2 j2 p2 => ⟨(show 2 ≤ sizeLine by decide), fun q hq => ?_⟩
    have s2 := (s1.next g2 j2).extra (o := .tup [.ref A, v]) hq
    exact ⟨q, _, rfl, SqT.of upd_same, rfl, .ref A, [v], rfl, v, [], rfl, rfl, r A G0 H0 Gb G2 _ _ ((s2.set h1 rfl).set (by rw [List.length_set]; exact h2) p2) D d⟩
theorem filt_lt {α : Type} {p q : α → Bool} {l : List α} (h : ∀ x ∈ l, p x = true → q x = true) : (l.filter p).length ≤ (l.filter q).length ∧ ((∃ x ∈ l, p x = false ∧ q x = true) → (l.filter p).length < (l.filter q).length) := by
  have := countP_mono_lt h
  rw [List.countP_eq_length_filter, List.countP_eq_length_filter] at this
  exact this
section
variable {P : Program} {w : World} {K : PySem.W.Frag} {mg : Str → Option Value} {base : Heap} {C : Addr}
theorem kL_fst {v : V} {G : Hp} {M : Mc} {p : Pr} {a : Str} (h : (kQs M [p] a).p G v) : ∃ b xs w, v = .ref b ∧ G b = some (.lst xs) ∧ xs[0]? = some w ∧ (kD (ePr (M.sc a p))).p G w := by
  obtain ⟨qs, ⟨hq, _⟩, pv⟩ := h
  obtain ⟨b, xs, e, hs, ax⟩ := kD_list.mp pv
  have h0 : M.sc a p ∈ qs := (hq _).mpr ⟨p, by simp, rfl⟩
  cases qs with
  | nil => cases h0
  | cons q qs =>
    have eq : q = M.sc a p := by
      obtain ⟨p', hp', e'⟩ := (hq q).mp List.mem_cons_self
      rw [List.mem_singleton.mp hp'] at e'
      exact e'
    cases xs with
    | nil => exact ax.elim
    | cons w xs => exact ⟨b, _, w, e, hs, rfl, eq ▸ ax.1⟩
theorem cal_far (B : Bi mg) (c : MacF K C) (p1 : Prp P w K mg base 1 C "many" (spQ (R_many C))) (p2 : Prp P w K mg base 1 C "names" (spQ (R_names C))) (p3 : Cal P w K mg base 3 "after_deed" ["machine", "pairs", "name"] (spQ (R_after C))) (F : Fd K mg "far_from" 29) :
    Cal P w K mg base 4 "far_from" ["machine", "bad"] (spQ (R_far C)) := by
  refine cal_Q F sc_far_from (by decide) (fun _ _ _ _ _ _ us hl => match us, hl with | [_, _], _ => rfl) (fun ks Pk ⟨_, _, _, _, e, _⟩ => by rw [e]; rfl) (fun f cdv A outer s H E hr => der_far_from B c.cls p1 p2 p3 hr) ?_
  rintro ks Pk ⟨M, nm, bl, o, rfl, hb, hbl, rfl⟩
  have hn6 := o.ok.n6
  generalize epm : o.ok.pm = pm
  have epn : pm.n = M.n := by rw [← epm]; rfl
  have epx : ∀ x, x ∈ pm.nm ↔ x ∈ M.nms := fun x => by rw [← epm]; rfl
  have epsc : ∀ x p, pm.sc x p = M.sc x p := fun x p => by rw [← epm]; rfl
  have hIn : ∀ p, pm.In p ↔ p.1 < M.n ∧ p.2 < M.n := fun p => by unfold Pm.In; rw [epn]
  left
  refine tr_tupDc (k := bS pm bl 0) (z := 0) (src_list (ev_Dlist (ev_var rfl))) (by omega) (of_decide_eq_true rfl) (fun p => ev_int) (ev_lstL (ea_cons (ev_Dlist (f := ePr) (ev_var rfl)) ea_nil)) (fun G => ⟨_, rfl, fd_start hbl⟩) (of_decide_eq_true rfl) (of_decide_eq_true rfl) fun D => ?_
  refine tr_set (P1 := kD (.list ((every M.n).map ePr))) (ev_listD (ev_imp (ev_lc2X (xs := List.range M.n) (ys := fun _ => List.range M.n) (kf := fun i => kD (eI i)) (kf1 := fun _ j => kD (eI j)) (pf := fun i j => kD (ePr (i, j))) (B := 6) (bf := fun _ _ => true) (src_range (ea_cons (ev_prop (ev_var rfl) ⟨M, nm, rfl, rfl⟩) ea_nil) (by omega)) (fun _ _ => by simp; omega) (by simp; omega)
    (fun i => [some (kMac C M nm), some (kD (.list (bl.map ePr))), some (kP D), some (kL (bl.map fun p => kD (ePr p))), none, none, none, none, some (kD (eI i)), none, none]) (fun i j => [some (kMac C M nm), some (kD (.list (bl.map ePr))), some (kP D), some (kL (bl.map fun p => kD (ePr p))), none, none, none, none, some (kD (eI i)), some (kD (eI j)), none]) (fun i => tgt_name (of_decide_eq_true rfl))
    (fun i _ => src_range (ea_cons (ev_prop (ev_var rfl) ⟨M, nm, rfl, rfl⟩) ea_nil) (by omega)) (fun i j => tgt_name (of_decide_eq_true rfl)) (fun _ _ _ _ => et_yes) fun i _ j _ _ => ev_ofT (ds := [eI i, eI j]) (ev_tup (ea_cons (ev_var rfl) (ea_cons (ev_var rfl) ea_nil)) (by simp))) fun G v h => ?_)) (of_decide_eq_true rfl) ?_
  · unfold every
    rw [List.map_flatMap]
    simp only [List.map_map]
    exact h
  have el := every_len hn6
  generalize eev : every M.n = ev at el
  have mev : ∀ p, p ∈ ev ↔ pm.In p := fun p => by rw [← eev, mem_every, hIn]
  let cnt : Nat → Nat := fun k => (ev.filter fun p => dec (¬Rk pm (· ∈ bl) k p)).length
  have cntl : ∀ k, cnt k ≤ 36 := fun k => Nat.le_trans (List.length_filter_le _ _) el
  refine tr_seq (fun n' Γ' O' => n' = 0 ∧ ∃ k, O' = oOb D (bS pm bl k) ∧ Γ'[2]? = some (some (kP D)) ∧ k ≤ 40 ∧ ∀ p, pm.In p → ¬Ds pm (· ∈ bl) p k) ?_ ?_
  · refine tr_while (fun l n' Γ' O' => n' = 0 ∧ ∃ (k : Nat) (ed : List Pr) (a b e : Option Kn), (e = some (kD (.list (ed.map ePr))) ∨ e = some (kL (ed.map fun p => kD (ePr p)))) ∧ Γ' = [some (kMac C M nm), some (kD (.list (bl.map ePr))), some (kP D), e, some (kD (.list (ev.map ePr))), a, b, none, none, none, none] ∧ O' = oOb D (bS pm bl k) ∧
      (∀ p, p ∈ ed ↔ pm.In p ∧ Ds pm (· ∈ bl) p k) ∧ ed.length ≤ 40 ∧ l = cnt k + (if ed = [] then 0 else 1) ∧ k + l ≤ 40) ⟨_, rfl, 0, bl, none, none, _, .inr rfl, rfl, rfl, fun p => ⟨fun z => ⟨(hIn p).mpr (hb p z), z, fun _ y => absurd y (Nat.not_lt_zero _)⟩, fun z => z.2.1⟩, hbl, rfl, by have := cntl 0; split <;> omega⟩ ?_
    rintro l n' Γ' O' ⟨rfl, k, ed, a, b, e, he, rfl, rfl, hed, hedl, rfl, hkl⟩
    have evE : ∀ {Γ' : Env}, Γ'[3]? = some e → Ev M0 0 0 (tVar 3) Γ' (kL (ed.map fun p => kD (ePr p))) := fun h => by
      rcases he with rfl | rfl
      · exact ev_Dlist (ev_var h)
      · exact ev_var h
    refine ⟨0, _, et_cmpI (g := fun i j => decide (j < i)) (ev_lenL (ea_cons (evE rfl) ea_nil)) ev_int, fun e1 => ?_, fun e1 => ⟨rfl, k, rfl, rfl, by omega, fun p hp hd => ?_⟩⟩
    · have hne : ed ≠ [] := fun z => by rw [z] at e1; simp at e1
      obtain ⟨p0, hp0⟩ : ∃ p, p ∈ ed := List.exists_mem_of_ne_nil _ hne
      have h0 := (hed p0).mp hp0
      -- rest
      refine tr_setO (i := 2) (P1 := kS2 (FdS pm bl k)) rfl kS_of bS_nt (d := .list ((ev.filter fun p => dec (¬Rk pm (· ∈ bl) k p)).map ePr)) (ev_listD (ev_lcF (xs := ev) (pf := fun p => kD (ePr p)) (src_list (ev_Dlist (ev_var rfl))) (by omega)
        (fun p => [some (kMac C M nm), some (kD (.list (bl.map ePr))), some (kS2 (FdS pm bl k)), e, some (kD (.list (ev.map ePr))), a, b, some (kD (ePr p)), none, none, none]) (fun p => tgt_name (of_decide_eq_true rfl)) (fun p => dec (¬Rk pm (· ∈ bl) k p)) (fun p hp => et_imp (et_tB (ev_dnin (b := dec (Rk pm (· ∈ bl) k p)) (ev_var rfl) (ev_var rfl) fun G v ⟨A, kvs, e, h, f⟩ => ⟨A, kvs, e, h, fd_some f ((mev p).mp hp)⟩)) fun z hz => ?_) fun p _ _ => ev_var rfl)) (of_decide_eq_true rfl) ?_
      · rw [hz]
        by_cases q : Rk pm (· ∈ bl) k p
        · rw [dec_t q, dec_f fun z => z q]; rfl
        · rw [dec_f q, dec_t q]; rfl
      generalize ers : (ev.filter fun p => dec (¬Rk pm (· ∈ bl) k p)) = rs
      have mrs : ∀ p, p ∈ rs ↔ pm.In p ∧ ¬Rk pm (· ∈ bl) k p := fun p => by rw [← ers, List.mem_filter, mev, dec_iff]
      have rsl : rs.length ≤ 36 := by rw [← ers]; exact cntl k
      -- edge
      refine tr_setO (i := 2) (P1 := kS2 (FdS pm bl k)) rfl kS_of bS_nt (d := .list ((rs.filter fun p => dec (∃ x ∈ nm, Rk pm (· ∈ bl) k (M.sc x p))).map ePr)) (ev_listD (ev_lcF (xs := rs) (pf := fun p => kD (ePr p)) (src_list (ev_Dlist (ev_var rfl))) (by omega)
        (fun p => [some (kMac C M nm), some (kD (.list (bl.map ePr))), some (kS2 (FdS pm bl k)), e, some (kD (.list (ev.map ePr))), some (kD (.list (rs.map ePr))), b, some (kD (ePr p)), none, none, none]) (fun p => tgt_name (of_decide_eq_true rfl)) (fun p => dec (∃ x ∈ nm, Rk pm (· ∈ bl) k (M.sc x p))) (fun p hp => ?_) fun p _ _ => ev_var rfl)) (of_decide_eq_true rfl) ?_
      · have hpi : pm.In p := ((mrs p).mp hp).1
        have hpn := (hIn p).mp hpi
        refine et_imp (et_tB (ev_any (bs := nm.map fun x => dec (Rk pm (· ∈ bl) k (M.sc x p))) (ea_cons (ev_imp (ev_lcX (xs := nm) (pf := fun x => kD (.bool (dec (Rk pm (· ∈ bl) k (M.sc x p))))) (src_tup (ev_Dtup (f := .str) (ev_prop (ev_var rfl) ⟨M, nm, rfl, rfl⟩))) (by have := o.len; have := o.ok.d8; omega)
          (fun x => [some (kMac C M nm), some (kD (.list (bl.map ePr))), some (kS2 (FdS pm bl k)), e, some (kD (.list (ev.map ePr))), some (kD (.list (rs.map ePr))), b, some (kD (ePr p)), none, none, some (kD (.str x))]) (fun x => tgt_name (of_decide_eq_true rfl)) fun x hx => ?_) fun G v h => by rw [List.map_map]; exact h) ea_nil))) fun z hz => ?_
        · have hxn : x ∈ M.nms := (o.mem x).mp hx
          refine ev_din (p := M.sc x p) (ev_ixLg (P1 := kQs M [p] x) (ev_callQ (ea_cons (ev_var rfl) (ea_cons (ev_ofL (ds := [ePr p]) (ev_lst (ea_cons (ev_var rfl) ea_nil) (by simp))) (ea_cons (ev_var rfl) ea_nil))) ⟨M, nm, [p], x, rfl, o, hxn, fun q hq => by rw [List.mem_singleton.mp hq]; exact hpn, by simp, rfl⟩) ev_int fun G v h => kL_fst h) (ev_var rfl) fun G v ⟨A, kvs, e, h, f⟩ => ⟨A, kvs, e, h, ?_⟩
          refine fd_some f ((hIn _).mpr ⟨o.ok.mv_lt hxn hpn.1, o.ok.mv_lt hxn hpn.2⟩)
        · rw [hz, Bool.eq_iff_iff, dec_iff, List.any_eq_true]
          constructor
          · rintro ⟨y, hy, ey⟩
            obtain ⟨x, hx, rfl⟩ := List.mem_map.mp hy
            exact ⟨x, hx, dec_iff.mp ey⟩
          · rintro ⟨x, hx, r⟩
            exact ⟨true, List.mem_map.mpr ⟨x, hx, dec_t r⟩, rfl⟩
      generalize en : (rs.filter fun p => dec (∃ x ∈ nm, Rk pm (· ∈ bl) k (M.sc x p))) = ne
      have mne : ∀ p, p ∈ ne ↔ pm.In p ∧ Ds pm (· ∈ bl) p (k + 1) := fun p => by
        rw [← en, List.mem_filter, mrs, dec_iff]
        constructor
        · rintro ⟨⟨h1, h2⟩, x, hx, r⟩
          exact ⟨h1, .inr ⟨x, (epx x).mpr ((o.mem x).mp hx), by rw [epsc]; exact r⟩, fun j hj rj => h2 (rk_mono (by omega) rj)⟩
        · rintro ⟨h1, h2, h3⟩
          have n1 : ¬Rk pm (· ∈ bl) k p := h3 k (by omega)
          refine ⟨⟨h1, n1⟩, ?_⟩
          rcases h2 with z | ⟨x, hx, r⟩
          · exact absurd z n1
          · exact ⟨x, (o.mem x).mpr ((epx x).mp hx), by rw [← epsc]; exact r⟩
      have nel : ne.length ≤ 36 := by rw [← en]; exact Nat.le_trans (List.length_filter_le _ _) rsl
      -- size
      refine tr_setO (i := 2) (P1 := kS2 (FdS pm bl k)) rfl kS_of bS_nt (d := .int ((k : Nat) + 1)) (ev_add (ev_maxV (mx := (k : Nat)) (ev_var rfl) fun G v ⟨A, kvs, e, h, f⟩ => ?_) ev_int) (of_decide_eq_true rfl) ?_
      · obtain ⟨ns, h1, h2, h3⟩ := fd_max f h0.1 h0.2
        exact ⟨A, kvs, ns, e, h, h1, h2, h3⟩
      -- update
      intro G0 H0 Gb G H σ s D' d
      obtain ⟨v, hv, ev'⟩ := s.c.env.get 2 _ rfl
      subst ev'
      obtain ⟨nkD, _, gD, o1, hp1, kvs1, eo1, _⟩ := s.o
      subst eo1
      refine ⟨.ref D, hv, .inr (.inr (.inl ⟨rfl, .inr ⟨kvs1, hp1⟩⟩)), ?_⟩
      refine dc_run (xs := ne) (z := ((k + 1 : Nat) : Int)) (j := 7) (src_list (ev_Dlist (ev_var rfl))) (by omega) (of_decide_eq_true rfl) (fun p => ev_imp (ev_var (i := 6) rfl) fun G v h => h) s.c _ fun D2 H2 G2 g2 j2 hD2 gD2 nk2 hp2 => ?_
      have s2 := s.next g2 j2
      obtain ⟨_, _, _, o2, hp3, kvs, eo2, fd⟩ := s2.o
      subst eo2
      have hneD : D ≠ D2 := fun z => by rw [z] at hp1; rw [hp1] at hD2; cases hD2
      have hkv : kvs ≠ [] := fun z => by
        obtain ⟨j, _, _, ej⟩ := fd.rk p0 h0.1 h0.2.1
        rw [z] at ej; cases ej
      refine ⟨D, D2, kvs, _, rfl, rfl, hneD, hp3, hp2, hkv, ?_, ?_⟩
      · have h1 := fd.ln
        have h2 := mkd_len (z := ((k + 1 : Nat) : Int)) (xs := ne)
        have : k ≤ 40 := by omega
        exact Nat.le_trans (by omega : _ ≤ 2000) (by decide)
      · refine d.nx _ _ _ _ _ _ ⟨cnt (k + 1) + (if ne = [] then 0 else 1), ?_, rfl, k + 1, ne, _, _, _, .inl rfl, rfl, rfl, mne, by omega, rfl, ?_⟩ (s2.write (k' := bS pm bl (k + 1)) ⟨_, rfl, fd_next fd mne (by omega)⟩)
        all_goals
          have hm := filt_lt (l := ev) (p := fun p => dec (¬Rk pm (· ∈ bl) (k + 1) p)) (q := fun p => dec (¬Rk pm (· ∈ bl) k p)) fun p _ hp => dec_iff.mpr fun z => dec_iff.mp hp (.inl z)
          have hlt : ne ≠ [] → cnt (k + 1) < cnt k := fun z => by
            obtain ⟨p, hp⟩ := List.exists_mem_of_ne_nil _ z
            have h1 := (mne p).mp hp
            exact hm.2 ⟨p, (mev p).mpr h1.1, dec_f fun z => z h1.2.1, dec_t fun z => h1.2.2 k (by omega) z⟩
          have hle : cnt (k + 1) ≤ cnt k := hm.1
          rw [if_neg hne] at *
          by_cases q : ne = []
          · rw [if_pos q]; omega
          · rw [if_neg q]; have := hlt q; omega
    · have : ed = [] := by
        simp at e1
        exact e1
      have := (hed p).mpr ⟨hp, hd⟩
      rw [‹ed = []›] at this
      cases this
  · rintro n' Γ' O' ⟨rfl, k, rfl, h2, hk40, hno⟩
    exact tr_close (i := 2) (P1 := kS2 (Fz pm bl)) h2 (fun G o e ⟨kvs, eo, f⟩ => ⟨D, kvs, rfl, by rw [e, eo], fd_done f hk40 hno⟩) (tr_ret (ev_var (by
      have hl := (List.getElem?_eq_some_iff.mp h2).1
      rw [List.getElem?_set_self hl])) ⟨rfl, rfl⟩)
end
end Ll
end

section
set_option Elab.async false
set_option linter.all false
set_option maxRecDepth 100000
set_option maxHeartbeats 2000000
/-! Ll, walks: first_to. -/
namespace Ll
open PySem PySem.Spec PyProof.Rows L2
def encO : Option (List Str) → PyData
  | none => .none
  | some v => eW v
def FT (pm : Pm Str) (ps bl : List Pr) : Option (List Str) → Prop
  | none => ∀ p ∈ ps, ∀ j, ¬Rk pm (· ∈ bl) j p
  | some v => pm.Ov v ∧ (∃ p ∈ ps, (pm.run v p.1, pm.run v p.2) ∈ bl) ∧ (∀ p ∈ ps, ∀ j, Ds pm (· ∈ bl) p j → v.length ≤ j) ∧ v.length ≤ 40
def R_first (C : Addr) (ks : List Kn) (P : Kn) : Prop := ∃ M nm ps bl, ∃ o : Mc.Nm M nm, ks = [kMac C M nm, kD (.list (ps.map ePr)), kD (.list (bl.map ePr))] ∧ (∀ p ∈ ps, p.1 < M.n ∧ p.2 < M.n) ∧ (∀ p ∈ bl, p.1 < M.n ∧ p.2 < M.n) ∧ ps.length ≤ 40 ∧ bl.length ≤ 40 ∧ P = kX (FT o.ok.pm ps bl) fun r => kD (encO r)
theorem fz_some {pm : Pm Str} {bl : List Pr} {kvs : List (TK × V)} (h : Fz pm bl kvs) {p : Pr} (hp : pm.In p) : (valV kvs (key2 p)).isSome = dec (∃ j, Rk pm (· ∈ bl) j p) := by
  by_cases q : ∃ j, Rk pm (· ∈ bl) j p
  · obtain ⟨j, r⟩ := q
    obtain ⟨i, _, d⟩ := rk_ds r
    rw [((h p hp).1 i d).1, dec_t ⟨j, r⟩]; rfl
  · rw [(h p hp).2 fun j r => q ⟨j, r⟩, dec_f q]; rfl
noncomputable def dst (pm : Pm Str) (bl : List Pr) (p : Pr) : Nat := @dite Nat (∃ j, Ds pm (· ∈ bl) p j) (Classical.propDecidable _) (fun h => Classical.choose h) fun _ => 0
theorem dst_ds {pm : Pm Str} {bl : List Pr} {p : Pr} (h : ∃ j, Ds pm (· ∈ bl) p j) : Ds pm (· ∈ bl) p (dst pm bl p) := by
  unfold dst
  rw [dif_pos h]; exact Classical.choose_spec h
theorem list_min : ∀ {l : List Nat}, l ≠ [] → ∃ m ∈ l, ∀ y ∈ l, m ≤ y
  | [x], _ => ⟨x, by simp, fun y hy => by rw [List.mem_singleton.mp hy]; exact Nat.le_refl _⟩
  | x :: y :: l, _ => by
    obtain ⟨m, hm, h⟩ := list_min (l := y :: l) (by simp)
    rcases Nat.le_total x m with z | z
    · refine ⟨x, by simp, fun a ha => ?_⟩
      rcases List.mem_cons.mp ha with rfl | ha
      · exact Nat.le_refl _
      · exact Nat.le_trans z (h a ha)
    · refine ⟨m, List.mem_cons_of_mem _ hm, fun a ha => ?_⟩
      rcases List.mem_cons.mp ha with rfl | ha
      · exact z
      · exact h a ha
section
variable {md : Md} {m n k : Nat} {Γ : Env} {K : PySem.W.Frag} {t : TA}
theorem ev_min {ns : List Int} {mn : Int} (h : EvA md m n t Γ [kL (ns.map fun i => kD (.int i))]) (hm : mn ∈ ns) (hle : ∀ y ∈ ns, mn ≤ y) : Ev md m n (tCB (rMin K) t) Γ (kD (.int mn)) :=
  ev_cb1 h fun G H v s jj ⟨a, xs, e, hs, ax⟩ => Out.val s jj (.int _) fun Q q => ⟨a, ns, by rw [e], allK_int ax ▸ SqL.of (s _ _ hs), List.length_pos_of_mem hm, fun z hz hz2 => by
    have : z = mn := Int.le_antisymm (hz2 mn hm) (hle z hz)
    rw [this]; exact q⟩
end
section
variable {P : Program} {w : World} {K : PySem.W.Frag} {mg : Str → Option Value} {base : Heap} {C : Addr}
theorem cal_first (B : Bi mg) (c : MacF K C) (p2 : Prp P w K mg base 1 C "names" (spQ (R_names C))) (p3 : Cal P w K mg base 3 "after_deed" ["machine", "pairs", "name"] (spQ (R_after C))) (p4 : Cal P w K mg base 4 "far_from" ["machine", "bad"] (spQ (R_far C))) (F : Fd K mg "first_to" 30) :
    Cal P w K mg base 5 "first_to" ["machine", "pairs", "bad"] (spQ (R_first C)) := by
  refine cal_Q F sc_first_to (by decide) (fun _ _ _ _ _ _ us hl => match us, hl with | [_, _, _], _ => rfl) (fun ks Pk ⟨_, _, _, _, _, e, _⟩ => by rw [e]; rfl) (fun f cdv A outer s H E hr => der_first_to B c.cls p2 p3 p4 hr) ?_
  rintro ks Pk ⟨M, nm, ps, bl, o, rfl, hps, hb, hpl, hbl, rfl⟩
  generalize epm : o.ok.pm = pm
  have epn : pm.n = M.n := by rw [← epm]; rfl
  have epx : ∀ x, x ∈ pm.nm ↔ x ∈ M.nms := fun x => by rw [← epm]; rfl
  have epsc : ∀ x p, pm.sc x p = M.sc x p := fun x p => by rw [← epm]; rfl
  have hIn : ∀ p, pm.In p ↔ p.1 < M.n ∧ p.2 < M.n := fun p => by unfold Pm.In; rw [epn]
  have psI : ∀ p ∈ ps, pm.In p := fun p hp => (hIn p).mpr (hps p hp)
  left
  refine tr_asg (P1 := kT [kS2 (Fz pm bl), kD (eW [])]) (ev_tup (ea_cons (ev_callQ (ea_cons (ev_var rfl) (ea_cons (ev_var rfl) ea_nil)) ⟨M, nm, bl, o, rfl, hb, hbl, by rw [epm]⟩) (ea_cons (ev_ofT (ds := []) (ev_tup ea_nil (by simp))) ea_nil)) (by simp)) (tgt_two (of_decide_eq_true rfl) (of_decide_eq_true rfl)) ?_
  have dinP : ∀ (p : Pr), pm.In p → ∀ G v, (kS2 (Fz pm bl)).p G v → ∃ a kvs, v = .ref a ∧ G a = some (.dT kvs) ∧ (valV kvs (key2 p)).isSome = dec (∃ j, Rk pm (· ∈ bl) j p) := fun p hp G v ⟨a, kvs, e, h, f⟩ => ⟨a, kvs, e, h, fz_some f hp⟩
  have any_b : (ps.map fun p => dec (∃ j, Rk pm (· ∈ bl) j p)).any id = dec (∃ p ∈ ps, ∃ j, Rk pm (· ∈ bl) j p) := by
    rw [Bool.eq_iff_iff, dec_iff, List.any_eq_true]
    constructor
    · rintro ⟨y, hy, ey⟩
      obtain ⟨x, hx, rfl⟩ := List.mem_map.mp hy
      exact ⟨x, hx, dec_iff.mp ey⟩
    · rintro ⟨x, hx, r⟩
      exact ⟨true, List.mem_map.mpr ⟨x, hx, dec_t r⟩, rfl⟩
  refine tr_when (et_notD (et_tB (ev_any (bs := ps.map fun p => dec (∃ j, Rk pm (· ∈ bl) j p)) (ea_cons (ev_imp (ev_lcX (xs := ps) (pf := fun p => kD (.bool (dec (∃ j, Rk pm (· ∈ bl) j p)))) (src_list (ev_Dlist (ev_var rfl))) (by omega) (fun p => [some (kMac C M nm), some (kD (.list (ps.map ePr))), some (kD (.list (bl.map ePr))), some (kS2 (Fz pm bl)), some (kD (eW [])), none, none, none, none, some (kD (ePr p))]) (fun p => tgt_name (of_decide_eq_true rfl)) fun p hp =>
    ev_din (ev_var rfl) (ev_var rfl) (dinP p (psI p hp))) fun G v h => by rw [List.map_map]; exact h) ea_nil)))) (fun e => ?_) fun e => tr_skip ?_
  · refine tr_done (tr_ret (P := kX (FT pm ps bl) fun r => kD (encO r)) (ev_imp ev_non fun G v h => ⟨none, ?_, h⟩) ⟨rfl, rfl⟩)
    intro p hp j r
    rw [any_b, dec_t ⟨p, hp, j, r⟩] at e
    cases e
  · have hex : ∃ p ∈ ps, ∃ j, Rk pm (· ∈ bl) j p := by
      rw [any_b] at e
      apply dec_iff.mp
      simpa using e.symm
    refine tr_set (P1 := kD (.list (ps.map ePr))) (ev_listD (ev_lstL (ea_cons (ev_Dlist (f := ePr) (ev_var rfl)) ea_nil))) (of_decide_eq_true rfl) ?_
    -- the least size
    let fl := ps.filter fun p => dec (∃ j, Rk pm (· ∈ bl) j p)
    have fle : fl.map (dst pm bl) ≠ [] := fun z => by
      obtain ⟨p, hp, r⟩ := hex
      have : p ∈ fl := List.mem_filter.mpr ⟨hp, dec_t r⟩
      rw [List.map_eq_nil_iff] at z
      rw [z] at this; cases this
    obtain ⟨mn, hmn, hle⟩ := list_min fle
    have fds : ∀ p ∈ fl, Ds pm (· ∈ bl) p (dst pm bl p) := fun p hp => by
      obtain ⟨_, h2⟩ := List.mem_filter.mp hp
      obtain ⟨j, r⟩ := dec_iff.mp h2
      obtain ⟨i, _, d⟩ := rk_ds r
      exact dst_ds ⟨i, d⟩
    refine tr_set (ev_min (ns := (fl.map (dst pm bl)).map fun (i : Nat) => (i : Int)) (mn := (mn : Nat)) (ea_cons (ev_imp (ev_lcF (xs := ps) (bf := fun p => dec (∃ j, Rk pm (· ∈ bl) j p)) (pf := fun p => kD (.int (dst pm bl p : Nat))) (src_list (ev_Dlist (ev_var rfl))) (by omega)
      (fun p => [some (kMac C M nm), some (kD (.list (ps.map ePr))), some (kD (.list (bl.map ePr))), some (kS2 (Fz pm bl)), some (kD (eW [])), some (kD (.list (ps.map ePr))), none, none, none, some (kD (ePr p))]) (fun p => tgt_name (of_decide_eq_true rfl)) (fun p hp => et_tB (ev_din (ev_var rfl) (ev_var rfl) (dinP p (psI p hp)))) fun p hp hb => ?_) fun G v h => by rw [List.map_map, List.map_map]; exact h) ea_nil) (List.mem_map.mpr ⟨mn, hmn, rfl⟩) fun y hy => ?_) (of_decide_eq_true rfl) ?_
    · have hp' : p ∈ fl := List.mem_filter.mpr ⟨hp, hb⟩
      exact ev_dget (ev_var rfl) (ev_var rfl) fun G v ⟨a, kvs, e, h, f⟩ => ⟨a, kvs, e, h, ((f p (psI p hp)).1 _ (fds p hp')).1⟩
    · obtain ⟨y', hy', rfl⟩ := List.mem_map.mp hy
      have := hle y' hy'
      omega
    have min_ps : ∀ p ∈ ps, ∀ j, Ds pm (· ∈ bl) p j → mn ≤ j := fun p hp j d => by
      have hp' : p ∈ fl := List.mem_filter.mpr ⟨hp, dec_t ⟨j, d.1⟩⟩
      rw [ds_uniq d (fds p hp')]
      exact hle _ (List.mem_map.mpr ⟨p, hp', rfl⟩)
    obtain ⟨pm0, hpm0, epm0⟩ := List.mem_map.mp hmn
    have hpm1 : pm0 ∈ ps := (List.mem_filter.mp hpm0).1
    refine tr_know (i := 3) (φ := mn ≤ 40) rfl (fun G v ⟨a, kvs, _, _, f⟩ => by rw [← epm0]; exact ((f pm0 (psI pm0 hpm1)).1 _ (fds pm0 hpm0)).2) fun mn40 => ?_
    have hnl : nm.length ≤ 8 := by rw [o.len]; exact o.ok.d8
    let Gm : List Str → List Pr → Nat → Option Kn → Option Kn → Env := fun lg hr l a b => [some (kMac C M nm), some (kD (.list (ps.map ePr))), some (kD (.list (bl.map ePr))), some (kS2 (Fz pm bl)), some (kD (eW lg)), some (kD (.list (hr.map ePr))), some (kD (.int (l : Nat))), a, b, none]
    let Iv : List Str → List Pr → Nat → Prop := fun lg hr l => pm.Ov lg ∧ (∀ q, q ∈ hr ↔ ∃ p ∈ ps, q = (pm.run lg p.1, pm.run lg p.2)) ∧ hr.length ≤ 40 ∧ lg.length + l = mn ∧ ∃ q ∈ hr, Ds pm (· ∈ bl) q l
    have hrI : ∀ {lg hr l}, Iv lg hr l → ∀ q ∈ hr, pm.In q := fun ⟨h1, h2, _⟩ q hq => by
      obtain ⟨p, hp, rfl⟩ := (h2 q).mp hq
      have := psI p hp
      exact ⟨Pm.run_lt h1 this.1, Pm.run_lt h1 this.2⟩
    refine tr_seq (fun n' Γ' O' => n' = 0 ∧ O' = o0 ∧ ∃ lg hr a b, Γ' = Gm lg hr 0 a b ∧ Iv lg hr 0) ?_ ?_
    · refine tr_while (fun l n' Γ' O' => n' = 0 ∧ O' = o0 ∧ ∃ lg hr a b, Γ' = Gm lg hr l a b ∧ Iv lg hr l) ⟨mn, rfl, rfl, [], ps, none, none, rfl, (fun _ z => nomatch z), (fun q => ⟨fun z => ⟨q, z, rfl⟩, fun ⟨p, hp, e⟩ => e ▸ hp⟩), hpl, Nat.zero_add _, pm0, hpm1, epm0 ▸ fds pm0 hpm0⟩ ?_
      rintro l n' Γ' O' ⟨rfl, rfl, lg, hr, a, b, rfl, iv⟩
      refine ⟨0, _, et_cmpI (g := fun i j => decide (j < i)) (ev_var rfl) ev_int, fun e1 => ?_, fun e1 => ?_⟩
      · obtain ⟨l', rfl⟩ : ∃ l', l = l' + 1 := ⟨l - 1, by simp at e1; omega⟩
        refine tr_aug (f := fun i j => i - j) (a := ((l' + 1 : Nat) : Int)) (b := 1) rfl ev_int ?_
        have es : ((l' + 1 : Nat) : Int) - 1 = (l' : Nat) := by omega
        show Tr M0 0 [some (kMac C M nm), some (kD (.list (ps.map ePr))), some (kD (.list (bl.map ePr))), some (kS2 (Fz pm bl)), some (kD (eW lg)), some (kD (.list (hr.map ePr))), some (kD (.int (((l' + 1 : Nat) : Int) - 1))), a, b, none] o0 _ _
        rw [es]
        obtain ⟨q0, hq0, dq0⟩ := iv.2.2.2.2
        refine tr_for (src_tup (ev_Dtup (xs := nm) (f := .str) (ev_prop (ev_var rfl) ⟨M, nm, rfl, rfl⟩))) (fun i n' Γ' O' => n' = 0 ∧ O' = o0 ∧ ∃ a b, Γ' = Gm lg hr l' a b ∧ ∀ x ∈ nm.take i, ¬∃ q ∈ hr, Ds pm (· ∈ bl) (M.sc x q) l') ⟨rfl, rfl, _, _, rfl, fun x hx => by simp at hx⟩ ?_ ?_
        · rintro i k n' Γ' O' hk ⟨rfl, rfl, a, b, rfl, hno⟩
          rw [List.getElem?_map] at hk
          cases q : nm[i]? with
          | none => rw [q] at hk; cases hk
          | some x =>
            rw [q] at hk; cases hk
            have hx : x ∈ nm := List.mem_of_getElem? q
            have hxn : x ∈ M.nms := (o.mem x).mp hx
            refine ⟨_, _, tgt_name (of_decide_eq_true rfl), tr_set (ev_callQ (ea_cons (ev_var rfl) (ea_cons (ev_var rfl) (ea_cons (ev_var rfl) ea_nil))) ⟨M, nm, hr, x, rfl, o, hxn, fun p hp => (hIn p).mp (hrI iv p hp), by have := iv.2.2.1; omega, rfl⟩) (of_decide_eq_true rfl) ?_⟩
            refine tr_open (i := 8) rfl fun qs hqs => ?_
            obtain ⟨hqs, hql⟩ := hqs
            have qsI : ∀ q ∈ qs, pm.In q := fun q hq => by
              obtain ⟨p, hp, rfl⟩ := (hqs q).mp hq
              have := (hIn p).mp (hrI iv p hp)
              exact (hIn _).mpr ⟨o.ok.mv_lt hxn this.1, o.ok.mv_lt hxn this.2⟩
            have hq40 : qs.length ≤ 40 := Nat.le_trans hql iv.2.2.1
            refine tr_if (et_tB (ev_any (bs := qs.map fun q => dec (Ds pm (· ∈ bl) q l')) (ea_cons (ev_imp (ev_lcX (xs := qs) (pf := fun q => kD (.bool (dec (Ds pm (· ∈ bl) q l')))) (src_list (ev_Dlist (ev_var rfl))) (by omega)
              (fun q => [some (kMac C M nm), some (kD (.list (ps.map ePr))), some (kD (.list (bl.map ePr))), some (kS2 (Fz pm bl)), some (kD (eW lg)), some (kD (.list (hr.map ePr))), some (kD (.int (l' : Nat))), some (kD (.str x)), some (kD (.list (qs.map ePr))), some (kD (ePr q))]) (fun q => tgt_name (of_decide_eq_true rfl)) fun q hq => ?_) fun G v h => by rw [List.map_map]; exact h) ea_nil))) (fun e2 => ?_) fun e2 => ?_
            · refine ev_get1 (ev_var rfl) (ev_var rfl) (ev_var rfl) fun G v ⟨a, kvs, e, h, f⟩ => ⟨a, kvs, e, h, ?_⟩
              by_cases z : ∃ j, Rk pm (· ∈ bl) j q
              · obtain ⟨j, r⟩ := z
                obtain ⟨i, _, d⟩ := rk_ds r
                refine .inr ⟨(i : Nat), ((f q (qsI q hq)).1 i d).1, ?_⟩
                by_cases z : i = l'
                · subst z; rw [dec_t d]; simp
                · rw [dec_f fun d' => z (ds_uniq d d')]
                  have : ¬((i : Int) = (l' : Int)) := by omega
                  simp [this]
              · exact .inl ⟨(f q (qsI q hq)).2 fun j r => z ⟨j, r⟩, dec_f fun d => z ⟨_, d.1⟩⟩
            · have hex2 : ∃ q ∈ qs, Ds pm (· ∈ bl) q l' := by
                obtain ⟨y, hy, ey⟩ := List.any_eq_true.mp e2.symm
                obtain ⟨q, hq, rfl⟩ := List.mem_map.mp hy
                exact ⟨q, hq, dec_iff.mp ey⟩
              refine tr_par (P1 := kD (eW (lg ++ [x]))) (ea_cons (ev_tupD (f := .str) (ev_imp (ev_tup (ea_star (ev_Dtup (xs := lg) (f := .str) (ev_var rfl)) (fun G v h => .inl h) (ea_cons (ev_var (i := 7) rfl) ea_nil)) (by have := iv.2.2.2.1; simp; omega)) fun G v h => by rw [List.map_append]; exact h)) (ea_cons (ev_var rfl) ea_nil)) (of_decide_eq_true rfl) (of_decide_eq_true rfl) (tr_break ?_)
              · refine ⟨l', Nat.lt_succ_self _, rfl, rfl, lg ++ [x], qs, _, _, rfl, fun y hy => ?_, fun q => ?_, hq40, ?_, hex2⟩
                · rcases List.mem_append.mp hy with hy | hy
                  · exact iv.1 y hy
                  · rw [List.mem_singleton.mp hy]; exact (epx x).mpr hxn
                · rw [hqs]
                  constructor
                  · rintro ⟨p, hp, rfl⟩
                    obtain ⟨p', hp', rfl⟩ := (iv.2.1 p).mp hp
                    exact ⟨p', hp', by rw [Pm.run_app, Pm.run_app, ← epsc]; rfl⟩
                  · rintro ⟨p, hp, rfl⟩
                    exact ⟨_, (iv.2.1 _).mpr ⟨p, hp, rfl⟩, by rw [Pm.run_app, Pm.run_app, ← epsc]; rfl⟩
                · have := iv.2.2.2.1
                  simp; omega
            · refine tr_next ⟨rfl, rfl, _, _, rfl, fun y hy => ?_⟩
              rw [take_snoc q] at hy
              rcases List.mem_append.mp hy with hy | hy
              · exact hno y hy
              · rw [List.mem_singleton.mp hy]
                rintro ⟨p, hp, d⟩
                have : (qs.map fun q => dec (Ds pm (· ∈ bl) q l')).any id = true := List.any_eq_true.mpr ⟨true, List.mem_map.mpr ⟨M.sc x p, (hqs _).mpr ⟨p, hp, rfl⟩, dec_t d⟩, rfl⟩
                rw [this] at e2; cases e2
        · rintro n' Γ' O' ⟨rfl, rfl, a, b, rfl, hno⟩
          exfalso
          rw [List.length_map, List.take_of_length_le (Nat.le_refl _)] at hno
          obtain ⟨x, hx, d⟩ := ds_step dq0
          exact hno x ((o.mem x).mpr ((epx x).mp hx)) ⟨q0, hq0, by rw [← epsc]; exact d⟩
      · have : l = 0 := by simp at e1; omega
        subst this
        exact ⟨rfl, rfl, lg, hr, a, b, rfl, iv⟩
    · rintro n' Γ' O' ⟨rfl, rfl, lg, hr, a, b, rfl, iv⟩
      refine tr_ret (P := kX (FT pm ps bl) fun r => kD (encO r)) (ev_imp (ev_var (i := 4) rfl) fun G v h => ⟨some lg, ⟨iv.1, ?_, fun p hp j d => ?_, by have := iv.2.2.2.1; omega⟩, h⟩) ⟨rfl, rfl⟩
      · obtain ⟨q, hq, d⟩ := iv.2.2.2.2
        obtain ⟨p, hp, rfl⟩ := (iv.2.1 q).mp hq
        exact ⟨p, hp, d.1⟩
      · have := min_ps p hp j d
        have := iv.2.2.2.1
        omega
end
end Ll
end

section
set_option Elab.async false
set_option linter.all false
set_option maxRecDepth 100000
set_option maxHeartbeats 2000000
/-! Ll, walks: not_covered, is_covered, by_three, greatest. -/
namespace Ll
open PySem PySem.Spec PyProof.Rows L2
section
variable {md : Md} {m n k : Nat} {Γ : Env} {K : PySem.W.Frag} {ta tb te : TE} {t : TA} {ks : List Kn}
theorem walk_enumT2 {K : PySem.W.Frag} {a : Addr} {xs : List V} : Walk (Itet K a) xs.length (fun H => SqT K H a xs) (YPair (fun i => some (.int (i : Nat))) (fun i => xs[i]?)) := by
  refine ⟨fun i _ hi q => ⟨xs, xs[i], q, by simp [hi]⟩, fun _ q => ⟨xs, q, rfl⟩, fun i H v H' _ q y => ?_⟩
  obtain ⟨T, x, e1, e2, e3, e4⟩ := y
  exact ⟨T, .int (i : Nat), x, e1, e2, e3, rfl, e4 xs q⟩
theorem dq_no {G : Hp} {v : V} : ∀ {d : PyData}, Dq G v d → decide (v = V.non) = isNo d := fun h => by cases h <;> simp [isNo]
theorem src_enumT (h : EvA md m n t Γ [kT ks]) : Src md m n (iEnumT K t) Γ (kEnum ks) := fun G H σ c R r =>
  h G H σ c _ fun vs H1 G1 g1 j1 ax => by
    cases vs with
    | nil => exact ax.elim
    | cons v vs =>
      cases vs with
      | cons _ _ => exact ax.2.elim
      | nil =>
        obtain ⟨a, xs, rfl, hs, al⟩ := ax.1
        refine ⟨a, xs, rfl, SqT.of (g1.gh _ _ hs), r _ H1 G1 g1 j1 ⟨YPair (fun i => some (.int (i : Nat))) (fun i => xs[i]?), ?_, fun i k H x H' Gc hk s1 s2 y => ?_⟩⟩
        · rw [kEnum_len, AllK.len al]
          exact (walk_enumT2 (K := K) (a := a) (xs := xs)).mono (fun H s => SqT.of (s _ _ hs)) fun _ _ _ _ _ _ y => y
        · obtain ⟨k', hk', rfl⟩ := kEnum_get hk
          obtain ⟨T, x1, x2, rfl, hT, rfl, e1, e2⟩ := y
          obtain ⟨w, hw, pw⟩ := AllK.get al hk'
          have : w = x2 := Option.some.inj (hw.symm.trans e2)
          subst this
          have : V.int (i : Nat) = x1 := Option.some.inj e1
          subst this
          have gT : Gc T = none := s2.free hT
          exact ⟨upd Gc T (.tup [.int (i : Nat), w]), Gr.new s2 hT, T, _, rfl, upd_same, .int _, k'.mono _ _ _ (le_same (s1.trans (same_new gT))) pw, trivial⟩
theorem ev_isNoX {ι : Type} {S : ι → Prop} {f : ι → PyData} {b : Bool} (ha : Ev md m n ta Γ (kX S fun x => kD (f x))) (hb : Ev md n k tb Γ (kD .none)) (h : ∀ x, S x → isNo (f x) = b) : Ev md m k (tOp rIsNo ta tb) Γ (kD (.bool b)) :=
  ev_op ha hb fun G H v w s jj ⟨x, sx, pv⟩ pw => Out.val s jj (.bl _) fun Q q => ⟨kD_none.mp pw, by
    have : decide (v = V.non) = isNo (f x) := dq_no pv
    rw [this, h x sx]; exact q⟩
theorem ev_isntNoX {ι : Type} {S : ι → Prop} {f : ι → PyData} {b : Bool} (ha : Ev md m n ta Γ (kX S fun x => kD (f x))) (hb : Ev md n k tb Γ (kD .none)) (h : ∀ x, S x → isNo (f x) = b) : Ev md m k (tOp rIsntNo ta tb) Γ (kD (.bool (!b))) :=
  ev_op ha hb fun G H v w s jj ⟨x, sx, pv⟩ pw => Out.val s jj (.bl _) fun Q q => ⟨kD_none.mp pw, by
    have : decide (v = V.non) = isNo (f x) := dq_no pv
    rw [this, h x sx]; exact q⟩
end
def R_nc (C : Addr) (ks : List Kn) (P : Kn) : Prop := ∃ M nm a b, ∃ o : Mc.Nm M nm, ks = [kMac C M nm, kD (.str a), kD (.str b)] ∧ a ∈ M.nms ∧ b ∈ M.nms ∧ P = kX (NC o.ok.pm a b) fun r => kD (encO r)
def badL (M : Mc) (b : Str) (i : Nat) : List Pr := (List.range i).flatMap fun x => ((List.range M.n).filter fun j => !decide ((M.mu (M.mv b j) : Int) = M.mu (M.mv b x))).map fun j => (x, j)
theorem mem_badL {M : Mc} {b : Str} {i : Nat} {p : Pr} : p ∈ badL M b i ↔ p.1 < i ∧ p.2 < M.n ∧ M.mu (M.mv b p.1) ≠ M.mu (M.mv b p.2) := by
  unfold badL
  simp only [List.mem_flatMap, List.mem_range, List.mem_map, List.mem_filter, Bool.not_eq_true', decide_eq_false_iff_not]
  constructor
  · rintro ⟨x, hx, j, ⟨hj, hne⟩, rfl⟩; exact ⟨hx, hj, fun e => hne (by rw [e])⟩
  · rintro ⟨h1, h2, h3⟩; exact ⟨p.1, h1, p.2, ⟨h2, fun e => h3 (Int.ofNat_inj.mp e).symm⟩, rfl⟩
theorem badL_len {M : Mc} {b : Str} {i : Nat} (hn : M.n ≤ 6) (hi : i ≤ 6) : (badL M b i).length ≤ 36 := by
  have h1 := flat_len (xs := List.range i) (f := fun x => ((List.range M.n).filter fun j => !decide ((M.mu (M.mv b j) : Int) = M.mu (M.mv b x))).map fun j => (x, j)) (B := 6) fun x _ => by
    rw [List.length_map]
    refine Nat.le_trans (List.length_filter_le _ _) ?_
    simp; omega
  rw [List.length_range] at h1
  have : i * 6 ≤ 36 := by omega
  exact Nat.le_trans h1 this
theorem badL_succ {M : Mc} {b : Str} {i : Nat} : badL M b (i + 1) = badL M b i ++ ((List.range M.n).filter fun j => !decide ((M.mu (M.mv b j) : Int) = M.mu (M.mv b i))).map fun j => (i, j) := by
  unfold badL
  rw [List.range_succ, List.flatMap_append]
  simp
theorem ft_nc {M : Mc} (o : M.Ok) {a b : Str} {r : Option (List Str)} (ha : a ∈ M.nms) (hb : b ∈ M.nms) (h : FT o.pm ((List.range M.n).map fun s => (M.mv a s, s)) (badL M b M.n) r) : NC o.pm a b r := by
  have key : ∀ v, o.pm.Ov v → (o.pm.Wit a b v ↔ ∃ p ∈ (List.range M.n).map fun s => (M.mv a s, s), (o.pm.run v p.1, o.pm.run v p.2) ∈ badL M b M.n) := fun v hv => by
    constructor
    · rintro ⟨s, hs, hne⟩
      exact ⟨_, List.mem_map.mpr ⟨s, List.mem_range.mpr hs, rfl⟩, mem_badL.mpr ⟨Pm.run_lt hv (o.mv_lt ha hs), Pm.run_lt hv hs, hne⟩⟩
    · rintro ⟨p, hp, hm⟩
      obtain ⟨s, hs, rfl⟩ := List.mem_map.mp hp
      exact ⟨s, List.mem_range.mp hs, (mem_badL.mp hm).2.2⟩
  cases r with
  | none =>
    intro v hv hw
    obtain ⟨p, hp, hm⟩ := (key v hv).mp hw
    exact h p hp _ (word_rk (bad := (· ∈ badL M b M.n)) hv hm)
  | some v =>
    obtain ⟨h1, h2, h3, h4⟩ := h
    refine ⟨h1, (key v h1).mpr h2, fun u hu hw => ?_, h4⟩
    obtain ⟨p, hp, hm⟩ := (key u hu).mp hw
    obtain ⟨j, hj, d⟩ := rk_ds (word_rk (bad := (· ∈ badL M b M.n)) hu hm)
    exact Nat.le_trans (h3 p hp j d) hj
section
variable {P : Program} {w : World} {K : PySem.W.Frag} {mg : Str → Option Value} {base : Heap} {C CR : Addr}
theorem cal_nc (B : Bi mg) (c : MacF K C) (m1 : Dun P w K mg base 1 C "__getitem__" ["self", "name"] (spQ (R_get C))) (p1 : Prp P w K mg base 1 C "many" (spQ (R_many C))) (m2 : Dun P w K mg base 1 C "mark" ["self", "state"] (spQ (R_mark C)))
    (c1 : Cal P w K mg base 2 "check_deeds" ["machine", "names"] (spQ (R_check C))) (c2 : Cal P w K mg base 5 "first_to" ["machine", "pairs", "bad"] (spQ (R_first C))) (F : Fd K mg "not_covered" 31) : Cal P w K mg base 6 "not_covered" ["machine", "name", "by"] (spQ (R_nc C)) := by
  refine cal_Q F sc_not_covered (by decide) (fun _ _ _ _ _ _ us hl => match us, hl with | [_, _, _], _ => rfl) (fun ks Pk ⟨_, _, _, _, _, e, _⟩ => by rw [e]; rfl) (fun f cdv A outer s H E hr => der_not_covered B c.cls m1 p1 m2 c1 c2 hr) ?_
  rintro ks Pk ⟨M, nm, a, b, o, rfl, ha, hb, rfl⟩
  have hn6 := o.ok.n6
  have hrb := (o.ok.row_len hb).1
  have hra := (o.ok.row_len ha).1
  left
  refine tr_drop (ev_callQ (ea_cons (ev_var rfl) (ea_cons (ev_tupD (xs := [a, b]) (f := .str) (ev_tup (ea_cons (ev_var rfl) (ea_cons (ev_var rfl) ea_nil)) (by simp))) ea_nil)) ⟨M, nm, [a, b], rfl, fun y hy => ?_, rfl⟩) ?_
  · rcases List.mem_cons.mp hy with rfl | hy
    · exact (o.mem _).mpr ha
    · rw [List.mem_singleton.mp hy]; exact (o.mem _).mpr hb
  refine tr_tup2new (k := bL []) (ev_ixO (ev_var rfl) (ev_var rfl) ⟨M, nm, b, rfl, o, hb, rfl⟩) new_lst (fun G => ⟨[], rfl, trivial⟩) (of_decide_eq_true rfl) (of_decide_eq_true rfl) fun p => ?_
  refine tr_seq (fun n' Γ' O' => n' = 0 ∧ O' = oOb p (bL ((badL M b M.n).map fun q => kD (ePr q))) ∧ ∃ x y, Γ' = [some (kMac C M nm), some (kD (.str a)), some (kD (.str b)), some (kD (eRow (M.row b))), some (kP p), x, y, none, none, none]) ?_ ?_
  · refine tr_for (src_range (j := M.n) (ea_cons (ev_prop (ev_var rfl) ⟨M, nm, rfl, rfl⟩) ea_nil) (by omega)) (fun i n' Γ' O' => n' = 0 ∧ O' = oOb p (bL ((badL M b i).map fun q => kD (ePr q))) ∧ ∃ x y, Γ' = [some (kMac C M nm), some (kD (.str a)), some (kD (.str b)), some (kD (eRow (M.row b))), some (kP p), x, y, none, none, none]) ⟨rfl, rfl, _, _, rfl⟩ ?_ ?_
    · rintro i k n' Γ' O' hk ⟨rfl, rfl, x, y, rfl⟩
      obtain ⟨hi, rfl⟩ := kRange_get hk
      refine ⟨_, _, tgt_name (of_decide_eq_true rfl), tr_set (ev_meth (ev_var rfl) (.head _) (ea_cons (ev_ixT (ev_Dtup (ev_var rfl)) (ev_var rfl) (getK (d := 0) (by rw [hrb]; exact hi))) ea_nil) ⟨M, nm, M.mv b i, rfl, o.ok, o.ok.mv_lt hb hi, rfl⟩) (of_decide_eq_true rfl) ?_⟩
      refine tr_extL (ls := (((List.range M.n).filter fun j => !decide ((M.mu (M.mv b j) : Int) = M.mu (M.mv b i))).map fun j => (i, j)).map fun q => kD (ePr q)) (ev_imp (ev_lcF (xs := List.range M.n) (pf := fun j => kD (ePr (i, j))) (bf := fun j => !decide ((M.mu (M.mv b j) : Int) = M.mu (M.mv b i))) (src_range (ea_cons (ev_prop (ev_var rfl) ⟨M, nm, rfl, rfl⟩) ea_nil) (by omega)) (by simp; omega)
        (fun j => [some (kMac C M nm), some (kD (.str a)), some (kD (.str b)), some (kD (eRow (M.row b))), some (kP p), some (kD (eI i)), some (kD (eI (M.mu (M.mv b i)))), some (kD (eI j)), none, none]) (fun j => tgt_name (of_decide_eq_true rfl)) (fun j hj => ?_) fun j hj _ => ev_ofT (ds := [eI i, eI j]) (ev_tup (ea_cons (ev_var rfl) (ea_cons (ev_var rfl) ea_nil)) (by simp))) fun G v h => by rw [List.map_map]; exact h) rfl ?_ ⟨rfl, ?_, _, _, rfl⟩
      · have hj' := List.mem_range.mp hj
        exact et_test (ev_neI (ev_meth (ev_var rfl) (.head _) (ea_cons (ev_ixT (ev_Dtup (ev_var rfl)) (ev_var rfl) (getK (d := 0) (by rw [hrb]; exact hj'))) ea_nil) ⟨M, nm, M.mv b j, rfl, o.ok, o.ok.mv_lt hb hj', rfl⟩) (ev_var rfl))
      · have h1 := badL_len (M := M) (b := b) (i := i) hn6 (by omega)
        have h2 : ((List.range M.n).filter fun j => !decide ((M.mu (M.mv b j) : Int) = M.mu (M.mv b i))).length ≤ 6 := Nat.le_trans (List.length_filter_le _ _) (by simp; omega)
        simp only [List.length_map]
        omega
      · rw [badL_succ, List.map_append]
    · rintro n' Γ' O' h
      rw [kRange_len] at h
      exact h
  · rintro n' Γ' O' ⟨rfl, rfl, x, y, rfl⟩
    refine tr_close (i := 4) (P1 := kL ((badL M b M.n).map fun q => kD (ePr q))) rfl kL_of ?_
    have src : ∀ {Γ : Env}, Γ[0]? = some (some (kMac C M nm)) → Γ[1]? = some (some (kD (.str a))) → Src M0 0 0 (iEnumT K (tCons (tOp (rIxO C (spQ (R_get C))) (tVar 0) (tVar 1)) tNil)) Γ (((M.row a).mapIdx fun i x => (i, x)).map fun p => kT [kD (.int (p.1 : Nat)), kD (eI p.2)]) := fun h0 h1 => by
      rw [← kEnum_map (f := fun x => kD (eI x))]
      exact src_enumT (ea_cons (ev_Dtup (ev_ixO (ev_var h0) (ev_var h1) ⟨M, nm, a, rfl, o, ha, rfl⟩)) ea_nil)
    have eps : ((M.row a).mapIdx fun i x => (i, x)).map (fun q => (q.2, q.1)) = (List.range M.n).map fun s => (M.mv a s, s) := by
      apply List.ext_getElem?
      intro i
      rw [List.getElem?_map, List.getElem?_mapIdx, List.getElem?_map]
      by_cases hi : i < M.n
      · rw [List.getElem?_range hi, List.getElem?_eq_getElem (by omega : i < (M.row a).length)]
        simp only [Option.map_some, Mc.mv]
        rw [List.getD_eq_getElem?_getD, List.getElem?_eq_getElem (by omega : i < (M.row a).length)]; rfl
      · rw [List.getElem?_eq_none (by omega : (M.row a).length ≤ i), List.getElem?_eq_none (by simpa using hi)]; rfl
    refine tr_ret (P := kX (NC o.ok.pm a b) fun r => kD (encO r)) (ev_imp (ev_callQ (ea_cons (ev_var rfl) (ea_cons (ev_listD (xs := (List.range M.n).map fun s => (M.mv a s, s)) (f := ePr) (ev_imp (ev_lcX (xs := (M.row a).mapIdx fun i x => (i, x)) (pf := fun q => kD (ePr (q.2, q.1))) (src rfl rfl) (by rw [mapIdx_len]; omega)
      (fun q => [some (kMac C M nm), some (kD (.str a)), some (kD (.str b)), some (kD (eRow (M.row b))), some (kL ((badL M b M.n).map fun q => kD (ePr q))), x, y, none, some (kD (eI q.1)), some (kD (eI q.2))]) (fun q => tgt_two (of_decide_eq_true rfl) (of_decide_eq_true rfl)) fun q hq => ev_ofT (ds := [eI q.2, eI q.1]) (ev_tup (ea_cons (ev_var rfl) (ea_cons (ev_var rfl) ea_nil)) (by simp))) fun G v h => ?_)) (ea_cons (ev_listD (f := ePr) (ev_var rfl)) ea_nil)))
      ⟨M, nm, (List.range M.n).map fun s => (M.mv a s, s), badL M b M.n, o, rfl, fun q hq => ?_, fun q hq => ?_, by simp; omega, Nat.le_trans (badL_len hn6 hn6) (by decide), rfl⟩) fun G v ⟨r, h, pv⟩ => ⟨r, ft_nc o.ok ha hb h, pv⟩) ⟨rfl, rfl⟩
    · rw [← eps, List.map_map]; exact h
    · obtain ⟨s, hs, rfl⟩ := List.mem_map.mp hq
      have := List.mem_range.mp hs
      exact ⟨o.ok.mv_lt ha this, this⟩
    · have := mem_badL.mp hq
      exact ⟨this.1, this.2.1⟩
def R_ic (C : Addr) (ks : List Kn) (P : Kn) : Prop := ∃ M nm a b, ∃ o : Mc.Nm M nm, ks = [kMac C M nm, kD (.str a), kD (.str b)] ∧ a ∈ M.nms ∧ b ∈ M.nms ∧ P = kD (.bool (dec (o.ok.pm.Cov a b)))
theorem nc_isNo {pm : Pm Str} {a b : Str} {r : Option (List Str)} (h : NC pm a b r) : isNo (encO r) = dec (pm.Cov a b) := by
  cases r with
  | none => rw [dec_t (show pm.Cov a b from h)]; rfl
  | some v => rw [dec_f fun z => z v h.1 h.2.1]; rfl
theorem cal_ic (B : Bi mg) (c1 : Cal P w K mg base 6 "not_covered" ["machine", "name", "by"] (spQ (R_nc C))) (F : Fd K mg "is_covered" 32) : Cal P w K mg base 7 "is_covered" ["machine", "name", "by"] (spQ (R_ic C)) := by
  refine cal_Q F sc_is_covered (by decide) (fun _ _ _ _ _ _ us hl => match us, hl with | [_, _, _], _ => rfl) (fun ks Pk ⟨_, _, _, _, _, e, _⟩ => by rw [e]; rfl) (fun f cdv A outer s H E hr => der_is_covered B c1 hr) ?_
  rintro ks Pk ⟨M, nm, a, b, o, rfl, ha, hb, rfl⟩
  exact .inl (tr_ret (ev_isNoX (ev_callQ (ea_cons (ev_var rfl) (ea_cons (ev_var rfl) (ea_cons (ev_var rfl) ea_nil))) ⟨M, nm, a, b, o, rfl, ha, hb, rfl⟩) ev_non fun r h => nc_isNo h) ⟨rfl, rfl⟩)
def R_b3 (C : Addr) (ks : List Kn) (P : Kn) : Prop := ∃ M nm a b, ∃ o : Mc.Nm M nm, ks = [kMac C M nm, kD (.str a), kD (.str b)] ∧ a ∈ M.nms ∧ b ∈ M.nms ∧ P = kX (fun r : Option (List Str) => r = none ↔ o.ok.pm.Three a b) fun r => kD (encO r)
theorem wit_run {M : Mc} (o : M.Ok) {a b : Str} {v : List Str} : (∀ s, s < M.n → M.mu (M.run (a :: v ++ [b]) s) = M.mu (M.run (v ++ [b]) s)) ↔ ¬o.pm.Wit a b v := by
  have e : ∀ u s, M.run (u ++ [b]) s = M.mv b (M.run u s) := fun u s => run_snoc
  constructor
  · rintro h ⟨s, hs, hne⟩
    have := h s hs
    rw [e, e] at this
    exact hne this
  · intro h s hs
    rw [e, e]
    exact Pm.not_wit h hs
theorem cal_b3 (B : Bi mg) (c : MacF K C) (p1 : Prp P w K mg base 1 C "names" (spQ (R_names C))) (c1 : Cal P w K mg base 6 "same" ["machine", "one", "other"] (spQ (R_same C))) (c2 : Cal P w K mg base 2 "check_deeds" ["machine", "names"] (spQ (R_check C))) (F : Fd K mg "by_three" 33) :
    Cal P w K mg base 7 "by_three" ["machine", "name", "by"] (spQ (R_b3 C)) := by
  refine cal_Q F sc_by_three (by decide) (fun _ _ _ _ _ _ us hl => match us, hl with | [_, _, _], _ => rfl) (fun ks Pk ⟨_, _, _, _, _, e, _⟩ => by rw [e]; rfl) (fun f cdv A outer s H E hr => der_by_three B c.cls p1 c1 c2 hr) ?_
  rintro ks Pk ⟨M, nm, a, b, o, rfl, ha, hb, rfl⟩
  have hnl : nm.length ≤ 8 := by rw [o.len]; exact o.ok.d8
  left
  refine tr_drop (ev_callQ (ea_cons (ev_var rfl) (ea_cons (ev_tupD (xs := [a, b]) (f := .str) (ev_tup (ea_cons (ev_var rfl) (ea_cons (ev_var rfl) ea_nil)) (by simp))) ea_nil)) ⟨M, nm, [a, b], rfl, fun y hy => ?_, rfl⟩) ?_
  · rcases List.mem_cons.mp hy with rfl | hy
    · exact (o.mem _).mpr ha
    · rw [List.mem_singleton.mp hy]; exact (o.mem _).mpr hb
  let logs : List (List Str) := [] :: nm.map fun x => [x]
  have logsM : ∀ v ∈ logs, v.length ≤ 1 ∧ ∀ x ∈ v, x ∈ M.nms := fun v hv => by
    rcases List.mem_cons.mp hv with rfl | hv
    · exact ⟨by decide, fun _ z => nomatch z⟩
    · obtain ⟨x, hx, rfl⟩ := List.mem_map.mp hv
      exact ⟨Nat.le_refl _, fun y hy => by rw [List.mem_singleton.mp hy]; exact (o.mem x).mp hx⟩
  have three : (∀ v ∈ logs, ¬o.ok.pm.Wit a b v) ↔ o.ok.pm.Three a b := by
    constructor
    · intro h
      exact ⟨h [] List.mem_cons_self, fun x hx => h [x] (List.mem_cons_of_mem _ (List.mem_map.mpr ⟨x, (o.mem x).mpr hx, rfl⟩))⟩
    · intro h v hv
      rcases List.mem_cons.mp hv with rfl | hv
      · exact h.1
      · obtain ⟨x, hx, rfl⟩ := List.mem_map.mp hv
        exact h.2 x ((o.mem x).mp hx)
  refine tr_seq (fun n' Γ' O' => n' = 0 ∧ O' = o0 ∧ o.ok.pm.Three a b) ?_ ?_
  · refine tr_for (ks := logs.map fun v => kD (eW v)) (n0 := 0) (src_list (ev_imp (ev_lst (ea_cons (ev_ofT (ds := []) (ev_tup ea_nil (by simp))) (ea_star (ev_lcX (xs := nm) (pf := fun x => kD (eW [x])) (src_tup (ev_Dtup (f := .str) (ev_prop (ev_var rfl) ⟨M, nm, rfl, rfl⟩))) (by omega)
      (fun x => [some (kMac C M nm), some (kD (.str a)), some (kD (.str b)), none, some (kD (.str x))]) (fun x => tgt_name (of_decide_eq_true rfl)) fun x hx => ev_tupD (xs := [x]) (f := .str) (ev_tup (ea_cons (ev_var rfl) ea_nil) (by simp))) (fun G v h => .inr h) ea_nil)) (by simp; omega)) fun G v h => ?_)) (fun i n' Γ' O' => n' = 0 ∧ O' = o0 ∧ (∃ x, Γ' = [some (kMac C M nm), some (kD (.str a)), some (kD (.str b)), x, none]) ∧ ∀ v ∈ logs.take i, ¬o.ok.pm.Wit a b v) ⟨rfl, rfl, ⟨_, rfl⟩, fun v hv => by simp at hv⟩ ?_ ?_
    · show (kL (kD (eW []) :: (nm.map fun x => [x]).map fun v => kD (eW v))).p G v
      rw [List.map_map]
      rw [List.append_nil] at h
      exact h
    · rintro i k n' Γ' O' hk ⟨rfl, rfl, ⟨x, rfl⟩, hno⟩
      rw [List.getElem?_map] at hk
      cases q : logs[i]? with
      | none => rw [q] at hk; cases hk
      | some v =>
        rw [q] at hk; cases hk
        have hv : v ∈ logs := List.mem_of_getElem? q
        obtain ⟨hv1, hv2⟩ := logsM v hv
        have in1 : ∀ y ∈ v ++ [b], y ∈ M.nms := fun y hy => by
          rcases List.mem_append.mp hy with hy | hy
          · exact hv2 y hy
          · rw [List.mem_singleton.mp hy]; exact hb
        refine ⟨_, _, tgt_name (of_decide_eq_true rfl), tr_if (et_notD (et_tB (ev_callQ (ea_cons (ev_var rfl) (ea_cons (P := kD (eW (a :: v ++ [b]))) (ev_tupD (f := .str) (ev_imp (ev_tup (ea_cons (ev_var rfl) (ea_star (ev_Dtup (xs := v) (f := .str) (ev_var (i := 3) rfl)) (fun G v h => .inl h) (ea_cons (ev_var (i := 2) rfl) ea_nil))) (by simp; omega)) fun G u h => ?_))
          (ea_cons (P := kD (eW (v ++ [b]))) (ev_tupD (f := .str) (ev_imp (ev_tup (ea_star (ev_Dtup (xs := v) (f := .str) (ev_var (i := 3) rfl)) (fun G v h => .inl h) (ea_cons (ev_var (i := 2) rfl) ea_nil)) (by simp; omega)) fun G u h => ?_)) ea_nil)))
          ⟨M, nm, a :: v ++ [b], v ++ [b], rfl, o, fun y hy => ?_, in1, rfl⟩))) (fun e => ?_) fun e => ?_⟩
        · simp only [List.cons_append, List.map_cons, List.map_append, List.map_nil]; exact h
        · simp only [List.map_cons, List.map_append, List.map_nil]; exact h
        · rcases List.mem_cons.mp hy with rfl | hy
          · exact ha
          · exact in1 y hy
        · refine tr_ret (P := kX (fun r : Option (List Str) => r = none ↔ o.ok.pm.Three a b) fun r => kD (encO r)) (ev_imp (ev_var (i := 3) rfl) fun G u h => ⟨some v, ⟨(fun z => nomatch z), fun z => ?_⟩, h⟩) ⟨rfl, rfl⟩
          have := (wit_run o.ok).mpr (three.mpr z v hv)
          rw [decide_eq_true this] at e
          cases e
        · refine tr_next ⟨rfl, rfl, ⟨_, rfl⟩, fun u hu => ?_⟩
          rw [take_snoc q] at hu
          rcases List.mem_append.mp hu with hu | hu
          · exact hno u hu
          · rw [List.mem_singleton.mp hu]
            have := e.symm
            simp only [Bool.not_eq_false', decide_eq_true_iff] at this
            exact (wit_run o.ok).mp this
    · rintro n' Γ' O' ⟨rfl, rfl, _, hno⟩
      rw [List.length_map, List.take_of_length_le (Nat.le_refl _)] at hno
      exact ⟨rfl, rfl, three.mp hno⟩
  · rintro n' Γ' O' ⟨rfl, rfl, h3⟩
    exact tr_ret (P := kX (fun r : Option (List Str) => r = none ↔ o.ok.pm.Three a b) fun r => kD (encO r)) (ev_imp ev_non fun G u h => ⟨none, ⟨fun _ => h3, fun _ => rfl⟩, h⟩) ⟨rfl, rfl⟩
/-! ### greatest -/
noncomputable def covs (pm : Pm Str) (nm : List Str) : List (Str × Str) := nm.flatMap fun x => (nm.filter fun y => dec (pm.Cov x y)).map fun y => (x, y)
theorem mem_covs {pm : Pm Str} {nm : List Str} {p : Str × Str} : p ∈ covs pm nm ↔ p.1 ∈ nm ∧ p.2 ∈ nm ∧ pm.Cov p.1 p.2 := by
  unfold covs
  simp only [List.mem_flatMap, List.mem_map, List.mem_filter, dec_iff]
  constructor
  · rintro ⟨x, hx, j, ⟨hj, hc⟩, rfl⟩; exact ⟨hx, hj, hc⟩
  · rintro ⟨h1, h2, h3⟩; exact ⟨p.1, h1, p.2, ⟨h2, h3⟩, rfl⟩
def R_gr (C CR : Addr) (ks : List Kn) (P : Kn) : Prop := ∃ M nm, ∃ o : Mc.Nm M nm, ks = [kMac C M nm] ∧ P = kRul CR (covs o.ok.pm nm)
theorem cal_gr (B : Bi mg) (c : MacF K C) (cr : RulF K CR) (p1 : Prp P w K mg base 1 C "names" (spQ (R_names C))) (k1 : Mak P w K mg base 2 CR "Rules" ["self", "pairs"] [] (spI CR R_rules)) (c1 : Cal P w K mg base 7 "is_covered" ["machine", "name", "by"] (spQ (R_ic C))) (F : Fd K mg "greatest" 34) :
    Cal P w K mg base 8 "greatest" ["machine"] (spQ (R_gr C CR)) := by
  refine cal_Q F sc_greatest (by decide) (fun _ _ _ _ _ _ us hl => match us, hl with | [_], _ => rfl) (fun ks Pk ⟨_, _, _, e, _⟩ => by rw [e]; rfl) (fun f cdv A outer s H E hr => der_greatest B c.cls cr.cls p1 k1 c1 hr) ?_
  rintro ks Pk ⟨M, nm, o, rfl, rfl⟩
  have hnl : nm.length ≤ 8 := by rw [o.len]; exact o.ok.d8
  left
  refine tr_set (ev_prop (ev_var rfl) ⟨M, nm, rfl, rfl⟩) (of_decide_eq_true rfl) ?_
  have hcl : (covs o.ok.pm nm).length ≤ 64 := by
    have := flat_len (xs := nm) (f := fun x => (nm.filter fun y => dec (o.ok.pm.Cov x y)).map fun y => (x, y)) (B := 8) fun x _ => by
      rw [List.length_map]
      exact Nat.le_trans (List.length_filter_le _ _) hnl
    exact Nat.le_trans this (by omega)
  refine tr_ret (ev_make (no := []) (ks := [kL ((covs o.ok.pm nm).map fun p => kD (ePs p))]) (dks := []) (fs := [(("own_pairs" : Str), kPairs (covs o.ok.pm nm))]) (ea_cons (ev_imp (ev_lc2X (xs := nm) (ys := fun _ => nm) (kf := fun x => kD (.str x)) (kf1 := fun _ y => kD (.str y)) (pf := fun x y => kD (ePs (x, y))) (B := 8) (bf := fun x y => dec (o.ok.pm.Cov x y)) (src_tup (ev_Dtup (f := .str) (ev_var rfl))) (fun _ _ => hnl) (by omega)
    (fun x => [some (kMac C M nm), some (kD (eW nm)), some (kD (.str x)), none]) (fun x y => [some (kMac C M nm), some (kD (eW nm)), some (kD (.str x)), some (kD (.str y))]) (fun x => tgt_name (of_decide_eq_true rfl)) (fun x _ => src_tup (ev_Dtup (f := .str) (ev_var rfl))) (fun x y => tgt_name (of_decide_eq_true rfl)) (fun x hx y hy => et_tB (ev_callQ (ea_cons (ev_var rfl) (ea_cons (ev_var rfl) (ea_cons (ev_var rfl) ea_nil))) ⟨M, nm, x, y, o, rfl, (o.mem x).mp hx, (o.mem y).mp hy, rfl⟩))
    fun x hx y hy _ => ev_ofT (ds := [.str x, .str y]) (ev_tup (ea_cons (ev_var rfl) (ea_cons (ev_var rfl) ea_nil)) (by simp))) fun G v h => ?_) ea_nil) (fun G => trivial) ⟨covs o.ok.pm nm, rfl, fun p hp => ?_, by omega, rfl⟩ fun _ z => nomatch z) ⟨rfl, rfl⟩
  · unfold covs
    rw [List.map_flatMap]
    simp only [List.map_map]
    exact h
  · have := mem_covs.mp hp
    exact ⟨o.ok.ltn ((o.mem _).mp this.1), o.ok.ltn ((o.mem _).mp this.2.1)⟩
end
end Ll
end

section
set_option Elab.async false
set_option linter.all false
set_option maxRecDepth 100000
set_option maxHeartbeats 2000000
/-! Ll, walks: Machine.__init__. -/
namespace Ll
open PySem PySem.Spec PyProof.Rows L2
theorem merge_not {k : L2.Key} : ∀ {kvs acc : List (L2.Key × V)}, k ∉ kvs.map (·.1) → valV (mergeK acc kvs) k = valV acc k
  | [], acc, _ => rfl
  | q :: r, acc, h => by
    have h1 : ¬k = q.1 := fun e => h (by simp [e])
    have h2 : k ∉ r.map (·.1) := fun z => h (List.mem_cons_of_mem _ z)
    show valV (mergeK (putK acc q.1 q.2) r) k = _
    rw [merge_not h2, valV_put, if_neg h1]
theorem merge_in : ∀ {kvs acc : List (L2.Key × V)}, (kvs.map (·.1)).Nodup → ∀ q ∈ kvs, valV (mergeK acc kvs) q.1 = some q.2
  | q :: r, acc, nd, p, hp => by
    rw [List.map_cons, List.nodup_cons] at nd
    show valV (mergeK (putK acc q.1 q.2) r) p.1 = _
    rcases List.mem_cons.mp hp with rfl | hp
    · rw [merge_not nd.1, valV_put, if_pos rfl]
    · exact merge_in nd.2 p hp
theorem core_less {G : Hp} {p : Addr} {o : HO} (e : G p = some o) (h : IsIns o) {a : Addr} {u : HO} {ps : List (L2.Key × V)} (ha : G a = some u) (hc : core u = .dK ps) : less G p a = some u := by
  have : a ≠ p := fun q => by
    subst q
    rw [e] at ha
    obtain ⟨C, dx, ws, rfl⟩ := h
    cases ha
    cases hc
  rw [less_ne this]; exact ha
theorem kless_map {ι : Type} {dom : List ι} {key : ι → Str} {f : ι → PyData} : KLess IsIns (kMap dom key fun x => kD (f x)) := fun G p v o e t ⟨a, u, ps, ev, ha, hc, h⟩ =>
  ⟨a, u, ps, ev, core_less e t ha hc, hc, fun x hx => let ⟨w, h1, h2⟩ := h x hx; ⟨w, h1, kless_D ins_noseq G p w o e t h2⟩⟩
section
variable {md : Md} {m n k : Nat} {Γ : Env} {K : PySem.W.Frag} {ta tb te : TE} {t : TA} {ks : List Kn}
theorem src_either {ta tb : TE} (h : (∃ te, ta = te ∧ Ev md m n te Γ (kL ks)) ∨ (∃ te, tb = te ∧ Ev md m n te Γ (kT ks))) : Src md m n (iEither (iList K ta) (iTup K tb)) Γ ks := fun G H σ c R r => by
  rcases h with ⟨te, rfl, h⟩ | ⟨te, rfl, h⟩
  · exact .inl (src_list h G H σ c R r)
  · exact .inr (src_tup h G H σ c R r)
/-- dict of pairs -/
theorem ev_dict {ι : Type} {xs : List ι} {key : ι → Str} {kf : ι → Kn} (h : EvA md m n t Γ [kL (xs.map fun d => kT [kD (.str (key d)), kf d])]) (nd : (xs.map key).Nodup) : Ev md m n (tCB (cDic K) t) Γ (kMap xs key kf) :=
  ev_cb1 h fun G H v s jj ⟨a, vs, e, hs, ax⟩ => by
    have main : ∀ {xs : List ι} {vs : List V}, AllK G (xs.map fun d => kT [kD (.str (key d)), kf d]) vs → ∃ (ps : List Addr) (kvs : List (L2.Key × V)), vs = ps.map V.ref ∧ Paired (fun p kv => SqT K H p [L2.kV kv.1, kv.2]) ps kvs ∧ kvs.map (·.1) = xs.map (fun d => Sum.inr (key d)) ∧ ∀ d ∈ xs, ∃ w, (Sum.inr (key d), w) ∈ kvs ∧ (kf d).p G w := fun {xs} => by
      induction xs with
      | nil => intro vs h; rw [allK_nil h]; exact ⟨[], [], rfl, .nil, rfl, fun _ z => nomatch z⟩
      | cons d xs ih =>
        intro vs h
        match vs, h with
        | v :: vs, ⟨⟨q, us, e1, hq, au⟩, h2⟩ =>
          match us, au with
          | [u1, u2], ⟨a1, a2, _⟩ =>
            obtain ⟨ps, kvs, e2, pr, ek, hm⟩ := ih h2
            rw [kD_str.mp a1] at hq
            refine ⟨q :: ps, (.inr (key d), u2) :: kvs, by rw [e1, e2]; rfl, .cons (SqT.of (s _ _ hq)) pr, by rw [List.map_cons, List.map_cons, ek], fun x hx => ?_⟩
            rcases List.mem_cons.mp hx with rfl | hx
            · exact ⟨u2, List.mem_cons_self, a2⟩
            · obtain ⟨w, h1, h2⟩ := hm x hx
              exact ⟨w, List.mem_cons_of_mem _ h1, h2⟩
    obtain ⟨ps, kvs, e2, pr, ek, hm⟩ := main ax
    subst e2
    refine Out.new (o := .dK (mergeK [] kvs)) s jj (fun p hp => ⟨p, _, _, rfl, upd_same, rfl, fun d hd => ?_⟩) fun Q q => ⟨a, ps, kvs, by rw [e], SqL.of (s _ _ hs), pr, fun p hp => q p hp⟩
    obtain ⟨w, h1, h2⟩ := hm d hd
    have nd2 : (kvs.map (·.1)).Nodup := by
      rw [ek]
      have : xs.map (fun d => (Sum.inr (key d) : L2.Key)) = (xs.map key).map Sum.inr := by rw [List.map_map]; rfl
      rw [this]
      exact List.Pairwise.map _ (fun a b h z => h (Sum.inr.inj z)) nd
    exact ⟨w, merge_in nd2 _ h1, (kf d).mono _ _ _ (le_same (same_new (s.free hp))) h2⟩
end
def kNms (M : Mc) : Kn := kX (fun es : List Str => es.Perm M.nms) fun es => kD (eW es)
def fsM (M : Mc) : List (Str × Kn) := [(("own_many" : Str), kD (eI M.n)), (("own_names" : Str), kNms M), (("own_moves" : Str), kMoves M), (("own_shows" : Str), kSq M.sh), (("own_marks" : Str), kD (eIs M.marks)), (("own_kinds" : Str), kAny)]
def kDeed (d : Str × List Nat) : Kn := kT [kD (.str d.1), kD (eRow d.2)]
def R_mac (ks : List Kn) (fs : List (Str × Kn)) : Prop := ∃ M : Mc, M.Ok ∧ (∃ kd ksh, ks = [kD (eI M.n), kd, ksh] ∧ (kd = kL (M.ds.map kDeed) ∨ kd = kT (M.ds.map kDeed)) ∧ (ksh = kSq M.sh ∨ (ksh = kD .none ∧ M.sh = (List.range M.n).map fun i => ((i : Nat) : Int)))) ∧ fs = fsM M
theorem rows_marks {M : Mc} (o : M.Ok) {es : List Str} (h : es.Perm M.nms) : itr M.n (es.map M.row) M.n (mk0 M.n M.sh) = M.marks := by
  refine itr_same (fun r => ?_) M.n M.n _
  rw [List.mem_map]
  constructor
  · rintro ⟨x, hx, rfl⟩; exact o.row_mem (h.mem_iff.mp hx)
  · intro hr
    obtain ⟨d, hd, rfl⟩ := List.mem_map.mp hr
    exact ⟨d.1, h.mem_iff.mpr (List.mem_map.mpr ⟨d, hd, rfl⟩), o.row_of hd⟩
theorem kless_sq {l : List Int} : KLess IsIns (kSq l) := fun G p v o e ⟨C, dx, ws, eo⟩ ⟨a, ev, h⟩ => by
  subst eo
  refine ⟨a, ev, ?_⟩
  rcases h with h | ⟨u, h⟩
  · exact .inl (by rw [less_ne (fun q => by rw [q, e] at h; cases h)]; exact h)
  · exact .inr ⟨u, by rw [less_ne (fun q => by rw [q, e] at h; cases h)]; exact h⟩
theorem kless_nms {M : Mc} : KLess IsIns (kNms M) := fun G p v o e t ⟨es, a, b⟩ => ⟨es, a, kless_D ins_noseq G p v o e t b⟩
theorem bI_names {C dx : Addr} {M : Mc} {pre post : List (Str × Kn)} (hp : ("own_names" : Str) ∉ pre.map (·.1)) : ∀ G o, (bI C dx (pre ++ (("own_names" : Str), kNms M) :: post)).ok G o → ∃ es : List Str, es.Perm M.nms ∧ (bI C dx (pre ++ (("own_names" : Str), kD (eW es)) :: post)).ok G o := fun G o ⟨ws, e, h1, h2, h3⟩ => by
  obtain ⟨w, hw, es, pe, pw⟩ := h1 (("own_names" : Str), kNms M) (by simp)
  refine ⟨es, pe, ws, e, fun q hq => ?_, fun m hm => h2 m (by simpa using hm), by simpa using h3⟩
  rcases List.mem_append.mp hq with hq | hq
  · exact h1 q (List.mem_append_left _ hq)
  · rcases List.mem_cons.mp hq with rfl | hq
    · exact ⟨w, hw, pw⟩
    · exact h1 q (List.mem_append_right _ (List.mem_cons_of_mem _ hq))
theorem kMac_of {C : Addr} {M : Mc} {G : Hp} {v : V} (o : M.Ok) (h : (kIns C (fsM M) ["mark"]).p G v) : ∃ nm, Mc.Nm M nm ∧ (kMac C M nm).p G v := by
  obtain ⟨a, dx, vs, e, hs, hf, hno⟩ := h
  have g : ∀ i (q : Str × Kn), (fsM M)[i]? = some q → ∃ w, vs.lookup q.1 = some w ∧ q.2.p G w := fun i q hq => hf q (List.mem_of_getElem? hq)
  obtain ⟨w, hw, es, pe, pw⟩ := g 1 _ rfl
  refine ⟨es, ⟨o, fun a => pe.mem_iff, by rw [pe.length_eq]; exact List.length_map _⟩, a, dx, vs, e, hs, fun q hq => ?_, hno⟩
  have hq' : q = (("own_many" : Str), kD (eI M.n)) ∨ q = (("own_names" : Str), kD (eW es)) ∨ q = (("own_moves" : Str), kMoves M) ∨ q = (("own_shows" : Str), kAny) ∨ q = (("own_marks" : Str), kD (eIs M.marks)) ∨ q = (("own_kinds" : Str), kAny) := by simpa using hq
  rcases hq' with rfl | rfl | rfl | rfl | rfl | rfl
  · exact g 0 _ rfl
  · exact ⟨w, hw, pw⟩
  · exact g 2 _ rfl
  · obtain ⟨w, hw, _⟩ := g 3 _ rfl
    exact ⟨w, hw, trivial⟩
  · exact g 4 _ rfl
  · exact g 5 _ rfl
section
variable {P : Program} {w : World} {K : PySem.W.Frag} {mg : Str → Option Value} {base : Heap} {C : Addr}
theorem w_init (c : MacF K C) (x dx : Addr) (ks : List Kn) (fs : List (Str × Kn)) (h : R_mac ks fs) :
    Tr M0 0 (some (kP x) :: ks.map some ++ List.replicate (N_Machine_init.length - (ks.length + 1)) none) (oOb x (bI C dx [])) (t_Machine_init K sp_blocks_of sp_marks_of) { nx := fun _ _ O => ∃ k : Ob, O = oOb x k ∧ ∀ G o, k.ok G o → (bI C dx fs).ok G o } := by
  obtain ⟨M, o, ⟨kd, ksh, rfl, hkd, hsh⟩, rfl⟩ := h
  have hn6 := o.n6
  have hd8 := o.d8
  have hdl : M.ds.length ≤ 1000000 := by omega
  have srcD : ∀ {Γ : Env}, Γ[2]? = some (some kd) → Src M0 0 0 (iEither (iList K (tVar 2)) (iTup K (tVar 2))) Γ (M.ds.map kDeed) := fun h => by
    rcases hkd with rfl | rfl
    · exact src_either (.inl ⟨_, rfl, ev_var h⟩)
    · exact src_either (.inr ⟨_, rfl, ev_var h⟩)
  refine tr_set (P1 := kL (M.nms.map fun y => kD (.str y))) (ev_imp (ev_lcX (xs := M.ds) (kf := kDeed) (pf := fun d => kD (.str d.1)) (srcD rfl) hdl (fun d => [some (kP x), some (kD (eI M.n)), some kd, some ksh, some (kD (.str d.1)), none, none, some (kD (eRow d.2))]) (fun d => tgt_two (of_decide_eq_true rfl) (of_decide_eq_true rfl)) fun d _ => ev_var rfl) fun G v h => by unfold Mc.nms; rw [List.map_map]; exact h) (of_decide_eq_true rfl) ?_
  refine tr_seq (fun n' Γ' O' => n' = 0 ∧ O' = oOb x (bI C dx []) ∧ ∃ a b, Γ' = [some (kP x), some (kD (eI M.n)), some kd, some ksh, a, some (kL (M.nms.map fun y => kD (.str y))), b, none]) ?_ ?_
  · refine tr_for (src_enum (ea_cons (ev_var rfl) ea_nil)) (fun _ n' Γ' O' => n' = 0 ∧ O' = oOb x (bI C dx []) ∧ ∃ a b, Γ' = [some (kP x), some (kD (eI M.n)), some kd, some ksh, a, some (kL (M.nms.map fun y => kD (.str y))), b, none]) ⟨rfl, rfl, _, _, rfl⟩ ?_ fun _ _ _ h => h
    rintro i k n' Γ' O' hk ⟨rfl, rfl, a, b, rfl⟩
    obtain ⟨k', hk', rfl⟩ := kEnum_get hk
    rw [List.getElem?_map] at hk'
    cases q : M.nms[i]? with
    | none => rw [q] at hk'; cases hk'
    | some y =>
      rw [q] at hk'; cases hk'
      refine ⟨_, _, tgt_two (of_decide_eq_true rfl) (of_decide_eq_true rfl), tr_if (et_test (ev_inSL (x := y) (ws := M.nms.take i) (ev_var rfl) (ev_imp (ev_slTake (ev_var rfl) (ev_var rfl)) fun G v h => by rw [List.map_take]; exact h))) (fun e => tr_abs ?_) fun _ => tr_next ⟨rfl, rfl, _, _, rfl⟩⟩
      have hin : y ∈ M.nms.take i := by simpa using e
      have hil : i < M.nms.length := (List.getElem?_eq_some_iff.mp q).1
      have nd := o.nd
      have nd' : M.nms.Nodup := nd
      obtain ⟨j, hj, ej⟩ := List.mem_iff_getElem.mp hin
      rw [List.getElem_take] at ej
      have hji : j < i := by rw [List.length_take] at hj; omega
      have ei : M.nms[i] = y := (List.getElem?_eq_some_iff.mp q).2
      have := (List.pairwise_iff_getElem.mp nd') j i (by omega) hil hji
      exact this (ej.trans ei.symm)
  · rintro n' Γ' O' ⟨rfl, rfl, a, b, rfl⟩
    have no : ∀ f ∈ (["own_many", "own_names", "own_moves", "own_shows", "own_marks", "own_kinds"] : List Str), NoAttr K C f := c.no
    refine tr_fld (P2 := kD (eI M.n)) c.cls (no _ (by decide)) (by simp) (by simp) (kless_D ins_noseq) rfl (ev_var rfl) ?_
    refine tr_fld (P2 := kNms M) c.cls (no _ (by decide)) (by simp; decide) (by simp) kless_nms rfl (ev_imp (ev_tupX (ea_cons (ev_sortedS (ws := M.nms) (ea_cons (ev_var rfl) ea_nil) (by show (M.ds.map _).length < 64; rw [List.length_map]; omega)) ea_nil)) fun G v ⟨es, pe, h⟩ => ⟨es, pe, kD_tup.mpr (by rw [List.map_map]; exact h)⟩) ?_
    refine tr_openO (S := fun es : List Str => es.Perm M.nms) (k' := fun es => bI C dx [(("own_many" : Str), kD (eI M.n)), (("own_names" : Str), kD (eW es))]) (bI_names (pre := [(("own_many" : Str), kD (eI M.n))]) (post := []) (by simp; decide)) fun es pe => ?_
    refine tr_fld (P2 := kMoves M) c.cls (no _ (by decide)) (by simp; decide) (by simp) kless_map rfl (ev_dict (xs := M.ds) (key := fun d => d.1) (kf := fun d => kD (eRow d.2)) (ea_cons (ev_lcX (xs := M.ds) (kf := kDeed) (pf := fun d => kT [kD (.str d.1), kD (eRow d.2)]) (srcD rfl) hdl (fun d => [some (kIns C [(("own_many" : Str), kD (eI M.n)), (("own_names" : Str), kD (eW es))] []), some (kD (eI M.n)), some kd, some ksh, some (kD (.str d.1)), some (kL (M.nms.map fun y => kD (.str y))), b, some (kD (eRow d.2))]) (fun d => tgt_two (of_decide_eq_true rfl) (of_decide_eq_true rfl)) fun d _ =>
      ev_tup (ea_cons (ev_var rfl) (ea_cons (ev_tupD (ev_tupT (ea_cons (ev_Dtup (xs := d.2) (f := eI) (ev_var rfl)) ea_nil))) ea_nil)) (by simp)) ea_nil) o.nd) ?_
    refine tr_fld (n := 0) (P2 := kSq M.sh) c.cls (no _ (by decide)) (by simp; decide) (by simp) kless_sq rfl ?_ ?_
    · rcases hsh with rfl | ⟨rfl, e⟩
      · refine ev_if (et_op (S := (· = false)) (ev_var rfl) ev_non fun G H v w s ⟨a, ev, _⟩ pw => ⟨false, rfl, fun Q q => ⟨kD_none.mp pw, by rw [ev]; exact q⟩⟩) (fun e => by cases e) fun _ => ev_tupSq (ea_cons (ev_var rfl) ea_nil)
      · refine ev_if (et_test (ev_isNo (ev_var rfl) ev_non)) (fun _ => ?_) fun e => by cases e
        refine ev_imp (ev_tupRg (ev_var rfl) (by omega)) fun G v h => kSq_of G v ?_
        rw [e, List.map_map]
        exact h
    have hes : es.length = M.ds.length := by rw [pe.length_eq]; exact List.length_map _
    refine tr_fld (P2 := kD (eIs M.marks)) c.cls (no _ (by decide)) (by simp; decide) (by simp) (kless_D ins_noseq) rfl (ev_callQ (ea_cons (ev_var rfl) (ea_cons (ev_listD (xs := es.map M.row) (f := eRow) (ev_imp (ev_lcX (xs := es) (kf := fun y => kD (.str y)) (pf := fun y => kD (eRow (M.row y))) (src_tup (ev_Dtup (f := .str) (ev_fld (P := kD (eW es)) c.cls (no _ (by decide)) (ev_var rfl) (.tail _ (.head _))))) (by omega)
      (fun y => [some (kIns C _ []), some (kD (eI M.n)), some kd, some ksh, some (kD (.str y)), some (kL (M.nms.map fun y => kD (.str y))), b, none]) (fun y => tgt_name (of_decide_eq_true rfl)) fun y hy => ?_) fun G v h => by rw [List.map_map]; exact h)) (ea_cons (ev_fld (P := kSq M.sh) c.cls (no _ (by decide)) (ev_var rfl) (.tail _ (.tail _ (.tail _ (.head _))))) ea_nil)))
      ⟨M.n, es.map M.row, M.sh, rfl, o.n1, hn6, o.sl, by rw [List.length_map]; omega, fun r hr => ?_, by rw [rows_marks o pe]⟩) ?_
    · have hy' : y ∈ M.nms := pe.mem_iff.mp hy
      obtain ⟨d, hd, e1, e2⟩ := o.of_nm hy'
      rw [e2]
      subst e1
      have h2 : Ev M0 0 0 (tFld K (tVar 0) "own_moves") [some (kIns C [(("own_many" : Str), kD (eI M.n)), (("own_names" : Str), kD (eW es)), (("own_moves" : Str), kMoves M), (("own_shows" : Str), kSq M.sh)] []), some (kD (eI M.n)), some kd, some ksh, some (kD (.str d.1)), some (kL (M.nms.map fun y => kD (.str y))), b, none] (kMap M.ds (·.1) fun d => kD (eRow d.2)) := ev_fld c.cls (no _ (by decide)) (ev_var rfl) (.tail _ (.tail _ (.head _)))
      exact ev_map (dom := M.ds) (key := fun d => d.1) (kf := fun d => kD (eRow d.2)) (x := d) h2 (ev_var rfl) hd
    · obtain ⟨y, hy, rfl⟩ := List.mem_map.mp hr
      exact o.row_len (pe.mem_iff.mp hy)
    refine tr_fldL (P2 := kAny) c.cls (no _ (by decide)) (by simp; decide) (by simp) kless_any rfl (ev_callQ (ea_cons (ev_fld (P := kD (eIs M.marks)) c.cls (no _ (by decide)) (ev_var rfl) (.tail _ (.tail _ (.tail _ (.tail _ (.head _)))))) ea_nil) ⟨M.marks, rfl, by rw [marks_len]; omega, rfl⟩) ⟨_, rfl, fun G o' ⟨ws, e, h1, h2, h3⟩ => ⟨ws, e, fun q hq => ?_, fun m hm => h2 m hm, h3⟩⟩
    have hq' : q = (("own_many" : Str), kD (eI M.n)) ∨ q = (("own_names" : Str), kNms M) ∨ q = (("own_moves" : Str), kMoves M) ∨ q = (("own_shows" : Str), kSq M.sh) ∨ q = (("own_marks" : Str), kD (eIs M.marks)) ∨ q = (("own_kinds" : Str), kAny) := by simpa [fsM] using hq
    rcases hq' with rfl | rfl | rfl | rfl | rfl | rfl
    · exact h1 _ (.head _)
    · obtain ⟨w, hw, pw⟩ := h1 (("own_names" : Str), kD (eW es)) (.tail _ (.head _))
      exact ⟨w, hw, es, pe, pw⟩
    · exact h1 _ (.tail _ (.tail _ (.head _)))
    · exact h1 _ (.tail _ (.tail _ (.tail _ (.head _))))
    · exact h1 _ (.tail _ (.tail _ (.tail _ (.tail _ (.head _)))))
    · exact h1 _ (.tail _ (.tail _ (.tail _ (.tail _ (.tail _ (.head _))))))
theorem fn_init (B : Bi mg) (c : MacF K C) (c1 : Cal P w K mg base 2 "blocks_of" ["marks"] sp_blocks_of) (c2 : Cal P w K mg base 2 "marks_of" ["many", "moves", "shows"] sp_marks_of) {f : Addr} {fd : FuncData} {dv : List V} (F : FunD K "__init__" "Machine.__init__" (defArgs (inClass (top 14) 0)) (defBody (inClass (top 14) 0)) (defScope (inClass (top 14) 0)) dv [] f fd) :
    FnOk P w K mg base CX0 3 f fd ["self", "many", "deeds", "shows"] (spI C R_mac) := by
  refine fn_S F sc_Machine_init (fun vs H Q E ⟨G, x, dx, rest, ks, fs, e, _, a, ⟨M, _, ⟨_, _, ek, _⟩, _⟩, _⟩ => ?_) (fun cdv A outer s H E hr => der_Machine_init B c1 c2 hr) fun vs H Q E h => tr_runI h ?_ fun x dx ks fs hr => w_init c x dx ks fs hr
  · rw [e, List.length_cons, ← AllK.len a, ek]; rfl
  · rintro ks fs ⟨M, _, ⟨_, _, rfl, _⟩, _⟩
    exact Nat.le_of_ble_eq_true rfl
theorem mak_mac (B : Bi mg) (c : MacF K C) (c1 : Cal P w K mg base 2 "blocks_of" ["marks"] sp_blocks_of) (c2 : Cal P w K mg base 2 "marks_of" ["many", "moves", "shows"] sp_marks_of) {dvs : List V} (F : ∃ f fd ds dv, FunD K "__init__" "Machine.__init__" (defArgs (inClass (top 14) 0)) (defBody (inClass (top 14) 0)) (defScope (inClass (top 14) 0)) dv [] f fd ∧ Mk K C f ∧ Binds K fd ["self", "many", "deeds", "shows"] ds ∧ Vals dvs ds) (hm : mg "Machine" = some (.ref C)) :
    Mak P w K mg base 3 C "Machine" ["self", "many", "deeds", "shows"] dvs (spI C R_mac) := by
  obtain ⟨f, fd, ds, dv, F, M, hb, hv⟩ := F
  exact ⟨f, fd, ds, M, fn_init B c c1 c2 F, hm, hb, hv⟩
end
end Ll
end

section
set_option Elab.async false
set_option linter.all false
set_option maxRecDepth 100000
set_option maxHeartbeats 2000000
/-! Ll: the box that is drawn from; take, of, mixed. -/
namespace Ll
open PySem PySem.Spec PyProof.Rows L2
def Bx (b : Addr) (n : Nat) (H : Hp) : Prop := ∃ x y z : Int, H b = some (.lst [.int x, .int y, .int z]) ∧ 0 ≤ x ∧ 0 ≤ y ∧ y < 2 ^ 62 ∧ 0 ≤ z ∧ z ≤ n
def mB (b : Addr) : Md where
  mu := fun a => a = b
  kp := fun a => a = b
  muk := fun _ h => h
  J := Bx b
  st := fun n H H' ⟨x, y, z, h, r⟩ k => ⟨x, y, z, k b _ rfl h, r⟩
  dom := fun n H a ⟨x, y, z, h, r⟩ e => by subst e; rw [h]; exact fun q => nomatch q
  up := fun n n' H hn ⟨x, y, z, h, h1, h2, h3, h4, h5⟩ => ⟨x, y, z, h, h1, h2, h3, h4, by omega⟩
def spB (c : Nat) (R : List Kn → Kn → Prop) : Sp := fun vs H Q _ => ∃ b G n ks P rest, vs = .ref b :: rest ∧ Same G H ∧ Bx b n H ∧ G b = none ∧ n + c ≤ 1000000 ∧ R ks P ∧ AllK G ks rest ∧ ∀ v H2 G2, Gr (fun a => a = b) G H G2 H2 → Bx b (n + c) H2 → P.p G2 v → Q v H2
section
variable {b : Addr} {m n k c : Nat} {Γ : Env} {K : PySem.W.Frag} {t : TA} {P : Kn} {ks : List Kn} {R : List Kn → Kn → Prop} {E : XK}
theorem ev_callB (h : EvA (mB b) m n t Γ (kP b :: ks)) (hr : R ks P) (hn : n + c ≤ 1000000) : Ev (mB b) m (n + c) (tCall (spB c R) [] E t) Γ P := fun G H σ cc Q q =>
  h G H σ cc _ fun vs H1 G1 g1 j1 a => by
    cases vs with
    | nil => exact a.elim
    | cons v vs =>
      obtain ⟨a1, a2⟩ := a
      have e : v = .ref b := a1
      subst e
      refine ⟨b, G1, n, ks, P, vs, by rw [List.append_nil], g1.gh, j1, g1.nw b ((mB b).dom _ _ b cc.j rfl) (cc.sep b rfl), hn, hr, a2, fun w H2 G2 g2 j2 p2 => ?_⟩
      exact q w H2 G2 (g1.trans (fun a z => (mB b).dom _ _ a j1 z) g2) j2 p2
theorem tr_runB {N : List Str} {vs : List V} {H : Hp} {Q : VK} {ts : TS} (h : spB c R vs H Q E) (hl : ∀ ks P, R ks P → ks.length + 1 ≤ N.length)
    (hb : ∀ (b : Addr) n ks P, R ks P → n + c ≤ 1000000 → Tr (mB b) n (some (kP b) :: ks.map some ++ List.replicate (N.length - (ks.length + 1)) none) o0 ts { rt := fun n' P' => n' ≤ n + c ∧ P' = P }) : ts { nx := fun _ H' => Q .non H', rt := Q } (L2.start N vs) H := by
  obtain ⟨b, G, n, ks, P, rest, rfl, s, j, gb, hn, hr, a, post⟩ := h
  have env : EnvOk G (L2.start N (.ref b :: rest)) ((kP b :: ks).map some ++ List.replicate (N.length - (kP b :: ks).length) none) := env_start (N := N) (ks := kP b :: ks) (vs := .ref b :: rest) ⟨rfl, a⟩ (by simpa using hl ks P hr)
  have st : St (mB b) n (some (kP b) :: ks.map some ++ List.replicate (N.length - (ks.length + 1)) none) o0 G H G G H (L2.start N (.ref b :: rest)) := ⟨Gr.refl s, Same.refl G, ⟨s, j, fun x hx => by have : x = b := hx; rw [this]; exact gb, env⟩, trivial⟩
  exact hb b n ks P hr hn G H G G H _ st _ ⟨fun _ _ _ _ _ _ z => z.elim, fun n' P' v G' H' ⟨hle, e⟩ g j' p => post v H' G' g ((mB b).up _ _ _ hle j') (e ▸ p), fun _ _ _ _ _ _ z => z.elim, fun _ _ _ _ _ _ z => z.elim⟩
theorem spB_len {ps : List Str} (len : ∀ ks Pk, R ks Pk → ks.length + 1 = ps.length) : ∀ vs H Q E, spB c R vs H Q E → vs.length = ps.length := fun vs H Q E ⟨b, G, n, ks, P, rest, e, _, _, _, _, hr, a, _⟩ => by
  rw [e, List.length_cons, ← AllK.len a]; exact len ks P hr
end
theorem cal_B {P : Program} {w : World} {K : PySem.W.Frag} {mg : Str → Option Value} {base : Heap} {k i c : Nat} {x : Str} {N ps : List Str} {t : TS} {R : List Kn → Kn → Prop} (F : Fd K mg x i) (S : FnScope N ps (defScope (top i))) (hN : ps.length ≤ N.length)
    (hb : ∀ (kV doc pm : Value) (an : Option Addr) (cdv ct : Value) (us : List Value), us.length = ps.length → bindArgs (PySem.W.fnOf x x (defArgs (top i)) (defBody (top i)) (defScope (top i)) .none kV doc pm an cdv ct) ⟨us, []⟩ = pure (ps.zip us))
    (len : ∀ ks Pk, R ks Pk → ks.length + 1 = ps.length)
    (der : ∀ (f : Addr) (cdv : Value) (A : Around) (outer : List PySem.Env) (s : Shared) (H : Hp) (E : XK), Room k (A.deeper (envOfC x (defScope (top i)) s.heap.objs.size f cdv)) → PSs (cxOf CX0 P w K mg base N x (defScope (top i)) f cdv A outer s H E).nox (defBody (top i)) t)
    (body : ∀ (b : Addr) n ks P, R ks P → n + c ≤ 1000000 → Tr (mB b) n (some (kP b) :: ks.map some ++ List.replicate (N.length - (ks.length + 1)) none) o0 t { rt := fun n' P' => n' ≤ n + c ∧ P' = P }) : Cal P w K mg base (k + 1) x ps (spB c R) :=
  cal_S F S hb (spB_len len) der fun vs H Q E h => tr_runB h (fun ks Pk hr => by rw [len ks Pk hr]; exact hN) body
/-! ### take -/
def kN (z : Nat) : Kn := kX (fun r : Nat => r < z) fun r => kD (eI r)
def R_take (ks : List Kn) (P : Kn) : Prop := ∃ z : Nat, ks = [kD (eI z)] ∧ 0 < z ∧ z ≤ 1000 ∧ P = kN z
abbrev sp_l_take : Sp := spB 1 R_take
theorem kN_of {G : Hp} {z : Nat} {r : Int} (h0 : 0 ≤ r) (h1 : r < z) : (kN z).p G (.int r) := by
  refine ⟨r.toNat, by omega, ?_⟩
  show Dq G (.int r) (eI r.toNat)
  have : eI r.toNat = .int r := by unfold eI; rw [Int.toNat_of_nonneg h0]
  rw [this]; exact .int r
theorem w_take {K : PySem.W.Frag} {vs : List V} {H : Hp} {Q : VK} {E : XK} (h : sp_l_take vs H Q E) : t__law_take K { nx := fun _ H' => Q .non H', rt := Q } (L2.start N__law_take vs) H := by
  obtain ⟨b, G, n, ks, P, rest, rfl, s, ⟨x, y, z, hb, hx, hy0, hy1, hz0, hz1⟩, gb, hn, ⟨w, rfl, hw0, hw1, rfl⟩, a, post⟩ := h
  match rest, a with
  | [wv], ⟨a1, _⟩ =>
    have ew := kD_int.mp a1
    subst ew
    have hwz : ((w : Nat) : Int) ≠ 0 := by omega
    have wr : ∀ l : List V, Gr (fun a => a = b) G H G (upd H b (.lst l)) := fun l => ⟨Same.refl G, fun a u e => by rw [upd_ne (ne_of_none e gb)]; exact s a u e, fun a u hne e => by rw [upd_ne hne]; exact e, fun _ _ h => h⟩
    refine ⟨_, rfl, b, _, 0, .int x, rfl, rfl, SqL.of hb, rfl, x, 0, rfl, rfl, _, rfl, ?_⟩
    by_cases hx0 : 0 < x
    · dsimp only
      rw [if_pos (by simpa using hx0)]
      refine ⟨_, rfl, b, _, 0, .int x, rfl, rfl, SqL.of hb, rfl, .inl ⟨x, rfl, _, rfl, x, w, rfl, rfl, hwz, ?_⟩⟩
      refine ⟨_, rfl, b, _, 0, .int x, rfl, rfl, SqL.of hb, rfl, _, rfl, x, w, rfl, rfl, ⟨hwz, by omega⟩, ?_⟩
      refine ⟨_, rfl, b, _, 0, 0, rfl, rfl, hb, rfl, _, rfl, ?_⟩
      refine post _ _ _ (wr _) ⟨x.fdiv w, y, z, upd_same, Int.fdiv_nonneg hx (by omega), hy0, hy1, hz0, by omega⟩ (kN_of (Int.fmod_nonneg_of_pos _ (by omega)) (Int.fmod_lt_of_pos _ (by omega)))
    · dsimp only
      rw [if_neg (by simpa using hx0)]
      have hz2 : -(2 ^ 64) < 39373 + (z + 1) ∧ 39373 + (z + 1) < 2 ^ 64 := by omega
      refine ⟨_, rfl, b, _, 2, .int z, rfl, rfl, SqL.of hb, rfl, z, 1, rfl, rfl, ?_⟩
      refine ⟨_, rfl, b, _, 2, 2, rfl, rfl, hb, rfl, ?_⟩
      have hb1 : upd H b (.lst ([V.int x, V.int y, V.int z].set 2 (V.int (z + 1)))) b = some (.lst [.int x, .int y, .int (z + 1)]) := upd_same
      refine ⟨_, rfl, b, _, 1, .int y, rfl, rfl, SqL.of hb1, rfl, _, rfl, b, _, 2, .int (z + 1), rfl, rfl, SqL.of hb1, rfl, 48271, z + 1, rfl, rfl, .inl (by omega), y, _, rfl, rfl, _, rfl, b, _, 2, .int (z + 1), rfl, rfl, SqL.of hb1, rfl, 39373, z + 1, rfl, rfl, _, _, rfl, rfl, .inr hz2, .inl ⟨_, rfl, _, 2147483647, rfl, rfl, (show (2147483647 : Int) ≠ 0 by decide), ?_⟩⟩
      have b4 : ∀ t : Int, -(2 ^ 64) < t.fmod 40009 + 7 ∧ t.fmod 40009 + 7 < 2 ^ 64 := fun t => by
        have h1 : 0 ≤ t.fmod 40009 := Int.fmod_nonneg_of_pos _ (by omega)
        have h2 : t.fmod 40009 < 40009 := Int.fmod_lt_of_pos _ (by omega)
        omega
      refine ⟨_, rfl, .inl ⟨_, rfl, _, 40009, rfl, rfl, (show (40009 : Int) ≠ 0 by decide), _, 7, rfl, rfl, ?_⟩⟩
      refine ⟨_, rfl, _, rfl, b, _, 2, .int (z + 1), rfl, rfl, SqL.of hb1, rfl, _, z + 1, rfl, rfl, _, rfl, b, _, 1, .int y, rfl, rfl, SqL.of hb1, rfl, y, 1000003, rfl, rfl, ⟨by decide, by decide⟩, _, _, rfl, rfl, _, rfl, _, _, rfl, rfl, .inr (b4 _), .inl ⟨_, rfl, _, 2147483629, rfl, rfl, (show (2147483629 : Int) ≠ 0 by decide), ?_⟩⟩
      refine ⟨_, rfl, _, 48271, rfl, rfl, .inr (by decide), _, rfl, _, _, rfl, rfl, .inl ⟨_, rfl, _, 2147483587, rfl, rfl, (show (2147483587 : Int) ≠ 0 by decide), _, 64, rfl, rfl, ⟨by decide, by decide⟩, .inl ⟨_, rfl, _, rfl, _, w, rfl, rfl, hwz, ?_⟩⟩⟩
      exact post _ _ G (wr _) ⟨x, y, z + 1, hb1, hx, hy0, hy1, by omega, by omega⟩ (kN_of (Int.fmod_nonneg_of_pos _ (by omega)) (Int.fmod_lt_of_pos _ (by omega)))
section
variable {P : Program} {w : World} {K : PySem.W.Frag} {mg : Str → Option Value} {base : Heap}
theorem cal_take (B : Bi mg) (F : Fd K mg "_law_take" 37) : Cal P w K mg base 1 "_law_take" ["_law_box_here", "_law_below_so"] sp_l_take :=
  cal_S F sc__law_take (fun _ _ _ _ _ _ us hl => match us, hl with | [_, _], _ => rfl) (spB_len fun ks Pk ⟨_, e, _⟩ => by rw [e]; rfl) (fun f cdv A outer s H E hr => der__law_take B hr) fun vs H Q E h => w_take h
theorem ev_succ {md : Md} {m n r : Nat} {te : TE} {Γ : Env} (h : Ev md m n te Γ (kD (eI r))) : Ev md m n (tOp rAddI te (tC (.int 1))) Γ (kD (.int ((r + 1 : Nat) : Int))) := ev_imp (ev_add h ev_int) fun G v p => p
/-! ### of -/
def R_of (ks : List Kn) (P : Kn) : Prop := ∃ ls : List Kn, ks = [kL ls] ∧ ls ≠ [] ∧ ls.length ≤ 1000 ∧ ∀ k ∈ ls, ∀ G v, k.p G v → P.p G v
abbrev sp_l_of : Sp := spB 1 R_of
theorem ev_up' {md : Md} {m n n' : Nat} {te : TE} {Γ : Env} {P : Kn} (h : Ev md m n te Γ P) (hn : n = n') : Ev md m n' te Γ P := hn ▸ h
theorem ev_ixN {md : Md} {m n k : Nat} {ta tb : TE} {Γ : Env} {P : Kn} {ls : List Kn} (ha : Ev md m n ta Γ (kL ls)) (hb : Ev md n k tb Γ (kN ls.length)) (h : ∀ k ∈ ls, ∀ G v, k.p G v → P.p G v) : Ev md m k (tOp (rIxL K) ta tb) Γ P :=
  ev_op ha hb fun G H x y s jj ⟨a, xs, ea, hs, ax⟩ ⟨r, hr, py⟩ => by
    obtain ⟨v, hv, pv⟩ := AllK.get (i := r) (k := ls[r]) ax (by simp [hr])
    exact Out.val s jj (h _ (List.getElem_mem hr) G v pv) fun Q q => ⟨a, xs, r, v, ea, kD_int.mp py, SqL.of (s _ _ hs), atI_nat hv, q⟩
theorem cal_l_of (B : Bi mg) (c1 : Cal P w K mg base 1 "_law_take" ["_law_box_here", "_law_below_so"] sp_l_take) (F : Fd K mg "_law_of" 39) : Cal P w K mg base 2 "_law_of" ["_law_box_here", "_law_some"] sp_l_of := by
  refine cal_B F sc__law_of (by decide) (fun _ _ _ _ _ _ us hl => match us, hl with | [_, _], _ => rfl) (fun ks Pk ⟨_, e, _⟩ => by rw [e]; rfl) (fun f cdv A outer s H E hr => der__law_of B c1 hr) ?_
  rintro b n ks P ⟨ls, rfl, h1, h2, h3⟩ hn
  exact tr_ret (n := n + 1) (ev_ixN (ev_var rfl) (ev_callB (ea_cons (ev_var rfl) (ea_cons (ev_lenL (ea_cons (ev_var rfl) ea_nil)) ea_nil)) ⟨ls.length, rfl, List.length_pos_iff.mpr h1, h2, rfl⟩ hn) h3) ⟨Nat.le_refl _, rfl⟩
/-! ### mixed -/
def kLN (l : List Nat) : Kn := kL (l.map fun i => kD (eI i))
def R_mixed (ks : List Kn) (P : Kn) : Prop := ∃ l : List Nat, ks = [kLN l] ∧ l.length ≤ 6 ∧ P = kX (fun r : List Nat => r.length = l.length ∧ ∀ x ∈ r, x ∈ l) kLN
abbrev sp_l_mixed : Sp := spB 6 R_mixed
theorem cal_mixed (B : Bi mg) (c1 : Cal P w K mg base 1 "_law_take" ["_law_box_here", "_law_below_so"] sp_l_take) (F : Fd K mg "_law_mixed" 41) : Cal P w K mg base 2 "_law_mixed" ["_law_box_here", "_law_rows_so"] sp_l_mixed := by
  refine cal_B F sc__law_mixed (by decide) (fun _ _ _ _ _ _ us hl => match us, hl with | [_, _], _ => rfl) (fun ks Pk ⟨_, e, _⟩ => by rw [e]; rfl) (fun f cdv A outer s H E hr => der__law_mixed B c1 hr) ?_
  rintro b n ks P ⟨l, rfl, hl, rfl⟩ hn
  refine tr_par2new (P1 := kLN l) (k := bL []) (ev_lstL (ea_cons (ev_var rfl) ea_nil)) new_lst (fun G => ⟨[], rfl, trivial⟩) (of_decide_eq_true rfl) (of_decide_eq_true rfl) fun p => ?_
  refine tr_seq (fun n' Γ' O' => n' ≤ n + 6 ∧ ∃ (fs : List Nat) (r a c : Option Kn), O' = oOb p (bL (fs.map fun i => kD (eI i))) ∧ Γ' = [some (kP b), some (kLN l), r, some (kP p), a, c] ∧ fs.length = l.length ∧ ∀ x ∈ fs, x ∈ l) ?_ ?_
  · refine tr_for (src_range (j := l.length) (ea_cons (ev_imp (ev_lenL (ks := l.map fun i => kD (eI i)) (ea_cons (ev_var rfl) ea_nil)) fun G v h => by rw [List.length_map] at h; exact h) ea_nil) (by omega)) (fun i n' Γ' O' => n' = n + i ∧ ∃ (rs fs : List Nat) (a c : Option Kn), O' = oOb p (bL (fs.map fun i => kD (eI i))) ∧ Γ' = [some (kP b), some (kLN l), some (kLN rs), some (kP p), a, c] ∧ rs.length + i = l.length ∧ fs.length = i ∧ (∀ x ∈ fs, x ∈ l) ∧ ∀ x ∈ rs, x ∈ l) ⟨rfl, l, [], _, _, rfl, rfl, rfl, rfl, (fun _ z => nomatch z), fun _ z => z⟩ ?_ ?_
    · rintro i k n' Γ' O' hk ⟨rfl, rs, fs, a, c, rfl, rfl, h1, h2, h3, h4⟩
      obtain ⟨hi, rfl⟩ := kRange_get hk
      refine ⟨_, _, tgt_name (of_decide_eq_true rfl), tr_set (n := n + i + 1) (P1 := kN rs.length) (ev_callB (ea_cons (ev_var rfl) (ea_cons (ev_imp (ev_lenL (ks := rs.map fun i => kD (eI i)) (ea_cons (ev_var rfl) ea_nil)) fun G v h => by rw [List.length_map] at h; exact h) ea_nil)) ⟨rs.length, rfl, by omega, by omega, rfl⟩ (by omega)) (of_decide_eq_true rfl) ?_⟩
      refine tr_open (i := 5) rfl fun r hr => ?_
      refine tr_app (P1 := kD (eI (rs.getD r 0))) (ev_ixL (ev_var (P := kLN rs) rfl) (ev_var rfl) (getK (d := 0) hr)) rfl (by rw [List.length_map]; omega) ?_
      refine tr_setL (P1 := kLN (rs.take r ++ rs.drop (r + 1))) (ev_imp (ev_cat (ev_slTake (ks := rs.map fun i => kD (eI i)) (ev_var rfl) (ev_var rfl)) (ev_slDrop (z := r + 1) (ks := rs.map fun i => kD (eI i)) (ev_var rfl) (ev_succ (ev_var rfl))) (by simp; omega)) fun G v h => by unfold kLN; rw [List.map_append, List.map_take, List.map_drop]; exact h) (of_decide_eq_true rfl) ⟨rfl, rs.take r ++ rs.drop (r + 1), fs ++ [rs.getD r 0], _, _, by rw [List.map_append]; rfl, rfl, ?_, by simp [h2], fun x hx => ?_, fun x hx => ?_⟩
      · simp only [List.length_append, List.length_take, List.length_drop]; omega
      · rcases List.mem_append.mp hx with hx | hx
        · exact h3 x hx
        · rw [List.mem_singleton.mp hx, List.getD_eq_getElem?_getD, List.getElem?_eq_getElem hr]
          exact h4 _ (List.getElem_mem _)
      · rcases List.mem_append.mp hx with hx | hx
        · exact h4 x (List.mem_of_mem_take hx)
        · exact h4 x (List.mem_of_mem_drop hx)
    · rintro n' Γ' O' ⟨rfl, rs, fs, a, c, rfl, rfl, h1, h2, h3, h4⟩
      rw [kRange_len] at *
      exact ⟨by omega, fs, _, a, c, rfl, rfl, h2, h3⟩
  · rintro n' Γ' O' ⟨hn', fs, r, a, c, rfl, rfl, h2, h3⟩
    exact tr_close (i := 3) (P1 := kLN fs) rfl kL_of (tr_ret (P := kX (fun r : List Nat => r.length = l.length ∧ ∀ x ∈ r, x ∈ l) kLN) (ev_imp (ev_var (i := 3) rfl) fun G v h => ⟨fs, ⟨h2, h3⟩, h⟩) ⟨hn', rfl⟩)
end
end Ll
end

section
set_option Elab.async false
set_option linter.all false
set_option maxRecDepth 100000
set_option maxHeartbeats 400000
/-! Ll: the law's own form of a machine; dicts walked; tags, host, kinds, way, marks, equal. -/
namespace Ll
open PySem PySem.Spec PyProof.Rows L2
def kDt (M : Mc) : Kn := kDic (M.ds.map fun d => (Sum.inr d.1, kD (eRow d.2)))
def kMt (M : Mc) : Kn := kT [kD (eI M.n), kDt M, kSh M.sh]
def kAt (d : Addr) (k : Kn) : Kn := ⟨fun G v => v = .ref d ∧ k.p G v, fun G G' v l h => ⟨h.1, k.mono G G' v l h.2⟩⟩
def kMtA (d : Addr) (M : Mc) : Kn := kT [kD (eI M.n), kAt d (kDt M), kSh M.sh]
theorem dic_map {ι : Type} {xs : List ι} {key : ι → Str} {kf : ι → Kn} (nd : (xs.map key).Nodup) {G : Hp} {v : V} (h : (kDic (xs.map fun d => (Sum.inr (key d), kf d))).p G v) : (kMap xs key kf).p G v := by
  obtain ⟨a, o, ps, e, ha, hc, hk, al⟩ := h
  refine ⟨a, o, ps, e, ha, hc, fun d hd => ?_⟩
  rw [List.map_map] at hk al
  obtain ⟨i, hi, ei⟩ := List.mem_iff_getElem.mp hd
  have exi : xs[i]? = some d := by rw [List.getElem?_eq_getElem hi, ei]
  have hpl : ps.length = xs.length := by have := congrArg List.length hk; simpa using this
  obtain ⟨w, hw, pw⟩ := AllK.get (i := i) (k := kf d) al (by rw [List.getElem?_map, exi]; rfl)
  have hpi : ps[i]? = some ps[i] := by simp [hpl, hi]
  rw [List.getElem?_map, hpi] at hw
  have e2 : ps[i].2 = w := Option.some.inj hw
  have e1 : ps[i].1 = Sum.inr (key d) := by
    have := congrArg (fun l => l[i]?) hk
    simp only [List.getElem?_map, hpi, exi, Option.map_some] at this
    exact Option.some.inj this
  refine ⟨w, ?_, pw⟩
  have nd2 : (ps.map (·.1)).Nodup := by
    rw [hk]
    have : xs.map ((fun x => x.1) ∘ fun d => ((Sum.inr (key d) : L2.Key), kf d)) = (xs.map key).map Sum.inr := by rw [List.map_map]; rfl
    rw [this]
    exact List.Pairwise.map _ (fun a b h z => h (Sum.inr.inj z)) nd
  have := val_nodup nd2 ps[i] (List.getElem_mem _)
  rw [e1, e2] at this
  exact this
theorem dt_map {M : Mc} (o : M.Ok) (G : Hp) (v : V) (h : (kDt M).p G v) : (kMap M.ds (·.1) fun d => kD (eRow d.2)).p G v := dic_map (xs := M.ds) (key := fun d => d.1) (kf := fun d => kD (eRow d.2)) o.nd h
/-! ### a dict that stays as it is while it is walked -/
def mL (md : Md) (d : Addr) (od : Obj) (ps : List (L2.Key × V)) : Md where
  mu := md.mu
  kp := fun a => md.kp a ∨ a = d
  muk := fun a h => .inl (md.muk a h)
  J := fun n H => md.J n H ∧ H d = some (.frz od (.dK ps))
  st := fun n H H' h k => ⟨md.st n H H' h.1 fun a o ha => k a o (.inl ha), k d _ (.inr rfl) h.2⟩
  dom := fun n H a h ha => ha.elim (md.dom n H a h.1) fun e => by rw [e, h.2]; exact fun z => nomatch z
  up := fun n n' H hn h => ⟨md.up n n' H hn h.1, h.2⟩
section
variable {md : Md} {m n k : Nat} {Γ Γ' : Env} {K : PySem.W.Frag} {te td : TE} {P P1 : Kn}
theorem ev_lockQ (hkp : ∀ a, md.kp a → md.mu a) (h : ∀ G H σ, Ctx md m G H σ Γ → ∃ d o ps Γ', G d = some o ∧ core o = .dK ps ∧ EnvOk G σ Γ' ∧ ∀ od, Ev (mL md d od ps) m n te Γ' P) : Ev md m n (tLockQ te) Γ P := fun G H σ c Q q => by
  obtain ⟨d, o, ps, Γ', gd, hc, env, hev⟩ := h G H σ c
  have hd : H d = some o := c.gh _ _ gd
  have nmu : ¬md.mu d := fun z => by have := c.sep d z; rw [gd] at this; cases this
  have nkp : ¬md.kp d := fun z => nmu (hkp d z)
  rcases core_dK hc with rfl | ⟨od, rfl⟩
  · refine .inr ⟨d, .dK ps, hd, trivial, fun od => ?_⟩
    have ne : ∀ {a}, md.kp a → a ≠ d := fun z e => nkp (e ▸ z)
    have l1 : Le G (upd G d (.frz od (.dK ps))) := fun a u e => by
      by_cases z : a = d
      · subst z; rw [gd] at e; cases e; exact ⟨_, upd_same, rfl⟩
      · exact ⟨u, by rw [upd_ne z]; exact e, rfl⟩
    have c1 : Ctx (mL md d od ps) m (upd G d (.frz od (.dK ps))) (upd H d (.frz od (.dK ps))) σ Γ' := by
      refine ⟨fun a u e => ?_, ⟨md.st _ _ _ c.j fun a u ha e => by rw [upd_ne (ne ha)]; exact e, upd_same⟩, fun a ha => ?_, env.mono l1⟩
      · by_cases z : a = d
        · subst z; rw [upd_same] at e ⊢; exact e
        · rw [upd_ne z] at e ⊢; exact c.gh a u e
      · rw [upd_ne (ne (md.muk a ha))]; exact c.sep a ha
    refine hev od _ _ σ c1 _ fun v H2 G2 g2 j2 p2 => ⟨j2.2, ?_⟩
    have g2d : G2 d = some (.frz od (.dK ps)) := g2.gg _ _ upd_same
    have l2 : Le G2 (upd G2 d (.dK ps)) := fun a u e => by
      by_cases z : a = d
      · subst z; rw [g2d] at e; cases e; exact ⟨_, upd_same, rfl⟩
      · exact ⟨u, by rw [upd_ne z]; exact e, rfl⟩
    refine q v (upd H2 d (.dK ps)) (upd G2 d (.dK ps)) ⟨fun a u e => ?_, fun a u e => ?_, fun a u hm e => ?_, fun a ha e => ?_⟩ (md.st _ _ _ j2.1 fun a u ha e => by rw [upd_ne (ne ha)]; exact e) (P.mono _ _ _ l2 p2)
    · by_cases z : a = d
      · subst z; rw [gd] at e; cases e; exact upd_same
      · rw [upd_ne z]; exact g2.gg a u (by rw [upd_ne z]; exact e)
    · by_cases z : a = d
      · subst z; rw [upd_same] at e ⊢; exact e
      · rw [upd_ne z] at e ⊢; exact g2.gh a u e
    · by_cases z : a = d
      · subst z; rw [hd] at e; cases e; exact upd_same
      · rw [upd_ne z]; exact g2.hh a u hm (by rw [upd_ne z]; exact e)
    · have z : a ≠ d := fun z => by rw [z, gd] at e; cases e
      rw [upd_ne z]; exact g2.nw a (by rw [upd_ne z]; exact ha) (by rw [upd_ne z]; exact e)
  · refine .inl ?_
    have c1 : Ctx (mL md d od ps) m G H σ Γ' := ⟨c.gh, ⟨c.j, hd⟩, c.sep, env⟩
    exact hev od G H σ c1 Q fun v H2 G2 g2 j2 p2 => q v H2 G2 g2 j2.1 p2
theorem src_keys {d : Addr} {od : Obj} {ps : List (L2.Key × V)} {keys : List Str} (hJ : ∀ n H, md.J n H → H d = some (.frz od (.dK ps))) (hk : ps.map (·.1) = keys.map Sum.inr) (h : Ev md m n td Γ P1) (hP : ∀ G v, P1.p G v → v = .ref d ∧ ∃ o, G d = some o) :
    Src md m n (iKeys td) Γ (keys.map fun x => kD (.str x)) := fun G H σ c R r =>
  h G H σ c _ fun v H1 G1 g1 j1 p1 => by
    obtain ⟨rfl, o, go⟩ := hP G1 v p1
    have hd := hJ _ _ j1
    have eo : o = .frz od (.dK ps) := by have := g1.gh _ _ go; rw [hd] at this; exact (Option.some.inj this).symm
    subst eo
    have hl : ps.length = keys.length := by have := congrArg List.length hk; simpa using this
    refine ⟨d, od, rfl, .inl ⟨ps, hd, r _ H1 G1 g1 j1 ⟨fun i H x H' => H' = H ∧ ∃ k v, ps[i]? = some (k, v) ∧ x = L2.kV k, ?_, fun i k H x H' Gc hki s1 s2 ⟨e1, kk, w, e2, e3⟩ => ?_⟩⟩⟩
    · rw [List.length_map, ← hl]
      exact walk_keys.mono (fun H s => s _ _ go) fun _ _ _ _ _ _ y => y
    · subst e1
      refine ⟨Gc, Gr.refl s2, ?_⟩
      have := congrArg (fun l => l[i]?) hk
      simp only [List.getElem?_map, e2, Option.map_some] at this
      rw [List.getElem?_map] at hki
      cases q : keys[i]? with
      | none => rw [q] at hki; cases hki
      | some y =>
        rw [q] at hki this
        cases hki
        have : kk = Sum.inr y := Option.some.inj this
        subst this
        rw [e3]; exact .str y
theorem src_tupSq {l : List Int} (h : Ev md m n te Γ (kSq l)) : Src md m n (iTup K te) Γ (l.map fun i => kD (.int i)) := fun G H σ c R r =>
  h G H σ c _ fun v H1 G1 g1 j1 ⟨a, e, hr⟩ => ⟨a, e, ⟨_, .inl (rd_same g1.gh hr)⟩, r _ H1 G1 g1 j1 (wk_seq (fun H _ => (walk_tup (K := K) (a := a) (xs := l.map V.int)).mono (fun H s => .inl (rd_same s hr)) fun _ _ _ _ _ _ y => y) allK_ofI)⟩
theorem tgt_three {i j l : Nat} {k1 k2 k3 : Kn} (hi : i < Γ.length) (hj : j < Γ.length) (hl : l < Γ.length) : Tgt (gTup K 3 (gCons (gName i) (gCons (gName j) (gCons (gName l) gNil)))) (kT [k1, k2, k3]) Γ (((Γ.set i (some k1)).set j (some k2)).set l (some k3)) [i, j, l] := fun G H σ x s e p R r => by
  obtain ⟨a, vs, rfl, hs, ax⟩ := p
  match vs, ax with
  | [v1, v2, v3], ⟨p1, p2, p3, _⟩ =>
    refine ⟨a, _, rfl, SqT.of (s _ _ hs), rfl, v1, [v2, v3], rfl, v2, [v3], rfl, v3, [], rfl, rfl, r _ (((e.set i hi p1).set j (by rw [List.length_set]; exact hj) p2).set l (by rw [List.length_set, List.length_set]; exact hl) p3) (by rw [List.length_set, List.length_set, List.length_set]) fun z hz => ?_⟩
    have n1 : i ≠ z := fun q => hz (by simp [q])
    have n2 : j ≠ z := fun q => hz (by simp [q])
    have n3 : l ≠ z := fun q => hz (by simp [q])
    rw [List.getElem?_set_ne n3, List.getElem?_set_ne n2, List.getElem?_set_ne n1]
end
theorem dt_at {M : Mc} {G : Hp} {v : V} (h : (kDt M).p G v) : ∃ d o ps, v = .ref d ∧ G d = some o ∧ core o = .dK ps ∧ ps.map (·.1) = M.nms.map (Sum.inr : Str → L2.Key) := by
  obtain ⟨a, o, ps, e, ha, hc, hk, _⟩ := h
  refine ⟨a, o, ps, e, ha, hc, ?_⟩
  rw [hk]
  unfold Mc.nms
  rw [List.map_map, List.map_map]; rfl
theorem at_ok {d : Addr} {M : Mc} (G : Hp) (v : V) (h : (kAt d (kDt M)).p G v) : v = .ref d ∧ ∃ o, G d = some o := by
  obtain ⟨e, h⟩ := h
  obtain ⟨d', o, ps, e', ho, _⟩ := dt_at h
  rw [e] at e'
  cases e'
  exact ⟨e, o, ho⟩
theorem mt_at {M : Mc} {G : Hp} {v : V} (h : (kMt M).p G v) : ∃ d o ps, G d = some o ∧ core o = .dK ps ∧ ps.map (·.1) = M.nms.map (Sum.inr : Str → L2.Key) ∧ (kMtA d M).p G v := by
  obtain ⟨a, vs, e, hs, ax⟩ := h
  cases vs with
  | nil => exact ax.elim
  | cons v1 vs => cases vs with
    | nil => exact ax.2.elim
    | cons v2 vs => cases vs with
      | nil => exact ax.2.2.elim
      | cons v3 vs =>
        obtain ⟨d, o, ps, e2, ho, hc, hk⟩ := dt_at ax.2.1
        exact ⟨d, o, ps, ho, hc, hk, a, _, e, hs, ax.1, ⟨e2, ax.2.1⟩, ax.2.2⟩
/-- slot i's machine, its dict by address -/
theorem open_mt {md : Md} {m i : Nat} {Γ : Env} {M : Mc} (hi : Γ[i]? = some (some (kMt M))) {G H : Hp} {σ : L2.St} (c : Ctx md m G H σ Γ) : ∃ d o ps, G d = some o ∧ core o = .dK ps ∧ ps.map (·.1) = M.nms.map (Sum.inr : Str → L2.Key) ∧ EnvOk G σ (Γ.set i (some (kMtA d M))) := by
  obtain ⟨v, hv, hp⟩ := c.env.get i (kMt M) hi
  obtain ⟨d, o, ps, ho, hc, hk, hq⟩ := mt_at hp
  exact ⟨d, o, ps, ho, hc, hk, c.env.put hv hq⟩
theorem open_dt {md : Md} {m i : Nat} {Γ : Env} {M : Mc} (hi : Γ[i]? = some (some (kDt M))) {G H : Hp} {σ : L2.St} (c : Ctx md m G H σ Γ) : ∃ d o ps, G d = some o ∧ core o = .dK ps ∧ ps.map (·.1) = M.nms.map (Sum.inr : Str → L2.Key) ∧ EnvOk G σ (Γ.set i (some (kAt d (kDt M)))) := by
  obtain ⟨v, hv, p⟩ := c.env.get i _ hi
  obtain ⟨d, o, ps, e2, ho, hc, hk⟩ := dt_at p
  exact ⟨d, o, ps, ho, hc, hk, c.env.put hv ⟨e2, p⟩⟩
theorem ev_str1 {md : Md} {m n : Nat} {Γ : Env} {t : TA} {x : Str} (h : EvA md m n t Γ [kD (.str x)]) : Ev md m n (tCB cStr t) Γ (kD (.str x)) :=
  ev_cb1 h fun G H v s jj p => Out.val s jj (.str x) fun Q q => ⟨x, by rw [kD_str.mp p], q⟩
def kTags (M : Mc) : Kn := kX (fun es : List Str => es.Perm M.nms) fun es => kD (eW es)
def R_tags (ks : List Kn) (P : Kn) : Prop := ∃ M, Mc.Ok M ∧ ks = [kMt M] ∧ P = kTags M
def R_host (C : Addr) (ks : List Kn) (P : Kn) : Prop := ∃ M, Mc.Ok M ∧ ks = [kMt M] ∧ P = kX (Mc.Nm M) fun nm => kMac C M nm
def R_lkinds (ks : List Kn) (P : Kn) : Prop := ∃ M, Mc.Ok M ∧ ks = [kMt M] ∧ P = kLN M.marks
theorem nms_len {M : Mc} : M.nms.length = M.ds.length := List.length_map _
/-- the item at a place of a list, its places told one by one -/
def rowL (M : Mc) (μ : List Nat) (i : Nat) : PyData := .tuple [eI (μ.getD i 0), .list (M.ds.map fun d => eI (μ.getD (d.2.getD i 0) 0))]
theorem eqv_rowL {M : Mc} {μ : List Nat} (j i : Nat) : PyData.eqv (rowL M μ j) (rowL M μ i) = agree M.rows μ j i := by
  have n2 : ∀ i, nbs (M.ds.map fun d => eI (μ.getD (d.2.getD i 0) 0)) = true := fun i => by
    have : (M.ds.map fun d => eI (μ.getD (d.2.getD i 0) 0)) = (M.ds.map fun d => μ.getD (d.2.getD i 0) 0).map eI := by rw [List.map_map]; rfl
    rw [this]; exact nb_ints
  have n1 : ∀ i, nb (rowL M μ i) = true := fun i => by
    show (true && (nbs _ && true)) = true
    rw [n2]; rfl
  rw [Bool.eq_iff_iff, eqv_iff _ _ (n1 j) (n1 i), agree_iff]
  unfold rowL Mc.rows
  simp only [PyData.tuple.injEq, List.cons.injEq, PyData.list.injEq, and_true]
  constructor
  · rintro ⟨h1, h2⟩
    refine ⟨eI_inj h1, fun r hr => ?_⟩
    obtain ⟨d, hd, rfl⟩ := List.mem_map.mp hr
    exact eI_inj (List.map_inj_left.mp h2 d hd)
  · rintro ⟨h1, h2⟩
    exact ⟨by rw [h1], List.map_inj_left.mpr fun d hd => by rw [h2 d.2 (List.mem_map.mpr ⟨d, hd, rfl⟩)]⟩
theorem sh_rowL {M : Mc} {μ : List Nat} {i : Nat} : Sh 60 (rowL M μ i) := by
  refine (sh_tup (n := 1) fun d hd => ?_).mono (by decide)
  rcases List.mem_cons.mp hd with rfl | hd
  · exact sh_eI
  · rw [List.mem_singleton.mp hd]
    exact sh_list (n := 0) fun d hd => by obtain ⟨r, _, rfl⟩ := List.mem_map.mp hd; exact sh_eI
theorem findIdx_first {l : List Int} {z : Int} (h : z ∈ l) : l[l.findIdx fun y => decide (y = z)]? = some z ∧ ∀ m, m < (l.findIdx fun y => decide (y = z)) → l[m]? ≠ some z := by
  have hl : (l.findIdx fun y => decide (y = z)) < l.length := by rw [List.findIdx_lt_length]; exact ⟨z, h, by simp⟩
  refine ⟨?_, fun m hm e => ?_⟩
  · have := List.findIdx_getElem (p := fun y => decide (y = z)) (w := hl)
    rw [List.getElem?_eq_getElem hl]
    simpa using this
  · have := List.not_of_lt_findIdx hm
    have hm' : m < l.length := Nat.lt_trans hm hl
    rw [List.getElem?_eq_getElem hm'] at e
    rw [Option.some.inj e] at this
    simp at this
section
variable {P : Program} {w : World} {K : PySem.W.Frag} {mg : Str → Option Value} {base : Heap} {C : Addr}
theorem m0_kp : ∀ a, M0.kp a → M0.mu a := fun _ h => h
theorem cal_tags (B : Bi mg) (F : Fd K mg "_law_tags" 51) : Cal P w K mg base 1 "_law_tags" ["_law_mat"] (spQ R_tags) := by
  refine cal_Q F sc__law_tags (by decide) (fun _ _ _ _ _ _ us hl => match us, hl with | [_], _ => rfl) (fun ks Pk ⟨_, _, e, _⟩ => by rw [e]; rfl) (fun f cdv A outer s H E hr => der__law_tags B hr) ?_
  rintro ks Pk ⟨M, o, rfl, rfl⟩
  have hd8 := o.d8
  have hnl := nms_len (M := M)
  have key : Ev M0 0 0 (tLockQ (tLc (iKeys (tOp (rIxT K) (tVar 0) (tC (.int 1)))) (gName 1) tYes (tCB cStr (tCons (tVar 1) tNil)) [1])) [some (kMt M), none] (kL (M.nms.map fun x => kD (.str x))) := by
    refine ev_lockQ m0_kp fun G H σ c => ?_
    obtain ⟨d, o', ps, h1, h2, h3, h4⟩ := open_mt (i := 0) (M := M) rfl c
    refine ⟨d, o', ps, _, h1, h2, h4, fun od => ?_⟩
    exact ev_lcX (xs := M.nms) (pf := fun x => kD (.str x)) (src_keys (fun n H j => j.2) h3 (ev_ixT (j := 1) (ev_var rfl) ev_int rfl) at_ok) (by omega) (fun x => [some (kMtA d M), some (kD (.str x))]) (fun x => tgt_name (of_decide_eq_true rfl)) fun x _ => ev_str1 (ea_cons (ev_var rfl) ea_nil)
  exact .inl (tr_ret (P := kTags M) (ev_imp (ev_tupX (ea_cons (ev_sortedS (ea_cons key ea_nil) (by omega)) ea_nil)) fun G v ⟨es, pe, h⟩ => ⟨es, pe, kD_tup.mpr (by rw [List.map_map]; exact h)⟩) ⟨rfl, rfl⟩)
theorem cal_host (B : Bi mg) (c : Cls K C) (k1 : Mak P w K mg base 3 C "Machine" ["self", "many", "deeds", "shows"] [] (spI C R_mac)) (F : Fd K mg "_law_host" 52) : Cal P w K mg base 5 "_law_host" ["_law_mat"] (spQ (R_host C)) := by
  refine cal_Q F sc__law_host (by decide) (fun _ _ _ _ _ _ us hl => match us, hl with | [_], _ => rfl) (fun ks Pk ⟨_, _, e, _⟩ => by rw [e]; rfl) (fun f cdv A outer s H E hr => der__law_host B c k1 hr) ?_
  rintro ks Pk ⟨M, o, rfl, rfl⟩
  have hd8 := o.d8
  have key : Ev M0 0 0 (tLockQ (tLc (iKeys (tOp (rIxT K) (tVar 0) (tC (.int 1)))) (gName 1) tYes (tTup (tCons (tVar 1) (tCons (tDGet (tOp (rIxT K) (tVar 0) (tC (.int 1))) (tVar 1)) tNil))) [1])) [some (kMt M), none] (kL (M.ds.map kDeed)) := by
    refine ev_lockQ m0_kp fun G H σ c => ?_
    obtain ⟨d, o', ps, h1, h2, h3, h4⟩ := open_mt (i := 0) (M := M) rfl c
    refine ⟨d, o', ps, _, h1, h2, h4, fun od => ?_⟩
    refine ev_lcX (xs := M.ds) (kf := fun d => kD (.str d.1)) (pf := kDeed) (by
      have := src_keys (md := mL M0 d od ps) (m := 0) (n := 0) (Γ := [some (kMtA d M), none]) (keys := M.nms) (fun n H j => j.2) h3 (ev_ixT (K := K) (j := 1) (ev_var (i := 0) rfl) ev_int rfl) at_ok
      unfold Mc.nms at this
      rw [List.map_map] at this
      exact this) (by omega) (fun q => [some (kMtA d M), some (kD (.str q.1))]) (fun x => tgt_name (of_decide_eq_true rfl)) fun q hq => ?_
    refine ev_tup (ea_cons (ev_var rfl) (ea_cons ?_ ea_nil)) (by simp)
    have hm : Ev (mL M0 d od ps) 0 0 (tOp (rIxT K) (tVar 0) (tC (.int 1))) [some (kMtA d M), some (kD (.str q.1))] (kMap M.ds (·.1) fun d => kD (eRow d.2)) := ev_imp (ev_ixT (P := kAt d (kDt M)) (j := 1) (ev_var (i := 0) rfl) ev_int rfl) fun G v h => dt_map o G v h.2
    exact ev_map (dom := M.ds) (key := fun d => d.1) (kf := fun d => kD (eRow d.2)) (x := q) hm (ev_var rfl) hq
  refine .inl (tr_ret (ev_imp (ev_make (C := C) (R := R_mac) (no := ["mark"]) (dks := []) (ks := [kD (eI M.n), kT (M.ds.map kDeed), kSq M.sh]) (fs := fsM M) (ea_cons (ev_ixT (j := 0) (ev_var (i := 0) rfl) ev_int rfl) (ea_cons (ev_tupL (ea_cons key ea_nil)) (ea_cons (ev_imp (ev_ixT (P := kSh M.sh) (j := 2) (ev_var (i := 0) rfl) ev_int rfl) kSh_Sq) ea_nil))) (fun G => trivial) ⟨M, o, ⟨_, _, rfl, .inr rfl, .inl rfl⟩, rfl⟩ fun m hm => ?_) fun G v h => kMac_of o h) ⟨rfl, rfl⟩)
  rw [List.mem_singleton.mp hm]
  simp [fsM]; decide
theorem cal_lkinds (B : Bi mg) (F : Fd K mg "_law_kinds" 53) : Cal P w K mg base 1 "_law_kinds" ["_law_mat"] (spQ R_lkinds) := by
  refine cal_Q F sc__law_kinds (by decide) (fun _ _ _ _ _ _ us hl => match us, hl with | [_], _ => rfl) (fun ks Pk ⟨_, _, e, _⟩ => by rw [e]; rfl) (fun f cdv A outer s H E hr => der__law_kinds B hr) ?_
  rintro ks Pk ⟨M, o, rfl, rfl⟩
  have hd8 := o.d8
  have hn6 := o.n6
  have hn1 := o.n1
  have hsl := o.sl
  left
  refine tr_asg (P1 := kMt M) (ev_var rfl) (tgt_three (of_decide_eq_true rfl) (of_decide_eq_true rfl) (of_decide_eq_true rfl)) ?_
  have esh : M.sh.map (fun i => kD (.int i)) = (List.range M.n).map fun i => kD (.int (M.sh.getD i 0)) := by
    conv => lhs; rw [map_getD 0 hsl]
    rw [List.map_map]; rfl
  refine tr_set (P1 := kLN (mk0 M.n M.sh)) (ev_imp (ev_lcX (xs := List.range M.n) (kf := fun i => kD (.int (M.sh.getD i 0))) (pf := fun i => kD (eI (fst1 M.n (fun j i => decide (M.sh.getD j 0 = M.sh.getD i 0)) i))) (by rw [← esh]; exact src_tupSq (ev_imp (ev_var (i := 3) rfl) kSh_Sq)) (by simp; omega)
    (fun i => [some (kMt M), some (kD (eI M.n)), some (kDt M), some (kSh M.sh), none, none, none, none, some (kD (.int (M.sh.getD i 0)))]) (fun i => tgt_name (of_decide_eq_true rfl)) fun i hi => ?_) fun G v h => by unfold kLN mk0; rw [List.map_map]; exact h) (of_decide_eq_true rfl) ?_
  · intro G H σ c Q q
    obtain ⟨v, hv, a, ob, ev', ha, hdn⟩ := c.env.get 3 (kSh M.sh) rfl
    subst ev'
    obtain ⟨v8, hv8, p8⟩ := c.env.get 8 (kD (.int (M.sh.getD i 0))) rfl
    have e8 := kD_int.mp p8
    subst e8
    have hi' : i < M.n := List.mem_range.mp hi
    have hm : M.sh.getD i 0 ∈ M.sh := by
      rw [List.getD_eq_getElem?_getD, List.getElem?_eq_getElem (by omega)]; exact List.getElem_mem _
    obtain ⟨f1, f2⟩ := findIdx_first hm
    refine ⟨_, hv, ⟨a, ob, _, rfl, c.gh _ _ ha, hdn⟩, _, hv8, a, M.sh, _, _, rfl, rfl, .inl (.inr ⟨ob, c.gh _ _ ha⟩), f1, f2, ?_⟩
    have e : (M.sh.findIdx fun y => decide (y = M.sh.getD i 0)) = fst1 M.n (fun j i => decide (M.sh.getD j 0 = M.sh.getD i 0)) i := by
      unfold fst1
      have : M.sh = (List.range M.n).map fun i => M.sh.getD i 0 := map_getD 0 hsl
      conv => lhs; arg 2; rw [this]
      rw [List.findIdx_map]; rfl
    rw [e]
    exact q _ H G (Gr.refl c.gh) c.j (.int _)
  refine tr_seq (fun n' Γ' O' => n' = 0 ∧ O' = o0 ∧ Γ'[4]? = some (some (kLN M.marks))) ?_ ?_
  · refine tr_for (src_range (j := M.n) (ea_cons (ev_var rfl) ea_nil) (by omega)) (fun i n' Γ' O' => n' = 0 ∧ O' = o0 ∧ ∃ a b c, Γ' = [some (kMt M), some (kD (eI M.n)), some (kDt M), some (kSh M.sh), some (kLN (itr M.n M.rows i (mk0 M.n M.sh))), a, b, c, none]) ⟨rfl, rfl, _, _, _, rfl⟩ ?_ ?_
    · rintro i k n' Γ' O' hk ⟨rfl, rfl, a, b, c, rfl⟩
      obtain ⟨hi, rfl⟩ := kRange_get hk
      generalize eμ : itr M.n M.rows i (mk0 M.n M.sh) = μ
      have hμl : μ.length = M.n := by rw [← eμ]; exact (itr_canon i mk0_canon).len
      refine ⟨_, _, tgt_name (of_decide_eq_true rfl), tr_new (k := bL []) new_lst (fun G => ⟨[], rfl, trivial⟩) (of_decide_eq_true rfl) fun p => ?_⟩
      refine tr_seq (fun n' Γ' O' => n' = 0 ∧ O' = oOb p (bL ((List.range M.n).map fun i => kD (rowL M μ i))) ∧ ∃ a c, Γ' = [some (kMt M), some (kD (eI M.n)), some (kDt M), some (kSh M.sh), some (kLN μ), a, some (kP p), c, none]) ?_ ?_
      · refine tr_for (src_range (j := M.n) (ea_cons (ev_var rfl) ea_nil) (by omega)) (fun j n' Γ' O' => n' = 0 ∧ O' = oOb p (bL ((List.range j).map fun i => kD (rowL M μ i))) ∧ ∃ a c, Γ' = [some (kMt M), some (kD (eI M.n)), some (kDt M), some (kSh M.sh), some (kLN μ), a, some (kP p), c, none]) ⟨rfl, rfl, _, _, rfl⟩ ?_ ?_
        · rintro j k n' Γ' O' hk ⟨rfl, rfl, a, c, rfl⟩
          obtain ⟨hj, rfl⟩ := kRange_get hk
          refine ⟨_, _, tgt_name (of_decide_eq_true rfl), tr_appL (P1 := kD (rowL M μ j)) (ev_ofT (ds := [eI (μ.getD j 0), .list (M.ds.map fun d => eI (μ.getD (d.2.getD j 0) 0))]) (ev_tup (ea_cons (ev_ixL (ev_var (P := kLN μ) rfl) (ev_var rfl) (getK (d := 0) (by omega))) (ea_cons (ev_listD (f := fun d : Str × List Nat => eI (μ.getD (d.2.getD j 0) 0)) ?_) ea_nil)) (by simp))) rfl (by simp; omega) ⟨rfl, ?_, _, _, rfl⟩⟩
          · refine ev_lockQ m0_kp fun G H σ c => ?_
            obtain ⟨d, o', ps, h1, h2, h3, h4⟩ := open_dt (i := 2) (M := M) rfl c
            refine ⟨d, o', ps, _, h1, h2, h4, fun od => ?_⟩
            refine ev_lcX (xs := M.ds) (kf := fun d => kD (.str d.1)) (pf := fun d => kD (eI (μ.getD (d.2.getD j 0) 0))) (js := [8]) (g := gName 8) (vs := [8]) (by
              have := src_keys (md := mL M0 d od ps) (m := 0) (n := 0) (Γ := [some (kMt M), some (kD (eI M.n)), some (kAt d (kDt M)), some (kSh M.sh), some (kLN μ), a, some (kP p), some (kD (eI j)), none]) (keys := M.nms) (fun n H j => j.2) h3 (ev_var (i := 2) rfl) at_ok
              unfold Mc.nms at this
              rw [List.map_map] at this
              exact this) (by omega) (fun q => [some (kMt M), some (kD (eI M.n)), some (kAt d (kDt M)), some (kSh M.sh), some (kLN μ), a, some (kP p), some (kD (eI j)), some (kD (.str q.1))]) (fun x => tgt_name (of_decide_eq_true rfl)) fun q hq => ?_
            have hm : Ev (mL M0 d od ps) 0 0 (tVar 2) [some (kMt M), some (kD (eI M.n)), some (kAt d (kDt M)), some (kSh M.sh), some (kLN μ), a, some (kP p), some (kD (eI j)), some (kD (.str q.1))] (kMap M.ds (·.1) fun d => kD (eRow d.2)) := ev_imp (ev_var (i := 2) rfl) fun G v h => dt_map o G v h.2
            have hrw := o.rw q hq
            exact ev_ixL (ev_var (i := 4) (P := kLN μ) rfl) (ev_ixT (ev_Dtup (f := eI) (ev_map (dom := M.ds) (key := fun d => d.1) (kf := fun d => kD (eRow d.2)) (x := q) hm (ev_var (i := 8) rfl) hq)) (ev_var (i := 7) rfl) (getK (d := 0) (by omega))) (getK (d := 0) (by rw [hμl]; exact getD_lt hrw.2 hn1 j))
          · rw [List.range_succ, List.map_append]; rfl
        · rintro n' Γ' O' h
          rw [kRange_len] at h
          exact h
      · rintro n' Γ' O' ⟨rfl, rfl, a, c, rfl⟩
        refine tr_close (i := 6) (P1 := kL ((List.range M.n).map fun i => kD (rowL M μ i))) rfl kL_of ?_
        refine tr_setL (P1 := kLN (stp M.n M.rows μ)) (ev_imp (ev_lcX (xs := List.range M.n) (kf := fun i => kD (rowL M μ i)) (pf := fun i => kD (.int (ixD ((List.range M.n).map (rowL M μ)) (rowL M μ i) : Nat))) (src_list (ev_var rfl)) (by simp; omega)
          (fun i => [some (kMt M), some (kD (eI M.n)), some (kDt M), some (kSh M.sh), some (kLN μ), a, some (kL ((List.range M.n).map fun i => kD (rowL M μ i))), c, some (kD (rowL M μ i))]) (fun i => tgt_name (of_decide_eq_true rfl)) fun i hi => ev_index (ev_listD (f := rowL M μ) (ev_var rfl)) (ev_var rfl) (fun e he => by obtain ⟨j, _, rfl⟩ := List.mem_map.mp he; exact sh_rowL) (List.mem_map.mpr ⟨i, hi, rfl⟩)) fun G v h => ?_) (of_decide_eq_true rfl) ⟨rfl, rfl, a, some (kL ((List.range M.n).map fun i => kD (rowL M μ i))), c, ?_⟩
        · have e := firsts_map (n := M.n) (f := rowL M μ) (e := agree M.rows μ) eqv_rowL
          have h2 : (kD (.list (((List.range M.n).map (rowL M μ)).map fun d => PyData.int (ixD ((List.range M.n).map (rowL M μ)) d : Nat)))).p G v := kD_list.mpr (by rw [List.map_map, List.map_map]; exact h)
          rw [e] at h2
          have h3 := kD_list.mp h2
          unfold kLN stp
          rw [List.map_map] at h3
          exact h3
        · rw [itr_add M.n M.rows i 1, eμ]; rfl
    · rintro n' Γ' O' ⟨rfl, rfl, a, b, c, rfl⟩
      rw [kRange_len]
      exact ⟨rfl, rfl, rfl⟩
  · rintro n' Γ' O' ⟨rfl, rfl, h⟩
    exact tr_ret (ev_var h) ⟨rfl, rfl⟩
end
end Ll
end

section
set_option Elab.async false
set_option linter.all false
set_option maxRecDepth 100000
set_option maxHeartbeats 400000
/-! Ll: the law's way, marks, equal, log. -/
namespace Ll
open PySem PySem.Spec PyProof.Rows L2
def R_lway (ks : List Kn) (P : Kn) : Prop := ∃ M s v, Mc.Ok M ∧ ks = [kMt M, kD (eI s), kD (eW v)] ∧ s < M.n ∧ (∀ a ∈ v, a ∈ M.nms) ∧ P = kWay M v s
def R_lmarks (ks : List Kn) (P : Kn) : Prop := ∃ M v, Mc.Ok M ∧ ks = [kMt M, kD (eW v)] ∧ (∀ a ∈ v, a ∈ M.nms) ∧ P = kD (.list ((List.range M.n).map fun s => tupM (M.mu (M.run v s))))
def R_lequal (ks : List Kn) (P : Kn) : Prop := ∃ M v u, Mc.Ok M ∧ ks = [kMt M, kD (eW v), kD (eW u)] ∧ (∀ a ∈ v, a ∈ M.nms) ∧ (∀ a ∈ u, a ∈ M.nms) ∧ P = kD (.bool (decide (∀ s, s < M.n → M.mu (M.run v s) = M.mu (M.run u s))))
section
variable {md : Md} {m n : Nat} {Γ : Env} {K : PySem.W.Frag} {te : TE}
theorem ev_mtD {M : Mc} (o : M.Ok) (h : Ev md m n te Γ (kMt M)) : Ev md m n (tOp (rIxT K) te (tC (.int 1))) Γ (kMap M.ds (·.1) fun d => kD (eRow d.2)) :=
  ev_imp (ev_ixT (P := kDt M) (j := 1) h ev_int rfl) (dt_map o)
/-- a deed's row, by its name -/
theorem ev_mrow {M : Mc} (o : M.Ok) {td ty : TE} {k : Nat} {a : Str} (hd : Ev md m n td Γ (kMap M.ds (·.1) fun d => kD (eRow d.2))) (hy : Ev md n k ty Γ (kD (.str a))) (ha : a ∈ M.nms) : Ev md m k (tDGet td ty) Γ (kD (eRow (M.row a))) := by
  obtain ⟨d, hd', e1, e2⟩ := o.of_nm ha
  rw [e2]
  subst e1
  exact ev_map (dom := M.ds) (key := fun d => d.1) (kf := fun d => kD (eRow d.2)) (x := d) hd hy hd'
end
section
variable {P : Program} {w : World} {K : PySem.W.Frag} {mg : Str → Option Value} {base : Heap}
theorem cal_lway (B : Bi mg) (F : Fd K mg "_law_way" 54) : Cal P w K mg base 1 "_law_way" ["_law_mat", "_law_state_so", "_law_log_so"] (spQ R_lway) := by
  refine cal_Q F sc__law_way (by decide) (fun _ _ _ _ _ _ us hl => match us, hl with | [_, _, _], _ => rfl) (fun ks Pk ⟨_, _, _, _, e, _⟩ => by rw [e]; rfl) (fun f cdv A outer s H E hr => der__law_way B hr) ?_
  rintro ks Pk ⟨M, s, v, o, rfl, hs, hv, rfl⟩
  refine .inl (tr_par (P2 := kD (.tuple [])) (ea_cons (ev_var rfl) (ea_cons (ev_ofT (ds := []) (ev_tup ea_nil (by simp))) ea_nil)) (of_decide_eq_true rfl) (of_decide_eq_true rfl) ?_)
  refine tr_seq (fun n' Γ' O' => n' = 0 ∧ O' = o0 ∧ ∃ a, Γ' = [some (kMt M), some (kD (eI s)), some (kD (eW v)), some (kD (eI (M.run v s))), some (kD (.tuple [])), a])
    (tr_for (src_tup (ev_Dtup (xs := v) (f := .str) (ev_var rfl))) (fun i n' Γ' O' => n' = 0 ∧ O' = o0 ∧ ∃ a, Γ' = [some (kMt M), some (kD (eI s)), some (kD (eW v)), some (kD (eI (M.run (v.take i) s))), some (kD (.tuple [])), a]) ⟨rfl, rfl, _, rfl⟩ ?_ fun n' Γ' O' ⟨e1, e2, a, e3⟩ => ⟨e1, e2, a, ?_⟩) ?_
  · rintro i k n' Γ' O' hk ⟨rfl, rfl, a, rfl⟩
    rw [List.getElem?_map] at hk
    cases q : v[i]? with
    | none => rw [q] at hk; cases hk
    | some x =>
      rw [q] at hk; cases hk
      have hx : x ∈ M.nms := hv x (List.mem_of_getElem? q)
      have hr : M.run (v.take i) s < M.n := run_lt o (fun y hy => hv y (List.mem_of_mem_take hy)) hs
      refine ⟨_, _, tgt_name (of_decide_eq_true rfl), tr_if (et_test (ev_eqS (ev_var rfl) ev_str)) (fun e => tr_abs ?_) fun _ => tr_setL (P1 := kD (eI (M.mv x (M.run (v.take i) s)))) (ev_ixT (ev_Dtup (f := eI) (ev_mrow o (ev_mtD o (ev_var rfl)) (ev_var rfl) hx)) (ev_var rfl) (getK (d := 0) (by rw [(o.row_len hx).1]; exact hr))) (of_decide_eq_true rfl) ⟨rfl, rfl, some (kD (.str x)), ?_⟩⟩
      · have := (o.ltn hx).ne
        simp [this] at e
      · rw [take_snoc q, run_snoc]; rfl
  · rw [List.length_map, List.take_of_length_le (Nat.le_refl _)] at e3
    exact e3
  · rintro n' Γ' O' ⟨rfl, rfl, a, rfl⟩
    exact tr_ret (P := kWay M v s) (ev_tup (ea_cons (ev_var rfl) (ea_cons (ev_var rfl) ea_nil)) (by simp)) ⟨rfl, rfl⟩
theorem cal_lmarks (B : Bi mg) (c1 : Cal P w K mg base 1 "_law_kinds" ["_law_mat"] (spQ R_lkinds)) (c2 : Cal P w K mg base 1 "_law_way" ["_law_mat", "_law_state_so", "_law_log_so"] (spQ R_lway)) (F : Fd K mg "_law_marks" 55) : Cal P w K mg base 2 "_law_marks" ["_law_mat", "_law_log_so"] (spQ R_lmarks) := by
  refine cal_Q F sc__law_marks (by decide) (fun _ _ _ _ _ _ us hl => match us, hl with | [_, _], _ => rfl) (fun ks Pk ⟨_, _, _, e, _⟩ => by rw [e]; rfl) (fun f cdv A outer s H E hr => der__law_marks B c1 c2 hr) ?_
  rintro ks Pk ⟨M, v, o, rfl, hv, rfl⟩
  have hn := o.n6
  refine .inl (tr_set (P1 := kLN M.marks) (ev_callQ (ea_cons (ev_var rfl) ea_nil) ⟨M, o, rfl, rfl⟩) (of_decide_eq_true rfl) ?_)
  refine tr_set (ev_lcX (xs := List.range M.n) (pf := fun s => kWay M v s) (src_range (ea_cons (ev_ixT (P := kD (eI M.n)) (j := 0) (ev_var (P := kMt M) rfl) ev_int rfl) ea_nil) (by omega)) (by simp; omega) (fun s => [some (kMt M), some (kD (eW v)), some (kLN M.marks), none, some (kD (eI s)), none, none]) (fun s => tgt_name (of_decide_eq_true rfl)) fun s hs => ev_callQ (ea_cons (ev_var rfl) (ea_cons (ev_var rfl) (ea_cons (ev_var rfl) ea_nil))) ⟨M, s, v, o, rfl, List.mem_range.mp hs, hv, rfl⟩) (of_decide_eq_true rfl) ?_
  refine tr_ret (ev_listD (ev_lcX (xs := List.range M.n) (kf := fun s => kWay M v s) (src_list (ev_var rfl)) (by simp; omega) (fun s => [some (kMt M), some (kD (eW v)), some (kLN M.marks), some (kL ((List.range M.n).map fun s => kWay M v s)), none, some (kD (.tuple [])), some (kD (eI (M.run v s)))]) (fun s => tgt_two (of_decide_eq_true rfl) (of_decide_eq_true rfl)) fun s hs => ?_)) ⟨rfl, rfl⟩
  exact ev_ofT (ds := [.tuple [], eI (M.mu (M.run v s))]) (ev_tup (ea_cons (ev_var rfl) (ea_cons (ev_ixL (ev_var (P := kLN M.marks) rfl) (ev_var rfl) (getK (d := 0) (by rw [marks_len]; exact run_lt o hv (List.mem_range.mp hs)))) ea_nil)) (by simp))
theorem eqv_marks {n : Nat} {f g : Nat → Nat} : PyData.eqv (.list ((List.range n).map fun s => tupM (f s))) (.list ((List.range n).map fun s => tupM (g s))) = decide (∀ s, s < n → f s = g s) := by
  have nb1 : ∀ f : Nat → Nat, nb (.list ((List.range n).map fun s => tupM (f s))) = true := fun f => by
    show nbs _ = true
    have : ∀ l : List Nat, nbs (l.map fun s => tupM (f s)) = true := fun l => by
      induction l with
      | nil => rfl
      | cons a l ih => show (nb (tupM (f a)) && nbs (l.map fun s => tupM (f s))) = true; rw [ih]; simp [tupM, nb, nbs, eI]
    exact this _
  rw [Bool.eq_iff_iff, eqv_iff _ _ (nb1 f) (nb1 g), decide_eq_true_iff]
  simp only [PyData.list.injEq]
  rw [List.map_inj_left]
  have inj : ∀ a b, tupM a = tupM b → a = b := fun a b e => by unfold tupM at e; injection e with e; injection e with _ e; injection e with e _; exact eI_inj e
  exact ⟨fun h s hs => inj _ _ (h s (List.mem_range.mpr hs)), fun h s hs => by rw [h s (List.mem_range.mp hs)]⟩
theorem sh_marks {n : Nat} {f : Nat → Nat} : Sh 60 (.list ((List.range n).map fun s => tupM (f s))) := by
  refine (sh_list (n := 2) fun d hd => ?_).mono (by decide)
  obtain ⟨s, _, rfl⟩ := List.mem_map.mp hd
  refine sh_tup (n := 1) fun d hd => ?_
  rcases List.mem_cons.mp hd with rfl | hd
  · exact sh_tup (n := 0) fun d hd => by cases hd
  · rw [List.mem_singleton.mp hd]; exact sh_eI
theorem cal_lequal (B : Bi mg) (c1 : Cal P w K mg base 2 "_law_marks" ["_law_mat", "_law_log_so"] (spQ R_lmarks)) (F : Fd K mg "_law_equal" 56) : Cal P w K mg base 3 "_law_equal" ["_law_mat", "_law_one_so", "_law_two_so"] (spQ R_lequal) := by
  refine cal_Q F sc__law_equal (by decide) (fun _ _ _ _ _ _ us hl => match us, hl with | [_, _, _], _ => rfl) (fun ks Pk ⟨_, _, _, _, e, _⟩ => by rw [e]; rfl) (fun f cdv A outer s H E hr => der__law_equal B c1 hr) ?_
  rintro ks Pk ⟨M, v, u, o, rfl, hv, hu, rfl⟩
  rw [← eqv_marks]
  exact .inl (tr_ret (ev_eqD (ev_callQ (ea_cons (ev_var rfl) (ea_cons (ev_var rfl) ea_nil)) ⟨M, v, o, rfl, hv, rfl⟩) (ev_callQ (ea_cons (ev_var rfl) (ea_cons (ev_var rfl) ea_nil)) ⟨M, u, o, rfl, hu, rfl⟩) sh_marks sh_marks) ⟨rfl, rfl⟩)
end
/-! ### comprehensions with draws -/
section
variable {md : Md} {m : Nat} {Γ : Env} {te : TE}
theorem ev_lcC {ι : Type} {wi : TI} {g : TG} {vs js : List Nat} {n0 : Nat} (c : Nat) {xs : List ι} {kf : ι → Kn} {pf : Kn} (src : Src md m n0 wi Γ (xs.map kf)) (hz : xs.length ≤ 1000000) (Γx : ι → Env)
    (tgt : ∀ x, Tgt g (kf x) (wipeE Γ vs) (Γx x) js) (turn : ∀ i x, xs[i]? = some x → Ev md (n0 + i * c) (n0 + i * c + c) te (Γx x) pf) (hjs : ∀ j ∈ js, j ∈ vs := by decide) : Ev md m (n0 + xs.length * c) (tLc wi g tYes te vs) Γ (kL (List.replicate xs.length pf)) := by
  refine ev_imp (ev_up' (ev_lc (te := te) src (by rw [List.length_map]; exact hz) (fun i => match xs[i]? with | some x => Γx x | none => Γ) (fun i k hk => ?_) hjs (fun i => n0 + i * c) (by simp) (fun i acc => acc = List.replicate i pf) rfl fun i k acc hk e => ?_) (by rw [List.length_map])) ?_
  · rw [List.getElem?_map] at hk
    cases q : xs[i]? with
    | none => rw [q] at hk; cases hk
    | some x => rw [q] at hk; cases hk; simp only; exact tgt x
  · rw [List.getElem?_map] at hk
    cases q : xs[i]? with
    | none => rw [q] at hk; cases hk
    | some x =>
      simp only
      refine ⟨_, _, et_yes, fun _ => ⟨pf, ev_up' (turn i x q) (by rw [Nat.add_mul, Nat.one_mul]; omega), ?_⟩, fun z => nomatch z⟩
      rw [e, List.replicate_succ']
  · rintro G v ⟨acc, rfl, h⟩
    rw [List.length_map] at h
    exact h
end
/-- a list of unknown things of one kind -/
theorem allK_rep {ι : Type} {G : Hp} {S : ι → Prop} {f : ι → Kn} : ∀ {n : Nat} {vs : List V}, AllK G (List.replicate n (kX S f)) vs → ∃ xs : List ι, xs.length = n ∧ (∀ x ∈ xs, S x) ∧ AllK G (xs.map f) vs
  | 0, vs, h => by rw [allK_nil h]; exact ⟨[], rfl, (fun _ z => nomatch z), trivial⟩
  | n + 1, v :: vs, h => by
    obtain ⟨⟨x, sx, px⟩, h2⟩ := (h : (kX S f).p G v ∧ AllK G (List.replicate n (kX S f)) vs)
    obtain ⟨xs, h3, h4, h5⟩ := allK_rep h2
    refine ⟨x :: xs, by simp [h3], fun y hy => ?_, px, h5⟩
    rcases List.mem_cons.mp hy with rfl | hy
    · exact sx
    · exact h4 y hy
theorem kL_rep {ι : Type} {S : ι → Prop} {f : ι → Kn} {n : Nat} (G : Hp) (v : V) (h : (kL (List.replicate n (kX S f))).p G v) : (kX (fun xs : List ι => xs.length = n ∧ ∀ x ∈ xs, S x) fun xs => kL (xs.map f)).p G v := by
  obtain ⟨a, vs, e, hs, ax⟩ := h
  obtain ⟨xs, h1, h2, h3⟩ := allK_rep ax
  exact ⟨xs, ⟨h1, h2⟩, a, vs, e, hs, h3⟩
theorem kT_rep {ι : Type} {S : ι → Prop} {f : ι → Kn} {n : Nat} (G : Hp) (v : V) (h : (kT (List.replicate n (kX S f))).p G v) : (kX (fun xs : List ι => xs.length = n ∧ ∀ x ∈ xs, S x) fun xs => kT (xs.map f)).p G v := by
  obtain ⟨a, vs, e, hs, ax⟩ := h
  obtain ⟨xs, h1, h2, h3⟩ := allK_rep ax
  exact ⟨xs, ⟨h1, h2⟩, a, vs, e, hs, h3⟩
/-- for over what one of several things is known of, the walk's source told by each -/
theorem ev_bindX {md : Md} {m n k : Nat} {Γ : Env} {ι : Type} {S : ι → Prop} {f : ι → Kn} {P : Kn} {te : TE} {g : V → Hp → VK → Prop} (h : Ev md m n te Γ (kX S f)) (hg : ∀ x, S x → ∀ G H v, Same G H → md.J n H → (f x).p G v → Out md k G H P (g v H)) : Ev md m k (fun σ H Q => te σ H fun v H' => g v H' Q) Γ P := fun G H σ c Q q =>
  h G H σ c _ fun v H1 G1 g1 j1 ⟨x, sx, p1⟩ => hg x sx G1 H1 v g1.gh j1 p1 Q fun w H2 G2 g2 j2 p2 => q w H2 G2 (g1.trans (fun a z => md.dom _ _ a j1 (md.muk a z)) g2) j2 p2
theorem src_rangeX {md : Md} {m n z : Nat} {Γ : Env} {te : TE} {R : It → Hp → Prop} {G H : Hp} {σ : L2.St} (h : Ev md m n te Γ (kN z)) (hz : z ≤ 1000) (c : Ctx md m G H σ Γ) (r : ∀ (l : Nat) J H2 G2, l < z → Gr md.mu G H G2 H2 → md.J n H2 → Wk J (kRange l) G2 → R J H2) : iRng1 (tCons te tNil) σ H R :=
  h G H σ c _ fun v H1 G1 g1 j1 ⟨l, hl, p1⟩ => by
    have e := kD_int.mp p1
    subst e
    refine ⟨(l : Nat), rfl, by omega, by omega, r l _ H1 G1 hl g1 j1 ⟨YFn fun i => .int (0 + (i : Nat)), ?_, fun i k H x H' Gc hk s1 s2 ⟨e1, e2⟩ => ?_⟩⟩
    · rw [kRange_len]
      exact (walk_range (lo := 0) (n := l)).mono (fun _ _ => trivial) fun _ _ _ _ _ _ y => y
    · subst e1 e2
      obtain ⟨_, rfl⟩ := kRange_get hk
      refine ⟨Gc, Gr.refl s2, kD_int.mpr ?_⟩
      show V.int (0 + (i : Int)) = V.int (i : Nat)
      rw [Int.zero_add]
/-! ### log -/
def kWs (S : Str → Prop) (z : Nat) : Kn := kX (fun ws : List Str => (∀ x ∈ ws, S x) ∧ ws.length ≤ z) fun ws => kD (eW ws)
def R_log (ks : List Kn) (P : Kn) : Prop := ∃ (tags : List Str), ks = [kD (eW tags), kD (.int 8), kD (.bool false)] ∧ tags ≠ [] ∧ tags.length ≤ 8 ∧ (∀ x ∈ tags, Lt x) ∧ P = kWs (· ∈ tags) 8
abbrev sp_l_log : Sp := spB 9 R_log
theorem sh_eW {ws : List Str} (h : ∀ x ∈ ws, Lt x) : Sh 60 (eW ws) := (sh_tup (n := 0) fun d hd => by obtain ⟨x, hx, rfl⟩ := List.mem_map.mp hd; exact sh_str (h x hx).ok).mono (by decide)
section
variable {P : Program} {w : World} {K : PySem.W.Frag} {mg : Str → Option Value} {base : Heap}
theorem ev_rep0 {md : Md} {m n k : Nat} {Γ : Env} {ta tb : TE} {ks : List Kn} (ha : Ev md m n ta Γ (kL ks)) (hb : Ev md n k tb Γ (kD (.int 0))) : Ev md m k (tOp rRep ta tb) Γ (kL []) :=
  ev_op ha hb fun G H v w s jj ⟨a, xs, e, hs, ax⟩ pw => Out.new (o := .lst []) s jj (fun p hp => ⟨p, [], rfl, upd_same, trivial⟩) fun Q q => ⟨a, 0, xs, e, kD_int.mp pw, s _ _ hs, by decide, by decide, by simp, fun p hp => q p hp⟩
theorem ev_intB {md : Md} {m n : Nat} {Γ : Env} {t : TA} {b : Bool} (h : EvA md m n t Γ [kD (.bool b)]) : Ev md m n (tCB cInt t) Γ (kD (.int (if b then 1 else 0))) :=
  ev_cb1 h fun G H v s jj p => Out.val s jj (.int _) fun Q q => .inr ⟨b, by rw [kD_bool.mp p], q⟩
theorem ev_eqDT {md : Md} {m n k : Nat} {Γ : Env} {ta tb : TE} {d e : PyData} (r : R2) (b : Bool) (ha : Ev md m n ta Γ (kD d)) (hb : Ev md n k tb Γ (kD e)) (h : ∀ G H x y, Same G H → (kD d).p G x → (kD e).p G y → ∀ Q : VK, Q (.bl b) H → r x y H Q) : Ev md m k (tOp r ta tb) Γ (kD (.bool b)) :=
  ev_op ha hb fun G H x y s jj px py => Out.val s jj (.bl b) fun Q q => h G H x y s px py Q q
end
end Ll
end

section
set_option Elab.async false
set_option linter.all false
set_option maxRecDepth 100000
set_option maxHeartbeats 400000
/-! Ll: the law's log, moves. -/
namespace Ll
open PySem PySem.Spec PyProof.Rows L2
section
variable {md : Md} {m n k : Nat} {Γ : Env} {K : PySem.W.Frag} {tn te : TE} {g : TG} {tt : TT} {vs : List Nat} {P : Kn}
/-- a comprehension over range(e), e unknown but small -/
theorem ev_lcR {z : Nat} (h : Ev md m n tn Γ (kN z)) (each : ∀ l, l < z → Ev md n k (tLc (iRng1 (tCons (tC (.int (l : Nat))) tNil)) g tt te vs) Γ P) : Ev md m k (tLc (iRng1 (tCons tn tNil)) g tt te vs) Γ P := fun G H σ c Q q =>
  h G H σ c _ fun v H1 G1 g1 j1 ⟨l, hl, p1⟩ => by
    have e := kD_int.mp p1
    subst e
    exact each l hl G1 H1 σ (c.next g1 j1) Q fun w H2 G2 g2 j2 p2 => q w H2 G2 (g1.trans (fun a z => md.dom _ _ a j1 (md.muk a z)) g2) j2 p2
end
def kStr (S : Str → Prop) : Kn := kX S fun x => kD (.str x)
theorem repl_mem {α : Type} {n : Nat} {a k : α} (h : k ∈ List.replicate n a) : k = a := (List.mem_replicate.mp h).2
section
variable {P : Program} {w : World} {K : PySem.W.Frag} {mg : Str → Option Value} {base : Heap}
theorem cal_log (B : Bi mg) (c1 : Cal P w K mg base 1 "_law_take" ["_law_box_here", "_law_below_so"] sp_l_take) (c2 : Cal P w K mg base 2 "_law_of" ["_law_box_here", "_law_some"] sp_l_of) (F : Fd K mg "_law_log" 57) : Cal P w K mg base 3 "_law_log" ["_law_box_here", "_law_tags_so", "_law_most_so", "_law_looks_so"] sp_l_log := by
  refine cal_B F sc__law_log (by decide) (fun _ _ _ _ _ _ us hl => match us, hl with | [_, _, _, _], _ => rfl) (fun ks Pk ⟨_, e, _⟩ => by rw [e]; rfl) (fun f cdv A outer s H E hr => der__law_log B c1 c2 hr) ?_
  rintro b n ks P ⟨tags, rfl, hne, hl, hlt, rfl⟩ hn
  have hT : ∀ {Γ : Env}, Γ[1]? = some (some (kD (eW tags))) → EvA (mB b) n n (tCons (tVar 1) tNil) Γ [kT (tags.map fun x => kD (.str x))] := fun h => ea_cons (ev_Dtup (f := .str) (ev_var h)) ea_nil
  have eqE : PyData.eqv (eW tags) (.tuple []) = false := by
    cases tags with
    | nil => exact absurd rfl hne
    | cons a t => rfl
  have shT : Sh 60 (eW tags) := sh_eW hlt
  refine tr_set (P1 := kL ((tags.map fun x => kD (.str x)) ++ (tags.map fun x => kD (.str x)) ++ [])) (ev_cat (ev_cat (ev_lstT (hT rfl)) (ev_lstT (hT rfl)) (by simp; omega)) (ev_rep0 (ev_lst (ea_cons ev_str ea_nil) (by simp)) (ev_intB (b := false) (ea_cons (ev_imp (ev_or (b := false) (c := PyData.eqv (eW tags) (.tuple [])) (ev_var rfl) fun _ => ev_eqD (ev_var rfl) (ev_ofT (ds := []) (ev_tup ea_nil (by simp))) shT ((sh_tup (n := 0) fun d hd => by cases hd).mono (by decide))) fun G v h => by rw [eqE] at h; exact h) ea_nil))) (by simp; omega)) (of_decide_eq_true rfl) ?_
  refine tr_ret (n := n + 9) (P := kWs (· ∈ tags) 8) (ev_imp (ev_tupX (S := fun ws : List Str => (∀ x ∈ ws, x ∈ tags) ∧ ws.length ≤ 8) (kf := fun ws : List Str => ws.map fun x => kD (.str x)) (ea_cons (ev_lcR (z := 9) (n := n + 1) (ev_callB (ea_cons (ev_var rfl) (ea_cons (ev_add (ev_var rfl) ev_int) ea_nil)) ⟨9, rfl, by decide, by decide, rfl⟩ (by omega)) fun l hl9 => ?_) ea_nil)) fun G v ⟨ws, h, p⟩ => ⟨ws, h, kD_tup.mpr (by rw [List.map_map]; exact p)⟩) ⟨Nat.le_refl _, rfl⟩
  refine ev_up (ev_imp (ev_lcC 1 (xs := List.range l) (kf := fun i => kD (.int (i : Nat))) (pf := kStr (· ∈ tags)) (src_range (j := l) (ea_cons ev_int ea_nil) (by omega)) (by simp; omega) (fun i => [some (kP b), some (kD (eW tags)), some (kD (.int 8)), some (kD (.bool false)), some (kL ((tags.map fun x => kD (.str x)) ++ (tags.map fun x => kD (.str x)) ++ [])), some (kD (.int (i : Nat)))]) (fun i => tgt_name (of_decide_eq_true rfl)) fun i x hx => ?_) fun G v h => ?_) (by simp; omega)
  · have hi : i < l := by have := (List.getElem?_eq_some_iff.mp hx).1; simpa using this
    exact ev_callB (ea_cons (ev_var rfl) (ea_cons (ev_var rfl) ea_nil)) ⟨_, rfl, by simp [hne], by simp; omega, fun k hk G v p => by
      rw [List.append_nil] at hk
      rcases List.mem_append.mp hk with hk | hk
      · obtain ⟨x, hx, rfl⟩ := List.mem_map.mp hk; exact ⟨x, hx, p⟩
      · obtain ⟨x, hx, rfl⟩ := List.mem_map.mp hk; exact ⟨x, hx, p⟩⟩ (by omega)
  · obtain ⟨xs, ⟨h1, h2⟩, p⟩ := kL_rep G v h
    exact ⟨xs, ⟨h2, by rw [h1]; simp; omega⟩, p⟩
/-! ### moves -/
def kRowN (z : Nat) : Kn := kX (fun r : List Nat => r.length = z ∧ ∀ x ∈ r, x < z) fun r => kD (eRow r)
def R_moves (ks : List Kn) (P : Kn) : Prop := ∃ z : Nat, ks = [kD (eI z)] ∧ 0 < z ∧ z ≤ 6 ∧ P = kRowN z
abbrev sp_l_moves : Sp := spB 20 R_moves
theorem row_of {ι : Type} {z : Nat} {S : ι → Prop} {f : ι → List Nat} (h : ∀ x, S x → (f x).length = z ∧ ∀ y ∈ f x, y < z) (G : Hp) (v : V) (p : (kX S fun x => kT ((f x).map fun i => kD (eI i))).p G v) : (kRowN z).p G v := by
  obtain ⟨x, sx, px⟩ := p
  exact ⟨f x, h x sx, kD_tup.mpr (by rw [List.map_map]; exact px)⟩
theorem ev_tup0 {md : Md} {m n : Nat} {Γ : Env} {K : PySem.W.Frag} {t : TA} {l : List Nat} (h : EvA md m n t Γ [kLN l]) : Ev md m n (tCB (cTup K) t) Γ (kD (eRow l)) := ev_tupD (ev_tupL h)
theorem ev_repT {md : Md} {m n k z : Nat} {Γ : Env} {K : PySem.W.Frag} {ta tb : TE} {P : Kn} (ha : Ev md m n ta Γ (kT [P])) (hb : Ev md n k tb Γ (kD (eI z))) (hz : 0 < z) (hz2 : z ≤ 1000) : Ev md m k (tOp (rRepA K) ta tb) Γ (kT (List.replicate z P)) :=
  ev_op ha hb fun G H v w s jj ⟨a, xs, e, hs, ax⟩ pw => by
    match xs, ax with
    | [u], ⟨pu, _⟩ =>
      have rep : ∀ G', P.p G' u → ∀ z : Nat, AllK G' (List.replicate z P) (List.replicate z u) := fun G' hp z => by
        induction z with
        | zero => trivial
        | succ z ih => exact ⟨hp, ih⟩
      have flat : ∀ z : Nat, (List.replicate z [u]).flatten = List.replicate z u := fun z => by
        induction z with
        | zero => rfl
        | succ z ih => rw [List.replicate_succ, List.flatten_cons, ih, List.replicate_succ]; rfl
      refine fun Q q => ⟨a, (z : Nat), [u], e, kD_int.mp pw, SqT.of (s _ _ hs), by simp, by omega, by omega, by simp, fun h1 => ?_, fun h2 p hp => ?_⟩
      · have : z = 1 := by omega
        subst this
        exact q _ H G (Gr.refl s) jj ⟨a, [u], rfl, hs, pu, trivial⟩
      · refine q _ _ _ (Gr.new s hp) (md.st _ _ _ jj fun b u _ e => same_new hp b u e) ⟨p, _, rfl, upd_same, ?_⟩
        have : (List.replicate ((z : Nat) : Int).toNat [u]).flatten = List.replicate z u := by
          rw [Int.toNat_natCast]; exact flat z
        rw [this]
        exact rep _ (P.mono _ _ _ (le_same (same_new (s.free hp))) pu) z
/-- list or the other, the list known not to be empty or not -/
theorem ev_orL {md : Md} {m n : Nat} {Γ : Env} {K : PySem.W.Frag} {ta tb : TE} {ι : Type} {S : ι → Prop} {f : ι → List Kn} {P : Kn} (ha : Ev md m n ta Γ (kX S fun x => kL (f x))) (h1 : ∀ x, S x → f x ≠ [] → ∀ G v, (kL (f x)).p G v → P.p G v) (hb : Ev md n n tb Γ P) : Ev md m n (tOrT K ta tb) Γ P := fun G H σ c Q q =>
  ha G H σ c _ fun v H1 G1 g1 j1 ⟨x, sx, a, xs, e, hs, ax⟩ => by
    subst e
    cases xs with
    | nil =>
      refine ⟨false, .inl ⟨[], SqL.of (g1.gh _ _ hs), rfl⟩, ?_⟩
      rw [if_neg (by simp)]
      exact hb G1 H1 σ (c.next g1 j1) Q fun w H2 G2 g2 j2 p2 => q w H2 G2 (g1.trans (fun a z => md.dom _ _ a j1 (md.muk a z)) g2) j2 p2
    | cons y ys =>
      refine ⟨true, .inl ⟨y :: ys, SqL.of (g1.gh _ _ hs), rfl⟩, ?_⟩
      rw [if_pos rfl]
      exact q _ H1 G1 g1 j1 (h1 x sx (fun z => by rw [z] at ax; exact ax.elim) G1 _ ⟨a, _, rfl, hs, ax⟩)
theorem kN_row {z : Nat} (G : Hp) (v : V) (h : (kT (List.replicate z (kN z))).p G v) : (kRowN z).p G v := by
  obtain ⟨xs, ⟨h1, h2⟩, p⟩ := kT_rep G v h
  exact ⟨xs, ⟨h1, h2⟩, kD_tup.mpr (by rw [List.map_map]; exact p)⟩
theorem range_mem {z x : Nat} (h : x ∈ List.range z) : x < z := List.mem_range.mp h
theorem ev_min2 {md : Md} {m n : Nat} {Γ : Env} {t : TA} {i j : Int} (h : EvA md m n t Γ [kD (.int i), kD (.int j)]) : Ev md m n (tCB cMin2 t) Γ (kD (.int (if j < i then j else i))) :=
  ev_cb h fun G H vs s jj a => by
    match vs, a with
    | [x, y], ⟨p1, p2, _⟩ => exact Out.val s jj (.int _) fun Q q => ⟨i, j, by rw [kD_int.mp p1, kD_int.mp p2], q⟩
theorem ev_max2 {md : Md} {m n : Nat} {Γ : Env} {t : TA} {i j : Int} (h : EvA md m n t Γ [kD (.int i), kD (.int j)]) : Ev md m n (tCB cMax2 t) Γ (kD (.int (if j > i then j else i))) :=
  ev_cb h fun G H vs s jj a => by
    match vs, a with
    | [x, y], ⟨p1, p2, _⟩ => exact Out.val s jj (.int _) fun Q q => ⟨i, j, by rw [kD_int.mp p1, kD_int.mp p2], q⟩
theorem cal_moves (B : Bi mg) (c1 : Cal P w K mg base 1 "_law_take" ["_law_box_here", "_law_below_so"] sp_l_take) (c2 : Cal P w K mg base 2 "_law_of" ["_law_box_here", "_law_some"] sp_l_of) (c3 : Cal P w K mg base 2 "_law_mixed" ["_law_box_here", "_law_rows_so"] sp_l_mixed) (F : Fd K mg "_law_moves" 43) :
    Cal P w K mg base 3 "_law_moves" ["_law_box_here", "_law_many_so"] sp_l_moves := by
  refine cal_B F sc__law_moves (by decide) (fun _ _ _ _ _ _ us hl => match us, hl with | [_, _], _ => rfl) (fun ks Pk ⟨_, e, _⟩ => by rw [e]; rfl) (fun f cdv A outer s H E hr => der__law_moves B c1 c2 c3 hr) ?_
  rintro b n ks P ⟨z, rfl, hz0, hz6, rfl⟩ hn
  let Gm : Nat → Option Kn → Option Kn → Option Kn → Option Kn → Env := fun r a c d e => [some (kP b), some (kD (eI z)), some (kD (eI r)), some (kLN (List.range z)), a, c, d, e]
  have tk : ∀ {Γ : Env} {m : Nat}, Γ[0]? = some (some (kP b)) → Γ[1]? = some (some (kD (eI z))) → m + 1 ≤ 1000000 → Ev (mB b) m (m + 1) (tCall sp_l_take [] E0 (tCons (tVar 0) (tCons (tVar 1) tNil))) Γ (kN z) := fun h0 h1 hm => ev_callB (ea_cons (ev_var h0) (ea_cons (ev_var h1) ea_nil)) ⟨z, rfl, hz0, by omega, rfl⟩ hm
  refine tr_par (P1 := kN 6) (P2 := kLN (List.range z)) (ea_cons (ev_callB (ea_cons (ev_var rfl) (ea_cons ev_int ea_nil)) ⟨6, rfl, by decide, by decide, rfl⟩ (by omega)) (ea_cons (ev_lstRg (ev_var rfl) (by omega)) ea_nil)) (of_decide_eq_true rfl) (of_decide_eq_true rfl) ?_
  refine tr_open (i := 2) rfl fun r hr => ?_
  show Tr (mB b) (n + 1) (Gm r none none none none) o0 _ _
  -- 0
  refine tr_when (et_test (ev_eqI (ev_var rfl) ev_int)) (fun _ => tr_done (tr_ret (n := n + 2) (P := kRowN z) (ev_imp (ev_repT (ev_tup (ea_cons (tk rfl rfl (by omega)) ea_nil) (by simp)) (ev_var rfl) hz0 (by omega)) kN_row) ⟨by omega, rfl⟩)) fun _ => tr_skip ?_
  -- 1
  refine tr_when (et_test (ev_eqI (ev_var rfl) ev_int)) (fun _ => tr_done (tr_ret (n := n + 1 + 6) (P := kRowN z) (ev_imp (ev_tupX (ea_cons (ev_callB (P := kX (fun r : List Nat => r.length = (List.range z).length ∧ ∀ x ∈ r, x ∈ List.range z) kLN) (ea_cons (ev_var rfl) (ea_cons (ev_var rfl) ea_nil)) ⟨List.range z, rfl, by simp; omega, rfl⟩ (by omega)) ea_nil))
    (row_of (f := fun r => r) fun r h => ⟨by rw [h.1]; simp, fun y hy => range_mem (h.2 y hy)⟩)) ⟨by omega, rfl⟩)) fun _ => tr_skip ?_
  -- 2
  refine tr_when (et_test (ev_eqI (ev_var rfl) ev_int)) (fun _ => ?_) fun _ => tr_skip ?_
  · refine tr_done (tr_par (P1 := kN z) (P2 := kN z) (ea_cons (tk rfl rfl (by omega)) (ea_cons (tk rfl rfl (by omega)) ea_nil)) (of_decide_eq_true rfl) (of_decide_eq_true rfl) (tr_open (i := 4) rfl fun k hk => tr_open (i := 5) rfl fun f hf => ?_))
    refine tr_ret (n := n + 1 + 1 + 1) (P := kRowN z) (ev_imp (ev_tup0 (l := (List.range z).take k ++ [f] ++ (List.range z).drop (k + 1)) (ea_cons (ev_imp (ev_cat (ev_cat (ev_slTake (ks := (List.range z).map fun i => kD (eI i)) (ev_var rfl) (ev_var rfl)) (ev_lst (ea_cons (ev_var (i := 5) rfl) ea_nil) (by simp)) (by simp; omega)) (ev_slDrop (z := k + 1) (ks := (List.range z).map fun i => kD (eI i)) (ev_var rfl) (ev_succ (ev_var (i := 4) rfl))) (by simp; omega)) fun G v h => by unfold kLN; rw [List.map_append, List.map_append, List.map_take, List.map_drop]; exact h) ea_nil))
      fun G v h => ⟨_, ⟨by simp only [List.length_append, List.length_take, List.length_drop, List.length_range, List.length_singleton]; omega, fun x hx => ?_⟩, h⟩) ⟨by omega, rfl⟩
    rcases List.mem_append.mp hx with hx | hx
    · rcases List.mem_append.mp hx with hx | hx
      · exact range_mem (List.mem_of_mem_take hx)
      · rw [List.mem_singleton.mp hx]; exact hf
    · exact range_mem (List.mem_of_mem_drop hx)
  -- 3
  refine tr_when (et_test (ev_eqI (ev_var rfl) ev_int)) (fun _ => ?_) fun _ => tr_skip ?_
  · refine tr_done (tr_set (P1 := kX (fun i : Int => i = 1 ∨ i = -1) fun i => kD (.int i)) (ev_callB (ea_cons (ev_var rfl) (ea_cons (ev_lst (ea_cons ev_int (ea_cons (ev_neg ev_int) ea_nil)) (by simp)) ea_nil)) ⟨_, rfl, by simp, by simp, fun k hk G v p => ?_⟩ (by omega)) (of_decide_eq_true rfl) (tr_open (i := 6) rfl fun sd hsd => ?_))
    · simp only [List.mem_cons, List.mem_nil_iff, or_false] at hk
      rcases hk with rfl | rfl
      · exact ⟨1, .inl rfl, p⟩
      · exact ⟨-1, .inr rfl, p⟩
    · refine tr_ret (n := n + 1 + 1 + (List.range z).length * 0) (P := kRowN z) (ev_imp (ev_tupL (ea_cons (ev_lcC 0 (xs := List.range z) (kf := fun i => kD (eI i)) (pf := kN z) (src_list (ev_var (P := kLN (List.range z)) rfl)) (by simp <;> omega) (fun i => [some (kP b), some (kD (eI z)), some (kD (eI r)), some (kLN (List.range z)), some (kD (eI i)), none, some (kD (.int sd)), none]) (fun i => tgt_name (of_decide_eq_true rfl)) fun i x hx => ?_) ea_nil)) fun G v h => kN_row G v (by simpa using h)) ⟨by simp <;> omega, rfl⟩
      have hx' : x < z := range_mem (List.mem_of_getElem? hx)
      refine ev_imp (ev_min2 (ea_cons (ev_sub (ev_var rfl) ev_int) (ea_cons (ev_max2 (ea_cons ev_int (ea_cons (ev_add (ev_var rfl) (ev_var rfl)) ea_nil))) ea_nil))) fun G v h => ?_
      rw [kD_int.mp h]
      refine kN_of ?_ ?_
      all_goals
        rcases hsd with rfl | rfl <;> (repeat' split) <;> omega
  -- 4
  refine tr_when (et_test (ev_eqI (ev_var rfl) ev_int)) (fun _ => ?_) fun _ => tr_skip ?_
  · refine tr_done (tr_set (n := n + 1 + (List.range z).length * 1) (P1 := kX (fun l : List Nat => l ≠ [] ∧ l.length ≤ 6 ∧ ∀ x ∈ l, x < z) kLN) (ev_orL (S := fun l : List Nat => l.length ≤ 6 ∧ ∀ x ∈ l, x < z) (f := fun l => l.map fun i => kD (eI i)) (ev_imp (ev_up' (ev_lc (ks := (List.range z).map fun i => kD (eI i)) (src_list (ev_var (P := kLN (List.range z)) rfl)) (by simp; omega) (fun i => [some (kP b), some (kD (eI z)), some (kD (eI r)), some (kLN (List.range z)), some (kD (eI i)), none, none, none]) (fun i k hk => ?_) (js := [4]) (by decide) (fun i => n + 1 + i * 1) (by simp) (fun i acc => ∃ l : List Nat, acc = l.map (fun i => kD (eI i)) ∧ l.length ≤ i ∧ ∀ x ∈ l, x < z) ⟨[], rfl, Nat.le_refl _, fun _ h => nomatch h⟩ fun i k acc hk ⟨l, e, hl, hlz⟩ => ?_) (by simp)) fun G v ⟨acc, ⟨l, e, hl, hlz⟩, p⟩ => ⟨l, ⟨by simp at hl; omega, hlz⟩, by subst e; exact p⟩)
      (fun l h hne G v p => ⟨l, ⟨fun z => hne (by rw [z]; rfl), h⟩, p⟩) (ev_imp (ev_lst (ea_cons ev_int ea_nil) (by simp)) fun G v p => ⟨[0], ⟨by simp, by simp, fun x hx => by rw [List.mem_singleton.mp hx]; exact hz0⟩, p⟩)) (of_decide_eq_true rfl) (tr_open (i := 7) rfl fun l hl => ?_))
    · rw [List.getElem?_map] at hk
      cases q : (List.range z)[i]? with
      | none => rw [q] at hk; cases hk
      | some x =>
        rw [q] at hk; cases hk
        have : x = i := by
          rw [List.getElem?_range (by have := (List.getElem?_eq_some_iff.mp q).1; simpa using this)] at q
          exact (Option.some.inj q).symm
        subst this
        exact tgt_name (of_decide_eq_true rfl)
    · have hiz : i < z := by
        have := (List.getElem?_eq_some_iff.mp hk).1
        simpa using this
      rw [List.getElem?_map, List.getElem?_range hiz] at hk
      cases hk
      refine ⟨fun _ => True, n + 1 + i * 1 + 1, fun G H σ c Q q => ?_, fun _ => ⟨kD (eI i), ev_up' (ev_var rfl) (by omega), l ++ [i], by rw [e, List.map_append]; rfl, by simp; omega, fun x hx => ?_⟩, fun _ => ⟨by omega, l, e, by omega, hlz⟩⟩
      · exact ev_callB (m := n + 1 + i * 1) (c := 1) (P := kN 2) (ea_cons (ev_var rfl) (ea_cons ev_int ea_nil)) ⟨2, rfl, by decide, by decide, rfl⟩ (by omega) G H σ c _ fun v H1 G1 g1 j1 ⟨r, _, pr⟩ => by
          rw [kD_int.mp pr]
          exact ⟨rfl, _, rfl, q _ H1 G1 g1 j1 trivial⟩
      · rcases List.mem_append.mp hx with hx | hx
        · exact hlz x hx
        · rw [List.mem_singleton.mp hx]; exact hiz
    · refine tr_ret (n := n + 1 + (List.range z).length * 1 + (List.range z).length * 1) (P := kRowN z) (ev_imp (ev_tupL (ea_cons (ev_lcC 1 (xs := List.range z) (kf := fun i => kD (eI i)) (pf := kN z) (src_list (ev_var (P := kLN (List.range z)) rfl)) (by simp; omega) (fun i => [some (kP b), some (kD (eI z)), some (kD (eI r)), some (kLN (List.range z)), some (kD (eI i)), none, none, some (kLN l)]) (fun i => tgt_name (of_decide_eq_true rfl)) fun i x hx => ?_) ea_nil)) fun G v h => kN_row G v (by simpa using h)) ⟨by simp; omega, rfl⟩
      have hx' : x < z := range_mem (List.mem_of_getElem? hx)
      have hil : i < z := by have := (List.getElem?_eq_some_iff.mp hx).1; simpa using this
      refine ev_if (et_test (ev_inI (ws := l.map fun i : Nat => ((i : Nat) : Int)) (ev_var rfl) (ev_imp (ev_var (P := kLN l) rfl) fun G v h => by rw [List.map_map]; exact h))) (fun _ => ev_up (ev_imp (P1 := kN z) (ev_var rfl) fun G v h => ⟨x, hx', h⟩) (Nat.le_succ _)) fun _ => ?_
      exact ev_callB (ea_cons (ev_var rfl) (ea_cons (ev_var (P := kLN l) rfl) ea_nil)) ⟨_, rfl, by simp [hl.1], by simp; omega, fun k hk G v p => by
        obtain ⟨y, hy, rfl⟩ := List.mem_map.mp hk
        exact ⟨y, hl.2.2 y hy, p⟩⟩ (by simp; omega)
  -- 5
  refine tr_ret (n := n + 1 + (List.range z).length * 1) (P := kRowN z) (ev_imp (ev_tupL (ea_cons (ev_lcC 1 (xs := List.range z) (kf := fun i => kD (eI i)) (pf := kN z) (src_list (ev_var (P := kLN (List.range z)) rfl)) (by simp; omega) (fun i => [some (kP b), some (kD (eI z)), some (kD (eI r)), some (kLN (List.range z)), some (kD (eI i)), none, none, none]) (fun i => tgt_name (of_decide_eq_true rfl)) fun i x hx => ?_) ea_nil)) fun G v h => kN_row G v (by simpa using h)) ⟨by simp; omega, rfl⟩
  have hil : i < z := by have := (List.getElem?_eq_some_iff.mp hx).1; simpa using this
  exact tk rfl rfl (by omega)
end
end Ll
end

section
set_option Elab.async false
set_option linter.all false
set_option maxRecDepth 100000
set_option maxHeartbeats 4000000
/-! Ll: the law's names. -/
namespace Ll
open PySem PySem.Spec PyProof.Rows L2
def Lz (z : Nat) (x : Str) : Prop := Lt x ∧ x.length ≤ z
def kLz (z : Nat) : Kn := kX (Lz z) fun x => kD (.str x)
theorem Lz.mono {z z' : Nat} {x : Str} (h : Lz z x) (hz : z ≤ z') : Lz z' x := ⟨h.1, Nat.le_trans h.2 hz⟩
theorem app_cps {x y : Str} : (x ++ y).cps.toList = x.cps.toList ++ y.cps.toList := by
  show (x.cps ++ y.cps).toList = _
  simp
theorem app_len {x y : Str} : (x ++ y).length = x.length + y.length := by
  show (x.cps ++ y.cps).size = x.cps.size + y.cps.size
  simp
theorem Lz.app {a b : Nat} {x y : Str} (h1 : Lz a x) (h2 : Lz b y) : Lz (a + b) (x ++ y) := by
  refine ⟨fun c hc => ?_, by rw [app_len]; have := h1.2; have := h2.2; omega⟩
  rw [app_cps] at hc
  rcases List.mem_append.mp hc with hc | hc
  · exact h1.1 c hc
  · exact h2.1 c hc
theorem Lz.cut {z : Nat} {x : Str} (h : Lz z x) (lo hi : Option Int) : Lz z (cutS x lo hi) := by
  refine ⟨fun c hc => ?_, Nat.le_trans (cutS_length x lo hi) h.2⟩
  unfold cutS at hc
  simp only [List.toList_toArray] at hc
  exact h.1 c (List.mem_of_mem_drop (List.mem_of_mem_take hc))
theorem lz_join : ∀ {ys : List Str}, (∀ y ∈ ys, Lz 1 y) → Lz ys.length (Str.join "" ys)
  | [], _ => ⟨(fun c hc => by simp [Str.join, Str.empty] at hc), Nat.le_refl _⟩
  | [y], h => h y (by simp)
  | y :: z :: r, h => by
    have h1 := h y (by simp)
    have h2 := lz_join (ys := z :: r) fun x hx => h x (List.mem_cons_of_mem _ hx)
    have e : Str.join "" (y :: z :: r) = y ++ "" ++ Str.join "" (z :: r) := rfl
    rw [e]
    have h0 : Lz 0 (("" : Str)) := ⟨(fun c hc => by have : c ∈ ([] : List Nat) := hc; cases this), Nat.le_refl _⟩
    have := (h1.app h0).app h2
    exact this.mono (by simp; omega)
abbrev sgn : Str := "abcdefghijklmnopqrstuvwxyz"
theorem sgn_at : sgn.cps.toList = (List.range 26).map (· + 97) := by decide +kernel
theorem sgn_get {r : Nat} (h : r < 26) : sgn.cps.toList[r]? = some (r + 97) := by
  rw [sgn_at, List.getElem?_map, List.getElem?_range h]; rfl
section
variable {md : Md} {m n k : Nat} {Γ : Env} {K : PySem.W.Frag} {ta tb te : TE} {t : TA}
theorem ev_sgn (ha : Ev md m n ta Γ (kD (.str sgn))) (hb : Ev md n k tb Γ (kN 26)) : Ev md m k (tOp rIxS ta tb) Γ (kLz 1) :=
  ev_op ha hb fun G H x y s jj px ⟨r, hr, py⟩ => by
    have hc := sgn_get hr
    refine Out.val (v := .str ⟨#[r + 97]⟩) s jj ⟨⟨#[r + 97]⟩, ⟨fun c hc => ?_, Nat.le_refl _⟩, .str _⟩ fun Q q => ⟨sgn, (r : Nat), r + 97, kD_str.mp px, kD_int.mp py, by decide, atI_nat hc, q⟩
    have : c = r + 97 := by simpa using hc
    omega
theorem ev_join {l : Nat} (ha : Ev md m n ta Γ (kD (.str ""))) (hb : EvA md n k t Γ [kL (List.replicate l (kLz 1))]) (hl : l ≤ 1000) : Ev md m k (tBM K "str" (cJoin K) ta t) Γ (kLz l) := fun G H σ c Q q =>
  ha G H σ c _ fun x H1 G1 g1 j1 p1 => by
    have e1 := kD_str.mp p1
    subst e1
    refine ⟨rfl, ea1 hb (c.next g1 j1) fun v H2 G2 g2 j2 ⟨a, vs, e, hs, ax⟩ => ?_⟩
    obtain ⟨ys, h1, h2, h3⟩ := allK_rep ax
    have ev := allK_str h3
    subst ev
    have sum : ∀ ys : List Str, (∀ y ∈ ys, Lz 1 y) → (ys.map (·.length)).sum ≤ ys.length := fun ys => by
      induction ys with
      | nil => intro _; simp
      | cons a r ih =>
        intro h
        have := ih fun y hy => h y (List.mem_cons_of_mem _ hy)
        have := (h a List.mem_cons_self).2
        simp; omega
    have hsum := sum ys h2
    refine ⟨"", a, ys, rfl, by rw [e], .inl (SqL.of (g2.gh _ _ hs)), by show _ + _ * 0 ≤ _; omega, ?_⟩
    rw [TL.join_eq]
    exact q _ H2 G2 (g1.trans (fun a z => md.dom _ _ a j1 (md.muk a z)) g2) j2 ⟨_, h1 ▸ lz_join h2, .str _⟩
theorem ev_add1 {z : Nat} {a : Int} (hb : Ev md m n te Γ (kN z)) (ha : a = 1) : Ev md m n (tOp rAddI (tC (.int a)) te) Γ (kX (fun r : Nat => 1 ≤ r ∧ r ≤ z) fun r => kD (eI r)) :=
  ev_op (P1 := kD (.int 1)) (by rw [ha]; exact ev_int) hb fun G H x y s jj px ⟨r, hr, py⟩ => Out.val (v := .int (1 + (r : Int))) s jj ⟨r + 1, ⟨by omega, by omega⟩, kD_int.mpr (by show V.int _ = V.int ((r + 1 : Nat) : Int); congr 1; omega)⟩ fun Q q => ⟨1, (r : Nat), kD_int.mp px, kD_int.mp py, q⟩
theorem ev_int1 {i : Int} (h : EvA md m n t Γ [kD (.int i)]) : Ev md m n (tCB cInt t) Γ (kD (.int i)) := ev_cb1 h fun G H v s jj p => Out.val s jj (.int _) fun Q q => .inl ⟨i, by rw [kD_int.mp p], q⟩
theorem ev_modN {i : Int} {z : Nat} (ha : Ev md m n ta Γ (kD (.int i))) (hb : Ev md n k tb Γ (kD (.int (z : Nat)))) (hz : 0 < z) : Ev md m k (tOp rModI ta tb) Γ (kN z) :=
  ev_i1D ha hb (by omega) fun G => kN_of (Int.fmod_nonneg_of_pos _ (by omega)) (Int.fmod_lt_of_pos _ (by omega))
theorem ev_mulS {i j : Int} (ha : Ev md m n ta Γ (kD (.int i))) (hb : Ev md n k tb Γ (kD (.int j))) (h : -(2 ^ 64) < i ∧ i < 2 ^ 64) : Ev md m k (tOp rMulI ta tb) Γ (kD (.int (i * j))) := ev_i1D ha hb (.inl h) fun _ => .int _
theorem ev_cutS {z : Nat} {x : Str} (hx : Lz z x) (hz : z ≤ 1000) {to1 to2 : TO} {lo hi : Option Int} (ha : Ev md m m ta Γ (kD (.str x))) (h1 : ∀ σ G H, Ctx md m G H σ Γ → ∀ Q : Option Int → Hp → Prop, Q lo H → to1 σ H Q) (h2 : ∀ σ G H, Ctx md m G H σ Γ → ∀ Q : Option Int → Hp → Prop, Q hi H → to2 σ H Q) : Ev md m m (tSl rSlS ta to1 to2) Γ (kLz z) := fun G H σ c Q q =>
  ha G H σ c _ fun v H1 G1 g1 j1 p1 => by
    have c1 := c.next g1 j1
    refine h1 σ G1 H1 c1 _ (h2 σ G1 H1 c1 _ ⟨x, kD_str.mp p1, Nat.le_trans hx.2 (Nat.le_trans hz (by decide)), ?_⟩)
    exact q _ H1 G1 g1 j1 ⟨_, hx.cut lo hi, .str _⟩
theorem part_none : ∀ (σ : L2.St) (G H : Hp), Ctx md m G H σ Γ → ∀ Q : Option Int → Hp → Prop, Q none H → tNoPart σ H Q := fun _ _ _ _ _ q => q
theorem part_var {i : Nat} {j : Int} (h : Γ[i]? = some (some (kD (.int j)))) : ∀ (σ : L2.St) (G H : Hp), Ctx md m G H σ Γ → ∀ Q : Option Int → Hp → Prop, Q (some j) H → tPart (tVar i) σ H Q := fun σ G H c Q q => by
  obtain ⟨v, hv, pv⟩ := c.env.get i _ h
  exact ⟨v, hv, j, kD_int.mp pv, q⟩
theorem part_add1 {i : Nat} {j : Int} (h : Γ[i]? = some (some (kD (.int j)))) : ∀ (σ : L2.St) (G H : Hp), Ctx md m G H σ Γ → ∀ Q : Option Int → Hp → Prop, Q (some (j + 1)) H → tPart (tOp rAddI (tVar i) (tC (.int 1))) σ H Q := fun σ G H c Q q => by
  obtain ⟨v, hv, pv⟩ := c.env.get i _ h
  exact ⟨v, hv, j, 1, kD_int.mp pv, rfl, _, rfl, q⟩
theorem ev_addLz {a b : Nat} (ha : Ev md m n ta Γ (kLz a)) (hb : Ev md n k tb Γ (kLz b)) (hab : a + b ≤ 1000) : Ev md m k (tOp rAddT ta tb) Γ (kLz (a + b)) :=
  ev_op ha hb fun G H x y s jj ⟨u, hu, px⟩ ⟨v, hv, py⟩ => Out.val (v := .str (u ++ v)) s jj ⟨u ++ v, hu.app hv, .str _⟩ fun Q q => ⟨u, v, kD_str.mp px, kD_str.mp py, Nat.le_trans (by have := hu.2; have := hv.2; omega : u.length + v.length ≤ 1000) (by decide), q⟩
end
def kNmL : Kn := kX (fun ws : List Str => ws ≠ [] ∧ ws.length ≤ 8 ∧ ∀ x ∈ ws, Lt x) fun ws => kL (ws.map fun x => kD (.str x))
def R_lnames (ks : List Kn) (P : Kn) : Prop := ∃ z : Nat, ks = [kD (eI z)] ∧ 0 < z ∧ z ≤ 8 ∧ P = kNmL
abbrev sp_l_names : Sp := spB 100 R_lnames
theorem allK_reps {ι : Type} {G : Hp} {S : ι → Prop} {f : ι → Kn} : True := trivial
section
variable {P : Program} {w : World} {K : PySem.W.Frag} {mg : Str → Option Value} {base : Heap}
theorem cal_names (B : Bi mg) (c1 : Cal P w K mg base 1 "_law_take" ["_law_box_here", "_law_below_so"] sp_l_take) (c2 : Cal P w K mg base 2 "_law_of" ["_law_box_here", "_law_some"] sp_l_of) (F : Fd K mg "_law_names" 42) :
    Cal P w K mg base 3 "_law_names" ["_law_box_here", "_law_some"] sp_l_names := by
  refine cal_B F sc__law_names (by decide) (fun _ _ _ _ _ _ us hl => match us, hl with | [_, _], _ => rfl) (fun ks Pk ⟨_, e, _⟩ => by rw [e]; rfl) (fun f cdv A outer s H E hr => der__law_names B c1 c2 hr) ?_
  rintro b n ks P ⟨z, rfl, hz0, hz8, rfl⟩ hn
  have tk : ∀ {Γ : Env} {m : Nat} (l : Nat), Γ[0]? = some (some (kP b)) → 0 < l → l ≤ 1000 → m + 1 ≤ 1000000 → Ev (mB b) m (m + 1) (tCall sp_l_take [] E0 (tCons (tVar 0) (tCons (tC (.int (l : Nat))) tNil))) Γ (kN l) := fun l h0 h1 h2 hm => ev_callB (ea_cons (ev_var h0) (ea_cons (P := kD (eI l)) ev_int ea_nil)) ⟨l, rfl, h1, h2, rfl⟩ hm
  refine tr_set (ev_str) (of_decide_eq_true rfl) ?_
  refine tr_set (n := n + 8) (P1 := kLz 8) (ev_join ev_str (ea_cons (ev_lcC 1 (xs := List.range 8) (kf := fun i => kD (.int (i : Nat))) (pf := kLz 1) (src_range (j := 8) (ea_cons ev_int ea_nil) (by decide)) (by simp) (fun i => [some (kP b), some (kD (eI z)), some (kD (.str sgn)), some (kD (.int (i : Nat))), none, none, none, none, none, none, none, none, none, none, none, none]) (fun i => tgt_name (of_decide_eq_true rfl)) fun i x hx => ev_sgn (ev_var rfl) (tk 26 rfl (by decide) (by decide) (by have := (List.getElem?_eq_some_iff.mp hx).1; simp at this; omega))) ea_nil) (by decide)) (of_decide_eq_true rfl) ?_
  refine tr_par3 (n := n + 8 + 1 + 1 + 1) (P1 := kX (fun r : Nat => 1 ≤ r ∧ r ≤ 8) fun r => kD (eI r)) (P2 := kN 8) (P3 := kN 2) (ea_cons (ev_add1 (tk 8 rfl (by decide) (by decide) (by omega)) rfl) (ea_cons (tk 8 rfl (by decide) (by decide) (by omega)) (ea_cons (tk 2 rfl (by decide) (by decide) (by omega)) ea_nil))) (of_decide_eq_true rfl) (of_decide_eq_true rfl) (of_decide_eq_true rfl) ?_
  refine tr_open (i := 5) rfl fun fr hfr => tr_open (i := 6) rfl fun spt hspt => tr_open (i := 7) rfl fun nr hnr => tr_open (i := 4) rfl fun stem hstem => ?_
  refine tr_set (n := n + 12) (tk 26 rfl (by decide) (by decide) (by omega)) (of_decide_eq_true rfl) ?_
  refine tr_open (i := 8) rfl fun fi hfi => ?_
  refine tr_set (n := n + 13) (P1 := kX (fun r : Nat => r ≤ 25) fun r => kD (eI r)) (ev_callB (n := n + 12) (c := 1) (R := R_of) (ea_cons (ev_var rfl) (ea_cons (ev_lst (ea_cons ev_int (ea_cons ev_int (ea_cons ev_int (ea_cons ev_int (ea_cons ev_int (ea_cons ev_int (ea_cons ev_int (ea_cons ev_int (ea_cons ev_int (ea_cons ev_int (ea_cons ev_int (ea_cons ev_int ea_nil)))))))))))) (by simp)) ea_nil)) ⟨_, rfl, by simp, by simp, fun k hk G v p => ?_⟩ (by omega)) (of_decide_eq_true rfl) ?_
  · simp only [List.mem_cons, List.mem_nil_iff, or_false] at hk
    rcases hk with rfl | rfl | rfl | rfl | rfl | rfl | rfl | rfl | rfl | rfl | rfl | rfl
    · exact ⟨1, by decide, p⟩
    · exact ⟨3, by decide, p⟩
    · exact ⟨5, by decide, p⟩
    · exact ⟨7, by decide, p⟩
    · exact ⟨9, by decide, p⟩
    · exact ⟨11, by decide, p⟩
    · exact ⟨15, by decide, p⟩
    · exact ⟨17, by decide, p⟩
    · exact ⟨19, by decide, p⟩
    · exact ⟨21, by decide, p⟩
    · exact ⟨23, by decide, p⟩
    · exact ⟨25, by decide, p⟩
  refine tr_open (i := 9) rfl fun sd hsd => ?_
  refine tr_new (k := bL []) new_lst (fun G => ⟨[], rfl, trivial⟩) (of_decide_eq_true rfl) fun p => ?_
  let Gm : Option Kn → Option Kn → Option Kn → Option Kn → Option Kn → Env := fun a c d e f => [some (kP b), some (kD (eI z)), some (kD (.str sgn)), a, some (kD (.str stem)), some (kD (eI fr)), some (kD (eI spt)), some (kD (eI nr)), some (kD (eI fi)), some (kD (eI sd)), some (kP p), c, d, e, f, none]
  refine tr_seq (fun n' Γ' O' => n' ≤ n + 100 ∧ ∃ a c d e f, O' = oOb p (bL (List.replicate z (kLz 17))) ∧ Γ' = Gm a c d e f) ?_ ?_
  · refine tr_for (src_range (j := z) (ea_cons (ev_var rfl) ea_nil) (by omega)) (fun i n' Γ' O' => n' = n + 13 + 9 * i ∧ ∃ a c d e f, O' = oOb p (bL (List.replicate i (kLz 17))) ∧ Γ' = Gm a c d e f) ⟨rfl, _, _, _, _, _, rfl, rfl⟩ ?_ ?_
    · rintro i k n' Γ' O' hk ⟨rfl, a, c, d, e, f, rfl, rfl⟩
      obtain ⟨hi, rfl⟩ := kRange_get hk
      refine ⟨_, _, tgt_name (of_decide_eq_true rfl), tr_set (n := n + 13 + 9 * i + 1) (P1 := kX (fun r : Nat => 1 ≤ r ∧ r ≤ 8) fun r => kD (eI r)) (ev_if (et_test (ev_eqI (ev_var rfl) ev_int)) (fun _ => ev_up (ev_imp (P1 := kX (fun r : Nat => 1 ≤ r ∧ r ≤ 8) fun r => kD (eI r)) (ev_var (i := 5) rfl) fun G v h => ⟨fr, hfr, h⟩) (Nat.le_succ _)) fun _ => ev_add1 (tk 8 rfl (by decide) (by decide) (by omega)) rfl) (of_decide_eq_true rfl) ?_⟩
      refine tr_open (i := 11) rfl fun sz hsz => ?_
      refine tr_set (ev_cutS hstem (by decide) (ev_var rfl) part_none (part_var rfl)) (of_decide_eq_true rfl) ?_
      refine tr_seq (fun n' Γ' O' => n' ≤ n + 13 + 9 * i + 9 ∧ O' = oOb p (bL (List.replicate i (kLz 17))) ∧ ∃ e f, Γ' = Gm (some (kD (.int (i : Nat)))) (some (kD (eI sz))) (some (kLz 8)) e f) ?_ ?_
      · refine tr_if (et_cmpI (g := fun i j => decide (j < i)) (ev_var rfl) ev_int) (fun _ => ?_) fun _ => tr_next ⟨by omega, rfl, _, _, rfl⟩
        refine tr_setL (n := n + 13 + 9 * i + 1 + (List.range sz).length * 1) (P1 := kLz 8) (ev_imp (ev_join ev_str (ea_cons (ev_lcC 1 (xs := List.range sz) (kf := fun i => kD (.int (i : Nat))) (pf := kLz 1) (src_range (j := sz) (ea_cons (ev_var rfl) ea_nil) (by omega)) (by simp; omega) (fun j => [some (kP b), some (kD (eI z)), some (kD (.str sgn)), some (kD (.int (i : Nat))), some (kD (.str stem)), some (kD (eI fr)), some (kD (eI spt)), some (kD (eI nr)), some (kD (eI fi)), some (kD (eI sd)), some (kP p), some (kD (eI sz)), some (kLz 8), e, f, some (kD (.int (j : Nat)))]) (fun j => tgt_name (of_decide_eq_true rfl)) fun j x hx => ev_sgn (ev_var rfl) (tk 26 rfl (by decide) (by decide) (by have := (List.getElem?_eq_some_iff.mp hx).1; simp at this; omega))) ea_nil) (by simp; omega)) fun G v ⟨x, hx, pv⟩ => ⟨x, hx.mono (by simp; omega), pv⟩) (of_decide_eq_true rfl) ⟨by simp; omega, rfl, _, _, rfl⟩
      · rintro n' Γ' O' ⟨hn', rfl, e, f, rfl⟩
        refine tr_up (n := n + 13 + 9 * i + 9) ?_ hn'
        refine tr_set (ev_modN (ev_int1 (ea_cons (ev_var rfl) ea_nil)) (ev_var rfl) (by omega)) (of_decide_eq_true rfl) ?_
        refine tr_open (i := 13) rfl fun at_ hat => tr_open (i := 12) rfl fun wd hwd => ?_
        refine tr_set (ev_sgn (ev_var rfl) (ev_modN (ev_int1 (ea_cons (ev_add (ev_var rfl) (ev_mulS (ev_var rfl) (ev_var rfl) (by omega))) ea_nil)) ev_int (by decide))) (of_decide_eq_true rfl) ?_
        refine tr_appL (P1 := kLz 17) (ev_addLz (a := 9) (b := 8) (ev_addLz (a := 8) (b := 1) (ev_cutS hwd (by decide) (ev_var rfl) part_none (part_var rfl)) (ev_var rfl) (by decide)) (ev_cutS hwd (by decide) (ev_var rfl) (part_add1 rfl) part_none) (by decide)) rfl (by simp; omega) ⟨by omega, _, _, _, _, _, by rw [List.replicate_succ'], rfl⟩
    · rintro n' Γ' O' ⟨rfl, a, c, d, e, f, rfl, rfl⟩
      rw [kRange_len]
      exact ⟨by omega, a, c, d, e, f, rfl, rfl⟩
  · rintro n' Γ' O' ⟨hn', a, c, d, e, f, rfl, rfl⟩
    refine tr_close (i := 10) (P1 := kL (List.replicate z (kLz 17))) rfl kL_of (tr_ret (P := kNmL) (ev_imp (ev_var (i := 10) rfl) fun G v h => ?_) ⟨hn', rfl⟩)
    obtain ⟨xs, ⟨h1, h2⟩, pv⟩ := kL_rep G v h
    exact ⟨xs, ⟨fun z0 => by rw [z0] at h1; simp at h1; omega, by omega, fun x hx => (h2 x hx).1⟩, pv⟩
end
end Ll
end

section
set_option Elab.async false
set_option linter.all false
set_option maxRecDepth 100000
set_option maxHeartbeats 1000000
/-! Ll: machines drawn and given. -/
namespace Ll
open PySem PySem.Spec PyProof.Rows L2
abbrev Deeds := List (Str × List Nat)
/-- a dict of rows being built -/
def bDs (ds : Deeds) : Ob where
  ok := fun G o => ∃ ps : List (L2.Key × V), o = .dK ps ∧ ps.map (·.1) = ds.map (fun d => (Sum.inr d.1 : L2.Key)) ∧ AllK G (ds.map fun d => kD (eRow d.2)) (ps.map (·.2))
  mono := fun G G' o l h => by
    obtain ⟨ps, e, h, a⟩ := h
    exact ⟨ps, e, h, AllK.mono l a⟩
def dput (ds : Deeds) (x : Str) (r : List Nat) : Deeds := if (ds.any fun d => decide (d.1 = x)) = true then ds.map (fun d => if d.1 = x then (d.1, r) else d) else ds ++ [(x, r)]
theorem any_key : ∀ {ps : List (L2.Key × V)} {ds : Deeds} {x : Str}, ps.map (·.1) = ds.map (fun d => (Sum.inr d.1 : L2.Key)) → (ps.any fun kv => decide (kv.1 = Sum.inr x)) = ds.any fun d => decide (d.1 = x)
  | [], [], _, _ => rfl
  | p :: ps, d :: ds, x, h => by
    simp only [List.map_cons, List.cons.injEq] at h
    rw [List.any_cons, List.any_cons, any_key h.2, h.1]
    congr 1
    by_cases q : d.1 = x
    · simp [q]
    · have : ¬((Sum.inr d.1 : L2.Key) = Sum.inr x) := fun z => q (Sum.inr.inj z)
      simp [q, this]
theorem put_map {G : Hp} {x : Str} {r : List Nat} {v : V} (hv : (kD (eRow r)).p G v) : ∀ {ps : List (L2.Key × V)} {ds : Deeds}, ps.map (·.1) = ds.map (fun d => (Sum.inr d.1 : L2.Key)) → AllK G (ds.map fun d => kD (eRow d.2)) (ps.map (·.2)) →
    (ps.map fun kv => if kv.1 = Sum.inr x then (kv.1, v) else kv).map (·.1) = (ds.map fun d => if d.1 = x then (d.1, r) else d).map (fun d => (Sum.inr d.1 : L2.Key)) ∧ AllK G ((ds.map fun d => if d.1 = x then (d.1, r) else d).map fun d => kD (eRow d.2)) ((ps.map fun kv => if kv.1 = Sum.inr x then (kv.1, v) else kv).map (·.2))
  | [], [], _, _ => ⟨rfl, trivial⟩
  | p :: ps, d :: ds, h, a => by
    simp only [List.map_cons, List.cons.injEq] at h
    obtain ⟨h1, h2⟩ := put_map hv h.2 a.2
    simp only [List.map_cons]
    by_cases q : d.1 = x
    · have q2 : p.1 = Sum.inr x := by rw [h.1, q]
      rw [if_pos q, if_pos q2]
      exact ⟨by rw [h1, h.1], hv, h2⟩
    · have q2 : ¬p.1 = Sum.inr x := fun z => q (Sum.inr.inj (h.1.symm.trans z))
      rw [if_neg q, if_neg q2]
      exact ⟨by rw [h1, h.1], a.1, h2⟩
theorem put_ok {G : Hp} {ps : List (L2.Key × V)} {ds : Deeds} {x : Str} {r : List Nat} {v : V} (hv : (kD (eRow r)).p G v) (h : ps.map (·.1) = ds.map (fun d => (Sum.inr d.1 : L2.Key))) (a : AllK G (ds.map fun d => kD (eRow d.2)) (ps.map (·.2))) : (bDs (dput ds x r)).ok G (.dK (putK ps (.inr x) v)) := by
  refine ⟨_, rfl, ?_⟩
  unfold putK dput
  rw [any_key h]
  split
  · exact put_map hv h a
  · refine ⟨by rw [List.map_append, List.map_append, h]; rfl, ?_⟩
    rw [List.map_append, List.map_append]
    exact AllK.app (show AllK G [kD (eRow r)] [v] from ⟨hv, trivial⟩) a
/-- deeds of a machine of z states -/
structure DsOk (z : Nat) (ds : Deeds) : Prop where
  nd : (ds.map (·.1)).Nodup
  lt : ∀ d ∈ ds, Lt d.1
  rw : ∀ d ∈ ds, d.2.length = z ∧ ∀ x ∈ d.2, x < z
theorem dput_ok {z : Nat} {ds : Deeds} {x : Str} {r : List Nat} (h : DsOk z ds) (hx : Lt x) (hr : r.length = z ∧ ∀ y ∈ r, y < z) : DsOk z (dput ds x r) ∧ (dput ds x r).length ≤ ds.length + 1 ∧ dput ds x r ≠ [] := by
  unfold dput
  split
  · rename_i hany
    refine ⟨⟨?_, fun d hd => ?_, fun d hd => ?_⟩, by simp, fun e => ?_⟩
    · have : (ds.map fun d => if d.1 = x then (d.1, r) else d).map (·.1) = ds.map (·.1) := by
        rw [List.map_map]
        apply List.map_congr_left
        intro d _
        simp only [Function.comp]
        split <;> rfl
      rw [this]; exact h.nd
    · obtain ⟨e, he, rfl⟩ := List.mem_map.mp hd
      split
      · exact h.lt e he
      · exact h.lt e he
    · obtain ⟨e, he, rfl⟩ := List.mem_map.mp hd
      split
      · exact hr
      · exact h.rw e he
    · rw [List.map_eq_nil_iff] at e
      rw [e] at hany; cases hany
  · rename_i hany
    refine ⟨⟨?_, fun d hd => ?_, fun d hd => ?_⟩, by simp, by simp⟩
    · rw [List.map_append, List.nodup_append]
      refine ⟨h.nd, by simp, fun a ha b hb => ?_⟩
      have : b = x := by simpa using hb
      subst this
      intro e
      subst e
      obtain ⟨d, hd, e⟩ := List.mem_map.mp ha
      exact hany (List.any_eq_true.mpr ⟨d, hd, by simpa using e⟩)
    · rcases List.mem_append.mp hd with hd | hd
      · exact h.lt d hd
      · rw [List.mem_singleton.mp hd]; exact hx
    · rcases List.mem_append.mp hd with hd | hd
      · exact h.rw d hd
      · rw [List.mem_singleton.mp hd]; exact hr
section
variable {md : Md} {m n k : Nat} {Γ : Env} {O : Op md} {K : PySem.W.Frag} {tv ty te : TE} {t : TA} {rest : TS} {E : Es md}
theorem tr_dput {i : Nat} {p : Addr} {ds : Deeds} {x : Str} {S : List Nat → Prop} (h : Ev md m n tv Γ (kX S fun r => kD (eRow r))) (hi : Γ[i]? = some (some (kP p))) (hy : Ev md n n ty Γ (kD (.str x))) (hl : ds.length ≤ 100) (r : ∀ r, S r → Tr md n Γ (oOb p (bDs (dput ds x r))) rest E) :
    Tr md m Γ (oOb p (bDs ds)) (tSeq (sDPut (tVar i) ty tv) rest) E := fun G0 H0 Gb G H σ s D d =>
  h G H σ s.c _ fun v H1 G1 g1 j1 ⟨rw_, srw, pv⟩ => by
    have s1 := s.next g1 j1
    obtain ⟨w, hw, ew⟩ := s1.c.env.get i _ hi
    subst ew
    refine ⟨.ref p, hw, hy G1 H1 σ s1.c _ fun y H2 G2 g2 j2 py => ?_⟩
    have s2 := s1.next g2 j2
    obtain ⟨_, _, _, o, hp, ps, eo, hk, al⟩ := s2.o
    subst eo
    have hl2 : ps.length = ds.length := by have := congrArg List.length hk; simpa using this
    exact ⟨p, _, rfl, .inl ⟨ps, .inr x, hp, kD_str.mp py, Nat.lt_of_le_of_lt (by omega : ps.length ≤ 100) (by decide), rfl⟩, r rw_ srw G0 H0 Gb G2 _ σ (s2.write (put_ok ((kD (eRow rw_)).mono _ _ _ g2.le pv) hk al)) D d⟩
theorem tr_dputL {i : Nat} {p : Addr} {ds : Deeds} {x : Str} {S : List Nat → Prop} (h : Ev md m n tv Γ (kX S fun r => kD (eRow r))) (hi : Γ[i]? = some (some (kP p))) (hy : Ev md n n ty Γ (kD (.str x))) (hl : ds.length ≤ 100) (r : ∀ r, S r → E.nx n Γ (oOb p (bDs (dput ds x r)))) :
    Tr md m Γ (oOb p (bDs ds)) (sDPut (tVar i) ty tv) E := fun G0 H0 Gb G H σ s D d => tr_dput (rest := tNext) h hi hy hl (fun r' hr => tr_next (r r' hr)) G0 H0 Gb G H σ s D d
theorem kDt_of {M : Mc} {p : Addr} : ∀ G o, G p = some o → (bDs M.ds).ok G o → (kDt M).p G (.ref p) := fun G o e ⟨ps, eo, hk, al⟩ => by
  subst eo
  refine ⟨p, _, ps, rfl, e, rfl, ?_, ?_⟩
  · rw [hk, List.map_map]; rfl
  · rw [List.map_map]; exact al
theorem ev_tupRgF {z : Nat} (h : Ev md m n te Γ (kD (.int (z : Nat)))) (hz : z ≤ 1000000) : Ev md m n (tTupRgF (tRg1 te)) Γ (kSh ((List.range z).map fun i => ((i : Nat) : Int))) := fun G H σ c Q q =>
  h G H σ c _ fun v H1 G1 g j p => ⟨_, kD_int.mp p, RgOk.of_le (by omega) (by omega) (by omega) (by omega), fun a o hd ha =>
    q _ _ _ (g.trans (fun a z => md.dom _ _ a j (md.muk a z)) (Gr.new g.gh ha)) (md.st _ _ _ j fun b u _ e => same_new ha b u e) ⟨a, o, rfl, by
      rw [upd_same]
      have e : rgV 0 ((z : Nat) : Int) = ((List.range z).map fun i => ((i : Nat) : Int)).map V.int := by
        unfold rgV
        rw [show (((z : Nat) : Int) - 0).toNat = z by omega, List.map_map]
        apply List.map_congr_left
        intro i _
        simp
      rw [e], hd⟩⟩
theorem ev_tupFI {l : List Int} (h : EvA md m n t Γ (l.map fun i => kD (.int i))) (hl : l.length ≤ 1000) : Ev md m n (tTupF t) Γ (kSh l) := fun G H σ c Q q =>
  h G H σ c _ fun vs H1 G1 g j a => by
    have e := allK_int a
    subst e
    exact ⟨Nat.le_trans (by simpa using hl) (by decide), fun p o hd hp => q _ _ _ (g.trans (fun a z => md.dom _ _ a j (md.muk a z)) (Gr.new g.gh hp)) (md.st _ _ _ j fun b u _ e => same_new hp b u e) ⟨p, o, rfl, upd_same, hd⟩⟩
theorem ev_tupLF {ι : Type} {S : ι → Prop} {f : ι → List Int} (h : EvA md m n t Γ [kX S fun x => kL ((f x).map fun i => kD (.int i))]) : Ev md m n (tCB (cTupF K) t) Γ (kX S fun x => kSh (f x)) :=
  ev_cb1 h fun G H v s jj ⟨x, sx, a, xs, e, hs, ax⟩ => fun Q q => ⟨a, xs, by rw [e], SqL.of (s _ _ hs), fun p o hd hp => q _ _ _ (Gr.new s hp) (md.st _ _ _ jj fun b u _ e => same_new hp b u e) ⟨x, sx, p, o, rfl, by rw [upd_same, allK_int ax], hd⟩⟩
/-! dict displays -/
def EvP (md : Md) (m n : Nat) (trs : List (TE × TE)) (Γ : Env) (ds : Deeds) : Prop := ∀ G H σ, Ctx md m G H σ Γ → ∀ Q : List (V × V) → Hp → Prop, (∀ ps H2 G2, Gr md.mu G H G2 H2 → md.J n H2 → ps.map (·.1) = ds.map (fun d => V.str d.1) → AllK G2 (ds.map fun d => kD (eRow d.2)) (ps.map (·.2)) → Q ps H2) → tPairs trs σ H Q
theorem ep_nil : EvP md n n [] Γ [] := fun G H σ c Q q => q [] H G (Gr.refl c.gh) c.j rfl trivial
theorem ep_cons {trs : List (TE × TE)} {ds : Deeds} {x : Str} {r : List Nat} (h : Ev md m m tv Γ (kD (.str x))) (h2 : Ev md m n te Γ (kD (eRow r))) (hr : EvP md n k trs Γ ds) : EvP md m k ((tv, te) :: trs) Γ ((x, r) :: ds) := fun G H σ c Q q =>
  h G H σ c _ fun v H1 G1 g1 j1 p1 => h2 G1 H1 σ (c.next g1 j1) _ fun w H2 G2 g2 j2 p2 => by
    have g12 := g1.trans (fun a z => md.dom _ _ a j1 (md.muk a z)) g2
    exact hr G2 H2 σ (c.next g12 j2) _ fun ps H3 G3 g3 j3 e a => q _ H3 G3 (g12.trans (fun a z => md.dom _ _ a j2 (md.muk a z)) g3) j3 (by rw [List.map_cons, List.map_cons, e, kD_str.mp p1]) ⟨(kD (eRow r)).mono _ _ _ g3.le p2, a⟩
theorem merge_nodup : ∀ {kvs acc : List (L2.Key × V)}, ((acc ++ kvs).map (·.1)).Nodup → mergeK acc kvs = acc ++ kvs
  | [], acc, _ => (List.append_nil acc).symm
  | q :: r, acc, h => by
    have hq : valV acc q.1 = none := by
      cases e : valV acc q.1 with
      | none => rfl
      | some v =>
        have h1 := valV_in e
        rw [List.map_append, List.nodup_append] at h
        exact absurd rfl (h.2.2 q.1 h1 q.1 (by simp))
    show mergeK (putK acc q.1 q.2) r = _
    rw [putK_new _ hq, merge_nodup (by rw [List.append_assoc]; exact h), List.append_assoc]; rfl
theorem ev_disp {trs : List (TE × TE)} {ds : Deeds} (h : EvP md m n trs Γ ds) (nd : (ds.map (·.1)).Nodup) (hl : ds.length ≤ 15) : Ev md m n (tDisp trs) Γ (kDic (ds.map fun d => (Sum.inr d.1, kD (eRow d.2)))) := fun G H σ c Q q => fun p hp => by
  have s0 := (St.of c).open' (k := bDs []) (o := .dK []) hp ⟨[], rfl, rfl, trivial⟩
  refine h G _ σ s0.c _ fun ps H2 G2 g2 j2 e a => ?_
  have s2 := s0.next g2 j2
  obtain ⟨_, _, gp, o, hp2, ps0, eo, hk0, _⟩ := s2.o
  have e0 : ps0 = [] := by simpa using hk0
  subst eo e0
  have pairs : ∀ {ps : List (V × V)} {ds : Deeds}, ps.map (·.1) = ds.map (fun d => V.str d.1) → ∃ kvs : List (L2.Key × V), ps = kvs.map (fun kv => (L2.kV kv.1, kv.2)) ∧ kvs.map (·.1) = ds.map (fun d => (Sum.inr d.1 : L2.Key)) ∧ kvs.map (·.2) = ps.map (·.2) := fun {ps} => by
    induction ps with
    | nil => intro ds h; cases ds with
      | nil => exact ⟨[], rfl, rfl, rfl⟩
      | cons _ _ => cases h
    | cons p ps ih => intro ds h; cases ds with
      | nil => cases h
      | cons d ds =>
        simp only [List.map_cons, List.cons.injEq] at h
        obtain ⟨kvs, h1, h2, h3⟩ := ih h.2
        refine ⟨(.inr d.1, p.2) :: kvs, ?_, by simp [h2], by simp [h3]⟩
        rw [List.map_cons, ← h1]
        congr 1
        exact Prod.ext h.1 rfl
  obtain ⟨kvs, h1, h2, h3⟩ := pairs e
  have hlen : kvs.length = ds.length := by have := congrArg List.length h2; simpa using this
  have nd2 : (kvs.map (·.1)).Nodup := by
    rw [h2]
    have : ds.map (fun d => (Sum.inr d.1 : L2.Key)) = (ds.map (·.1)).map Sum.inr := by rw [List.map_map]; rfl
    rw [this]
    exact List.Pairwise.map _ (fun a b h z => h (Sum.inr.inj z)) nd
  refine ⟨hp2, kvs, h1, by omega, ?_⟩
  rw [merge_nodup (acc := []) (by simpa using nd2), List.nil_append]
  have s3 := s2.write (k' := bDs ds) (o' := .dK kvs) ⟨kvs, rfl, h2, by rw [h3]; exact a⟩
  obtain ⟨o3, hp3, ⟨ps3, eo3, hk3, al3⟩, s4⟩ := s3.close
  have e3 : ps3 = kvs := by rw [upd_same] at hp3; rw [eo3] at hp3; cases hp3; rfl
  subst eo3 e3
  refine q _ _ _ s4.gr s4.c.j ⟨p, _, _, rfl, upd_same, rfl, ?_, ?_⟩
  · rw [hk3, List.map_map]; rfl
  · rw [List.map_map]
    exact AllK.mono (le_same (same_new gp)) al3
end
end Ll
end

section
set_option Elab.async false
set_option linter.all false
set_option maxRecDepth 100000
set_option maxHeartbeats 1000000
/-! Ll, walks: _law_machine, the given machines, _law_known, _law_some_machine. -/
namespace Ll
open PySem PySem.Spec PyProof.Rows L2
def kMts : Kn := kX Mc.Ok kMt
def R_lmachine (ks : List Kn) (P : Kn) : Prop := ks = [kD (.int 5), kD (.int 3)] ∧ P = kMts
abbrev sp_l_machine : Sp := spB 300 R_lmachine
theorem mc_ok {z : Nat} {ds : Deeds} {sh : List Int} (h1 : 0 < z) (h6 : z ≤ 6) (d0 : ds ≠ []) (d8 : ds.length ≤ 8) (h : DsOk z ds) (hs : sh.length = z) : Mc.Ok ⟨z, ds, sh⟩ := ⟨h1, h6, d0, d8, h.nd, h.lt, h.rw, hs⟩
theorem ev_pow {md : Md} {m n k : Nat} {Γ : Env} {ta tb : TE} {i j : Int} (ha : Ev md m n ta Γ (kD (.int i))) (hb : Ev md n k tb Γ (kD (.int j))) (h : CPow i j) : Ev md m k (tOp rPowI ta tb) Γ (kD (.int (i ^ j.toNat))) := ev_i1D ha hb h fun _ => .int _
section
variable {P : Program} {w : World} {K : PySem.W.Frag} {mg : Str → Option Value} {base : Heap}
theorem cal_lmachine (B : Bi mg) (c1 : Cal P w K mg base 1 "_law_take" ["_law_box_here", "_law_below_so"] sp_l_take) (c2 : Cal P w K mg base 2 "_law_of" ["_law_box_here", "_law_some"] sp_l_of) (c3 : Cal P w K mg base 3 "_law_names" ["_law_box_here", "_law_some"] sp_l_names) (c4 : Cal P w K mg base 3 "_law_moves" ["_law_box_here", "_law_many_so"] sp_l_moves)
    (F : Fd K mg "_law_machine" 44) : Cal P w K mg base 4 "_law_machine" ["_law_box_here", "_law_most_so", "_law_deeds_so"] sp_l_machine := by
  refine cal_B F sc__law_machine (by decide) (fun _ _ _ _ _ _ us hl => match us, hl with | [_, _, _], _ => rfl) (fun ks Pk ⟨e, _⟩ => by rw [e]; rfl) (fun f cdv A outer s H E hr => der__law_machine B c1 c2 c3 c4 hr) ?_
  rintro b n ks P ⟨rfl, rfl⟩ hn
  have tk : ∀ {Γ : Env} {m : Nat} {te : TE} (l : Nat), Γ[0]? = some (some (kP b)) → Ev (mB b) m m te Γ (kD (eI l)) → 0 < l → l ≤ 1000 → m + 1 ≤ 1000000 → Ev (mB b) m (m + 1) (tCall sp_l_take [] E0 (tCons (tVar 0) (tCons te tNil))) Γ (kN l) := fun l h0 ht h1 h2 hm => ev_callB (ea_cons (ev_var h0) (ea_cons ht ea_nil)) ⟨l, rfl, h1, h2, rfl⟩ hm
  refine tr_par2new (n := n + 1) (k := bDs []) (P1 := kX (fun r : Nat => 1 ≤ r ∧ r ≤ 5) fun r => kD (eI r)) (ev_add1 (tk 5 rfl (ev_var rfl) (by decide) (by decide) (by omega)) rfl) new_dK (fun G => ⟨[], rfl, rfl, trivial⟩) (of_decide_eq_true rfl) (of_decide_eq_true rfl) fun p => ?_
  refine tr_open (i := 3) rfl fun z hz => ?_
  let Gm : Option Kn → Option Kn → Env := fun a c => [some (kP b), some (kD (.int 5)), some (kD (.int 3)), some (kD (eI z)), some (kP p), a, c, none]
  refine tr_seq (fun n' Γ' O' => n' ≤ n + 262 ∧ ∃ (ds : Deeds) (a : Option Kn), O' = oOb p (bDs ds) ∧ Γ' = Gm a none ∧ DsOk z ds ∧ ds ≠ [] ∧ ds.length ≤ 8) ?_ ?_
  · refine tr_forL (n0 := n + 1 + 1 + 100) (S := fun ws : List Str => ws ≠ [] ∧ ws.length ≤ 8 ∧ ∀ x ∈ ws, Lt x) (kf := fun ws => ws.map fun x => kD (.str x)) ?_ fun ws hws => ⟨fun i n' Γ' O' => n' = n + 102 + 20 * i ∧ ∃ (ds : Deeds) (a : Option Kn), O' = oOb p (bDs ds) ∧ Γ' = Gm a none ∧ DsOk z ds ∧ (0 < i → ds ≠ []) ∧ ds.length ≤ i ∧ i ≤ ws.length, ⟨by omega, [], _, rfl, rfl, ⟨by simp, (fun _ h => nomatch h), (fun _ h => nomatch h)⟩, (fun h => absurd h (Nat.lt_irrefl _)), Nat.le_refl _, Nat.zero_le _⟩, ?_, ?_⟩
    · intro G H σ c Q q
      show tCall sp_l_names [] E0 _ σ H Q
      -- 1 + take(3), then names
      have h1 : Ev (mB b) (n + 1) (n + 1 + 1) (tOp rAddI (tC (.int 1)) (tCall sp_l_take [] E0 (tCons (tVar 0) (tCons (tVar 2) tNil)))) (Gm none none) (kX (fun r : Nat => 1 ≤ r ∧ r ≤ 3) fun r => kD (eI r)) := ev_add1 (tk 3 rfl (ev_var rfl) (by decide) (by decide) (by omega)) rfl
      obtain ⟨v0, hv0, e0⟩ := c.env.get 0 (kP b) rfl
      have e0 : v0 = .ref b := e0
      subst e0
      refine ⟨.ref b, hv0, h1 G H σ c _ fun v H1 G1 g1 j1 ⟨l, hl, pv⟩ => ?_⟩
      have hb1 : Bx b (n + 1 + 1) H1 := j1
      refine ⟨b, G1, n + 1 + 1, [kD (eI l)], kNmL, [v], rfl, g1.gh, hb1, g1.nw b ((mB b).dom _ _ b c.j rfl) (c.sep b rfl), by omega, ⟨l, rfl, by omega, by omega, rfl⟩, ⟨pv, trivial⟩, fun u H2 G2 g2 j2 p2 => ?_⟩
      exact q u H2 G2 (g1.trans (fun a z => (mB b).dom _ _ a j1 z) g2) j2 p2
    · rintro i k n' Γ' O' hk ⟨rfl, ds, a, rfl, rfl, hds, hne, hle, hiw⟩
      rw [List.getElem?_map] at hk
      cases q : ws[i]? with
      | none => rw [q] at hk; cases hk
      | some x =>
        rw [q] at hk; cases hk
        have hx : Lt x := hws.2.2 x (List.mem_of_getElem? q)
        have hiw' : i < ws.length := (List.getElem?_eq_some_iff.mp q).1
        refine ⟨_, _, tgt_name (of_decide_eq_true rfl), tr_dputL (n := n + 102 + 20 * i + 20) (S := fun r : List Nat => r.length = z ∧ ∀ x ∈ r, x < z) (ev_callB (ea_cons (ev_var rfl) (ea_cons (ev_var rfl) ea_nil)) ⟨z, rfl, by omega, by omega, rfl⟩ (by have := hws.2.1; omega)) rfl (ev_var rfl) (by have := hws.2.1; omega) fun r hr => ?_⟩
        obtain ⟨h1, h2, h3⟩ := dput_ok hds hx hr
        exact ⟨by omega, _, _, rfl, rfl, h1, fun _ => h3, by omega, hiw'⟩
    · rintro n' Γ' O' ⟨rfl, ds, a, rfl, rfl, hds, hne, hle, hiw⟩
      rw [List.length_map] at *
      have h0 : 0 < ws.length := List.length_pos_iff.mpr hws.1
      have := hws.2.1
      exact ⟨by omega, ds, a, rfl, rfl, hds, hne h0, by omega⟩
  · rintro n' Γ' O' ⟨hn', ds, a, rfl, rfl, hds, hne, hle⟩
    refine tr_up (n := n + 262) ?_ hn'
    refine tr_set (P1 := kX (fun l : List Int => l.length = z) kSh) (ev_imp (ev_tupRgF (ev_var rfl) (by omega)) fun G v h => ⟨_, by simp, h⟩) (of_decide_eq_true rfl) ?_
    refine tr_seq (fun n' Γ' O' => n' ≤ n + 300 ∧ O' = oOb p (bDs ds) ∧ Γ' = Gm a (some (kX (fun l : List Int => l.length = z) kSh))) ?_ ?_
    · refine tr_if (n := n + 263) (S := fun _ => True) (fun G H σ c Q q => ?_) (fun _ => ?_) fun _ => tr_next ⟨by omega, rfl, rfl⟩
      · exact tk (m := n + 262) (te := tC (.int 3)) 3 rfl ev_int (by decide) (by decide) (by omega) G H σ c _ fun v H1 G1 g1 j1 ⟨r, _, pr⟩ => by
          rw [kD_int.mp pr]
          exact ⟨rfl, _, rfl, q _ H1 G1 g1 j1 trivial⟩
      · refine tr_setL (n := n + 263 + (List.range z).length * 1) (ev_imp (ev_tupLF (S := fun l : List Int => l.length = z) (f := fun l => l) (ea_cons (ev_imp (ev_lcC 1 (xs := List.range z) (kf := fun i => kD (.int (i : Nat))) (pf := kX (fun _ : Int => True) fun i => kD (.int i)) (src_range (j := z) (ea_cons (ev_var rfl) ea_nil) (by omega)) (by simp; omega) (fun i => [some (kP b), some (kD (.int 5)), some (kD (.int 3)), some (kD (eI z)), some (kP p), a, some (kX (fun l : List Int => l.length = z) kSh), some (kD (.int (i : Nat)))]) (fun i => tgt_name (of_decide_eq_true rfl)) fun i x hx => ?_) fun G v h => ?_) ea_nil)) fun G v h => h) (of_decide_eq_true rfl) ⟨by simp; omega, rfl, rfl⟩
        · have hi : i < z := by have := (List.getElem?_eq_some_iff.mp hx).1; simpa using this
          refine ev_callB (R := R_of) (ea_cons (ev_var rfl) (ea_cons (ev_lst (ea_cons ev_int (ea_cons ev_int (ea_cons ev_int (ea_cons (ev_neg ev_int) (ea_cons (ev_pow ev_int ev_int (by unfold CPow; decide)) ea_nil))))) (by simp)) ea_nil)) ⟨_, rfl, by simp, by simp, fun k hk G v p => ?_⟩ (by omega)
          simp only [List.mem_cons, List.mem_nil_iff, or_false] at hk
          rcases hk with rfl | rfl | rfl | rfl | rfl <;> exact ⟨_, trivial, p⟩
        · obtain ⟨xs, ⟨h1, _⟩, p⟩ := kL_rep G v h
          exact ⟨xs, (show xs.length = z by rw [h1]; simp), p⟩
    · rintro n' Γ' O' ⟨hn', rfl, rfl⟩
      refine tr_open (i := 6) rfl fun sh hsh => ?_
      refine tr_close (i := 4) (P1 := kDt ⟨z, ds, sh⟩) rfl (fun G o e h => kDt_of (M := ⟨z, ds, sh⟩) G o e h) ?_
      exact tr_ret (P := kMts) (ev_imp (ev_tup (ea_cons (ev_var (i := 3) rfl) (ea_cons (ev_var (i := 4) rfl) (ea_cons (ev_var (i := 6) rfl) ea_nil))) (by simp)) fun G v h => ⟨⟨z, ds, sh⟩, mc_ok (by omega) (by omega) hne hle hds hsh, h⟩) ⟨hn', rfl⟩
/-! ### the given ones -/
def M_lamp : Mc := ⟨2, [("on", [1, 1]), ("off", [0, 0]), ("flip", [1, 0])], [0, 1]⟩
def M_copier : Mc := ⟨4, [("set", [2, 3, 2, 3]), ("clear", [0, 1, 0, 1]), ("copy", [0, 0, 3, 3])], [0, 1, 2, 3]⟩
def M_lamps : Mc := ⟨4, [("ona", [2, 3, 2, 3]), ("onb", [1, 1, 3, 3]), ("offa", [0, 1, 0, 1]), ("offb", [0, 0, 2, 2]), ("dark", [0, 0, 0, 0])], [0, 1, 2, 3]⟩
def M_dial (z : Nat) : Mc := ⟨z, [("up", (List.range z).map fun k => if k + 1 < z then k + 1 else z - 1), ("down", (List.range z).map fun k => k - 1)], (List.range z).map fun i => ((i : Nat) : Int)⟩
instance (x : Str) : Decidable (Lt x) := inferInstanceAs (Decidable (∀ c ∈ x.cps.toList, 97 ≤ c ∧ c ≤ 122))
theorem lamp_ok : M_lamp.Ok := ⟨by decide, by decide, by decide, by decide, by decide +kernel, by decide +kernel, by decide +kernel, by decide⟩
theorem copier_ok : M_copier.Ok := ⟨by decide, by decide, by decide, by decide, by decide +kernel, by decide +kernel, by decide +kernel, by decide⟩
theorem lamps_ok : M_lamps.Ok := ⟨by decide, by decide, by decide, by decide, by decide +kernel, by decide +kernel, by decide +kernel, by decide⟩
theorem dial3_ok : (M_dial 3).Ok := ⟨by decide, by decide, by decide, by decide, by decide +kernel, by decide +kernel, by decide +kernel, by decide⟩
theorem dial4_ok : (M_dial 4).Ok := ⟨by decide, by decide, by decide, by decide, by decide +kernel, by decide +kernel, by decide +kernel, by decide⟩
def R_one (M : Mc) (ks : List Kn) (P : Kn) : Prop := ks = [] ∧ P = kMt M
def R_dial (ks : List Kn) (P : Kn) : Prop := ∃ z : Nat, ks = [kD (eI z)] ∧ 0 < z ∧ z ≤ 6 ∧ P = kMt (M_dial z)
theorem ev_rowI {md : Md} {m n : Nat} {Γ : Env} {t : TA} {l : List Nat} (h : EvA md m n t Γ (l.map fun i => kD (eI i))) (hl : l.length ≤ 1000) : Ev md m n (tTup t) Γ (kD (eRow l)) := ev_tupD (ev_tup h (by simp; omega))
theorem cal_lamp (B : Bi mg) (F : Fd K mg "_law_lamp" 45) : Cal P w K mg base 1 "_law_lamp" [] (spQ (R_one M_lamp)) := by
  refine cal_Q F sc__law_lamp (by decide) (fun _ _ _ _ _ _ us hl => match us, hl with | [], _ => rfl) (fun ks Pk ⟨e, _⟩ => by rw [e]; rfl) (fun f cdv A outer s H E hr => der__law_lamp B hr) ?_
  rintro ks Pk ⟨rfl, rfl⟩
  exact .inl (tr_ret (P := kMt M_lamp) (ev_tup (ea_cons ev_int (ea_cons (ev_disp (ds := M_lamp.ds) (ep_cons ev_str (ev_rowI (l := [1, 1]) (ea_cons ev_int (ea_cons ev_int ea_nil)) (by decide)) (ep_cons ev_str (ev_rowI (l := [0, 0]) (ea_cons ev_int (ea_cons ev_int ea_nil)) (by decide)) (ep_cons ev_str (ev_rowI (l := [1, 0]) (ea_cons ev_int (ea_cons ev_int ea_nil)) (by decide)) ep_nil))) lamp_ok.nd (by decide))
    (ea_cons (ev_tupFI (l := [0, 1]) (ea_cons ev_int (ea_cons ev_int ea_nil)) (by decide)) ea_nil))) (by simp)) ⟨rfl, rfl⟩)
theorem ea4 {md : Md} {n : Nat} {Γ : Env} {a b c d : Int} : EvA md n n (tCons (tC (.int a)) (tCons (tC (.int b)) (tCons (tC (.int c)) (tCons (tC (.int d)) tNil)))) Γ [kD (.int a), kD (.int b), kD (.int c), kD (.int d)] := ea_cons ev_int (ea_cons ev_int (ea_cons ev_int (ea_cons ev_int ea_nil)))
theorem cal_copier (B : Bi mg) (F : Fd K mg "_law_copier" 47) : Cal P w K mg base 1 "_law_copier" [] (spQ (R_one M_copier)) := by
  refine cal_Q F sc__law_copier (by decide) (fun _ _ _ _ _ _ us hl => match us, hl with | [], _ => rfl) (fun ks Pk ⟨e, _⟩ => by rw [e]; rfl) (fun f cdv A outer s H E hr => der__law_copier B hr) ?_
  rintro ks Pk ⟨rfl, rfl⟩
  exact .inl (tr_ret (P := kMt M_copier) (ev_tup (ea_cons ev_int (ea_cons (ev_disp (ds := M_copier.ds) (ep_cons ev_str (ev_rowI (l := [2, 3, 2, 3]) ea4 (by decide)) (ep_cons ev_str (ev_rowI (l := [0, 1, 0, 1]) ea4 (by decide)) (ep_cons ev_str (ev_rowI (l := [0, 0, 3, 3]) ea4 (by decide)) ep_nil))) copier_ok.nd (by decide))
    (ea_cons (ev_tupFI (l := [0, 1, 2, 3]) ea4 (by decide)) ea_nil))) (by simp)) ⟨rfl, rfl⟩)
theorem cal_lamps (B : Bi mg) (F : Fd K mg "_law_lamps" 48) : Cal P w K mg base 1 "_law_lamps" [] (spQ (R_one M_lamps)) := by
  refine cal_Q F sc__law_lamps (by decide) (fun _ _ _ _ _ _ us hl => match us, hl with | [], _ => rfl) (fun ks Pk ⟨e, _⟩ => by rw [e]; rfl) (fun f cdv A outer s H E hr => der__law_lamps B hr) ?_
  rintro ks Pk ⟨rfl, rfl⟩
  refine .inl (tr_set (P1 := kDt M_lamps) (ev_disp (ds := M_lamps.ds) (ep_cons ev_str (ev_rowI (l := [2, 3, 2, 3]) ea4 (by decide)) (ep_cons ev_str (ev_rowI (l := [1, 1, 3, 3]) ea4 (by decide)) (ep_cons ev_str (ev_rowI (l := [0, 1, 0, 1]) ea4 (by decide)) (ep_cons ev_str (ev_rowI (l := [0, 0, 2, 2]) ea4 (by decide)) (ep_cons ev_str (ev_rowI (l := [0, 0, 0, 0]) ea4 (by decide)) ep_nil))))) lamps_ok.nd (by decide)) (of_decide_eq_true rfl) ?_)
  exact tr_ret (P := kMt M_lamps) (ev_tup (ea_cons ev_int (ea_cons (ev_var rfl) (ea_cons (ev_tupFI (l := [0, 1, 2, 3]) ea4 (by decide)) ea_nil))) (by simp)) ⟨rfl, rfl⟩
theorem cal_dial (B : Bi mg) (F : Fd K mg "_law_dial" 46) : Cal P w K mg base 1 "_law_dial" ["_law_many_so"] (spQ R_dial) := by
  refine cal_Q F sc__law_dial (by decide) (fun _ _ _ _ _ _ us hl => match us, hl with | [_], _ => rfl) (fun ks Pk ⟨_, e, _⟩ => by rw [e]; rfl) (fun f cdv A outer s H E hr => der__law_dial B hr) ?_
  rintro ks Pk ⟨z, rfl, hz0, hz6, rfl⟩
  refine .inl (tr_par (P1 := kLN ((List.range z).map fun k => if k + 1 < z then k + 1 else z - 1)) (P2 := kLN ((List.range z).map fun k => k - 1)) (ea_cons (ev_imp (ev_lcX (xs := List.range z) (pf := fun k => kD (eI (if k + 1 < z then k + 1 else z - 1))) (src_range (j := z) (ea_cons (ev_var rfl) ea_nil) (by omega)) (by simp; omega) (fun k => [some (kD (eI z)), none, none, some (kD (eI k))]) (fun k => tgt_name (of_decide_eq_true rfl)) fun k hk => ?_) fun G v h => by unfold kLN; rw [List.map_map]; exact h)
    (ea_cons (ev_imp (ev_lcX (xs := List.range z) (pf := fun k => kD (eI (k - 1))) (src_range (j := z) (ea_cons (ev_var rfl) ea_nil) (by omega)) (by simp; omega) (fun k => [some (kD (eI z)), none, none, some (kD (eI k))]) (fun k => tgt_name (of_decide_eq_true rfl)) fun k hk => ?_) fun G v h => by unfold kLN; rw [List.map_map]; exact h) ea_nil)) (of_decide_eq_true rfl) (of_decide_eq_true rfl) ?_)
  · have hk' : k < z := List.mem_range.mp hk
    refine ev_imp (ev_min2 (ea_cons (ev_add (ev_var rfl) ev_int) (ea_cons (ev_sub (ev_var rfl) ev_int) ea_nil))) fun G v h => ?_
    rw [kD_int.mp h]
    refine kD_int.mpr ?_
    congr 1
    split <;> split <;> omega
  · have hk' : k < z := List.mem_range.mp hk
    refine ev_imp (ev_max2 (ea_cons (ev_sub (ev_var rfl) ev_int) (ea_cons ev_int ea_nil))) fun G v h => ?_
    rw [kD_int.mp h]
    refine kD_int.mpr ?_
    congr 1
    split <;> omega
  · exact tr_ret (P := kMt (M_dial z)) (ev_tup (ea_cons (ev_var rfl) (ea_cons (ev_disp (ds := (M_dial z).ds) (ep_cons ev_str (ev_tup0 (ea_cons (ev_var rfl) ea_nil)) (ep_cons ev_str (ev_tup0 (ea_cons (ev_var rfl) ea_nil)) ep_nil)) (by show (["up", "down"] : List Str).Nodup; decide +kernel) (show 2 ≤ 15 by decide)) (ea_cons (ev_tupRgF (ev_var rfl) (by omega)) ea_nil))) (by simp)) ⟨rfl, rfl⟩
/-- dict of pairs, its keys in their order -/
theorem ev_dictD {md : Md} {m n : Nat} {Γ : Env} {t : TA} {ι : Type} {xs : List ι} {key : ι → Str} {kf : ι → Kn} (h : EvA md m n t Γ [kL (xs.map fun d => kT [kD (.str (key d)), kf d])]) (nd : (xs.map key).Nodup) : Ev md m n (tCB (cDic K) t) Γ (kDic (xs.map fun d => (Sum.inr (key d), kf d))) :=
  ev_cb1 h fun G H v s jj ⟨a, vs, e, hs, ax⟩ => by
    have main : ∀ {xs : List ι} {vs : List V}, AllK G (xs.map fun d => kT [kD (.str (key d)), kf d]) vs → ∃ (ps : List Addr) (kvs : List (L2.Key × V)), vs = ps.map V.ref ∧ Paired (fun p kv => SqT K H p [L2.kV kv.1, kv.2]) ps kvs ∧ kvs.map (·.1) = xs.map (fun d => Sum.inr (key d)) ∧ AllK G (xs.map kf) (kvs.map (·.2)) := fun {xs} => by
      induction xs with
      | nil => intro vs h; rw [allK_nil h]; exact ⟨[], [], rfl, .nil, rfl, trivial⟩
      | cons d xs ih =>
        intro vs h
        match vs, h with
        | v :: vs, ⟨⟨q, us, e1, hq, au⟩, h2⟩ =>
          match us, au with
          | [u1, u2], ⟨a1, a2, _⟩ =>
            obtain ⟨ps, kvs, e2, pr, ek, hm⟩ := ih h2
            rw [kD_str.mp a1] at hq
            exact ⟨q :: ps, (.inr (key d), u2) :: kvs, by rw [e1, e2]; rfl, .cons (SqT.of (s _ _ hq)) pr, by rw [List.map_cons, List.map_cons, ek], a2, hm⟩
    obtain ⟨ps, kvs, e2, pr, ek, hm⟩ := main ax
    subst e2
    have nd2 : (kvs.map (·.1)).Nodup := by
      rw [ek]
      have : xs.map (fun d => (Sum.inr (key d) : L2.Key)) = (xs.map key).map Sum.inr := by rw [List.map_map]; rfl
      rw [this]
      exact List.Pairwise.map _ (fun a b h z => h (Sum.inr.inj z)) nd
    have em : mergeK [] kvs = kvs := by rw [merge_nodup (acc := []) (by simpa using nd2)]; rfl
    refine Out.new (o := .dK (mergeK [] kvs)) s jj (fun p hp => ⟨p, _, kvs, rfl, upd_same, by rw [em]; rfl, ?_, ?_⟩) fun Q q => ⟨a, ps, kvs, by rw [e], SqL.of (s _ _ hs), pr, fun p hp => q p hp⟩
    · rw [ek, List.map_map]; rfl
    · rw [List.map_map]; exact AllK.mono (le_same (same_new (s.free hp))) hm
def R_nil (ks : List Kn) (P : Kn) : Prop := ks = [] ∧ P = kMts
abbrev sp_l_known : Sp := spB 20 R_nil
theorem cal_known (B : Bi mg) (c1 : Cal P w K mg base 1 "_law_take" ["_law_box_here", "_law_below_so"] sp_l_take) (c2 : Cal P w K mg base 2 "_law_of" ["_law_box_here", "_law_some"] sp_l_of) (c3 : Cal P w K mg base 1 "_law_lamp" [] (spQ (R_one M_lamp))) (c4 : Cal P w K mg base 1 "_law_dial" ["_law_many_so"] (spQ R_dial)) (c5 : Cal P w K mg base 1 "_law_copier" [] (spQ (R_one M_copier))) (c6 : Cal P w K mg base 1 "_law_lamps" [] (spQ (R_one M_lamps)))
    (c7 : Cal P w K mg base 1 "_law_tags" ["_law_mat"] (spQ R_tags)) (F : Fd K mg "_law_known" 49) : Cal P w K mg base 3 "_law_known" ["_law_box_here"] sp_l_known := by
  refine cal_B F sc__law_known (by decide) (fun _ _ _ _ _ _ us hl => match us, hl with | [_], _ => rfl) (fun ks Pk ⟨e, _⟩ => by rw [e]; rfl) (fun f cdv A outer s H E hr => der__law_known B c1 c2 c3 c4 c5 c6 c7 hr) ?_
  rintro b n ks P ⟨rfl, rfl⟩ hn
  have tk : ∀ {Γ : Env} {m : Nat} (l : Nat), Γ[0]? = some (some (kP b)) → 0 < l → l ≤ 1000 → m + 1 ≤ 1000000 → Ev (mB b) m (m + 1) (tCall sp_l_take [] E0 (tCons (tVar 0) (tCons (tC (.int (l : Nat))) tNil))) Γ (kN l) := fun l h0 h1 h2 hm => ev_callB (ea_cons (ev_var h0) (ea_cons (P := kD (eI l)) ev_int ea_nil)) ⟨l, rfl, h1, h2, rfl⟩ hm
  refine tr_set (n := n + 1) (P1 := kMts) (ev_callB (R := R_of) (ea_cons (ev_var rfl) (ea_cons (ev_lst (ea_cons (ev_callQ ea_nil ⟨rfl, rfl⟩) (ea_cons (ev_callQ (ea_cons ev_int ea_nil) ⟨3, rfl, by decide, by decide, rfl⟩) (ea_cons (ev_callQ (ea_cons ev_int ea_nil) ⟨4, rfl, by decide, by decide, rfl⟩) (ea_cons (ev_callQ ea_nil ⟨rfl, rfl⟩) (ea_cons (ev_callQ ea_nil ⟨rfl, rfl⟩) ea_nil))))) (by simp)) ea_nil)) ⟨_, rfl, by simp, by simp, fun k hk G v p => ?_⟩ (by omega)) (of_decide_eq_true rfl) ?_
  · simp only [List.mem_cons, List.mem_nil_iff, or_false] at hk
    rcases hk with rfl | rfl | rfl | rfl | rfl
    · exact ⟨_, lamp_ok, p⟩
    · exact ⟨_, dial3_ok, p⟩
    · exact ⟨_, dial4_ok, p⟩
    · exact ⟨_, copier_ok, p⟩
    · exact ⟨_, lamps_ok, p⟩
  refine tr_open (i := 1) rfl fun M o => ?_
  have hd8 := o.d8
  refine tr_when (n := n + 2) (S := fun _ => True) (fun G H σ c Q q => ?_) (fun _ => tr_done (tr_ret (P := kMts) (ev_imp (ev_var (i := 1) rfl) fun G v h => ⟨M, o, h⟩) ⟨by omega, rfl⟩)) fun _ => tr_skip ?_
  · exact tk (m := n + 1) 2 rfl (by decide) (by decide) (by omega) G H σ c _ fun v H1 G1 g1 j1 ⟨r, _, pr⟩ => by
      rw [kD_int.mp pr]
      exact ⟨rfl, _, rfl, q _ H1 G1 g1 j1 trivial⟩
  refine tr_set (P1 := kTags M) (ev_callQ (ea_cons (ev_var rfl) ea_nil) ⟨M, o, rfl, rfl⟩) (of_decide_eq_true rfl) ?_
  refine tr_open (i := 2) rfl fun es pe => ?_
  have hel : es.length = M.ds.length := by rw [pe.length_eq]; exact nms_len
  have hne : 0 < es.length := by rw [hel]; exact List.length_pos_iff.mpr o.d0
  refine tr_set (n := n + 2 + es.length * 1) (P1 := kX (fun l : List Str => l ≠ [] ∧ l.Sublist es) fun l => kL (l.map fun x => kD (.str x))) (ev_orL (S := fun l : List Str => l.Sublist es) (f := fun l => l.map fun x => kD (.str x)) (ev_imp (ev_up' (ev_lc (ks := es.map fun x => kD (.str x)) (src_tup (ev_Dtup (f := .str) (ev_var rfl))) (by simp; omega) (fun i => match es[i]? with | some x => [some (kP b), some (kMt M), some (kD (eW es)), none, some (kD (.str x))] | none => []) (fun i k hk => ?_) (js := [4]) (by decide) (fun i => n + 2 + i * 1) (by simp) (fun i acc => ∃ l : List Str, acc = l.map (fun x => kD (.str x)) ∧ l.Sublist (es.take i)) ⟨[], rfl, List.nil_sublist _⟩ fun i k acc hk ⟨l, e, hl⟩ => ?_) (by simp)) fun G v ⟨acc, ⟨l, e, hl⟩, p⟩ => ⟨l, hl.trans (List.take_sublist _ _), by subst e; exact p⟩)
    (fun l h hne G v p => ⟨l, ⟨fun z => hne (by rw [z]; rfl), h⟩, p⟩) (ev_imp (ev_lst (ea_cons (ev_ixT (j := 0) (ev_Dtup (xs := es) (f := .str) (ev_var rfl)) ev_int (getK (d := ("" : Str)) hne)) ea_nil) (by simp)) fun G v p => ⟨[es.getD 0 ""], ⟨by simp, ?_⟩, p⟩)) (of_decide_eq_true rfl) (tr_open (i := 3) rfl fun l hl => ?_)
  · rw [List.getElem?_map] at hk
    cases q : es[i]? with
    | none => rw [q] at hk; cases hk
    | some x => rw [q] at hk; cases hk; simp only; exact tgt_name (of_decide_eq_true rfl)
  · rw [List.getElem?_map] at hk
    cases q : es[i]? with
    | none => rw [q] at hk; cases hk
    | some x =>
      rw [q] at hk; cases hk
      have hi : i < es.length := (List.getElem?_eq_some_iff.mp q).1
      simp only
      refine ⟨fun _ => True, n + 2 + i * 1 + 1, fun G H σ c Q q => ?_, fun _ => ⟨kD (.str x), ev_up' (ev_var rfl) (by omega), l ++ [x], by rw [e, List.map_append]; rfl, by rw [take_snoc q]; exact List.Sublist.append hl (List.Sublist.refl _)⟩, fun _ => ⟨by omega, l, e, by rw [take_snoc q]; exact hl.trans (List.sublist_append_left _ _)⟩⟩
      exact tk (m := n + 2 + i * 1) 3 rfl (by decide) (by decide) (by omega) G H σ c _ fun v H1 G1 g1 j1 ⟨r, _, pr⟩ => by
        rw [kD_int.mp pr]
        exact ⟨_, 0, rfl, rfl, _, rfl, q _ H1 G1 g1 j1 trivial⟩
  · cases es with
    | nil => simp at hne
    | cons a t => exact List.Sublist.cons_cons a (List.nil_sublist t)
  · have hll : l.length ≤ 8 := by have := hl.2.length_le; omega
    have hln : l.Nodup := hl.2.nodup (pe.nodup_iff.mpr o.nd)
    have hlm : ∀ x ∈ l, x ∈ M.nms := fun x hx => pe.mem_iff.mp (hl.2.subset hx)
    refine tr_ret (P := kMts) (ev_imp (ev_tup (ea_cons (ev_ixT (j := 0) (ev_var (i := 1) (P := kMt M) rfl) ev_int rfl) (ea_cons (ev_dictD (xs := l) (key := fun x => x) (kf := fun x => kD (eRow (M.row x))) (ea_cons (ev_lcX (xs := l) (kf := fun x => kD (.str x)) (pf := fun x => kT [kD (.str x), kD (eRow (M.row x))]) (src_list (ev_var rfl)) (by omega) (fun x => [some (kP b), some (kMt M), some (kD (eW es)), some (kL (l.map fun x => kD (.str x))), some (kD (.str x))]) (fun x => tgt_name (of_decide_eq_true rfl)) fun x hx => ev_tup (ea_cons (ev_var rfl) (ea_cons (ev_mrow o (ev_mtD o (ev_var rfl)) (ev_var rfl) (hlm x hx)) ea_nil)) (by simp)) ea_nil) (by rw [List.map_id']; exact hln))
      (ea_cons (ev_ixT (P := kSh M.sh) (j := 2) (ev_var (i := 1) (P := kMt M) rfl) ev_int rfl) ea_nil))) (by simp)) fun G v h => ⟨⟨M.n, l.map fun x => (x, M.row x), M.sh⟩, ⟨o.n1, o.n6, by simpa using hl.1, by simpa using hll, by rw [List.map_map]; show (l.map fun x => x).Nodup; rw [List.map_id']; exact hln, fun d hd => ?_, fun d hd => ?_, o.sl⟩, ?_⟩) ⟨by omega, rfl⟩
    · obtain ⟨x, hx, rfl⟩ := List.mem_map.mp hd; exact o.ltn (hlm x hx)
    · obtain ⟨x, hx, rfl⟩ := List.mem_map.mp hd; exact o.row_len (hlm x hx)
    · have e : kDt ⟨M.n, l.map fun x => (x, M.row x), M.sh⟩ = kDic (l.map fun x => (Sum.inr x, kD (eRow (M.row x)))) := by
        unfold kDt
        rw [List.map_map]; rfl
      show (kT [kD (eI M.n), kDt ⟨M.n, l.map fun x => (x, M.row x), M.sh⟩, kSh M.sh]).p G v
      rw [e]; exact h
def R_some (ks : List Kn) (P : Kn) : Prop := ks = [kD (.int 5), kD (.int 3)] ∧ P = kMts
abbrev sp_l_some_machine : Sp := spB 301 R_some
theorem cal_some (B : Bi mg) (c1 : Cal P w K mg base 1 "_law_take" ["_law_box_here", "_law_below_so"] sp_l_take) (c2 : Cal P w K mg base 4 "_law_machine" ["_law_box_here", "_law_most_so", "_law_deeds_so"] sp_l_machine) (c3 : Cal P w K mg base 3 "_law_known" ["_law_box_here"] sp_l_known) (F : Fd K mg "_law_some_machine" 50) :
    Cal P w K mg base 5 "_law_some_machine" ["_law_box_here", "_law_most_so", "_law_deeds_so"] sp_l_some_machine := by
  refine cal_B F sc__law_some_machine (by decide) (fun _ _ _ _ _ _ us hl => match us, hl with | [_, _, _], _ => rfl) (fun ks Pk ⟨e, _⟩ => by rw [e]; rfl) (fun f cdv A outer s H E hr => der__law_some_machine B c1 c2 c3 hr) ?_
  rintro b n ks P ⟨rfl, rfl⟩ hn
  have tk : ∀ {Γ : Env} {m : Nat} (l : Nat), Γ[0]? = some (some (kP b)) → 0 < l → l ≤ 1000 → m + 1 ≤ 1000000 → Ev (mB b) m (m + 1) (tCall sp_l_take [] E0 (tCons (tVar 0) (tCons (tC (.int (l : Nat))) tNil))) Γ (kN l) := fun l h0 h1 h2 hm => ev_callB (ea_cons (ev_var h0) (ea_cons (P := kD (eI l)) ev_int ea_nil)) ⟨l, rfl, h1, h2, rfl⟩ hm
  refine tr_ret (n := n + 301) (P := kMts) (ev_if (n := n + 1) (S := fun _ => True) (et_imp (et_and (n := n) (S := fun _ => True) (T := fun _ => True) (et_imp (et_cmpI (g := fun i j => decide (j < i)) (ev_var rfl) ev_int) fun _ _ => trivial) (fun _ => fun G H σ c Q q => ?_) (by omega)) fun _ _ => trivial) (fun _ => ev_up (ev_callB (c := 20) (R := R_nil) (ea_cons (ev_var rfl) ea_nil) ⟨rfl, rfl⟩ (by omega)) (by omega)) fun _ => ev_up (ev_callB (c := 300) (R := R_lmachine) (ea_cons (ev_var rfl) (ea_cons (ev_var rfl) (ea_cons (ev_var rfl) ea_nil))) ⟨rfl, rfl⟩ (by omega)) (by omega)) ⟨Nat.le_refl _, rfl⟩
  exact tk (m := n) 4 rfl (by decide) (by decide) (by omega) G H σ c _ fun v H1 G1 g1 j1 ⟨r, _, pr⟩ => by
    rw [kD_int.mp pr]
    exact ⟨rfl, _, rfl, q _ H1 G1 g1 j1 trivial⟩
end
end Ll
end

section
set_option Elab.async false
set_option linter.all false
set_option maxRecDepth 100000
set_option maxHeartbeats 1000000
/-! Ll, walk: _law_right. -/
namespace Ll
open PySem PySem.Spec PyProof.Rows L2
section
variable {md : Md} {m n k : Nat} {Γ : Env} {K : PySem.W.Frag} {ta tb te : TE}
theorem any_pairs {p : Str × Str} {qs : List (Str × Str)} (hp : Lt p.1 ∧ Lt p.2) (hq : ∀ q ∈ qs, Lt q.1 ∧ Lt q.2) : ((qs.map ePs).any fun z => PyData.eqv z (ePs p)) = decide (p ∈ qs) := by
  rw [Bool.eq_iff_iff, List.any_eq_true, decide_eq_true_iff]
  constructor
  · rintro ⟨z, hz, e⟩
    obtain ⟨q, hq', rfl⟩ := List.mem_map.mp hz
    rw [eqv_sh (sh_ePs (hq q hq').1 (hq q hq').2) (sh_ePs hp.1 hp.2)] at e
    rw [← ePs_inj _ _ e]; exact hq'
  · intro h
    exact ⟨_, List.mem_map.mpr ⟨p, h, rfl⟩, (eqv_sh (sh_ePs hp.1 hp.2) (sh_ePs hp.1 hp.2)).mpr rfl⟩
theorem sh_prs {qs : List (Str × Str)} (hq : ∀ q ∈ qs, Lt q.1 ∧ Lt q.2) : Sh 62 (.tuple (qs.map ePs)) := (sh_tup (n := 60) fun d hd => by obtain ⟨q, hq', rfl⟩ := List.mem_map.mp hd; exact sh_ePs (hq q hq').1 (hq q hq').2).mono (by decide)
theorem ev_inT {p : Str × Str} {qs : List (Str × Str)} (hp : Lt p.1 ∧ Lt p.2) (hq : ∀ q ∈ qs, Lt q.1 ∧ Lt q.2) (ha : Ev md m n ta Γ (kD (ePs p))) (hb : Ev md n k tb Γ (kD (.tuple (qs.map ePs)))) : Ev md m k (tOp (rInT K) ta tb) Γ (kD (.bool (decide (p ∈ qs)))) :=
  ev_op ha hb fun G H x y s jj px py => Out.val s jj (.bl _) fun Q q => ⟨ePs p, qs.map ePs, (le_dp (le_same s) px).dp, (le_dp (le_same s) py).dp, (sh_ePs hp.1 hp.2).shaped (by decide), (sh_prs hq).shaped (by decide), by rw [any_pairs hp hq]; exact q⟩
theorem ev_ninT {p : Str × Str} {qs : List (Str × Str)} (hp : Lt p.1 ∧ Lt p.2) (hq : ∀ q ∈ qs, Lt q.1 ∧ Lt q.2) (ha : Ev md m n ta Γ (kD (ePs p))) (hb : Ev md n k tb Γ (kD (.tuple (qs.map ePs)))) : Ev md m k (tOp (rNinT K) ta tb) Γ (kD (.bool (!decide (p ∈ qs)))) :=
  ev_op ha hb fun G H x y s jj px py => Out.val s jj (.bl _) fun Q q => ⟨ePs p, qs.map ePs, (le_dp (le_same s) px).dp, (le_dp (le_same s) py).dp, (sh_ePs hp.1 hp.2).shaped (by decide), (sh_prs hq).shaped (by decide), by rw [any_pairs hp hq]; exact q⟩
theorem ev_isTup {r : Option (List Str)} (ha : Ev md m n te Γ (kD (encO r))) : Ev md m n (tCB (rIsi K) (tCons te (tCons (tC (.ty "tuple")) tNil))) Γ (kD (.bool r.isSome)) := fun G H σ c Q q =>
  ha G H σ c _ fun v H1 G1 g j p => by
    cases r with
    | none =>
      have e := kD_none.mp p
      exact ⟨v, .ty "tuple", .type "NoneType", .type "tuple", false, rfl, .ty _, by rw [e]; exact .base .non, by rfl, q _ H1 G1 g j (.bl _)⟩
    | some l =>
      obtain ⟨a, vs, e, hs, _⟩ := kD_tup.mp p
      exact ⟨v, .ty "tuple", .type "tuple", .type "tuple", true, rfl, .ty _, by rw [e]; exact .base (.tup (g.gh _ _ hs)), by rfl, q _ H1 G1 g j (.bl _)⟩
theorem ev_pairS {x y : Str} (ha : Ev md m n ta Γ (kD (.str x))) (hb : Ev md n k tb Γ (kD (.str y))) : Ev md m k (tTup (tCons ta (tCons tb tNil))) Γ (kD (ePs (x, y))) := ev_ofT (ds := [.str x, .str y]) (ev_tup (ea_cons ha (ea_cons hb ea_nil)) (by simp))
theorem ev_oneS {x : Str} (ha : Ev md m n ta Γ (kD (.str x))) : Ev md m n (tTup (tCons ta tNil)) Γ (kD (eW [x])) := ev_tupD (xs := [x]) (f := .str) (ev_tup (ea_cons ha ea_nil) (by simp))
theorem ev_catW {u v : List Str} (ha : Ev md m n ta Γ (kD (eW u))) (hb : Ev md n k tb Γ (kD (eW v))) (hl : u.length + v.length ≤ 1000) : Ev md m k (tOp (rCatA K) ta tb) Γ (kD (eW (u ++ v))) :=
  ev_tupD (f := .str) (ev_imp (ev_catA (ev_Dtup (f := .str) ha) (ev_Dtup (f := .str) hb) (by simp; omega)) fun G w h => by rw [List.map_append]; exact h)
end
theorem sh_Ws {ws : List Str} (h : ∀ x ∈ ws, Lt x) : Sh 60 (.list (ws.map .str)) := (sh_list (n := 0) fun d hd => by obtain ⟨x, hx, rfl⟩ := List.mem_map.mp hd; exact sh_str (h x hx).ok).mono (by decide)
theorem eqv_nilW {ws : List Str} : PyData.eqv (.list (ws.map .str)) (.list []) = decide (ws = []) := by cases ws <;> simp [PyData.eqv, PyData.eqvAll]
def R_right (ks : List Kn) (P : Kn) : Prop := ks = [] ∧ P = kD (.bool true)
abbrev sp_l_right : Sp := spB 900 R_right
section
variable {P : Program} {w : World} {K : PySem.W.Frag} {mg : Str → Option Value} {base : Heap} {C CR : Addr}
theorem cal_right (B : Bi mg) (cr : RulF K CR) (p1 : Prp P w K mg base 1 CR "pairs" (spQ (R_pairs CR))) (c1 : Cal P w K mg base 6 "not_covered" ["machine", "name", "by"] (spQ (R_nc C))) (c2 : Cal P w K mg base 7 "by_three" ["machine", "name", "by"] (spQ (R_b3 C))) (c3 : Cal P w K mg base 8 "greatest" ["machine"] (spQ (R_gr C CR)))
    (c4 : Cal P w K mg base 1 "_law_tags" ["_law_mat"] (spQ R_tags)) (c5 : Cal P w K mg base 5 "_law_some_machine" ["_law_box_here", "_law_most_so", "_law_deeds_so"] sp_l_some_machine) (c6 : Cal P w K mg base 5 "_law_host" ["_law_mat"] (spQ (R_host C))) (c7 : Cal P w K mg base 3 "_law_equal" ["_law_mat", "_law_one_so", "_law_two_so"] (spQ R_lequal))
    (c8 : Cal P w K mg base 3 "_law_log" ["_law_box_here", "_law_tags_so", "_law_most_so", "_law_looks_so"] sp_l_log) (F : Fd K mg "_law_right" 60) : Cal P w K mg base 9 "_law_right" ["_law_box_here"] sp_l_right := by
  refine cal_B F sc__law_right (by decide) (fun _ _ _ _ _ _ us hl => match us, hl with | [_], _ => rfl) (fun ks Pk ⟨e, _⟩ => by rw [e]; rfl) (fun f cdv A outer s H E hr => der__law_right B cr.cls p1 c1 c2 c3 c4 c5 c6 c7 c8 hr) ?_
  rintro b n ks P ⟨rfl, rfl⟩ hn
  refine tr_set (n := n + 301) (P1 := kMts) (ev_callB (R := R_some) (ea_cons (ev_var rfl) (ea_cons ev_int (ea_cons ev_int ea_nil))) ⟨rfl, rfl⟩ (by omega)) (of_decide_eq_true rfl) ?_
  refine tr_open (i := 1) rfl fun M o => ?_
  have hd8 := o.d8
  refine tr_asg (P1 := kT [kTags M, kX (Mc.Nm M) fun nm => kMac C M nm]) (ev_tup (ea_cons (ev_callQ (ea_cons (ev_var rfl) ea_nil) ⟨M, o, rfl, rfl⟩) (ea_cons (ev_callQ (ea_cons (ev_var rfl) ea_nil) ⟨M, o, rfl, rfl⟩) ea_nil)) (by simp)) (tgt_two (of_decide_eq_true rfl) (of_decide_eq_true rfl)) ?_
  refine tr_open (i := 2) rfl fun es pe => tr_open (i := 3) rfl fun nm on => ?_
  refine tr_set (P1 := kPairs (covs o.pm nm)) (ev_prop (fs := [(("own_pairs" : Str), kPairs (covs o.pm nm))]) (no := []) (ev_callQ (ea_cons (ev_var rfl) ea_nil) ⟨M, nm, on, rfl, rfl⟩) ⟨_, rfl, rfl⟩) (of_decide_eq_true rfl) ?_
  refine tr_open (i := 4) rfl fun qs hqs => ?_
  generalize epm : o.pm = pm at hqs
  have epm2 : on.ok.pm = pm := epm
  have hel : es.length = M.ds.length := by rw [pe.length_eq]; exact nms_len
  have esn : ∀ x, x ∈ es ↔ x ∈ M.nms := fun x => pe.mem_iff
  have esl : ∀ x ∈ es, Lt x := fun x hx => o.ltn ((esn x).mp hx)
  have hne : es ≠ [] := fun z => by rw [z] at hel; simp at hel; exact o.d0 (List.eq_nil_of_length_eq_zero hel.symm)
  have pmn : ∀ x, x ∈ pm.nm ↔ x ∈ M.nms := fun x => by rw [← epm]; rfl
  have hq : ∀ x y, x ∈ es → y ∈ es → ((x, y) ∈ qs ↔ pm.Cov x y) := fun x y hx hy => by
    rw [hqs.1, mem_covs]
    exact ⟨fun h => h.2.2, fun h => ⟨(on.mem x).mpr ((esn x).mp hx), (on.mem y).mpr ((esn y).mp hy), h⟩⟩
  have hqd : ∀ x y, x ∈ es → y ∈ es → decide ((x, y) ∈ qs) = dec (pm.Cov x y) := fun x y hx hy => by
    rw [Bool.eq_iff_iff, decide_eq_true_iff, dec_iff]; exact hq x y hx hy
  have hql : ∀ q ∈ qs, Lt q.1 ∧ Lt q.2 := fun q hq' => by
    have := mem_covs.mp ((hqs.1 q).mp hq')
    exact ⟨o.ltn ((on.mem _).mp this.1), o.ltn ((on.mem _).mp this.2.1)⟩
  let G5 : Option Kn → Option Kn → Option Kn → Option Kn → Option Kn → Option Kn → Env := fun a c d e f g => [some (kP b), some (kMt M), some (kD (eW es)), some (kMac C M nm), some (kD (.tuple (qs.map ePs))), a, c, d, e, f, g, none]
  refine tr_seq (fun n' Γ' O' => n' ≤ n + 900 ∧ O' = o0 ∧ ∃ a c d e f g, Γ' = G5 a c d e f g) ?_ ?_
  · refine tr_for (src_tup (ev_Dtup (xs := es) (f := .str) (ev_var rfl))) (fun i n' Γ' O' => n' ≤ n + 301 + 72 * i ∧ O' = o0 ∧ ∃ a c d e f g, Γ' = G5 a c d e f g) ⟨Nat.le_refl _, rfl, _, _, _, _, _, _, rfl⟩ ?_ ?_
    · rintro i k n' Γ' O' hk ⟨hn', rfl, a, c, d, e, f, g, rfl⟩
      rw [List.getElem?_map] at hk
      cases q : es[i]? with
      | none => rw [q] at hk; cases hk
      | some x =>
        rw [q] at hk; cases hk
        have hi : i < es.length := (List.getElem?_eq_some_iff.mp q).1
        have hx : x ∈ es := List.mem_of_getElem? q
        have hxn := (esn x).mp hx
        have hxl := esl x hx
        have hx3 : dec (pm.Three x x) = dec (pm.Cov x x) := by
          rw [Bool.eq_iff_iff, dec_iff, dec_iff]; exact ⟨Pm.three_self ((pmn x).mpr hxn), Pm.cov_three⟩
        have xx : ∀ {Γ : Env} {m : Nat}, Γ[5]? = some (some (kD (.str x))) → Γ[4]? = some (some (kD (.tuple (qs.map ePs)))) → Ev (mB b) m m (tOp (rInT K) (tTup (tCons (tVar 5) (tCons (tVar 5) tNil))) (tVar 4)) Γ (kD (.bool (dec (pm.Cov x x)))) := fun h5 h4 => ev_imp (ev_inT (p := (x, x)) ⟨hxl, hxl⟩ hql (ev_pairS (ev_var h5) (ev_var h5)) (ev_var h4)) fun G v h => by rw [hqd x x hx hx] at h; exact h
        refine ⟨_, _, tgt_name (of_decide_eq_true rfl), tr_up (n := n + 301 + 72 * i) (tr_when (et_test (ev_neB (xx rfl rfl) (ev_isNoX (b := dec (pm.Three x x)) (ev_callQ (ea_cons (ev_var rfl) (ea_cons (ev_var rfl) (ea_cons (ev_var rfl) ea_nil))) ⟨M, nm, x, x, on, rfl, hxn, hxn, rfl⟩) ev_non fun r hr => ?_))) (fun e => tr_abs ?_) fun _ => tr_skip ?_) hn'⟩
        · rw [epm2] at hr
          cases r with
          | none => rw [dec_t (hr.mp rfl)]; rfl
          | some v => rw [dec_f fun z => by cases hr.mpr z]; rfl
        · rw [hx3] at e; simp at e
        -- the inner loop
        refine tr_for (src_tup (ev_Dtup (xs := es) (f := .str) (ev_var rfl))) (fun j n' Γ' O' => n' = n + 301 + 72 * i + 9 * j ∧ O' = o0 ∧ ∃ c d e f g, Γ' = G5 (some (kD (.str x))) c d e f g) ⟨rfl, rfl, _, _, _, _, _, rfl⟩ ?_ ?_
        · rintro j k n' Γ' O' hk ⟨rfl, rfl, c, d, e, f, g, rfl⟩
          rw [List.getElem?_map] at hk
          cases qj : es[j]? with
          | none => rw [qj] at hk; cases hk
          | some y =>
            rw [qj] at hk; cases hk
            have hj : j < es.length := (List.getElem?_eq_some_iff.mp qj).1
            have hy : y ∈ es := List.mem_of_getElem? qj
            have hyn := (esn y).mp hy
            have hyl := esl y hy
            generalize eN : n + 301 + 72 * i + 9 * j = N
            have hN : N + 9 ≤ n + 900 := by omega
            refine ⟨_, _, tgt_name (of_decide_eq_true rfl), tr_set (P1 := kX (NC pm x y) fun r => kD (encO r)) (ev_callQ (ea_cons (ev_var rfl) (ea_cons (ev_var rfl) (ea_cons (ev_var rfl) ea_nil))) ⟨M, nm, x, y, on, rfl, hxn, hyn, by rw [epm2]⟩) (of_decide_eq_true rfl) (tr_open (i := 7) rfl fun r hr => ?_)⟩
            have hrn := nc_isNo hr
            refine tr_when (et_test (ev_neB (ev_isNo (ev_var rfl) ev_non) (ev_inT (p := (x, y)) ⟨hxl, hyl⟩ hql (ev_pairS (ev_var rfl) (ev_var rfl)) (ev_var rfl)))) (fun e => tr_abs ?_) fun _ => tr_skip ?_
            · rw [hrn, hqd x y hx hy] at e; simp at e
            refine tr_set (P1 := kX (fun r : Option (List Str) => r = none ↔ pm.Three x y) fun r => kD (encO r)) (ev_callQ (ea_cons (ev_var rfl) (ea_cons (ev_var rfl) (ea_cons (ev_var rfl) ea_nil))) ⟨M, nm, x, y, on, rfl, hxn, hyn, by rw [epm2]⟩) (of_decide_eq_true rfl) (tr_open (i := 8) rfl fun r3 hr3 => ?_)
            have hr3n : isNo (encO r3) = dec (pm.Three x y) := by
              cases r3 with
              | none => rw [dec_t (hr3.mp rfl)]; rfl
              | some v => rw [dec_f fun z => by cases hr3.mpr z]; rfl
            refine tr_when (et_andD (et_test (xx rfl rfl)) fun _ => et_test (ev_neB (ev_isNo (ev_var rfl) ev_non) (ev_isNo (ev_var rfl) ev_non))) (fun e => tr_abs ?_) fun _ => tr_skip ?_
            · rw [hrn, hr3n] at e
              by_cases z : pm.Cov x x
              · have : dec (pm.Cov x y) = dec (pm.Three x y) := by
                  rw [Bool.eq_iff_iff, dec_iff, dec_iff]
                  exact ⟨Pm.cov_three, Pm.three_steady ((pmn x).mpr hxn) ((pmn y).mpr hyn) z⟩
                rw [this] at e; simp at e
              · rw [dec_f z] at e; simp at e
            -- row
            have hrm : ∀ z ∈ r.getD [], z ∈ es := fun z hz => by
              cases r with
              | none => cases hz
              | some v => exact (esn z).mpr ((pmn z).mp (hr.1 z hz))
            have hrl : (r.getD []).length ≤ 100 := by
              cases r with
              | none => exact Nat.zero_le _
              | some v => exact Nat.le_trans hr.2.2.2 (by decide)
            refine tr_set (n := N) (P1 := kD (eW (r.getD [] ++ [y]))) (ev_catW (u := r.getD []) (v := [y]) (ev_if (et_tB (ev_isTup (ev_var rfl))) (fun e => ?_) fun e => ?_) (ev_oneS (ev_var rfl)) (by simp; omega)) (of_decide_eq_true rfl) ?_
            · cases r with
              | none => cases e
              | some v => exact ev_var rfl
            · cases r with
              | none => exact ev_ofT (ds := []) (ev_tup ea_nil (by simp))
              | some v => cases e
            generalize erow : r.getD [] ++ [y] = row
            have hrow : ∀ z ∈ row, z ∈ es := fun z hz => by
              rw [← erow] at hz
              rcases List.mem_append.mp hz with hz | hz
              · exact hrm z hz
              · rw [List.mem_singleton.mp hz]; exact hy
            have hrowl : row.length ≤ 101 := by rw [← erow]; simp; omega
            refine tr_when (et_imp (et_neD (d := .list (([] : List Str).map .str)) (e := .list []) (ev_listD (f := .str) (ev_imp (ev_lcF (xs := row) (bf := fun z => !decide (z ∈ es)) (pf := fun z => kD (.str z)) (src_tup (ev_Dtup (f := .str) (ev_var rfl))) (by omega) (fun z => [some (kP b), some (kMt M), some (kD (eW es)), some (kMac C M nm), some (kD (.tuple (qs.map ePs))), some (kD (.str x)), some (kD (.str y)), some (kD (encO r)), some (kD (encO r3)), some (kD (eW row)), g, some (kD (.str z))]) (fun z => tgt_name (of_decide_eq_true rfl)) (fun z hz => et_test (ev_ninST (ws := es) (ev_var rfl) (ev_Dtup (f := .str) (ev_var rfl)))) fun z hz _ => ev_var rfl) fun G v h => ?_)) (ev_ofL (ds := []) (ev_lst ea_nil (by simp))) (sh_Ws fun _ h => nomatch h) (sh_Ws (ws := []) fun _ h => nomatch h)) fun b h => h) (fun e => tr_abs ?_) fun _ => tr_skip ?_
            · have : row.filter (fun z => !decide (z ∈ es)) = [] := List.filter_eq_nil_iff.mpr fun z hz => by simp [hrow z hz]
              rw [this] at h; exact h
            · simp [PyData.eqv, PyData.eqvAll] at e
            have hrown : ∀ z ∈ row, z ∈ M.nms := fun z hz => (esn z).mp (hrow z hz)
            have hxrow : ∀ z ∈ x :: row, z ∈ M.nms := fun z hz => by
              rcases List.mem_cons.mp hz with rfl | hz
              · exact hxn
              · exact hrown z hz
            -- a word that parts them
            refine tr_when (et_andD (et_test (ev_isntNo (ev_var rfl) ev_non)) fun _ => et_tB (ev_callQ (ea_cons (ev_var rfl) (ea_cons (P := kD (eW (x :: row))) (ev_catW (u := [x]) (ev_oneS (ev_var rfl)) (ev_var rfl) (by simp; omega)) (ea_cons (ev_var rfl) ea_nil))) ⟨M, x :: row, row, o, rfl, hxrow, hrown, rfl⟩)) (fun e => tr_abs ?_) fun _ => tr_skip ?_
            · rw [hrn] at e
              cases r with
              | none => rw [dec_t (show pm.Cov x y from hr)] at e; simp at e
              | some v =>
                have hw : ¬(∀ s, s < M.n → M.mu (M.run (x :: row) s) = M.mu (M.run row s)) := fun z => by
                  rw [← erow] at z
                  have := (wit_run o (a := x) (b := y) (v := v)).mp z
                  rw [epm] at this
                  exact this hr.2.1
                rw [decide_eq_false hw] at e; simp at e
            -- what x may be covered by, too
            let nr := es.filter fun z => decide ((y, z) ∈ qs)
            refine tr_set (n := N) (P1 := kL (nr.map fun z => kD (.str z))) (ev_lcF (xs := es) (bf := fun z => decide ((y, z) ∈ qs)) (pf := fun z => kD (.str z)) (src_tup (ev_Dtup (f := .str) (ev_var rfl))) (by omega) (fun z => [some (kP b), some (kMt M), some (kD (eW es)), some (kMac C M nm), some (kD (.tuple (qs.map ePs))), some (kD (.str x)), some (kD (.str y)), some (kD (encO r)), some (kD (encO r3)), some (kD (eW row)), g, some (kD (.str z))]) (fun z => tgt_name (of_decide_eq_true rfl)) (fun z hz => et_test (ev_inT (p := (y, z)) ⟨hyl, esl z hz⟩ hql (ev_pairS (ev_var rfl) (ev_var rfl)) (ev_var rfl))) fun z hz _ => ev_var rfl) (of_decide_eq_true rfl) ?_
            have nrl : nr.length ≤ 8 := Nat.le_trans (List.length_filter_le _ _) (by omega)
            have nrm : ∀ z ∈ nr, z ∈ es := fun z hz => (List.mem_filter.mp hz).1
            let mr := nr.filter fun z => !decide ((x, z) ∈ qs)
            refine tr_set (n := N) (P1 := kL (mr.map fun z => kD (.str z))) (ev_lcF (xs := nr) (bf := fun z => !decide ((x, z) ∈ qs)) (pf := fun z => kD (.str z)) (src_list (ev_var rfl)) (by omega) (fun z => [some (kP b), some (kMt M), some (kD (eW es)), some (kMac C M nm), some (kD (.tuple (qs.map ePs))), some (kD (.str x)), some (kD (.str y)), some (kD (encO r)), some (kL (nr.map fun z => kD (.str z))), some (kD (eW row)), g, some (kD (.str z))]) (fun z => tgt_name (of_decide_eq_true rfl)) (fun z hz => et_test (ev_ninT (p := (x, z)) ⟨hxl, esl z (nrm z hz)⟩ hql (ev_pairS (ev_var rfl) (ev_var rfl)) (ev_var rfl))) fun z hz _ => ev_var rfl) (of_decide_eq_true rfl) ?_
            have mrL : ∀ z ∈ mr, Lt z := fun z hz => esl z (nrm z (List.mem_filter.mp hz).1)
            refine tr_when (et_andD (et_test (ev_isNo (ev_var rfl) ev_non)) fun _ => et_neD (d := .list (mr.map .str)) (e := .list []) (ev_listD (f := .str) (ev_var rfl)) (ev_ofL (ds := []) (ev_lst ea_nil (by simp))) (sh_Ws mrL) (sh_Ws (ws := []) fun _ h => nomatch h)) (fun e => tr_abs ?_) fun _ => tr_skip ?_
            · rw [hrn, eqv_nilW] at e
              by_cases z : pm.Cov x y
              · have : mr = [] := List.filter_eq_nil_iff.mpr fun q hq' => by
                  obtain ⟨h1, h2⟩ := List.mem_filter.mp hq'
                  have h2' : pm.Cov y q := (hq y q hy h1).mp (by simpa using h2)
                  have h3 : pm.Cov x q := Pm.cov_trans ((pmn x).mpr hxn) ((pmn y).mpr hyn) ((pmn q).mpr ((esn q).mp h1)) z h2'
                  simp [(hq x q hx h1).mpr h3]
                rw [this] at e; simp at e
              · rw [dec_f z] at e; simp at e
            -- a drawn word
            refine tr_set (n := N + 9) (P1 := kX (fun ws : List Str => (∀ z ∈ ws, z ∈ es) ∧ ws.length ≤ 8) fun ws => kD (eW (ws ++ [y]))) (ev_op (P1 := kWs (· ∈ es) 8) (P2 := kD (eW [y])) (ev_callB (R := R_log) (ea_cons (ev_var rfl) (ea_cons (ev_var rfl) (ea_cons ev_int (ea_cons ev_bl ea_nil)))) ⟨es, rfl, hne, by omega, esl, rfl⟩ (by omega)) (ev_oneS (ev_var rfl)) fun G H u v s jj ⟨ws, hws, pu⟩ pv => ?_) (of_decide_eq_true rfl) ?_
            · obtain ⟨a1, xs, e1, h1, ax⟩ := kD_tup.mp pu
              obtain ⟨a2, ys, e2, h2, ay⟩ := kD_tup.mp pv
              have l1 := AllK.len ax
              have l2 := AllK.len ay
              refine fun Q q => ⟨a1, a2, xs, ys, e1, e2, SqT.of (s _ _ h1), SqT.of (s _ _ h2), ?_, fun z => ?_, fun _ z => ?_, fun _ _ p hp => ?_⟩
              · simp at l1 l2
                exact Nat.le_trans (by omega : xs.length + ys.length ≤ 100) (by decide)
              · have : ws = [] := by rw [z] at l1; simpa using l1
                subst this
                exact q _ H G (Gr.refl s) jj ⟨[], ⟨(fun _ h => nomatch h), by simp⟩, by rw [e2] at pv; exact pv⟩
              · rw [z] at l2; simp at l2
              · refine q _ _ _ (Gr.new s hp) ((mB b).st _ _ _ jj fun a u _ e => same_new hp a u e) ⟨ws, hws, kD_tup.mpr ⟨p, _, rfl, upd_same, ?_⟩⟩
                rw [List.map_append, List.map_append]
                exact AllK.mono (le_same (same_new (s.free hp))) (AllK.app ay ax)
            refine tr_open (i := 9) rfl fun ws hws => ?_
            have hwn : ∀ z ∈ ws ++ [y], z ∈ M.nms := fun z hz => by
              rcases List.mem_append.mp hz with hz | hz
              · exact (esn z).mp (hws.1 z hz)
              · rw [List.mem_singleton.mp hz]; exact hyn
            refine tr_if (et_andD (et_test (ev_isNo (ev_var rfl) ev_non)) fun _ => et_notD (et_tB (ev_callQ (ea_cons (ev_var rfl) (ea_cons (P := kD (eW (x :: (ws ++ [y])))) (ev_catW (u := [x]) (ev_oneS (ev_var rfl)) (ev_var rfl) (by have := hws.2; simp; omega)) (ea_cons (ev_var rfl) ea_nil))) ⟨M, x :: (ws ++ [y]), ws ++ [y], o, rfl, fun z hz => by
              rcases List.mem_cons.mp hz with rfl | hz
              · exact hxn
              · exact hwn z hz, hwn, rfl⟩))) (fun e => tr_abs ?_) fun _ => tr_next ⟨by omega, rfl, _, _, _, _, _, rfl⟩
            rw [hrn] at e
            by_cases z : pm.Cov x y
            · have h1 : ¬pm.Wit x y ws := z ws fun q hq' => (pmn q).mpr ((esn q).mp (hws.1 q hq'))
              have h2 := (wit_run o (a := x) (b := y) (v := ws)).mpr (by rw [epm]; exact h1)
              rw [List.cons_append] at h2
              rw [decide_eq_true h2] at e; simp at e
            · rw [dec_f z] at e; simp at e
        · rintro n' Γ' O' ⟨rfl, rfl, c, d, e, f, g, rfl⟩
          rw [List.length_map] at *
          exact ⟨by omega, rfl, _, _, _, _, _, _, rfl⟩
    · rintro n' Γ' O' ⟨hn', rfl, a, c, d, e, f, g, rfl⟩
      rw [List.length_map] at *
      exact ⟨by omega, rfl, _, _, _, _, _, _, rfl⟩
  · rintro n' Γ' O' ⟨hn', rfl, a, c, d, e, f, g, rfl⟩
    exact tr_ret ev_bl ⟨hn', rfl⟩
end
end Ll
end

section
set_option Elab.async false
set_option linter.all false
set_option maxRecDepth 100000
set_option maxHeartbeats 1000000
/-! Ll, walks: _law_cells, _law_box, law. -/
namespace Ll
open PySem PySem.Spec PyProof.Rows L2
def kSc (K : PySem.W.Frag) (l : List Int) : Kn := ⟨fun G v => ∃ a, v = .ref a ∧ SqL K G a (l.map V.int), fun _ _ _ le ⟨a, e, h⟩ => ⟨a, e, h.elim (fun z => .inl (z.elim (fun y => .inl (le.lst y)) fun ⟨o, y⟩ => .inr ⟨o, le.at y fun _ w => nomatch w⟩)) fun z => .inr z⟩⟩
theorem sql_same {K : PySem.W.Frag} {G H : Hp} {a : Addr} {xs : List V} (s : Same G H) (h : SqL K G a xs) : SqL K H a xs := h.elim (fun z => .inl (rd_same s z)) fun z => .inr z
def cutL (l : List Int) (lo hi : Option Int) : List Int := (l.drop (HT.sIx l.length 0 lo)).take (HT.sIx l.length l.length hi - HT.sIx l.length 0 lo)
theorem cut_map {l : List Int} {lo hi : Option Int} : cutV (l.map V.int) lo hi = (cutL l lo hi).map V.int := by
  unfold cutV cutL
  rw [List.length_map, ← List.map_drop, ← List.map_take]
theorem cut3 {l : List Int} : cutL l none (some 3) = l.take 3 := by
  unfold cutL
  rw [HT.sIx_none, show ((3 : Int)) = ((3 : Nat) : Int) from rfl, HT.sIx_nat, List.drop_zero, Nat.sub_zero]
  rcases Nat.le_total 3 l.length with h | h
  · rw [Nat.min_eq_left h]
  · rw [Nat.min_eq_right h, List.take_of_length_le (Nat.le_refl _), List.take_of_length_le h]
theorem cut63 {l : List Int} (h : cutL l (some 3) (some 63) ≠ []) : 3 < l.length := by
  apply Classical.byContradiction
  intro hc
  apply h
  unfold cutL
  rw [show ((3 : Int)) = ((3 : Nat) : Int) from rfl, HT.sIx_nat, Nat.min_eq_right (by omega), List.drop_of_length_le (Nat.le_refl _)]
  simp
theorem cut_len {l : List Int} {lo hi : Option Int} : (cutL l lo hi).length ≤ l.length := by
  unfold cutL
  rw [List.length_take, List.length_drop]; omega
/-- a list of ints being changed -/
def bN (z : Nat) : Ob := ⟨fun _ o => ∃ r : List Int, o = .lst (r.map V.int) ∧ r.length = z, fun _ _ _ _ h => h⟩
section
variable {md : Md} {m n k : Nat} {Γ : Env} {O : Op md} {K : PySem.W.Frag} {te : TE} {rest : TS} {E : Es md}
theorem ev_slSc {l : List Int} {te tb tc : TE} {lo hi : Int} (h : Ev md m n te Γ (kSc K l)) (hb : Ev md n n tb Γ (kD (.int lo))) (hc : Ev md n k tc Γ (kD (.int hi))) : Ev md m k (tSl (rSlL K) te (tPart tb) (tPart tc)) Γ (kL ((cutL l (some lo) (some hi)).map fun i => kD (.int i))) := fun G H σ c Q q =>
  h G H σ c _ fun v H1 G1 g1 j1 ⟨a, e, hs⟩ => hb G1 H1 σ (c.next g1 j1) _ fun w H2 G2 g2 j2 p2 => by
    have g12 := g1.trans (fun a z => md.dom _ _ a j1 (md.muk a z)) g2
    refine ⟨_, kD_int.mp p2, hc G2 H2 σ (c.next g12 j2) _ fun u H3 G3 g3 j3 p3 => ⟨_, kD_int.mp p3, a, _, e, sql_same ((g2.gg.trans g3.gg).trans g3.gh) hs, fun p hp => ?_⟩⟩
    rw [cut_map]
    exact q _ _ _ ((g12.trans (fun a z => md.dom _ _ a j2 (md.muk a z)) g3).trans (fun a z => md.dom _ _ a j3 (md.muk a z)) (Gr.new g3.gh hp)) (md.st _ _ _ j3 fun a u _ e => same_new hp a u e) ⟨p, _, rfl, upd_same, allK_ofI⟩
end
def kCells : Kn := kX (fun r : List Int => 1 ≤ r.length ∧ r.length ≤ 3) fun r => kL (r.map fun i => kD (.int i))
def R_cells (K : PySem.W.Frag) (ks : List Kn) (P : Kn) : Prop := ∃ l : List Int, ks = [kSc K l, kD (.int 3)] ∧ l.length ≤ 1000 ∧ P = kCells
section
variable {P : Program} {w : World} {K : PySem.W.Frag} {mg : Str → Option Value} {base : Heap}
theorem cal_cells (B : Bi mg) (F : Fd K mg "_law_cells" 38) : Cal P w K mg base 1 "_law_cells" ["_law_script", "_law_most_so"] (spQ (R_cells K)) := by
  refine cal_Q F sc__law_cells (by decide) (fun _ _ _ _ _ _ us hl => match us, hl with | [_, _], _ => rfl) (fun ks Pk ⟨_, e, _⟩ => by rw [e]; rfl) (fun f cdv A outer s H E hr => der__law_cells B hr) ?_
  rintro ks Pk ⟨l, rfl, hl, rfl⟩
  left
  have main : ∀ (p : Addr) (z : Nat), 1 ≤ z → z ≤ 3 → (3 < l.length → z = 3) → Tr M0 0 [some (kSc K l), some (kD (.int 3)), some (kP p), none, none, none] (oOb p (bN z)) (tSeq (tFor (iEnum K (tCons (tSl (rSlL K) (tVar 0) (tPart (tVar 1)) (tPart (tC (.int 63)))) tNil)) (gTup K 2 (gCons (gName 3) (gCons (gName 4) gNil))) (tSeq (tAsg (tOp rModI (tCB cInt (tCons (tVar 3) tNil)) (tVar 1)) (gName 5))
    (tAsg (tOp rAddI (tOp (rIxL K) (tVar 2) (tVar 5)) (tOp rMulI (tVar 4) (tOp rAddI (tVar 3) (tC (.int 2))))) (gSub (tVar 2) (tVar 5) rSetL)))) (tRet (tVar 2))) (eRet 0 kCells) := fun p z h1 h3 hz => by
    refine tr_seq (fun n' Γ' O' => n' = 0 ∧ O' = oOb p (bN z) ∧ ∃ a b c, Γ' = [some (kSc K l), some (kD (.int 3)), some (kP p), a, b, c]) ?_ ?_
    · refine tr_for (src_enum (ea_cons (ev_slSc (ev_var rfl) (ev_var rfl) ev_int) ea_nil)) (fun _ n' Γ' O' => n' = 0 ∧ O' = oOb p (bN z) ∧ ∃ a b c, Γ' = [some (kSc K l), some (kD (.int 3)), some (kP p), a, b, c]) ⟨rfl, rfl, _, _, _, rfl⟩ ?_ fun _ _ _ h => h
      rintro i k n' Γ' O' hk ⟨rfl, rfl, a, b, c, rfl⟩
      obtain ⟨k', hk', rfl⟩ := kEnum_get hk
      rw [List.getElem?_map] at hk'
      cases q : (cutL l (some 3) (some 63))[i]? with
      | none => rw [q] at hk'; cases hk'
      | some y =>
        rw [q] at hk'; cases hk'
        have hz3 : z = 3 := hz (cut63 fun z0 => by rw [z0] at q; cases q)
        have hi : i < 1000 := Nat.lt_of_lt_of_le (List.getElem?_eq_some_iff.mp q).1 (Nat.le_trans cut_len hl)
        refine ⟨_, _, tgt_two (of_decide_eq_true rfl) (of_decide_eq_true rfl), tr_set (ev_modN (z := 3) (ev_int1 (ea_cons (ev_var rfl) ea_nil)) (ev_var rfl) (by decide)) (of_decide_eq_true rfl) (tr_open (i := 5) rfl fun r hr => ?_)⟩
        intro G0 H0 Gb G H σ s D d
        obtain ⟨v2, hv2, e2⟩ := s.c.env.get 2 (kP p) rfl
        subst e2
        obtain ⟨v3, hv3, p3⟩ := s.c.env.get 3 (kD (.int (i : Nat))) rfl
        have e3 := kD_int.mp p3
        subst e3
        obtain ⟨v4, hv4, p4⟩ := s.c.env.get 4 (kD (.int y)) rfl
        have e4 := kD_int.mp p4
        subst e4
        obtain ⟨v5, hv5, p5⟩ := s.c.env.get 5 (kD (eI r)) rfl
        have e5 := kD_int.mp p5
        subst e5
        obtain ⟨_, _, _, o, hp, xs, eo, hxl⟩ := s.o
        subst eo
        have hrx : r < xs.length := by omega
        have hat : atI (xs.map V.int) ((r : Nat) : Int) = some (V.int xs[r]) := atI_nat (by rw [List.getElem?_map, List.getElem?_eq_getElem hrx]; rfl)
        have hix : ixN (xs.map V.int).length ((r : Nat) : Int) = some r := by
          unfold ixN
          rw [List.length_map, if_pos (by omega), if_pos (by omega)]; simp
        refine ⟨_, hv2, _, hv5, p, _, _, _, rfl, rfl, SqL.of hp, hat, _, hv4, _, hv3, _, 2, rfl, rfl, y, _, rfl, rfl, .inr ⟨by omega, by omega⟩, _, _, rfl, rfl, ?_⟩
        refine ⟨_, hv2, _, hv5, p, _, _, r, rfl, rfl, hp, hix, ?_⟩
        refine d.nx _ _ _ _ _ _ ⟨rfl, rfl, _, _, _, rfl⟩ (s.write (k' := bN z) ⟨xs.set r (xs[r] + y * ((i : Nat) + 2)), ?_, by rw [List.length_set]; exact hxl⟩)
        rw [List.map_set]
    · rintro n' Γ' O' ⟨rfl, rfl, a, b, c, rfl⟩
      refine tr_close (i := 2) (P1 := kX (fun r : List Int => r.length = z) fun r => kL (r.map fun i => kD (.int i))) rfl (fun G o e ⟨r, eo, hr⟩ => ⟨r, hr, p, _, rfl, by rw [e, eo], allK_ofI⟩) (tr_ret (P := kCells) (ev_imp (ev_var (i := 2) rfl) fun G v ⟨r, hr, h⟩ => ⟨r, by have : r.length = z := hr; omega, h⟩) ⟨rfl, rfl⟩)
  intro G0 H0 Gb G H σ s D d
  obtain ⟨v0, hv0, a, e0, hs⟩ := s.c.env.get 0 (kSc K l) rfl
  subst e0
  obtain ⟨v1, hv1, p1⟩ := s.c.env.get 1 (kD (.int 3)) rfl
  have e1 := kD_int.mp p1
  subst e1
  unfold t__law_cells tSeq tAsg tOrT
  refine ⟨_, hv0, _, hv1, 3, rfl, a, _, rfl, sql_same s.c.gh hs, fun p hp => ?_⟩
  rw [cut_map, cut3]
  have s1 := s.extra (o := .lst ((l.take 3).map V.int)) hp
  refine ⟨p, _, rfl, .inl (SqL.of upd_same), fun q hq => ?_⟩
  cases l with
  | nil =>
    refine ⟨false, .inl ⟨[], SqL.of upd_same, rfl⟩, ?_⟩
    rw [if_neg (by simp)]
    have s2 := s1.extra (o := .lst (([] : List Int).map V.int)) hq
    refine ⟨(show 1 ≤ sizeLine by decide), fun u hu => ?_⟩
    exact main u 1 (by decide) (by decide) (fun h => absurd h (by simp)) G0 H0 Gb G _ _ ((s2.open' (k := bN 1) hu ⟨[0], rfl, rfl⟩).set (i := 2) (v := .ref u) (k := kP u) (of_decide_eq_true rfl) rfl) D d
  | cons x l =>
    refine ⟨true, .inl ⟨_, SqL.of upd_same, rfl⟩, ?_⟩
    rw [if_pos rfl]
    exact main q (((x :: l).take 3).length) (by simp) (by simp; omega) (fun h => by rw [List.length_take]; omega) G0 H0 Gb G _ _ ((s1.open' (k := bN (((x :: l).take 3).length)) hq ⟨_, rfl, rfl⟩).set (i := 2) (v := .ref q) (k := kP q) (of_decide_eq_true rfl) rfl) D d
/-! ### box -/
def sp_l_box : Sp := fun vs H Q _ => ∃ G l k, Same G H ∧ AllK G [kL ((l : List Int).map fun i => kD (.int i)), kD (eI k)] vs ∧ k < l.length ∧ l.length ≤ 3 ∧ ∀ p H2 G2, Gr (fun _ => False) G H G2 H2 → H p = none → G2 p = none → Bx p 0 H2 → Q (.ref p) H2
theorem cal_box (B : Bi mg) (F : Fd K mg "_law_box" 36) : Cal P w K mg base 1 "_law_box" ["_law_script", "_law_k"] sp_l_box := by
  refine cal_S F sc__law_box (fun _ _ _ _ _ _ us hl => match us, hl with | [_, _], _ => rfl) (fun vs H Q E ⟨G, l, k, _, a, _⟩ => by rw [← AllK.len a]; rfl) (fun f cdv A outer s H E hr => der__law_box B hr) fun vs H Q E ⟨G, l, k, s, a, hk, hl, post⟩ => ?_
  match vs, a with
  | [v0, v1], ⟨⟨b, xs, e0, hb, ax⟩, a1, _⟩ =>
    have e1 := kD_int.mp a1
    subst e0 e1
    have ex := allK_int ax
    subst ex
    have hbH := s _ _ hb
    have hat : atI (l.map V.int) ((k : Nat) : Int) = some (V.int l[k]) := atI_nat (by rw [List.getElem?_map, List.getElem?_eq_getElem hk]; rfl)
    refine ⟨_, rfl, _, rfl, b, _, rfl, .inl (SqL.of hbH), (k : Nat), _, rfl, rfl, _, rfl, ?_⟩
    dsimp only
    rw [if_pos (by simp; omega)]
    refine ⟨_, rfl, _, rfl, b, _, _, _, rfl, rfl, SqL.of hbH, hat, ?_⟩
    generalize l[k] = x
    refine ⟨_, rfl, x, rfl, _, rfl, x, rfl, 10, 18, rfl, rfl, ⟨by decide, by decide, by decide⟩, _, _, rfl, rfl, .inr ⟨_, rfl, _, _, rfl, rfl, .inr ?_, ?_⟩⟩
    · (repeat' split) <;> decide
    refine ⟨_, rfl, .inl ⟨x, rfl, _, 2305843009213693951, rfl, rfl, (show (2305843009213693951 : Int) ≠ 0 by decide), _, rfl, 39373, _, rfl, rfl, .inl (by decide), _, _, rfl, rfl, _, 69211, rfl, rfl, ?_⟩⟩
    refine ⟨(show 3 ≤ sizeLine by decide), fun p hp => ?_⟩
    have gp : G p = none := s.free hp
    have h1 : 0 ≤ x.fmod 2305843009213693951 := Int.fmod_nonneg_of_pos _ (by omega)
    have h2 : x.fmod 2305843009213693951 < 2305843009213693951 := Int.fmod_lt_of_pos _ (by omega)
    refine post p _ G ⟨Same.refl G, fun a u e => by rw [upd_ne (ne_of_none e gp)]; exact s a u e, fun a u _ e => same_new hp a u e, fun _ _ h => h⟩ hp gp ⟨_, _, 0, upd_same, ?_, by omega, by omega, Int.le_refl _, Int.le_refl _⟩
    split <;> split <;> omega
/-! ### law -/
def R_hand (ks : List Kn) (P : Kn) : Prop := ks = [] ∧ P = kD (.bool true)
abbrev sp_l_by_hand : Sp := spQ R_hand
def R_law (K : PySem.W.Frag) (ks : List Kn) (P : Kn) : Prop := ∃ l : List Int, ks = [kSc K l] ∧ l.length ≤ 63 ∧ P = kD (.bool true)
theorem w_law (ks : List Kn) (Pk : Kn) (h : R_law K ks Pk) : Tr M0 0 (ks.map some ++ List.replicate (N_law.length - ks.length) none) o0 (t_law K sp_l_box (spQ (R_cells K)) sp_l_by_hand sp_l_right) (eRet 0 Pk) := by
  obtain ⟨l, rfl, hl, rfl⟩ := h
  refine tr_when (et_notD (et_tB (ev_callQ ea_nil ⟨rfl, rfl⟩))) (fun e => tr_abs (by cases e)) fun _ => tr_skip ?_
  refine tr_set (ev_callQ (ea_cons (ev_var rfl) (ea_cons ev_int ea_nil)) ⟨l, rfl, by omega, rfl⟩) (of_decide_eq_true rfl) ?_
  refine tr_open (i := 1) rfl fun r hr => ?_
  refine tr_seq (fun n' Γ' O' => n' = 0 ∧ O' = o0) ?_ ?_
  · refine tr_for (src_range (j := r.length) (ea_cons (ev_imp (ev_lenL (ks := r.map fun i => kD (.int i)) (ea_cons (ev_var rfl) ea_nil)) fun G v h => by rw [List.length_map] at h; exact h) ea_nil) (by omega)) (fun i n' Γ' O' => n' = 0 ∧ O' = o0 ∧ ∃ a b, Γ' = [some (kSc K l), some (kL (r.map fun i => kD (.int i))), a, b, none]) ⟨rfl, rfl, _, _, rfl⟩ ?_ fun _ _ _ h => ⟨h.1, h.2.1⟩
    rintro i k n' Γ' O' hk ⟨rfl, rfl, a, b, rfl⟩
    obtain ⟨hi, rfl⟩ := kRange_get hk
    refine ⟨_, _, tgt_name (of_decide_eq_true rfl), ?_⟩
    intro G0 H0 Gb G H σ s D d
    unfold tSeq tAsg tCall
    refine ea_cons (ev_var (md := M0) (n := 0) (i := 1) (P := kL (r.map fun i => kD (.int i))) rfl) (ea_cons (ev_var (i := 2) (P := kD (eI i)) rfl) ea_nil) G H σ s.c _ fun vs H1 G1 g1 j1 av => ?_
    have s1 := s.next g1 j1
    refine ⟨G1, r, i, s1.c.gh, by rw [List.append_nil]; exact av, hi, hr.2, fun p H2 G2 g2 hp gp bx => ?_⟩
    have s2 := (s1.next (n := 0) g2 trivial).set (i := 3) (k := kP p) (v := .ref p) (of_decide_eq_true rfl) rfl
    have h0p : H0 p = none := by
      cases e : H0 p with
      | none => rfl
      | some u => have := s1.gr.hh p u (fun z => z) e; rw [hp] at this; cases this
    have key : EvT (mB p) 0 3600 (tNot (tB (tCB (rAll K) (tCons (tLc (iRng1 (tCons (tC (.int 4)) tNil)) (gName 4) tYes (tCall sp_l_right [] E0 (tCons (tVar 3) tNil)) [4]) tNil)))) ([some (kSc K l), some (kL (r.map fun i => kD (.int i))), some (kD (eI i)), some (kP p), none]) (· = !((List.replicate 4 true).all id)) := by
      refine et_notD (et_tB (ev_all (bs := List.replicate 4 true) (ea_cons (ev_imp (ev_up (ev_lcC 900 (xs := List.range 4) (kf := fun i => kD (.int (i : Nat))) (pf := kD (.bool true)) (src_range (j := 4) (ea_cons ev_int ea_nil) (by decide)) (by simp) (fun j => [some (kSc K l), some (kL (r.map fun i => kD (.int i))), some (kD (eI i)), some (kP p), some (kD (.int (j : Nat)))]) (fun j => tgt_name (of_decide_eq_true rfl)) fun j x hx => ev_callB (R := R_right) (ea_cons (ev_var rfl) ea_nil) ⟨rfl, rfl⟩ (by have := (List.getElem?_eq_some_iff.mp hx).1; simp at this; omega)) (by decide)) fun G v h => h) ea_nil)))
    have c2 : Ctx (mB p) 0 G2 H2 (σ.set 3 (some (.ref p))) [some (kSc K l), some (kL (r.map fun i => kD (.int i))), some (kD (eI i)), some (kP p), none] := ⟨s2.c.gh, bx, fun a ha => by have : a = p := ha; rw [this]; exact gp, s2.c.env⟩
    unfold gName tIfS
    dsimp only
    refine key G2 H2 _ c2 _ fun t H3 G3 g3 j3 et => ?_
    have et' : t = false := by rw [et]; rfl
    subst et'
    refine d.nx 0 [some (kSc K l), some (kL (r.map fun i => kD (.int i))), some (kD (eI i)), some (kP p), none] o0 G3 H3 _ ⟨rfl, rfl, _, _, rfl⟩ ⟨⟨s2.gr.gg.trans g3.gg, g3.gh, fun a u _ e => ?_, fun a ha e => ?_⟩, s2.sb.trans g3.gg, ⟨g3.gh, trivial, fun _ z => z.elim, s2.c.env.mono g3.le⟩, trivial⟩
    · exact g3.hh a u (fun z => by have : a = p := z; rw [this, h0p] at e; cases e) (s2.gr.hh a u (fun z => z) e)
    · refine g3.nw a ?_ (s2.gr.nw a ha e)
      cases e0 : H0 a with
      | none => exact absurd e0 ha
      | some u => rw [s2.gr.hh a u (fun z => z) e0]; exact fun z => nomatch z
  · rintro n' Γ' O' ⟨rfl, rfl⟩
    exact tr_ret ev_bl ⟨rfl, rfl⟩
end
end Ll
end

section
set_option Elab.async false
set_option linter.all false
set_option maxRecDepth 100000
set_option maxHeartbeats 1000000
/-! Ll, walk: _law_same, of data with itself. -/
namespace Ll
open PySem PySem.Spec PyProof.Rows L2
theorem walk_zipT {K : PySem.W.Frag} {a b : Addr} {xs ys : List V} {n : Nat} (hn : n = min xs.length ys.length) : Walk (RZ.ItzT K a b) n (fun H => SqT K H a xs ∧ SqT K H b ys) (YPair (fun i => xs[i]?) (fun i => ys[i]?)) := by
  subst hn
  refine ⟨fun i _ hi q => ?_, fun _ q => ⟨xs, ys, q.1, q.2, by omega⟩, fun i H v H' _ q y => ?_⟩
  · have h1 : i < xs.length := by omega
    have h2 : i < ys.length := by omega
    exact ⟨xs, ys, xs[i], ys[i], q.1, q.2, by simp [h1], by simp [h2]⟩
  · obtain ⟨T, x, z, h1, h2, h3, h4, h5⟩ := y
    exact ⟨T, x, z, h1, h2, h3, h4 xs q.1, h5 ys q.2⟩
section
variable {md : Md} {m n k : Nat} {Γ : Env} {K : PySem.W.Frag} {ta tb te : TE} {t : TA}
theorem wk_zip {J : It} {xs ys : List V} {G : Hp} {ks : List Kn} (w : Walk J ks.length (fun H => Same G H) (YPair (fun i => xs[i]?) (fun i => ys[i]?))) (h1 : AllK G ks xs) (h2 : AllK G ks ys) : Wk J (ks.map fun k => kT [k, k]) G := by
  refine ⟨_, by rw [List.length_map]; exact w, fun i k H x H' Gc hk s1 s2 y => ?_⟩
  rw [List.getElem?_map] at hk
  cases q : ks[i]? with
  | none => rw [q] at hk; cases hk
  | some k' =>
    rw [q] at hk; cases hk
    obtain ⟨T, x1, x2, rfl, hT, rfl, e1, e2⟩ := y
    obtain ⟨u, hu, pu⟩ := AllK.get h1 q
    obtain ⟨v, hv, pv⟩ := AllK.get h2 q
    have : u = x1 := Option.some.inj (hu.symm.trans e1)
    subst this
    have : v = x2 := Option.some.inj (hv.symm.trans e2)
    subst this
    have gT : Gc T = none := s2.free hT
    have le := le_same (s1.trans (same_new (o := .tup [u, v]) gT))
    exact ⟨upd Gc T (.tup [u, v]), Gr.new s2 hT, T, _, rfl, upd_same, k'.mono _ _ _ le pu, k'.mono _ _ _ le pv, trivial⟩
theorem src_zipA {ks : List Kn} (h : EvA md m n t Γ [kL ks, kL ks] ∨ EvA md m n t Γ [kT ks, kT ks]) : Src md m n (RZ.iZipA K t) Γ (ks.map fun k => kT [k, k]) := fun G H σ c R r => by
  rcases h with h | h
  · refine h G H σ c _ fun vs H1 G1 g1 j1 a => ?_
    match vs, a with
    | [v, w], ⟨⟨a1, xs, e1, h1, ax⟩, ⟨a2, ys, e2, h2, ay⟩, _⟩ =>
      subst e1 e2
      refine ⟨a1, a2, xs, ys, rfl, .inl ⟨SqL.of (g1.gh _ _ h1), SqL.of (g1.gh _ _ h2), r _ H1 G1 g1 j1 (wk_zip ?_ ax ay)⟩⟩
      have hl : ks.length = min xs.length ys.length := by rw [← AllK.len ax, ← AllK.len ay, Nat.min_self]
      exact (walk_zip (K := K) (a := a1) (b := a2) (xs := xs) (ys := ys) hl).mono (fun H s => ⟨SqL.of (s _ _ h1), SqL.of (s _ _ h2)⟩) fun _ _ _ _ _ _ y => y
  · refine h G H σ c _ fun vs H1 G1 g1 j1 a => ?_
    match vs, a with
    | [v, w], ⟨⟨a1, xs, e1, h1, ax⟩, ⟨a2, ys, e2, h2, ay⟩, _⟩ =>
      subst e1 e2
      refine ⟨a1, a2, xs, ys, rfl, .inr ⟨SqT.of (g1.gh _ _ h1), SqT.of (g1.gh _ _ h2), r _ H1 G1 g1 j1 (wk_zip ?_ ax ay)⟩⟩
      have hl : ks.length = min xs.length ys.length := by rw [← AllK.len ax, ← AllK.len ay, Nat.min_self]
      exact (walk_zipT (K := K) (a := a1) (b := a2) (xs := xs) (ys := ys) hl).mono (fun H s => ⟨SqT.of (s _ _ h1), SqT.of (s _ _ h2)⟩) fun _ _ _ _ _ _ y => y
/-- the class of such data -/
def tyD : PyData → String
  | .none => "NoneType"
  | .bool _ => "bool"
  | .str _ => "str"
  | .list _ => "list"
  | .tuple _ => "tuple"
  | _ => "int"
theorem ty_of {G H : Hp} {v : V} {d : PyData} (s : Same G H) (h : Dq G v d) : TyX K H v (.type (tyD d)) := by
  cases h with
  | non => exact .base .non
  | bl b => exact .base (.bl b)
  | int i => exact .base (.int i)
  | str x => exact .base (.str x)
  | lst h r => exact .base (.lst (s _ _ h))
  | tup h r => exact .base (.tup (s _ _ h))
theorem ev_isi {d : PyData} {c : String} {b : Bool} (ha : Ev md m n te Γ (kD d)) (hb : PySem.W.kitOne K (.type (tyD d)) (.type c) = some b) : Ev md m n (tCB (rIsi K) (tCons te (tCons (tC (.ty c)) tNil))) Γ (kD (.bool b)) := fun G H σ cc Q q =>
  ha G H σ cc _ fun v H1 G1 g j p => ⟨v, .ty c, .type (tyD d), .type c, b, rfl, .ty _, ty_of g.gh p, hb, q _ H1 G1 g j (.bl _)⟩
theorem ev_isiT {d : PyData} {c1 c2 : String} {b : Bool} (ha : Ev md m n te Γ (kD d)) (hb : PySem.W.kitAny K (.type (tyD d)) [.type c1, .type c2] = some b) : Ev md m n (tCB (rIsiT K) (tCons te (tCons (tTup (tCons (tC (.ty c1)) (tCons (tC (.ty c2)) tNil))) tNil))) Γ (kD (.bool b)) := fun G H σ cc Q q =>
  ha G H σ cc _ fun v H1 G1 g j p => ⟨(show 2 ≤ sizeLine by decide), fun tp hp => by
    have gx : Gr md.mu G1 H1 G1 (upd H1 tp (.tup [.ty c1, .ty c2])) := ⟨Same.refl _, fun b u e => by rw [upd_ne (ne_of_none e (g.gh.free hp))]; exact g.gh b u e, fun b u _ e => same_new hp b u e, fun _ _ h => h⟩
    exact ⟨v, tp, _, .type (tyD d), _, b, rfl, upd_same, .cons (.ty _) (.cons (.ty _) .nil), ty_of gx.gh p, hb, q _ _ G1 (g.trans (fun a z => md.dom _ _ a j (md.muk a z)) gx) (md.st _ _ _ j fun b u _ e => same_new hp b u e) (.bl _)⟩⟩
end
/-- None, a bool, a text -/
def Atm (d : PyData) : Prop := d = .none ∨ (∃ b, d = .bool b) ∨ ∃ x, d = .str x ∧ Lt x
def R_s (D : PyData → Prop) (ks : List Kn) (P : Kn) : Prop := ∃ d, D d ∧ ks = [kD d, kD d] ∧ P = kD (.bool true)
theorem eqv_self {d : PyData} (h : Atm d) : PyData.eqv d d = true := by
  rcases h with rfl | ⟨b, rfl⟩ | ⟨x, rfl, _⟩ <;> simp [PyData.eqv]
theorem shaped_atm {d : PyData} (h : Atm d) : SeqAt.shaped d = true := by
  rcases h with rfl | ⟨b, rfl⟩ | ⟨x, rfl, hx⟩
  · rfl
  · rfl
  · exact (sh_str (n := 60) hx.ok).shaped (by decide)
section
variable {P : Program} {w : World} {K : PySem.W.Frag} {mg : Str → Option Value} {base : Heap}
theorem ev_eqA {md : Md} {m n k : Nat} {Γ : Env} {ta tb : TE} {d : PyData} (ha : Ev md m n ta Γ (kD d)) (hb : Ev md n k tb Γ (kD d)) (h : Atm d) : Ev md m k (tOp (rEqD K) ta tb) Γ (kD (.bool true)) :=
  ev_op ha hb fun G H x y s jj px py => Out.val s jj (.bl _) fun Q q => ⟨d, d, (le_dp (le_same s) px).dp, (le_dp (le_same s) py).dp, shaped_atm h, shaped_atm h, by rw [eqv_self h]; exact q⟩
theorem ev_eqB {md : Md} {m n k : Nat} {Γ : Env} {ta tb : TE} {b : Bool} (ha : Ev md m n ta Γ (kD (.bool b))) (hb : Ev md n k tb Γ (kD (.bool b))) : Ev md m k (tOp rEq ta tb) Γ (kD (.bool true)) :=
  ev_eqF (f := fun v w => decide (v = w)) (fun G v pv w pw => by rw [kD_bool.mp pv, kD_bool.mp pw]; exact ⟨rfl, by simp⟩) rEq (fun x y H Q h q => ⟨h, q⟩) ha hb
/-- the rule: one deeper -/
theorem cal_same1 {n : Nat} {D : PyData → Prop} (B : Bi mg) (c : Cal P w K mg base n "_law_same" ["_law_got", "_law_due_so"] (spQ (R_s D))) (F : Fd K mg "_law_same" 40) :
    Cal P w K mg base (n + 1) "_law_same" ["_law_got", "_law_due_so"] (spQ (R_s fun d => Atm d ∨ ∃ ds, (d = .list ds ∨ d = .tuple ds) ∧ ds.length ≤ 100 ∧ ∀ e ∈ ds, D e)) := by
  refine cal_Q F sc__law_same (by decide) (fun _ _ _ _ _ _ us hl => match us, hl with | [_, _], _ => rfl) (fun ks Pk ⟨_, _, e, _⟩ => by rw [e]; rfl) (fun f cdv A outer s H E hr => der__law_same B c hr) ?_
  rintro ks Pk ⟨d, hd, rfl, rfl⟩
  left
  have seq : ∀ ds : List PyData, (d = .list ds ∨ d = .tuple ds) → ds.length ≤ 100 → (∀ e ∈ ds, D e) → Tr M0 0 [some (kD d), some (kD d), none, none] o0 (t__law_same K (spQ (R_s D))) (eRet 0 (kD (.bool true))) := fun ds he hl hD => by
    have h1 : PySem.W.kitAny K (.type (tyD d)) [.type "list", .type "tuple"] = some true := by rcases he with rfl | rfl <;> rfl
    have hlen : ∀ {i : Nat} {Γ : Env}, Γ[i]? = some (some (kD d)) → Ev M0 0 0 (tCB (cLen K) (tCons (tVar i) tNil)) Γ (kD (.int ((ds.map kD).length : Nat))) := fun h => by
      rcases he with rfl | rfl
      · exact ev_lenL (ea_cons (ev_asL (ev_var h)) ea_nil)
      · exact ev_lenT (ea_cons (ev_asT (ev_var h)) ea_nil)
    have hisL : ∃ b, PySem.W.kitOne K (.type (tyD d)) (.type "list") = some b := by rcases he with rfl | rfl <;> exact ⟨_, rfl⟩
    have hisT : ∃ b, PySem.W.kitOne K (.type (tyD d)) (.type "tuple") = some b := by rcases he with rfl | rfl <;> exact ⟨_, rfl⟩
    obtain ⟨bl, hbl⟩ := hisL
    obtain ⟨bt, hbt⟩ := hisT
    refine tr_when (et_tB (ev_isiT (ev_var rfl) h1)) (fun _ => tr_done ?_) fun e => tr_abs (by cases e)
    refine tr_when (et_orD (et_test (ev_neB (ev_isi (ev_var rfl) hbl) (ev_isi (ev_var rfl) hbl))) fun _ => et_test (ev_neB (ev_isi (ev_var rfl) hbt) (ev_isi (ev_var rfl) hbt))) (fun e => tr_abs (by simp at e)) fun _ => tr_skip ?_
    refine tr_ret (ev_imp (ev_and (c := (List.replicate ds.length true).all id) (ev_eqI (hlen rfl) (hlen rfl)) fun _ => ev_all (bs := List.replicate ds.length true) (ea_cons (ev_imp (ev_lcX (xs := ds) (kf := fun e => kT [kD e, kD e]) (pf := fun _ => kD (.bool true)) (by
      have := src_zipA (K := K) (md := M0) (m := 0) (n := 0) (Γ := [some (kD d), some (kD d), none, none]) (ks := ds.map kD) (t := tCons (tVar 0) (tCons (tVar 1) tNil)) (by
        rcases he with rfl | rfl
        · exact .inl (ea_cons (ev_asL (ev_var rfl)) (ea_cons (ev_asL (ev_var rfl)) ea_nil))
        · exact .inr (ea_cons (ev_asT (ev_var rfl)) (ea_cons (ev_asT (ev_var rfl)) ea_nil)))
      rw [List.map_map] at this
      exact this) (by omega) (fun e => [some (kD d), some (kD d), some (kD e), some (kD e)]) (fun e => tgt_two (of_decide_eq_true rfl) (of_decide_eq_true rfl)) fun e he' => ev_callQ (ea_cons (ev_var rfl) (ea_cons (ev_var rfl) ea_nil)) ⟨e, hD e he', rfl, rfl⟩) fun G v h => by rw [List.map_const'] at h; rw [List.map_replicate]; exact h) ea_nil)) fun G v h => ?_) ⟨rfl, rfl⟩
    have : (List.replicate ds.length true).all id = true := by rw [List.all_eq_true]; intro x hx; rw [(List.mem_replicate.mp hx).2]; rfl
    rw [this] at h
    simpa using h
  rcases hd with ha | ⟨ds, he, hl, hD⟩
  · have h1 : PySem.W.kitAny K (.type (tyD d)) [.type "list", .type "tuple"] = some false := by rcases ha with rfl | ⟨b, rfl⟩ | ⟨x, rfl, _⟩ <;> rfl
    have h2 : (isNo d || (match PySem.W.kitAny K (.type (tyD d)) [.type "bool", .type "str"] with | some b => b | none => false)) = true ∧ ∃ b, PySem.W.kitAny K (.type (tyD d)) [.type "bool", .type "str"] = some b := by rcases ha with rfl | ⟨b, rfl⟩ | ⟨x, rfl, _⟩ <;> exact ⟨rfl, _, rfl⟩
    obtain ⟨h2, bb, hbb⟩ := h2
    rw [hbb] at h2
    have hisB : ∃ b, PySem.W.kitOne K (.type (tyD d)) (.type "bool") = some b := by rcases ha with rfl | ⟨b, rfl⟩ | ⟨x, rfl, _⟩ <;> exact ⟨_, rfl⟩
    obtain ⟨bl, hbl⟩ := hisB
    refine tr_when (et_tB (ev_isiT (ev_var rfl) h1)) (fun e => tr_abs (by cases e)) fun _ => tr_skip ?_
    refine tr_when (et_orD (et_test (ev_isNo (ev_var rfl) ev_non)) fun _ => et_tB (ev_isiT (ev_var rfl) hbb)) (fun _ => tr_done ?_) fun e => tr_abs (by rw [h2] at e; cases e)
    exact tr_ret (ev_imp (ev_and (c := true) (ev_eqA (ev_var rfl) (ev_var rfl) ha) fun _ => ev_imp (ev_and (c := true) (ev_eqB (ev_isi (ev_var rfl) hbl) (ev_isi (ev_var rfl) hbl)) fun _ => ev_eqB (ev_isNo (ev_var rfl) ev_non) (ev_isNo (ev_var rfl) ev_non)) fun G v h => h) fun G v h => h) ⟨rfl, rfl⟩
  · exact seq ds he hl hD
theorem cal_same0 (F : Fd K mg "_law_same" 40) : Cal P w K mg base 1 "_law_same" ["_law_got", "_law_due_so"] (spQ (R_s fun _ => False)) := by
  refine cal_Q (k := 0) (t := tNever) F sc__law_same (by decide) (fun _ _ _ _ _ _ us hl => match us, hl with | [_, _], _ => rfl) (fun ks Pk ⟨_, h, _⟩ => h.elim) (fun f cdv A outer s H E hr => pss_never) ?_
  rintro ks Pk ⟨d, h, _⟩
  exact h.elim
end
end Ll
end

section
set_option Elab.async false
set_option linter.all false
set_option maxRecDepth 100000
set_option maxHeartbeats 1000000
/-! Ll: a loop over a dict that stays as it is, something else being built. -/
namespace Ll
open PySem PySem.Spec PyProof.Rows L2
theorem tr_lockQ {Γ : Env} {p : Addr} {k : Ob} {R : Env → Ob → Prop} {t : TS} {Ri : Addr → Env → Ob → Prop} (conv : ∀ d Γ' k', Ri d Γ' k' → ∃ Γo, R Γo k' ∧ ∀ G σ, EnvOk G σ Γ' → EnvOk G σ Γo)
    (h : ∀ G H σ, Ctx M0 0 G H σ Γ → ∃ d o ps Γ', G d = some o ∧ core o = .dK ps ∧ EnvOk G σ Γ' ∧ ∀ od, Tr (mL M0 d od ps) 0 Γ' (oOb p k) t { nx := fun n' Γ'' O' => n' = 0 ∧ ∃ k', Ri d Γ'' k' ∧ O' = oOb p k' }) :
    Tr M0 0 Γ (oOb p k) (sLockQ t) { nx := fun n' Γ'' O' => n' = 0 ∧ ∃ k', R Γ'' k' ∧ O' = oOb p k' } := fun G0 H0 Gb G H σ s D dd => by
  obtain ⟨d, o, ps, Γ', gd, hc, env, tr⟩ := h G H σ s.c
  obtain ⟨_, h0p, gp, op, hp, hok⟩ := s.o
  have hd : H d = some o := s.c.gh _ _ gd
  have pd : p ≠ d := fun z => by rw [z, gd] at gp; cases gp
  rcases core_dK hc with rfl | ⟨od, rfl⟩
  · refine .inr ⟨d, .dK ps, hd, trivial, fun od => ?_⟩
    have l1 : Le G (upd G d (.frz od (.dK ps))) := fun a u e => by
      by_cases z : a = d
      · subst z; rw [gd] at e; cases e; exact ⟨_, upd_same, rfl⟩
      · exact ⟨u, by rw [upd_ne z]; exact e, rfl⟩
    have gh1 : Same (upd G d (.frz od (.dK ps))) (upd H d (.frz od (.dK ps))) := fun a u e => by
      by_cases z : a = d
      · subst z; rw [upd_same] at e ⊢; exact e
      · rw [upd_ne z] at e ⊢; exact s.c.gh a u e
    have si : St (mL M0 d od ps) 0 Γ' (oOb p k) (upd G d (.frz od (.dK ps))) (less (upd H d (.frz od (.dK ps))) p) (upd G d (.frz od (.dK ps))) (upd G d (.frz od (.dK ps))) (upd H d (.frz od (.dK ps))) σ := by
      refine ⟨⟨Same.refl _, gh1, fun a u _ e => ?_, fun _ _ h => h⟩, Same.refl _, ⟨gh1, ⟨trivial, upd_same⟩, fun _ z => z.elim, env.mono l1⟩, fun z => z.elim (fun y => y) pd, less_same, by rw [upd_ne pd]; exact gp, op, by rw [upd_ne pd]; exact hp, k.mono _ _ _ l1 hok⟩
      by_cases z : a = p
      · subst z; rw [less_same] at e; cases e
      · rw [less_ne z] at e; exact e
    refine tr od _ _ _ _ _ _ si _ ⟨fun n' Γ'' O' G3 H3 σ3 ⟨e1, k', rk, e2⟩ s3 => ?_, fun _ _ _ _ _ z => z.elim, fun _ _ _ _ _ _ z => z.elim, fun _ _ _ _ _ _ z => z.elim⟩
    subst e1 e2
    obtain ⟨Γo, ro, we⟩ := conv d Γ'' k' rk
    have h3d : H3 d = some (.frz od (.dK ps)) := s3.c.j.2
    have g3d : G3 d = some (.frz od (.dK ps)) := s3.sb _ _ upd_same
    obtain ⟨_, _, g3p, o3, h3p, ok3⟩ := s3.o
    have l2 : Le G3 (upd G3 d (.dK ps)) := fun a u e => by
      by_cases z : a = d
      · subst z; rw [g3d] at e; cases e; exact ⟨_, upd_same, rfl⟩
      · exact ⟨u, by rw [upd_ne z]; exact e, rfl⟩
    have keep : ∀ a u, G a = some u → upd G3 d (.dK ps) a = some u := fun a u e => by
      by_cases z : a = d
      · subst z; rw [gd] at e; cases e; exact upd_same
      · rw [upd_ne z]; exact s3.sb a u (by rw [upd_ne z]; exact e)
    have gh4 : Same (upd G3 d (.dK ps)) (upd H3 d (.dK ps)) := fun a u e => by
      by_cases z : a = d
      · subst z; rw [upd_same] at e ⊢; exact e
      · rw [upd_ne z] at e ⊢; exact s3.c.gh a u e
    refine ⟨h3d, dd.nx 0 Γo (oOb p k') (upd G3 d (.dK ps)) (upd H3 d (.dK ps)) σ3 ⟨rfl, k', ro, rfl⟩ ⟨⟨fun a u e => keep a u (s.gr.gg a u e), gh4, fun a u _ e => ?_, fun a ha e => ?_⟩, fun a u e => keep a u (s.sb a u e), ⟨gh4, trivial, fun _ z => z.elim, we _ _ (s3.c.env.mono l2)⟩, fun z => z, h0p, by rw [upd_ne pd]; exact g3p, o3, by rw [upd_ne pd]; exact h3p, k'.mono _ _ _ l2 ok3⟩⟩
    · have e1 := s.gr.hh a u (fun z => z) e
      have ap : a ≠ p := fun z => by rw [z, h0p] at e; cases e
      by_cases z : a = d
      · subst z; rw [hd] at e1; cases e1; exact upd_same
      · rw [upd_ne z]
        exact s3.gr.hh a u (fun z => z) (by rw [less_ne ap, upd_ne z]; exact e1)
    · have ga := s.gr.nw a ha e
      have z : a ≠ d := fun z => by rw [z, gd] at ga; cases ga
      rw [upd_ne z]
      refine s3.gr.nw a ?_ (by rw [upd_ne z]; exact ga)
      have ap : a ≠ p := fun y => ha (y ▸ h0p)
      rw [less_ne ap, upd_ne z]
      cases e0 : H0 a with
      | none => exact absurd e0 ha
      | some u => rw [s.gr.hh a u (fun y => y) e0]; exact fun y => nomatch y
  · refine .inl ?_
    have si : St (mL M0 d od ps) 0 Γ' (oOb p k) G0 H0 Gb G H σ := ⟨s.gr, s.sb, ⟨s.c.gh, ⟨trivial, hd⟩, fun _ z => z.elim, env⟩, fun z => z.elim (fun y => y) pd, h0p, gp, op, hp, hok⟩
    refine tr od G0 H0 Gb G H σ si _ ⟨fun n' Γ'' O' G3 H3 σ3 ⟨e1, k', rk, e2⟩ s3 => ?_, fun _ _ _ _ _ z => z.elim, fun _ _ _ _ _ _ z => z.elim, fun _ _ _ _ _ _ z => z.elim⟩
    subst e1 e2
    obtain ⟨Γo, ro, we⟩ := conv d Γ'' k' rk
    obtain ⟨_, a1, a2, a3⟩ := s3.o
    exact dd.nx 0 Γo (oOb p k') G3 H3 σ3 ⟨rfl, k', ro, rfl⟩ ⟨s3.gr, s3.sb, ⟨s3.c.gh, trivial, fun _ z => z.elim, we _ _ s3.c.env⟩, fun z => z, a1, a2, a3⟩
/-- a dict's values, in their order -/
theorem src_vals {md : Md} {m n : Nat} {Γ : Env} {td : TE} {P1 : Kn} {d : Addr} {od : Obj} {ps : List (L2.Key × V)} {ks : List Kn} (hJ : ∀ n H, md.J n H → H d = some (.frz od (.dK ps))) (h : Ev md m n td Γ P1) (hP : ∀ G v, P1.p G v → v = .ref d ∧ ∃ o, G d = some o ∧ ∀ qs, core o = .dK qs → AllK G ks (qs.map (·.2))) :
    Src md m n (iVals td) Γ ks := fun G H σ c R r =>
  h G H σ c _ fun v H1 G1 g1 j1 p1 => by
    obtain ⟨rfl, o, go, al⟩ := hP G1 v p1
    have hd := hJ _ _ j1
    have eo : o = .frz od (.dK ps) := by have := g1.gh _ _ go; rw [hd] at this; exact (Option.some.inj this).symm
    subst eo
    have al := al ps rfl
    have hl : ks.length = ps.length := by rw [AllK.len al, List.length_map]
    refine ⟨d, od, ps, rfl, hd, r _ H1 G1 g1 j1 ⟨fun i H x H' => H' = H ∧ ∃ k, ps[i]? = some (k, x), ?_, fun i k H x H' Gc hki s1 s2 ⟨e1, kk, e2⟩ => ?_⟩⟩
    · rw [hl]
      exact walk_values.mono (fun H s => s _ _ go) fun _ _ _ _ _ _ y => y
    · subst e1
      obtain ⟨w, hw, pw⟩ := AllK.get al hki
      rw [List.getElem?_map, e2] at hw
      have : x = w := Option.some.inj hw
      subst this
      exact ⟨Gc, Gr.refl s2, k.mono _ _ _ (le_same s1) pw⟩
end Ll
end

section
set_option Elab.async false
set_option linter.all false
set_option maxRecDepth 100000
set_option maxHeartbeats 1000000
/-! Ll, walk: _law_far, told by a mirror with fuel. -/
namespace Ll
open PySem PySem.Spec PyProof.Rows L2
def farQ (d : Str × List Nat) (p : Pr) : Pr := (d.2.getD p.1 0, d.2.getD p.2 0)
def farIn (seen : List Pr) (p : Pr) (acc : List Pr) (d : Str × List Nat) : List Pr := if farQ d p ∈ seen ++ acc then acc else acc ++ [farQ d p]
def farOne (ds : Deeds) (seen : List Pr) (acc : List Pr) (p : Pr) : List Pr := ds.foldl (farIn seen p) acc
def farGo (M : Mc) (b : Str) (r : Nat) : Nat → List Pr → List Pr → Nat → Prop
  | 0, _, _, _ => False
  | f + 1, edge, seen, size => edge ≠ [] ∧ edge.length ≤ 50 ∧ seen.length ≤ 50 ∧ if (edge.map fun p => M.sc b p).any (fun q => !decide (M.mu q.1 = M.mu q.2)) = true then size = r else farGo M b r f (edge.foldl (farOne M.ds (seen ++ edge)) []) (seen ++ edge) (size + 1)
def R_lfar (ks : List Kn) (P : Kn) : Prop := ∃ M a b r, Mc.Ok M ∧ ks = [kMt M, kD (.str a), kD (.str b)] ∧ a ∈ M.nms ∧ b ∈ M.nms ∧ farGo M b r 30 ((List.range M.n).map fun s => (M.mv a s, s)) [] 0 ∧ P = kD (eI r)
theorem sh_ePr1 {p : Pr} : Sh 1 (ePr p) := by
  refine sh_tup (n := 0) fun d hd => ?_
  rcases List.mem_cons.mp hd with rfl | hd
  · exact sh_eI
  · rw [List.mem_singleton.mp hd]; exact sh_eI
theorem sh_prl {l : List Pr} : Sh 60 (.list (l.map ePr)) := (sh_list (n := 1) fun d hd => by obtain ⟨p, _, rfl⟩ := List.mem_map.mp hd; exact sh_ePr1).mono (by decide)
theorem eqv_prl {l : List Pr} : PyData.eqv (.list (l.map ePr)) (.list []) = decide (l = []) := by cases l <;> simp [PyData.eqv, PyData.eqvAll]
theorem prs_kT {G : Hp} {v : V} {l : List Pr} (h : (kL (l.map fun p => kD (ePr p))).p G v) : (kL (l.map fun p => kT [kD (eI p.1), kD (eI p.2)])).p G v := by
  obtain ⟨b, vs, e, hs, ax⟩ := h
  refine ⟨b, vs, e, hs, ?_⟩
  have key : ∀ {l : List Pr} {vs : List V}, AllK G (l.map fun p => kD (ePr p)) vs → AllK G (l.map fun p => kT [kD (eI p.1), kD (eI p.2)]) vs := fun {l} => by
    induction l with
    | nil => intro vs h; cases vs with | nil => trivial | cons _ _ => exact h.elim
    | cons p l ih => intro vs h; cases vs with | nil => exact h.elim | cons v vs => exact ⟨kD_tup.mp h.1, ih h.2⟩
  exact key ax
theorem farIn_len {seen : List Pr} {p : Pr} {acc : List Pr} {d : Str × List Nat} : (farIn seen p acc d).length ≤ acc.length + 1 := by
  unfold farIn
  split
  · omega
  · simp
theorem farOne_len {seen : List Pr} {p : Pr} : ∀ {ds : Deeds} {acc : List Pr}, (farOne ds seen acc p).length ≤ acc.length + ds.length
  | [], acc => Nat.le_refl _
  | d :: ds, acc => by
    have h1 := farOne_len (seen := seen) (p := p) (ds := ds) (acc := farIn seen p acc d)
    have h2 := farIn_len (seen := seen) (p := p) (acc := acc) (d := d)
    show (farOne ds seen (farIn seen p acc d) p).length ≤ _
    simp; omega
theorem far_all {T : Pr → Prop} {ds : Deeds} {seen : List Pr} : ∀ {edge acc : List Pr}, (∀ p ∈ edge, ∀ d ∈ ds, T (farQ d p)) → (∀ q ∈ acc, T q) → ∀ q ∈ edge.foldl (farOne ds seen) acc, T q
  | [], acc, _, h => h
  | p :: edge, acc, h1, h2 => by
    rw [List.foldl_cons]
    refine far_all (fun p' hp' => h1 p' (List.mem_cons_of_mem _ hp')) ?_
    have one : ∀ {ds : Deeds} {acc : List Pr}, (∀ d ∈ ds, T (farQ d p)) → (∀ q ∈ acc, T q) → ∀ q ∈ farOne ds seen acc p, T q := fun {ds} => by
      induction ds with
      | nil => intro acc _ h; exact h
      | cons d ds ih =>
        intro acc hd h
        refine ih (fun e he => hd e (List.mem_cons_of_mem _ he)) fun q hq => ?_
        unfold farIn at hq
        split at hq
        · exact h q hq
        · rcases List.mem_append.mp hq with hq | hq
          · exact h q hq
          · rw [List.mem_singleton.mp hq]; exact hd d List.mem_cons_self
    exact one (h1 p List.mem_cons_self) h2
theorem foldl_take {α β : Type} {f : β → α → β} {xs : List α} {i : Nat} {x : α} {b : β} (h : xs[i]? = some x) : (xs.take (i + 1)).foldl f b = f ((xs.take i).foldl f b) x := by
  rw [take_snoc h, List.foldl_append]; rfl
section
variable {md : Md} {m n k : Nat} {Γ : Env} {K : PySem.W.Frag} {ta tb : TE}
theorem et_ninD {q : Pr} {l : List Pr} (ha : Ev md m n ta Γ (kD (ePr q))) (hb : Ev md n k tb Γ (kD (.list (l.map ePr)))) : EvT md m k (tTest (tOp (rNotInD K) ta tb)) Γ (· = !decide (q ∈ l)) :=
  et_op ha hb fun G H x y s px py => ⟨_, rfl, fun Q qq => ⟨ePr q, l.map ePr, (le_dp (le_same s) px).dp, (le_dp (le_same s) py).dp, (sh_ePr1 (p := q)).shaped (by decide), sh_prl.shaped (by decide), by
    have : ((l.map ePr).any fun z => PyData.eqv z (ePr q)) = decide (q ∈ l) := by
      rw [Bool.eq_iff_iff, List.any_eq_true, decide_eq_true_iff]
      constructor
      · rintro ⟨z, hz, e⟩
        obtain ⟨p, hp, rfl⟩ := List.mem_map.mp hz
        rw [eqv_sh sh_ePr sh_ePr] at e
        rw [← ePr_inj _ _ e]; exact hp
      · intro h
        exact ⟨_, List.mem_map.mpr ⟨q, h, rfl⟩, (eqv_sh sh_ePr sh_ePr).mpr rfl⟩
    rw [this]; exact qq⟩⟩
end
section
variable {P : Program} {w : World} {K : PySem.W.Frag} {mg : Str → Option Value} {base : Heap}
theorem dt_vals {M : Mc} {d : Addr} (G : Hp) (v : V) (h : (kAt d (kDt M)).p G v) : v = .ref d ∧ ∃ o, G d = some o ∧ ∀ qs, core o = .dK qs → AllK G (M.ds.map fun d => kD (eRow d.2)) (qs.map (·.2)) := by
  obtain ⟨e, a, o, ps, e2, ha, hc, hk, al⟩ := h
  rw [e] at e2
  cases e2
  refine ⟨e, o, ha, fun qs hq => ?_⟩
  rw [hc] at hq
  cases hq
  rw [List.map_map] at al
  exact al
theorem cal_lfar (B : Bi mg) (c1 : Cal P w K mg base 1 "_law_kinds" ["_law_mat"] (spQ R_lkinds)) (F : Fd K mg "_law_far" 58) : Cal P w K mg base 2 "_law_far" ["_law_mat", "_law_one_so", "_law_by_so"] (spQ R_lfar) := by
  refine cal_Q F sc__law_far (by decide) (fun _ _ _ _ _ _ us hl => match us, hl with | [_, _, _], _ => rfl) (fun ks Pk ⟨_, _, _, _, _, e, _⟩ => by rw [e]; rfl) (fun f cdv A outer s H E hr => der__law_far B c1 hr) ?_
  rintro ks Pk ⟨M, a, b, r, o, rfl, ha, hb, hgo, rfl⟩
  have hd8 := o.d8
  have hn6 := o.n6
  have hn1 := o.n1
  have hra := (o.row_len ha).1
  have hrb := (o.row_len hb).1
  have dtm : ∀ {Γ : Env} {i : Nat}, Γ[i]? = some (some (kDt M)) → Ev M0 0 0 (tVar i) Γ (kMap M.ds (·.1) fun d => kD (eRow d.2)) := fun h => ev_imp (ev_var h) (dt_map o)
  left
  refine tr_asg (P1 := kT [kLN M.marks, kDt M]) (ev_tup (ea_cons (ev_callQ (ea_cons (ev_var rfl) ea_nil) ⟨M, o, rfl, rfl⟩) (ea_cons (ev_ixT (P := kDt M) (j := 1) (ev_var (P := kMt M) rfl) ev_int rfl) ea_nil)) (by simp)) (tgt_two (of_decide_eq_true rfl) (of_decide_eq_true rfl)) ?_
  refine tr_par3 (P1 := kD (.list (((List.range M.n).map fun s => (M.mv a s, s)).map ePr))) (P2 := kD (.list (([] : List Pr).map ePr))) (P3 := kD (eI 0)) (ea_cons (ev_listD (f := ePr) (ev_imp (ev_lcX (xs := List.range M.n) (pf := fun s => kD (ePr (M.mv a s, s))) (src_range (ea_cons (ev_ixT (P := kD (eI M.n)) (j := 0) (ev_var (P := kMt M) rfl) ev_int rfl) ea_nil) (by omega)) (by simp; omega) (fun s => [some (kMt M), some (kD (.str a)), some (kD (.str b)), some (kLN M.marks), some (kDt M), none, none, none, none, none, none, none, none, some (kD (eI s)), none]) (fun s => tgt_name (of_decide_eq_true rfl)) fun s hs =>
    ev_ofT (ds := [eI (M.mv a s), eI s]) (ev_tup (ea_cons (ev_ixT (ev_Dtup (f := eI) (ev_mrow o (dtm rfl) (ev_var rfl) ha)) (ev_var rfl) (getK (d := 0) (by rw [hra]; exact List.mem_range.mp hs))) (ea_cons (ev_var rfl) ea_nil)) (by simp))) fun G v h => by rw [List.map_map]; exact h)) (ea_cons (ev_ofL (ds := []) (ev_lst ea_nil (by simp))) (ea_cons ev_int ea_nil))) (of_decide_eq_true rfl) (of_decide_eq_true rfl) (of_decide_eq_true rfl) ?_
  have hin0 : ∀ p ∈ (List.range M.n).map fun s => (M.mv a s, s), p.1 < M.n ∧ p.2 < M.n := fun p hp => by
    obtain ⟨s, hs, rfl⟩ := List.mem_map.mp hp
    have := List.mem_range.mp hs
    exact ⟨o.mv_lt ha this, this⟩
  generalize ((List.range M.n).map fun s => (M.mv a s, s)) = edge0 at hgo hin0
  let GF : List Pr → List Pr → Nat → Option Kn → Option Kn → Option Kn → Option Kn → Option Kn → Env := fun edge seen size a1 a2 a3 a4 a5 => [some (kMt M), some (kD (.str a)), some (kD (.str b)), some (kLN M.marks), some (kDt M), some (kD (.list (edge.map ePr))), some (kD (.list (seen.map ePr))), some (kD (eI size)), a1, a2, a3, a4, a5, none, none]
  refine tr_done (tr_while (fun l n' Γ' O' => n' = 0 ∧ O' = o0 ∧ ∃ edge seen size a1 a2 a3 a4 a5, Γ' = GF edge seen size a1 a2 a3 a4 a5 ∧ (∀ p ∈ edge, p.1 < M.n ∧ p.2 < M.n) ∧ farGo M b r l edge seen size) ⟨30, rfl, rfl, edge0, [], 0, _, _, _, _, _, rfl, hin0, hgo⟩ ?_)
  rintro l n' Γ' O' ⟨rfl, rfl, edge, seen, size, a1, a2, a3, a4, a5, rfl, hin, hg⟩
  cases l with
  | zero => exact hg.elim
  | succ l =>
    obtain ⟨g1, g2, g3, g4⟩ := hg
    refine ⟨0, _, et_neD (d := .list (edge.map ePr)) (e := .list []) (ev_var rfl) (ev_ofL (ds := []) (ev_lst ea_nil (by simp))) sh_prl (sh_prl (l := [])), fun _ => ?_, fun e => ?_⟩
    · -- ends
      refine tr_set (P1 := kL (edge.map fun p => kD (ePr (M.sc b p)))) (ev_lcX (xs := edge) (kf := fun p => kT [kD (eI p.1), kD (eI p.2)]) (pf := fun p => kD (ePr (M.sc b p))) (src_list (ev_imp (ev_Dlist (f := ePr) (ev_var rfl)) fun G v h => prs_kT h)) (by omega) (fun p => [some (kMt M), some (kD (.str a)), some (kD (.str b)), some (kLN M.marks), some (kDt M), some (kD (.list (edge.map ePr))), some (kD (.list (seen.map ePr))), some (kD (eI size)), some (kD (eI p.1)), some (kD (eI p.2)), a3, a4, a5, none, none]) (fun p => tgt_two (of_decide_eq_true rfl) (of_decide_eq_true rfl)) fun p hp =>
        ev_ofT (ds := [eI (M.mv b p.1), eI (M.mv b p.2)]) (ev_tup (ea_cons (ev_ixT (ev_Dtup (f := eI) (ev_mrow o (dtm rfl) (ev_var rfl) hb)) (ev_var rfl) (getK (d := 0) (by rw [hrb]; exact (hin p hp).1))) (ea_cons (ev_ixT (ev_Dtup (f := eI) (ev_mrow o (dtm rfl) (ev_var rfl) hb)) (ev_var rfl) (getK (d := 0) (by rw [hrb]; exact (hin p hp).2))) ea_nil)) (by simp))) (of_decide_eq_true rfl) ?_
      generalize eends : edge.map (fun p => M.sc b p) = ends at g4
      have hendl : ends.length ≤ 50 := by rw [← eends]; simpa using g2
      have hendin : ∀ q ∈ ends, q.1 < M.n ∧ q.2 < M.n := fun q hq => by
        rw [← eends] at hq
        obtain ⟨p, hp, rfl⟩ := List.mem_map.mp hq
        exact ⟨o.mv_lt hb (hin p hp).1, o.mv_lt hb (hin p hp).2⟩
      refine tr_put (i := 10) (P1 := kL (ends.map fun q => kD (ePr q))) rfl (fun G v h => by rw [← eends, List.map_map]; exact h) ?_
      let bf : Pr → Bool := fun q => !decide ((M.mu q.1 : Int) = M.mu q.2)
      refine tr_when (et_neD (d := .list ((ends.filter bf).map ePr)) (e := .list []) (ev_listD (f := ePr) (ev_lcF (xs := ends) (bf := bf) (pf := fun q => kD (ePr q)) (src_list (ev_var rfl)) (by omega) (fun q => [some (kMt M), some (kD (.str a)), some (kD (.str b)), some (kLN M.marks), some (kDt M), some (kD (.list (edge.map ePr))), some (kD (.list (seen.map ePr))), some (kD (eI size)), a1, a2, some (kL (ends.map fun q => kD (ePr q))), a4, a5, none, some (kD (ePr q))]) (fun q => tgt_name (of_decide_eq_true rfl)) (fun q hq => et_test (ev_neI (ev_ixL (ev_var (P := kLN M.marks) rfl) (ev_ixT (j := 0) (ev_asT (ds := [eI q.1, eI q.2]) (ev_var rfl)) ev_int rfl) (getK (d := 0) (by rw [marks_len]; exact (hendin q hq).1))) (ev_ixL (ev_var (P := kLN M.marks) rfl) (ev_ixT (j := 1) (ev_asT (ds := [eI q.1, eI q.2]) (ev_var rfl)) ev_int rfl) (getK (d := 0) (by rw [marks_len]; exact (hendin q hq).2))))) fun q hq _ => ev_var rfl)) (ev_ofL (ds := []) (ev_lst ea_nil (by simp))) sh_prl (sh_prl (l := []))) (fun e => ?_) fun e => tr_skip ?_
      · rw [eqv_prl] at e
        have hne : ends.filter bf ≠ [] := by simpa using e
        have hany : (ends.any fun q => !decide (M.mu q.1 = M.mu q.2)) = true := by
          obtain ⟨q, hq⟩ := List.exists_mem_of_ne_nil _ hne
          obtain ⟨h1, h2⟩ := List.mem_filter.mp hq
          refine List.any_eq_true.mpr ⟨q, h1, ?_⟩
          have h3 : ¬((M.mu q.1 : Int) = M.mu q.2) := by simpa [bf] using h2
          have : ¬(M.mu q.1 = M.mu q.2) := fun z => h3 (by rw [z])
          simp [this]
        rw [if_pos hany] at g4
        subst g4
        exact tr_done (tr_ret (ev_var (i := 7) rfl) ⟨rfl, rfl⟩)
      · rw [eqv_prl] at e
        have hnil : ends.filter bf = [] := by simpa using e
        have hany : ¬((ends.any fun q => !decide (M.mu q.1 = M.mu q.2)) = true) := fun z => by
          obtain ⟨q, h1, h2⟩ := List.any_eq_true.mp z
          have h3 : ¬(M.mu q.1 = M.mu q.2) := by simpa using h2
          have : q ∈ ends.filter bf := List.mem_filter.mpr ⟨h1, by
            have : ¬((M.mu q.1 : Int) = M.mu q.2) := fun z => h3 (Int.ofNat_inj.mp z)
            simp [bf, this]⟩
          rw [hnil] at this; cases this
        rw [if_neg hany] at g4
        refine tr_par2new (n := 0) (P1 := kD (.list ((seen ++ edge).map ePr))) (k := bL []) (ev_listD (f := ePr) (ev_imp (ev_cat (ev_Dlist (f := ePr) (ev_var rfl)) (ev_Dlist (f := ePr) (ev_var rfl)) (by simp; omega)) fun G v h => by rw [List.map_append]; exact h)) new_lst (fun G => ⟨[], rfl, trivial⟩) (of_decide_eq_true rfl) (of_decide_eq_true rfl) fun p => ?_
        generalize eseen : seen ++ edge = sn at g4
        have hsn : sn.length ≤ 100 := by rw [← eseen]; simp; omega
        let acc : Nat → List Pr := fun j => (edge.take j).foldl (farOne M.ds sn) []
        have accl : ∀ j, j ≤ edge.length → (acc j).length ≤ j * 8 := fun j => by
          induction j with
          | zero => intro _; simp [acc]
          | succ j ih =>
            intro hj
            have h1 := ih (by omega)
            have ex : edge[j]? = some edge[j] := by simp [show j < edge.length by omega]
            show ((edge.take (j + 1)).foldl (farOne M.ds sn) []).length ≤ _
            rw [foldl_take ex]
            have h2 := farOne_len (seen := sn) (p := edge[j]) (ds := M.ds) (acc := acc j)
            show (farOne M.ds sn (acc j) edge[j]).length ≤ _
            omega
        let GP : Option Kn → Option Kn → Option Kn → Env := fun a1 a2 a5 => [some (kMt M), some (kD (.str a)), some (kD (.str b)), some (kLN M.marks), some (kDt M), some (kD (.list (edge.map ePr))), some (kD (.list (sn.map ePr))), some (kD (eI size)), a1, a2, some (kL (ends.map fun q => kD (ePr q))), some (kP p), a5, none, none]
        refine tr_seq (fun n' Γ' O' => n' = 0 ∧ O' = oOb p (bL ((acc edge.length).map fun q => kD (ePr q))) ∧ ∃ a1 a2 a5, Γ' = GP a1 a2 a5) ?_ ?_
        · refine tr_for (ks := edge.map fun p => kT [kD (eI p.1), kD (eI p.2)]) (src_list (ev_imp (ev_Dlist (f := ePr) (ev_var rfl)) fun G v h => prs_kT h)) (fun j n' Γ' O' => n' = 0 ∧ O' = oOb p (bL ((acc j).map fun q => kD (ePr q))) ∧ ∃ a1 a2 a5, Γ' = GP a1 a2 a5) ⟨rfl, rfl, _, _, _, rfl⟩ ?_ ?_
          · rintro j k n' Γ' O' hk ⟨rfl, rfl, b1, b2, b5, rfl⟩
            rw [List.getElem?_map] at hk
            cases q : edge[j]? with
            | none => rw [q] at hk; cases hk
            | some pr =>
              rw [q] at hk; cases hk
              have hj : j < edge.length := (List.getElem?_eq_some_iff.mp q).1
              have hpr := hin pr (List.mem_of_getElem? q)
              have hacc := accl j (by omega)
              generalize eacc : acc j = ac at hacc
              have hnext : acc (j + 1) = M.ds.foldl (farIn sn pr) ac := by
                show (edge.take (j + 1)).foldl (farOne M.ds sn) [] = _
                rw [foldl_take q]
                show farOne M.ds sn (acc j) pr = _
                rw [eacc]; rfl
              let GI : Addr → Option Kn → Env := fun d a5 => [some (kMt M), some (kD (.str a)), some (kD (.str b)), some (kLN M.marks), some (kAt d (kDt M)), some (kD (.list (edge.map ePr))), some (kD (.list (sn.map ePr))), some (kD (eI size)), some (kD (eI pr.1)), some (kD (eI pr.2)), some (kL (ends.map fun q => kD (ePr q))), some (kP p), a5, none, none]
              refine ⟨_, _, tgt_two (of_decide_eq_true rfl) (of_decide_eq_true rfl), ?_⟩
              refine tr_mono (tr_lockQ (R := fun Γo k' => (∃ a1 a2 a5, Γo = GP a1 a2 a5) ∧ k' = bL ((acc (j + 1)).map fun q => kD (ePr q))) (Ri := fun d Γ' k' => (∃ a5, Γ' = GI d a5) ∧ k' = bL ((acc (j + 1)).map fun q => kD (ePr q))) ?_ ?_) (fun n' Γ' O' ⟨e1, k', ⟨⟨x1, x2, x5, e2⟩, e3⟩, e4⟩ => ⟨e1, by rw [e4, e3], x1, x2, x5, e2⟩) (fun _ _ h => h.elim) (fun _ _ _ h => h.elim) (fun _ _ _ h => h.elim)
              · rintro d Γ' k' ⟨⟨x5, rfl⟩, rfl⟩
                refine ⟨_, ⟨⟨some (kD (eI pr.1)), some (kD (eI pr.2)), x5, rfl⟩, rfl⟩, fun G σ env => ?_⟩
                obtain ⟨v, hv, _, hv2⟩ := env.get 4 (kAt d (kDt M)) rfl
                exact env.put (i := 4) hv hv2
              · intro G H σ c
                obtain ⟨d, o', ps, h1, h2, h3, h4⟩ := open_dt (i := 4) (M := M) rfl c
                refine ⟨d, o', ps, _, h1, h2, h4, fun od => ?_⟩
                refine tr_for (src_vals (ks := M.ds.map fun d => kD (eRow d.2)) (fun n H j => j.2) (ev_var (i := 4) (P := kAt d (kDt M)) rfl) dt_vals) (fun i n' Γ' O' => n' = 0 ∧ O' = oOb p (bL (((M.ds.take i).foldl (farIn sn pr) ac).map fun q => kD (ePr q))) ∧ ((M.ds.take i).foldl (farIn sn pr) ac).length ≤ j * 8 + i ∧ ∃ a5, Γ' = GI d a5) ⟨rfl, rfl, by simpa using hacc, _, rfl⟩ ?_ ?_
                · rintro i k n' Γ' O' hk ⟨rfl, rfl, hle, x5, rfl⟩
                  rw [List.getElem?_map] at hk
                  cases qi : M.ds[i]? with
                  | none => rw [qi] at hk; cases hk
                  | some dd =>
                    rw [qi] at hk; cases hk
                    have hi : i < M.ds.length := (List.getElem?_eq_some_iff.mp qi).1
                    have hrw := o.rw dd (List.mem_of_getElem? qi)
                    have hstep := foldl_take (f := farIn sn pr) (b := ac) qi
                    generalize ((M.ds.take i).foldl (farIn sn pr) ac) = cur at hle hstep
                    have pairE : ∀ {Γ : Env}, Γ[12]? = some (some (kD (eRow dd.2))) → Γ[8]? = some (some (kD (eI pr.1))) → Γ[9]? = some (some (kD (eI pr.2))) → Ev (mL M0 d od ps) 0 0 (tTup (tCons (tOp (rIxT K) (tVar 12) (tVar 8)) (tCons (tOp (rIxT K) (tVar 12) (tVar 9)) tNil))) Γ (kD (ePr (farQ dd pr))) := fun h12 h8 h9 => ev_ofT (ds := [eI (dd.2.getD pr.1 0), eI (dd.2.getD pr.2 0)]) (ev_tup (ea_cons (ev_ixT (ev_Dtup (f := eI) (ev_var h12)) (ev_var h8) (getK (d := 0) (by rw [hrw.1]; exact hpr.1))) (ea_cons (ev_ixT (ev_Dtup (f := eI) (ev_var h12)) (ev_var h9) (getK (d := 0) (by rw [hrw.1]; exact hpr.2))) ea_nil)) (by simp))
                    refine ⟨_, _, tgt_name (of_decide_eq_true rfl), tr_peek (i := 11) (P1 := kL (cur.map fun q => kD (ePr q))) rfl kL_of (et_ninD (q := farQ dd pr) (l := sn ++ cur) (pairE rfl rfl rfl) (ev_listD (f := ePr) (ev_imp (ev_cat (ev_Dlist (f := ePr) (ev_var rfl)) (ev_var rfl) (by simp; omega)) fun G v h => by rw [List.map_append]; exact h))) (fun e => ?_) fun e => ?_⟩
                    · have hni : ¬(farQ dd pr ∈ sn ++ cur) := by simpa using e
                      have e1 : farIn sn pr cur dd = cur ++ [farQ dd pr] := by unfold farIn; rw [if_neg hni]
                      rw [e1] at hstep
                      exact tr_appL (pairE rfl rfl rfl) rfl (by rw [List.length_map]; omega) ⟨rfl, by rw [hstep, List.map_append]; rfl, by rw [hstep]; simp; omega, _, rfl⟩
                    · have hni : farQ dd pr ∈ sn ++ cur := by
                        have e' := e.symm
                        rw [Bool.not_eq_false'] at e'
                        exact of_decide_eq_true e'
                      have e1 : farIn sn pr cur dd = cur := by unfold farIn; rw [if_pos hni]
                      rw [e1] at hstep
                      exact tr_next ⟨rfl, by rw [hstep], by rw [hstep]; omega, _, rfl⟩
                · rintro n' Γ' O' ⟨rfl, rfl, hle, x5, rfl⟩
                  rw [List.length_map, List.take_of_length_le (Nat.le_refl _)]
                  exact ⟨rfl, _, ⟨⟨x5, rfl⟩, rfl⟩, by rw [hnext]⟩
          · rintro n' Γ' O' h
            rw [List.length_map] at h
            exact h
        · rintro n' Γ' O' ⟨rfl, rfl, b1, b2, b5, rfl⟩
          refine tr_close (i := 11) (P1 := kD (.list ((acc edge.length).map ePr))) rfl (fun G o e h => kD_list.mpr (by rw [List.map_map]; exact kL_of G o e h)) ?_
          refine tr_parL (P1 := kD (.list ((acc edge.length).map ePr))) (P2 := kD (eI (size + 1))) (ea_cons (ev_var (i := 11) rfl) (ea_cons (ev_succ (ev_var rfl)) ea_nil)) (of_decide_eq_true rfl) (of_decide_eq_true rfl) ⟨l, Nat.lt_succ_self _, rfl, rfl, acc edge.length, sn, size + 1, _, _, _, _, _, rfl, ?_, ?_⟩
          · show ∀ q ∈ (edge.take edge.length).foldl (farOne M.ds sn) [], _
            rw [List.take_of_length_le (Nat.le_refl _)]
            exact far_all (fun p hp d hd => ⟨getD_lt (o.rw d hd).2 hn1 _, getD_lt (o.rw d hd).2 hn1 _⟩) fun _ h => nomatch h
          · show farGo M b r l ((edge.take edge.length).foldl (farOne M.ds sn) []) sn (size + 1)
            rw [List.take_of_length_le (Nat.le_refl _)]
            exact g4
    · rw [eqv_prl] at e
      simp [g1] at e
end
end Ll
end

section
set_option Elab.async false
set_option linter.all false
set_option maxRecDepth 100000
set_option maxHeartbeats 1000000
/-! Ll: the machines that the law has by hand, and what is so of them. -/
namespace Ll
open PySem PySem.Spec PyProof.Rows L2
def rowA (z : Nat) : List Nat := [z] ++ (List.range z).drop 1 ++ (List.range z).map (z + ·)
def rowB (z : Nat) : List Nat := List.replicate (z - 1) 0 ++ [z - 1] ++ List.replicate (z - 1) 0 ++ [z + (z - 1)]
def rowLow (z : Nat) : List Nat := (List.range z).map fun k => if z - 1 < k + 1 then z - 1 else k + 1
def rowC (z : Nat) : List Nat := rowLow z ++ (rowLow z).map (z + ·)
def M_h (z : Nat) : Mc := ⟨2 * z, [("a", rowA z), ("b", rowB z), ("c", rowC z)], (List.range (2 * z)).map fun i => ((i : Nat) : Int)⟩
def M_six : Mc := ⟨6, [("turn", [1, 0, 2, 3, 4, 5]), ("pass", [1, 2, 3, 4, 5, 0]), ("wipe", [0, 0, 0, 0, 0, 5])], (List.range 6).map fun i => ((i : Nat) : Int)⟩
theorem h2_ok : (M_h 2).Ok := ⟨by decide, by decide, by decide, by decide, by decide +kernel, by decide +kernel, by decide +kernel, by decide⟩
theorem h3_ok : (M_h 3).Ok := ⟨by decide, by decide, by decide, by decide, by decide +kernel, by decide +kernel, by decide +kernel, by decide⟩
theorem six_ok : M_six.Ok := ⟨by decide, by decide, by decide, by decide, by decide +kernel, by decide +kernel, by decide +kernel, by decide⟩
def witB (M : Mc) (μ : List Nat) (a b : Str) (w : List Str) : Bool := (List.range M.n).any fun s => !decide (μ.getD (M.mv b (M.run w (M.mv a s))) 0 = μ.getD (M.mv b (M.run w s)) 0)
theorem wit_B {M : Mc} (o : M.Ok) {μ : List Nat} (e : M.marks = μ) {a b : Str} {w : List Str} : o.pm.Wit a b w ↔ witB M μ a b w = true := by
  subst e
  unfold witB
  rw [List.any_eq_true]
  constructor
  · rintro ⟨s, hs, h⟩
    refine ⟨s, List.mem_range.mpr hs, ?_⟩
    have : ¬(M.marks.getD (M.mv b (M.run w (M.mv a s))) 0 = M.marks.getD (M.mv b (M.run w s)) 0) := h
    rw [decide_eq_false this]; rfl
  · rintro ⟨s, hs, h⟩
    refine ⟨s, List.mem_range.mp hs, ?_⟩
    have : ¬(M.marks.getD (M.mv b (M.run w (M.mv a s))) 0 = M.marks.getD (M.mv b (M.run w s)) 0) := by simpa using h
    exact this
/-- the words of a length -/
def wordsN (nms : List Str) : Nat → List (List Str)
  | 0 => [[]]
  | k + 1 => (wordsN nms k).flatMap fun w => nms.map fun x => x :: w
theorem mem_wordsN {nms : List Str} : ∀ {w : List Str}, (∀ x ∈ w, x ∈ nms) → w ∈ wordsN nms w.length
  | [], _ => by simp [wordsN]
  | x :: w, h => by
    show x :: w ∈ (wordsN nms w.length).flatMap _
    exact List.mem_flatMap.mpr ⟨w, mem_wordsN fun y hy => h y (List.mem_cons_of_mem _ hy), List.mem_map.mpr ⟨x, h x List.mem_cons_self, rfl⟩⟩
/-- no other word as short parts them -/
def only (M : Mc) (μ : List Nat) (a b : Str) (w0 : List Str) : Bool := witB M μ a b w0 && w0.all (fun x => decide (x ∈ M.nms)) && (List.range (w0.length + 1)).all fun k => (wordsN M.nms k).all fun w => !witB M μ a b w || decide (w = w0)
theorem nc_only {M : Mc} (o : M.Ok) {μ : List Nat} (e : M.marks = μ) {a b : Str} {w0 : List Str} (h : only M μ a b w0 = true) {r : Option (List Str)} (hr : NC o.pm a b r) : r = some w0 := by
  unfold only at h
  rw [Bool.and_eq_true, Bool.and_eq_true, List.all_eq_true, List.all_eq_true] at h
  obtain ⟨⟨h1, h2⟩, h3⟩ := h
  have hw := (wit_B o e).mpr h1
  have hv : o.pm.Ov w0 := fun x hx => of_decide_eq_true (h2 x hx)
  cases r with
  | none => exact absurd hw (hr w0 hv)
  | some v =>
    obtain ⟨g1, g2, g3, _⟩ := hr
    have hl := g3 w0 hv hw
    have := h3 v.length (List.mem_range.mpr (by omega))
    rw [List.all_eq_true] at this
    have := this v (mem_wordsN g1)
    rw [(wit_B o e).mp g2] at this
    simp at this
    rw [this]
theorem not_cov {M : Mc} (o : M.Ok) {μ : List Nat} (e : M.marks = μ) {a b : Str} {w0 : List Str} (h : (witB M μ a b w0 && w0.all fun x => decide (x ∈ M.nms)) = true) : ¬o.pm.Cov a b := by
  rw [Bool.and_eq_true, List.all_eq_true] at h
  exact fun z => z w0 (fun x hx => of_decide_eq_true (h.2 x hx)) ((wit_B o e).mpr h.1)
theorem three_B {M : Mc} (o : M.Ok) {μ : List Nat} (e : M.marks = μ) {a b : Str} (h : (!witB M μ a b [] && M.nms.all fun x => !witB M μ a b [x]) = true) : o.pm.Three a b := by
  rw [Bool.and_eq_true, List.all_eq_true] at h
  refine ⟨fun z => ?_, fun x hx z => ?_⟩
  · rw [(wit_B o e).mp z] at h; simp at h
  · have := h.2 x hx
    rw [(wit_B o e).mp z] at this; simp at this
theorem mk_h2 : (M_h 2).marks = List.range 4 := by decide +kernel
theorem mk_h3 : (M_h 3).marks = List.range 6 := by decide +kernel
theorem mk_six : M_six.marks = List.range 6 := by decide +kernel
theorem only_h2 : only (M_h 2) (List.range 4) "a" "b" ["c"] = true := by decide +kernel
theorem only_h3 : only (M_h 3) (List.range 6) "a" "b" ["c", "c"] = true := by decide +kernel
theorem only_six : only M_six (List.range 6) "turn" "wipe" ["pass", "pass", "pass", "pass"] = true := by decide +kernel
theorem aa_h2 : (witB (M_h 2) (List.range 4) "a" "a" ["c"] && (["c"] : List Str).all fun x => decide (x ∈ (M_h 2).nms)) = true := by decide +kernel
theorem aa_h3 : (witB (M_h 3) (List.range 6) "a" "a" ["c"] && (["c"] : List Str).all fun x => decide (x ∈ (M_h 3).nms)) = true := by decide +kernel
theorem ab_h2 : (witB (M_h 2) (List.range 4) "a" "b" ["c"] && (["c"] : List Str).all fun x => decide (x ∈ (M_h 2).nms)) = true := by decide +kernel
theorem ab_h3 : (witB (M_h 3) (List.range 6) "a" "b" ["c", "c"] && (["c", "c"] : List Str).all fun x => decide (x ∈ (M_h 3).nms)) = true := by decide +kernel
theorem three_h3 : (!witB (M_h 3) (List.range 6) "a" "b" [] && (M_h 3).nms.all fun x => !witB (M_h 3) (List.range 6) "a" "b" [x]) = true := by decide +kernel
def farB (M : Mc) (b : Str) (r : Nat) : Nat → List Pr → List Pr → Nat → Bool
  | 0, _, _, _ => false
  | f + 1, edge, seen, size => !edge.isEmpty && decide (edge.length ≤ 50) && decide (seen.length ≤ 50) && if (edge.map fun p => M.sc b p).any (fun q => !decide (M.mu q.1 = M.mu q.2)) = true then decide (size = r) else farB M b r f (edge.foldl (farOne M.ds (seen ++ edge)) []) (seen ++ edge) (size + 1)
theorem far_B {M : Mc} {b : Str} {r : Nat} : ∀ {f : Nat} {edge seen : List Pr} {size : Nat}, farB M b r f edge seen size = true → farGo M b r f edge seen size
  | 0, _, _, _, h => by cases h
  | f + 1, edge, seen, size, h => by
    unfold farB at h
    rw [Bool.and_eq_true, Bool.and_eq_true, Bool.and_eq_true] at h
    obtain ⟨⟨⟨h1, h2⟩, h3⟩, h4⟩ := h
    refine ⟨(fun z => by rw [z] at h1; cases h1), of_decide_eq_true h2, of_decide_eq_true h3, ?_⟩
    split
    · rename_i q
      rw [if_pos q] at h4
      exact of_decide_eq_true h4
    · rename_i q
      rw [if_neg q] at h4
      exact far_B h4
theorem far_h2 : farB (M_h 2) "b" 1 30 ((List.range (M_h 2).n).map fun s => ((M_h 2).mv "a" s, s)) [] 0 = true := by decide +kernel
theorem far_h3 : farB (M_h 3) "b" 2 30 ((List.range (M_h 3).n).map fun s => ((M_h 3).mv "a" s, s)) [] 0 = true := by decide +kernel
theorem put_h2 : dput (dput (dput [] "a" (rowA 2)) "b" (rowB 2)) "c" (rowC 2) = (M_h 2).ds := by decide +kernel
theorem put_h3 : dput (dput (dput [] "a" (rowA 3)) "b" (rowB 3)) "c" (rowC 3) = (M_h 3).ds := by decide +kernel
/-- all of it, for the size z -/
structure Hf (z : Nat) : Prop where
  z1 : 2 ≤ z
  z3 : z ≤ 3
  ok : (M_h z).Ok
  nc : ∀ r, NC ok.pm "a" "b" r → r = some (List.replicate (z - 1) ("c" : Str))
  aa : ¬ok.pm.Cov "a" "a"
  ab : ¬ok.pm.Cov "a" "b"
  far : farGo (M_h z) "b" (z - 1) 30 ((List.range (M_h z).n).map fun s => ((M_h z).mv "a" s, s)) [] 0
  put : dput (dput (dput [] "a" (rowA z)) "b" (rowB z)) "c" (rowC z) = (M_h z).ds
theorem hf2 : Hf 2 := ⟨by decide, by decide, h2_ok, fun r h => nc_only h2_ok mk_h2 only_h2 h, not_cov h2_ok mk_h2 aa_h2, not_cov h2_ok mk_h2 ab_h2, far_B far_h2, put_h2⟩
theorem hf3 : Hf 3 := ⟨by decide, by decide, h3_ok, fun r h => nc_only h3_ok mk_h3 only_h3 h, not_cov h3_ok mk_h3 aa_h3, not_cov h3_ok mk_h3 ab_h3, far_B far_h3, put_h3⟩
end Ll
end

section
set_option Elab.async false
set_option linter.all false
set_option maxRecDepth 100000
set_option maxHeartbeats 1000000
/-! Ll, walk: _law_by_hand. -/
namespace Ll
open PySem PySem.Spec PyProof.Rows L2
section
variable {md : Md} {m n k : Nat} {Γ : Env} {K : PySem.W.Frag} {ta tb te : TE} {t : TA} {P : Kn} {ks : List Kn}
/-- a call, the first argument one of several -/
theorem ev_callX {R : List Kn → Kn → Prop} {E : XK} {ι : Type} {S : ι → Prop} {f : ι → Kn} (h : EvA md m n t Γ (kX S f :: ks)) (hp : ∀ x, S x → R (f x :: ks) P) : Ev md m n (tCall (spQ R) [] E t) Γ P := fun G H σ c Q q =>
  h G H σ c _ fun vs H1 G1 g1 j1 a => by
    match vs, a with
    | v :: vs, ⟨⟨x, sx, px⟩, a2⟩ =>
      exact ⟨G1, P, g1.gh, ⟨_, hp x sx, by rw [List.append_nil]; exact ⟨px, a2⟩⟩, fun w H2 G2 g2 p2 => q w H2 G2 (g1.trans (fun a z => md.dom _ _ a j1 (md.muk a z)) g2.of0) (md.st _ _ _ j1 fun a o _ h => g2.same a o h) p2⟩
theorem flat_rep {α : Type} {x : α} : ∀ z : Nat, (List.replicate z [x]).flatten = List.replicate z x
  | 0 => rfl
  | z + 1 => by rw [List.replicate_succ, List.flatten_cons, flat_rep z, List.replicate_succ]; rfl
theorem ev_repL {z : Nat} (ha : Ev md m n ta Γ (kL [P])) (hb : Ev md n k tb Γ (kD (eI z))) (hz : z ≤ 1000) : Ev md m k (tOp rRep ta tb) Γ (kL (List.replicate z P)) :=
  ev_op ha hb fun G H v w s jj ⟨a, xs, e, hs, ax⟩ pw => by
    match xs, ax with
    | [u], ⟨pu, _⟩ =>
      have rep : ∀ G', P.p G' u → ∀ z : Nat, AllK G' (List.replicate z P) (List.replicate z u) := fun G' hp z => by
        induction z with
        | zero => trivial
        | succ z ih => exact ⟨hp, ih⟩
      refine fun Q q => ⟨a, (z : Nat), [u], e, kD_int.mp pw, s _ _ hs, by omega, by omega, Nat.le_trans (by simp; omega : _ ≤ 1000) (by decide), fun p hp => ?_⟩
      refine q _ _ _ (Gr.new s hp) (md.st _ _ _ jj fun b u _ e => same_new hp b u e) ⟨p, _, rfl, upd_same, ?_⟩
      rw [Int.toNat_natCast, flat_rep]
      exact rep _ (P.mono _ _ _ (le_same (same_new (s.free hp))) pu) z
theorem tr_lstNew {i : Nat} {rest : TS} {E : Es md} (h : EvA md m n t Γ ks) (hl : ks.length ≤ 1000) (hi : i < Γ.length) (r : ∀ p, Tr md n (Γ.set i (some (kP p))) (oOb p (bL ks)) rest E) : Tr md m Γ o0 (tSeq (tAsg (tLst t) (gName i)) rest) E := fun G0 H0 Gb G H σ s D d =>
  h G H σ s.c _ fun vs H1 G1 g j a => ⟨Nat.le_trans (by rw [← AllK.len a]; exact hl) (by decide), fun p hp => r p G0 H0 Gb G1 _ _ (((s.next g j).open' (k := bL ks) hp ⟨vs, rfl, a⟩).set hi rfl) D d⟩
theorem ev_lstRgN {z : Nat} (h : Ev md m n te Γ (kD (.int (z : Nat)))) (hz : z ≤ 1000000) : Ev md m n (tLstRg (tRg1 te)) Γ (kLN (List.range z)) := ev_lstRg h hz
theorem ev_catN {a b : List Nat} (ha : Ev md m n ta Γ (kLN a)) (hb : Ev md n k tb Γ (kLN b)) (hl : a.length + b.length ≤ 1000) : Ev md m k (tOp rCat ta tb) Γ (kLN (a ++ b)) :=
  ev_imp (ev_cat ha hb (by simp; omega)) fun G v h => by unfold kLN; rw [List.map_append]; exact h
theorem ev_oneN {i : Nat} (ha : Ev md m n ta Γ (kD (eI i))) : Ev md m n (tLst (tCons ta tNil)) Γ (kLN [i]) := ev_lst (ea_cons ha ea_nil) (by simp)
theorem ev_repN {z i : Nat} (ha : Ev md m n ta Γ (kLN [i])) (hb : Ev md n k tb Γ (kD (eI z))) (hz : z ≤ 1000) : Ev md m k (tOp rRep ta tb) Γ (kLN (List.replicate z i)) :=
  ev_imp (ev_repL (P := kD (eI i)) ha hb hz) fun G v h => by unfold kLN; rw [List.map_replicate]; exact h
theorem ev_addN {i j : Nat} (ha : Ev md m n ta Γ (kD (eI i))) (hb : Ev md n k tb Γ (kD (eI j))) : Ev md m k (tOp rAddI ta tb) Γ (kD (eI (i + j))) := ev_imp (ev_add ha hb) fun G v h => h
theorem ev_mapN {l : List Nat} {f : Nat → Nat} {g : TG} {vs js : List Nat} {tl : TE} (hl : Ev md m n tl Γ (kLN l)) (hz : l.length ≤ 1000) (Γx : Nat → Env) (tgt : ∀ x, Tgt g (kD (eI x)) (wipeE Γ vs) (Γx x) js) (turn : ∀ x ∈ l, Ev md n n te (Γx x) (kD (eI (f x)))) (hjs : ∀ j ∈ js, j ∈ vs := by decide) : Ev md m n (tLc (iList K tl) g tYes te vs) Γ (kLN (l.map f)) :=
  ev_imp (ev_lcX (xs := l) (kf := fun x => kD (eI x)) (pf := fun x => kD (eI (f x))) (src_list hl) (by omega) Γx tgt turn hjs) fun G v h => by unfold kLN; rw [List.map_map]; exact h
end
theorem dput_len {ds : Deeds} {x : Str} {r : List Nat} : (dput ds x r).length ≤ ds.length + 1 := by
  unfold dput
  split <;> simp
def D1 (d : PyData) : Prop := Atm d ∨ ∃ ds, (d = .list ds ∨ d = .tuple ds) ∧ ds.length ≤ 100 ∧ ∀ e ∈ ds, False
def D2 (d : PyData) : Prop := Atm d ∨ ∃ ds, (d = .list ds ∨ d = .tuple ds) ∧ ds.length ≤ 100 ∧ ∀ e ∈ ds, D1 e
def D3 (d : PyData) : Prop := Atm d ∨ ∃ ds, (d = .list ds ∨ d = .tuple ds) ∧ ds.length ≤ 100 ∧ ∀ e ∈ ds, D2 e
theorem d2_w {x : Str} (h : Lt x) {z : Nat} (hz : z ≤ 100) : D2 (eW (List.replicate z x)) := .inr ⟨_, .inr rfl, by simpa using hz, fun e he => by
  obtain ⟨y, hy, rfl⟩ := List.mem_map.mp he
  rw [(List.mem_replicate.mp hy).2]
  exact .inl (.inr (.inr ⟨x, rfl, h⟩))⟩
theorem d1_2 {d : PyData} (h : D1 d) : D2 d := h.elim .inl fun ⟨ds, h1, h2, h3⟩ => .inr ⟨ds, h1, h2, fun e he => (h3 e he).elim⟩
theorem d2_3 {d : PyData} (h : D2 d) : D3 d := h.elim .inl fun ⟨ds, h1, h2, h3⟩ => .inr ⟨ds, h1, h2, fun e he => d1_2 (h3 e he)⟩
theorem d2_b {b : Bool} : D2 (.bool b) := .inl (.inr (.inl ⟨b, rfl⟩))
section
variable {P : Program} {w : World} {K : PySem.W.Frag} {mg : Str → Option Value} {base : Heap} {C : Addr}
theorem cal_hand (B : Bi mg) (hC : Cls K C) (k2 : Mak P w K mg base 3 C "Machine" ["self", "many", "deeds", "shows"] [.non] (spI C R_mac)) (c1 : Cal P w K mg base 6 "not_covered" ["machine", "name", "by"] (spQ (R_nc C))) (c2 : Cal P w K mg base 7 "is_covered" ["machine", "name", "by"] (spQ (R_ic C))) (c3 : Cal P w K mg base 7 "by_three" ["machine", "name", "by"] (spQ (R_b3 C)))
    (c4 : Cal P w K mg base 5 "_law_host" ["_law_mat"] (spQ (R_host C))) (c5 : Cal P w K mg base 2 "_law_far" ["_law_mat", "_law_one_so", "_law_by_so"] (spQ R_lfar)) (c6 : Cal P w K mg base 4 "_law_same" ["_law_got", "_law_due_so"] (spQ (R_s D3))) (F : Fd K mg "_law_by_hand" 59) : Cal P w K mg base 8 "_law_by_hand" [] sp_l_by_hand := by
  refine cal_Q F sc__law_by_hand (by decide) (fun _ _ _ _ _ _ us hl => match us, hl with | [], _ => rfl) (fun ks Pk ⟨e, _⟩ => by rw [e]; rfl) (fun f cdv A outer s H E hr => der__law_by_hand B hC k2 c1 c2 c3 c4 c5 c6 hr) ?_
  rintro ks Pk ⟨rfl, rfl⟩
  left
  have host : ∀ {Γ : Env} {i : Nat} {M : Mc}, M.Ok → Γ[i]? = some (some (kMt M)) → Ev M0 0 0 (tCall (spQ (R_host C)) [] E0 (tCons (tVar i) tNil)) Γ (kX (Mc.Nm M) fun nm => kMac C M nm) := fun o h => ev_callQ (ea_cons (ev_var h) ea_nil) ⟨_, o, rfl, rfl⟩
  refine tr_seq (fun n' Γ' O' => n' = 0 ∧ O' = o0 ∧ ∃ a0 a1 a2 a3 a4 a6 a7 a8, Γ' = [a0, a1, a2, a3, a4, some (kMt (M_h 3)), a6, a7, a8]) ?_ ?_
  · refine tr_for (ks := [kD (.int 2), kD (.int 3)]) (n0 := 0) (src_tup (ev_tup (ea_cons ev_int (ea_cons ev_int ea_nil)) (by simp))) (fun i n' Γ' O' => n' = 0 ∧ O' = o0 ∧ ∃ a0 a1 a2 a3 a4 a5 a6 a7 a8, Γ' = [a0, a1, a2, a3, a4, a5, a6, a7, a8] ∧ (i = 2 → a5 = some (kMt (M_h 3)))) ⟨rfl, rfl, _, _, _, _, _, _, _, _, _, rfl, (fun z => by cases z)⟩ ?_ ?_
    · rintro i k n' Γ' O' hk ⟨rfl, rfl, a0, a1, a2, a3, a4, a5, a6, a7, a8, rfl, _⟩
      obtain ⟨z, hf, ek, ei⟩ : ∃ z, Hf z ∧ k = kD (eI z) ∧ z = i + 2 := by
        match i, hk with
        | 0, hk => cases hk; exact ⟨2, hf2, rfl, rfl⟩
        | 1, hk => cases hk; exact ⟨3, hf3, rfl, rfl⟩
        | i + 2, hk => cases hk
      subst ek
      have z1 := hf.z1
      have z3 := hf.z3
      refine ⟨_, _, tgt_name (of_decide_eq_true rfl), tr_par2new (P1 := kLN (List.range z)) (k := bDs []) (ev_lstRgN (ev_var rfl) (by omega)) new_dK (fun G => ⟨[], rfl, rfl, trivial⟩) (of_decide_eq_true rfl) (of_decide_eq_true rfl) fun p => ?_⟩
      refine tr_set (P1 := kD (eI (z - 1))) (ev_imp (ev_sub (ev_var rfl) ev_int) fun G v h => ?_) (of_decide_eq_true rfl) ?_
      · have : ((z : Nat) : Int) - 1 = ((z - 1 : Nat) : Int) := by omega
        rw [this] at h; exact h
      let GB : Option Kn → Option Kn → Option Kn → Env := fun a4 a5 a6 => [some (kD (eI z)), some (kLN (List.range z)), some (kP p), some (kD (eI (z - 1))), a4, a5, a6, a7, a8]
      -- a
      refine tr_dput (S := fun r => r = rowA z) (ev_imp (ev_tup0 (l := rowA z) (ea_cons (ev_catN (ev_catN (ev_oneN (ev_var rfl)) (ev_imp (ev_slDrop (z := 1) (ks := (List.range z).map fun i => kD (eI i)) (ev_var rfl) ev_int) fun G v h => by unfold kLN; rw [List.map_drop]; exact h) (by simp; omega)) (ev_mapN (f := fun k => z + k) (ev_var rfl) (by simp; omega) (fun k => [some (kD (eI z)), some (kLN (List.range z)), some (kP p), some (kD (eI (z - 1))), a4, a5, a6, a7, some (kD (eI k))]) (fun k => tgt_name (of_decide_eq_true rfl)) fun k hk => ev_addN (ev_var rfl) (ev_var rfl)) (by simp; omega)) ea_nil)) fun G v h => ⟨_, rfl, h⟩) rfl ev_str (by decide) fun r hr => ?_
      subst hr
      -- b
      refine tr_dput (S := fun r => r = rowB z) (ev_imp (ev_tup0 (l := rowB z) (ea_cons (ev_catN (ev_catN (ev_catN (ev_repN (ev_oneN ev_int) (ev_var rfl) (by omega)) (ev_oneN (ev_var rfl)) (by simp; omega)) (ev_repN (ev_oneN ev_int) (ev_var rfl) (by omega)) (by simp; omega)) (ev_oneN (ev_addN (ev_var rfl) (ev_var rfl))) (by simp; omega)) ea_nil)) fun G v h => ⟨_, rfl, h⟩) rfl ev_str (by have := dput_len (ds := []) (x := "a") (r := rowA z); simp at this; omega) fun r hr => ?_
      subst hr
      -- low
      refine tr_set (P1 := kLN (rowLow z)) (ev_mapN (f := fun k => if z - 1 < k + 1 then z - 1 else k + 1) (ev_var rfl) (by simp; omega) (fun k => [some (kD (eI z)), some (kLN (List.range z)), some (kP p), some (kD (eI (z - 1))), a4, a5, a6, a7, some (kD (eI k))]) (fun k => tgt_name (of_decide_eq_true rfl)) fun k hk => ev_imp (ev_min2 (ea_cons (ev_succ (ev_var rfl)) (ea_cons (ev_var rfl) ea_nil))) fun G v h => ?_) (of_decide_eq_true rfl) ?_
      · rw [kD_int.mp h]
        refine kD_int.mpr ?_
        congr 1
        split <;> split <;> omega
      -- c
      have lowl : (rowLow z).length = z := by unfold rowLow; simp
      refine tr_dput (S := fun r => r = rowC z) (ev_imp (ev_tup0 (l := rowC z) (ea_cons (ev_catN (ev_var rfl) (ev_mapN (f := fun k => z + k) (ev_var rfl) (by omega) (fun k => [some (kD (eI z)), some (kLN (List.range z)), some (kP p), some (kD (eI (z - 1))), some (kLN (rowLow z)), a5, a6, a7, some (kD (eI k))]) (fun k => tgt_name (of_decide_eq_true rfl)) fun k hk => ev_addN (ev_var rfl) (ev_var rfl)) (by rw [List.length_map]; omega)) ea_nil)) fun G v h => ⟨_, rfl, h⟩) rfl ev_str (by
        have h1 := dput_len (ds := []) (x := "a") (r := rowA z)
        have h2 := dput_len (ds := dput [] "a" (rowA z)) (x := "b") (r := rowB z)
        simp at h1
        omega) fun r hr => ?_
      subst hr
      rw [hf.put]
      refine tr_close (i := 2) (P1 := kDt (M_h z)) rfl (fun G o e h => kDt_of (M := M_h z) G o e h) ?_
      have two : ∀ {Γ : Env}, Γ[0]? = some (some (kD (eI z))) → Ev M0 0 0 (tOp rMulI (tC (.int 2)) (tVar 0)) Γ (kD (.int ((2 * z : Nat) : Int))) := fun h => ev_imp (ev_mulS ev_int (ev_var h) (by omega)) fun G v h => by
        have : (2 : Int) * ((z : Nat) : Int) = ((2 * z : Nat) : Int) := by omega
        rw [this] at h; exact h
      refine tr_set (P1 := kMt (M_h z)) (ev_tup (ea_cons (two rfl) (ea_cons (ev_var rfl) (ea_cons (ev_tupRgF (two rfl) (by omega)) ea_nil))) (by simp)) (of_decide_eq_true rfl) ?_
      have na : ("a" : Str) ∈ (M_h z).nms := by unfold Mc.nms M_h; simp
      have nb : ("b" : Str) ∈ (M_h z).nms := by unfold Mc.nms M_h; simp
      -- got
      refine tr_lstNew (ks := [kD (eW (List.replicate (z - 1) ("c" : Str))), kD (.bool false)]) (ea_cons (ev_imp (ev_callX (P := kX (NC hf.ok.pm "a" "b") fun r => kD (encO r)) (ea_cons (host hf.ok rfl) (ea_cons ev_str (ea_cons ev_str ea_nil))) fun nm on => ⟨M_h z, nm, "a", "b", on, rfl, na, nb, rfl⟩) fun G v ⟨r, hr, p⟩ => by rw [hf.nc r hr] at p; exact p) (ea_cons (ev_imp (ev_callX (P := kD (.bool (dec (hf.ok.pm.Cov "a" "a")))) (ea_cons (host hf.ok rfl) (ea_cons ev_str (ea_cons ev_str ea_nil))) fun nm on => ⟨M_h z, nm, "a", "a", on, rfl, na, na, rfl⟩) fun G v p => by rw [dec_f hf.aa] at p; exact p) ea_nil)) (by simp) (of_decide_eq_true rfl) fun u => ?_
      refine tr_app (P1 := kD (.bool false)) (ev_imp (ev_callX (P := kD (.bool (dec (hf.ok.pm.Cov "a" "b")))) (ea_cons (host hf.ok rfl) (ea_cons ev_str (ea_cons ev_str ea_nil))) fun nm on => ⟨M_h z, nm, "a", "b", on, rfl, na, nb, rfl⟩) fun G v p => by rw [dec_f hf.ab] at p; exact p) rfl (by simp) ?_
      let due : List PyData := [eW (List.replicate (z - 1) ("c" : Str)), .bool false, .bool false]
      refine tr_close (i := 6) (P1 := kD (.list due)) rfl (fun G o e h => kD_list.mpr (kL_of G o e h)) ?_
      have dd : D3 (.list due) := .inr ⟨due, .inl rfl, by show 3 ≤ 100; decide, fun e he => by
        simp only [due, List.mem_cons, List.mem_nil_iff, or_false] at he
        rcases he with rfl | rfl | rfl
        · exact d2_w (by decide +kernel) (by omega)
        · exact d2_b
        · exact d2_b⟩
      refine tr_when (et_notD (et_tB (ev_callQ (ea_cons (ev_var rfl) (ea_cons (ev_ofL (ds := due) (ev_lst (ea_cons (ev_tupD (f := .str) (ev_imp (ev_repT (P := kD (.str "c")) (ev_tup (ea_cons ev_str ea_nil) (by simp)) (ev_var rfl) (by omega) (by omega)) fun G v h => by rw [List.map_replicate]; exact h)) (ea_cons ev_bl (ea_cons ev_bl ea_nil))) (by simp [due]))) ea_nil)) ⟨_, dd, rfl, rfl⟩))) (fun e => tr_abs (by cases e)) fun _ => tr_skip ?_
      refine tr_if (et_test (ev_neI (ev_callQ (ea_cons (ev_var rfl) (ea_cons ev_str (ea_cons ev_str ea_nil))) ⟨M_h z, "a", "b", z - 1, hf.ok, rfl, na, nb, hf.far, rfl⟩) (ev_var rfl))) (fun e => tr_abs (by simp at e)) fun _ => tr_next ⟨rfl, rfl, _, _, _, _, _, _, _, _, _, rfl, fun h => ?_⟩
      have : z = 3 := by omega
      rw [this]
    · rintro n' Γ' O' ⟨rfl, rfl, a0, a1, a2, a3, a4, a5, a6, a7, a8, rfl, h⟩
      have := h rfl
      subst this
      exact ⟨rfl, rfl, _, _, _, _, _, _, _, _, rfl⟩
  · rintro n' Γ' O' ⟨rfl, rfl, a0, a1, a2, a3, a4, a6, a7, a8, rfl⟩
    have row6 : ∀ {Γ : Env} {a b c d e f : Nat}, Ev M0 0 0 (tTup (tCons (tC (.int (a : Nat))) (tCons (tC (.int (b : Nat))) (tCons (tC (.int (c : Nat))) (tCons (tC (.int (d : Nat))) (tCons (tC (.int (e : Nat))) (tCons (tC (.int (f : Nat))) tNil))))))) Γ (kD (eRow [a, b, c, d, e, f])) := ev_rowI (ea_cons ev_int (ea_cons ev_int (ea_cons ev_int (ea_cons ev_int (ea_cons ev_int (ea_cons ev_int ea_nil)))))) (by simp)
    refine tr_set (P1 := kL (M_six.ds.map kDeed)) (ev_lst (ea_cons (ev_tup (ea_cons ev_str (ea_cons (row6 (a := 1) (b := 0) (c := 2) (d := 3) (e := 4) (f := 5)) ea_nil)) (by simp)) (ea_cons (ev_tup (ea_cons ev_str (ea_cons (row6 (a := 1) (b := 2) (c := 3) (d := 4) (e := 5) (f := 0)) ea_nil)) (by simp)) (ea_cons (ev_tup (ea_cons ev_str (ea_cons (row6 (a := 0) (b := 0) (c := 0) (d := 0) (e := 0) (f := 5)) ea_nil)) (by simp)) ea_nil))) (by simp [M_six])) (of_decide_eq_true rfl) ?_
    have nt : ("turn" : Str) ∈ M_six.nms := by unfold Mc.nms M_six; simp
    have nw : ("wipe" : Str) ∈ M_six.nms := by unfold Mc.nms M_six; simp
    have mk6 : ∀ {Γ : Env}, Γ[7]? = some (some (kL (M_six.ds.map kDeed))) → Ev M0 0 0 (tMake C (spI C R_mac) [.non] E0 (tCons (tC (.int 6)) (tCons (tVar 7) tNil))) Γ (kX (Mc.Nm M_six) fun nm => kMac C M_six nm) := fun h =>
      ev_imp (ev_make (C := C) (R := R_mac) (no := ["mark"]) (dks := [kD .none]) (ks := [kD (eI 6), kL (M_six.ds.map kDeed)]) (fs := fsM M_six) (ea_cons ev_int (ea_cons (ev_var h) ea_nil)) (fun G => ⟨.non, trivial⟩) ⟨M_six, six_ok, ⟨_, _, rfl, .inl rfl, .inr ⟨rfl, rfl⟩⟩, rfl⟩ fun m hm => by
        rw [List.mem_singleton.mp hm]
        simp [fsM]; decide) fun G v h => kMac_of six_ok h
    refine tr_when (et_notD (et_tB (ev_callQ (ea_cons (ev_imp (ev_callX (P := kX (NC six_ok.pm "turn" "wipe") fun r => kD (encO r)) (ea_cons (mk6 rfl) (ea_cons ev_str (ea_cons ev_str ea_nil))) fun nm on => ⟨M_six, nm, "turn", "wipe", on, rfl, nt, nw, rfl⟩) fun G v ⟨r, hr, p⟩ => by rw [nc_only six_ok mk_six only_six hr] at p; exact p) (ea_cons (P := kD (eW (List.replicate 4 ("pass" : Str)))) (ev_tupD (f := .str) (ev_imp (ev_repT (z := 4) (P := kD (.str "pass")) (ev_tup (ea_cons ev_str ea_nil) (by simp)) ev_int (by decide) (by decide)) fun G v h => by rw [List.map_replicate]; exact h)) ea_nil)) ⟨eW (List.replicate 4 ("pass" : Str)), d2_3 (d2_w (by decide +kernel) (by decide)), rfl, rfl⟩))) (fun e => tr_abs (by cases e)) fun _ => tr_skip ?_
    have na : ("a" : Str) ∈ (M_h 3).nms := by unfold Mc.nms M_h; simp
    have nb : ("b" : Str) ∈ (M_h 3).nms := by unfold Mc.nms M_h; simp
    exact tr_ret (ev_isNoX (b := true) (ev_callX (P := kX (fun r : Option (List Str) => r = none ↔ h3_ok.pm.Three "a" "b") fun r => kD (encO r)) (ea_cons (host h3_ok rfl) (ea_cons ev_str (ea_cons ev_str ea_nil))) fun nm on => ⟨M_h 3, nm, "a", "b", on, rfl, na, nb, rfl⟩) ev_non fun r hr => by rw [hr.mpr (three_B h3_ok mk_h3 three_h3)]; rfl) ⟨rfl, rfl⟩
end
end Ll
end

section
set_option Elab.async false
set_option linter.all false
set_option maxRecDepth 100000
set_option maxHeartbeats 0
namespace Ll
open PySem PySem.Spec PyProof.Rows L2
/-- the getter of the property that stands at p -/
def gAd (K : PySem.W.Frag) (p : Str × Option Str) : Addr := match PySem.W.recIn K (He.fAd K p) "property" with
  | some (.ref g :: _) => g
  | _ => 0
def fnWg (K : PySem.W.Frag) (p : Str × Option Str) : He.FnW := match K.lookup (gAd K p) with
  | some ⟨_, _, .func fd, _⟩ => some (fd.name, fd.qualname, fd.params, fd.body, fd.scope, fd.globals, fd.closure, fd.builtins)
  | _ => none
def okG (K : PySem.W.Frag) (d : He.DefD) : Bool := PySem.W.keepIn K (.ref (gAd K d.at_)) && (match K.lookup (gAd K d.at_) with
  | some ⟨_, _, .func fd, _⟩ => PySem.W.codeIn K fd.code d.qual && (He.dflB K fd.defaults [] && He.kwdB K fd.kwdefaults [])
  | _ => false)
theorem funG {K : PySem.W.Frag} {d : He.DefD} (e : fnWg K d.at_ = d.val) (c : okG K d = true) : ∃ fd, FunD K d.name d.qual d.params d.body d.scope [] [] (gAd K d.at_) fd := by
  obtain ⟨kp, c2⟩ := He.ba c
  unfold fnWg at e
  cases q : K.lookup (gAd K d.at_) with
  | none =>
    rw [q] at c2
    cases c2
  | some o =>
    obtain ⟨oc, od, dt, osl⟩ := o
    rw [q] at c2 e
    cases dt with
    | func fd =>
      obtain ⟨n1, n2, n3, n4, n5, n6, n7, n8, n9, n10, n11, n12, n13, n14, n15⟩ := fd
      have e2 : (some (n1, n2, n3, n4, n5, n6, n7, n15) : He.FnW) = some (d.name, d.qual, d.params, .stmts d.body, d.scope, mainGlobals, [], builtinsNs) := e
      simp only [Option.some.injEq, Prod.mk.injEq] at e2
      obtain ⟨h1, h2, h3, h4, h5, h6, h7, h8⟩ := e2
      subst h1 h2 h3 h4 h5 h6 h7 h8
      obtain ⟨k1, k2⟩ := He.ba (show (PySem.W.codeIn K n13 d.qual && (He.dflB K n8 [] && He.kwdB K n9 [])) = true from c2)
      obtain ⟨k3, k4⟩ := He.ba k2
      exact ⟨_, ⟨oc, od, n8, n9, n10, n11, n12, n13, n14, osl, rfl, q, k1, He.dflB_ok k3, He.kwdB_ok k4⟩, kp⟩
    | _ => cases c2
def prB (K : PySem.W.Frag) (C m : Str) : Bool := He.eqO (PySem.W.findIn K (.ref (He.ga K C)) m) (some (some (.ref (He.fAd K (C, some m))))) && (decide (PySem.W.takesIn K (.ref (He.fAd K (C, some m))) = some true) && ((match PySem.W.specialIn K (.ref (He.fAd K (C, some m))) "__get__" with
    | some (some (.builtin n)) => decide (n = "property.__get__")
    | _ => false) && (match PySem.W.recIn K (He.fAd K (C, some m)) "property" with
    | some (.ref _ :: _) => true
    | _ => false)))
theorem prB_ok {K : PySem.W.Frag} {C m : Str} (h : prB K C m = true) : PropOf K (He.ga K C) m (He.fAd K (C, some m)) (gAd K (C, some m)) := by
  obtain ⟨c1, c⟩ := He.ba h
  obtain ⟨c2, c⟩ := He.ba c
  obtain ⟨c3, c4⟩ := He.ba c
  refine ⟨He.eqO_ok c1, ?_, of_decide_eq_true c2, ?_⟩
  · cases q : PySem.W.specialIn K (.ref (He.fAd K (C, some m))) "__get__" with
    | none =>
      rw [q] at c3
      cases c3
    | some r =>
      rw [q] at c3
      cases r with
      | none => cases c3
      | some v =>
        cases v with
        | builtin n =>
          have e : n = "property.__get__" := of_decide_eq_true c3
          rw [e]
        | _ => cases c3
  · unfold gAd
    cases q : PySem.W.recIn K (He.fAd K (C, some m)) "property" with
    | none =>
      rw [q] at c4
      cases c4
    | some l =>
      rw [q] at c4
      cases l with
      | nil => cases c4
      | cons v rest =>
        cases v with
        | ref g => exact ⟨rest, rfl⟩
        | _ => cases c4
/-- the Bool of all the properties -/
def exP (ps : List He.DefD) (K : PySem.W.Frag) : Bool := ps.all fun d => okG K d && (match d.at_.2 with
  | some m => prB K d.at_.1 m
  | none => false)
theorem exP_ok {K : PySem.W.Frag} {ps : List He.DefD} (h : exP ps K = true) {d : He.DefD} (hd : d ∈ ps) {C m : Str} (e : d.at_ = (C, some m)) : okG K d = true ∧ prB K C m = true := by
  obtain ⟨a, b⟩ := He.ba (List.all_eq_true.mp h d hd)
  refine ⟨a, ?_⟩
  rw [e] at b
  exact b
/-! ### the Hook: HeadHook4's and the getters' functions -/
abbrev AlP : Type := He.AlX × List He.FnW
def obsP (n : Nat) (fa : List He.Fa) (fn ps : List He.DefD) (g : Addr → Option Obj) : AlP := (He.obsX n fa fn [] [] (exP ps) g, ps.map fun d => fnWg (He.frT g (He.asD g n)) d.at_)
def valP (fn ps : List He.DefD) (w : World) : AlP := (He.valX fn [] w, ps.map He.DefD.val)
structure SaysP (fa : List He.Fa) (fn ps : List He.DefD) (w : World) (h : Heap) (K : PySem.W.Frag) : Prop where
  x : He.SaysX fa fn [] [] (exP ps) w h K
  p : (ps.map fun d => fnWg K d.at_) = ps.map He.DefD.val
def hookP (n : Nat) (fa : List He.Fa) (fn ps : List He.DefD) : PySem.W.Hook where
  α := AlP
  obs := fun s => obsP n fa fn ps s.heap.get?
  val := fun w => valP fn ps w
  says := fun w h => ∃ K : PySem.W.Frag, K.In h ∧ SaysP fa fn ps w h K
  of := fun _ _ e => ⟨_, He.frT_in, ⟨He.saysX_of (congrArg (fun z : AlP => z.1) e), congrArg (fun z : AlP => z.2) e⟩⟩
  keeps := fun _ _ _ ⟨K, hK, c⟩ k => ⟨K, PySem.W.Frag.In.keeps hK k, ⟨⟨c.x.t, c.x.more, c.x.hd, c.x.out, fun p hp => k _ _ (c.x.empty p hp)⟩, c.p⟩⟩
theorem obsP_eq {n : Nat} {fa : List He.Fa} {fn ps : List He.DefD} {g : Addr → Option Obj} {s : Shared} (h : ∀ a, g a = s.heap.get? a) : obsP n fa fn ps g = (hookP n fa fn ps).obs s := by
  have e : g = s.heap.get? := funext h
  rw [e] <;> rfl
/-- a property of the list: its getter's def, its place -/
theorem SaysP.prop {fa : List He.Fa} {fn ps : List He.DefD} {w : World} {h : Heap} {K : PySem.W.Frag} (c : SaysP fa fn ps w h K) (i : Nat) {d : He.DefD} (hd : ps[i]? = some d) {C m : Str} (e : d.at_ = (C, some m)) :
    ∃ p f fd, FunD K d.name d.qual d.params d.body d.scope [] [] f fd ∧ PropOf K (He.ga K C) m p f := by
  obtain ⟨k1, k2⟩ := exP_ok c.x.more (List.mem_of_getElem? hd) e
  have e2 : (ps.map fun d => fnWg K d.at_)[i]? = (ps.map He.DefD.val)[i]? := by rw [c.p]
  rw [List.getElem?_map, List.getElem?_map, hd] at e2
  obtain ⟨fd, F⟩ := funG (Option.some.inj e2) k1
  have h3 := prB_ok k2
  rw [← e] at h3
  exact ⟨_, _, fd, F, h3⟩
end Ll
end

section
set_option Elab.async false
set_option linter.all false
set_option maxRecDepth 100000
set_option maxHeartbeats 1000000
/-! Ll: all calls joined: the law. -/
namespace Ll
open PySem PySem.Spec PyProof.Rows L2
section
variable {P : Program} {w : World} {K : PySem.W.Frag} {mg : Str → Option Value} {base : Heap} {C CR f : Addr} {fd : FuncData}
abbrev Mi (K : PySem.W.Frag) (C : Addr) (dvs : List V) : Prop := ∃ f fd ds dv, FunD K "__init__" "Machine.__init__" (defArgs (inClass (top 14) 0)) (defBody (inClass (top 14) 0)) (defScope (inClass (top 14) 0)) dv [] f fd ∧ Mk K C f ∧ Binds K fd ["self", "many", "deeds", "shows"] ds ∧ Vals dvs ds
abbrev Ri (K : PySem.W.Frag) (CR : Addr) : Prop := ∃ f fd ds, FunD K "__init__" "Rules.__init__" (defArgs (inClass (top 26) 0)) (defBody (inClass (top 26) 0)) (defScope (inClass (top 26) 0)) ds [] f fd ∧ Mk K CR f ∧ Binds K fd ["self", "pairs"] []
def gq (i : Nat) (x : Str) : Nat × Str := (i, x)
def glT : List (Nat × Str) := [gq 10 "firsts_of", gq 11 "blocks_of", gq 12 "marks_of", gq 16 "checked", gq 18 "way", gq 19 "marked", gq 20 "telling", gq 21 "same", gq 24 "ascending", gq 27 "check_deeds", gq 28 "after_deed", gq 29 "far_from", gq 30 "first_to", gq 31 "not_covered", gq 32 "is_covered", gq 33 "by_three", gq 34 "greatest", gq 36 "_law_box", gq 37 "_law_take", gq 38 "_law_cells", gq 39 "_law_of", gq 40 "_law_same", gq 41 "_law_mixed", gq 42 "_law_names", gq 43 "_law_moves", gq 44 "_law_machine", gq 45 "_law_lamp", gq 46 "_law_dial", gq 47 "_law_copier", gq 48 "_law_lamps", gq 49 "_law_known", gq 50 "_law_some_machine", gq 51 "_law_tags", gq 52 "_law_host", gq 53 "_law_kinds", gq 54 "_law_way", gq 55 "_law_marks", gq 56 "_law_equal", gq 57 "_law_log", gq 58 "_law_far", gq 59 "_law_by_hand", gq 60 "_law_right"]
theorem law_ok (B : Bi mg) (c : MacF K C) (cr : RulF K CR) (lk : ∃ t, mg "LOOK" = some (.str "?" t)) (hM : mg "Machine" = some (.ref C)) (hR : mg "Rules" = some (.ref CR)) (mi0 : Mi K C []) (mi1 : Mi K C [.non]) (ri : Ri K CR)
    (g6 : Md1 K C "__getitem__" "Machine.__getitem__" 14 6) (g8 : Md1 K C "__contains__" "Machine.__contains__" 14 8) (g14 : Md1 K C "mark" "Machine.mark" 14 14) (g1 : Pd1 K C "many" "Machine.many" 14 1) (g2 : Pd1 K C "names" "Machine.names" 14 2) (gp : Pd1 K CR "pairs" "Rules.pairs" 26 1)
    (F : ∀ p ∈ glT, Fd K mg p.2 p.1) (FL : FnP K "law" (top 61) f fd) : FnOk P w K mg base CX0 10 f fd ["_law_script"] (spQ (R_law K)) := by
  have T : ∀ (i : Nat) (x : Str), (i, x) ∈ glT → Fd K mg x i := fun i x h => F (i, x) h
  have firsts := cal_firsts (P := P) (w := w) (base := base) B (T 10 "firsts_of" (by decide +kernel))
  have blocks := cal_blocks B firsts (T 11 "blocks_of" (by decide +kernel))
  have marks := cal_marks B firsts (T 12 "marks_of" (by decide +kernel))
  have many := prp_many (P := P) (w := w) (mg := mg) (base := base) B c g1
  have names := prp_names (P := P) (w := w) (mg := mg) (base := base) B c g2
  have get := dun_get (P := P) (w := w) (mg := mg) (base := base) B c g6
  have has := dun_has (P := P) (w := w) (mg := mg) (base := base) B c g8
  have mark := dun_mark (P := P) (w := w) (mg := mg) (base := base) B c g14
  have checked := cal_checked B c lk names (T 16 "checked" (by decide +kernel))
  have way := cal_way B c lk get (T 18 "way" (by decide +kernel))
  have marked := cal_marked B c many mark way (T 19 "marked" (by decide +kernel))
  have telling := cal_telling B c many checked marked (T 20 "telling" (by decide +kernel))
  have same := cal_same B telling (T 21 "same" (by decide +kernel))
  have asc := cal_asc (P := P) (w := w) (base := base) B (T 24 "ascending" (by decide +kernel))
  have mrul := mak_rules B cr asc ri hR
  have pairs := prp_pairs (P := P) (w := w) (mg := mg) (base := base) B cr gp
  have check := cal_check B c has (T 27 "check_deeds" (by decide +kernel))
  have after := cal_after B c get asc (T 28 "after_deed" (by decide +kernel))
  have far := cal_far B c many names after (T 29 "far_from" (by decide +kernel))
  have first := cal_first B c names after far (T 30 "first_to" (by decide +kernel))
  have nc := cal_nc B c get many mark check first (T 31 "not_covered" (by decide +kernel))
  have ic := cal_ic B nc (T 32 "is_covered" (by decide +kernel))
  have b3 := cal_b3 B c names same check (T 33 "by_three" (by decide +kernel))
  have gr := cal_gr B c cr names mrul ic (T 34 "greatest" (by decide +kernel))
  have mk0 := mak_mac B c blocks marks mi0 hM
  have mk1 := mak_mac B c blocks marks mi1 hM
  have take := cal_take (P := P) (w := w) (base := base) B (T 37 "_law_take" (by decide +kernel))
  have of := cal_l_of B take (T 39 "_law_of" (by decide +kernel))
  have mixed := cal_mixed B take (T 41 "_law_mixed" (by decide +kernel))
  have tags := cal_tags (P := P) (w := w) (base := base) B (T 51 "_law_tags" (by decide +kernel))
  have host := cal_host B c.cls mk0 (T 52 "_law_host" (by decide +kernel))
  have kinds := cal_lkinds (P := P) (w := w) (base := base) B (T 53 "_law_kinds" (by decide +kernel))
  have lway := cal_lway (P := P) (w := w) (base := base) B (T 54 "_law_way" (by decide +kernel))
  have lmarks := cal_lmarks B kinds lway (T 55 "_law_marks" (by decide +kernel))
  have equal := cal_lequal B lmarks (T 56 "_law_equal" (by decide +kernel))
  have log := cal_log B take of (T 57 "_law_log" (by decide +kernel))
  have moves := cal_moves B take of mixed (T 43 "_law_moves" (by decide +kernel))
  have lnames := cal_names B take of (T 42 "_law_names" (by decide +kernel))
  have lmac := cal_lmachine B take of lnames moves (T 44 "_law_machine" (by decide +kernel))
  have lamp := cal_lamp (P := P) (w := w) (base := base) B (T 45 "_law_lamp" (by decide +kernel))
  have dial := cal_dial (P := P) (w := w) (base := base) B (T 46 "_law_dial" (by decide +kernel))
  have copier := cal_copier (P := P) (w := w) (base := base) B (T 47 "_law_copier" (by decide +kernel))
  have lamps := cal_lamps (P := P) (w := w) (base := base) B (T 48 "_law_lamps" (by decide +kernel))
  have known := cal_known B take of lamp dial copier lamps tags (T 49 "_law_known" (by decide +kernel))
  have some_ := cal_some B take lmac known (T 50 "_law_some_machine" (by decide +kernel))
  have right := cal_right B cr pairs nc b3 gr tags some_ host equal log (T 60 "_law_right" (by decide +kernel))
  have cells := cal_cells (P := P) (w := w) (K := K) (base := base) B (T 38 "_law_cells" (by decide +kernel))
  have box := cal_box (P := P) (w := w) (base := base) B (T 36 "_law_box" (by decide +kernel))
  have s0 := cal_same0 (P := P) (w := w) (base := base) (T 40 "_law_same" (by decide +kernel))
  have s1 := cal_same1 B s0 (T 40 "_law_same" (by decide +kernel))
  have s2 := cal_same1 B s1 (T 40 "_law_same" (by decide +kernel))
  have s3 := cal_same1 B s2 (T 40 "_law_same" (by decide +kernel))
  have lfar := cal_lfar B kinds (T 58 "_law_far" (by decide +kernel))
  have hand := cal_hand B c.cls mk1 nc ic b3 host lfar s3 (T 59 "_law_by_hand" (by decide +kernel))
  exact fn_Q FL sc_law (by decide) (fun ks Pk ⟨_, e, _⟩ => by rw [e]; rfl) (fun cdv A outer s H E hr => der_law B box cells hand right hr) fun ks Pk h => .inl (w_law ks Pk h)
end
end Ll
end

section
set_option Elab.async false
set_option linter.all false
set_option maxRecDepth 100000
set_option maxHeartbeats 0
/-! Ll, the head: the facts by names. -/
namespace Ll
open PySem PySem.Spec PyProof.Rows L2
/-- the def that stands as the i-th statement -/
def glD (i : Nat) (x : Str) : He.DefD := ⟨(x, none), x, x, defArgs (top i), defBody (top i), defScope (top i), [], []⟩
def clD (i j : Nat) (C m q : Str) (dfl : List He.Dv := []) : He.DefD := ⟨(C, some m), m, q, defArgs (inClass (top i) j), defBody (inClass (top i) j), defScope (inClass (top i) j), dfl, []⟩
def glN : List (Nat × Str) := gq 61 "law" :: glT
def fn : List He.DefD := glN.map (fun p => glD p.1 p.2) ++ [clD 14 0 "Machine" "__init__" "Machine.__init__" [.non], clD 26 0 "Rules" "__init__" "Rules.__init__" [.adr (He.dflAt ("Rules", some "__init__") 0)], clD 14 6 "Machine" "__getitem__" "Machine.__getitem__", clD 14 8 "Machine" "__contains__" "Machine.__contains__", clD 14 14 "Machine" "mark" "Machine.mark"]
def ps : List He.DefD := [clD 14 1 "Machine" "many" "Machine.many", clD 14 2 "Machine" "names" "Machine.names", clD 26 1 "Rules" "pairs" "Rules.pairs"]
def biN : List Str := ["len", "range", "enumerate", "tuple", "list", "dict", "sorted", "any", "all", "max", "min", "abs", "int", "str", "bool", "zip", "isinstance"]
def fa : List He.Fa := glN.map (fun p => .glo p.2) ++ [.glo "Machine", .glo "Rules", .str "LOOK" "?", .cls "Machine", .cls "Rules", .mkr "Machine", .mkr "Rules", .noat "Rules" "own_pairs", .meth "Machine" "__getitem__", .meth "Machine" "__contains__", .meth "Machine" "mark"] ++ ["own_many", "own_names", "own_moves", "own_shows", "own_marks", "own_kinds"].map (fun f => .noat "Machine" f) ++ biN.map .free
abbrev R : PySem.W.OpenRow := PySem.W.OpenLaw.row PySem.Challenge.rw_leftlogs_k68_whole_three_deeds_decide
abbrev hk : PySem.W.Hook := hookP 5 fa fn ps
def ob (s : PySem.W.SharedT) : AlP := obsP 5 fa fn ps (HandSHeadRun.getT s)
theorem ob_eq (s : PySem.W.SharedT) : ob s = hk.obs s.abs := obsP_eq (HandSHeadRun.getT_eq s)
def loose : List PySem.Str := (PySem.Challenge.pw_leftlogs_k68_whole_three_deeds_decide.main.scope.names.map (·.1)).filter fun x => x != "law" && x != "__name__"
end Ll
end

section
set_option Elab.async false
set_option linter.all false
set_option maxRecDepth 100000
set_option maxHeartbeats 0
/-! Ll, the head: the run. -/
namespace Ll
open PySem PySem.Spec PyProof.Rows L2
theorem run (w : World) : HandSHeadRun.RunEq R (PySem.W.view R.prog [61]) hk ob 16000 loose w := by
  intro os
  kernel_rfl
end Ll
end

section
set_option Elab.async false
set_option linter.all false
set_option maxRecDepth 100000
set_option maxHeartbeats 0
namespace Ll
open PySem PySem.Spec PyProof.Rows L2
theorem facts {P : Program} {w : World} {K : PySem.W.Frag} {h : Heap} {mg : Str → Option Value} {f : Addr} (X : K.In h) (G : h.Ns mainGlobals mg) (hfa : mg ("law" : Str) = some (.ref f)) (s : SaysP fa fn ps w h K) :
    ∃ fd : FuncData, (∀ (s : Shared) (v : Value), BindsTo s fd ⟨[v], []⟩ [("_law_script", v)]) ∧ ∀ base : Heap, K.In base → base.Ns mainGlobals mg → FnOk P w K mg base CX0 10 f fd ["_law_script"] (spQ (R_law K)) := by
  have c : He.SaysD fa fn K := s.x.t.d
  have gl : ∀ p ∈ glT, Fd K mg p.2 p.1 := fun p hp => by
    obtain ⟨fd, F⟩ := c.defs (d := glD p.1 p.2) (List.mem_append_left _ (List.mem_map_of_mem (List.mem_cons_of_mem _ hp)))
    exact ⟨_, fd, F, He.glo_ok X G (c.facts (f := .glo p.2) (by unfold fa; exact List.mem_append_left _ (List.mem_append_left _ (List.mem_append_left _ (List.mem_map_of_mem (f := fun p : Nat × Str => He.Fa.glo p.2) (List.mem_cons_of_mem _ hp))))))⟩
  have hfr : ∀ x ∈ biN, mg x = none := fun x hx => He.free_ok X G (c.facts (f := .free x) (List.mem_append_right _ (List.mem_map_of_mem hx)))
  have B : Bi mg := by constructor <;> exact hfr _ (by decide +kernel)
  obtain ⟨fd, F⟩ := c.def_ 0 (d := glD 61 "law") rfl
  have e := hfa.symm.trans (He.glo_ok X G (c.fact 0 (f := .glo "law") rfl))
  cases e
  have b := FunD.bindsA (ps := ["_law_script"]) F fun _ _ _ _ _ _ us hl => match us, hl with | [_], _ => rfl
  have mC : MacF K (He.ga K "Machine") := ⟨He.cls_ok (c.fact 46 (f := .cls "Machine") rfl), fun g hg => He.noat_ok (c.facts (f := .noat "Machine" g) (List.mem_append_left _ (List.mem_append_right _ (List.mem_map_of_mem (f := fun g => He.Fa.noat "Machine" g) hg))))⟩
  have mR : RulF K (He.ga K "Rules") := ⟨He.cls_ok (c.fact 47 (f := .cls "Rules") rfl), He.noat_ok (c.fact 50 (f := .noat "Rules" "own_pairs") rfl)⟩
  have fnOf_ : ∀ {x q : Str} {a : Arguments} {b : List Stmt} {sc : Scope} {dv : List V} {f : Addr} {fd : FuncData}, FunD K x q a b sc dv [] f fd → PySem.W.fnIn K f = true := fun F => by
    obtain ⟨oc, od, dV, kV, doc, pm, an, cdv, ct, osl, rfl, lk, _⟩ := F.ex
    unfold PySem.W.fnIn
    rw [lk]
  have g6 : Md1 K (He.ga K "Machine") "__getitem__" "Machine.__getitem__" 14 6 := by
    obtain ⟨fd, F⟩ := c.def_ 45 (d := clD 14 6 "Machine" "__getitem__" "Machine.__getitem__") rfl
    exact ⟨_, fd, F, He.meth_ok (c.fact 51 (f := .meth "Machine" "__getitem__") rfl), fnOf_ F⟩
  have g8 : Md1 K (He.ga K "Machine") "__contains__" "Machine.__contains__" 14 8 := by
    obtain ⟨fd, F⟩ := c.def_ 46 (d := clD 14 8 "Machine" "__contains__" "Machine.__contains__") rfl
    exact ⟨_, fd, F, He.meth_ok (c.fact 52 (f := .meth "Machine" "__contains__") rfl), fnOf_ F⟩
  have g14 : Md1 K (He.ga K "Machine") "mark" "Machine.mark" 14 14 := by
    obtain ⟨fd, F⟩ := c.def_ 47 (d := clD 14 14 "Machine" "mark" "Machine.mark") rfl
    exact ⟨_, fd, F, He.meth_ok (c.fact 53 (f := .meth "Machine" "mark") rfl), fnOf_ F⟩
  have g1 : Pd1 K (He.ga K "Machine") "many" "Machine.many" 14 1 := s.prop 0 (d := clD 14 1 "Machine" "many" "Machine.many") rfl rfl
  have g2 : Pd1 K (He.ga K "Machine") "names" "Machine.names" 14 2 := s.prop 1 (d := clD 14 2 "Machine" "names" "Machine.names") rfl rfl
  have gp : Pd1 K (He.ga K "Rules") "pairs" "Rules.pairs" 26 1 := s.prop 2 (d := clD 26 1 "Rules" "pairs" "Rules.pairs") rfl rfl
  obtain ⟨fM, FM⟩ := c.def_ 43 (d := clD 14 0 "Machine" "__init__" "Machine.__init__" [.non]) rfl
  obtain ⟨fR, FR⟩ := c.def_ 44 (d := clD 26 0 "Rules" "__init__" "Rules.__init__" [.adr (He.dflAt ("Rules", some "__init__") 0)]) rfl
  have kM := He.mkr_ok (c.fact 48 (f := .mkr "Machine") rfl)
  have kR := He.mkr_ok (c.fact 49 (f := .mkr "Rules") rfl)
  have mi0 : Mi K (He.ga K "Machine") [] := by
    obtain ⟨ds, h1, h2⟩ := FM.binds1 (ps := ["self", "many", "deeds", "shows"]) 4 1 (by simp [He.DefD.dvs, clD]) rfl fun T kV doc pm an cdv ct us its hu hi => match us, its, hu, hi with | [_, _, _, _], [_], _, _ => ⟨_, rfl, rfl⟩
    exact ⟨_, fM, ds, _, FM, kM, h2, h1⟩
  have mi1 : Mi K (He.ga K "Machine") [.non] := by
    obtain ⟨ds, h1, h2⟩ := FM.binds1 (ps := ["self", "many", "deeds", "shows"]) 3 0 (by simp [He.DefD.dvs, clD]) rfl fun T kV doc pm an cdv ct us its hu hi => match us, its, hu, hi with | [_, _, _], [_], _, _ => ⟨_, rfl, rfl⟩
    exact ⟨_, fM, ds, _, FM, kM, h2, h1⟩
  have ri : Ri K (He.ga K "Rules") := by
    obtain ⟨ds, h1, h2⟩ := FR.binds1 (ps := ["self", "pairs"]) 2 1 (by simp [He.DefD.dvs, clD]) rfl fun T kV doc pm an cdv ct us its hu hi => match us, its, hu, hi with | [_, _], [_], _, _ => ⟨_, rfl, rfl⟩
    cases h1
    exact ⟨_, fR, _, FR, kR, h2⟩
  refine ⟨fd, fun s v => b s [v] rfl, fun base _ _ => law_ok B mC mR (He.str_ok X G (c.fact 45 (f := .str "LOOK" "?") rfl)) (He.glo_ok X G (c.fact 43 (f := .glo "Machine") rfl)) (He.glo_ok X G (c.fact 44 (f := .glo "Rules") rfl)) mi0 mi1 ri g6 g8 g14 g1 g2 gp gl F⟩
end Ll
end

section
set_option Elab.async false
set_option linter.all false
set_option maxRecDepth 100000
set_option maxHeartbeats 0
namespace Ll
open PySem PySem.Spec PyProof.Rows L2
theorem law_pre {K : PySem.W.Frag} {H : Hp} {a : Addr} {ns : List Int} (hl : ns.length ≤ 63) (hS : SqL K H a (ns.map V.int)) : spQ (R_law K) [.ref a] H (fun v _ => v = .bl true) fun _ _ _ => False :=
  ⟨H, kD (.bool true), Same.refl H, ⟨[kSc K ns], ⟨ns, rfl, hl, rfl⟩, ⟨⟨a, rfl, hS⟩, trivial⟩⟩, fun v H2 G2 _ p => kD_bool.mp p⟩
end Ll
open PySem PySem.W PySem.Calls PyProof.Rows
theorem PySem.Challenge.cw_leftlogs_k68_whole_three_deeds_decide_holds : PySem.Challenge.rw_leftlogs_k68_whole_three_deeds_decide.Holds := by
  w_on; o_law
  refine HandSHeadRun.head_any (r := Ll.R) (q := view Ll.R.prog [61]) (H := Ll.hk) (ob := Ll.ob) (M := 16000) (loose := Ll.loose) (d := HandSHeadRun.topDef Ll.R.prog 61) (kwd := []) Ll.ob_eq
    (by kernel_rfl) (fun s => by kernel_rfl) Ll.run (by kernel_rfl) (by kernel_rfl) (by kernel_rfl) (by rfl) (by first | assumption | decide +kernel) (by decide +kernel) ⟨rfl, rfl, rfl, rfl, rfl, by decide +kernel⟩ ?hw ?hc
  case hw => w_witness2
  case hc =>
    refine L2.walk_ofE (l := PySem.Challenge.rw_leftlogs_k68_whole_three_deeds_decide) (n := 63) (k := 10) (x := "_law_script") (CX := L2.CX0) rfl (by decide) (by kernel_rfl) ⟨rfl, by decide, by decide⟩ ?F (fun _ _ _ _ z => z)
    intro w mg fa h Y G hmg0
    obtain ⟨K, KX, c⟩ := Y
    have hmg : mg ("law" : PySem.Str) = some (.ref fa) := by
      have e : (HandSHeadRun.topDef Ll.R.prog 61).name = ("law" : PySem.Str) := by kernel_rfl
      rw [← e]
      exact hmg0
    obtain ⟨fd, hb, hF⟩ := Ll.facts (P := (PySem.Challenge.rw_leftlogs_k68_whole_three_deeds_decide).prog) (w := w) KX G hmg c
    exact ⟨K, fd, _, KX, hb, fun H a ns hl _ hS => Ll.law_pre hl hS, hF⟩
end
