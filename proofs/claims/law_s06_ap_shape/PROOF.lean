import PyProof.Rows.All
import Wide.All
import OpenK.AllK
import Wide.FinOn
import Open.SpecLaws
import KE.OsGo
import HandS.ForSpec
import HandS.Comp
import HandS.Iter
import HandS.Walk
import HandS.Wide
import HandS.WideBits
import HandS.SortInts
import PySem.Challenge.RW_starlight_s06_ap_shape

set_option Elab.async false
set_option linter.all false
set_option maxRecDepth 100000
set_option maxHeartbeats 4000000
/-! Pd: pure data, told symbolically: what slots hold is told by data, what a reading gives is told by data, whatever the heap. -/
namespace Pd
open PySem PySem.Spec PyProof.Rows L2
abbrev Fg := PySem.W.Frag
/-- data: ints, truth values, lists, tuples; a frame by its sides and its numbers -/
inductive Dt where
  | int (i : Int)
  | bl (b : Bool)
  | lst (ds : List Dt)
  | tup (ds : List Dt)
  | frm (w h : Int) (f : List Int)
def fF (w h : Int) (fa : Addr) : List (Str × V) := [("wide", .int w), ("high", .int h), ("numbers", .ref fa)]
mutual
inductive Dr (K : Fg) (C : Addr) (G : Hp) : V → Dt → Prop
  | int (i : Int) : Dr K C G (.int i) (.int i)
  | bl (b : Bool) : Dr K C G (.bl b) (.bl b)
  | lst {a : Addr} {xs : List V} {ds : List Dt} : SqL K G a xs → Drs K C G xs ds → Dr K C G (.ref a) (.lst ds)
  | tup {a : Addr} {xs : List V} {ds : List Dt} : SqT K G a xs → Drs K C G xs ds → Dr K C G (.ref a) (.tup ds)
  | frm {a dx fa : Addr} {w h : Int} {f : List Int} : G a = some (.ins C dx (fF w h fa)) → SqL K G fa (f.map V.int) → Dr K C G (.ref a) (.frm w h f)
inductive Drs (K : Fg) (C : Addr) (G : Hp) : List V → List Dt → Prop
  | nil : Drs K C G [] []
  | cons {v : V} {vs : List V} {d : Dt} {ds : List Dt} : Dr K C G v d → Drs K C G vs ds → Drs K C G (v :: vs) (d :: ds)
end
theorem sqt_go {K : Fg} {H H' : Hp} {a : Addr} {xs : List V} (e : Same H H') (h : SqT K H a xs) : SqT K H' a xs := by
  rcases h with (p | ⟨u, p⟩) | p
  · exact Or.inl (Or.inl (e a _ p))
  · exact Or.inl (Or.inr ⟨u, e a _ p⟩)
  · exact Or.inr p
section
variable {K : Fg} {C : Addr} {G G' : Hp}
mutual
theorem dr_go (e : Same G G') : ∀ (d : Dt) (v : V), Dr K C G v d → Dr K C G' v d
  | .int i, _, x => by cases x; exact .int i
  | .bl b, _, x => by cases x; exact .bl b
  | .lst ds, _, x => by
    cases x with
    | lst p q => exact .lst (e.seq p) (drs_go e ds _ q)
  | .tup ds, _, x => by
    cases x with
    | tup p q => exact .tup (sqt_go e p) (drs_go e ds _ q)
  | .frm w h f, _, x => by
    cases x with
    | frm p q => exact .frm (e _ _ p) (e.seq q)
theorem drs_go (e : Same G G') : ∀ (ds : List Dt) (vs : List V), Drs K C G vs ds → Drs K C G' vs ds
  | [], _, x => by cases x; exact .nil
  | d :: ds, _, x => by
    cases x with
    | cons p q => exact .cons (dr_go e d _ p) (drs_go e ds _ q)
end
theorem Dr.go {d : Dt} {v : V} (x : Dr K C G v d) (e : Same G G') : Dr K C G' v d := dr_go e d v x
theorem Drs.go {ds : List Dt} {vs : List V} (x : Drs K C G vs ds) (e : Same G G') : Drs K C G' vs ds := drs_go e ds vs x
theorem Drs.len : ∀ {ds : List Dt} {vs : List V}, Drs K C G vs ds → vs.length = ds.length
  | [], _, x => by cases x; rfl
  | d :: ds, _, x => by
    cases x with
    | cons p q =>
      show _ + 1 = _ + 1
      rw [q.len]
theorem Drs.get : ∀ {ds : List Dt} {vs : List V} {i : Nat} {v : V}, Drs K C G vs ds → vs[i]? = some v → ∃ d, ds[i]? = some d ∧ Dr K C G v d
  | [], _, i, v, x, h => by cases x; simp at h
  | d :: ds, _, 0, v, x, h => by
    cases x with
    | cons p q =>
      cases Option.some.inj h
      exact ⟨d, rfl, p⟩
  | d :: ds, _, i + 1, v, x, h => by
    cases x with
    | cons p q => exact q.get (i := i) h
theorem Drs.at_ : ∀ {ds : List Dt} {vs : List V} {i : Nat} {d : Dt}, Drs K C G vs ds → ds[i]? = some d → ∃ v, vs[i]? = some v ∧ Dr K C G v d
  | [], _, i, v, x, h => by simp at h
  | d :: ds, _, 0, v, x, h => by
    cases x with
    | cons p q =>
      cases Option.some.inj h
      exact ⟨_, rfl, p⟩
  | d :: ds, _, i + 1, v, x, h => by
    cases x with
    | cons p q => exact q.at_ (i := i) h
theorem Drs.app : ∀ {ds : List Dt} {vs : List V} {es : List Dt} {us : List V}, Drs K C G vs ds → Drs K C G us es → Drs K C G (vs ++ us) (ds ++ es)
  | [], _, _, _, x, y => by cases x; exact y
  | d :: ds, _, _, _, x, y => by
    cases x with
    | cons p q => exact .cons p (q.app y)
theorem Drs.one {d : Dt} {v : V} (x : Dr K C G v d) : Drs K C G [v] [d] := .cons x .nil
theorem drs_ints : ∀ {ns : List Int} {vs : List V}, Drs K C G vs (ns.map Dt.int) → vs = ns.map V.int
  | [], _, x => by cases x; rfl
  | n :: ns, _, x => by
    cases x with
    | cons p q =>
      cases p
      rw [drs_ints q]
      rfl
theorem ints_drs : ∀ ns : List Int, Drs K C G (ns.map V.int) (ns.map Dt.int)
  | [] => .nil
  | n :: ns => .cons (.int n) (ints_drs ns)
theorem drs_bls : ∀ {ns : List Bool} {vs : List V}, Drs K C G vs (ns.map Dt.bl) → vs = ns.map V.bl
  | [], _, x => by cases x; rfl
  | n :: ns, _, x => by
    cases x with
    | cons p q =>
      cases p
      rw [drs_bls q]
      rfl
theorem dr_int {v : V} {i : Int} (x : Dr K C G v (.int i)) : v = .int i := by cases x; rfl
theorem dr_bl {v : V} {b : Bool} (x : Dr K C G v (.bl b)) : v = .bl b := by cases x; rfl
end

/-! ### the part of the heap that data may stand in (G), the heap (H), and how both grow -/
structure Gr (G H G' H' : Hp) : Prop where
  hh : Same H H'
  gg : Same G G'
  gh : Same G' H'
  fr : ∀ a, G' a ≠ none → G a ≠ none ∨ H a = none
section
variable {G H G1 H1 G2 H2 : Hp} {p : Addr} {o : HO}
theorem Gr.refl (h : Same G H) : Gr G H G H := ⟨Same.refl H, Same.refl G, h, fun _ n => Or.inl n⟩
theorem Gr.trans (a : Gr G H G1 H1) (b : Gr G1 H1 G2 H2) : Gr G H G2 H2 := by
  refine ⟨a.hh.trans b.hh, a.gg.trans b.gg, b.gh, fun x n => ?_⟩
  rcases b.fr x n with m | m
  · exact a.fr x m
  · exact Or.inr (a.hh.free m)
theorem same_new {h : Hp} (hp : h p = none) : Same h (upd h p o) := fun b u e => by
  rw [upd_ne (ne_of_none e hp)]
  exact e
/-- a new object that data may stand in -/
theorem Gr.new (h : Same G H) (hp : H p = none) : Gr G H (upd G p o) (upd H p o) := by
  refine ⟨same_new hp, same_new (h.free hp), fun b u e => ?_, fun b n => ?_⟩
  · by_cases hb : b = p
    · subst hb
      rw [upd_same] at e ⊢
      exact e
    · rw [upd_ne hb] at e ⊢
      exact h b u e
  · by_cases hb : b = p
    · subst hb
      exact Or.inr hp
    · rw [upd_ne hb] at n
      exact Or.inl n
/-- a new object kept aside -/
theorem Gr.aside (h : Same G H) (hp : H p = none) : Gr G H G (upd H p o) := ⟨same_new hp, Same.refl G, h.trans (same_new hp), fun _ n => Or.inl n⟩
theorem Gr.out (a : Gr G H G1 H1) (g : G p = none) (h : H p = some o) : G1 p = none ∧ H1 p = some o := by
  refine ⟨?_, a.hh p o h⟩
  cases e : G1 p with
  | none => rfl
  | some u =>
    rcases a.fr p (by rw [e]; exact fun z => nomatch z) with m | m
    · exact absurd g m
    · rw [h] at m
      cases m
/-- what stands aside may change -/
theorem Gr.mut (a : Gr G H G1 H1) (h : H p = none) (g : G1 p = none) : Gr G H G1 (upd H1 p o) := by
  refine ⟨fun b u e => ?_, a.gg, fun b u e => ?_, a.fr⟩
  · rw [upd_ne (ne_of_none e h)]
    exact a.hh b u e
  · rw [upd_ne (ne_of_none e g)]
    exact a.gh b u e
/-- what stands aside is shown -/
theorem Gr.show_ (a : Gr G H G1 H1) (h : H p = none) (g : G1 p = none) (e : H1 p = some o) : Gr G H (upd G1 p o) H1 := by
  refine ⟨a.hh, a.gg.trans (same_new g), fun b u e' => ?_, fun b n => ?_⟩
  · by_cases hb : b = p
    · subst hb
      rw [upd_same] at e'
      rw [e, ← e']
    · rw [upd_ne hb] at e'
      exact a.gh b u e'
  · by_cases hb : b = p
    · subst hb
      exact Or.inr h
    · rw [upd_ne hb] at n
      exact a.fr b n
end

/-! ### slots -/
abbrev Ct := List (Option Dt)
structure Sd (K : Fg) (C : Addr) (G : Hp) (σ : L2.St) (Γ : Ct) : Prop where
  len : σ.length = Γ.length
  at_ : ∀ (i : Nat) (d : Dt), Γ[i]? = some (some d) → ∃ v, σ[i]? = some (some v) ∧ Dr K C G v d
section
variable {K : Fg} {C : Addr} {G G' : Hp} {σ : L2.St} {Γ : Ct}
theorem Sd.go (s : Sd K C G σ Γ) (e : Same G G') : Sd K C G' σ Γ := ⟨s.len, fun i d h => by
  obtain ⟨v, a, b⟩ := s.at_ i d h
  exact ⟨v, a, b.go e⟩⟩
theorem Sd.put (s : Sd K C G σ Γ) {v : V} {d : Dt} (j : Nat) (x : Dr K C G v d) : Sd K C G (σ.set j (some v)) (Γ.set j (some d)) := by
  refine ⟨by rw [List.length_set, List.length_set, s.len], fun i e h => ?_⟩
  by_cases hj : j = i
  · subst hj
    have hl : j < Γ.length := by
      have := (List.getElem?_eq_some_iff.mp h).1
      rwa [List.length_set] at this
    rw [List.getElem?_set_self hl] at h
    cases h
    exact ⟨v, List.getElem?_set_self (by rw [s.len]; exact hl), x⟩
  · rw [List.getElem?_set_ne hj] at h ⊢
    exact s.at_ i e h
theorem Sd.forget (s : Sd K C G σ Γ) (j : Nat) : Sd K C G σ (Γ.set j none) := by
  refine ⟨by rw [List.length_set, s.len], fun i e h => ?_⟩
  by_cases hj : j = i
  · subst hj
    have hl : j < Γ.length := by
      have := (List.getElem?_eq_some_iff.mp h).1
      rwa [List.length_set] at this
    rw [List.getElem?_set_self hl] at h
    cases h
  · rw [List.getElem?_set_ne hj] at h
    exact s.at_ i e h
theorem Sd.unput (s : Sd K C G σ Γ) (j : Nat) (u : Option V) : Sd K C G (σ.set j u) (Γ.set j none) := by
  refine ⟨by rw [List.length_set, List.length_set, s.len], fun i e h => ?_⟩
  by_cases hj : j = i
  · subst hj
    have hl : j < Γ.length := by
      have := (List.getElem?_eq_some_iff.mp h).1
      rwa [List.length_set] at this
    rw [List.getElem?_set_self hl] at h
    cases h
  · rw [List.getElem?_set_ne hj] at h ⊢
    exact s.at_ i e h
def wipeC (Γ : Ct) : List Nat → Ct
  | [] => Γ
  | v :: vs => (wipeC Γ vs).set v none
theorem Sd.wipe (s : Sd K C G σ Γ) : ∀ vs : List Nat, Sd K C G (L2.wipe σ vs) (wipeC Γ vs)
  | [] => s
  | v :: vs => (s.wipe vs).unput v none
end
theorem wipe_at (σ : L2.St) : ∀ (vs : List Nat) (i : Nat), (L2.wipe σ vs)[i]? = if i ∈ vs ∧ i < σ.length then some none else σ[i]?
  | [], i => by simp [L2.wipe]
  | v :: vs, i => by
    show ((L2.wipe σ vs).set v none)[i]? = _
    by_cases hv : v = i
    · subst hv
      by_cases hl : v < σ.length
      · rw [List.getElem?_set_self (by rw [wipe_length]; exact hl), if_pos ⟨List.mem_cons_self, hl⟩]
      · rw [List.getElem?_eq_none (by rw [List.length_set, wipe_length]; omega), if_neg (fun z => hl z.2), List.getElem?_eq_none (by omega)]
    · rw [List.getElem?_set_ne hv, wipe_at σ vs i]
      by_cases hc : i ∈ vs ∧ i < σ.length
      · rw [if_pos hc, if_pos ⟨List.mem_cons_of_mem _ hc.1, hc.2⟩]
      · rw [if_neg hc, if_neg]
        intro z
        rcases List.mem_cons.mp z.1 with e | m
        · exact hv e.symm
        · exact hc ⟨m, z.2⟩
theorem wipe_back {σ σ' : L2.St} {vs : List Nat} (hl : σ'.length = σ.length) (h : ∀ j, j ∉ vs → σ'[j]? = (L2.wipe σ vs)[j]?) : L2.wipe σ' vs = L2.wipe σ vs := by
  apply List.ext_getElem?
  intro i
  rw [wipe_at σ' vs i]
  by_cases hc : i ∈ vs ∧ i < σ.length
  · rw [if_pos ⟨hc.1, by rw [hl]; exact hc.2⟩, wipe_at, if_pos hc]
  · rw [if_neg (by rw [hl]; exact hc)]
    by_cases hm : i ∈ vs
    · have hi : ¬ i < σ.length := fun z => hc ⟨hm, z⟩
      rw [List.getElem?_eq_none (by omega), List.getElem?_eq_none (by rw [wipe_length]; omega)]
    · exact h i hm
theorem sd_start {K : Fg} {C : Addr} {G : Hp} {N : List Str} {vs : List V} {ds : List Dt} (h : Drs K C G vs ds) : Sd K C G (L2.start N vs) (ds.map some ++ List.replicate (N.length - ds.length) none) := by
  have e := h.len
  refine ⟨by unfold L2.start; simp [e], fun i d hd => ?_⟩
  unfold L2.start
  by_cases hi : i < ds.length
  · rw [List.getElem?_append_left (by simpa using hi), List.getElem?_map] at hd
    obtain ⟨d', h1, h2⟩ := Option.map_eq_some_iff.mp hd
    cases h2
    obtain ⟨v, hv, dv⟩ := h.at_ h1
    refine ⟨v, ?_, dv⟩
    rw [List.getElem?_append_left (by simp [e]; exact hi), List.getElem?_map, hv]
    rfl
  · rw [List.getElem?_append_right (by simp; omega)] at hd
    rw [List.getElem?_replicate] at hd
    split at hd
    · cases hd
    · cases hd

/-! ### what a reading gives -/
section
variable (K : Fg) (C : Addr)
def EvD (te : TE) (Γ : Ct) (d : Dt) : Prop := ∀ (σ : L2.St) (G H : Hp), Sd K C G σ Γ → Same G H → ∀ Q : VK, (∀ v G2 H2, Gr G H G2 H2 → Dr K C G2 v d → Q v H2) → te σ H Q
/-- a new list -/
def EvN (te : TE) (Γ : Ct) (ds : List Dt) : Prop := ∀ (σ : L2.St) (G H : Hp), Sd K C G σ Γ → Same G H → ∀ Q : VK, (∀ p xs G2 H2, Gr G H G2 H2 → G2 p = some (.lst xs) → Drs K C G2 xs ds → Q (.ref p) H2) → te σ H Q
def EvB (tt : TT) (Γ : Ct) (b : Bool) : Prop := ∀ (σ : L2.St) (G H : Hp), Sd K C G σ Γ → Same G H → ∀ Q : Bool → Hp → Prop, (∀ G2 H2, Gr G H G2 H2 → Q b H2) → tt σ H Q
def EvA (ta : TA) (Γ : Ct) (ds : List Dt) : Prop := ∀ (σ : L2.St) (G H : Hp), Sd K C G σ Γ → Same G H → ∀ Q : List V → Hp → Prop, (∀ vs G2 H2, Gr G H G2 H2 → Drs K C G2 vs ds → Q vs H2) → ta σ H Q
/-- what is walked: at each turn the next of ds -/
def WkD (J : It) (ds : List Dt) (Ga : Hp) : Prop := Walk J ds.length (fun H => Same Ga H) fun i H x H' => ∀ G', Same Ga G' → Same G' H → ∃ d G2, ds[i]? = some d ∧ Gr G' H G2 H' ∧ Dr K C G2 x d
/-- .. without a new object -/
def WkS (J : It) (ds : List Dt) (Ga : Hp) : Prop := Walk J ds.length (fun H => Same Ga H) fun i H x H' => H' = H ∧ ∃ d, ds[i]? = some d ∧ Dr K C Ga x d
def EvW (wi : TI) (Γ : Ct) (ds : List Dt) : Prop := ∀ (σ : L2.St) (G H : Hp), Sd K C G σ Γ → Same G H → ∀ R : It → Hp → Prop, (∀ J G2 H2, Gr G H G2 H2 → WkD K C J ds G2 → R J H2) → wi σ H R
def EvS (wi : TI) (Γ : Ct) (ds : List Dt) : Prop := ∀ (σ : L2.St) (G H : Hp), Sd K C G σ Γ → Same G H → ∀ R : It → Hp → Prop, (∀ J G2 H2, Gr G H G2 H2 → WkS K C J ds G2 → R J H2) → wi σ H R
/-- a target: d goes to the slots ts, and Γ becomes Γ' -/
def TgD (g : TG) (ts : List Nat) (d : Dt) (Γ Γ' : Ct) : Prop := ∀ (σ : L2.St) (G H : Hp) (x : V), Sd K C G σ Γ → Same G H → Dr K C G x d → ∀ Q : L2.St → Hp → Prop, (∀ σ', σ'.length = σ.length → Sd K C G σ' Γ' → (∀ j, j ∉ ts → σ'[j]? = σ[j]?) → Q σ' H) → g x σ H Q
/-- a def's promise: R ds d says that from ds it gives d -/
def spD (R : List Dt → Dt → Prop) : Sp := fun vs H Q _ => ∃ G ds d, Same G H ∧ Drs K C G vs ds ∧ R ds d ∧ ∀ v G2 H2, Gr G H G2 H2 → Dr K C G2 v d → Q v H2
end
section
variable {K : Fg} {C : Addr} {Γ Γ' : Ct} {d d1 d2 e : Dt} {ds es : List Dt} {ta tb tc te : TE} {tt tu : TT} {tr : TA} {i j k : Int} {b c : Bool}
theorem WkS.w {J : It} {Ga : Hp} (w : WkS K C J ds Ga) : WkD K C J ds Ga := w.mono (fun _ h => h) fun i H x H' _ _ ⟨e, d, h1, h2⟩ G' s1 s2 => by
  subst e
  exact ⟨d, G', h1, Gr.refl s2, h2.go s1⟩
theorem EvS.w {wi : TI} (h : EvS K C wi Γ ds) : EvW K C wi Γ ds := fun σ G H sd s R q => h σ G H sd s R fun J G2 H2 g w => q J G2 H2 g w.w
theorem EvN.asD (h : EvN K C te Γ ds) : EvD K C te Γ (.lst ds) := fun σ G H sd s Q q => h σ G H sd s Q fun p xs G2 H2 g hp dv => q _ G2 H2 g (.lst (SqL.of hp) dv)
theorem EvD.eq (h : EvD K C te Γ d) (e1 : d = e) : EvD K C te Γ e := e1 ▸ h
theorem EvN.eq (h : EvN K C te Γ ds) (e1 : ds = es) : EvN K C te Γ es := e1 ▸ h
theorem EvB.eq (h : EvB K C tt Γ b) (e1 : b = c) : EvB K C tt Γ c := e1 ▸ h
theorem ed_var {n : Nat} (h : Γ[n]? = some (some d)) : EvD K C (tVar n) Γ d := fun σ G H sd s Q q => by
  obtain ⟨v, h1, h2⟩ := sd.at_ n d h
  exact ⟨v, h1, q v G H (Gr.refl s) h2⟩
theorem ed_int : EvD K C (tC (.int i)) Γ (.int i) := fun _ G H _ s _ q => q _ G H (Gr.refl s) (.int i)
theorem ed_bl : EvD K C (tC (.bl b)) Γ (.bl b) := fun _ G H _ s _ q => q _ G H (Gr.refl s) (.bl b)
theorem ed_c {v : V} (h : ∀ G, Dr K C G v d) : EvD K C (tC v) Γ d := fun _ G H _ s _ q => q _ G H (Gr.refl s) (h G)
theorem ed_op {r : R2} (ha : EvD K C ta Γ d1) (hb : EvD K C tb Γ d2) (hr : ∀ G H x y, Same G H → Dr K C G x d1 → Dr K C G y d2 → ∀ Q : VK, (∀ v G2 H2, Gr G H G2 H2 → Dr K C G2 v d → Q v H2) → r x y H Q) : EvD K C (tOp r ta tb) Γ d := fun σ G H sd s Q q =>
  ha σ G H sd s _ fun x G2 H2 g2 dx => hb σ G2 H2 (sd.go g2.gg) g2.gh _ fun y G3 H3 g3 dy => hr G3 H3 x y g3.gh (dx.go g3.gg) dy Q fun v G4 H4 g4 dv => q v G4 H4 ((g2.trans g3).trans g4) dv
theorem ed_I0 {g : Int → Int → V} (hz : ∀ G, Dr K C G (g i j) d) (ha : EvD K C ta Γ (.int i)) (hb : EvD K C tb Γ (.int j)) : EvD K C (tOp (rI0 g) ta tb) Γ d := ed_op ha hb fun G H x y s dx dy Q q => by
  cases dx
  cases dy
  exact ⟨i, j, rfl, rfl, q _ G H (Gr.refl s) (hz G)⟩
theorem ed_I {cc : Int → Int → Prop} {g : Int → Int → V} (hz : ∀ G, Dr K C G (g i j) d) (ha : EvD K C ta Γ (.int i)) (hb : EvD K C tb Γ (.int j)) (hc : cc i j) : EvD K C (tOp (rI cc g) ta tb) Γ d := ed_op ha hb fun G H x y s dx dy Q q => by
  cases dx
  cases dy
  exact ⟨i, j, rfl, rfl, hc, q _ G H (Gr.refl s) (hz G)⟩
theorem ed_add (ha : EvD K C ta Γ (.int i)) (hb : EvD K C tb Γ (.int j)) : EvD K C (tOp (rI0 fun i j => .int (i + j)) ta tb) Γ (.int (i + j)) := ed_I0 (fun _ => .int _) ha hb
theorem ed_sub (ha : EvD K C ta Γ (.int i)) (hb : EvD K C tb Γ (.int j)) : EvD K C (tOp (rI0 fun i j => .int (i - j)) ta tb) Γ (.int (i - j)) := ed_I0 (fun _ => .int _) ha hb
theorem ed_lt (ha : EvD K C ta Γ (.int i)) (hb : EvD K C tb Γ (.int j)) : EvD K C (tOp (rI0 fun i j => .bl (decide (i < j))) ta tb) Γ (.bl (decide (i < j))) := ed_I0 (fun _ => .bl _) ha hb
theorem ed_le (ha : EvD K C ta Γ (.int i)) (hb : EvD K C tb Γ (.int j)) : EvD K C (tOp (rI0 fun i j => .bl (decide (i ≤ j))) ta tb) Γ (.bl (decide (i ≤ j))) := ed_I0 (fun _ => .bl _) ha hb
theorem ed_gt (ha : EvD K C ta Γ (.int i)) (hb : EvD K C tb Γ (.int j)) : EvD K C (tOp (rI0 fun i j => .bl (decide (j < i))) ta tb) Γ (.bl (decide (j < i))) := ed_I0 (fun _ => .bl _) ha hb
theorem ed_ge (ha : EvD K C ta Γ (.int i)) (hb : EvD K C tb Γ (.int j)) : EvD K C (tOp (rI0 fun i j => .bl (decide (j ≤ i))) ta tb) Γ (.bl (decide (j ≤ i))) := ed_I0 (fun _ => .bl _) ha hb
theorem ed_mul (ha : EvD K C ta Γ (.int i)) (hb : EvD K C tb Γ (.int j)) (hc : CMul i j) : EvD K C (tOp (rI CMul fun i j => .int (i * j)) ta tb) Γ (.int (i * j)) := ed_I (fun _ => .int _) ha hb hc
theorem ed_div (ha : EvD K C ta Γ (.int i)) (hb : EvD K C tb Γ (.int j)) (hc : CDivW i j) : EvD K C (tOp (rI CDivW fun i j => .int (i / j)) ta tb) Γ (.int (i / j)) := ed_I (fun _ => .int _) ha hb hc
theorem ed_mod (ha : EvD K C ta Γ (.int i)) (hb : EvD K C tb Γ (.int j)) (hc : 0 < j) : EvD K C (tOp (rI (fun _ j => 0 < j) fun i j => .int (i % j)) ta tb) Γ (.int (i % j)) := ed_I (cc := fun _ j => 0 < j) (fun _ => .int _) ha hb hc
theorem ed_shl (ha : EvD K C ta Γ (.int i)) (hb : EvD K C tb Γ (.int j)) (hc : CPow i j) : EvD K C (tOp (rI CPow fun i j => .int (i * 2 ^ j.toNat)) ta tb) Γ (.int (i * 2 ^ j.toNat)) := ed_I (fun _ => .int _) ha hb hc
theorem ed_shr (ha : EvD K C ta Γ (.int i)) (hb : EvD K C tb Γ (.int j)) (hc : 0 ≤ j) : EvD K C (tOp (rI (fun _ j => 0 ≤ j) fun i j => .int (i / 2 ^ j.toNat)) ta tb) Γ (.int (i / 2 ^ j.toNat)) := ed_I (cc := fun _ j => 0 ≤ j) (fun _ => .int _) ha hb hc
theorem ed_neg (ha : EvD K C ta Γ (.int i)) : EvD K C (tUn (rU fun i => .int (-i)) ta) Γ (.int (-i)) := fun σ G H sd s Q q => ha σ G H sd s _ fun x G2 H2 g2 dx => by
  cases dx
  exact ⟨i, rfl, q _ G2 H2 g2 (.int _)⟩
theorem ed_bits (ha : EvD K C ta Γ (.int i)) : EvD K C (tBits ta) Γ (.int (Builtin.Int.intBits i : Nat)) := fun σ G H sd s Q q => ha σ G H sd s _ fun x G2 H2 g2 dx => by
  cases dx
  exact ⟨i, rfl, q _ G2 H2 g2 (.int _)⟩
theorem ed_chain {r r' : R2} (ha : EvD K C ta Γ (.int i)) (hb : EvD K C tb Γ (.int j)) (hc : EvD K C tc Γ (.int k))
    (hr : ∀ G H, Same G H → ∀ Q : VK, Q (.bl b) H → r (.int i) (.int j) H Q) (hr' : ∀ G H, Same G H → ∀ Q : VK, Q (.bl c) H → r' (.int j) (.int k) H Q) : EvD K C (tChain r r' ta tb tc) Γ (.bl (b && c)) := fun σ G H sd s Q q =>
  ha σ G H sd s _ fun x G2 H2 g2 dx => hb σ G2 H2 (sd.go g2.gg) g2.gh _ fun y G3 H3 g3 dy => by
    cases dx
    cases dy
    refine hr G3 H3 g3.gh _ ⟨b, rfl, ?_⟩
    have g := g2.trans g3
    cases b with
    | true =>
      show tc σ H3 _
      exact hc σ G3 H3 (sd.go g.gg) g.gh _ fun z G4 H4 g4 dz => by
        cases dz
        exact hr' G4 H4 g4.gh _ (q _ G4 H4 (g.trans g4) (.bl c))
    | false => exact q _ G3 H3 g (.bl false)
theorem ed_chainLe (ha : EvD K C ta Γ (.int i)) (hb : EvD K C tb Γ (.int j)) (hc : EvD K C tc Γ (.int k)) : EvD K C (tChain (rI0 fun i j => .bl (decide (i ≤ j))) (rI0 fun i j => .bl (decide (i ≤ j))) ta tb tc) Γ (.bl (decide (i ≤ j) && decide (j ≤ k))) :=
  ed_chain ha hb hc (fun _ _ _ _ q => ⟨_, _, rfl, rfl, q⟩) fun _ _ _ _ q => ⟨_, _, rfl, rfl, q⟩
theorem ed_chainLtLe (ha : EvD K C ta Γ (.int i)) (hb : EvD K C tb Γ (.int j)) (hc : EvD K C tc Γ (.int k)) : EvD K C (tChain (rI0 fun i j => .bl (decide (i < j))) (rI0 fun i j => .bl (decide (i ≤ j))) ta tb tc) Γ (.bl (decide (i < j) && decide (j ≤ k))) :=
  ed_chain ha hb hc (fun _ _ _ _ q => ⟨_, _, rfl, rfl, q⟩) fun _ _ _ _ q => ⟨_, _, rfl, rfl, q⟩
theorem ed_andV (ha : EvD K C ta Γ (.bl b)) (hb : EvD K C tb Γ (.bl c)) : EvD K C (tAndV ta tb) Γ (.bl (b && c)) := fun σ G H sd s Q q => ha σ G H sd s _ fun x G2 H2 g2 dx => by
  cases dx
  refine ⟨b, rfl, ?_⟩
  cases b with
  | true =>
    show tb σ H2 Q
    exact hb σ G2 H2 (sd.go g2.gg) g2.gh _ fun y G3 H3 g3 dy => q y G3 H3 (g2.trans g3) dy
  | false =>
    show Q (.bl false) H2
    exact q _ G2 H2 g2 (.bl false)
theorem eb_v (ha : EvD K C ta Γ (.bl b)) : EvB K C (tB ta) Γ b := fun σ G H sd s Q q => ha σ G H sd s _ fun x G2 H2 g2 dx => by
  cases dx
  exact ⟨b, rfl, q G2 H2 g2⟩
theorem eb_t (ha : EvD K C ta Γ (.bl b)) : EvB K C (tTest ta) Γ b := fun σ G H sd s Q q => ha σ G H sd s _ fun x G2 H2 g2 dx => by
  cases dx
  exact ⟨b, rfl, q G2 H2 g2⟩
theorem eb_and (ha : EvB K C tt Γ b) (hb : EvB K C tu Γ c) : EvB K C (tAnd tt tu) Γ (b && c) := fun σ G H sd s Q q => ha σ G H sd s _ fun G2 H2 g2 => by
  cases b with
  | true =>
    show tu σ H2 Q
    exact hb σ G2 H2 (sd.go g2.gg) g2.gh _ fun G3 H3 g3 => q G3 H3 (g2.trans g3)
  | false =>
    show Q false H2
    exact q G2 H2 g2
theorem eb_or (ha : EvB K C tt Γ b) (hb : EvB K C tu Γ c) : EvB K C (tOr tt tu) Γ (b || c) := fun σ G H sd s Q q => ha σ G H sd s _ fun G2 H2 g2 => by
  cases b with
  | true =>
    show Q true H2
    exact q G2 H2 g2
  | false =>
    show tu σ H2 Q
    exact hb σ G2 H2 (sd.go g2.gg) g2.gh _ fun G3 H3 g3 => q G3 H3 (g2.trans g3)
theorem eb_not (ha : EvB K C tt Γ b) : EvB K C (tNot tt) Γ (!b) := fun σ G H sd s Q q => ha σ G H sd s _ fun G2 H2 g2 => q G2 H2 g2
theorem ed_if (ht : EvB K C tt Γ b) (ha : b = true → EvD K C ta Γ d) (hb : b = false → EvD K C tb Γ d) : EvD K C (tIf tt ta tb) Γ d := fun σ G H sd s Q q => ht σ G H sd s _ fun G2 H2 g2 => by
  cases b with
  | true =>
    show ta σ H2 Q
    exact ha rfl σ G2 H2 (sd.go g2.gg) g2.gh _ fun y G3 H3 g3 dy => q y G3 H3 (g2.trans g3) dy
  | false =>
    show tb σ H2 Q
    exact hb rfl σ G2 H2 (sd.go g2.gg) g2.gh _ fun y G3 H3 g3 dy => q y G3 H3 (g2.trans g3) dy
theorem ea_nil : EvA K C tNil Γ [] := fun _ G H _ s _ q => q [] G H (Gr.refl s) .nil
theorem ea_cons (ha : EvD K C ta Γ d) (hr : EvA K C tr Γ ds) : EvA K C (tCons ta tr) Γ (d :: ds) := fun σ G H sd s Q q => ha σ G H sd s _ fun x G2 H2 g2 dx =>
  hr σ G2 H2 (sd.go g2.gg) g2.gh _ fun vs G3 H3 g3 dv => q _ G3 H3 (g2.trans g3) (.cons (dx.go g3.gg) dv)
theorem sz_le {n : Nat} (h : n ≤ 1000000) : n ≤ sizeLine := Nat.le_trans h (by decide)
theorem ed_tup (h : EvA K C tr Γ ds) (hl : ds.length ≤ 1000000 := by first | exact (by decide) | simp) : EvD K C (tTup tr) Γ (.tup ds) := fun σ G H sd s Q q => h σ G H sd s _ fun vs G2 H2 g2 dv =>
  ⟨sz_le (by rw [dv.len]; exact hl), fun p hp => q _ (upd G2 p (.tup vs)) _ (g2.trans (Gr.new g2.gh hp)) (.tup (SqT.of upd_same) (dv.go (same_new (g2.gh.free hp))))⟩
theorem en_lst (h : EvA K C tr Γ ds) (hl : ds.length ≤ 1000000 := by first | exact (by decide) | simp) : EvN K C (tLst tr) Γ ds := fun σ G H sd s Q q => h σ G H sd s _ fun vs G2 H2 g2 dv =>
  ⟨sz_le (by rw [dv.len]; exact hl), fun p hp => q p vs (upd G2 p (.lst vs)) _ (g2.trans (Gr.new g2.gh hp)) upd_same (dv.go (same_new (g2.gh.free hp)))⟩
theorem ed_ixT {n : Nat} (hn : ds[n]? = some d) (ha : EvD K C ta Γ (.tup ds)) (hb : EvD K C tb Γ (.int (n : Int))) : EvD K C (tOp (rIxT K) ta tb) Γ d := ed_op ha hb fun G H x y s dx dy Q q => by
  cases dx with
  | tup p r =>
    cases dy
    obtain ⟨v, hv, dv⟩ := r.at_ hn
    exact ⟨_, _, _, v, rfl, rfl, sqt_go s p, atI_nat hv, q v G H (Gr.refl s) dv⟩
theorem ed_ixL {n : Nat} (hn : ds[n]? = some d) (ha : EvD K C ta Γ (.lst ds)) (hb : EvD K C tb Γ (.int (n : Int))) : EvD K C (tOp (rIxL K) ta tb) Γ d := ed_op ha hb fun G H x y s dx dy Q q => by
  cases dx with
  | lst p r =>
    cases dy
    obtain ⟨v, hv, dv⟩ := r.at_ hn
    exact ⟨_, _, _, v, rfl, rfl, s.seq p, atI_nat hv, q v G H (Gr.refl s) dv⟩
/-- list + list -/
theorem en_cat (ha : EvN K C ta Γ ds) (hb : EvN K C tb Γ es) (hl : ds.length + es.length ≤ 1000000) : EvN K C (tOp rCat ta tb) Γ (ds ++ es) := fun σ G H sd s Q q =>
  ha σ G H sd s _ fun p xs G2 H2 g2 hp dx => hb σ G2 H2 (sd.go g2.gg) g2.gh _ fun p' ys G3 H3 g3 hp' dy =>
    ⟨p, p', xs, ys, rfl, rfl, g3.gh _ _ (g3.gg _ _ hp), g3.gh _ _ hp', sz_le (by rw [dx.len, dy.len]; exact hl), fun r hr =>
      q r (xs ++ ys) (upd G3 r (.lst (xs ++ ys))) _ ((g2.trans g3).trans (Gr.new g3.gh hr)) upd_same (((dx.go g3.gg).app dy).go (same_new (g3.gh.free hr)))⟩

/-! built-ins -/
theorem ed_cb {r : List V → Hp → VK → Prop} (h : EvA K C tr Γ ds) (hr : ∀ G H vs, Same G H → Drs K C G vs ds → ∀ Q : VK, (∀ v G2 H2, Gr G H G2 H2 → Dr K C G2 v d → Q v H2) → r vs H Q) : EvD K C (tCB r tr) Γ d := fun σ G H sd s Q q =>
  h σ G H sd s _ fun vs G2 H2 g2 dv => hr G2 H2 vs g2.gh dv Q fun v G3 H3 g3 d3 => q v G3 H3 (g2.trans g3) d3
theorem ed_abs (h : EvD K C ta Γ (.int i)) : EvD K C (tCB (fun xs H Q => ∃ i, xs = [.int i] ∧ Q (.int (if i < 0 then -i else i)) H) (tCons ta tNil)) Γ (.int (if i < 0 then -i else i)) := ed_cb (ea_cons h ea_nil) fun G H vs s dv Q q => by
  cases dv with
  | cons p r =>
    cases p
    cases r
    exact ⟨i, rfl, q _ G H (Gr.refl s) (.int _)⟩
theorem ed_max2 (h : EvD K C ta Γ (.int i)) (h' : EvD K C tb Γ (.int j)) : EvD K C (tCB (fun xs H Q => ∃ i j, xs = [.int i, .int j] ∧ Q (.int (if j > i then j else i)) H) (tCons ta (tCons tb tNil))) Γ (.int (if j > i then j else i)) := ed_cb (ea_cons h (ea_cons h' ea_nil)) fun G H vs s dv Q q => by
  cases dv with
  | cons p r =>
    cases r with
    | cons p' r =>
      cases p
      cases p'
      cases r
      exact ⟨i, j, rfl, q _ G H (Gr.refl s) (.int _)⟩
theorem ed_min2 (h : EvD K C ta Γ (.int i)) (h' : EvD K C tb Γ (.int j)) : EvD K C (tCB (fun xs H Q => ∃ i j, xs = [.int i, .int j] ∧ Q (.int (if j < i then j else i)) H) (tCons ta (tCons tb tNil))) Γ (.int (if j < i then j else i)) := ed_cb (ea_cons h (ea_cons h' ea_nil)) fun G H vs s dv Q q => by
  cases dv with
  | cons p r =>
    cases r with
    | cons p' r =>
      cases p
      cases p'
      cases r
      exact ⟨i, j, rfl, q _ G H (Gr.refl s) (.int _)⟩
theorem ed_len (h : EvD K C ta Γ (.lst ds)) : EvD K C (tCB (fun xs H Q => ∃ p ys, xs = [.ref p] ∧ (SqL K H p ys ∨ SqT K H p ys) ∧ Q (.int ys.length) H) (tCons ta tNil)) Γ (.int (ds.length : Int)) := ed_cb (ea_cons h ea_nil) fun G H vs s dv Q q => by
  cases dv with
  | cons p r =>
    cases r
    cases p with
    | lst p r => exact ⟨_, _, rfl, .inl (s.seq p), q _ G H (Gr.refl s) (by rw [r.len]; exact .int _)⟩
theorem ed_sum {ns : List Int} (h : EvD K C ta Γ (.lst (ns.map Dt.int))) : EvD K C (tCB (rSum K) (tCons ta tNil)) Γ (.int ns.sum) := ed_cb (ea_cons h ea_nil) fun G H vs s dv Q q => by
  cases dv with
  | cons p r =>
    cases r
    cases p with
    | lst p r =>
      rw [drs_ints r] at p
      exact ⟨_, ns, rfl, s.seq p, q _ G H (Gr.refl s) (.int _)⟩
theorem ed_all {ns : List Bool} (h : EvD K C ta Γ (.lst (ns.map Dt.bl))) : EvD K C (tCB (rAll K) (tCons ta tNil)) Γ (.bl (ns.all id)) := ed_cb (ea_cons h ea_nil) fun G H vs s dv Q q => by
  cases dv with
  | cons p r =>
    cases r
    cases p with
    | lst p r =>
      rw [drs_bls r] at p
      exact ⟨_, ns, rfl, s.seq p, q _ G H (Gr.refl s) (.bl _)⟩
theorem sort_one {a b : List Int} (h : a.Perm b) (s : a.Pairwise (· ≤ ·)) : a = b.mergeSort (fun x y => decide (x ≤ y)) := by
  have h2 : (b.mergeSort (fun x y => decide (x ≤ y))).Pairwise (fun x y => x ≤ y) := by
    have := List.pairwise_mergeSort (le := fun (x y : Int) => decide (x ≤ y)) (fun x y z p q => by simp at *; omega) (fun x y => by simp; omega) b
    exact this.imp fun p => of_decide_eq_true p
  exact List.Perm.eq_of_pairwise (fun x y _ _ p q => Int.le_antisymm p q) s h2 (h.trans (List.mergeSort_perm b _).symm)
theorem en_sorted {ns : List Int} (h : EvD K C ta Γ (.lst (ns.map Dt.int))) : EvN K C (tCB (rSortedI K) (tCons ta tNil)) Γ ((ns.mergeSort (fun x y => decide (x ≤ y))).map Dt.int) := fun σ G H sd s Q q =>
  (ea_cons h ea_nil) σ G H sd s _ fun vs G2 H2 g2 dv => by
    cases dv with
    | cons p r =>
      cases r
      cases p with
      | lst p r =>
        rw [drs_ints r] at p
        refine ⟨_, ns, rfl, g2.gh.seq p, fun ns' b perm rising hb => ?_⟩
        rw [sort_one perm rising]
        exact q b _ (upd G2 b _) _ (g2.trans (Gr.new g2.gh hb)) upd_same (ints_drs _)
theorem ed_in0 {ns : List Int} (ha : EvD K C ta Γ (.int i)) (h : EvD K C tb Γ (.lst (ns.map Dt.int))) : EvD K C (tOp (rIn K false) ta tb) Γ (.bl (ns.any fun n => n == i)) := ed_op ha h fun G H x y s dx dy Q q => by
  cases dx
  cases dy with
  | lst p r =>
    rw [drs_ints r] at p
    refine ⟨_, _, rfl, .inl (s.seq p), rfl, ?_, ?_⟩
    · rw [List.all_map]
      exact List.all_eq_true.mpr fun _ _ => rfl
    · refine q _ G H (Gr.refl s) ?_
      have e : inV (.int i) (ns.map V.int) = ns.any fun n => n == i := by
        unfold inV
        rw [List.any_map]
        rfl
      show Dr K C G (.bl (if false = true then _ else inV (.int i) (ns.map V.int))) _
      rw [if_neg Bool.false_ne_true, e]
      exact .bl _

/-! calls, fields -/
theorem ed_call {R : List Dt → Dt → Prop} {E : XK} (h : EvA K C tr Γ ds) (r : R ds d) : EvD K C (tCall (spD K C R) [] E tr) Γ d := fun σ G H sd s Q q =>
  h σ G H sd s _ fun vs G2 H2 g2 dv => ⟨G2, ds, d, g2.gh, by rw [List.append_nil]; exact dv, r, fun v G3 H3 g3 d3 => q v G3 H3 (g2.trans g3) d3⟩
theorem ed_meth {R : List Dt → Dt → Prop} {E : XK} {m : Str} {w h : Int} {f : List Int} (hm : ∀ w h fa, (fF w h fa).lookup m = none) (ha : EvD K C ta Γ (.frm w h f)) (hr : EvA K C tr Γ ds) (r : R (.frm w h f :: ds) d) :
    EvD K C (tMeth C m (spD K C R) [] E ta tr) Γ d := fun σ G H sd s Q q =>
  ha σ G H sd s _ fun x G2 H2 g2 dx => by
    have dx' := dx
    cases dx with
    | frm p p' =>
      refine ⟨_, _, _, rfl, g2.gh _ _ p, hm _ _ _, hr σ G2 H2 (sd.go g2.gg) g2.gh _ fun vs G3 H3 g3 dv => ?_⟩
      exact ⟨G3, _, d, g3.gh, .cons (dx'.go g3.gg) (by rw [List.append_nil]; exact dv), r, fun v G4 H4 g4 d4 => q v G4 H4 ((g2.trans g3).trans g4) d4⟩
/-- what the top has written of the class -/
structure Txt (K : Fg) (C : Addr) : Prop where
  cl : Cls K C
  nW : NoAttr K C "wide"
  nH : NoAttr K C "high"
  nN : NoAttr K C "numbers"
theorem fF_wide (w h : Int) (fa : Addr) : (fF w h fa).lookup ("wide" : Str) = some (.int w) := by rfl
theorem fF_high (w h : Int) (fa : Addr) : (fF w h fa).lookup ("high" : Str) = some (.int h) := by rfl
theorem fF_numbers (w h : Int) (fa : Addr) : (fF w h fa).lookup ("numbers" : Str) = some (.ref fa) := by rfl
theorem ed_wide {w h : Int} {f : List Int} (T : Txt K C) (ha : EvD K C ta Γ (.frm w h f)) : EvD K C (tFld K ta "wide") Γ (.int w) := fun σ G H sd s Q q =>
  ha σ G H sd s _ fun x G2 H2 g2 dx => by
    cases dx with
    | frm p p' => exact ⟨_, _, _, _, _, rfl, g2.gh _ _ p, T.cl, T.nW, fF_wide _ _ _, q _ G2 H2 g2 (.int w)⟩
theorem ed_high {w h : Int} {f : List Int} (T : Txt K C) (ha : EvD K C ta Γ (.frm w h f)) : EvD K C (tFld K ta "high") Γ (.int h) := fun σ G H sd s Q q =>
  ha σ G H sd s _ fun x G2 H2 g2 dx => by
    cases dx with
    | frm p p' => exact ⟨_, _, _, _, _, rfl, g2.gh _ _ p, T.cl, T.nH, fF_high _ _ _, q _ G2 H2 g2 (.int h)⟩
theorem ed_numbers {w h : Int} {f : List Int} (T : Txt K C) (ha : EvD K C ta Γ (.frm w h f)) : EvD K C (tFld K ta "numbers") Γ (.lst (f.map Dt.int)) := fun σ G H sd s Q q =>
  ha σ G H sd s _ fun x G2 H2 g2 dx => by
    cases dx with
    | frm p p' => exact ⟨_, _, _, _, _, rfl, g2.gh _ _ p, T.cl, T.nN, fF_numbers _ _ _, q _ G2 H2 g2 (.lst p' (ints_drs f))⟩

/-! what is walked -/
theorem es_list (h : EvD K C te Γ (.lst ds)) : EvS K C (iList K te) Γ ds := fun σ G H sd s R q => h σ G H sd s _ fun x G2 H2 g2 dx => by
  cases dx with
  | lst p r =>
    refine ⟨_, rfl, ⟨_, g2.gh.seq p⟩, q _ G2 H2 g2 ?_⟩
    show Walk _ _ _ _
    rw [← r.len]
    exact (walk_list (K := K)).mono (fun H' hs => hs.seq p) fun i H' x H'' hi hs y => ⟨y.1, by
      obtain ⟨d, h1, h2⟩ := r.get y.2
      exact ⟨d, h1, h2⟩⟩
theorem es_tup (h : EvD K C te Γ (.tup ds)) : EvS K C (iTup K te) Γ ds := fun σ G H sd s R q => h σ G H sd s _ fun x G2 H2 g2 dx => by
  cases dx with
  | tup p r =>
    refine ⟨_, rfl, ⟨_, sqt_go g2.gh p⟩, q _ G2 H2 g2 ?_⟩
    show Walk _ _ _ _
    rw [← r.len]
    exact (walk_tup (K := K)).mono (fun H' hs => sqt_go hs p) fun i H' x H'' hi hs y => ⟨y.1, by
      obtain ⟨d, h1, h2⟩ := r.get y.2
      exact ⟨d, h1, h2⟩⟩
def rng (lo : Int) (n : Nat) : List Dt := (List.range n).map fun (t : Nat) => Dt.int (lo + (t : Int))
theorem wk_rng {lo : Int} {n : Nat} {G : Hp} : WkS K C (Itr lo n) (rng lo n) G := by
  show Walk _ _ _ _
  have e : (rng lo n).length = n := by simp [rng]
  rw [e]
  refine (walk_range (lo := lo) (n := n)).mono (fun _ _ => trivial) fun i H x H' hi _ y => ⟨y.1, .int (lo + (i : Int)), ?_, ?_⟩
  · unfold rng
    rw [List.getElem?_map, List.getElem?_range hi]
    rfl
  · rw [y.2]
    exact .int _
theorem es_rng1 {n : Int} (h : EvA K C tr Γ [.int n]) (hn : -(2 ^ 62) ≤ n ∧ n < 2 ^ 62) : EvS K C (iRng1 tr) Γ (rng 0 n.toNat) := fun σ G H sd s R q => h σ G H sd s _ fun vs G2 H2 g2 dv => by
  cases dv with
  | cons p r =>
    cases p
    cases r
    exact ⟨n, rfl, hn.1, hn.2, q _ G2 H2 g2 wk_rng⟩
theorem es_rng2 {lo hi : Int} (h : EvA K C tr Γ [.int lo, .int hi]) (hn : -(2 ^ 62) ≤ lo ∧ lo < 2 ^ 62 ∧ -(2 ^ 62) ≤ hi ∧ hi < 2 ^ 62) : EvS K C (iRng2 tr) Γ (rng lo (hi - lo).toNat) := fun σ G H sd s R q => h σ G H sd s _ fun vs G2 H2 g2 dv => by
  cases dv with
  | cons p r =>
    cases r with
    | cons p' r =>
      cases p
      cases p'
      cases r
      exact ⟨lo, hi, rfl, hn, q _ G2 H2 g2 wk_rng⟩
def rngC (lo c : Int) (n : Nat) : List Dt := (List.range n).map fun (t : Nat) => Dt.int (lo + (t : Int) * c)
theorem es_rng3 {lo hi c : Int} {n : Nat} (h : EvA K C tr Γ [.int lo, .int hi, .int c]) (hn : RgC lo hi c n) : EvS K C (iRng3 tr) Γ (rngC lo c n) := fun σ G H sd s R q => h σ G H sd s _ fun vs G2 H2 g2 dv => by
  cases dv with
  | cons p r =>
    cases r with
    | cons p' r =>
      cases r with
      | cons p'' r =>
        cases p
        cases p'
        cases p''
        cases r
        refine ⟨lo, hi, c, n, rfl, hn, q _ G2 H2 g2 ?_⟩
        show Walk _ _ _ _
        have e : (rngC lo c n).length = n := by simp [rngC]
        rw [e]
        refine (walk_rangeC (lo := lo) (c := c) (n := n)).mono (fun _ _ => trivial) fun i H x H' hi _ y => ⟨y.1, .int (lo + (i : Int) * c), ?_, ?_⟩
        · unfold rngC
          rw [List.getElem?_map, List.getElem?_range hi]
          rfl
        · rw [y.2]
          exact .int _
theorem fits {i : Int} (h : -(2 ^ 62) ≤ i) (h' : i ≤ 2 ^ 62) : Builtin.Range.rangeFitsLong i = true := by
  unfold Builtin.Range.rangeFitsLong
  rw [Bool.and_eq_true]
  exact ⟨decide_eq_true (by omega), decide_eq_true (by omega)⟩
theorem rg_two {n : Nat} (h : n ≤ 1000000) : RgC 0 ((2 * n : Nat) : Int) 2 n := by
  have e : Builtin.Range.rangeSize 0 ((2 * n : Nat) : Int) 2 = (n : Int) := by
    unfold Builtin.Range.rangeSize
    rw [if_pos (by decide)]
    split <;> omega
  refine ⟨by decide, by decide, ?_, e⟩
  unfold Builtin.Range.small
  rw [e, fits (by decide) (by decide), fits (by omega) (by omega), fits (by decide) (by decide), fits (by omega) (by omega)]
  rw [if_pos (by decide), fits (by omega) (by omega), Bool.or_true]
  rfl
theorem rg_three {n : Nat} (h : n ≤ 1000000) : RgC 0 ((3 * n : Nat) : Int) 3 n := by
  have e : Builtin.Range.rangeSize 0 ((3 * n : Nat) : Int) 3 = (n : Int) := by
    unfold Builtin.Range.rangeSize
    rw [if_pos (by decide)]
    split <;> omega
  refine ⟨by decide, by decide, ?_, e⟩
  unfold Builtin.Range.small
  rw [e, fits (by decide) (by decide), fits (by omega) (by omega), fits (by decide) (by decide), fits (by omega) (by omega)]
  rw [if_pos (by decide), fits (by omega) (by omega), Bool.or_true]
  rfl
theorem int_at {l : List Int} {i : Nat} (h : i < l.length) : (l.map Dt.int)[i]? = some (.int (l.getD i 0)) := by
  rw [List.getElem?_map, List.getElem?_eq_getElem h, List.getD_eq_getElem?_getD, List.getElem?_eq_getElem h]
  rfl
theorem take_one {α : Type} {l : List α} {i : Nat} {x : α} (h : l[i]? = some x) : l.take (i + 1) = l.take i ++ [x] := by
  rw [List.take_add_one, h]
  rfl
theorem ew_zip {xs ys : List Dt} (h : EvA K C tr Γ [.lst xs, .lst ys]) : EvW K C (iZip K tr) Γ ((xs.zip ys).map fun p => Dt.tup [p.1, p.2]) := fun σ G H sd s R q => h σ G H sd s _ fun vs G2 H2 g2 dv => by
  cases dv with
  | cons p r =>
    cases r with
    | cons p' r =>
      cases r
      cases p with
      | lst p r =>
        cases p' with
        | lst p' r' =>
          refine ⟨_, _, _, _, rfl, g2.gh.seq p, g2.gh.seq p', q _ G2 H2 g2 ?_⟩
          show Walk _ _ _ _
          refine (Walk.mono (walk_zip (K := K) (a := _) (b := _) (n := ((xs.zip ys).map fun p => Dt.tup [p.1, p.2]).length) (by rw [List.length_map, List.length_zip, ← r.len, ← r'.len])) (fun H' (hs : Same G2 H') => ⟨hs.seq p, hs.seq p'⟩) fun i H' v H'' hi hs y G' s1 s2 => ?_)
          obtain ⟨t, x, z, rfl, ht, rfl, hx, hz⟩ := y
          obtain ⟨d, h1, h2⟩ := r.get hx
          obtain ⟨d', h1', h2'⟩ := r'.get hz
          refine ⟨.tup [d, d'], upd G' t (.tup [x, z]), ?_, Gr.new s2 ht, .tup (SqT.of upd_same) ?_⟩
          · have ez : (xs.zip ys)[i]? = some (d, d') := List.getElem?_zip_eq_some.mpr ⟨h1, h1'⟩
            rw [List.getElem?_map, ez]
            rfl
          · have n1 := same_new (o := .tup [x, z]) (s2.free ht)
            exact .cons ((h2.go s1).go n1) (.cons ((h2'.go s1).go n1) .nil)

/-! targets -/
theorem tg_name {n : Nat} : TgD K C (gName n) [n] d Γ (Γ.set n (some d)) := fun σ G H x sd s dx Q q => q _ (by simp) (sd.put n dx) fun j hj => by
  rw [List.getElem?_set_ne (fun e => hj (by rw [e]; exact List.mem_singleton.mpr rfl))]
theorem tg_two {n m : Nat} : TgD K C (gTup K 2 (gCons (gName n) (gCons (gName m) gNil))) [n, m] (.tup [d1, d2]) Γ ((Γ.set n (some d1)).set m (some d2)) := fun σ G H x sd s dx Q q => by
  cases dx with
  | tup p r =>
    cases r with
    | cons a r =>
      cases r with
      | cons a' r =>
        cases r
        refine ⟨_, _, rfl, sqt_go s p, rfl, _, _, rfl, _, _, rfl, rfl, q _ (by simp) ((sd.put n a).put m a') fun j hj => ?_⟩
        rw [List.getElem?_set_ne (fun e => hj (by simp [e])), List.getElem?_set_ne (fun e => hj (by simp [e]))]
theorem tg_three {n m l : Nat} {d3 : Dt} : TgD K C (gTup K 3 (gCons (gName n) (gCons (gName m) (gCons (gName l) gNil)))) [n, m, l] (.tup [d1, d2, d3]) Γ (((Γ.set n (some d1)).set m (some d2)).set l (some d3)) := fun σ G H x sd s dx Q q => by
  cases dx with
  | tup p r =>
    cases r with
    | cons a r =>
      cases r with
      | cons a' r =>
        cases r with
        | cons a'' r =>
          cases r
          refine ⟨_, _, rfl, sqt_go s p, rfl, _, _, rfl, _, _, rfl, _, _, rfl, rfl, q _ (by simp) (((sd.put n a).put m a').put l a'') fun j hj => ?_⟩
          rw [List.getElem?_set_ne (fun e => hj (by simp [e])), List.getElem?_set_ne (fun e => hj (by simp [e])), List.getElem?_set_ne (fun e => hj (by simp [e]))]

/-! a comprehension without a test -/
theorem en_lc {α : Type} {wi : TI} {g : TG} {vs : List Nat} (l : List α) (mk out : α → Dt) (h : EvW K C wi Γ (l.map mk)) (hl : l.length ≤ 1000000) (Γ2 : α → Ct) (ht : ∀ z, z ∈ l → TgD K C g vs (mk z) (wipeC Γ vs) (Γ2 z))
    (he : ∀ z, z ∈ l → EvD K C te (Γ2 z) (out z)) : EvN K C (tLc wi g tYes te vs) Γ (l.map out) := fun σ G H sd s Q q => h σ G H sd s _ fun J G1 H1 g1 w => fun Da hD => by
  have e1 : (l.map mk).length = l.length := List.length_map ..
  refine lc_it w (fun i H' => ∃ G' xs, Gr G1 H1 G' H' ∧ G' Da = none ∧ H' Da = some (.lst xs) ∧ Drs K C G' xs ((l.map out).take i))
    ⟨G1, [], Gr.aside g1.gh hD, g1.gh.free hD, upd_same, .nil⟩ (fun i H' _ ⟨G', xs, gr, _⟩ => gr.gg.trans gr.gh) ?_ ?_
  · rintro i x H' H2 hi ⟨G', xs, gr, gn, hx, dx⟩ y
    rw [e1] at hi
    obtain ⟨d, G2, hd, g2, dv⟩ := y G' gr.gg gr.gh
    obtain ⟨n2, hx2⟩ := g2.out gn hx
    have hz : l[i]? = some l[i] := List.getElem?_eq_getElem hi
    rw [List.getElem?_map, hz] at hd
    cases Option.some.inj hd
    have gr2 := gr.trans g2
    refine ht l[i] (List.getElem_mem hi) (L2.wipe σ vs) G2 H2 x ((sd.go ((g1.trans gr2).gg)).wipe vs) g2.gh dv _ fun σ2 hlen sd2 hj => ?_
    refine ⟨wipe_back (by rw [hlen, wipe_length]) hj, ?_⟩
    unfold tYes
    dsimp only
    rw [if_pos rfl]
    refine he l[i] (List.getElem_mem hi) σ2 G2 H2 sd2 g2.gh _ fun v G3 H3 g3 dv3 => ?_
    obtain ⟨n3, hx3⟩ := g3.out n2 hx2
    have gr3 := gr2.trans g3
    refine ⟨xs, hx3, ?_, G3, xs ++ [v], gr3.mut hD n3, n3, upd_same, ?_⟩
    · rw [dx.len, List.length_take, List.length_map]
      exact Nat.lt_of_lt_of_le (Nat.lt_of_le_of_lt (Nat.min_le_left _ _) hi) (sz_le hl)
    · have e2 : (l.map out).take (i + 1) = (l.map out).take i ++ [out l[i]] := by
        rw [List.take_add_one, List.getElem?_map, hz]
        rfl
      rw [e2]
      exact ((dx.go g2.gg).go g3.gg).app (.one dv3)
  · rintro H' ⟨G', xs, gr, gn, hx, dx⟩
    rw [e1, List.take_of_length_le (by rw [List.length_map]; exact Nat.le_refl _)] at dx
    exact q Da xs (upd G' Da (.lst xs)) H' (g1.trans (gr.show_ hD gn hx)) upd_same (dx.go (same_new gn))

/-! ### statements: M tells of a list that is kept aside, at a slot, and filled -/
abbrev Mt := Option (Nat × List Dt)
def Aside (K : Fg) (C : Addr) (H0 : Hp) (σ : L2.St) (G H : Hp) : Mt → Prop
  | none => True
  | some (j, ds) => ∃ m xs, σ[j]? = some (some (.ref m)) ∧ H0 m = none ∧ G m = none ∧ H m = some (.lst xs) ∧ Drs K C G xs ds
structure At (K : Fg) (C : Addr) (G0 H0 : Hp) (Γ : Ct) (M : Mt) (σ : L2.St) (G H : Hp) : Prop where
  gr : Gr G0 H0 G H
  sd : Sd K C G σ Γ
  md : Aside K C H0 σ G H M
def mOk : Mt → List Nat → Bool
  | none, _ => true
  | some (j, _), ts => !ts.contains j
theorem Aside.go {H0 : Hp} {σ σ' : L2.St} {G H G1 H1 : Hp} {ts : List Nat} : ∀ {M : Mt}, Aside K C H0 σ G H M → Gr G H G1 H1 → mOk M ts = true → (∀ j, j ∉ ts → σ'[j]? = σ[j]?) → Aside K C H0 σ' G1 H1 M
  | none, _, _, _, _ => trivial
  | some (j, ds), ⟨m, xs, h1, h2, h3, h4, h5⟩, g, hm, hs => by
    obtain ⟨g1, g2⟩ := g.out h3 h4
    have hj : j ∉ ts := fun z => by
      have q : (!ts.contains j) = true := hm
      rw [List.contains_iff_mem.mpr z] at q
      cases q
    exact ⟨m, xs, (hs j hj).trans h1, h2, g1, g2, h5.go g.gg⟩
theorem At.grow {G0 H0 : Hp} {M : Mt} {σ : L2.St} {G H G1 H1 : Hp} (a : At K C G0 H0 Γ M σ G H) (g : Gr G H G1 H1) : At K C G0 H0 Γ M σ G1 H1 :=
  ⟨a.gr.trans g, a.sd.go g.gg, a.md.go (ts := []) g (by
    cases M with
    | none => rfl
    | some p => rfl) fun _ _ => rfl⟩
/-- from what is told of slots, and of the list aside, the statements reach what D wants -/
def OkS (K : Fg) (C : Addr) (G0 H0 : Hp) (D : Ends) (t : TS) (Γ : Ct) (M : Mt) : Prop := ∀ σ G H, At K C G0 H0 Γ M σ G H → t D σ H
/-- what comes next is reached -/
def Nx (K : Fg) (C : Addr) (G0 H0 : Hp) (P : L2.St → Hp → Prop) (Γ : Ct) (M : Mt) : Prop := ∀ σ G H, At K C G0 H0 Γ M σ G H → P σ H
/-- the def's value is d -/
def Rt (K : Fg) (C : Addr) (G0 H0 : Hp) (Q : VK) (d : Dt) : Prop := ∀ v G H, Gr G0 H0 G H → Dr K C G v d → Q v H
section
variable {G0 H0 : Hp} {D : Ends} {M : Mt} {tz ts tw : TS} {g : TG} {n : Nat} {l : List Nat}
theorem q_seq (h : OkS K C G0 H0 { D with nx := tz D } ts Γ M) : OkS K C G0 H0 D (tSeq ts tz) Γ M := h
theorem nx_ok (h : OkS K C G0 H0 D ts Γ M) : Nx K C G0 H0 (ts D) Γ M := h
theorem s_next (h : Nx K C G0 H0 D.nx Γ M) : OkS K C G0 H0 D tNext Γ M := h
theorem s_to (h : EvD K C te Γ d) (hg : TgD K C g l d Γ Γ') (hm : mOk M l = true) (k : Nx K C G0 H0 D.nx Γ' M) : OkS K C G0 H0 D (tAsg te g) Γ M := fun σ G H a =>
  h σ G H a.sd a.gr.gh _ fun v G1 H1 g1 dv => hg σ G1 H1 v (a.sd.go g1.gg) g1.gh dv _ fun σ' _ sd' hs => k σ' G1 H1 ⟨a.gr.trans g1, sd', a.md.go g1 hm hs⟩
theorem q_to (h : EvD K C te Γ d) (hg : TgD K C g l d Γ Γ') (hm : mOk M l = true) (k : OkS K C G0 H0 D tz Γ' M) : OkS K C G0 H0 D (tSeq (tAsg te g) tz) Γ M := s_to (D := { D with nx := tz D }) h hg hm k
theorem s_set (h : EvD K C te Γ d) (hm : mOk M [n] = true) (k : Nx K C G0 H0 D.nx (Γ.set n (some d)) M) : OkS K C G0 H0 D (tAsg te (gName n)) Γ M := s_to h tg_name hm k
theorem q_set (h : EvD K C te Γ d) (hm : mOk M [n] = true) (k : OkS K C G0 H0 D tz (Γ.set n (some d)) M) : OkS K C G0 H0 D (tSeq (tAsg te (gName n)) tz) Γ M := s_set (D := { D with nx := tz D }) h hm k
theorem s_two {m : Nat} (h : EvA K C tr Γ [d1, d2]) (hm : mOk M [n, m] = true) (k : Nx K C G0 H0 D.nx ((Γ.set n (some d1)).set m (some d2)) M) : OkS K C G0 H0 D (tPar n m tr) Γ M := fun σ G H a =>
  h σ G H a.sd a.gr.gh _ fun vs G1 H1 g1 dv => by
    cases dv with
    | cons p r =>
      cases r with
      | cons p' r =>
        cases r
        refine ⟨_, _, rfl, k _ G1 H1 ⟨a.gr.trans g1, ((a.sd.go g1.gg).put n p).put m p', a.md.go g1 hm fun j hj => ?_⟩⟩
        rw [List.getElem?_set_ne (fun e => hj (by simp [e])), List.getElem?_set_ne (fun e => hj (by simp [e]))]
theorem q_two {m : Nat} (h : EvA K C tr Γ [d1, d2]) (hm : mOk M [n, m] = true) (k : OkS K C G0 H0 D tz ((Γ.set n (some d1)).set m (some d2)) M) : OkS K C G0 H0 D (tSeq (tPar n m tr) tz) Γ M := s_two (D := { D with nx := tz D }) h hm k
theorem s_aug (hx : Γ[n]? = some (some (.int i))) (h : EvD K C te Γ (.int j)) (hm : mOk M [n] = true) (k : Nx K C G0 H0 D.nx (Γ.set n (some (.int (i + j)))) M) : OkS K C G0 H0 D (tAug n te (ipI fun i j => i + j)) Γ M := fun σ G H a => by
  obtain ⟨v, h1, h2⟩ := a.sd.at_ n _ hx
  cases h2
  refine ⟨_, h1, h σ G H a.sd a.gr.gh _ fun v G1 H1 g1 dv => ?_⟩
  cases dv
  refine ⟨i, j, rfl, rfl, k _ G1 H1 ⟨a.gr.trans g1, (a.sd.go g1.gg).put n (.int _), a.md.go g1 hm fun j hj => ?_⟩⟩
  rw [List.getElem?_set_ne (fun e => hj (by simp [e]))]
theorem q_aug (hx : Γ[n]? = some (some (.int i))) (h : EvD K C te Γ (.int j)) (hm : mOk M [n] = true) (k : OkS K C G0 H0 D tz (Γ.set n (some (.int (i + j)))) M) : OkS K C G0 H0 D (tSeq (tAug n te (ipI fun i j => i + j)) tz) Γ M := s_aug (D := { D with nx := tz D }) hx h hm k
theorem s_ret (h : EvD K C te Γ d) (k : Rt K C G0 H0 D.rt d) : OkS K C G0 H0 D (tRet te) Γ M := fun σ G H a => h σ G H a.sd a.gr.gh _ fun v G1 H1 g1 dv => k v G1 H1 (a.gr.trans g1) dv
theorem s_retM (k : Rt K C G0 H0 D.rt (.lst ds)) : OkS K C G0 H0 D (tRet (tVar n)) Γ (some (n, ds)) := fun σ G H a => by
  obtain ⟨m, xs, h1, h2, h3, h4, h5⟩ := a.md
  exact ⟨_, h1, k _ (upd G m (.lst xs)) H (a.gr.show_ h2 h3 h4) (.lst (SqL.of upd_same) (h5.go (same_new h3)))⟩
theorem s_if (ht : EvB K C tt Γ b) (h1 : b = true → OkS K C G0 H0 D ts Γ M) (h2 : b = false → OkS K C G0 H0 D tw Γ M) : OkS K C G0 H0 D (tIfS tt ts tw) Γ M := fun σ G H a => ht σ G H a.sd a.gr.gh _ fun G1 H1 g1 => by
  cases b with
  | true =>
    show ts D σ H1
    exact h1 rfl σ G1 H1 (a.grow g1)
  | false =>
    show tw D σ H1
    exact h2 rfl σ G1 H1 (a.grow g1)
theorem q_if (ht : EvB K C tt Γ b) (h1 : b = true → OkS K C G0 H0 { D with nx := tz D } ts Γ M) (h2 : b = false → OkS K C G0 H0 { D with nx := tz D } tw Γ M) : OkS K C G0 H0 D (tSeq (tIfS tt ts tw) tz) Γ M := s_if (D := { D with nx := tz D }) ht h1 h2
/-- an if without an else -/
theorem q_when (ht : EvB K C tt Γ b) (h1 : b = true → OkS K C G0 H0 { D with nx := tz D } ts Γ M) (h2 : b = false → OkS K C G0 H0 D tz Γ M) : OkS K C G0 H0 D (tSeq (tIfS tt ts tNext) tz) Γ M := q_if ht h1 fun e => h2 e
/-- a list aside is made -/
theorem q_new (h : EvA K C tr Γ ds) (k : OkS K C G0 H0 D tz (Γ.set n none) (some (n, ds))) (hn : n < Γ.length) (hl : ds.length ≤ 1000000 := by first | exact (by decide) | simp) : OkS K C G0 H0 D (tSeq (tAsg (tLst tr) (gName n)) tz) Γ none := fun σ G H a =>
  h σ G H a.sd a.gr.gh _ fun vs G1 H1 g1 dv => ⟨sz_le (by rw [dv.len]; exact hl), fun p hp => by
    have g := a.gr.trans g1
    refine k _ G1 (upd H1 p (.lst vs)) ⟨g.trans (Gr.aside g1.gh hp), (a.sd.go g1.gg).unput n _, p, vs, ?_, g.hh.free hp, g1.gh.free hp, upd_same, dv⟩
    exact List.getElem?_set_self (by rw [a.sd.len]; exact hn)⟩
theorem s_app (h : EvD K C te Γ d) (hl : ds.length < 1000000) (k : Nx K C G0 H0 D.nx Γ (some (n, ds ++ [d]))) : OkS K C G0 H0 D (tDrop (tBM K "list" rAppend (tVar n) (tCons te tNil))) Γ (some (n, ds)) := fun σ G H a => by
  obtain ⟨m, xs, h1, h2, h3, h4, h5⟩ := a.md
  refine ⟨_, h1, .inl ⟨rfl, _, SqL.of h4⟩, h σ G H a.sd a.gr.gh _ fun v G1 H1 g1 dv => ?_⟩
  obtain ⟨n1, x1⟩ := g1.out h3 h4
  refine ⟨m, xs, v, rfl, rfl, x1, Nat.lt_of_lt_of_le (by rw [h5.len]; exact hl) (sz_le (Nat.le_refl _)), k σ G1 _ ⟨(a.gr.trans g1).mut h2 n1, a.sd.go g1.gg, m, _, h1, h2, n1, upd_same, (h5.go g1.gg).app (.one dv)⟩⟩
theorem q_app (h : EvD K C te Γ d) (hl : ds.length < 1000000) (k : OkS K C G0 H0 D tz Γ (some (n, ds ++ [d]))) : OkS K C G0 H0 D (tSeq (tDrop (tBM K "list" rAppend (tVar n) (tCons te tNil))) tz) Γ (some (n, ds)) := s_app (D := { D with nx := tz D }) h hl k
theorem s_ext (h : EvN K C te Γ es) (hl : ds.length + es.length ≤ 1000000) (k : Nx K C G0 H0 D.nx Γ (some (n, ds ++ es))) : OkS K C G0 H0 D (tDrop (tBM K "list" rExtend (tVar n) (tCons te tNil))) Γ (some (n, ds)) := fun σ G H a => by
  obtain ⟨m, xs, h1, h2, h3, h4, h5⟩ := a.md
  refine ⟨_, h1, .inl ⟨rfl, _, SqL.of h4⟩, h σ G H a.sd a.gr.gh _ fun p ys G1 H1 g1 hp dv => ?_⟩
  obtain ⟨n1, x1⟩ := g1.out h3 h4
  refine ⟨m, p, xs, ys, rfl, rfl, x1, g1.gh _ _ hp, sz_le (by rw [h5.len, dv.len]; exact hl), k σ G1 _ ⟨(a.gr.trans g1).mut h2 n1, a.sd.go g1.gg, m, _, h1, h2, n1, upd_same, (h5.go g1.gg).app dv⟩⟩
theorem q_ext (h : EvN K C te Γ es) (hl : ds.length + es.length ≤ 1000000) (k : OkS K C G0 H0 D tz Γ (some (n, ds ++ es))) : OkS K C G0 H0 D (tSeq (tDrop (tBM K "list" rExtend (tVar n) (tCons te tNil))) tz) Γ (some (n, ds)) := s_ext (D := { D with nx := tz D }) h hl k
theorem gr_base {Ga Ha G H : Hp} (a : Gr G0 H0 Ga Ha) (b : Gr Ga H0 G H) : Gr G0 H0 G H := ⟨b.hh, a.gg.trans b.gg, b.gh, fun x n => by
  rcases b.fr x n with m | m
  · exact a.fr x m
  · exact Or.inr m⟩
/-- a for: P tells at each turn what the slots hold -/
theorem s_for {wi : TI} (h : EvS K C wi Γ ds) (P : Nat → Ct → Mt → Prop) (h0 : P 0 Γ M)
    (hb : ∀ (Ga : Hp) (i : Nat) (d : Dt) (Γ1 : Ct) (M1 : Mt) (N : L2.St → Hp → Prop), (∀ e, Rt K C G0 H0 D.rt e → Rt K C Ga H0 D.rt e) → ds[i]? = some d → P i Γ1 M1 → (∀ Γ2 M2, P (i + 1) Γ2 M2 → Nx K C Ga H0 N Γ2 M2) →
      ∃ l Γ3, TgD K C g l d Γ1 Γ3 ∧ mOk M1 l = true ∧ OkS K C Ga H0 { D with nx := N, ct := N, bk := D.nx } ts Γ3 M1)
    (hd : ∀ Γ1 M1, P ds.length Γ1 M1 → Nx K C G0 H0 D.nx Γ1 M1) : OkS K C G0 H0 D (tFor wi g ts) Γ M := fun σ G H a => h σ G H a.sd a.gr.gh _ fun J Ga Ha ga w => by
  have a1 := a.grow ga
  have hr : ∀ e, Rt K C G0 H0 D.rt e → Rt K C Ga H0 D.rt e := fun e r v G H g dv => r v G H (gr_base a1.gr g) dv
  have a2 : At K C Ga H0 Γ M σ Ga Ha := ⟨⟨a1.gr.hh, Same.refl _, a1.gr.gh, fun _ n => Or.inl n⟩, a1.sd, a1.md⟩
  refine for_it w (fun i σ' H' => ∃ Γ1 M1 G', P i Γ1 M1 ∧ At K C Ga H0 Γ1 M1 σ' G' H') ⟨Γ, M, Ga, h0, a2⟩ (fun i σ' H' _ ⟨_, _, G', _, a'⟩ => a'.gr.gg.trans a'.gr.gh) ?_ ?_
  · rintro i x σ' H' H2 hi ⟨Γ1, M1, G', p, a'⟩ ⟨rfl, d, hd1, dx⟩
    obtain ⟨l, Γ3, hg, hm, ok⟩ := hb Ga i d Γ1 M1 (fun σ2 H2 => ∃ Γ1 M1 G', P (i + 1) Γ1 M1 ∧ At K C Ga H0 Γ1 M1 σ2 G' H2) hr hd1 p (fun Γ2 M2 p2 σ2 G2 H2 a2 => ⟨Γ2, M2, G2, p2, a2⟩)
    refine hg σ' G' _ x a'.sd a'.gr.gh (dx.go a'.gr.gg) _ fun σ2 _ sd2 hs => ?_
    exact ok σ2 G' _ ⟨a'.gr, sd2, a'.md.go (Gr.refl a'.gr.gh) hm hs⟩
  · rintro σ' H' ⟨Γ1, M1, G', p, a'⟩
    exact hd Γ1 M1 p σ' G' H' ⟨gr_base a1.gr a'.gr, a'.sd, a'.md⟩
theorem q_for {wi : TI} (h : EvS K C wi Γ ds) (P : Nat → Ct → Mt → Prop) (h0 : P 0 Γ M)
    (hb : ∀ (Ga : Hp) (i : Nat) (d : Dt) (Γ1 : Ct) (M1 : Mt) (N : L2.St → Hp → Prop), (∀ e, Rt K C G0 H0 D.rt e → Rt K C Ga H0 D.rt e) → ds[i]? = some d → P i Γ1 M1 → (∀ Γ2 M2, P (i + 1) Γ2 M2 → Nx K C Ga H0 N Γ2 M2) →
      ∃ l Γ3, TgD K C g l d Γ1 Γ3 ∧ mOk M1 l = true ∧ OkS K C Ga H0 { D with nx := N, ct := N, bk := tz D } ts Γ3 M1)
    (hd : ∀ Γ1 M1, P ds.length Γ1 M1 → OkS K C G0 H0 D tz Γ1 M1) : OkS K C G0 H0 D (tSeq (tFor wi g ts) tz) Γ M := s_for (D := { D with nx := tz D }) h P h0 hb hd
/-- a for whose turns are told by one state each -/
theorem q_forS {wi : TI} (h : EvS K C wi Γ ds) (Γs : Nat → Ct) (Ms : Nat → Mt) (h0 : Γs 0 = Γ) (h0' : Ms 0 = M)
    (hb : ∀ (Ga : Hp) (i : Nat) (d : Dt) (N : L2.St → Hp → Prop), (∀ e, Rt K C G0 H0 D.rt e → Rt K C Ga H0 D.rt e) → ds[i]? = some d → i < ds.length → Nx K C Ga H0 N (Γs (i + 1)) (Ms (i + 1)) →
      ∃ l Γ3, TgD K C g l d (Γs i) Γ3 ∧ mOk (Ms i) l = true ∧ OkS K C Ga H0 { D with nx := N, ct := N, bk := tz D } ts Γ3 (Ms i))
    (hd : OkS K C G0 H0 D tz (Γs ds.length) (Ms ds.length)) : OkS K C G0 H0 D (tSeq (tFor wi g ts) tz) Γ M :=
  q_for h (fun i Γ1 M1 => Γ1 = Γs i ∧ M1 = Ms i) ⟨h0.symm, h0'.symm⟩ (fun Ga i d Γ1 M1 N hr hi p hn => by
    obtain ⟨rfl, rfl⟩ := p
    exact hb Ga i d N hr hi (List.getElem?_eq_some_iff.mp hi).1 (hn _ _ ⟨rfl, rfl⟩)) (fun Γ1 M1 p => by
    obtain ⟨rfl, rfl⟩ := p
    exact hd)
theorem s_while (I : Nat → Ct → Mt → Prop) (m0 : Nat) (h0 : I m0 Γ M)
    (hb : ∀ m Γ1 M1, I m Γ1 M1 → ∃ b, EvB K C tt Γ1 b ∧ (b = true → ∀ N : L2.St → Hp → Prop, (∀ m' Γ2 M2, m' < m → I m' Γ2 M2 → Nx K C G0 H0 N Γ2 M2) → OkS K C G0 H0 { D with nx := N, ct := N, bk := D.nx } ts Γ1 M1) ∧ (b = false → Nx K C G0 H0 D.nx Γ1 M1)) :
    OkS K C G0 H0 D (tWhile tt ts) Γ M := fun σ G H a =>
  ⟨fun m σ' H' => ∃ Γ1 M1 G', I m Γ1 M1 ∧ At K C G0 H0 Γ1 M1 σ' G' H', ⟨m0, Γ, M, G, h0, a⟩, fun m σ' H' ⟨Γ1, M1, G', p, a'⟩ => by
    obtain ⟨b, e, h1, h2⟩ := hb m Γ1 M1 p
    refine e σ' G' H' a'.sd a'.gr.gh _ fun G2 H2 g2 => ?_
    cases b with
    | true =>
      rw [if_pos rfl]
      exact ⟨fun σ3 H3 => ∃ m', m' < m ∧ ∃ Γ1 M1 G', I m' Γ1 M1 ∧ At K C G0 H0 Γ1 M1 σ3 G' H3, fun _ _ q => q, h1 rfl _ (fun m' Γ2 M2 hm p2 σ3 G3 H3 a3 => ⟨m', hm, Γ2, M2, G3, p2, a3⟩) σ' G2 H2 (a'.grow g2)⟩
    | false =>
      rw [if_neg Bool.false_ne_true]
      exact h2 rfl σ' G2 H2 (a'.grow g2)⟩
theorem q_while (I : Nat → Ct → Mt → Prop) (m0 : Nat) (h0 : I m0 Γ M)
    (hb : ∀ m Γ1 M1, I m Γ1 M1 → ∃ b, EvB K C tt Γ1 b ∧ (b = true → ∀ N : L2.St → Hp → Prop, (∀ m' Γ2 M2, m' < m → I m' Γ2 M2 → Nx K C G0 H0 N Γ2 M2) → OkS K C G0 H0 { D with nx := N, ct := N, bk := tz D } ts Γ1 M1) ∧ (b = false → OkS K C G0 H0 D tz Γ1 M1)) :
    OkS K C G0 H0 D (tSeq (tWhile tt ts) tz) Γ M := s_while (D := { D with nx := tz D }) I m0 h0 hb
end
end
/-- a def keeps its promise -/
theorem okD {P : Program} {w : World} {K : Fg} {C : Addr} {mg : Str → Option Value} {base : Heap} {x qual : Str} {st : Stmt} {f : Addr} {fd : FuncData} {N ps : List Str} {k : Nat} {R : List Dt → Dt → Prop} (F : Fun K x qual st f fd) (S : FnScope N ps (defScope st))
    (len : ∀ ds d, R ds d → ds.length = ps.length)
    (body : ∀ (cdv : Value) (A : Around) (outer : List Env) (s : Shared) (H : Hp) (E : XK), Room k (A.deeper (envOfC qual (defScope st) s.heap.objs.size f cdv)) →
      ∃ t, PSs (cxOf CX0 P w K mg base N qual (defScope st) f cdv A outer s H E).nox (defBody st) t ∧
        ∀ ds d, R ds d → ∀ (G0 : Hp) (Q : VK), Rt K C G0 H Q d → OkS K C G0 H { nx := fun _ H' => Q .non H', rt := Q } t (ds.map some ++ List.replicate (N.length - ds.length) none) none) :
    FnOk P w K mg base CX0 (k + 1) f fd ps (spD K C R) := by
  refine F.ok S (fun vs H Q E h => ?_) (fun cdv A outer s H vs Q E hr h => ?_)
  · obtain ⟨G, ds, d, _, dv, r, _⟩ := h
    rw [dv.len, len ds d r]
  · obtain ⟨G, ds, d, sm, dv, r, q⟩ := h
    obtain ⟨t, h1, h2⟩ := body cdv A outer s H E hr
    refine ⟨t, h1, h2 ds d r G Q (fun v G2 H2 g dv2 => q v G2 H2 g dv2) _ G H ⟨Gr.refl sm, sd_start dv, trivial⟩⟩
end Pd

namespace MShape
def i32 (n : Int) : Int := if 2147483648 ≤ n then n - 4294967296 else n
def wd (a b c : Int) : Bool := (decide (0 ≤ a) && decide (a ≤ 33554432)) && ((decide (0 ≤ b) && decide (b ≤ 33554432)) && decide ((if c < 0 then -c else c) ≤ 33554432))
theorem i32_is {z : Int} (h : 0 ≤ z) : Sh67.int32 z.toNat = i32 z := by
  unfold Sh67.int32 i32
  split <;> split <;> omega
theorem wd_is (a b c : Int) : Sh67.wide (a, b, c) = wd a b c := by
  unfold Sh67.wide wd
  dsimp only
  rw [Bool.eq_iff_iff]
  simp only [Bool.and_eq_true, decide_eq_true_eq]
  split <;> omega
theorem sq_le {x m : Int} (h1 : -m ≤ x) (h2 : x ≤ m) : 0 ≤ x * x ∧ x * x ≤ m * m := by
  rcases Int.le_total 0 x with h | h
  · exact ⟨Int.mul_nonneg h h, Int.mul_le_mul h2 h2 h (by omega)⟩
  · have e : x * x = (-x) * (-x) := (Int.neg_mul_neg x x).symm
    rw [e]
    exact ⟨Int.mul_nonneg (by omega) (by omega), Int.mul_le_mul (by omega) (by omega) (by omega) (by omega)⟩
/-- what is under the root is small -/
theorem under {a b c : Int} (h : wd a b c = true) : 0 ≤ (a - b) * (a - b) + 4 * c * c ∧ (a - b) * (a - b) + 4 * c * c < 2 ^ 64 := by
  unfold wd at h
  simp only [Bool.and_eq_true, decide_eq_true_eq] at h
  obtain ⟨⟨a0, a1⟩, ⟨b0, b1⟩, c1⟩ := h
  have q1 := sq_le (x := a - b) (m := 33554432) (by omega) (by omega)
  have q2 := sq_le (x := c) (m := 33554432) (by split at c1 <;> omega) (by split at c1 <;> omega)
  have e : 4 * c * c = 4 * (c * c) := Int.mul_assoc 4 c c
  rw [e]
  omega
theorem way_is (a b c : Int) : ((Sh67.way a b c : Nat) : Int) = if (if 2 * c < 0 then -(2 * c) else 2 * c) < (if a - b < 0 then -(a - b) else a - b) then (if b < a then 0 else 2) else (if 0 ≤ c then 1 else 3) := by
  have ab : ∀ x : Int, (if x < 0 then -x else x) = (x.natAbs : Int) := fun x => by split <;> omega
  rw [ab, ab]
  unfold Sh67.way
  dsimp only
  by_cases h : (2 * c).natAbs < (a - b).natAbs
  · rw [if_pos h, if_pos (Int.ofNat_lt.mpr h)]
    by_cases h2 : b < a
    · rw [if_pos h2, if_pos h2]
      rfl
    · rw [if_neg h2, if_neg h2]
      rfl
  · rw [if_neg h, if_neg (fun z => h (Int.ofNat_lt.mp z))]
    by_cases h2 : 0 ≤ c
    · rw [if_pos h2, if_pos h2]
      rfl
    · rw [if_neg h2, if_neg h2]
      rfl
/-- numbers three by three -/
def th : List Int → List (Int × Int × Int)
  | a :: b :: c :: l => (a, b, c) :: th l
  | _ => []
theorem th_at : ∀ (n : Nat) (l : List Int), l.length = 3 * n → ((List.range n).map fun i => (l.getD (3 * i) 0, l.getD (3 * i + 1) 0, l.getD (3 * i + 2) 0)) = th l
  | 0, l, h => by
    have : l = [] := List.eq_nil_of_length_eq_zero (by omega)
    subst this
    rfl
  | n + 1, l, h => by
    match l, h with
    | a :: b :: c :: l, h =>
      rw [List.range_succ_eq_map, List.map_cons, List.map_map]
      show (a, b, c) :: _ = (a, b, c) :: th l
      congr 1
      rw [← th_at n l (by simp at h; omega)]
      apply List.map_congr_left
      intro i _
      show ((a :: b :: c :: l).getD (3 * (i + 1)) 0, (a :: b :: c :: l).getD (3 * (i + 1) + 1) 0, (a :: b :: c :: l).getD (3 * (i + 1) + 2) 0) = _
      rfl
    | [], h => simp at h
    | [a], h => simp at h; omega
    | [a, b], h => simp at h; omega
theorem th_is : ∀ (ns : List Int), (∀ x, x ∈ ns → 0 ≤ x) → Sh67.threes (Sh67Neutral.nats ns) = th (ns.map i32)
  | [], _ => rfl
  | [a], _ => rfl
  | [a, b], _ => rfl
  | a :: b :: c :: l, h => by
    show (Sh67.int32 a.toNat, Sh67.int32 b.toNat, Sh67.int32 c.toNat) :: Sh67.threes (Sh67Neutral.nats l) = (i32 a, i32 b, i32 c) :: th (l.map i32)
    rw [i32_is (h a (by simp)), i32_is (h b (by simp)), i32_is (h c (by simp)), th_is l fun x hx => h x (by simp [hx])]
def out3 (p : Int × Int × Int) : List Int := [(Sh67.axes p.1 p.2.1 p.2.2).1 % 4294967296, (Sh67.axes p.1 p.2.1 p.2.2).2 % 4294967296, (Sh67.way p.1 p.2.1 p.2.2 : Int)]
theorem word_is (z : Int) : ((Sh67.wordOf z : Nat) : Int) = z % 4294967296 := by
  unfold Sh67.wordOf
  omega
theorem way_small (a b c : Int) : ((Sh67.way a b c : Nat) : Int) % 4294967296 = (Sh67.way a b c : Int) := by
  have : Sh67.way a b c ≤ 3 := by
    unfold Sh67.way
    dsimp only
    split <;> split <;> omega
  omega
def due_shape (ns : List Int) : List Int := if (3072 : Int) < ns.length then [-2] else if (!((th (ns.map i32)).map fun p => wd p.1 p.2.1 p.2.2).all id) = true then [-3] else 0 :: (th (ns.map i32)).flatMap out3
theorem shape_is (ns : List Int) (hb : ∀ x, x ∈ ns → 0 ≤ x ∧ x ≤ 4294967295) {n : Nat} (hl : ns.length = 3 * n) : due_shape ns = PySh67.ap_shape ns := by
  have el : (Sh67Neutral.nats ns).length = ns.length := List.length_map ..
  have et := th_is ns fun x hx => (hb x hx).1
  show _ = Sh67Neutral.told (Sh67.answer (if Sh67.few ((Sh67Neutral.nats ns).length / 3) = true then .shape (Sh67Neutral.nats ns) else .bad))
  unfold due_shape
  rw [el]
  by_cases h : n ≤ 1024
  · rw [if_neg (by omega), if_pos (show Sh67.few (ns.length / 3) = true from decide_eq_true (by omega))]
    show _ = Sh67Neutral.told (if (Sh67.threes (Sh67Neutral.nats ns)).all Sh67.wide = false then Sh67.fail (-3) else Sh67.done [(Sh67.threes (Sh67Neutral.nats ns)).flatMap fun p => let a := Sh67.axes p.1 p.2.1 p.2.2
      [Sh67.wordOf a.1, Sh67.wordOf a.2, Sh67.way p.1 p.2.1 p.2.2]])
    rw [et]
    have ea : ((th (ns.map i32)).map fun p => wd p.1 p.2.1 p.2.2).all id = (th (ns.map i32)).all Sh67.wide := by
      rw [List.all_map]
      congr 1
      funext p
      exact (wd_is p.1 p.2.1 p.2.2).symm
    rw [ea]
    cases hc : (th (ns.map i32)).all Sh67.wide with
    | false => rfl
    | true =>
      rw [if_neg (by decide), if_neg (by decide)]
      show 0 :: _ = 0 :: Sh67Neutral.ints _
      unfold Sh67Neutral.ints
      rw [List.map_flatMap]
      congr 1
      congr 1
      funext p
      unfold out3
      show _ = [((Sh67.wordOf _ : Nat) : Int), ((Sh67.wordOf _ : Nat) : Int), _]
      rw [word_is, word_is]
  · rw [if_pos (by omega), if_neg (show ¬ Sh67.few (ns.length / 3) = true from fun z => h (by have := of_decide_eq_true z; omega))]
    rfl
theorem asked_shape (ns : List Int) (h : PySh67.ap_shape_asked ns = true) : ns.length = 3 * (ns.length / 3) := by
  unfold PySh67.ap_shape_asked Sh67Neutral.asked at h
  rw [Bool.and_eq_true] at h
  have h1 : (ns.all (fun (z : Int) => Sh67Neutral.natural z 32) && ((if (Sh67.few (((Sh67Neutral.nats ns).length / 3))) = true then ns.length == (3 * (((Sh67Neutral.nats ns).length / 3))) else (ns.isEmpty) || (ns.length == (3 * (((Sh67Neutral.nats ns).length / 3))))))) = true := h.1
  have el : (Sh67Neutral.nats ns).length = ns.length := List.length_map ..
  rw [Bool.and_eq_true, el] at h1
  have h2 := h1.2
  split at h2
  · exact eq_of_beq h2
  · rw [Bool.or_eq_true] at h2
    rcases h2 with a | h2
    · rw [List.isEmpty_iff] at a
      subst a
      rfl
    · exact eq_of_beq h2
end MShape

namespace MRoot
theorem one_root {a b n : Nat} (h1 : a * a ≤ n) (h2 : n < (a + 1) * (a + 1)) (h3 : b * b ≤ n) (h4 : n < (b + 1) * (b + 1)) : a = b := by
  rcases Nat.lt_trichotomy a b with h | h | h
  · have := Nat.mul_le_mul (show a + 1 ≤ b from h) (show a + 1 ≤ b from h)
    omega
  · exact h
  · have := Nat.mul_le_mul (show b + 1 ≤ a from h) (show b + 1 ≤ a from h)
    omega
theorem rootBy_spec : ∀ (k n r : Nat), r * r ≤ n → n < (r + 2 ^ k) * (r + 2 ^ k) → Sh67.rootBy k n r * Sh67.rootBy k n r ≤ n ∧ n < (Sh67.rootBy k n r + 1) * (Sh67.rootBy k n r + 1)
  | 0, n, r, h1, h2 => ⟨h1, h2⟩
  | k + 1, n, r, h1, h2 => by
    unfold Sh67.rootBy
    split
    · rename_i h
      refine rootBy_spec k n (r + 2 ^ k) h ?_
      have e : r + 2 ^ (k + 1) = r + 2 ^ k + 2 ^ k := by rw [Nat.pow_succ]; omega
      rw [e] at h2
      exact h2
    · rename_i h
      exact rootBy_spec k n r h1 (Nat.lt_of_not_le h)
theorem root_spec {n : Nat} (h : n < 2 ^ 64) : Sh67.root n * Sh67.root n ≤ n ∧ n < (Sh67.root n + 1) * (Sh67.root n + 1) :=
  rootBy_spec 32 n 0 (by omega) (by
    rw [Nat.zero_add, ← Nat.pow_add]
    exact h)
/-- the root by its two bounds, of whole numbers told as ints -/
theorem root_int {n r : Int} (h0 : 0 ≤ n) (h : n < 2 ^ 64) (hr : 0 ≤ r) (h1 : r * r ≤ n) (h2 : n < (r + 1) * (r + 1)) : r = (Sh67.root n.toNat : Int) := by
  obtain ⟨a, rfl⟩ := Int.eq_ofNat_of_zero_le h0
  obtain ⟨b, rfl⟩ := Int.eq_ofNat_of_zero_le hr
  have q := root_spec (n := a) (by omega)
  have e : b = Sh67.root a := one_root (n := a) (by exact_mod_cast h1) (by exact_mod_cast h2) q.1 q.2
  rw [Int.toNat_natCast, e]
end MRoot

namespace Pd
open PySem PySem.Spec PyProof.Rows L2
/-! ### what stands at a name of the top -/
def Cal (P : Program) (w : World) (K : Fg) (mg : Str → Option Value) (base : Heap) (C : Addr) (k : Nat) (x : Str) (ps : List Str) (R : List Dt → Dt → Prop) : Prop :=
  ∃ (f : Addr) (fd : FuncData), FnOk P w K mg base CX0 k f fd ps (spD K C R) ∧ mg x = some (.ref f) ∧ PySem.W.keepIn K (.ref f) = true ∧ Binds K fd ps []
def Mel (P : Program) (w : World) (K : Fg) (mg : Str → Option Value) (base : Heap) (C : Addr) (k : Nat) (x : Str) (ps : List Str) (R : List Dt → Dt → Prop) : Prop :=
  ∃ (f : Addr) (fd : FuncData), FnOk P w K mg base CX0 k f fd ps (spD K C R) ∧ Meth K C x f ∧ Binds K fd ps []
theorem pe_gint {X : Cx} {x : Str} {i : Int} {pos : Pos} (h : ∃ t, X.mg x = some (.int i t)) (hg : Gl X x) (hd : (x == ("__debug__" : Str)) = false := by decide) : PE X (.Name x pos) (tC (.int i)) := by
  obtain ⟨t, h⟩ := h
  exact pe_glob hg h ⟨t, rfl⟩ hd
theorem ix_tupK {X : Cx} {K : Fg} (h : X.K = K) : IxR X (rIxT K) := h ▸ ix_tup
theorem ix_listK {X : Cx} {K : Fg} (h : X.K = K) : IxR X (rIxL K) := h ▸ ix_list
/-- a tuple of ints that the top has written -/
def intsOf : List Value → Option (List Int)
  | [] => some []
  | .int i _ :: r => (intsOf r).map fun l => i :: l
  | _ => none
def tupOf (o : Obj) : Option (List Int) := match o.data with
  | .seq its _ => if o.cls = .type "tuple" ∧ its.size ≤ 1000 then intsOf its.toList else none
  | _ => none
theorem intsOf_vals : ∀ {us : List Value} {ns : List Int}, intsOf us = some ns → Vals (ns.map V.int) us
  | [], ns, h => by
    cases h
    exact .nil
  | .int i t :: r, ns, h => by
    have h' : (intsOf r).map (fun l => i :: l) = some ns := h
    obtain ⟨l, h1, rfl⟩ := Option.map_eq_some_iff.mp h'
    exact .cons ⟨t, rfl⟩ (intsOf_vals h1)
  | .none :: _, _, h => by cases h
  | .ellipsis :: _, _, h => by cases h
  | .notImplemented :: _, _, h => by cases h
  | .bool _ :: _, _, h => by cases h
  | .float _ _ :: _, _, h => by cases h
  | .str _ _ :: _, _, h => by cases h
  | .bytes _ _ :: _, _, h => by cases h
  | .type _ :: _, _, h => by cases h
  | .builtin _ :: _, _, h => by cases h
  | .ref _ :: _, _, h => by cases h
theorem sqT_of {K : Fg} {a : Addr} {o : Obj} {ns : List Int} {H : Hp} (l : K.lookup a = some o) (h : tupOf o = some ns) : SqT K H a (ns.map V.int) := by
  unfold tupOf at h
  split at h
  · rename_i its n hd
    split at h
    · rename_i hc
      exact Or.inr ⟨o, its, n, l, hc.1, hd, sz_le (Nat.le_trans hc.2 (by decide)), intsOf_vals h⟩
    · cases h
  · cases h
/-! ### from the request, to the answer -/
theorem dw_int {K : Fg} {C : Addr} {H : Hp} {v : V} {i : Int} (h : Dw K H v (.int i)) : Dr K C H v (.int i) := by
  cases h
  exact .int i
theorem dw_list {K : Fg} {C : Addr} {H : Hp} {v : V} {ns : List Int} (h : Dw K H v (.list (ns.map PySem.W.WData.int))) : Dr K C H v (.lst (ns.map Dt.int)) := by
  cases h with
  | lst p q =>
    have e := ints_dw ns _ q
    subst e
    exact .lst p (ints_drs ns)
theorem dr_out {K : Fg} {C : Addr} {G H : Hp} {v : V} {ns : List Int} (h : Dr K C G v (.lst (ns.map Dt.int))) (s : Same G H) : Dw K H v (.list (ns.map PySem.W.WData.int)) := by
  cases h with
  | lst p q =>
    have e := drs_ints q
    subst e
    exact .lst (s.seq p) (dw_ints ns)
theorem all_int {lo hi : Int} {ns : List Int} (h : ns.all (PySem.W.Codec.inInt lo hi) = true) : ∀ x, x ∈ ns → lo ≤ x ∧ x ≤ hi := fun x hx => PySem.W.Codec.inInt_iff.mp (List.all_eq_true.mp h x hx)
/-! ### one step of a reading, by its form -/
local macro_rules | `(tactic| walk_at "ev1") => `(tactic| first
  | exact ed_int
  | exact ed_bl
  | exact ea_nil
  | refine ea_cons ?_ ?_
  | refine ed_var rfl
  | refine ed_add ?_ ?_
  | refine ed_sub ?_ ?_
  | refine ed_lt ?_ ?_
  | refine ed_le ?_ ?_
  | refine ed_gt ?_ ?_
  | refine ed_ge ?_ ?_
  | refine ed_mul ?_ ?_ ?_
  | refine ed_div ?_ ?_ ?_
  | refine ed_mod ?_ ?_ ?_
  | refine ed_chainLe ?_ ?_ ?_
  | refine ed_chainLtLe ?_ ?_ ?_
  | refine ed_andV ?_ ?_
  | refine eb_v ?_
  | refine eb_t ?_
  | refine eb_and ?_ ?_
  | refine eb_or ?_ ?_
  | refine eb_not ?_
  | refine ed_abs ?_
  | refine ed_max2 ?_ ?_
  | refine ed_min2 ?_ ?_
  | refine ed_len ?_
  | refine ed_neg ?_
  | refine ed_bits ?_
  | refine ed_shl ?_ ?_ ?_
  | refine ed_shr ?_ ?_ ?_
  | refine ed_tup ?_
  | refine en_lst ?_)
local macro_rules | `(tactic| walk_at "ev") => `(tactic| repeat' walk_at "ev1")

/-! ### the text by its places -/
def topS (i : Nat) : Stmt := PySem.Challenge.pw_starlight_s06_ap_shape.main.body.getD i (.Pass ⟨0, 0, 0, 0⟩)
abbrev s_from_word : Stmt := topS 4
theorem sc_from_word : FnScope ["word"] ["word"] (defScope s_from_word) := ⟨rfl, rfl, rfl, by decide +kernel, rfl, by decide +kernel, by decide +kernel⟩
abbrev s_are_widths : Stmt := topS 9
theorem sc_are_widths : FnScope ["a", "b", "c"] ["a", "b", "c"] (defScope s_are_widths) := ⟨rfl, rfl, rfl, by decide +kernel, rfl, by decide +kernel, by decide +kernel⟩
abbrev s_as_word : Stmt := topS 3
theorem sc_as_word : FnScope ["number"] ["number"] (defScope s_as_word) := ⟨rfl, rfl, rfl, by decide +kernel, rfl, by decide +kernel, by decide +kernel⟩
abbrev s_root : Stmt := topS 5
theorem sc_root : FnScope ["number", "found", "step"] ["number"] (defScope s_root) := ⟨rfl, rfl, rfl, by decide +kernel, rfl, by decide +kernel, by decide +kernel⟩
abbrev s_which_way : Stmt := topS 11
theorem sc_which_way : FnScope ["a", "b", "c"] ["a", "b", "c"] (defScope s_which_way) := ⟨rfl, rfl, rfl, by decide +kernel, rfl, by decide +kernel, by decide +kernel⟩
abbrev s_shape : Stmt := topS 12
theorem sc_shape : FnScope ["a", "b", "c", "more"] ["a", "b", "c"] (defScope s_shape) := ⟨rfl, rfl, rfl, by decide +kernel, rfl, by decide +kernel, by decide +kernel⟩
abbrev s_ap_shape : Stmt := topS 16
theorem sc_ap_shape : FnScope ["l", "numbers", "threes", "found", "a", "b", "c", "word", "at", "part"] ["l"] (defScope s_ap_shape) := ⟨rfl, rfl, rfl, by decide +kernel, rfl, by decide +kernel, by decide +kernel⟩
/-! ### what the top has written -/
structure Tx (K : Fg) (mg : Str → Option Value) (C : Addr) : Prop where
  b_abs : mg "abs" = none
  b_all : mg "all" = none
  b_len : mg "len" = none
  b_range : mg "range" = none
  g_HALF_WORD : ∃ t, mg "HALF_WORD" = some (.int (2147483648) t)
  g_MOST_THINGS : ∃ t, mg "MOST_THINGS" = some (.int (1024) t)
  g_MOST_WIDTH : ∃ t, mg "MOST_WIDTH" = some (.int (33554432) t)
  g_NOT_SO : ∃ t, mg "NOT_SO" = some (.int (-3) t)
  g_OUT_OF_RANGE : ∃ t, mg "OUT_OF_RANGE" = some (.int (-2) t)
  g_WORD : ∃ t, mg "WORD" = some (.int (4294967296) t)
section
variable {P : Program} {w : World} {K : Fg} {mg : Str → Option Value} {base : Heap} {C : Addr}
/-! ### from_word -/
def R_from_word (ds : List Dt) (d : Dt) : Prop := ∃ n : Int, ds = [.int n] ∧ d = .int (MShape.i32 n)

theorem ok_from_word {f : Addr} {fd : FuncData} (T : Tx K mg C) (F : Fun K "from_word" "from_word" s_from_word f fd) : FnOk P w K mg base CX0 1 f fd ["word"] (spD K C R_from_word) := by
  refine okD F sc_from_word (fun ds d r => ?_) fun cdv A outer s H E hr => ⟨_, (pss_one (ps_ret (pe_ifExp (pt_cmpR op_ge (pv 0) (pe_gint T.g_HALF_WORD (by rfl)) (nomark _)) (pe_op op_sub (pv 0) (pe_gint T.g_WORD (by rfl))) (pv 0)))), fun ds d r G0 Q q => ?_⟩
  · obtain ⟨n, rfl, rfl⟩ := r
    rfl
  · obtain ⟨n, rfl, rfl⟩ := r
    refine s_ret (d := .int (MShape.i32 n)) (ed_if (b := decide (2147483648 ≤ n)) (by walk_at "ev") (fun hb => ?_) (fun hb => ?_)) q
    · have h := of_decide_eq_true hb
      refine EvD.eq (d := .int (n - 4294967296)) (by walk_at "ev") ?_
      unfold MShape.i32
      rw [if_pos h]
    · have h := of_decide_eq_false hb
      refine EvD.eq (d := .int n) (by walk_at "ev") ?_
      unfold MShape.i32
      rw [if_neg h]

/-! ### are_widths -/
def R_are_widths (ds : List Dt) (d : Dt) : Prop := ∃ a b c : Int, ds = [.int a, .int b, .int c] ∧ d = .bl (MShape.wd a b c)

theorem ok_are_widths {f : Addr} {fd : FuncData} (T : Tx K mg C) (F : Fun K "are_widths" "are_widths" s_are_widths f fd) : FnOk P w K mg base CX0 1 f fd ["a", "b", "c"] (spD K C R_are_widths) := by
  refine okD F sc_are_widths (fun ds d r => ?_) fun cdv A outer s H E hr => ⟨_, (pss_one (ps_ret (pe_and (pe_chain op_le op_le pe_int (pv 0) (pe_gint T.g_MOST_WIDTH (by rfl))) (pe_and (pe_chain op_le op_le pe_int (pv 1) (pe_gint T.g_MOST_WIDTH (by rfl))) (pe_one (pe_cmpR op_le (pe_callB call_abs (by rfl) T.b_abs (by decide +kernel) (pa_cons (pv 2) pa_nil)) (pe_gint T.g_MOST_WIDTH (by rfl)) (nomark _))))))), fun ds d r G0 Q q => ?_⟩
  · obtain ⟨a, b, c, rfl, rfl⟩ := r
    rfl
  · obtain ⟨a, b, c, rfl, rfl⟩ := r
    exact s_ret (d := .bl (MShape.wd a b c)) (ed_andV (ed_chainLe (by walk_at "ev") (by walk_at "ev") (by walk_at "ev")) (ed_andV (ed_chainLe (by walk_at "ev") (by walk_at "ev") (by walk_at "ev")) (by walk_at "ev"))) q

/-! ### as_word -/
def R_as_word (ds : List Dt) (d : Dt) : Prop := ∃ n : Int, ds = [.int n] ∧ d = .int (n % 4294967296)
theorem ed_word {Γ : Ct} {ta : TE} {E : XK} {n : Int} (h : EvD K C ta Γ (.int n)) : EvD K C (tCall (spD K C R_as_word) [] E (tCons ta tNil)) Γ (.int (n % 4294967296)) := ed_call (ea_cons h ea_nil) ⟨n, rfl, rfl⟩

theorem ok_as_word {f : Addr} {fd : FuncData} (T : Tx K mg C) (F : Fun K "as_word" "as_word" s_as_word f fd) : FnOk P w K mg base CX0 1 f fd ["number"] (spD K C R_as_word) := by
  refine okD F sc_as_word (fun ds d r => ?_) fun cdv A outer s H E hr => ⟨_, (pss_one (ps_ret (pe_op op_mod (pv 0) (pe_gint T.g_WORD (by rfl))))), fun ds d r G0 Q q => ?_⟩
  · obtain ⟨n, rfl, rfl⟩ := r
    rfl
  · obtain ⟨n, rfl, rfl⟩ := r
    refine s_ret (d := .int (n % 4294967296)) ?_ q
    walk_at "ev"
    decide

/-! ### root -/
def R_root (ds : List Dt) (d : Dt) : Prop := ∃ n : Int, ds = [.int n] ∧ 0 ≤ n ∧ n < 2 ^ 64 ∧ d = .int (Sh67.root n.toNat)
theorem ed_root {Γ : Ct} {ta : TE} {E : XK} {n : Int} (h : EvD K C ta Γ (.int n)) (h0 : 0 ≤ n) (h1 : n < 2 ^ 64) : EvD K C (tCall (spD K C R_root) [] E (tCons ta tNil)) Γ (.int (Sh67.root n.toNat)) := ed_call (ea_cons h ea_nil) ⟨n, rfl, h0, h1, rfl⟩
def stp : Nat → Int
  | 0 => 0
  | k + 1 => 2 ^ k
theorem stp_half : ∀ k : Nat, stp (k + 1) / 2 = stp k
  | 0 => by decide
  | k + 1 => by
    show (2 : Int) ^ (k + 1) / 2 = 2 ^ k
    rw [Int.pow_succ]
    exact Int.mul_ediv_cancel _ (by decide)
theorem sq_lt32 {s : Int} (h0 : 0 ≤ s) (h : s * s < 2 ^ 64) : s < 2 ^ 32 := by
  apply Int.lt_of_not_ge
  intro z
  have := Int.mul_le_mul z z (by decide) h0
  omega

theorem ok_root {f : Addr} {fd : FuncData} (T : Tx K mg C) (F : Fun K "root" "root" s_root f fd) : FnOk P w K mg base CX0 1 f fd ["number"] (spD K C R_root) := by
  refine okD F sc_root (fun ds d r => ?_) fun cdv A outer s H E hr => ⟨_, (pss_cons (ps_set (i := 1) sc_root.nd rfl (Or.inl rfl) pe_int)
      (pss_cons (ps_set (i := 2) sc_root.nd rfl (Or.inl rfl) pe_int)
      (pss_cons (ps_while PassesOwn.never (pt_cmpR op_le (pe_op op_mul (pv 2) (pv 2)) (pv 0) (nomark _)) (pss_one (ps_set (i := 2) sc_root.nd rfl (Or.inl rfl) (pe_op op_mul pe_int (pv 2)))))
      (pss_cons (ps_while PassesOwn.never (pt_cmpR op_gt (pv 2) pe_int (nomark _)) (pss_cons (ps_if (pt_cmpR op_le (pe_op op_mul (pe_op op_add (pv 1) (pv 2)) (pe_op op_add (pv 1) (pv 2))) (pv 0) (nomark _)) (pss_one (ps_set (i := 1) sc_root.nd rfl (Or.inl rfl) (pe_op op_add (pv 1) (pv 2)))) pss_nil)
      (pss_one (ps_set (i := 2) sc_root.nd rfl (Or.inl rfl) (pe_op op_fdivW (pv 2) pe_int)))))
      (pss_one (ps_ret (pv 1))))))), fun ds d r G0 Q q => ?_⟩
  · obtain ⟨n, rfl, hn0, hn1, rfl⟩ := r
    rfl
  · obtain ⟨n, rfl, hn0, hn1, rfl⟩ := r
    refine q_set (d := .int 0) ed_int rfl ?_
    refine q_set (d := .int 1) ed_int rfl ?_
    -- step doubles till its square is above
    refine q_while (fun m Γ1 M1 => ∃ j : Nat, m + j = 40 ∧ j ≤ 33 ∧ Γ1 = [some (.int n), some (.int 0), some (.int (2 ^ j))] ∧ M1 = none) 40 ⟨0, rfl, by decide, rfl, rfl⟩ ?_
    rintro m Γ1 M1 ⟨j, hm, hj, rfl, rfl⟩
    have p0 : (0 : Int) < 2 ^ j := Int.pow_pos (by decide)
    have pj : (2 : Int) ^ j ≤ 2 ^ 33 := by exact_mod_cast Nat.pow_le_pow_right (by decide : 0 < 2) hj
    refine ⟨decide ((2 : Int) ^ j * 2 ^ j ≤ n), ?_, fun hb N hN => ?_, fun hb => ?_⟩
    · walk_at "ev"
      exact Or.inl ⟨by omega, by omega⟩
    · have hle := of_decide_eq_true hb
      have h32 : (2 : Int) ^ j < 2 ^ 32 := sq_lt32 (by omega) (by omega)
      have hj2 : j < 32 := by
        apply Nat.lt_of_not_le
        intro z
        have : (2 : Int) ^ 32 ≤ 2 ^ j := by exact_mod_cast Nat.pow_le_pow_right (by decide : 0 < 2) z
        omega
      refine s_set (d := .int (2 * 2 ^ j)) ?_ rfl ?_
      · walk_at "ev"
        exact Or.inl ⟨by decide, by decide⟩
      · refine hN (m - 1) _ _ (by omega) ⟨j + 1, by omega, by omega, ?_, rfl⟩
        show [some (Dt.int n), some (Dt.int 0), some (Dt.int (2 * 2 ^ j))] = _
        rw [Int.pow_succ, Int.mul_comm]
    · have hgt : n < (2 : Int) ^ j * 2 ^ j := Int.lt_of_not_ge (of_decide_eq_false hb)
      -- then it is halved
      refine q_while (fun m Γ1 M1 => ∃ f : Int, 0 ≤ f ∧ m ≤ 34 ∧ f * f ≤ n ∧ n < (f + 2 ^ m) * (f + 2 ^ m) ∧ Γ1 = [some (.int n), some (.int f), some (.int (stp m))] ∧ M1 = none) (j + 1)
        ⟨0, by decide, by omega, by omega, ?_, rfl, rfl⟩ ?_
      · have e : (2 : Int) ^ (j + 1) = 2 * 2 ^ j := by rw [Int.pow_succ, Int.mul_comm]
        have := Int.mul_le_mul (show (2 : Int) ^ j ≤ 0 + 2 ^ (j + 1) by omega) (show (2 : Int) ^ j ≤ 0 + 2 ^ (j + 1) by omega) (by omega) (by omega)
        omega
      rintro m Γ1 M1 ⟨f, hf, hm, h1, h2, rfl, rfl⟩
      refine ⟨decide (0 < stp m), by walk_at "ev", fun hb N hN => ?_, fun hb => ?_⟩
      · have hs := of_decide_eq_true hb
        obtain ⟨k, rfl⟩ : ∃ k, m = k + 1 := by
          cases m with
          | zero => exact absurd hs (by decide)
          | succ k => exact ⟨k, rfl⟩
        have e : stp (k + 1) = 2 ^ k := rfl
        have f32 : f < 2 ^ 32 := sq_lt32 hf (by omega)
        have p0 : (0 : Int) < 2 ^ k := Int.pow_pos (by decide)
        have pk : (2 : Int) ^ k ≤ 2 ^ 33 := by exact_mod_cast Nat.pow_le_pow_right (by decide : 0 < 2) (show k ≤ 33 by omega)
        have e2 : (2 : Int) ^ (k + 1) = 2 * 2 ^ k := by rw [Int.pow_succ, Int.mul_comm]
        have hh : ∀ (bk : L2.St → Hp → Prop) (f' : Int), 0 ≤ f' → f' * f' ≤ n → n < (f' + 2 ^ k) * (f' + 2 ^ k) → OkS K C G0 H { nx := N, rt := Q, bk := bk, ct := N } (tAsg (tOp (rI CDivW fun i j => .int (i / j)) (tVar 2) (tC (.int 2))) (gName 2)) [some (.int n), some (.int f'), some (.int (stp (k + 1)))] none := fun bk f' g0 g1 g2 => by
          refine s_set (d := .int (stp (k + 1) / 2)) ?_ rfl ?_
          · walk_at "ev"
            exact ⟨by decide, by decide⟩
          · refine hN k _ _ (by omega) ⟨f', g0, by omega, g1, g2, ?_, rfl⟩
            show [some (Dt.int n), some (Dt.int f'), some (Dt.int (stp (k + 1) / 2))] = _
            rw [stp_half]
        refine q_if (b := decide ((f + stp (k + 1)) * (f + stp (k + 1)) ≤ n)) ?_ (fun hc => ?_) (fun hc => ?_)
        · walk_at "ev"
          exact Or.inl ⟨by omega, by omega⟩
        · have hc := of_decide_eq_true hc
          refine s_set (d := .int (f + stp (k + 1))) (by walk_at "ev") rfl ?_
          refine nx_ok ?_
          refine hh _ (f + 2 ^ k) (by omega) hc ?_
          have e3 : f + 2 ^ k + 2 ^ k = f + 2 ^ (k + 1) := by omega
          rw [e3]
          exact h2
        · have hc := Int.lt_of_not_ge (of_decide_eq_false hc)
          refine s_next ?_
          refine nx_ok ?_
          exact hh _ f hf h1 hc
      · have hm0 : m = 0 := by
          cases m with
          | zero => rfl
          | succ k =>
            have := of_decide_eq_false hb
            have p0 : (0 : Int) < 2 ^ k := Int.pow_pos (by decide)
            exact absurd p0 this
        subst hm0
        have er := MRoot.root_int hn0 hn1 hf h1 h2
        refine s_ret (ed_var rfl) ?_
        rw [er]
        exact q

/-! ### which_way -/
def R_which_way (ds : List Dt) (d : Dt) : Prop := ∃ a b c : Int, ds = [.int a, .int b, .int c] ∧ d = .int (Sh67.way a b c)

theorem ok_which_way {f : Addr} {fd : FuncData} (T : Tx K mg C) (F : Fun K "which_way" "which_way" s_which_way f fd) : FnOk P w K mg base CX0 1 f fd ["a", "b", "c"] (spD K C R_which_way) := by
  refine okD F sc_which_way (fun ds d r => ?_) fun cdv A outer s H E hr => ⟨_, (pss_cons (ps_if (pt_cmpR op_lt (pe_callB call_abs (by rfl) T.b_abs (by decide +kernel) (pa_cons (pe_op op_mul pe_int (pv 2)) pa_nil)) (pe_callB call_abs (by rfl) T.b_abs (by decide +kernel) (pa_cons (pe_op op_sub (pv 0) (pv 1)) pa_nil)) (nomark _)) (pss_one (ps_ret (pe_ifExp (pt_cmpR op_lt (pv 1) (pv 0) (nomark _)) pe_int pe_int))) pss_nil)
      (pss_one (ps_ret (pe_ifExp (pt_cmpR op_ge (pv 2) pe_int (nomark _)) pe_int pe_int)))), fun ds d r G0 Q q => ?_⟩
  · obtain ⟨a, b, c, rfl, rfl⟩ := r
    rfl
  · obtain ⟨a, b, c, rfl, rfl⟩ := r
    rw [MShape.way_is] at q
    refine q_when (b := decide ((if 2 * c < 0 then -(2 * c) else 2 * c) < (if a - b < 0 then -(a - b) else a - b))) ?_ (fun hb => ?_) (fun hb => ?_)
    · walk_at "ev"
      exact Or.inl ⟨by decide, by decide⟩
    · rw [if_pos (of_decide_eq_true hb)] at q
      refine s_ret (d := .int (if b < a then 0 else 2)) (ed_if (b := decide (b < a)) (by walk_at "ev") (fun hc => ?_) (fun hc => ?_)) q
      · rw [if_pos (of_decide_eq_true hc)]
        exact ed_int
      · rw [if_neg (of_decide_eq_false hc)]
        exact ed_int
    · rw [if_neg (of_decide_eq_false hb)] at q
      refine s_ret (d := .int (if 0 ≤ c then 1 else 3)) (ed_if (b := decide (0 ≤ c)) (by walk_at "ev") (fun hc => ?_) (fun hc => ?_)) q
      · rw [if_pos (of_decide_eq_true hc)]
        exact ed_int
      · rw [if_neg (of_decide_eq_false hc)]
        exact ed_int

/-! ### shape -/
def R_shape (ds : List Dt) (d : Dt) : Prop := ∃ a b c : Int, ds = [.int a, .int b, .int c] ∧ MShape.wd a b c = true ∧ d = .tup [.int (Sh67.axes a b c).1, .int (Sh67.axes a b c).2, .int (Sh67.way a b c)]

theorem ok_shape {f : Addr} {fd : FuncData} (T : Tx K mg C) (F : Fun K "shape" "shape" s_shape f fd) (h_root : Cal P w K mg base C 1 "root" ["number"] R_root) (h_which_way : Cal P w K mg base C 1 "which_way" ["a", "b", "c"] R_which_way) : FnOk P w K mg base CX0 2 f fd ["a", "b", "c"] (spD K C R_shape) := by
  obtain ⟨f_root, fd_root, G_root, m_root, kp_root, bi_root⟩ := h_root
  obtain ⟨f_which_way, fd_which_way, G_which_way, m_which_way, kp_which_way, bi_which_way⟩ := h_which_way
  refine okD F sc_shape (fun ds d r => ?_) fun cdv A outer s H E hr => ⟨_, (pss_cons (ps_set (i := 3) sc_shape.nd rfl (Or.inl rfl) (pe_call G_root (hr.mono (by decide)) (by rfl) m_root kp_root bi_root .nil pass0 (pa_cons (pe_op op_add (pe_op op_mul (pe_op op_sub (pv 0) (pv 1)) (pe_op op_sub (pv 0) (pv 1))) (pe_op op_mul (pe_op op_mul pe_int (pv 2)) (pv 2))) pa_nil)))
      (pss_one (ps_ret (pe_tup (pa_cons (pe_op op_add (pe_op op_add (pv 0) (pv 1)) (pv 3)) (pa_cons (pe_op op_sub (pe_op op_add (pv 0) (pv 1)) (pv 3)) (pa_cons (pe_call G_which_way (hr.mono (by decide)) (by rfl) m_which_way kp_which_way bi_which_way .nil pass0 (pa_cons (pv 0) (pa_cons (pv 1) (pa_cons (pv 2) pa_nil)))) pa_nil))))))), fun ds d r G0 Q q => ?_⟩
  · obtain ⟨a, b, c, rfl, hw, rfl⟩ := r
    rfl
  · obtain ⟨a, b, c, rfl, hw, rfl⟩ := r
    have hu := MShape.under hw
    unfold MShape.wd at hw
    simp only [Bool.and_eq_true, decide_eq_true_eq] at hw
    obtain ⟨⟨a0, a1⟩, ⟨b0, b1⟩, c1⟩ := hw
    refine q_set (d := .int (Sh67.root ((a - b) * (a - b) + 4 * c * c).toNat)) (ed_root ?_ hu.1 hu.2) rfl ?_
    · walk_at "ev"
      · exact Or.inl ⟨by omega, by omega⟩
      · exact Or.inl ⟨by decide, by decide⟩
      · split at c1
        · exact Or.inr ⟨by omega, by omega⟩
        · exact Or.inr ⟨by omega, by omega⟩
    · refine s_ret (d := .tup [.int (a + b + (Sh67.root ((a - b) * (a - b) + 4 * c * c).toNat : Int)), .int (a + b - (Sh67.root ((a - b) * (a - b) + 4 * c * c).toNat : Int)), .int (Sh67.way a b c)]) ?_ q
      exact ed_tup (ea_cons (by walk_at "ev") (ea_cons (by walk_at "ev") (ea_cons (ed_call (ea_cons (ed_var rfl) (ea_cons (ed_var rfl) (ea_cons (ed_var rfl) ea_nil))) ⟨a, b, c, rfl, rfl⟩) ea_nil)))

/-! ### ap_shape -/
def R_ap_shape (ds : List Dt) (d : Dt) : Prop := ∃ (ns : List Int) (n : Nat), ds = [.lst (ns.map Dt.int)] ∧ ns.length = 3 * n ∧ n ≤ 2000 ∧ d = .lst ((MShape.due_shape ns).map Dt.int)
def dt3 (p : Int × Int × Int) : Dt := .tup [.int p.1, .int p.2.1, .int p.2.2]

theorem ok_ap_shape {f : Addr} {fd : FuncData} (T : Tx K mg C) (F : Fun K "ap_shape" "ap_shape" s_ap_shape f fd) (h_from_word : Cal P w K mg base C 1 "from_word" ["word"] R_from_word) (h_are_widths : Cal P w K mg base C 1 "are_widths" ["a", "b", "c"] R_are_widths) (h_as_word : Cal P w K mg base C 1 "as_word" ["number"] R_as_word) (h_shape : Cal P w K mg base C 2 "shape" ["a", "b", "c"] R_shape) : FnOk P w K mg base CX0 3 f fd ["l"] (spD K C R_ap_shape) := by
  obtain ⟨f_from_word, fd_from_word, G_from_word, m_from_word, kp_from_word, bi_from_word⟩ := h_from_word
  obtain ⟨f_are_widths, fd_are_widths, G_are_widths, m_are_widths, kp_are_widths, bi_are_widths⟩ := h_are_widths
  obtain ⟨f_as_word, fd_as_word, G_as_word, m_as_word, kp_as_word, bi_as_word⟩ := h_as_word
  obtain ⟨f_shape, fd_shape, G_shape, m_shape, kp_shape, bi_shape⟩ := h_shape
  refine okD F sc_ap_shape (fun ds d r => ?_) fun cdv A outer s H E hr => ⟨_, (pss_cons (ps_if (pt_cmpR op_gt (pe_callB call_len_seq (by rfl) T.b_len (by decide +kernel) (pa_cons (pv 0) pa_nil)) (pe_op op_mul pe_int (pe_gint T.g_MOST_THINGS (by rfl))) (nomark _)) (pss_one (ps_ret (pe_lst (pa_cons (pe_gint T.g_OUT_OF_RANGE (by rfl)) pa_nil)))) pss_nil)
      (pss_cons (ps_set (i := 1) sc_ap_shape.nd rfl (Or.inr rfl) (pe_lc (own := [("word", 7)]) (tt := tYes) (by rfl) sc_ap_shape.nd (pi_list (pv 0)) (blkOk_by (N := ["l", "numbers", "threes", "found", "a", "b", "c", "word", "at", "part"]) (sc := defScope s_ap_shape) (by decide +kernel)) (fun _ _ _ _ _ => (pg_name (i := 7) sc_ap_shape.nd rfl (Or.inl rfl))) (fun _ _ _ _ _ => pts_nil) (fun _ _ _ _ _ => (pe_call G_from_word (hr.mono (by decide)) (by rfl) m_from_word kp_from_word bi_from_word .nil pass0 (pa_cons (pv 7) pa_nil)))))
      (pss_cons (ps_setLc (i := 2) (own := [("at", 8)]) (tt := tYes) rfl sc_ap_shape.nd rfl rfl (sw_true rfl rfl rfl (by decide +kernel)) (pi_range3 (by rfl) T.b_range (pa_cons pe_int (pa_cons (pe_callB call_len_seq (by rfl) T.b_len (by decide +kernel) (pa_cons (pv 1) pa_nil)) (pa_cons pe_int pa_nil)))) (blkOk_by (N := ["l", "numbers", "threes", "found", "a", "b", "c", "word", "at", "part"]) (sc := defScope s_ap_shape) (by decide +kernel)) (fun _ _ _ _ _ => (pg_name (i := 8) sc_ap_shape.nd rfl (Or.inl rfl))) (fun _ _ _ _ _ => pts_nil) (fun _ _ _ _ _ => (pe_tup (pa_cons (pe_ix (ix_listK (K := K) rfl) (pv 1) (pv 8) (fun _ _ => rfl)) (pa_cons (pe_ix (ix_listK (K := K) rfl) (pv 1) (pe_op op_add (pv 8) pe_int) (fun _ _ => rfl)) (pa_cons (pe_ix (ix_listK (K := K) rfl) (pv 1) (pe_op op_add (pv 8) pe_int) (fun _ _ => rfl)) pa_nil))))))
      (pss_cons (ps_if (pt_not (pt_val (pe_callB (cr_all rfl) (by rfl) T.b_all (by decide +kernel) (pa_cons (pe_lc (own := [("a", 4), ("b", 5), ("c", 6)]) (g := gTup K 3 (gCons (gName 4) (gCons (gName 5) (gCons (gName 6) gNil)))) (tt := tYes) (by rfl) sc_ap_shape.nd (pi_list (pv 2)) (blkOk_by (N := ["l", "numbers", "threes", "found", "a", "b", "c", "word", "at", "part"]) (sc := defScope s_ap_shape) (by decide +kernel)) (fun _ _ _ _ _ => (pg_tup (by rfl) (pgs_cons (pg_name (i := 4) sc_ap_shape.nd rfl (Or.inl rfl)) (pgs_cons (pg_name (i := 5) sc_ap_shape.nd rfl (Or.inl rfl)) (pgs_cons (pg_name (i := 6) sc_ap_shape.nd rfl (Or.inl rfl)) pgs_nil))))) (fun _ _ _ _ _ => pts_nil) (fun _ _ _ _ _ => (pe_call G_are_widths (hr.mono (by decide)) (by rfl) m_are_widths kp_are_widths bi_are_widths .nil pass0 (pa_cons (pv 4) (pa_cons (pv 5) (pa_cons (pv 6) pa_nil)))))) pa_nil)))) (pss_one (ps_ret (pe_lst (pa_cons (pe_gint T.g_NOT_SO (by rfl)) pa_nil)))) pss_nil)
      (pss_cons (ps_set (i := 3) sc_ap_shape.nd rfl (Or.inl rfl) (pe_lst (pa_cons pe_int pa_nil)))
      (pss_cons (ps_for PassesOwn.never rfl (pi_list (pv 2)) (pg_tup (by rfl) (pgs_cons (pg_name (i := 4) sc_ap_shape.nd rfl (Or.inl rfl)) (pgs_cons (pg_name (i := 5) sc_ap_shape.nd rfl (Or.inl rfl)) (pgs_cons (pg_name (i := 6) sc_ap_shape.nd rfl (Or.inl rfl)) pgs_nil)))) (pss_one (ps_expr (pe_bm PySem.F.plainAttrs_list PySem.F.slot_list_extend PySem.F.type_list_extend mt_extend (pv 3) (pa_cons (pe_lc (own := [("part", 9)]) (tt := tYes) (by rfl) sc_ap_shape.nd (pi_tup (pe_call G_shape (hr.mono (by decide)) (by rfl) m_shape kp_shape bi_shape .nil pass0 (pa_cons (pv 4) (pa_cons (pv 5) (pa_cons (pv 6) pa_nil))))) (blkOk_by (N := ["l", "numbers", "threes", "found", "a", "b", "c", "word", "at", "part"]) (sc := defScope s_ap_shape) (by decide +kernel)) (fun _ _ _ _ _ => (pg_name (i := 9) sc_ap_shape.nd rfl (Or.inl rfl))) (fun _ _ _ _ _ => pts_nil) (fun _ _ _ _ _ => (pe_call G_as_word (hr.mono (by decide)) (by rfl) m_as_word kp_as_word bi_as_word .nil pass0 (pa_cons (pv 9) pa_nil)))) pa_nil)))))
      (pss_one (ps_ret (pv 3))))))))), fun ds d r G0 Q q => ?_⟩
  · obtain ⟨ns, n, rfl, hl, hn, rfl⟩ := r
    rfl
  · obtain ⟨ns, n, rfl, hl, hn, rfl⟩ := r
    refine q_when (b := decide ((3 * 1024 : Int) < (ns.map Dt.int).length)) ?_ (fun hb => ?_) (fun hb => ?_)
    · walk_at "ev"
      exact Or.inl ⟨by decide, by decide⟩
    · have h := of_decide_eq_true hb
      rw [List.length_map] at h
      unfold MShape.due_shape at q
      rw [if_pos (show (3072 : Int) < ns.length by omega)] at q
      exact s_ret (EvN.asD (en_lst (ea_cons ed_int ea_nil))) q
    have h := of_decide_eq_false hb
    rw [List.length_map] at h
    unfold MShape.due_shape at q
    rw [if_neg (show ¬ (3072 : Int) < ns.length by omega)] at q
    -- the numbers; three by three
    refine q_set (d := .lst ((ns.map MShape.i32).map Dt.int)) (EvN.asD (EvN.eq (en_lc ns Dt.int (fun z => .int (MShape.i32 z)) (es_list (ed_var rfl)).w (by omega) _ (fun z _ => tg_name) (fun z hz => ed_call (ea_cons (ed_var rfl) ea_nil) ⟨z, rfl, rfl⟩)) (by rw [List.map_map]; rfl))) rfl ?_
    have hL : (ns.map MShape.i32).length = 3 * n := by rw [List.length_map, hl]
    have et := MShape.th_at n _ hL
    generalize ns.map MShape.i32 = L at q hL et ⊢
    have tl : (MShape.th L).length = n := by rw [← et, List.length_map, List.length_range]
    refine q_set (d := .lst ((MShape.th L).map dt3)) (EvN.asD (EvN.eq (en_lc (List.range n) (fun i => Dt.int (0 + (i : Int) * 3)) (fun i => dt3 (L.getD (3 * i) 0, L.getD (3 * i + 1) 0, L.getD (3 * i + 2) 0))
      (es_rng3 (n := n) (ea_cons ed_int (ea_cons (ed_len (ed_var rfl)) (ea_cons ed_int ea_nil))) (by rw [List.length_map, hL]; exact rg_three (by omega))).w (by rw [List.length_range]; omega) _ (fun z _ => tg_name) (fun z hz => ?_)) (by rw [← et, List.map_map]; rfl))) rfl ?_
    · have hz' := List.mem_range.mp hz
      refine ed_tup (ea_cons (ed_ixL (int_at (i := 3 * z) (by omega)) (ed_var rfl) (EvD.eq (ed_var rfl) (congrArg Dt.int (by omega))))
        (ea_cons (ed_ixL (int_at (i := 3 * z + 1) (by omega)) (ed_var rfl) (EvD.eq (ed_add (ed_var rfl) ed_int) (congrArg Dt.int (by omega))))
        (ea_cons (ed_ixL (int_at (i := 3 * z + 2) (by omega)) (ed_var rfl) (EvD.eq (ed_add (ed_var rfl) ed_int) (congrArg Dt.int (by omega)))) ea_nil)))
    -- are all of them widths
    refine q_when (eb_not (eb_v (ed_all (EvN.asD (EvN.eq (en_lc (MShape.th L) dt3 (fun p => .bl (MShape.wd p.1 p.2.1 p.2.2)) (es_list (ed_var rfl)).w (by omega) _ (fun z _ => tg_three) (fun z hz => ed_call (ea_cons (ed_var rfl) (ea_cons (ed_var rfl) (ea_cons (ed_var rfl) ea_nil))) ⟨_, _, _, rfl, rfl⟩)) (es := ((MShape.th L).map fun p => MShape.wd p.1 p.2.1 p.2.2).map Dt.bl) (by rw [List.map_map]; rfl)))))) (fun hc => ?_) (fun hc => ?_)
    · rw [if_pos hc] at q
      exact s_ret (EvN.asD (en_lst (ea_cons ed_int ea_nil))) q
    rw [if_neg (by rw [hc]; exact Bool.false_ne_true)] at q
    have hall : ∀ p, p ∈ MShape.th L → MShape.wd p.1 p.2.1 p.2.2 = true := fun p hp => by
      rw [Bool.not_eq_false', List.all_map] at hc
      exact List.all_eq_true.mp hc p hp
    refine q_new (ea_cons ed_int ea_nil) ?_ (by show 3 < 10; decide)
    have fl : ∀ t : List (Int × Int × Int), (t.flatMap MShape.out3).length = 3 * t.length := fun t => by
      induction t with
      | nil => rfl
      | cons a r ih =>
        rw [List.flatMap_cons, List.length_append, ih, List.length_cons]
        show 3 + _ = _
        omega
    refine q_for (es_list (ed_var (n := 2) rfl)) (fun i Γ1 M1 => ∃ xa xb xc, Γ1 = [some (.lst (ns.map Dt.int)), some (.lst (L.map Dt.int)), some (.lst ((MShape.th L).map dt3)), none, xa, xb, xc, none, none, none] ∧ M1 = some (3, (0 :: ((MShape.th L).take i).flatMap MShape.out3).map Dt.int)) ⟨_, _, _, rfl, rfl⟩ ?_ ?_
    · rintro Ga i d Γ1 M1 N _ hi ⟨xa, xb, xc, rfl, rfl⟩ hN
      have hi' := (List.getElem?_eq_some_iff.mp hi).1
      rw [List.length_map] at hi'
      have gi : (MShape.th L)[i]? = some (MShape.th L)[i] := List.getElem?_eq_getElem hi'
      rw [List.getElem?_map, gi] at hi
      cases Option.some.inj hi
      have mem := List.getElem_mem hi'
      generalize (MShape.th L)[i] = p at gi mem ⊢
      refine ⟨_, _, tg_three, rfl, ?_⟩
      refine s_ext (EvN.eq (en_lc [(Sh67.axes p.1 p.2.1 p.2.2).1, (Sh67.axes p.1 p.2.1 p.2.2).2, (Sh67.way p.1 p.2.1 p.2.2 : Int)] Dt.int (fun z => .int (z % 4294967296)) (es_tup (ed_call (ea_cons (ed_var rfl) (ea_cons (ed_var rfl) (ea_cons (ed_var rfl) ea_nil))) ⟨_, _, _, rfl, hall p mem, rfl⟩)).w (by show 3 ≤ 1000000; decide) _ (fun z _ => tg_name) (fun z hz => ed_word (ed_var rfl))) (es := (MShape.out3 p).map Dt.int) ?_) ?_ (hN _ _ ⟨_, _, _, rfl, ?_⟩)
      · show [Dt.int _, Dt.int _, Dt.int _] = [Dt.int _, Dt.int _, Dt.int _]
        rw [MShape.way_small]
      · rw [List.length_map, List.length_cons, fl, List.length_take]
        show _ + 3 ≤ _
        omega
      · rw [take_one gi, List.flatMap_append, List.flatMap_cons, List.flatMap_nil, List.append_nil, ← List.map_append]
        rfl
    · rintro Γ1 M1 ⟨xa, xb, xc, rfl, rfl⟩
      rw [List.length_map, List.take_length]
      exact s_retM q

end
/-! ### the end -/
def spEnd (K : Fg) : Sp := fun vs H Q E => ∀ C, spD K C R_ap_shape vs H Q E
theorem fin_ap_shape {P : Program} {w : World} {K : Fg} {mg : Str → Option Value} {base : Heap} {C : Addr} {k : Nat} {f : Addr} {fd : FuncData} {ps : List Str} (h : FnOk P w K mg base CX0 k f fd ps (spD K C R_ap_shape)) : FnOk P w K mg base CX0 k f fd ps (spEnd K) := h.imp fun _ _ _ _ q => q C

theorem all_mk {P : Program} {w : World} {K : Fg} {h : Heap} {mg : Str → Option Value} {fa : Addr} (X : K.In h) (G : h.Ns mainGlobals mg) (hfa : mg "ap_shape" = some (.ref fa))
    {f0 f1 f2 f3 f4 f5 f6 : Addr} {od0 an0 od1 an1 od2 an2 od3 an3 od4 an4 od5 an5 od6 an6 : Option Addr} {sl0 sl1 sl2 sl3 sl4 sl5 sl6 : Array (Option Value)} {oc0 kV0 dc0 pm0 cd0 ct0 oc1 kV1 dc1 pm1 cd1 ct1 oc2 kV2 dc2 pm2 cd2 ct2 oc3 kV3 dc3 pm3 cd3 ct3 oc4 kV4 dc4 pm4 cd4 ct4 oc5 kV5 dc5 pm5 cd5 ct5 oc6 kV6 dc6 pm6 cd6 ct6 : Value} {t_HALF_WORD : Nat} {t_MOST_THINGS : Nat} {t_MOST_WIDTH : Nat} {t_NOT_SO : Nat} {t_OUT_OF_RANGE : Nat} {t_WORD : Nat}
    (a0 : PySem.W.nsIn K mainGlobals "from_word" = some (some (.ref f0)))
    (l0 : K.lookup f0 = some ⟨oc0, od0, .func (PySem.W.fnOf "from_word" "from_word" (defArgs s_from_word) (defBody s_from_word) (defScope s_from_word) .none kV0 dc0 pm0 an0 cd0 ct0), sl0⟩)
    (c0 : PySem.W.codeIn K cd0 "from_word" = true)
    (k0 : PySem.W.keepIn K (.ref f0) = true)
    (a1 : PySem.W.nsIn K mainGlobals "are_widths" = some (some (.ref f1)))
    (l1 : K.lookup f1 = some ⟨oc1, od1, .func (PySem.W.fnOf "are_widths" "are_widths" (defArgs s_are_widths) (defBody s_are_widths) (defScope s_are_widths) .none kV1 dc1 pm1 an1 cd1 ct1), sl1⟩)
    (c1 : PySem.W.codeIn K cd1 "are_widths" = true)
    (k1 : PySem.W.keepIn K (.ref f1) = true)
    (a2 : PySem.W.nsIn K mainGlobals "as_word" = some (some (.ref f2)))
    (l2 : K.lookup f2 = some ⟨oc2, od2, .func (PySem.W.fnOf "as_word" "as_word" (defArgs s_as_word) (defBody s_as_word) (defScope s_as_word) .none kV2 dc2 pm2 an2 cd2 ct2), sl2⟩)
    (c2 : PySem.W.codeIn K cd2 "as_word" = true)
    (k2 : PySem.W.keepIn K (.ref f2) = true)
    (a3 : PySem.W.nsIn K mainGlobals "root" = some (some (.ref f3)))
    (l3 : K.lookup f3 = some ⟨oc3, od3, .func (PySem.W.fnOf "root" "root" (defArgs s_root) (defBody s_root) (defScope s_root) .none kV3 dc3 pm3 an3 cd3 ct3), sl3⟩)
    (c3 : PySem.W.codeIn K cd3 "root" = true)
    (k3 : PySem.W.keepIn K (.ref f3) = true)
    (a4 : PySem.W.nsIn K mainGlobals "which_way" = some (some (.ref f4)))
    (l4 : K.lookup f4 = some ⟨oc4, od4, .func (PySem.W.fnOf "which_way" "which_way" (defArgs s_which_way) (defBody s_which_way) (defScope s_which_way) .none kV4 dc4 pm4 an4 cd4 ct4), sl4⟩)
    (c4 : PySem.W.codeIn K cd4 "which_way" = true)
    (k4 : PySem.W.keepIn K (.ref f4) = true)
    (a5 : PySem.W.nsIn K mainGlobals "shape" = some (some (.ref f5)))
    (l5 : K.lookup f5 = some ⟨oc5, od5, .func (PySem.W.fnOf "shape" "shape" (defArgs s_shape) (defBody s_shape) (defScope s_shape) .none kV5 dc5 pm5 an5 cd5 ct5), sl5⟩)
    (c5 : PySem.W.codeIn K cd5 "shape" = true)
    (k5 : PySem.W.keepIn K (.ref f5) = true)
    (a6 : PySem.W.nsIn K mainGlobals "ap_shape" = some (some (.ref f6)))
    (l6 : K.lookup f6 = some ⟨oc6, od6, .func (PySem.W.fnOf "ap_shape" "ap_shape" (defArgs s_ap_shape) (defBody s_ap_shape) (defScope s_ap_shape) .none kV6 dc6 pm6 an6 cd6 ct6), sl6⟩)
    (c6 : PySem.W.codeIn K cd6 "ap_shape" = true)
    (k6 : PySem.W.keepIn K (.ref f6) = true)
    (z_abs : PySem.W.nsIn K mainGlobals "abs" = some none)
    (z_all : PySem.W.nsIn K mainGlobals "all" = some none)
    (z_len : PySem.W.nsIn K mainGlobals "len" = some none)
    (z_range : PySem.W.nsIn K mainGlobals "range" = some none)
    (y_HALF_WORD : PySem.W.nsIn K mainGlobals "HALF_WORD" = some (some (.int (2147483648) t_HALF_WORD)))
    (y_MOST_THINGS : PySem.W.nsIn K mainGlobals "MOST_THINGS" = some (some (.int (1024) t_MOST_THINGS)))
    (y_MOST_WIDTH : PySem.W.nsIn K mainGlobals "MOST_WIDTH" = some (some (.int (33554432) t_MOST_WIDTH)))
    (y_NOT_SO : PySem.W.nsIn K mainGlobals "NOT_SO" = some (some (.int (-3) t_NOT_SO)))
    (y_OUT_OF_RANGE : PySem.W.nsIn K mainGlobals "OUT_OF_RANGE" = some (some (.int (-2) t_OUT_OF_RANGE)))
    (y_WORD : PySem.W.nsIn K mainGlobals "WORD" = some (some (.int (4294967296) t_WORD)))
    : ∃ fd : FuncData, (∀ (s : Shared) (us : List Value), us.length = (["l"] : List Str).length → BindsTo s fd ⟨us, []⟩ ((["l"] : List Str).zip us)) ∧ ∀ base : Heap, K.In base → base.Ns mainGlobals mg → FnOk P w K mg base CX0 3 fa fd ["l"] (spEnd K) := by
  have e := hfa.symm.trans (PySem.W.mg_of X G a6)
  cases e
  have T : Tx K mg 0 := ⟨PySem.W.mg_none_of X G z_abs, PySem.W.mg_none_of X G z_all, PySem.W.mg_none_of X G z_len, PySem.W.mg_none_of X G z_range, ⟨_, PySem.W.mg_of X G y_HALF_WORD⟩, ⟨_, PySem.W.mg_of X G y_MOST_THINGS⟩, ⟨_, PySem.W.mg_of X G y_MOST_WIDTH⟩, ⟨_, PySem.W.mg_of X G y_NOT_SO⟩, ⟨_, PySem.W.mg_of X G y_OUT_OF_RANGE⟩, ⟨_, PySem.W.mg_of X G y_WORD⟩⟩
  have F0 := fun_mk (st := s_from_word) l0 c0 k0
  have b0 := F0.binds (ps := ["word"]) fun _ _ _ _ _ _ us hl => match us, hl with | [_], _ => rfl
  have F1 := fun_mk (st := s_are_widths) l1 c1 k1
  have b1 := F1.binds (ps := ["a", "b", "c"]) fun _ _ _ _ _ _ us hl => match us, hl with | [_, _, _], _ => rfl
  have F2 := fun_mk (st := s_as_word) l2 c2 k2
  have b2 := F2.binds (ps := ["number"]) fun _ _ _ _ _ _ us hl => match us, hl with | [_], _ => rfl
  have F3 := fun_mk (st := s_root) l3 c3 k3
  have b3 := F3.binds (ps := ["number"]) fun _ _ _ _ _ _ us hl => match us, hl with | [_], _ => rfl
  have F4 := fun_mk (st := s_which_way) l4 c4 k4
  have b4 := F4.binds (ps := ["a", "b", "c"]) fun _ _ _ _ _ _ us hl => match us, hl with | [_, _, _], _ => rfl
  have F5 := fun_mk (st := s_shape) l5 c5 k5
  have b5 := F5.binds (ps := ["a", "b", "c"]) fun _ _ _ _ _ _ us hl => match us, hl with | [_, _, _], _ => rfl
  have F6 := fun_mk (st := s_ap_shape) l6 c6 k6
  have b6 := F6.binds (ps := ["l"]) fun _ _ _ _ _ _ us hl => match us, hl with | [_], _ => rfl
  refine ⟨PySem.W.fnOf "ap_shape" "ap_shape" (defArgs s_ap_shape) (defBody s_ap_shape) (defScope s_ap_shape) .none kV6 dc6 pm6 an6 cd6 ct6, fun s us hu => match us, hu with | [_], _ => .of_eq rfl, fun base _ _ => ?_⟩
  have h_from_word : Cal P w K mg base 0 1 "from_word" ["word"] R_from_word := ⟨_, _, ok_from_word T F0 , PySem.W.mg_of X G a0, F0.kp, b0⟩
  have h_are_widths : Cal P w K mg base 0 1 "are_widths" ["a", "b", "c"] R_are_widths := ⟨_, _, ok_are_widths T F1 , PySem.W.mg_of X G a1, F1.kp, b1⟩
  have h_as_word : Cal P w K mg base 0 1 "as_word" ["number"] R_as_word := ⟨_, _, ok_as_word T F2 , PySem.W.mg_of X G a2, F2.kp, b2⟩
  have h_root : Cal P w K mg base 0 1 "root" ["number"] R_root := ⟨_, _, ok_root T F3 , PySem.W.mg_of X G a3, F3.kp, b3⟩
  have h_which_way : Cal P w K mg base 0 1 "which_way" ["a", "b", "c"] R_which_way := ⟨_, _, ok_which_way T F4 , PySem.W.mg_of X G a4, F4.kp, b4⟩
  have h_shape : Cal P w K mg base 0 2 "shape" ["a", "b", "c"] R_shape := ⟨_, _, ok_shape T F5 h_root h_which_way, PySem.W.mg_of X G a5, F5.kp, b5⟩
  exact fin_ap_shape (ok_ap_shape T F6 h_from_word h_are_widths h_as_word h_shape)
end Pd
open PySem PySem.W PyProof.Rows
set_option maxRecDepth 100000 in
set_option maxHeartbeats 0 in
theorem PySem.Challenge.cw_starlight_s06_ap_shape_holds : PySem.Challenge.rw_starlight_s06_ap_shape.Holds := by
  w_on; k_headS; (case hw => exact ⟨[.list []], by decide +kernel, by decide +kernel⟩)
  k_fillS
  refine L2.walk_specK (r := PySem.Challenge.rw_starlight_s06_ap_shape) (k := 3) (CX := L2.CX0) (ps := ["l"]) (sp := Pd.spEnd) (by decide +kernel) rfl rfl ⟨rfl, by decide, by decide⟩ (fun w h Y => PySem.W.kIn_of Y) ?F ?S (fun _ _ _ _ z => z)
  case F =>
    intro w mg fa h Y KX G hmg
    refine' Pd.all_mk KX G hmg ?a0 ?l0 ?c0 ?k0 ?a1 ?l1 ?c1 ?k1 ?a2 ?l2 ?c2 ?k2 ?a3 ?l3 ?c3 ?k3 ?a4 ?l4 ?c4 ?k4 ?a5 ?l5 ?c5 ?k5 ?a6 ?l6 ?c6 ?k6 ?z_abs ?z_all ?z_len ?z_range ?y_HALF_WORD ?y_MOST_THINGS ?y_MOST_WIDTH ?y_NOT_SO ?y_OUT_OF_RANGE ?y_WORD
    (case a0 => k_is)
    (case l0 => k_is)
    (case c0 => k_is)
    (case k0 => k_is)
    (case a1 => k_is)
    (case l1 => k_is)
    (case c1 => k_is)
    (case k1 => k_is)
    (case a2 => k_is)
    (case l2 => k_is)
    (case c2 => k_is)
    (case k2 => k_is)
    (case a3 => k_is)
    (case l3 => k_is)
    (case c3 => k_is)
    (case k3 => k_is)
    (case a4 => k_is)
    (case l4 => k_is)
    (case c4 => k_is)
    (case k4 => k_is)
    (case a5 => k_is)
    (case l5 => k_is)
    (case c5 => k_is)
    (case k5 => k_is)
    (case a6 => k_is)
    (case l6 => k_is)
    (case c6 => k_is)
    (case k6 => k_is)
    (case z_abs => k_is)
    (case z_all => k_is)
    (case z_len => k_is)
    (case z_range => k_is)
    (case y_HALF_WORD => k_is)
    (case y_MOST_THINGS => k_is)
    (case y_MOST_WIDTH => k_is)
    (case y_NOT_SO => k_is)
    (case y_OUT_OF_RANGE => k_is)
    (case y_WORD => k_is)
  case S =>
    intro K H xs a hO hwi hask hx
    obtain ⟨ns, u⟩ := a
    cases hx with
    | cons h1 h2 =>
      cases h2
      have q : ((PySem.W.Codec.inLen 0 3090 ns && ns.all (PySem.W.Codec.inInt 0 4294967295)) && true) = true := hwi
      rw [Bool.and_eq_true, Bool.and_eq_true] at q
      have hl := (PySem.W.Codec.inNat_iff.mp q.1.1).2
      have hb := Pd.all_int q.1.2
      have h3 := MShape.asked_shape ns hask
      intro C
      refine ⟨H, _, _, L2.Same.refl H, .cons (Pd.dw_list h1) .nil, ⟨ns, ns.length / 3, rfl, h3, by omega, rfl⟩, fun v G2 H2 g dv => ?_⟩
      have e := Pd.dr_out dv g.gh
      rw [MShape.shape_is ns hb h3] at e
      exact e

#print axioms PySem.Challenge.cw_starlight_s06_ap_shape_holds
