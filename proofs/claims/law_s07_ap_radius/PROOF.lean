import PyProof.Rows.All
import Wide.All
import OpenK.AllK
import Wide.FinOn
import Open.SpecLaws
import KE.OsGo
import HandS.ForSpec
import HandS.Comp
import HandS.Iter
import HandS.Walk
import HandS.Wide
import HandS.WideBits
import HandS.SortInts
import PySem.Challenge.RW_starlight_s07_ap_radius

set_option Elab.async false
set_option linter.all false
set_option maxRecDepth 100000
set_option maxHeartbeats 4000000
/-! Pd: pure data, told symbolically: what slots hold is told by data, what a reading gives is told by data, whatever the heap. -/
namespace Pd
open PySem PySem.Spec PyProof.Rows L2
abbrev Fg := PySem.W.Frag
/-- data: ints, truth values, lists, tuples; a frame by its sides and its numbers -/
inductive Dt where
  | int (i : Int)
  | bl (b : Bool)
  | lst (ds : List Dt)
  | tup (ds : List Dt)
  | frm (w h : Int) (f : List Int)
def fF (w h : Int) (fa : Addr) : List (Str × V) := [("wide", .int w), ("high", .int h), ("numbers", .ref fa)]
mutual
inductive Dr (K : Fg) (C : Addr) (G : Hp) : V → Dt → Prop
  | int (i : Int) : Dr K C G (.int i) (.int i)
  | bl (b : Bool) : Dr K C G (.bl b) (.bl b)
  | lst {a : Addr} {xs : List V} {ds : List Dt} : SqL K G a xs → Drs K C G xs ds → Dr K C G (.ref a) (.lst ds)
  | tup {a : Addr} {xs : List V} {ds : List Dt} : SqT K G a xs → Drs K C G xs ds → Dr K C G (.ref a) (.tup ds)
  | frm {a dx fa : Addr} {w h : Int} {f : List Int} : G a = some (.ins C dx (fF w h fa)) → SqL K G fa (f.map V.int) → Dr K C G (.ref a) (.frm w h f)
inductive Drs (K : Fg) (C : Addr) (G : Hp) : List V → List Dt → Prop
  | nil : Drs K C G [] []
  | cons {v : V} {vs : List V} {d : Dt} {ds : List Dt} : Dr K C G v d → Drs K C G vs ds → Drs K C G (v :: vs) (d :: ds)
end
theorem sqt_go {K : Fg} {H H' : Hp} {a : Addr} {xs : List V} (e : Same H H') (h : SqT K H a xs) : SqT K H' a xs := by
  rcases h with (p | ⟨u, p⟩) | p
  · exact Or.inl (Or.inl (e a _ p))
  · exact Or.inl (Or.inr ⟨u, e a _ p⟩)
  · exact Or.inr p
section
variable {K : Fg} {C : Addr} {G G' : Hp}
mutual
theorem dr_go (e : Same G G') : ∀ (d : Dt) (v : V), Dr K C G v d → Dr K C G' v d
  | .int i, _, x => by cases x; exact .int i
  | .bl b, _, x => by cases x; exact .bl b
  | .lst ds, _, x => by
    cases x with
    | lst p q => exact .lst (e.seq p) (drs_go e ds _ q)
  | .tup ds, _, x => by
    cases x with
    | tup p q => exact .tup (sqt_go e p) (drs_go e ds _ q)
  | .frm w h f, _, x => by
    cases x with
    | frm p q => exact .frm (e _ _ p) (e.seq q)
theorem drs_go (e : Same G G') : ∀ (ds : List Dt) (vs : List V), Drs K C G vs ds → Drs K C G' vs ds
  | [], _, x => by cases x; exact .nil
  | d :: ds, _, x => by
    cases x with
    | cons p q => exact .cons (dr_go e d _ p) (drs_go e ds _ q)
end
theorem Dr.go {d : Dt} {v : V} (x : Dr K C G v d) (e : Same G G') : Dr K C G' v d := dr_go e d v x
theorem Drs.go {ds : List Dt} {vs : List V} (x : Drs K C G vs ds) (e : Same G G') : Drs K C G' vs ds := drs_go e ds vs x
theorem Drs.len : ∀ {ds : List Dt} {vs : List V}, Drs K C G vs ds → vs.length = ds.length
  | [], _, x => by cases x; rfl
  | d :: ds, _, x => by
    cases x with
    | cons p q =>
      show _ + 1 = _ + 1
      rw [q.len]
theorem Drs.get : ∀ {ds : List Dt} {vs : List V} {i : Nat} {v : V}, Drs K C G vs ds → vs[i]? = some v → ∃ d, ds[i]? = some d ∧ Dr K C G v d
  | [], _, i, v, x, h => by cases x; simp at h
  | d :: ds, _, 0, v, x, h => by
    cases x with
    | cons p q =>
      cases Option.some.inj h
      exact ⟨d, rfl, p⟩
  | d :: ds, _, i + 1, v, x, h => by
    cases x with
    | cons p q => exact q.get (i := i) h
theorem Drs.at_ : ∀ {ds : List Dt} {vs : List V} {i : Nat} {d : Dt}, Drs K C G vs ds → ds[i]? = some d → ∃ v, vs[i]? = some v ∧ Dr K C G v d
  | [], _, i, v, x, h => by simp at h
  | d :: ds, _, 0, v, x, h => by
    cases x with
    | cons p q =>
      cases Option.some.inj h
      exact ⟨_, rfl, p⟩
  | d :: ds, _, i + 1, v, x, h => by
    cases x with
    | cons p q => exact q.at_ (i := i) h
theorem Drs.app : ∀ {ds : List Dt} {vs : List V} {es : List Dt} {us : List V}, Drs K C G vs ds → Drs K C G us es → Drs K C G (vs ++ us) (ds ++ es)
  | [], _, _, _, x, y => by cases x; exact y
  | d :: ds, _, _, _, x, y => by
    cases x with
    | cons p q => exact .cons p (q.app y)
theorem Drs.one {d : Dt} {v : V} (x : Dr K C G v d) : Drs K C G [v] [d] := .cons x .nil
theorem drs_ints : ∀ {ns : List Int} {vs : List V}, Drs K C G vs (ns.map Dt.int) → vs = ns.map V.int
  | [], _, x => by cases x; rfl
  | n :: ns, _, x => by
    cases x with
    | cons p q =>
      cases p
      rw [drs_ints q]
      rfl
theorem ints_drs : ∀ ns : List Int, Drs K C G (ns.map V.int) (ns.map Dt.int)
  | [] => .nil
  | n :: ns => .cons (.int n) (ints_drs ns)
theorem drs_bls : ∀ {ns : List Bool} {vs : List V}, Drs K C G vs (ns.map Dt.bl) → vs = ns.map V.bl
  | [], _, x => by cases x; rfl
  | n :: ns, _, x => by
    cases x with
    | cons p q =>
      cases p
      rw [drs_bls q]
      rfl
theorem dr_int {v : V} {i : Int} (x : Dr K C G v (.int i)) : v = .int i := by cases x; rfl
theorem dr_bl {v : V} {b : Bool} (x : Dr K C G v (.bl b)) : v = .bl b := by cases x; rfl
end

/-! ### the part of the heap that data may stand in (G), the heap (H), and how both grow -/
structure Gr (G H G' H' : Hp) : Prop where
  hh : Same H H'
  gg : Same G G'
  gh : Same G' H'
  fr : ∀ a, G' a ≠ none → G a ≠ none ∨ H a = none
section
variable {G H G1 H1 G2 H2 : Hp} {p : Addr} {o : HO}
theorem Gr.refl (h : Same G H) : Gr G H G H := ⟨Same.refl H, Same.refl G, h, fun _ n => Or.inl n⟩
theorem Gr.trans (a : Gr G H G1 H1) (b : Gr G1 H1 G2 H2) : Gr G H G2 H2 := by
  refine ⟨a.hh.trans b.hh, a.gg.trans b.gg, b.gh, fun x n => ?_⟩
  rcases b.fr x n with m | m
  · exact a.fr x m
  · exact Or.inr (a.hh.free m)
theorem same_new {h : Hp} (hp : h p = none) : Same h (upd h p o) := fun b u e => by
  rw [upd_ne (ne_of_none e hp)]
  exact e
/-- a new object that data may stand in -/
theorem Gr.new (h : Same G H) (hp : H p = none) : Gr G H (upd G p o) (upd H p o) := by
  refine ⟨same_new hp, same_new (h.free hp), fun b u e => ?_, fun b n => ?_⟩
  · by_cases hb : b = p
    · subst hb
      rw [upd_same] at e ⊢
      exact e
    · rw [upd_ne hb] at e ⊢
      exact h b u e
  · by_cases hb : b = p
    · subst hb
      exact Or.inr hp
    · rw [upd_ne hb] at n
      exact Or.inl n
/-- a new object kept aside -/
theorem Gr.aside (h : Same G H) (hp : H p = none) : Gr G H G (upd H p o) := ⟨same_new hp, Same.refl G, h.trans (same_new hp), fun _ n => Or.inl n⟩
theorem Gr.out (a : Gr G H G1 H1) (g : G p = none) (h : H p = some o) : G1 p = none ∧ H1 p = some o := by
  refine ⟨?_, a.hh p o h⟩
  cases e : G1 p with
  | none => rfl
  | some u =>
    rcases a.fr p (by rw [e]; exact fun z => nomatch z) with m | m
    · exact absurd g m
    · rw [h] at m
      cases m
/-- what stands aside may change -/
theorem Gr.mut (a : Gr G H G1 H1) (h : H p = none) (g : G1 p = none) : Gr G H G1 (upd H1 p o) := by
  refine ⟨fun b u e => ?_, a.gg, fun b u e => ?_, a.fr⟩
  · rw [upd_ne (ne_of_none e h)]
    exact a.hh b u e
  · rw [upd_ne (ne_of_none e g)]
    exact a.gh b u e
/-- what stands aside is shown -/
theorem Gr.show_ (a : Gr G H G1 H1) (h : H p = none) (g : G1 p = none) (e : H1 p = some o) : Gr G H (upd G1 p o) H1 := by
  refine ⟨a.hh, a.gg.trans (same_new g), fun b u e' => ?_, fun b n => ?_⟩
  · by_cases hb : b = p
    · subst hb
      rw [upd_same] at e'
      rw [e, ← e']
    · rw [upd_ne hb] at e'
      exact a.gh b u e'
  · by_cases hb : b = p
    · subst hb
      exact Or.inr h
    · rw [upd_ne hb] at n
      exact a.fr b n
end

/-! ### slots -/
abbrev Ct := List (Option Dt)
structure Sd (K : Fg) (C : Addr) (G : Hp) (σ : L2.St) (Γ : Ct) : Prop where
  len : σ.length = Γ.length
  at_ : ∀ (i : Nat) (d : Dt), Γ[i]? = some (some d) → ∃ v, σ[i]? = some (some v) ∧ Dr K C G v d
section
variable {K : Fg} {C : Addr} {G G' : Hp} {σ : L2.St} {Γ : Ct}
theorem Sd.go (s : Sd K C G σ Γ) (e : Same G G') : Sd K C G' σ Γ := ⟨s.len, fun i d h => by
  obtain ⟨v, a, b⟩ := s.at_ i d h
  exact ⟨v, a, b.go e⟩⟩
theorem Sd.put (s : Sd K C G σ Γ) {v : V} {d : Dt} (j : Nat) (x : Dr K C G v d) : Sd K C G (σ.set j (some v)) (Γ.set j (some d)) := by
  refine ⟨by rw [List.length_set, List.length_set, s.len], fun i e h => ?_⟩
  by_cases hj : j = i
  · subst hj
    have hl : j < Γ.length := by
      have := (List.getElem?_eq_some_iff.mp h).1
      rwa [List.length_set] at this
    rw [List.getElem?_set_self hl] at h
    cases h
    exact ⟨v, List.getElem?_set_self (by rw [s.len]; exact hl), x⟩
  · rw [List.getElem?_set_ne hj] at h ⊢
    exact s.at_ i e h
theorem Sd.forget (s : Sd K C G σ Γ) (j : Nat) : Sd K C G σ (Γ.set j none) := by
  refine ⟨by rw [List.length_set, s.len], fun i e h => ?_⟩
  by_cases hj : j = i
  · subst hj
    have hl : j < Γ.length := by
      have := (List.getElem?_eq_some_iff.mp h).1
      rwa [List.length_set] at this
    rw [List.getElem?_set_self hl] at h
    cases h
  · rw [List.getElem?_set_ne hj] at h
    exact s.at_ i e h
theorem Sd.unput (s : Sd K C G σ Γ) (j : Nat) (u : Option V) : Sd K C G (σ.set j u) (Γ.set j none) := by
  refine ⟨by rw [List.length_set, List.length_set, s.len], fun i e h => ?_⟩
  by_cases hj : j = i
  · subst hj
    have hl : j < Γ.length := by
      have := (List.getElem?_eq_some_iff.mp h).1
      rwa [List.length_set] at this
    rw [List.getElem?_set_self hl] at h
    cases h
  · rw [List.getElem?_set_ne hj] at h ⊢
    exact s.at_ i e h
def wipeC (Γ : Ct) : List Nat → Ct
  | [] => Γ
  | v :: vs => (wipeC Γ vs).set v none
theorem Sd.wipe (s : Sd K C G σ Γ) : ∀ vs : List Nat, Sd K C G (L2.wipe σ vs) (wipeC Γ vs)
  | [] => s
  | v :: vs => (s.wipe vs).unput v none
end
theorem wipe_at (σ : L2.St) : ∀ (vs : List Nat) (i : Nat), (L2.wipe σ vs)[i]? = if i ∈ vs ∧ i < σ.length then some none else σ[i]?
  | [], i => by simp [L2.wipe]
  | v :: vs, i => by
    show ((L2.wipe σ vs).set v none)[i]? = _
    by_cases hv : v = i
    · subst hv
      by_cases hl : v < σ.length
      · rw [List.getElem?_set_self (by rw [wipe_length]; exact hl), if_pos ⟨List.mem_cons_self, hl⟩]
      · rw [List.getElem?_eq_none (by rw [List.length_set, wipe_length]; omega), if_neg (fun z => hl z.2), List.getElem?_eq_none (by omega)]
    · rw [List.getElem?_set_ne hv, wipe_at σ vs i]
      by_cases hc : i ∈ vs ∧ i < σ.length
      · rw [if_pos hc, if_pos ⟨List.mem_cons_of_mem _ hc.1, hc.2⟩]
      · rw [if_neg hc, if_neg]
        intro z
        rcases List.mem_cons.mp z.1 with e | m
        · exact hv e.symm
        · exact hc ⟨m, z.2⟩
theorem wipe_back {σ σ' : L2.St} {vs : List Nat} (hl : σ'.length = σ.length) (h : ∀ j, j ∉ vs → σ'[j]? = (L2.wipe σ vs)[j]?) : L2.wipe σ' vs = L2.wipe σ vs := by
  apply List.ext_getElem?
  intro i
  rw [wipe_at σ' vs i]
  by_cases hc : i ∈ vs ∧ i < σ.length
  · rw [if_pos ⟨hc.1, by rw [hl]; exact hc.2⟩, wipe_at, if_pos hc]
  · rw [if_neg (by rw [hl]; exact hc)]
    by_cases hm : i ∈ vs
    · have hi : ¬ i < σ.length := fun z => hc ⟨hm, z⟩
      rw [List.getElem?_eq_none (by omega), List.getElem?_eq_none (by rw [wipe_length]; omega)]
    · exact h i hm
theorem sd_start {K : Fg} {C : Addr} {G : Hp} {N : List Str} {vs : List V} {ds : List Dt} (h : Drs K C G vs ds) : Sd K C G (L2.start N vs) (ds.map some ++ List.replicate (N.length - ds.length) none) := by
  have e := h.len
  refine ⟨by unfold L2.start; simp [e], fun i d hd => ?_⟩
  unfold L2.start
  by_cases hi : i < ds.length
  · rw [List.getElem?_append_left (by simpa using hi), List.getElem?_map] at hd
    obtain ⟨d', h1, h2⟩ := Option.map_eq_some_iff.mp hd
    cases h2
    obtain ⟨v, hv, dv⟩ := h.at_ h1
    refine ⟨v, ?_, dv⟩
    rw [List.getElem?_append_left (by simp [e]; exact hi), List.getElem?_map, hv]
    rfl
  · rw [List.getElem?_append_right (by simp; omega)] at hd
    rw [List.getElem?_replicate] at hd
    split at hd
    · cases hd
    · cases hd

/-! ### what a reading gives -/
section
variable (K : Fg) (C : Addr)
def EvD (te : TE) (Γ : Ct) (d : Dt) : Prop := ∀ (σ : L2.St) (G H : Hp), Sd K C G σ Γ → Same G H → ∀ Q : VK, (∀ v G2 H2, Gr G H G2 H2 → Dr K C G2 v d → Q v H2) → te σ H Q
/-- a new list -/
def EvN (te : TE) (Γ : Ct) (ds : List Dt) : Prop := ∀ (σ : L2.St) (G H : Hp), Sd K C G σ Γ → Same G H → ∀ Q : VK, (∀ p xs G2 H2, Gr G H G2 H2 → G2 p = some (.lst xs) → Drs K C G2 xs ds → Q (.ref p) H2) → te σ H Q
def EvB (tt : TT) (Γ : Ct) (b : Bool) : Prop := ∀ (σ : L2.St) (G H : Hp), Sd K C G σ Γ → Same G H → ∀ Q : Bool → Hp → Prop, (∀ G2 H2, Gr G H G2 H2 → Q b H2) → tt σ H Q
def EvA (ta : TA) (Γ : Ct) (ds : List Dt) : Prop := ∀ (σ : L2.St) (G H : Hp), Sd K C G σ Γ → Same G H → ∀ Q : List V → Hp → Prop, (∀ vs G2 H2, Gr G H G2 H2 → Drs K C G2 vs ds → Q vs H2) → ta σ H Q
/-- what is walked: at each turn the next of ds -/
def WkD (J : It) (ds : List Dt) (Ga : Hp) : Prop := Walk J ds.length (fun H => Same Ga H) fun i H x H' => ∀ G', Same Ga G' → Same G' H → ∃ d G2, ds[i]? = some d ∧ Gr G' H G2 H' ∧ Dr K C G2 x d
/-- .. without a new object -/
def WkS (J : It) (ds : List Dt) (Ga : Hp) : Prop := Walk J ds.length (fun H => Same Ga H) fun i H x H' => H' = H ∧ ∃ d, ds[i]? = some d ∧ Dr K C Ga x d
def EvW (wi : TI) (Γ : Ct) (ds : List Dt) : Prop := ∀ (σ : L2.St) (G H : Hp), Sd K C G σ Γ → Same G H → ∀ R : It → Hp → Prop, (∀ J G2 H2, Gr G H G2 H2 → WkD K C J ds G2 → R J H2) → wi σ H R
def EvS (wi : TI) (Γ : Ct) (ds : List Dt) : Prop := ∀ (σ : L2.St) (G H : Hp), Sd K C G σ Γ → Same G H → ∀ R : It → Hp → Prop, (∀ J G2 H2, Gr G H G2 H2 → WkS K C J ds G2 → R J H2) → wi σ H R
/-- a target: d goes to the slots ts, and Γ becomes Γ' -/
def TgD (g : TG) (ts : List Nat) (d : Dt) (Γ Γ' : Ct) : Prop := ∀ (σ : L2.St) (G H : Hp) (x : V), Sd K C G σ Γ → Same G H → Dr K C G x d → ∀ Q : L2.St → Hp → Prop, (∀ σ', σ'.length = σ.length → Sd K C G σ' Γ' → (∀ j, j ∉ ts → σ'[j]? = σ[j]?) → Q σ' H) → g x σ H Q
/-- a def's promise: R ds d says that from ds it gives d -/
def spD (R : List Dt → Dt → Prop) : Sp := fun vs H Q _ => ∃ G ds d, Same G H ∧ Drs K C G vs ds ∧ R ds d ∧ ∀ v G2 H2, Gr G H G2 H2 → Dr K C G2 v d → Q v H2
end
section
variable {K : Fg} {C : Addr} {Γ Γ' : Ct} {d d1 d2 e : Dt} {ds es : List Dt} {ta tb tc te : TE} {tt tu : TT} {tr : TA} {i j k : Int} {b c : Bool}
theorem WkS.w {J : It} {Ga : Hp} (w : WkS K C J ds Ga) : WkD K C J ds Ga := w.mono (fun _ h => h) fun i H x H' _ _ ⟨e, d, h1, h2⟩ G' s1 s2 => by
  subst e
  exact ⟨d, G', h1, Gr.refl s2, h2.go s1⟩
theorem EvS.w {wi : TI} (h : EvS K C wi Γ ds) : EvW K C wi Γ ds := fun σ G H sd s R q => h σ G H sd s R fun J G2 H2 g w => q J G2 H2 g w.w
theorem EvN.asD (h : EvN K C te Γ ds) : EvD K C te Γ (.lst ds) := fun σ G H sd s Q q => h σ G H sd s Q fun p xs G2 H2 g hp dv => q _ G2 H2 g (.lst (SqL.of hp) dv)
theorem EvD.eq (h : EvD K C te Γ d) (e1 : d = e) : EvD K C te Γ e := e1 ▸ h
theorem EvN.eq (h : EvN K C te Γ ds) (e1 : ds = es) : EvN K C te Γ es := e1 ▸ h
theorem EvB.eq (h : EvB K C tt Γ b) (e1 : b = c) : EvB K C tt Γ c := e1 ▸ h
theorem ed_var {n : Nat} (h : Γ[n]? = some (some d)) : EvD K C (tVar n) Γ d := fun σ G H sd s Q q => by
  obtain ⟨v, h1, h2⟩ := sd.at_ n d h
  exact ⟨v, h1, q v G H (Gr.refl s) h2⟩
theorem ed_int : EvD K C (tC (.int i)) Γ (.int i) := fun _ G H _ s _ q => q _ G H (Gr.refl s) (.int i)
theorem ed_bl : EvD K C (tC (.bl b)) Γ (.bl b) := fun _ G H _ s _ q => q _ G H (Gr.refl s) (.bl b)
theorem ed_c {v : V} (h : ∀ G, Dr K C G v d) : EvD K C (tC v) Γ d := fun _ G H _ s _ q => q _ G H (Gr.refl s) (h G)
theorem ed_op {r : R2} (ha : EvD K C ta Γ d1) (hb : EvD K C tb Γ d2) (hr : ∀ G H x y, Same G H → Dr K C G x d1 → Dr K C G y d2 → ∀ Q : VK, (∀ v G2 H2, Gr G H G2 H2 → Dr K C G2 v d → Q v H2) → r x y H Q) : EvD K C (tOp r ta tb) Γ d := fun σ G H sd s Q q =>
  ha σ G H sd s _ fun x G2 H2 g2 dx => hb σ G2 H2 (sd.go g2.gg) g2.gh _ fun y G3 H3 g3 dy => hr G3 H3 x y g3.gh (dx.go g3.gg) dy Q fun v G4 H4 g4 dv => q v G4 H4 ((g2.trans g3).trans g4) dv
theorem ed_I0 {g : Int → Int → V} (hz : ∀ G, Dr K C G (g i j) d) (ha : EvD K C ta Γ (.int i)) (hb : EvD K C tb Γ (.int j)) : EvD K C (tOp (rI0 g) ta tb) Γ d := ed_op ha hb fun G H x y s dx dy Q q => by
  cases dx
  cases dy
  exact ⟨i, j, rfl, rfl, q _ G H (Gr.refl s) (hz G)⟩
theorem ed_I {cc : Int → Int → Prop} {g : Int → Int → V} (hz : ∀ G, Dr K C G (g i j) d) (ha : EvD K C ta Γ (.int i)) (hb : EvD K C tb Γ (.int j)) (hc : cc i j) : EvD K C (tOp (rI cc g) ta tb) Γ d := ed_op ha hb fun G H x y s dx dy Q q => by
  cases dx
  cases dy
  exact ⟨i, j, rfl, rfl, hc, q _ G H (Gr.refl s) (hz G)⟩
theorem ed_add (ha : EvD K C ta Γ (.int i)) (hb : EvD K C tb Γ (.int j)) : EvD K C (tOp (rI0 fun i j => .int (i + j)) ta tb) Γ (.int (i + j)) := ed_I0 (fun _ => .int _) ha hb
theorem ed_sub (ha : EvD K C ta Γ (.int i)) (hb : EvD K C tb Γ (.int j)) : EvD K C (tOp (rI0 fun i j => .int (i - j)) ta tb) Γ (.int (i - j)) := ed_I0 (fun _ => .int _) ha hb
theorem ed_lt (ha : EvD K C ta Γ (.int i)) (hb : EvD K C tb Γ (.int j)) : EvD K C (tOp (rI0 fun i j => .bl (decide (i < j))) ta tb) Γ (.bl (decide (i < j))) := ed_I0 (fun _ => .bl _) ha hb
theorem ed_le (ha : EvD K C ta Γ (.int i)) (hb : EvD K C tb Γ (.int j)) : EvD K C (tOp (rI0 fun i j => .bl (decide (i ≤ j))) ta tb) Γ (.bl (decide (i ≤ j))) := ed_I0 (fun _ => .bl _) ha hb
theorem ed_gt (ha : EvD K C ta Γ (.int i)) (hb : EvD K C tb Γ (.int j)) : EvD K C (tOp (rI0 fun i j => .bl (decide (j < i))) ta tb) Γ (.bl (decide (j < i))) := ed_I0 (fun _ => .bl _) ha hb
theorem ed_ge (ha : EvD K C ta Γ (.int i)) (hb : EvD K C tb Γ (.int j)) : EvD K C (tOp (rI0 fun i j => .bl (decide (j ≤ i))) ta tb) Γ (.bl (decide (j ≤ i))) := ed_I0 (fun _ => .bl _) ha hb
theorem ed_mul (ha : EvD K C ta Γ (.int i)) (hb : EvD K C tb Γ (.int j)) (hc : CMul i j) : EvD K C (tOp (rI CMul fun i j => .int (i * j)) ta tb) Γ (.int (i * j)) := ed_I (fun _ => .int _) ha hb hc
theorem ed_div (ha : EvD K C ta Γ (.int i)) (hb : EvD K C tb Γ (.int j)) (hc : CDivW i j) : EvD K C (tOp (rI CDivW fun i j => .int (i / j)) ta tb) Γ (.int (i / j)) := ed_I (fun _ => .int _) ha hb hc
theorem ed_mod (ha : EvD K C ta Γ (.int i)) (hb : EvD K C tb Γ (.int j)) (hc : 0 < j) : EvD K C (tOp (rI (fun _ j => 0 < j) fun i j => .int (i % j)) ta tb) Γ (.int (i % j)) := ed_I (cc := fun _ j => 0 < j) (fun _ => .int _) ha hb hc
theorem ed_shl (ha : EvD K C ta Γ (.int i)) (hb : EvD K C tb Γ (.int j)) (hc : CPow i j) : EvD K C (tOp (rI CPow fun i j => .int (i * 2 ^ j.toNat)) ta tb) Γ (.int (i * 2 ^ j.toNat)) := ed_I (fun _ => .int _) ha hb hc
theorem ed_shr (ha : EvD K C ta Γ (.int i)) (hb : EvD K C tb Γ (.int j)) (hc : 0 ≤ j) : EvD K C (tOp (rI (fun _ j => 0 ≤ j) fun i j => .int (i / 2 ^ j.toNat)) ta tb) Γ (.int (i / 2 ^ j.toNat)) := ed_I (cc := fun _ j => 0 ≤ j) (fun _ => .int _) ha hb hc
theorem ed_neg (ha : EvD K C ta Γ (.int i)) : EvD K C (tUn (rU fun i => .int (-i)) ta) Γ (.int (-i)) := fun σ G H sd s Q q => ha σ G H sd s _ fun x G2 H2 g2 dx => by
  cases dx
  exact ⟨i, rfl, q _ G2 H2 g2 (.int _)⟩
theorem ed_bits (ha : EvD K C ta Γ (.int i)) : EvD K C (tBits ta) Γ (.int (Builtin.Int.intBits i : Nat)) := fun σ G H sd s Q q => ha σ G H sd s _ fun x G2 H2 g2 dx => by
  cases dx
  exact ⟨i, rfl, q _ G2 H2 g2 (.int _)⟩
theorem ed_chain {r r' : R2} (ha : EvD K C ta Γ (.int i)) (hb : EvD K C tb Γ (.int j)) (hc : EvD K C tc Γ (.int k))
    (hr : ∀ G H, Same G H → ∀ Q : VK, Q (.bl b) H → r (.int i) (.int j) H Q) (hr' : ∀ G H, Same G H → ∀ Q : VK, Q (.bl c) H → r' (.int j) (.int k) H Q) : EvD K C (tChain r r' ta tb tc) Γ (.bl (b && c)) := fun σ G H sd s Q q =>
  ha σ G H sd s _ fun x G2 H2 g2 dx => hb σ G2 H2 (sd.go g2.gg) g2.gh _ fun y G3 H3 g3 dy => by
    cases dx
    cases dy
    refine hr G3 H3 g3.gh _ ⟨b, rfl, ?_⟩
    have g := g2.trans g3
    cases b with
    | true =>
      show tc σ H3 _
      exact hc σ G3 H3 (sd.go g.gg) g.gh _ fun z G4 H4 g4 dz => by
        cases dz
        exact hr' G4 H4 g4.gh _ (q _ G4 H4 (g.trans g4) (.bl c))
    | false => exact q _ G3 H3 g (.bl false)
theorem ed_chainLe (ha : EvD K C ta Γ (.int i)) (hb : EvD K C tb Γ (.int j)) (hc : EvD K C tc Γ (.int k)) : EvD K C (tChain (rI0 fun i j => .bl (decide (i ≤ j))) (rI0 fun i j => .bl (decide (i ≤ j))) ta tb tc) Γ (.bl (decide (i ≤ j) && decide (j ≤ k))) :=
  ed_chain ha hb hc (fun _ _ _ _ q => ⟨_, _, rfl, rfl, q⟩) fun _ _ _ _ q => ⟨_, _, rfl, rfl, q⟩
theorem ed_chainLtLe (ha : EvD K C ta Γ (.int i)) (hb : EvD K C tb Γ (.int j)) (hc : EvD K C tc Γ (.int k)) : EvD K C (tChain (rI0 fun i j => .bl (decide (i < j))) (rI0 fun i j => .bl (decide (i ≤ j))) ta tb tc) Γ (.bl (decide (i < j) && decide (j ≤ k))) :=
  ed_chain ha hb hc (fun _ _ _ _ q => ⟨_, _, rfl, rfl, q⟩) fun _ _ _ _ q => ⟨_, _, rfl, rfl, q⟩
theorem ed_andV (ha : EvD K C ta Γ (.bl b)) (hb : EvD K C tb Γ (.bl c)) : EvD K C (tAndV ta tb) Γ (.bl (b && c)) := fun σ G H sd s Q q => ha σ G H sd s _ fun x G2 H2 g2 dx => by
  cases dx
  refine ⟨b, rfl, ?_⟩
  cases b with
  | true =>
    show tb σ H2 Q
    exact hb σ G2 H2 (sd.go g2.gg) g2.gh _ fun y G3 H3 g3 dy => q y G3 H3 (g2.trans g3) dy
  | false =>
    show Q (.bl false) H2
    exact q _ G2 H2 g2 (.bl false)
theorem eb_v (ha : EvD K C ta Γ (.bl b)) : EvB K C (tB ta) Γ b := fun σ G H sd s Q q => ha σ G H sd s _ fun x G2 H2 g2 dx => by
  cases dx
  exact ⟨b, rfl, q G2 H2 g2⟩
theorem eb_t (ha : EvD K C ta Γ (.bl b)) : EvB K C (tTest ta) Γ b := fun σ G H sd s Q q => ha σ G H sd s _ fun x G2 H2 g2 dx => by
  cases dx
  exact ⟨b, rfl, q G2 H2 g2⟩
theorem eb_and (ha : EvB K C tt Γ b) (hb : EvB K C tu Γ c) : EvB K C (tAnd tt tu) Γ (b && c) := fun σ G H sd s Q q => ha σ G H sd s _ fun G2 H2 g2 => by
  cases b with
  | true =>
    show tu σ H2 Q
    exact hb σ G2 H2 (sd.go g2.gg) g2.gh _ fun G3 H3 g3 => q G3 H3 (g2.trans g3)
  | false =>
    show Q false H2
    exact q G2 H2 g2
theorem eb_or (ha : EvB K C tt Γ b) (hb : EvB K C tu Γ c) : EvB K C (tOr tt tu) Γ (b || c) := fun σ G H sd s Q q => ha σ G H sd s _ fun G2 H2 g2 => by
  cases b with
  | true =>
    show Q true H2
    exact q G2 H2 g2
  | false =>
    show tu σ H2 Q
    exact hb σ G2 H2 (sd.go g2.gg) g2.gh _ fun G3 H3 g3 => q G3 H3 (g2.trans g3)
theorem eb_not (ha : EvB K C tt Γ b) : EvB K C (tNot tt) Γ (!b) := fun σ G H sd s Q q => ha σ G H sd s _ fun G2 H2 g2 => q G2 H2 g2
theorem ed_if (ht : EvB K C tt Γ b) (ha : b = true → EvD K C ta Γ d) (hb : b = false → EvD K C tb Γ d) : EvD K C (tIf tt ta tb) Γ d := fun σ G H sd s Q q => ht σ G H sd s _ fun G2 H2 g2 => by
  cases b with
  | true =>
    show ta σ H2 Q
    exact ha rfl σ G2 H2 (sd.go g2.gg) g2.gh _ fun y G3 H3 g3 dy => q y G3 H3 (g2.trans g3) dy
  | false =>
    show tb σ H2 Q
    exact hb rfl σ G2 H2 (sd.go g2.gg) g2.gh _ fun y G3 H3 g3 dy => q y G3 H3 (g2.trans g3) dy
theorem ea_nil : EvA K C tNil Γ [] := fun _ G H _ s _ q => q [] G H (Gr.refl s) .nil
theorem ea_cons (ha : EvD K C ta Γ d) (hr : EvA K C tr Γ ds) : EvA K C (tCons ta tr) Γ (d :: ds) := fun σ G H sd s Q q => ha σ G H sd s _ fun x G2 H2 g2 dx =>
  hr σ G2 H2 (sd.go g2.gg) g2.gh _ fun vs G3 H3 g3 dv => q _ G3 H3 (g2.trans g3) (.cons (dx.go g3.gg) dv)
theorem sz_le {n : Nat} (h : n ≤ 1000000) : n ≤ sizeLine := Nat.le_trans h (by decide)
theorem ed_tup (h : EvA K C tr Γ ds) (hl : ds.length ≤ 1000000 := by first | exact (by decide) | simp) : EvD K C (tTup tr) Γ (.tup ds) := fun σ G H sd s Q q => h σ G H sd s _ fun vs G2 H2 g2 dv =>
  ⟨sz_le (by rw [dv.len]; exact hl), fun p hp => q _ (upd G2 p (.tup vs)) _ (g2.trans (Gr.new g2.gh hp)) (.tup (SqT.of upd_same) (dv.go (same_new (g2.gh.free hp))))⟩
theorem en_lst (h : EvA K C tr Γ ds) (hl : ds.length ≤ 1000000 := by first | exact (by decide) | simp) : EvN K C (tLst tr) Γ ds := fun σ G H sd s Q q => h σ G H sd s _ fun vs G2 H2 g2 dv =>
  ⟨sz_le (by rw [dv.len]; exact hl), fun p hp => q p vs (upd G2 p (.lst vs)) _ (g2.trans (Gr.new g2.gh hp)) upd_same (dv.go (same_new (g2.gh.free hp)))⟩
theorem ed_ixT {n : Nat} (hn : ds[n]? = some d) (ha : EvD K C ta Γ (.tup ds)) (hb : EvD K C tb Γ (.int (n : Int))) : EvD K C (tOp (rIxT K) ta tb) Γ d := ed_op ha hb fun G H x y s dx dy Q q => by
  cases dx with
  | tup p r =>
    cases dy
    obtain ⟨v, hv, dv⟩ := r.at_ hn
    exact ⟨_, _, _, v, rfl, rfl, sqt_go s p, atI_nat hv, q v G H (Gr.refl s) dv⟩
theorem ed_at0 (ha : EvD K C ta Γ (.tup (d :: ds))) : EvD K C (tOp (rIxT K) ta (tC (.int 0))) Γ d := ed_ixT (n := 0) rfl ha ed_int
theorem ed_at1 (ha : EvD K C ta Γ (.tup (e :: d :: ds))) : EvD K C (tOp (rIxT K) ta (tC (.int 1))) Γ d := ed_ixT (n := 1) rfl ha ed_int
theorem ed_ixL {n : Nat} (hn : ds[n]? = some d) (ha : EvD K C ta Γ (.lst ds)) (hb : EvD K C tb Γ (.int (n : Int))) : EvD K C (tOp (rIxL K) ta tb) Γ d := ed_op ha hb fun G H x y s dx dy Q q => by
  cases dx with
  | lst p r =>
    cases dy
    obtain ⟨v, hv, dv⟩ := r.at_ hn
    exact ⟨_, _, _, v, rfl, rfl, s.seq p, atI_nat hv, q v G H (Gr.refl s) dv⟩
/-- list + list -/
theorem en_cat (ha : EvN K C ta Γ ds) (hb : EvN K C tb Γ es) (hl : ds.length + es.length ≤ 1000000) : EvN K C (tOp rCat ta tb) Γ (ds ++ es) := fun σ G H sd s Q q =>
  ha σ G H sd s _ fun p xs G2 H2 g2 hp dx => hb σ G2 H2 (sd.go g2.gg) g2.gh _ fun p' ys G3 H3 g3 hp' dy =>
    ⟨p, p', xs, ys, rfl, rfl, g3.gh _ _ (g3.gg _ _ hp), g3.gh _ _ hp', sz_le (by rw [dx.len, dy.len]; exact hl), fun r hr =>
      q r (xs ++ ys) (upd G3 r (.lst (xs ++ ys))) _ ((g2.trans g3).trans (Gr.new g3.gh hr)) upd_same (((dx.go g3.gg).app dy).go (same_new (g3.gh.free hr)))⟩

/-! built-ins -/
theorem ed_cb {r : List V → Hp → VK → Prop} (h : EvA K C tr Γ ds) (hr : ∀ G H vs, Same G H → Drs K C G vs ds → ∀ Q : VK, (∀ v G2 H2, Gr G H G2 H2 → Dr K C G2 v d → Q v H2) → r vs H Q) : EvD K C (tCB r tr) Γ d := fun σ G H sd s Q q =>
  h σ G H sd s _ fun vs G2 H2 g2 dv => hr G2 H2 vs g2.gh dv Q fun v G3 H3 g3 d3 => q v G3 H3 (g2.trans g3) d3
theorem ed_abs (h : EvD K C ta Γ (.int i)) : EvD K C (tCB (fun xs H Q => ∃ i, xs = [.int i] ∧ Q (.int (if i < 0 then -i else i)) H) (tCons ta tNil)) Γ (.int (if i < 0 then -i else i)) := ed_cb (ea_cons h ea_nil) fun G H vs s dv Q q => by
  cases dv with
  | cons p r =>
    cases p
    cases r
    exact ⟨i, rfl, q _ G H (Gr.refl s) (.int _)⟩
theorem ed_max2 (h : EvD K C ta Γ (.int i)) (h' : EvD K C tb Γ (.int j)) : EvD K C (tCB (fun xs H Q => ∃ i j, xs = [.int i, .int j] ∧ Q (.int (if j > i then j else i)) H) (tCons ta (tCons tb tNil))) Γ (.int (if j > i then j else i)) := ed_cb (ea_cons h (ea_cons h' ea_nil)) fun G H vs s dv Q q => by
  cases dv with
  | cons p r =>
    cases r with
    | cons p' r =>
      cases p
      cases p'
      cases r
      exact ⟨i, j, rfl, q _ G H (Gr.refl s) (.int _)⟩
theorem ed_min2 (h : EvD K C ta Γ (.int i)) (h' : EvD K C tb Γ (.int j)) : EvD K C (tCB (fun xs H Q => ∃ i j, xs = [.int i, .int j] ∧ Q (.int (if j < i then j else i)) H) (tCons ta (tCons tb tNil))) Γ (.int (if j < i then j else i)) := ed_cb (ea_cons h (ea_cons h' ea_nil)) fun G H vs s dv Q q => by
  cases dv with
  | cons p r =>
    cases r with
    | cons p' r =>
      cases p
      cases p'
      cases r
      exact ⟨i, j, rfl, q _ G H (Gr.refl s) (.int _)⟩
theorem ed_len (h : EvD K C ta Γ (.lst ds)) : EvD K C (tCB (fun xs H Q => ∃ p ys, xs = [.ref p] ∧ (SqL K H p ys ∨ SqT K H p ys) ∧ Q (.int ys.length) H) (tCons ta tNil)) Γ (.int (ds.length : Int)) := ed_cb (ea_cons h ea_nil) fun G H vs s dv Q q => by
  cases dv with
  | cons p r =>
    cases r
    cases p with
    | lst p r => exact ⟨_, _, rfl, .inl (s.seq p), q _ G H (Gr.refl s) (by rw [r.len]; exact .int _)⟩
theorem ed_sum {ns : List Int} (h : EvD K C ta Γ (.lst (ns.map Dt.int))) : EvD K C (tCB (rSum K) (tCons ta tNil)) Γ (.int ns.sum) := ed_cb (ea_cons h ea_nil) fun G H vs s dv Q q => by
  cases dv with
  | cons p r =>
    cases r
    cases p with
    | lst p r =>
      rw [drs_ints r] at p
      exact ⟨_, ns, rfl, s.seq p, q _ G H (Gr.refl s) (.int _)⟩
theorem ed_all {ns : List Bool} (h : EvD K C ta Γ (.lst (ns.map Dt.bl))) : EvD K C (tCB (rAll K) (tCons ta tNil)) Γ (.bl (ns.all id)) := ed_cb (ea_cons h ea_nil) fun G H vs s dv Q q => by
  cases dv with
  | cons p r =>
    cases r
    cases p with
    | lst p r =>
      rw [drs_bls r] at p
      exact ⟨_, ns, rfl, s.seq p, q _ G H (Gr.refl s) (.bl _)⟩
theorem sort_one {a b : List Int} (h : a.Perm b) (s : a.Pairwise (· ≤ ·)) : a = b.mergeSort (fun x y => decide (x ≤ y)) := by
  have h2 : (b.mergeSort (fun x y => decide (x ≤ y))).Pairwise (fun x y => x ≤ y) := by
    have := List.pairwise_mergeSort (le := fun (x y : Int) => decide (x ≤ y)) (fun x y z p q => by simp at *; omega) (fun x y => by simp; omega) b
    exact this.imp fun p => of_decide_eq_true p
  exact List.Perm.eq_of_pairwise (fun x y _ _ p q => Int.le_antisymm p q) s h2 (h.trans (List.mergeSort_perm b _).symm)
theorem en_sorted {ns : List Int} (h : EvD K C ta Γ (.lst (ns.map Dt.int))) : EvN K C (tCB (rSortedI K) (tCons ta tNil)) Γ ((ns.mergeSort (fun x y => decide (x ≤ y))).map Dt.int) := fun σ G H sd s Q q =>
  (ea_cons h ea_nil) σ G H sd s _ fun vs G2 H2 g2 dv => by
    cases dv with
    | cons p r =>
      cases r
      cases p with
      | lst p r =>
        rw [drs_ints r] at p
        refine ⟨_, ns, rfl, g2.gh.seq p, fun ns' b perm rising hb => ?_⟩
        rw [sort_one perm rising]
        exact q b _ (upd G2 b _) _ (g2.trans (Gr.new g2.gh hb)) upd_same (ints_drs _)
theorem ed_in0 {ns : List Int} (ha : EvD K C ta Γ (.int i)) (h : EvD K C tb Γ (.lst (ns.map Dt.int))) : EvD K C (tOp (rIn K false) ta tb) Γ (.bl (ns.any fun n => n == i)) := ed_op ha h fun G H x y s dx dy Q q => by
  cases dx
  cases dy with
  | lst p r =>
    rw [drs_ints r] at p
    refine ⟨_, _, rfl, .inl (s.seq p), rfl, ?_, ?_⟩
    · rw [List.all_map]
      exact List.all_eq_true.mpr fun _ _ => rfl
    · refine q _ G H (Gr.refl s) ?_
      have e : inV (.int i) (ns.map V.int) = ns.any fun n => n == i := by
        unfold inV
        rw [List.any_map]
        rfl
      show Dr K C G (.bl (if false = true then _ else inV (.int i) (ns.map V.int))) _
      rw [if_neg Bool.false_ne_true, e]
      exact .bl _

/-! calls, fields -/
theorem ed_call {R : List Dt → Dt → Prop} {E : XK} (h : EvA K C tr Γ ds) (r : R ds d) : EvD K C (tCall (spD K C R) [] E tr) Γ d := fun σ G H sd s Q q =>
  h σ G H sd s _ fun vs G2 H2 g2 dv => ⟨G2, ds, d, g2.gh, by rw [List.append_nil]; exact dv, r, fun v G3 H3 g3 d3 => q v G3 H3 (g2.trans g3) d3⟩
theorem ed_meth {R : List Dt → Dt → Prop} {E : XK} {m : Str} {w h : Int} {f : List Int} (hm : ∀ w h fa, (fF w h fa).lookup m = none) (ha : EvD K C ta Γ (.frm w h f)) (hr : EvA K C tr Γ ds) (r : R (.frm w h f :: ds) d) :
    EvD K C (tMeth C m (spD K C R) [] E ta tr) Γ d := fun σ G H sd s Q q =>
  ha σ G H sd s _ fun x G2 H2 g2 dx => by
    have dx' := dx
    cases dx with
    | frm p p' =>
      refine ⟨_, _, _, rfl, g2.gh _ _ p, hm _ _ _, hr σ G2 H2 (sd.go g2.gg) g2.gh _ fun vs G3 H3 g3 dv => ?_⟩
      exact ⟨G3, _, d, g3.gh, .cons (dx'.go g3.gg) (by rw [List.append_nil]; exact dv), r, fun v G4 H4 g4 d4 => q v G4 H4 ((g2.trans g3).trans g4) d4⟩
/-- what the top has written of the class -/
structure Txt (K : Fg) (C : Addr) : Prop where
  cl : Cls K C
  nW : NoAttr K C "wide"
  nH : NoAttr K C "high"
  nN : NoAttr K C "numbers"
theorem fF_wide (w h : Int) (fa : Addr) : (fF w h fa).lookup ("wide" : Str) = some (.int w) := by rfl
theorem fF_high (w h : Int) (fa : Addr) : (fF w h fa).lookup ("high" : Str) = some (.int h) := by rfl
theorem fF_numbers (w h : Int) (fa : Addr) : (fF w h fa).lookup ("numbers" : Str) = some (.ref fa) := by rfl
theorem ed_wide {w h : Int} {f : List Int} (T : Txt K C) (ha : EvD K C ta Γ (.frm w h f)) : EvD K C (tFld K ta "wide") Γ (.int w) := fun σ G H sd s Q q =>
  ha σ G H sd s _ fun x G2 H2 g2 dx => by
    cases dx with
    | frm p p' => exact ⟨_, _, _, _, _, rfl, g2.gh _ _ p, T.cl, T.nW, fF_wide _ _ _, q _ G2 H2 g2 (.int w)⟩
theorem ed_high {w h : Int} {f : List Int} (T : Txt K C) (ha : EvD K C ta Γ (.frm w h f)) : EvD K C (tFld K ta "high") Γ (.int h) := fun σ G H sd s Q q =>
  ha σ G H sd s _ fun x G2 H2 g2 dx => by
    cases dx with
    | frm p p' => exact ⟨_, _, _, _, _, rfl, g2.gh _ _ p, T.cl, T.nH, fF_high _ _ _, q _ G2 H2 g2 (.int h)⟩
theorem ed_numbers {w h : Int} {f : List Int} (T : Txt K C) (ha : EvD K C ta Γ (.frm w h f)) : EvD K C (tFld K ta "numbers") Γ (.lst (f.map Dt.int)) := fun σ G H sd s Q q =>
  ha σ G H sd s _ fun x G2 H2 g2 dx => by
    cases dx with
    | frm p p' => exact ⟨_, _, _, _, _, rfl, g2.gh _ _ p, T.cl, T.nN, fF_numbers _ _ _, q _ G2 H2 g2 (.lst p' (ints_drs f))⟩

/-! what is walked -/
theorem es_list (h : EvD K C te Γ (.lst ds)) : EvS K C (iList K te) Γ ds := fun σ G H sd s R q => h σ G H sd s _ fun x G2 H2 g2 dx => by
  cases dx with
  | lst p r =>
    refine ⟨_, rfl, ⟨_, g2.gh.seq p⟩, q _ G2 H2 g2 ?_⟩
    show Walk _ _ _ _
    rw [← r.len]
    exact (walk_list (K := K)).mono (fun H' hs => hs.seq p) fun i H' x H'' hi hs y => ⟨y.1, by
      obtain ⟨d, h1, h2⟩ := r.get y.2
      exact ⟨d, h1, h2⟩⟩
theorem es_tup (h : EvD K C te Γ (.tup ds)) : EvS K C (iTup K te) Γ ds := fun σ G H sd s R q => h σ G H sd s _ fun x G2 H2 g2 dx => by
  cases dx with
  | tup p r =>
    refine ⟨_, rfl, ⟨_, sqt_go g2.gh p⟩, q _ G2 H2 g2 ?_⟩
    show Walk _ _ _ _
    rw [← r.len]
    exact (walk_tup (K := K)).mono (fun H' hs => sqt_go hs p) fun i H' x H'' hi hs y => ⟨y.1, by
      obtain ⟨d, h1, h2⟩ := r.get y.2
      exact ⟨d, h1, h2⟩⟩
def rng (lo : Int) (n : Nat) : List Dt := (List.range n).map fun (t : Nat) => Dt.int (lo + (t : Int))
theorem wk_rng {lo : Int} {n : Nat} {G : Hp} : WkS K C (Itr lo n) (rng lo n) G := by
  show Walk _ _ _ _
  have e : (rng lo n).length = n := by simp [rng]
  rw [e]
  refine (walk_range (lo := lo) (n := n)).mono (fun _ _ => trivial) fun i H x H' hi _ y => ⟨y.1, .int (lo + (i : Int)), ?_, ?_⟩
  · unfold rng
    rw [List.getElem?_map, List.getElem?_range hi]
    rfl
  · rw [y.2]
    exact .int _
theorem es_rng1 {n : Int} (h : EvA K C tr Γ [.int n]) (hn : -(2 ^ 62) ≤ n ∧ n < 2 ^ 62) : EvS K C (iRng1 tr) Γ (rng 0 n.toNat) := fun σ G H sd s R q => h σ G H sd s _ fun vs G2 H2 g2 dv => by
  cases dv with
  | cons p r =>
    cases p
    cases r
    exact ⟨n, rfl, hn.1, hn.2, q _ G2 H2 g2 wk_rng⟩
theorem es_rng2 {lo hi : Int} (h : EvA K C tr Γ [.int lo, .int hi]) (hn : -(2 ^ 62) ≤ lo ∧ lo < 2 ^ 62 ∧ -(2 ^ 62) ≤ hi ∧ hi < 2 ^ 62) : EvS K C (iRng2 tr) Γ (rng lo (hi - lo).toNat) := fun σ G H sd s R q => h σ G H sd s _ fun vs G2 H2 g2 dv => by
  cases dv with
  | cons p r =>
    cases r with
    | cons p' r =>
      cases p
      cases p'
      cases r
      exact ⟨lo, hi, rfl, hn, q _ G2 H2 g2 wk_rng⟩
def rngC (lo c : Int) (n : Nat) : List Dt := (List.range n).map fun (t : Nat) => Dt.int (lo + (t : Int) * c)
theorem es_rng3 {lo hi c : Int} {n : Nat} (h : EvA K C tr Γ [.int lo, .int hi, .int c]) (hn : RgC lo hi c n) : EvS K C (iRng3 tr) Γ (rngC lo c n) := fun σ G H sd s R q => h σ G H sd s _ fun vs G2 H2 g2 dv => by
  cases dv with
  | cons p r =>
    cases r with
    | cons p' r =>
      cases r with
      | cons p'' r =>
        cases p
        cases p'
        cases p''
        cases r
        refine ⟨lo, hi, c, n, rfl, hn, q _ G2 H2 g2 ?_⟩
        show Walk _ _ _ _
        have e : (rngC lo c n).length = n := by simp [rngC]
        rw [e]
        refine (walk_rangeC (lo := lo) (c := c) (n := n)).mono (fun _ _ => trivial) fun i H x H' hi _ y => ⟨y.1, .int (lo + (i : Int) * c), ?_, ?_⟩
        · unfold rngC
          rw [List.getElem?_map, List.getElem?_range hi]
          rfl
        · rw [y.2]
          exact .int _
theorem fits {i : Int} (h : -(2 ^ 62) ≤ i) (h' : i ≤ 2 ^ 62) : Builtin.Range.rangeFitsLong i = true := by
  unfold Builtin.Range.rangeFitsLong
  rw [Bool.and_eq_true]
  exact ⟨decide_eq_true (by omega), decide_eq_true (by omega)⟩
theorem rg_two {n : Nat} (h : n ≤ 1000000) : RgC 0 ((2 * n : Nat) : Int) 2 n := by
  have e : Builtin.Range.rangeSize 0 ((2 * n : Nat) : Int) 2 = (n : Int) := by
    unfold Builtin.Range.rangeSize
    rw [if_pos (by decide)]
    split <;> omega
  refine ⟨by decide, by decide, ?_, e⟩
  unfold Builtin.Range.small
  rw [e, fits (by decide) (by decide), fits (by omega) (by omega), fits (by decide) (by decide), fits (by omega) (by omega)]
  rw [if_pos (by decide), fits (by omega) (by omega), Bool.or_true]
  rfl
theorem rg_three {n : Nat} (h : n ≤ 1000000) : RgC 0 ((3 * n : Nat) : Int) 3 n := by
  have e : Builtin.Range.rangeSize 0 ((3 * n : Nat) : Int) 3 = (n : Int) := by
    unfold Builtin.Range.rangeSize
    rw [if_pos (by decide)]
    split <;> omega
  refine ⟨by decide, by decide, ?_, e⟩
  unfold Builtin.Range.small
  rw [e, fits (by decide) (by decide), fits (by omega) (by omega), fits (by decide) (by decide), fits (by omega) (by omega)]
  rw [if_pos (by decide), fits (by omega) (by omega), Bool.or_true]
  rfl
theorem int_at {l : List Int} {i : Nat} (h : i < l.length) : (l.map Dt.int)[i]? = some (.int (l.getD i 0)) := by
  rw [List.getElem?_map, List.getElem?_eq_getElem h, List.getD_eq_getElem?_getD, List.getElem?_eq_getElem h]
  rfl
theorem take_one {α : Type} {l : List α} {i : Nat} {x : α} (h : l[i]? = some x) : l.take (i + 1) = l.take i ++ [x] := by
  rw [List.take_add_one, h]
  rfl
theorem ew_zip {xs ys : List Dt} (h : EvA K C tr Γ [.lst xs, .lst ys]) : EvW K C (iZip K tr) Γ ((xs.zip ys).map fun p => Dt.tup [p.1, p.2]) := fun σ G H sd s R q => h σ G H sd s _ fun vs G2 H2 g2 dv => by
  cases dv with
  | cons p r =>
    cases r with
    | cons p' r =>
      cases r
      cases p with
      | lst p r =>
        cases p' with
        | lst p' r' =>
          refine ⟨_, _, _, _, rfl, g2.gh.seq p, g2.gh.seq p', q _ G2 H2 g2 ?_⟩
          show Walk _ _ _ _
          refine (Walk.mono (walk_zip (K := K) (a := _) (b := _) (n := ((xs.zip ys).map fun p => Dt.tup [p.1, p.2]).length) (by rw [List.length_map, List.length_zip, ← r.len, ← r'.len])) (fun H' (hs : Same G2 H') => ⟨hs.seq p, hs.seq p'⟩) fun i H' v H'' hi hs y G' s1 s2 => ?_)
          obtain ⟨t, x, z, rfl, ht, rfl, hx, hz⟩ := y
          obtain ⟨d, h1, h2⟩ := r.get hx
          obtain ⟨d', h1', h2'⟩ := r'.get hz
          refine ⟨.tup [d, d'], upd G' t (.tup [x, z]), ?_, Gr.new s2 ht, .tup (SqT.of upd_same) ?_⟩
          · have ez : (xs.zip ys)[i]? = some (d, d') := List.getElem?_zip_eq_some.mpr ⟨h1, h1'⟩
            rw [List.getElem?_map, ez]
            rfl
          · have n1 := same_new (o := .tup [x, z]) (s2.free ht)
            exact .cons ((h2.go s1).go n1) (.cons ((h2'.go s1).go n1) .nil)

/-! targets -/
theorem tg_name {n : Nat} : TgD K C (gName n) [n] d Γ (Γ.set n (some d)) := fun σ G H x sd s dx Q q => q _ (by simp) (sd.put n dx) fun j hj => by
  rw [List.getElem?_set_ne (fun e => hj (by rw [e]; exact List.mem_singleton.mpr rfl))]
theorem tg_two {n m : Nat} : TgD K C (gTup K 2 (gCons (gName n) (gCons (gName m) gNil))) [n, m] (.tup [d1, d2]) Γ ((Γ.set n (some d1)).set m (some d2)) := fun σ G H x sd s dx Q q => by
  cases dx with
  | tup p r =>
    cases r with
    | cons a r =>
      cases r with
      | cons a' r =>
        cases r
        refine ⟨_, _, rfl, sqt_go s p, rfl, _, _, rfl, _, _, rfl, rfl, q _ (by simp) ((sd.put n a).put m a') fun j hj => ?_⟩
        rw [List.getElem?_set_ne (fun e => hj (by simp [e])), List.getElem?_set_ne (fun e => hj (by simp [e]))]
theorem tg_three {n m l : Nat} {d3 : Dt} : TgD K C (gTup K 3 (gCons (gName n) (gCons (gName m) (gCons (gName l) gNil)))) [n, m, l] (.tup [d1, d2, d3]) Γ (((Γ.set n (some d1)).set m (some d2)).set l (some d3)) := fun σ G H x sd s dx Q q => by
  cases dx with
  | tup p r =>
    cases r with
    | cons a r =>
      cases r with
      | cons a' r =>
        cases r with
        | cons a'' r =>
          cases r
          refine ⟨_, _, rfl, sqt_go s p, rfl, _, _, rfl, _, _, rfl, _, _, rfl, rfl, q _ (by simp) (((sd.put n a).put m a').put l a'') fun j hj => ?_⟩
          rw [List.getElem?_set_ne (fun e => hj (by simp [e])), List.getElem?_set_ne (fun e => hj (by simp [e])), List.getElem?_set_ne (fun e => hj (by simp [e]))]

/-! a comprehension without a test -/
theorem en_lc {α : Type} {wi : TI} {g : TG} {vs : List Nat} (l : List α) (mk out : α → Dt) (h : EvW K C wi Γ (l.map mk)) (hl : l.length ≤ 1000000) (Γ2 : α → Ct) (ht : ∀ z, z ∈ l → TgD K C g vs (mk z) (wipeC Γ vs) (Γ2 z))
    (he : ∀ z, z ∈ l → EvD K C te (Γ2 z) (out z)) : EvN K C (tLc wi g tYes te vs) Γ (l.map out) := fun σ G H sd s Q q => h σ G H sd s _ fun J G1 H1 g1 w => fun Da hD => by
  have e1 : (l.map mk).length = l.length := List.length_map ..
  refine lc_it w (fun i H' => ∃ G' xs, Gr G1 H1 G' H' ∧ G' Da = none ∧ H' Da = some (.lst xs) ∧ Drs K C G' xs ((l.map out).take i))
    ⟨G1, [], Gr.aside g1.gh hD, g1.gh.free hD, upd_same, .nil⟩ (fun i H' _ ⟨G', xs, gr, _⟩ => gr.gg.trans gr.gh) ?_ ?_
  · rintro i x H' H2 hi ⟨G', xs, gr, gn, hx, dx⟩ y
    rw [e1] at hi
    obtain ⟨d, G2, hd, g2, dv⟩ := y G' gr.gg gr.gh
    obtain ⟨n2, hx2⟩ := g2.out gn hx
    have hz : l[i]? = some l[i] := List.getElem?_eq_getElem hi
    rw [List.getElem?_map, hz] at hd
    cases Option.some.inj hd
    have gr2 := gr.trans g2
    refine ht l[i] (List.getElem_mem hi) (L2.wipe σ vs) G2 H2 x ((sd.go ((g1.trans gr2).gg)).wipe vs) g2.gh dv _ fun σ2 hlen sd2 hj => ?_
    refine ⟨wipe_back (by rw [hlen, wipe_length]) hj, ?_⟩
    unfold tYes
    dsimp only
    rw [if_pos rfl]
    refine he l[i] (List.getElem_mem hi) σ2 G2 H2 sd2 g2.gh _ fun v G3 H3 g3 dv3 => ?_
    obtain ⟨n3, hx3⟩ := g3.out n2 hx2
    have gr3 := gr2.trans g3
    refine ⟨xs, hx3, ?_, G3, xs ++ [v], gr3.mut hD n3, n3, upd_same, ?_⟩
    · rw [dx.len, List.length_take, List.length_map]
      exact Nat.lt_of_lt_of_le (Nat.lt_of_le_of_lt (Nat.min_le_left _ _) hi) (sz_le hl)
    · have e2 : (l.map out).take (i + 1) = (l.map out).take i ++ [out l[i]] := by
        rw [List.take_add_one, List.getElem?_map, hz]
        rfl
      rw [e2]
      exact ((dx.go g2.gg).go g3.gg).app (.one dv3)
  · rintro H' ⟨G', xs, gr, gn, hx, dx⟩
    rw [e1, List.take_of_length_le (by rw [List.length_map]; exact Nat.le_refl _)] at dx
    exact q Da xs (upd G' Da (.lst xs)) H' (g1.trans (gr.show_ hD gn hx)) upd_same (dx.go (same_new gn))

/-! ### statements: M tells of a list that is kept aside, at a slot, and filled -/
abbrev Mt := Option (Nat × List Dt)
def Aside (K : Fg) (C : Addr) (H0 : Hp) (σ : L2.St) (G H : Hp) : Mt → Prop
  | none => True
  | some (j, ds) => ∃ m xs, σ[j]? = some (some (.ref m)) ∧ H0 m = none ∧ G m = none ∧ H m = some (.lst xs) ∧ Drs K C G xs ds
structure At (K : Fg) (C : Addr) (G0 H0 : Hp) (Γ : Ct) (M : Mt) (σ : L2.St) (G H : Hp) : Prop where
  gr : Gr G0 H0 G H
  sd : Sd K C G σ Γ
  md : Aside K C H0 σ G H M
def mOk : Mt → List Nat → Bool
  | none, _ => true
  | some (j, _), ts => !ts.contains j
theorem Aside.go {H0 : Hp} {σ σ' : L2.St} {G H G1 H1 : Hp} {ts : List Nat} : ∀ {M : Mt}, Aside K C H0 σ G H M → Gr G H G1 H1 → mOk M ts = true → (∀ j, j ∉ ts → σ'[j]? = σ[j]?) → Aside K C H0 σ' G1 H1 M
  | none, _, _, _, _ => trivial
  | some (j, ds), ⟨m, xs, h1, h2, h3, h4, h5⟩, g, hm, hs => by
    obtain ⟨g1, g2⟩ := g.out h3 h4
    have hj : j ∉ ts := fun z => by
      have q : (!ts.contains j) = true := hm
      rw [List.contains_iff_mem.mpr z] at q
      cases q
    exact ⟨m, xs, (hs j hj).trans h1, h2, g1, g2, h5.go g.gg⟩
theorem At.grow {G0 H0 : Hp} {M : Mt} {σ : L2.St} {G H G1 H1 : Hp} (a : At K C G0 H0 Γ M σ G H) (g : Gr G H G1 H1) : At K C G0 H0 Γ M σ G1 H1 :=
  ⟨a.gr.trans g, a.sd.go g.gg, a.md.go (ts := []) g (by
    cases M with
    | none => rfl
    | some p => rfl) fun _ _ => rfl⟩
/-- from what is told of slots, and of the list aside, the statements reach what D wants -/
def OkS (K : Fg) (C : Addr) (G0 H0 : Hp) (D : Ends) (t : TS) (Γ : Ct) (M : Mt) : Prop := ∀ σ G H, At K C G0 H0 Γ M σ G H → t D σ H
/-- what comes next is reached -/
def Nx (K : Fg) (C : Addr) (G0 H0 : Hp) (P : L2.St → Hp → Prop) (Γ : Ct) (M : Mt) : Prop := ∀ σ G H, At K C G0 H0 Γ M σ G H → P σ H
/-- the def's value is d -/
def Rt (K : Fg) (C : Addr) (G0 H0 : Hp) (Q : VK) (d : Dt) : Prop := ∀ v G H, Gr G0 H0 G H → Dr K C G v d → Q v H
section
variable {G0 H0 : Hp} {D : Ends} {M : Mt} {tz ts tw : TS} {g : TG} {n : Nat} {l : List Nat}
theorem q_seq (h : OkS K C G0 H0 { D with nx := tz D } ts Γ M) : OkS K C G0 H0 D (tSeq ts tz) Γ M := h
theorem nx_ok (h : OkS K C G0 H0 D ts Γ M) : Nx K C G0 H0 (ts D) Γ M := h
theorem s_next (h : Nx K C G0 H0 D.nx Γ M) : OkS K C G0 H0 D tNext Γ M := h
theorem s_to (h : EvD K C te Γ d) (hg : TgD K C g l d Γ Γ') (hm : mOk M l = true) (k : Nx K C G0 H0 D.nx Γ' M) : OkS K C G0 H0 D (tAsg te g) Γ M := fun σ G H a =>
  h σ G H a.sd a.gr.gh _ fun v G1 H1 g1 dv => hg σ G1 H1 v (a.sd.go g1.gg) g1.gh dv _ fun σ' _ sd' hs => k σ' G1 H1 ⟨a.gr.trans g1, sd', a.md.go g1 hm hs⟩
theorem q_to (h : EvD K C te Γ d) (hg : TgD K C g l d Γ Γ') (hm : mOk M l = true) (k : OkS K C G0 H0 D tz Γ' M) : OkS K C G0 H0 D (tSeq (tAsg te g) tz) Γ M := s_to (D := { D with nx := tz D }) h hg hm k
theorem s_set (h : EvD K C te Γ d) (hm : mOk M [n] = true) (k : Nx K C G0 H0 D.nx (Γ.set n (some d)) M) : OkS K C G0 H0 D (tAsg te (gName n)) Γ M := s_to h tg_name hm k
theorem q_set (h : EvD K C te Γ d) (hm : mOk M [n] = true) (k : OkS K C G0 H0 D tz (Γ.set n (some d)) M) : OkS K C G0 H0 D (tSeq (tAsg te (gName n)) tz) Γ M := s_set (D := { D with nx := tz D }) h hm k
theorem s_two {m : Nat} (h : EvA K C tr Γ [d1, d2]) (hm : mOk M [n, m] = true) (k : Nx K C G0 H0 D.nx ((Γ.set n (some d1)).set m (some d2)) M) : OkS K C G0 H0 D (tPar n m tr) Γ M := fun σ G H a =>
  h σ G H a.sd a.gr.gh _ fun vs G1 H1 g1 dv => by
    cases dv with
    | cons p r =>
      cases r with
      | cons p' r =>
        cases r
        refine ⟨_, _, rfl, k _ G1 H1 ⟨a.gr.trans g1, ((a.sd.go g1.gg).put n p).put m p', a.md.go g1 hm fun j hj => ?_⟩⟩
        rw [List.getElem?_set_ne (fun e => hj (by simp [e])), List.getElem?_set_ne (fun e => hj (by simp [e]))]
theorem q_two {m : Nat} (h : EvA K C tr Γ [d1, d2]) (hm : mOk M [n, m] = true) (k : OkS K C G0 H0 D tz ((Γ.set n (some d1)).set m (some d2)) M) : OkS K C G0 H0 D (tSeq (tPar n m tr) tz) Γ M := s_two (D := { D with nx := tz D }) h hm k
theorem s_aug (hx : Γ[n]? = some (some (.int i))) (h : EvD K C te Γ (.int j)) (hm : mOk M [n] = true) (k : Nx K C G0 H0 D.nx (Γ.set n (some (.int (i + j)))) M) : OkS K C G0 H0 D (tAug n te (ipI fun i j => i + j)) Γ M := fun σ G H a => by
  obtain ⟨v, h1, h2⟩ := a.sd.at_ n _ hx
  cases h2
  refine ⟨_, h1, h σ G H a.sd a.gr.gh _ fun v G1 H1 g1 dv => ?_⟩
  cases dv
  refine ⟨i, j, rfl, rfl, k _ G1 H1 ⟨a.gr.trans g1, (a.sd.go g1.gg).put n (.int _), a.md.go g1 hm fun j hj => ?_⟩⟩
  rw [List.getElem?_set_ne (fun e => hj (by simp [e]))]
theorem q_aug (hx : Γ[n]? = some (some (.int i))) (h : EvD K C te Γ (.int j)) (hm : mOk M [n] = true) (k : OkS K C G0 H0 D tz (Γ.set n (some (.int (i + j)))) M) : OkS K C G0 H0 D (tSeq (tAug n te (ipI fun i j => i + j)) tz) Γ M := s_aug (D := { D with nx := tz D }) hx h hm k
theorem s_ret (h : EvD K C te Γ d) (k : Rt K C G0 H0 D.rt d) : OkS K C G0 H0 D (tRet te) Γ M := fun σ G H a => h σ G H a.sd a.gr.gh _ fun v G1 H1 g1 dv => k v G1 H1 (a.gr.trans g1) dv
theorem s_retM (k : Rt K C G0 H0 D.rt (.lst ds)) : OkS K C G0 H0 D (tRet (tVar n)) Γ (some (n, ds)) := fun σ G H a => by
  obtain ⟨m, xs, h1, h2, h3, h4, h5⟩ := a.md
  exact ⟨_, h1, k _ (upd G m (.lst xs)) H (a.gr.show_ h2 h3 h4) (.lst (SqL.of upd_same) (h5.go (same_new h3)))⟩
theorem s_if (ht : EvB K C tt Γ b) (h1 : b = true → OkS K C G0 H0 D ts Γ M) (h2 : b = false → OkS K C G0 H0 D tw Γ M) : OkS K C G0 H0 D (tIfS tt ts tw) Γ M := fun σ G H a => ht σ G H a.sd a.gr.gh _ fun G1 H1 g1 => by
  cases b with
  | true =>
    show ts D σ H1
    exact h1 rfl σ G1 H1 (a.grow g1)
  | false =>
    show tw D σ H1
    exact h2 rfl σ G1 H1 (a.grow g1)
theorem q_if (ht : EvB K C tt Γ b) (h1 : b = true → OkS K C G0 H0 { D with nx := tz D } ts Γ M) (h2 : b = false → OkS K C G0 H0 { D with nx := tz D } tw Γ M) : OkS K C G0 H0 D (tSeq (tIfS tt ts tw) tz) Γ M := s_if (D := { D with nx := tz D }) ht h1 h2
/-- an if without an else -/
theorem q_when (ht : EvB K C tt Γ b) (h1 : b = true → OkS K C G0 H0 { D with nx := tz D } ts Γ M) (h2 : b = false → OkS K C G0 H0 D tz Γ M) : OkS K C G0 H0 D (tSeq (tIfS tt ts tNext) tz) Γ M := q_if ht h1 fun e => h2 e
/-- a list aside is made -/
theorem q_new (h : EvA K C tr Γ ds) (k : OkS K C G0 H0 D tz (Γ.set n none) (some (n, ds))) (hn : n < Γ.length) (hl : ds.length ≤ 1000000 := by first | exact (by decide) | simp) : OkS K C G0 H0 D (tSeq (tAsg (tLst tr) (gName n)) tz) Γ none := fun σ G H a =>
  h σ G H a.sd a.gr.gh _ fun vs G1 H1 g1 dv => ⟨sz_le (by rw [dv.len]; exact hl), fun p hp => by
    have g := a.gr.trans g1
    refine k _ G1 (upd H1 p (.lst vs)) ⟨g.trans (Gr.aside g1.gh hp), (a.sd.go g1.gg).unput n _, p, vs, ?_, g.hh.free hp, g1.gh.free hp, upd_same, dv⟩
    exact List.getElem?_set_self (by rw [a.sd.len]; exact hn)⟩
theorem s_app (h : EvD K C te Γ d) (hl : ds.length < 1000000) (k : Nx K C G0 H0 D.nx Γ (some (n, ds ++ [d]))) : OkS K C G0 H0 D (tDrop (tBM K "list" rAppend (tVar n) (tCons te tNil))) Γ (some (n, ds)) := fun σ G H a => by
  obtain ⟨m, xs, h1, h2, h3, h4, h5⟩ := a.md
  refine ⟨_, h1, .inl ⟨rfl, _, SqL.of h4⟩, h σ G H a.sd a.gr.gh _ fun v G1 H1 g1 dv => ?_⟩
  obtain ⟨n1, x1⟩ := g1.out h3 h4
  refine ⟨m, xs, v, rfl, rfl, x1, Nat.lt_of_lt_of_le (by rw [h5.len]; exact hl) (sz_le (Nat.le_refl _)), k σ G1 _ ⟨(a.gr.trans g1).mut h2 n1, a.sd.go g1.gg, m, _, h1, h2, n1, upd_same, (h5.go g1.gg).app (.one dv)⟩⟩
theorem q_app (h : EvD K C te Γ d) (hl : ds.length < 1000000) (k : OkS K C G0 H0 D tz Γ (some (n, ds ++ [d]))) : OkS K C G0 H0 D (tSeq (tDrop (tBM K "list" rAppend (tVar n) (tCons te tNil))) tz) Γ (some (n, ds)) := s_app (D := { D with nx := tz D }) h hl k
theorem s_ext (h : EvN K C te Γ es) (hl : ds.length + es.length ≤ 1000000) (k : Nx K C G0 H0 D.nx Γ (some (n, ds ++ es))) : OkS K C G0 H0 D (tDrop (tBM K "list" rExtend (tVar n) (tCons te tNil))) Γ (some (n, ds)) := fun σ G H a => by
  obtain ⟨m, xs, h1, h2, h3, h4, h5⟩ := a.md
  refine ⟨_, h1, .inl ⟨rfl, _, SqL.of h4⟩, h σ G H a.sd a.gr.gh _ fun p ys G1 H1 g1 hp dv => ?_⟩
  obtain ⟨n1, x1⟩ := g1.out h3 h4
  refine ⟨m, p, xs, ys, rfl, rfl, x1, g1.gh _ _ hp, sz_le (by rw [h5.len, dv.len]; exact hl), k σ G1 _ ⟨(a.gr.trans g1).mut h2 n1, a.sd.go g1.gg, m, _, h1, h2, n1, upd_same, (h5.go g1.gg).app dv⟩⟩
theorem q_ext (h : EvN K C te Γ es) (hl : ds.length + es.length ≤ 1000000) (k : OkS K C G0 H0 D tz Γ (some (n, ds ++ es))) : OkS K C G0 H0 D (tSeq (tDrop (tBM K "list" rExtend (tVar n) (tCons te tNil))) tz) Γ (some (n, ds)) := s_ext (D := { D with nx := tz D }) h hl k
theorem gr_base {Ga Ha G H : Hp} (a : Gr G0 H0 Ga Ha) (b : Gr Ga H0 G H) : Gr G0 H0 G H := ⟨b.hh, a.gg.trans b.gg, b.gh, fun x n => by
  rcases b.fr x n with m | m
  · exact a.fr x m
  · exact Or.inr m⟩
/-- a for: P tells at each turn what the slots hold -/
theorem s_for {wi : TI} (h : EvS K C wi Γ ds) (P : Nat → Ct → Mt → Prop) (h0 : P 0 Γ M)
    (hb : ∀ (Ga : Hp) (i : Nat) (d : Dt) (Γ1 : Ct) (M1 : Mt) (N : L2.St → Hp → Prop), (∀ e, Rt K C G0 H0 D.rt e → Rt K C Ga H0 D.rt e) → ds[i]? = some d → P i Γ1 M1 → (∀ Γ2 M2, P (i + 1) Γ2 M2 → Nx K C Ga H0 N Γ2 M2) →
      ∃ l Γ3, TgD K C g l d Γ1 Γ3 ∧ mOk M1 l = true ∧ OkS K C Ga H0 { D with nx := N, ct := N, bk := D.nx } ts Γ3 M1)
    (hd : ∀ Γ1 M1, P ds.length Γ1 M1 → Nx K C G0 H0 D.nx Γ1 M1) : OkS K C G0 H0 D (tFor wi g ts) Γ M := fun σ G H a => h σ G H a.sd a.gr.gh _ fun J Ga Ha ga w => by
  have a1 := a.grow ga
  have hr : ∀ e, Rt K C G0 H0 D.rt e → Rt K C Ga H0 D.rt e := fun e r v G H g dv => r v G H (gr_base a1.gr g) dv
  have a2 : At K C Ga H0 Γ M σ Ga Ha := ⟨⟨a1.gr.hh, Same.refl _, a1.gr.gh, fun _ n => Or.inl n⟩, a1.sd, a1.md⟩
  refine for_it w (fun i σ' H' => ∃ Γ1 M1 G', P i Γ1 M1 ∧ At K C Ga H0 Γ1 M1 σ' G' H') ⟨Γ, M, Ga, h0, a2⟩ (fun i σ' H' _ ⟨_, _, G', _, a'⟩ => a'.gr.gg.trans a'.gr.gh) ?_ ?_
  · rintro i x σ' H' H2 hi ⟨Γ1, M1, G', p, a'⟩ ⟨rfl, d, hd1, dx⟩
    obtain ⟨l, Γ3, hg, hm, ok⟩ := hb Ga i d Γ1 M1 (fun σ2 H2 => ∃ Γ1 M1 G', P (i + 1) Γ1 M1 ∧ At K C Ga H0 Γ1 M1 σ2 G' H2) hr hd1 p (fun Γ2 M2 p2 σ2 G2 H2 a2 => ⟨Γ2, M2, G2, p2, a2⟩)
    refine hg σ' G' _ x a'.sd a'.gr.gh (dx.go a'.gr.gg) _ fun σ2 _ sd2 hs => ?_
    exact ok σ2 G' _ ⟨a'.gr, sd2, a'.md.go (Gr.refl a'.gr.gh) hm hs⟩
  · rintro σ' H' ⟨Γ1, M1, G', p, a'⟩
    exact hd Γ1 M1 p σ' G' H' ⟨gr_base a1.gr a'.gr, a'.sd, a'.md⟩
theorem q_for {wi : TI} (h : EvS K C wi Γ ds) (P : Nat → Ct → Mt → Prop) (h0 : P 0 Γ M)
    (hb : ∀ (Ga : Hp) (i : Nat) (d : Dt) (Γ1 : Ct) (M1 : Mt) (N : L2.St → Hp → Prop), (∀ e, Rt K C G0 H0 D.rt e → Rt K C Ga H0 D.rt e) → ds[i]? = some d → P i Γ1 M1 → (∀ Γ2 M2, P (i + 1) Γ2 M2 → Nx K C Ga H0 N Γ2 M2) →
      ∃ l Γ3, TgD K C g l d Γ1 Γ3 ∧ mOk M1 l = true ∧ OkS K C Ga H0 { D with nx := N, ct := N, bk := tz D } ts Γ3 M1)
    (hd : ∀ Γ1 M1, P ds.length Γ1 M1 → OkS K C G0 H0 D tz Γ1 M1) : OkS K C G0 H0 D (tSeq (tFor wi g ts) tz) Γ M := s_for (D := { D with nx := tz D }) h P h0 hb hd
/-- a for whose turns are told by one state each -/
theorem q_forS {wi : TI} (h : EvS K C wi Γ ds) (Γs : Nat → Ct) (Ms : Nat → Mt) (h0 : Γs 0 = Γ) (h0' : Ms 0 = M)
    (hb : ∀ (Ga : Hp) (i : Nat) (d : Dt) (N : L2.St → Hp → Prop), (∀ e, Rt K C G0 H0 D.rt e → Rt K C Ga H0 D.rt e) → ds[i]? = some d → i < ds.length → Nx K C Ga H0 N (Γs (i + 1)) (Ms (i + 1)) →
      ∃ l Γ3, TgD K C g l d (Γs i) Γ3 ∧ mOk (Ms i) l = true ∧ OkS K C Ga H0 { D with nx := N, ct := N, bk := tz D } ts Γ3 (Ms i))
    (hd : OkS K C G0 H0 D tz (Γs ds.length) (Ms ds.length)) : OkS K C G0 H0 D (tSeq (tFor wi g ts) tz) Γ M :=
  q_for h (fun i Γ1 M1 => Γ1 = Γs i ∧ M1 = Ms i) ⟨h0.symm, h0'.symm⟩ (fun Ga i d Γ1 M1 N hr hi p hn => by
    obtain ⟨rfl, rfl⟩ := p
    exact hb Ga i d N hr hi (List.getElem?_eq_some_iff.mp hi).1 (hn _ _ ⟨rfl, rfl⟩)) (fun Γ1 M1 p => by
    obtain ⟨rfl, rfl⟩ := p
    exact hd)
theorem s_while (I : Nat → Ct → Mt → Prop) (m0 : Nat) (h0 : I m0 Γ M)
    (hb : ∀ m Γ1 M1, I m Γ1 M1 → ∃ b, EvB K C tt Γ1 b ∧ (b = true → ∀ N : L2.St → Hp → Prop, (∀ m' Γ2 M2, m' < m → I m' Γ2 M2 → Nx K C G0 H0 N Γ2 M2) → OkS K C G0 H0 { D with nx := N, ct := N, bk := D.nx } ts Γ1 M1) ∧ (b = false → Nx K C G0 H0 D.nx Γ1 M1)) :
    OkS K C G0 H0 D (tWhile tt ts) Γ M := fun σ G H a =>
  ⟨fun m σ' H' => ∃ Γ1 M1 G', I m Γ1 M1 ∧ At K C G0 H0 Γ1 M1 σ' G' H', ⟨m0, Γ, M, G, h0, a⟩, fun m σ' H' ⟨Γ1, M1, G', p, a'⟩ => by
    obtain ⟨b, e, h1, h2⟩ := hb m Γ1 M1 p
    refine e σ' G' H' a'.sd a'.gr.gh _ fun G2 H2 g2 => ?_
    cases b with
    | true =>
      rw [if_pos rfl]
      exact ⟨fun σ3 H3 => ∃ m', m' < m ∧ ∃ Γ1 M1 G', I m' Γ1 M1 ∧ At K C G0 H0 Γ1 M1 σ3 G' H3, fun _ _ q => q, h1 rfl _ (fun m' Γ2 M2 hm p2 σ3 G3 H3 a3 => ⟨m', hm, Γ2, M2, G3, p2, a3⟩) σ' G2 H2 (a'.grow g2)⟩
    | false =>
      rw [if_neg Bool.false_ne_true]
      exact h2 rfl σ' G2 H2 (a'.grow g2)⟩
theorem q_while (I : Nat → Ct → Mt → Prop) (m0 : Nat) (h0 : I m0 Γ M)
    (hb : ∀ m Γ1 M1, I m Γ1 M1 → ∃ b, EvB K C tt Γ1 b ∧ (b = true → ∀ N : L2.St → Hp → Prop, (∀ m' Γ2 M2, m' < m → I m' Γ2 M2 → Nx K C G0 H0 N Γ2 M2) → OkS K C G0 H0 { D with nx := N, ct := N, bk := tz D } ts Γ1 M1) ∧ (b = false → OkS K C G0 H0 D tz Γ1 M1)) :
    OkS K C G0 H0 D (tSeq (tWhile tt ts) tz) Γ M := s_while (D := { D with nx := tz D }) I m0 h0 hb
end
end
/-- a def keeps its promise -/
theorem okD {P : Program} {w : World} {K : Fg} {C : Addr} {mg : Str → Option Value} {base : Heap} {x qual : Str} {st : Stmt} {f : Addr} {fd : FuncData} {N ps : List Str} {k : Nat} {R : List Dt → Dt → Prop} (F : Fun K x qual st f fd) (S : FnScope N ps (defScope st))
    (len : ∀ ds d, R ds d → ds.length = ps.length)
    (body : ∀ (cdv : Value) (A : Around) (outer : List Env) (s : Shared) (H : Hp) (E : XK), Room k (A.deeper (envOfC qual (defScope st) s.heap.objs.size f cdv)) →
      ∃ t, PSs (cxOf CX0 P w K mg base N qual (defScope st) f cdv A outer s H E).nox (defBody st) t ∧
        ∀ ds d, R ds d → ∀ (G0 : Hp) (Q : VK), Rt K C G0 H Q d → OkS K C G0 H { nx := fun _ H' => Q .non H', rt := Q } t (ds.map some ++ List.replicate (N.length - ds.length) none) none) :
    FnOk P w K mg base CX0 (k + 1) f fd ps (spD K C R) := by
  refine F.ok S (fun vs H Q E h => ?_) (fun cdv A outer s H vs Q E hr h => ?_)
  · obtain ⟨G, ds, d, _, dv, r, _⟩ := h
    rw [dv.len, len ds d r]
  · obtain ⟨G, ds, d, sm, dv, r, q⟩ := h
    obtain ⟨t, h1, h2⟩ := body cdv A outer s H E hr
    refine ⟨t, h1, h2 ds d r G Q (fun v G2 H2 g dv2 => q v G2 H2 g dv2) _ G H ⟨Gr.refl sm, sd_start dv, trivial⟩⟩
end Pd

namespace MFrame
/-! ### the columns (rows) that may have something no farther than far -/
def lo (x far : Int) : Int := if (x - far) / 64 > 0 then (x - far) / 64 else 0
def hi (n : Nat) (x far : Int) : Int := if (x + far) / 64 + 1 < (n : Int) then (x + far) / 64 + 1 else n
def c0 (x far : Int) : Nat := (lo x far).toNat
def cn (n : Nat) (x far : Int) : Nat := (hi n x far - lo x far).toNat
def pln (w h : Nat) (x y far : Int) : List (Nat × Nat) := (List.range (cn h y far)).flatMap fun i => (List.range (cn w x far)).map fun j => (c0 x far + j, c0 y far + i)
theorem lo_nn (x far : Int) : 0 ≤ lo x far := by
  unfold lo
  split <;> omega
theorem lo_c0 (x far : Int) : lo x far = (c0 x far : Int) := by
  have := lo_nn x far
  unfold c0
  omega
theorem hi_le (n : Nat) (x far : Int) : hi n x far ≤ n := by
  unfold hi
  split <;> omega
theorem box_ok (n : Nat) (x far : Int) : cn n x far = 0 ∨ c0 x far + cn n x far ≤ n := by
  have h1 := lo_nn x far
  have h2 := hi_le n x far
  unfold cn c0
  omega
theorem outside {n : Nat} {x far : Int} {c : Nat} (hc : c < n) (h : ¬ (c0 x far ≤ c ∧ c < c0 x far + cn n x far)) : 64 * ((c : Int) + 1) ≤ x - far ∨ x + far < 64 * (c : Int) := by
  unfold c0 cn lo hi at h
  split at h <;> split at h <;> omega
theorem sq_lt {r d : Int} (hr : 0 ≤ r) (h : r < d) : r * r < d * d := by
  have h1 := Int.mul_le_mul (show r + 1 ≤ d by omega) (show r + 1 ≤ d by omega) (by omega) (by omega)
  have e : (r + 1) * (r + 1) = r * r + 2 * r + 1 := by
    rw [Int.add_mul, Int.mul_add]
    omega
  omega
theorem far_sq {d r : Int} (hr : 0 ≤ r) (h : r < d ∨ d < -r) : r * r < d * d := by
  rcases h with h | h
  · exact sq_lt hr h
  · rw [← Int.neg_mul_neg d d]
    exact sq_lt hr (by omega)
theorem sq_nn (d : Int) : 0 ≤ d * d := by
  rcases Int.le_total 0 d with h | h
  · exact Int.mul_nonneg h h
  · rw [← Int.neg_mul_neg d d]
    exact Int.mul_nonneg (by omega) (by omega)
/-- a step s of a place that lies outside, is too far: one way alone -/
theorem step_far {n : Nat} {x r : Int} {c : Nat} (hr : 0 ≤ r) (hc : c < n) (h : ¬ (c0 x r ≤ c ∧ c < c0 x r + cn n x r)) {s : Nat} (hs : s < 64) : r * r < ((64 * c + s : Nat) - x) * ((64 * c + s : Nat) - x) := by
  have q := outside hc h
  refine far_sq hr ?_
  omega
theorem sum2_far {a b m : Int} (h : m < a) (hb : 0 ≤ b) : ¬ a + b ≤ m := by omega
/-! ### lists over a box -/
section
variable {α : Type}
theorem range_add (a b : Nat) : List.range (a + b) = List.range a ++ (List.range b).map fun j => a + j := by
  induction b with
  | zero => simp
  | succ b ih => rw [← Nat.add_assoc, List.range_succ, ih, List.range_succ, List.map_append, List.append_assoc]; rfl
theorem flat_nil {β : Type} {l : List β} {F : β → List α} (h : ∀ x, x ∈ l → F x = []) : l.flatMap F = [] := by
  induction l with
  | nil => rfl
  | cons a r ih => rw [List.flatMap_cons, h a List.mem_cons_self, ih fun x hx => h x (List.mem_cons_of_mem _ hx)]; rfl
theorem restrict {n a k : Nat} {F : Nat → List α} (hk : k = 0 ∨ a + k ≤ n) (h : ∀ c, c < n → ¬ (a ≤ c ∧ c < a + k) → F c = []) : (List.range n).flatMap F = (List.range k).flatMap fun j => F (a + j) := by
  by_cases h0 : k = 0
  · subst h0
    exact flat_nil fun x hx => h x (List.mem_range.mp hx) (by omega)
  · obtain ⟨m, hm⟩ : ∃ m, n = a + k + m := ⟨n - (a + k), by omega⟩
    subst hm
    rw [range_add, range_add, List.flatMap_append, List.flatMap_append, flat_nil (l := List.range a) fun x hx => h x (by have := List.mem_range.mp hx; omega) (by have := List.mem_range.mp hx; omega), List.nil_append, List.flatMap_map, List.flatMap_map]
    rw [flat_nil (l := List.range m) fun x hx => h (a + k + x) (by have := List.mem_range.mp hx; omega) (by omega), List.append_nil]
theorem flat_congr {β : Type} {l : List β} {F G : β → List α} (h : ∀ x, x ∈ l → F x = G x) : l.flatMap F = l.flatMap G := by
  induction l with
  | nil => rfl
  | cons a r ih => rw [List.flatMap_cons, List.flatMap_cons, h a List.mem_cons_self, ih fun x hx => h x (List.mem_cons_of_mem _ hx)]
/-- row by row: what lies outside the box gives nothing -/
theorem over_box {w h : Nat} {x y r : Int} {F : Nat → Nat → List α} (hF : ∀ c q, c < w → q < h → (¬ (c0 x r ≤ c ∧ c < c0 x r + cn w x r) ∨ ¬ (c0 y r ≤ q ∧ q < c0 y r + cn h y r)) → F c q = []) :
    ((List.range h).flatMap fun q => (List.range w).flatMap fun c => F c q) = (pln w h x y r).flatMap fun p => F p.1 p.2 := by
  rw [restrict (box_ok h y r) fun q hq hn => flat_nil fun c hc => hF c q (List.mem_range.mp hc) hq (Or.inr hn)]
  unfold pln
  rw [List.flatMap_assoc]
  refine flat_congr fun i hi => ?_
  rw [List.flatMap_map]
  have hi' := List.mem_range.mp hi
  have hb := box_ok h y r
  exact restrict (box_ok w x r) fun c hc hn => hF c _ hc (by omega) (Or.inl hn)
theorem pln_mem {w h : Nat} {x y r : Int} {p : Nat × Nat} (hp : p ∈ pln w h x y r) : p.1 < w ∧ p.2 < h := by
  unfold pln at hp
  rw [List.mem_flatMap] at hp
  obtain ⟨i, hi, hp⟩ := hp
  rw [List.mem_map] at hp
  obtain ⟨j, hj, rfl⟩ := hp
  have := List.mem_range.mp hi
  have := List.mem_range.mp hj
  have := box_ok w x r
  have := box_ok h y r
  dsimp only
  omega
theorem range_mul (w h : Nat) : List.range (w * h) = (List.range h).flatMap fun q => (List.range w).map fun c => q * w + c := by
  induction h with
  | zero => rfl
  | succ h ih =>
    rw [Nat.mul_succ, range_add, ih, List.range_succ, List.flatMap_append, List.flatMap_cons, List.flatMap_nil, List.append_nil, Nat.mul_comm w h]
theorem over_all {w h : Nat} (F : Nat → Nat → Nat → List α) : ((List.range (w * h)).flatMap fun i => F i (i % w) (i / w)) = (List.range h).flatMap fun q => (List.range w).flatMap fun c => F (q * w + c) c q := by
  rw [range_mul, List.flatMap_assoc]
  refine flat_congr fun q _ => ?_
  rw [List.flatMap_map]
  refine flat_congr fun c hc => ?_
  have hc := List.mem_range.mp hc
  have e1 : (q * w + c) % w = c := by rw [Nat.mul_comm, Nat.mul_add_mod, Nat.mod_eq_of_lt hc]
  have e2 : (q * w + c) / w = q := by rw [Nat.mul_comm, Nat.mul_add_div (by omega), Nat.div_eq_of_lt hc, Nat.add_zero]
  rw [e1, e2]
theorem map_flat {β : Type} (f : β → α) : ∀ l : List β, l.map f = l.flatMap fun x => [f x]
  | [] => rfl
  | a :: r => by rw [List.map_cons, List.flatMap_cons, map_flat f r]; rfl
theorem filt_flat {β : Type} (f : β → Option α) : ∀ l : List β, l.filterMap f = l.flatMap fun x => (f x).toList
  | [] => rfl
  | a :: r => by
    rw [List.flatMap_cons, ← filt_flat f r, List.filterMap_cons]
    cases f a <;> rfl
end
/-- a sum over a list with what is 0 left out -/
def nz (g : Nat) : List Nat := if g = 0 then [] else [g]
theorem nz_sum (g : Nat) : (nz g).sum = g := by
  unfold nz
  split
  · rename_i h; rw [h]; rfl
  · simp
theorem sum_nz {β : Type} (g : β → Nat) : ∀ l : List β, (l.map g).sum = (l.flatMap fun x => nz (g x)).sum
  | [] => rfl
  | a :: r => by rw [List.map_cons, List.sum_cons, List.flatMap_cons, List.sum_append, nz_sum, sum_nz g r]
/-- a sum over all places is that over the places near -/
theorem sum_box {w h : Nat} {x y r : Int} (g : Nat → Nat → Nat) (hg : ∀ c q, c < w → q < h → (¬ (c0 x r ≤ c ∧ c < c0 x r + cn w x r) ∨ ¬ (c0 y r ≤ q ∧ q < c0 y r + cn h y r)) → g c q = 0) :
    (Sh67.each w h g).sum = ((pln w h x y r).map fun p => g p.1 p.2).sum := by
  rw [sum_nz (fun p : Nat × Nat => g p.1 p.2) (pln w h x y r), ← over_box (F := fun c q => nz (g c q)) fun c q hc hq hn => by
    show nz (g c q) = []
    rw [hg c q hc hq hn]
    rfl]
  unfold Sh67.each
  have e : ∀ l : List Nat, (l.flatMap fun q => (List.range w).map fun c => g c q).sum = (l.flatMap fun q => (List.range w).flatMap fun c => nz (g c q)).sum := fun l => by
    induction l with
    | nil => rfl
    | cons a r ih => rw [List.flatMap_cons, List.flatMap_cons, List.sum_append, List.sum_append, ih, sum_nz (fun c => g c a)]
  exact e _
/-! ### an aperture -/
theorem part_far {w h : Nat} {x y r : Int} (hr : 0 ≤ r) {c q : Nat} (hc : c < w) (hq : q < h) (hn : ¬ (c0 x r ≤ c ∧ c < c0 x r + cn w x r) ∨ ¬ (c0 y r ≤ q ∧ q < c0 y r + cn h y r)) : Sh67.part x y r c q = 0 := by
  unfold Sh67.part
  rw [List.length_eq_zero_iff, List.filter_eq_nil_iff]
  intro p hp
  have hp1 : p.1 < 64 ∧ p.2 < 64 := by
    have : ∀ p, p ∈ Sh67.points → p.1 < 64 ∧ p.2 < 64 := by decide
    exact this p hp
  dsimp only
  intro z
  have z := of_decide_eq_true z
  have n1 := sq_nn (((64 * c + p.1 : Nat) : Int) - x)
  have n2 := sq_nn (((64 * q + p.2 : Nat) : Int) - y)
  rcases hn with hn | hn
  · have := step_far hr hc hn hp1.1
    omega
  · have := step_far hr hq hn hp1.2
    omega
/-! ### a place's points, counted by the columns first -/
def sqs (c : Nat) (x : Int) : List Int := [8, 24, 40, 56].map fun (s : Nat) => (((64 * c + s : Nat) : Int) - x) * (((64 * c + s : Nat) : Int) - x)
def cnt1 (ds : List Int) (m one : Int) : Nat := (ds.filter fun o => decide (one + o ≤ m)).length
def cnt (as ds : List Int) (m : Int) : Nat := (as.map (cnt1 ds m)).sum
theorem len_filter {β : Type} (p : β → Bool) : ∀ l : List β, (l.filter p).length = (l.map fun x => if p x = true then 1 else 0).sum
  | [] => rfl
  | a :: r => by
    rw [List.filter_cons, List.map_cons, List.sum_cons, ← len_filter p r]
    split
    · rw [List.length_cons]; omega
    · omega
theorem part_is (x y r : Int) (c q : Nat) : cnt (sqs c x) (sqs q y) (r * r) = Sh67.part x y r c q := by
  have e : Sh67.part x y r c q = (Sh67.points.map fun p => if decide ((((64 * c + p.1 : Nat) : Int) - x) * (((64 * c + p.1 : Nat) : Int) - x) + (((64 * q + p.2 : Nat) : Int) - y) * (((64 * q + p.2 : Nat) : Int) - y) ≤ r * r) = true then 1 else 0).sum := by
    unfold Sh67.part
    exact len_filter _ _
  rw [e]
  unfold cnt
  have e2 : ∀ one, cnt1 (sqs q y) (r * r) one = ((sqs q y).map fun o => if decide (one + o ≤ r * r) = true then 1 else 0).sum := fun one => len_filter _ _
  rw [show cnt1 (sqs q y) (r * r) = fun one => ((sqs q y).map fun o => if decide (one + o ≤ r * r) = true then 1 else 0).sum from funext e2]
  generalize hg : (fun (a b : Nat) => if decide ((((64 * c + a : Nat) : Int) - x) * (((64 * c + a : Nat) : Int) - x) + (((64 * q + b : Nat) : Int) - y) * (((64 * q + b : Nat) : Int) - y) ≤ r * r) = true then 1 else 0) = g
  have h1 : ((sqs c x).map fun one => ((sqs q y).map fun o => if decide (one + o ≤ r * r) = true then 1 else 0).sum).sum = (g 8 8 + (g 8 24 + (g 8 40 + (g 8 56 + 0)))) + ((g 24 8 + (g 24 24 + (g 24 40 + (g 24 56 + 0)))) + ((g 40 8 + (g 40 24 + (g 40 40 + (g 40 56 + 0)))) + ((g 56 8 + (g 56 24 + (g 56 40 + (g 56 56 + 0)))) + 0))) := by
    rw [← hg]
    rfl
  have h2 : (Sh67.points.map fun p => if decide ((((64 * c + p.1 : Nat) : Int) - x) * (((64 * c + p.1 : Nat) : Int) - x) + (((64 * q + p.2 : Nat) : Int) - y) * (((64 * q + p.2 : Nat) : Int) - y) ≤ r * r) = true then 1 else 0).sum = (g 8 8 + (g 24 8 + (g 40 8 + (g 56 8 + (g 8 24 + (g 24 24 + (g 40 24 + (g 56 24 + (g 8 40 + (g 24 40 + (g 40 40 + (g 56 40 + (g 8 56 + (g 24 56 + (g 40 56 + (g 56 56 + 0)))))))))))))))) := by
    rw [← hg]
    rfl
  rw [h1, h2]
  omega
theorem part_le (x y r : Int) (c q : Nat) : Sh67.part x y r c q ≤ 16 := by
  unfold Sh67.part
  exact Nat.le_trans (List.length_filter_le _ _) (by decide)
/-- an aperture by the places near -/
def light (fn : List Nat) (w : Nat) (x y r : Int) (l : List (Nat × Nat)) : Nat := (l.map fun p => Sh67.part x y r p.1 p.2 * fn.getD (w * p.2 + p.1) 0).sum
def many (x y r : Int) (l : List (Nat × Nat)) : Nat := (l.map fun p => Sh67.part x y r p.1 p.2).sum
theorem arr_get (fn : List Nat) (i : Nat) : fn.toArray.getD i 0 = fn.getD i 0 := by
  rw [Array.getD_eq_getD_getElem?, List.getElem?_toArray, List.getD_eq_getElem?_getD]
theorem each_map {α β : Type} (w h : Nat) (f : Nat → Nat → α) (g : α → β) : (Sh67.each w h f).map g = Sh67.each w h fun c q => g (f c q) := by
  unfold Sh67.each
  rw [List.map_flatMap]
  refine flat_congr fun q _ => ?_
  rw [List.map_map]
  rfl
theorem aperture_is {w h : Nat} {x y r : Int} (hr : 0 ≤ r) (fn : List Nat) : Sh67.aperture w h fn x y r = (light fn w x y r (pln w h x y r), many x y r (pln w h x y r)) := by
  unfold Sh67.aperture
  dsimp only
  rw [each_map, each_map]
  dsimp only
  rw [sum_box (x := x) (y := y) (r := r), sum_box (x := x) (y := y) (r := r)]
  · unfold light many
    congr 1
    congr 1
    apply List.map_congr_left
    intro p _
    rw [arr_get, Nat.mul_comm p.2 w]
  · exact fun c q hc hq hn => part_far hr hc hq hn
  · intro c q hc hq hn
    rw [part_far hr hc hq hn, Nat.zero_mul]
end MFrame

namespace MRing
open MFrame
/-- a place's middle, in 64ths -/
def mid (p : Nat × Nat) : Int × Int := (((64 * p.1 + 32 : Nat) : Int), ((64 * p.2 + 32 : Nat) : Int))
def sqd (a b : Int × Int) : Int := (a.1 - b.1) * (a.1 - b.1) + (a.2 - b.2) * (a.2 - b.2)
/-- what a place gives to a ring -/
def inRing (fn : List Nat) (w : Nat) (x y a b : Int) (p : Nat × Nat) : List Nat := if a * a < sqd (mid p) (x, y) ∧ sqd (mid p) (x, y) ≤ b * b then [fn.getD (w * p.2 + p.1) 0] else []
theorem sqd_far {w h : Nat} {x y r : Int} (hr : 0 ≤ r) {c q : Nat} (hc : c < w) (hq : q < h) (hn : ¬ (c0 x r ≤ c ∧ c < c0 x r + cn w x r) ∨ ¬ (c0 y r ≤ q ∧ q < c0 y r + cn h y r)) : ¬ sqd (mid (c, q)) (x, y) ≤ r * r := by
  unfold sqd mid
  dsimp only
  have n1 := sq_nn (((64 * c + 32 : Nat) : Int) - x)
  have n2 := sq_nn (((64 * q + 32 : Nat) : Int) - y)
  rcases hn with hn | hn
  · have := step_far (s := 32) hr hc hn (by decide)
    omega
  · have := step_far (s := 32) hr hq hn (by decide)
    omega
theorem ring_is {w h : Nat} {x y a b : Int} (hb : 0 ≤ b) (fn : List Nat) : Sh67.ring w h fn x y a b = (pln w h x y b).flatMap (inRing fn w x y a b) := by
  unfold Sh67.ring
  dsimp only
  rw [filt_flat]
  have e := over_all (w := w) (h := h) (α := Nat) fun i c q => ((if a * a < sqd (mid (c, q)) (x, y) ∧ sqd (mid (c, q)) (x, y) ≤ b * b then some (fn.toArray.getD i 0) else none : Option Nat)).toList
  refine e.trans ?_
  rw [over_box (x := x) (y := y) (r := b) (F := fun c q => ((if a * a < sqd (mid (c, q)) (x, y) ∧ sqd (mid (c, q)) (x, y) ≤ b * b then some (fn.toArray.getD (q * w + c) 0) else none : Option Nat)).toList)]
  · refine flat_congr fun p _ => ?_
    unfold inRing
    split
    · rw [arr_get, Nat.mul_comm p.2 w]
      rfl
    · rfl
  · intro c q hc hq hn
    rw [if_neg fun z => sqd_far hb hc hq hn z.2]
    rfl
/-- the middle one, as the numbers are told by ints -/
theorem sort_nat (l : List Nat) : (Sh67Neutral.ints l).mergeSort (fun x y => decide (x ≤ y)) = Sh67Neutral.ints (l.mergeSort fun a b => decide (a ≤ b)) := by
  have h1 : (Sh67Neutral.ints (l.mergeSort fun a b => decide (a ≤ b))).Perm ((Sh67Neutral.ints l).mergeSort (fun x y => decide (x ≤ y))) :=
    ((List.mergeSort_perm l _).map _).trans (List.mergeSort_perm (Sh67Neutral.ints l) _).symm
  have h2 : (Sh67Neutral.ints (l.mergeSort fun a b => decide (a ≤ b))).Pairwise (fun x y => x ≤ y) := by
    unfold Sh67Neutral.ints
    rw [List.pairwise_map]
    have := List.pairwise_mergeSort (le := fun (x y : Nat) => decide (x ≤ y)) (fun x y z p q => by simp at *; omega) (fun x y => by simp; omega) l
    exact this.imp fun p => Int.ofNat_le.mpr (of_decide_eq_true p)
  have h3 : ((Sh67Neutral.ints l).mergeSort (fun x y => decide (x ≤ y))).Pairwise (fun x y => x ≤ y) := by
    have := List.pairwise_mergeSort (le := fun (x y : Int) => decide (x ≤ y)) (fun x y z p q => by simp at *; omega) (fun x y => by simp; omega) (Sh67Neutral.ints l)
    exact this.imp fun p => of_decide_eq_true p
  exact (List.Perm.eq_of_pairwise (fun x y _ _ p q => Int.le_antisymm p q) h2 h3 h1).symm
theorem median_nil : Sh67.median [] = 0 := by
  unfold Sh67.median Sh67.num
  simp
theorem sorted_len (l : List Nat) : (l.mergeSort fun a b => decide (a ≤ b)).length = l.length := List.length_mergeSort _
theorem ring_len {w h : Nat} {x y a b : Int} (fn : List Nat) : (Sh67.ring w h fn x y a b).length ≤ w * h := by
  unfold Sh67.ring
  refine Nat.le_trans (List.length_filterMap_le _ _) ?_
  rw [List.length_range]
  exact Nat.le_refl _
theorem flat_le {α β : Type} (F : α → List β) (h : ∀ x, (F x).length ≤ 1) : ∀ l : List α, (l.flatMap F).length ≤ l.length
  | [] => Nat.le_refl _
  | a :: r => by
    rw [List.flatMap_cons, List.length_append, List.length_cons]
    have := h a
    have := flat_le F h r
    omega
theorem in_le (fn : List Nat) (w : Nat) (x y a b : Int) (p : Nat × Nat) : (inRing fn w x y a b p).length ≤ 1 := by
  unfold inRing
  split <;> simp
theorem pln_len (w h : Nat) (x y r : Int) : (pln w h x y r).length ≤ w * h := by
  have f : ∀ (k n : Nat) (F : Nat → Nat → Nat × Nat), ((List.range n).flatMap fun i => (List.range k).map fun j => F i j).length = k * n := fun k n F => by
    induction n with
    | zero => rfl
    | succ n ih =>
      rw [List.range_succ, List.flatMap_append, List.length_append, ih, List.flatMap_cons, List.flatMap_nil, List.append_nil, List.length_map, List.length_range, Nat.mul_succ]
  unfold pln
  rw [f]
  have h1 := box_ok w x r
  have h2 := box_ok h y r
  exact Nat.mul_le_mul (by omega) (by omega)
theorem many_le (x y r : Int) : ∀ l : List (Nat × Nat), many x y r l ≤ 16 * l.length
  | [] => Nat.le_refl _
  | a :: t => by
    have h1 := part_le x y r a.1 a.2
    have h2 := many_le x y r t
    unfold many at h2 ⊢
    rw [List.map_cons, List.sum_cons, List.length_cons]
    omega
theorem points_le {w h : Nat} {x y r : Int} (hr : 0 ≤ r) (hw : w ≤ 64) (hh : h ≤ 64) (fn : List Nat) : (Sh67.aperture w h fn x y r).2 ≤ 65536 := by
  rw [aperture_is hr]
  have h1 := many_le x y r (pln w h x y r)
  have h2 := pln_len w h x y r
  have h3 := Nat.mul_le_mul hw hh
  dsimp only
  omega
end MRing

namespace MRoot
theorem one_root {a b n : Nat} (h1 : a * a ≤ n) (h2 : n < (a + 1) * (a + 1)) (h3 : b * b ≤ n) (h4 : n < (b + 1) * (b + 1)) : a = b := by
  rcases Nat.lt_trichotomy a b with h | h | h
  · have := Nat.mul_le_mul (show a + 1 ≤ b from h) (show a + 1 ≤ b from h)
    omega
  · exact h
  · have := Nat.mul_le_mul (show b + 1 ≤ a from h) (show b + 1 ≤ a from h)
    omega
theorem rootBy_spec : ∀ (k n r : Nat), r * r ≤ n → n < (r + 2 ^ k) * (r + 2 ^ k) → Sh67.rootBy k n r * Sh67.rootBy k n r ≤ n ∧ n < (Sh67.rootBy k n r + 1) * (Sh67.rootBy k n r + 1)
  | 0, n, r, h1, h2 => ⟨h1, h2⟩
  | k + 1, n, r, h1, h2 => by
    unfold Sh67.rootBy
    split
    · rename_i h
      refine rootBy_spec k n (r + 2 ^ k) h ?_
      have e : r + 2 ^ (k + 1) = r + 2 ^ k + 2 ^ k := by rw [Nat.pow_succ]; omega
      rw [e] at h2
      exact h2
    · rename_i h
      exact rootBy_spec k n r h1 (Nat.lt_of_not_le h)
theorem root_spec {n : Nat} (h : n < 2 ^ 64) : Sh67.root n * Sh67.root n ≤ n ∧ n < (Sh67.root n + 1) * (Sh67.root n + 1) :=
  rootBy_spec 32 n 0 (by omega) (by
    rw [Nat.zero_add, ← Nat.pow_add]
    exact h)
/-- the root by its two bounds, of whole numbers told as ints -/
theorem root_int {n r : Int} (h0 : 0 ≤ n) (h : n < 2 ^ 64) (hr : 0 ≤ r) (h1 : r * r ≤ n) (h2 : n < (r + 1) * (r + 1)) : r = (Sh67.root n.toNat : Int) := by
  obtain ⟨a, rfl⟩ := Int.eq_ofNat_of_zero_le h0
  obtain ⟨b, rfl⟩ := Int.eq_ofNat_of_zero_le hr
  have q := root_spec (n := a) (by omega)
  have e : b = Sh67.root a := one_root (n := a) (by exact_mod_cast h1) (by exact_mod_cast h2) q.1 q.2
  rw [Int.toNat_natCast, e]
end MRoot

namespace MRadius
open MFrame MRing
/-! ### the light within a radius -/
def Lr (w h : Nat) (fn : List Nat) (x y r : Int) : Nat := ((List.range (w * h)).map fun i => Sh67.part x y r (i % w) (i / w) * fn.getD i 0).sum
theorem light_is (w h : Nat) (fn : List Nat) (x y r : Int) : (Sh67.aperture w h fn x y r).1 = Lr w h fn x y r := by
  unfold Sh67.aperture Lr
  dsimp only
  rw [each_map, map_flat, over_all (w := w) (h := h) fun i c q => [Sh67.part x y r c q * fn.getD i 0]]
  unfold Sh67.each
  dsimp only
  congr 1
  refine flat_congr fun q _ => ?_
  rw [map_flat]
  refine flat_congr fun c _ => ?_
  rw [arr_get]
theorem filter_mono {β : Type} {p q : β → Bool} (h : ∀ x, p x = true → q x = true) : ∀ l : List β, (l.filter p).length ≤ (l.filter q).length
  | [] => Nat.le_refl _
  | a :: t => by
    have ih := filter_mono h t
    rw [List.filter_cons, List.filter_cons]
    by_cases hp : p a = true
    · rw [if_pos hp, if_pos (h a hp), List.length_cons, List.length_cons]
      omega
    · rw [if_neg hp]
      split
      · rw [List.length_cons]
        omega
      · exact ih
theorem part_mono {x y r s : Int} (h0 : 0 ≤ r) (h : r ≤ s) (c q : Nat) : Sh67.part x y r c q ≤ Sh67.part x y s c q := by
  unfold Sh67.part
  refine filter_mono (fun p hp => ?_) _
  have hp := of_decide_eq_true hp
  have := Int.mul_le_mul h h h0 (by omega)
  exact decide_eq_true (by omega)
theorem sum_mono {β : Type} {f g : β → Nat} (h : ∀ x, f x ≤ g x) : ∀ l : List β, (l.map f).sum ≤ (l.map g).sum
  | [] => Nat.le_refl _
  | a :: t => by
    have := h a
    have := sum_mono h t
    rw [List.map_cons, List.map_cons, List.sum_cons, List.sum_cons]
    omega
theorem Lr_mono (w h : Nat) (fn : List Nat) (x y : Int) {r s : Int} (h0 : 0 ≤ r) (hs : r ≤ s) : Lr w h fn x y r ≤ Lr w h fn x y s :=
  sum_mono (fun i => Nat.mul_le_mul_right _ (part_mono h0 hs _ _)) _
theorem Lr_le {w h : Nat} {fn : List Nat} (x y r : Int) (hw : w ≤ 64) (hh : h ≤ 64) (hf : ∀ i, fn.getD i 0 < 65536) : Lr w h fn x y r ≤ 16 * 65536 * 4096 := by
  have go : ∀ l : List Nat, (l.map fun i => Sh67.part x y r (i % w) (i / w) * fn.getD i 0).sum ≤ 16 * 65536 * l.length := fun l => by
    induction l with
    | nil => exact Nat.le_refl _
    | cons a t ih =>
      have h1 := Nat.mul_le_mul (part_le x y r (a % w) (a / w)) (Nat.le_of_lt (hf a))
      rw [List.map_cons, List.sum_cons, List.length_cons]
      omega
  have h1 := go (List.range (w * h))
  rw [List.length_range] at h1
  have h2 := Nat.mul_le_mul hw hh
  unfold Lr
  omega
/-! ### the Spec's lights: at r the light of the points for which r is the least radius -/
def pre (s : Array Nat) (n : Nat) : Nat := ((List.range n).map fun j => s.getD j 0).sum
def least (d : Nat) : Nat := if Sh67.root d * Sh67.root d = d then Sh67.root d else Sh67.root d + 1
theorem least_le {d r : Nat} (hd : d < 2 ^ 64) : least d ≤ r ↔ d ≤ r * r := by
  have q := MRoot.root_spec hd
  unfold least
  split
  · rename_i e
    constructor
    · intro h
      have := Nat.mul_le_mul h h
      omega
    · intro h
      apply Nat.le_of_not_lt
      intro z
      have := Nat.mul_le_mul (show r + 1 ≤ Sh67.root d from z) (show r + 1 ≤ Sh67.root d from z)
      rw [Nat.add_mul, Nat.mul_add] at this
      omega
  · rename_i e
    constructor
    · intro h
      have := Nat.mul_le_mul h h
      omega
    · intro h
      apply Nat.le_of_not_lt
      intro z
      have := Nat.mul_le_mul (show r ≤ Sh67.root d by omega) (show r ≤ Sh67.root d by omega)
      omega
def stp (most : Nat) (d : Int) (v : Nat) (s : Array Nat) : Array Nat := if d ≤ (most * most : Nat) then s.setIfInBounds (least d.toNat) (s.getD (least d.toNat) 0 + v) else s
theorem get_set (s : Array Nat) (k v j : Nat) (hk : k < s.size) : (s.setIfInBounds k v).getD j 0 = if j = k then v else s.getD j 0 := by
  rw [Array.getD_eq_getD_getElem?, Array.getD_eq_getD_getElem?, Array.getElem?_setIfInBounds]
  by_cases h : k = j
  · subst h
    rw [if_pos rfl, if_pos hk, if_pos rfl]
    rfl
  · rw [if_neg h, if_neg fun e => h e.symm]
theorem pre_set (s : Array Nat) (k v : Nat) (hk : k < s.size) : ∀ n : Nat, pre (s.setIfInBounds k (s.getD k 0 + v)) n = pre s n + if k < n then v else 0
  | 0 => by simp [pre]
  | n + 1 => by
    have ih := pre_set s k v hk n
    unfold pre at ih ⊢
    rw [List.range_succ, List.map_append, List.sum_append, List.map_append, List.sum_append, ih]
    simp only [List.map_cons, List.map_nil, List.sum_cons, List.sum_nil, Nat.add_zero]
    rw [get_set s k _ n hk]
    by_cases h1 : n = k
    · subst h1
      rw [if_pos rfl, if_neg (by omega), if_pos (by omega)]
      omega
    · rw [if_neg h1]
      by_cases h2 : k < n
      · rw [if_pos h2, if_pos (by omega)]
        omega
      · rw [if_neg h2, if_neg (by omega)]
        omega
theorem stp_ok {most : Nat} (hm : most ≤ 512) {d : Int} (hd : 0 ≤ d) (v : Nat) {s : Array Nat} (hs : s.size = most + 1) :
    (stp most d v s).size = most + 1 ∧ ∀ r, r ≤ most → pre (stp most d v s) (r + 1) = pre s (r + 1) + if d ≤ ((r * r : Nat) : Int) then v else 0 := by
  unfold stp
  have hmm := Nat.mul_le_mul hm hm
  by_cases h : d ≤ (most * most : Nat)
  · have hb : d.toNat < 2 ^ 64 := by omega
    have hk : least d.toNat ≤ most := (least_le hb).mpr (by omega)
    rw [if_pos h]
    refine ⟨by rw [Array.size_setIfInBounds, hs], fun r hr => ?_⟩
    rw [pre_set s _ v (by omega)]
    congr 1
    have q := least_le (d := d.toNat) (r := r) hb
    by_cases h2 : d ≤ ((r * r : Nat) : Int)
    · have := q.mpr (by omega)
      rw [if_pos h2, if_pos (by omega)]
    · have : ¬ least d.toNat ≤ r := fun z => h2 (by have := q.mp z; omega)
      rw [if_neg h2, if_neg (by omega)]
  · rw [if_neg h]
    refine ⟨hs, fun r hr => ?_⟩
    have := Nat.mul_le_mul hr hr
    rw [if_neg (by omega)]
    rfl
theorem fold_ok {most : Nat} (hm : most ≤ 512) : ∀ (l : List (Int × Nat)) (s : Array Nat), (∀ z, z ∈ l → 0 ≤ z.1) → s.size = most + 1 →
    (l.foldl (fun s z => stp most z.1 z.2 s) s).size = most + 1 ∧ ∀ r, r ≤ most → pre (l.foldl (fun s z => stp most z.1 z.2 s) s) (r + 1) = pre s (r + 1) + (l.map fun z => if z.1 ≤ ((r * r : Nat) : Int) then z.2 else 0).sum
  | [], s, _, hs => ⟨hs, fun _ _ => rfl⟩
  | a :: t, s, hl, hs => by
    have q := stp_ok hm (hl a List.mem_cons_self) a.2 hs
    have q2 := fold_ok hm t (stp most a.1 a.2 s) (fun z hz => hl z (List.mem_cons_of_mem _ hz)) q.1
    rw [List.foldl_cons]
    refine ⟨q2.1, fun r hr => ?_⟩
    rw [q2.2 r hr, q.2 r hr, List.map_cons, List.sum_cons]
    omega
/-- how far the point p of the i-th place is, squared -/
def dd (w : Nat) (x y : Int) (i : Nat) (p : Nat × Nat) : Int := (((64 * (i % w) + p.1 : Nat) : Int) - x) * (((64 * (i % w) + p.1 : Nat) : Int) - x) + (((64 * (i / w) + p.2 : Nat) : Int) - y) * (((64 * (i / w) + p.2 : Nat) : Int) - y)
theorem dd_nn (w : Nat) (x y : Int) (i : Nat) (p : Nat × Nat) : 0 ≤ dd w x y i p := by
  have h1 := sq_nn (((64 * (i % w) + p.1 : Nat) : Int) - x)
  have h2 := sq_nn (((64 * (i / w) + p.2 : Nat) : Int) - y)
  unfold dd
  omega
theorem lights_is (w h : Nat) (fn : List Nat) (x y : Int) (most : Nat) : Sh67.lights w h fn x y most = (List.range (w * h)).foldl (fun s i => (Sh67.points.map fun p => (dd w x y i p, fn.getD i 0)).foldl (fun s z => stp most z.1 z.2 s) s) (Array.replicate (most + 1) 0) := by
  unfold Sh67.lights
  refine congrArg (fun F => (List.range (w * h)).foldl F (Array.replicate (most + 1) 0)) (funext fun s => funext fun i => ?_)
  rw [List.foldl_map]
  refine congrArg (fun F => Sh67.points.foldl F s) (funext fun s => funext fun p => ?_)
  unfold stp least dd
  dsimp only
  rw [arr_get fn i]
theorem part_sum (w : Nat) (x y : Int) (i r v : Nat) : ((Sh67.points.map fun p => (dd w x y i p, v)).map fun z => if z.1 ≤ ((r * r : Nat) : Int) then z.2 else 0).sum = Sh67.part x y r (i % w) (i / w) * v := by
  rw [List.map_map]
  unfold Sh67.part
  generalize Sh67.points = l
  induction l with
  | nil => exact (Nat.zero_mul v).symm
  | cons a t ih =>
    rw [List.map_cons, List.sum_cons, ih, List.filter_cons]
    have e : (dd w x y i a ≤ ((r * r : Nat) : Int)) = ((((64 * (i % w) + a.1 : Nat) : Int) - x) * (((64 * (i % w) + a.1 : Nat) : Int) - x) + (((64 * (i / w) + a.2 : Nat) : Int) - y) * (((64 * (i / w) + a.2 : Nat) : Int) - y) ≤ (r : Int) * r) := by
      unfold dd
      rw [Int.natCast_mul]
    by_cases hc : dd w x y i a ≤ ((r * r : Nat) : Int)
    · have e3 : ∀ n : Nat, (n + 1) * v = n * v + v := fun n => Nat.succ_mul n v
      rw [if_pos (decide_eq_true (e ▸ hc)), List.length_cons, e3]
      show (if dd w x y i a ≤ ((r * r : Nat) : Int) then v else 0) + _ = _
      rw [if_pos hc]
      omega
    · rw [if_neg fun z => hc (e.symm ▸ of_decide_eq_true z)]
      show (if dd w x y i a ≤ ((r * r : Nat) : Int) then v else 0) + _ = _
      rw [if_neg hc]
      omega
theorem lights_ok (w h : Nat) (fn : List Nat) (x y : Int) {most : Nat} (hm : most ≤ 512) : (Sh67.lights w h fn x y most).size = most + 1 ∧ ∀ r, r ≤ most → pre (Sh67.lights w h fn x y most) (r + 1) = Lr w h fn x y r := by
  rw [lights_is]
  have go : ∀ (l : List Nat) (s : Array Nat), s.size = most + 1 → (l.foldl (fun s i => (Sh67.points.map fun p => (dd w x y i p, fn.getD i 0)).foldl (fun s z => stp most z.1 z.2 s) s) s).size = most + 1 ∧
      ∀ r, r ≤ most → pre (l.foldl (fun s i => (Sh67.points.map fun p => (dd w x y i p, fn.getD i 0)).foldl (fun s z => stp most z.1 z.2 s) s) s) (r + 1) = pre s (r + 1) + (l.map fun i => Sh67.part x y r (i % w) (i / w) * fn.getD i 0).sum := fun l => by
    induction l with
    | nil => exact fun s hs => ⟨hs, fun _ _ => rfl⟩
    | cons a t ih =>
      intro s hs
      have q := fold_ok hm (Sh67.points.map fun p => (dd w x y a p, fn.getD a 0)) s (fun z hz => by
        rw [List.mem_map] at hz
        obtain ⟨p, _, rfl⟩ := hz
        exact dd_nn w x y a p) hs
      have q2 := ih _ q.1
      rw [List.foldl_cons]
      refine ⟨q2.1, fun r hr => ?_⟩
      rw [q2.2 r hr, q.2 r hr, List.map_cons, List.sum_cons, part_sum]
      omega
  have q := go (List.range (w * h)) (Array.replicate (most + 1) 0) (by simp)
  refine ⟨q.1, fun r hr => ?_⟩
  rw [q.2 r hr]
  have e0 : ∀ n, pre (Array.replicate (most + 1) 0) n = 0 := fun n => by
    unfold pre
    induction n with
    | zero => rfl
    | succ n ih =>
      rw [List.range_succ, List.map_append, List.sum_append, ih]
      simp [Array.getD_eq_getD_getElem?, Array.getElem?_replicate]
      split <;> rfl
  rw [e0, Nat.zero_add]
  rfl
theorem sum_all (s : Array Nat) : s.foldl (fun (a n : Nat) => a + n) 0 = pre s s.size := by
  rw [← Array.foldl_toList]
  have h1 : ∀ (l : List Nat) (a : Nat), l.foldl (fun (a n : Nat) => a + n) a = a + l.sum := fun l => by
    induction l with
    | nil => exact fun a => rfl
    | cons b t ih =>
      intro a
      rw [List.foldl_cons, ih, List.sum_cons]
      omega
  rw [h1, Nat.zero_add]
  unfold pre
  congr 1
  apply List.ext_getElem?
  intro i
  rw [List.getElem?_map]
  by_cases hi : i < s.size
  · rw [List.getElem?_range hi]
    simp [Array.getD_eq_getD_getElem?, hi]
  · rw [List.getElem?_eq_none (by simp; omega), List.getElem?_eq_none (by simp; omega)]
    rfl
/-! ### the first radius within which there's enough -/
/-- R is the least radius to most with P, or most itself -/
structure Least (P : Nat → Prop) (most R : Nat) : Prop where
  le : R ≤ most
  no : ∀ j, j < R → ¬ P j
  yes : R < most → P R
theorem Least.one {P : Nat → Prop} {most a b : Nat} (x : Least P most a) (y : Least P most b) : a = b := by
  rcases Nat.lt_trichotomy a b with h | h | h
  · exact absurd (x.yes (Nat.lt_of_lt_of_le h y.le)) (y.no a h)
  · exact h
  · exact absurd (y.yes (Nat.lt_of_lt_of_le h x.le)) (x.no b h)
theorem first_ok (k all : Nat) (s : Array Nat) (most : Nat) : ∀ n r : Nat, r + n = most → (∀ j, j < r → ¬ k * all ≤ 256 * pre s (j + 1)) → Least (fun j => k * all ≤ 256 * pre s (j + 1)) most (Sh67.firstWith k all s n r (pre s r))
  | 0, r, h, hn => ⟨by unfold Sh67.firstWith; omega, by unfold Sh67.firstWith; exact hn, by unfold Sh67.firstWith; intro z; omega⟩
  | n + 1, r, h, hn => by
    have e : pre s (r + 1) = pre s r + s.getD r 0 := by
      unfold pre
      rw [List.range_succ, List.map_append, List.sum_append]
      simp
    rw [Sh67.firstWith]
    rw [← e]
    by_cases hc : k * all ≤ 256 * pre s (r + 1)
    · rw [if_pos hc]
      exact ⟨by omega, hn, fun _ => hc⟩
    · rw [if_neg hc]
      refine first_ok k all s most n (r + 1) (by omega) fun j hj => ?_
      rcases Nat.lt_or_ge j r with h1 | h1
      · exact hn j h1
      · have e2 : j = r := by omega
        rw [e2]
        exact hc
/-- what is enough -/
def Enough (w h : Nat) (fn : List Nat) (x y : Int) (most k : Nat) (j : Nat) : Prop := k * Lr w h fn x y most ≤ 256 * Lr w h fn x y j
theorem radius_is (w h : Nat) (fn : List Nat) (x y : Int) {most : Nat} (hm : most ≤ 512) (k : Nat) : Least (Enough w h fn x y most k) most (Sh67.radius w h fn x y most k) := by
  have q := lights_ok w h fn x y hm
  have f := first_ok k ((Sh67.lights w h fn x y most).foldl (fun (s n : Nat) => s + n) 0) (Sh67.lights w h fn x y most) most most 0 (by omega) fun j hj => absurd hj (by omega)
  have e0 : pre (Sh67.lights w h fn x y most) 0 = 0 := rfl
  have ea : (Sh67.lights w h fn x y most).foldl (fun (s n : Nat) => s + n) 0 = Lr w h fn x y most := by
    rw [sum_all, q.1, q.2 most (Nat.le_refl _)]
  rw [e0, ea] at f
  have eR : Sh67.radius w h fn x y most k = Sh67.firstWith k (Lr w h fn x y most) (Sh67.lights w h fn x y most) most 0 0 := by
    show Sh67.firstWith k ((Sh67.lights w h fn x y most).foldl (fun (s n : Nat) => s + n) 0) (Sh67.lights w h fn x y most) most 0 0 = _
    rw [ea]
  rw [eR]
  refine ⟨f.le, fun j hj => ?_, fun hj => ?_⟩
  · have := f.no j hj
    rw [q.2 j (by have := f.le; omega)] at this
    exact this
  · have := f.yes hj
    rw [q.2 _ f.le] at this
    exact this
end MRadius

namespace MAsk
/-- what the frame calls ask of their numbers -/
def ok (w h : Nat) (xn : List Nat) (b : Bool) : Bool := Sh67.sized w h && Sh67.some_ (xn.length / 2) && b
theorem nats_ints {l : List Int} (h : ∀ x, x ∈ l → 0 ≤ x ∧ x ≤ 65535) : Sh67Neutral.ints (Sh67Neutral.nats l) = l := by
  unfold Sh67Neutral.ints Sh67Neutral.nats
  rw [List.map_map]
  refine (List.map_congr_left fun x hx => ?_).trans (List.map_id l)
  have := h x hx
  show ((x.toNat : Nat) : Int) = x
  omega
theorem ints_nats (l : List Nat) : Sh67Neutral.nats (Sh67Neutral.ints l) = l := by
  unfold Sh67Neutral.ints Sh67Neutral.nats
  rw [List.map_map]
  exact (List.map_congr_left fun x hx => rfl).trans (List.map_id l)
theorem nats_big {l : List Int} (h : ∀ x, x ∈ l → 0 ≤ x ∧ x ≤ 65535) : ∀ x, x ∈ Sh67Neutral.nats l → x < 65536 := fun x hx => by
  unfold Sh67Neutral.nats at hx
  rw [List.mem_map] at hx
  obtain ⟨z, hz, rfl⟩ := hx
  have := h z hz
  omega
/-- the lengths: as told where the numbers are in their ranges, else these or none -/
theorem lens {A : Bool} {w h : Nat} {l0 l1 : List Int}
    (e : (if A = true then l0.length == (w * h) && l1.length == (2 * ((Sh67Neutral.nats l1).length / 2)) else (l0.isEmpty && l1.isEmpty) || (l0.length == (w * h) && l1.length == (2 * ((Sh67Neutral.nats l1).length / 2)))) = true) :
    (A = true → (Sh67Neutral.nats l0).length = w * h) ∧ (Sh67Neutral.nats l1).length = 2 * ((Sh67Neutral.nats l1).length / 2) := by
  have e0 : (Sh67Neutral.nats l0).length = l0.length := List.length_map ..
  have e1 : (Sh67Neutral.nats l1).length = l1.length := List.length_map ..
  rw [e1] at e
  rw [e0, e1]
  split at e
  · rw [Bool.and_eq_true] at e
    exact ⟨fun _ => eq_of_beq e.1, eq_of_beq e.2⟩
  · rename_i ha
    refine ⟨fun h => absurd h ha, ?_⟩
    rw [Bool.or_eq_true] at e
    rcases e with e | e
    · rw [Bool.and_eq_true] at e
      have := List.isEmpty_iff.mp e.2
      subst this
      rfl
    · rw [Bool.and_eq_true] at e
      exact eq_of_beq e.2
theorem natural_bits {z : Int} {b : Nat} (h : Sh67Neutral.natural z b = true) : 0 ≤ z := by
  unfold Sh67Neutral.natural at h
  rw [Bool.and_eq_true] at h
  exact of_decide_eq_true h.1
theorem sized_iff (w h : Nat) : Sh67.sized w h = ((decide (1 ≤ (w : Int)) && decide ((w : Int) ≤ 64)) && (decide (1 ≤ (h : Int)) && decide ((h : Int) ≤ 64))) := by
  unfold Sh67.sized Sh67.among
  rw [Bool.eq_iff_iff]
  simp only [Bool.and_eq_true, decide_eq_true_eq]
  omega
theorem some_iff {xn : List Nat} (h : xn.length = 2 * (xn.length / 2)) : Sh67.some_ (xn.length / 2) = decide ((xn.length : Int) ≤ 128) := by
  unfold Sh67.some_
  rw [Bool.eq_iff_iff]
  simp only [decide_eq_true_eq]
  omega
theorem flat_len {α β : Type} (k : Nat) (F : α → List β) (h : ∀ x, (F x).length = k) : ∀ l : List α, (l.flatMap F).length = k * l.length
  | [] => rfl
  | a :: r => by
    rw [List.flatMap_cons, List.length_append, h, flat_len k F h r, List.length_cons, Nat.mul_succ]
    omega
theorem pairs_len (xn : List Nat) : (Sh67.pairsOf xn).length = xn.length / 2 := by
  unfold Sh67.pairsOf
  rw [List.length_map, List.length_range]
theorem pairs_mem {xn : List Nat} (hb : ∀ x, x ∈ xn → x < 65536) {p : Int × Int} (hp : p ∈ Sh67.pairsOf xn) : (0 ≤ p.1 ∧ p.1 < 65536) ∧ (0 ≤ p.2 ∧ p.2 < 65536) := by
  unfold Sh67.pairsOf at hp
  rw [List.mem_map] at hp
  obtain ⟨i, _, rfl⟩ := hp
  have g : ∀ j, Sh67.num xn j < 65536 := fun j => by
    unfold Sh67.num
    rw [List.getD_eq_getElem?_getD]
    cases e : xn[j]? with
    | none => exact (by decide : 0 < 65536)
    | some v => exact hb v (List.mem_of_getElem? e)
  have := g (2 * i)
  have := g (2 * i + 1)
  dsimp only
  omega
end MAsk

namespace Pd
open PySem PySem.Spec PyProof.Rows L2
/-! ### what stands at a name of the top -/
def Cal (P : Program) (w : World) (K : Fg) (mg : Str → Option Value) (base : Heap) (C : Addr) (k : Nat) (x : Str) (ps : List Str) (R : List Dt → Dt → Prop) : Prop :=
  ∃ (f : Addr) (fd : FuncData), FnOk P w K mg base CX0 k f fd ps (spD K C R) ∧ mg x = some (.ref f) ∧ PySem.W.keepIn K (.ref f) = true ∧ Binds K fd ps []
def Mel (P : Program) (w : World) (K : Fg) (mg : Str → Option Value) (base : Heap) (C : Addr) (k : Nat) (x : Str) (ps : List Str) (R : List Dt → Dt → Prop) : Prop :=
  ∃ (f : Addr) (fd : FuncData), FnOk P w K mg base CX0 k f fd ps (spD K C R) ∧ Meth K C x f ∧ Binds K fd ps []
theorem pe_gint {X : Cx} {x : Str} {i : Int} {pos : Pos} (h : ∃ t, X.mg x = some (.int i t)) (hg : Gl X x) (hd : (x == ("__debug__" : Str)) = false := by decide) : PE X (.Name x pos) (tC (.int i)) := by
  obtain ⟨t, h⟩ := h
  exact pe_glob hg h ⟨t, rfl⟩ hd
theorem ix_tupK {X : Cx} {K : Fg} (h : X.K = K) : IxR X (rIxT K) := h ▸ ix_tup
theorem ix_listK {X : Cx} {K : Fg} (h : X.K = K) : IxR X (rIxL K) := h ▸ ix_list
/-- a tuple of ints that the top has written -/
def intsOf : List Value → Option (List Int)
  | [] => some []
  | .int i _ :: r => (intsOf r).map fun l => i :: l
  | _ => none
def tupOf (o : Obj) : Option (List Int) := match o.data with
  | .seq its _ => if o.cls = .type "tuple" ∧ its.size ≤ 1000 then intsOf its.toList else none
  | _ => none
theorem intsOf_vals : ∀ {us : List Value} {ns : List Int}, intsOf us = some ns → Vals (ns.map V.int) us
  | [], ns, h => by
    cases h
    exact .nil
  | .int i t :: r, ns, h => by
    have h' : (intsOf r).map (fun l => i :: l) = some ns := h
    obtain ⟨l, h1, rfl⟩ := Option.map_eq_some_iff.mp h'
    exact .cons ⟨t, rfl⟩ (intsOf_vals h1)
  | .none :: _, _, h => by cases h
  | .ellipsis :: _, _, h => by cases h
  | .notImplemented :: _, _, h => by cases h
  | .bool _ :: _, _, h => by cases h
  | .float _ _ :: _, _, h => by cases h
  | .str _ _ :: _, _, h => by cases h
  | .bytes _ _ :: _, _, h => by cases h
  | .type _ :: _, _, h => by cases h
  | .builtin _ :: _, _, h => by cases h
  | .ref _ :: _, _, h => by cases h
theorem sqT_of {K : Fg} {a : Addr} {o : Obj} {ns : List Int} {H : Hp} (l : K.lookup a = some o) (h : tupOf o = some ns) : SqT K H a (ns.map V.int) := by
  unfold tupOf at h
  split at h
  · rename_i its n hd
    split at h
    · rename_i hc
      exact Or.inr ⟨o, its, n, l, hc.1, hd, sz_le (Nat.le_trans hc.2 (by decide)), intsOf_vals h⟩
    · cases h
  · cases h
/-! ### from the request, to the answer -/
theorem dw_int {K : Fg} {C : Addr} {H : Hp} {v : V} {i : Int} (h : Dw K H v (.int i)) : Dr K C H v (.int i) := by
  cases h
  exact .int i
theorem dw_list {K : Fg} {C : Addr} {H : Hp} {v : V} {ns : List Int} (h : Dw K H v (.list (ns.map PySem.W.WData.int))) : Dr K C H v (.lst (ns.map Dt.int)) := by
  cases h with
  | lst p q =>
    have e := ints_dw ns _ q
    subst e
    exact .lst p (ints_drs ns)
theorem dr_out {K : Fg} {C : Addr} {G H : Hp} {v : V} {ns : List Int} (h : Dr K C G v (.lst (ns.map Dt.int))) (s : Same G H) : Dw K H v (.list (ns.map PySem.W.WData.int)) := by
  cases h with
  | lst p q =>
    have e := drs_ints q
    subst e
    exact .lst (s.seq p) (dw_ints ns)
theorem all_int {lo hi : Int} {ns : List Int} (h : ns.all (PySem.W.Codec.inInt lo hi) = true) : ∀ x, x ∈ ns → lo ≤ x ∧ x ≤ hi := fun x hx => PySem.W.Codec.inInt_iff.mp (List.all_eq_true.mp h x hx)
/-! ### one step of a reading, by its form -/
local macro_rules | `(tactic| walk_at "ev1") => `(tactic| first
  | exact ed_int
  | exact ed_bl
  | exact ea_nil
  | refine ea_cons ?_ ?_
  | refine ed_var rfl
  | refine ed_add ?_ ?_
  | refine ed_sub ?_ ?_
  | refine ed_lt ?_ ?_
  | refine ed_le ?_ ?_
  | refine ed_gt ?_ ?_
  | refine ed_ge ?_ ?_
  | refine ed_mul ?_ ?_ ?_
  | refine ed_div ?_ ?_ ?_
  | refine ed_mod ?_ ?_ ?_
  | refine ed_chainLe ?_ ?_ ?_
  | refine ed_chainLtLe ?_ ?_ ?_
  | refine ed_andV ?_ ?_
  | refine eb_v ?_
  | refine eb_t ?_
  | refine eb_and ?_ ?_
  | refine eb_or ?_ ?_
  | refine eb_not ?_
  | refine ed_abs ?_
  | refine ed_max2 ?_ ?_
  | refine ed_min2 ?_ ?_
  | refine ed_len ?_
  | refine ed_neg ?_
  | refine ed_bits ?_
  | refine ed_shl ?_ ?_ ?_
  | refine ed_shr ?_ ?_ ?_
  | refine ed_tup ?_
  | refine en_lst ?_)
local macro_rules | `(tactic| walk_at "ev") => `(tactic| repeat' walk_at "ev1")

/-! ### frames, places, spots as data -/
def dp (p : Nat × Nat) : Dt := .tup [.int p.1, .int p.2]
def dq (p : Int × Int) : Dt := .tup [.int p.1, .int p.2]
def natD (l : List Nat) : List Dt := l.map fun (n : Nat) => Dt.int (n : Int)
def FR (w h : Nat) (fn : List Nat) : Dt := .frm w h (Sh67Neutral.ints fn)
theorem ints_is (l : List Nat) : (Sh67Neutral.ints l).map Dt.int = natD l := by
  unfold Sh67Neutral.ints natD
  rw [List.map_map]
  rfl
theorem nat_at {l : List Nat} {i : Nat} (h : i < l.length) : (natD l)[i]? = some (.int ((l.getD i 0 : Nat) : Int)) := by
  unfold natD
  rw [List.getElem?_map, List.getElem?_eq_getElem h, List.getD_eq_getElem?_getD, List.getElem?_eq_getElem h]
  rfl
/-- a frame as it may be -/
structure FOk (w h : Nat) (fn : List Nat) : Prop where
  w64 : w ≤ 64
  h64 : h ≤ 64
  len : fn.length = w * h
  big : ∀ x, x ∈ fn → x < 65536
theorem FOk.in_ {w h : Nat} {fn : List Nat} (F : FOk w h fn) {c q : Nat} (hc : c < w) (hq : q < h) : w * q + c < fn.length := by
  rw [F.len]
  have := Nat.mul_le_mul_left w (show q + 1 ≤ h from hq)
  rw [Nat.mul_add] at this
  omega
theorem FOk.get {w h : Nat} {fn : List Nat} (F : FOk w h fn) (i : Nat) : fn.getD i 0 < 65536 := by
  rw [List.getD_eq_getElem?_getD]
  cases e : fn[i]? with
  | none => exact (by decide : 0 < 65536)
  | some v => exact F.big v (List.mem_of_getElem? e)

/-! ### the text by its places -/
def topS (i : Nat) : Stmt := PySem.Challenge.pw_starlight_s07_ap_radius.main.body.getD i (.Pass ⟨0, 0, 0, 0⟩)
abbrev s_init : Stmt := inClass (topS 2) 0
theorem sc_init : FnScope ["self", "wide", "high", "numbers"] ["self", "wide", "high", "numbers"] (defScope s_init) := ⟨rfl, rfl, rfl, by decide +kernel, rfl, by decide +kernel, by decide +kernel⟩
abbrev s_are_sides : Stmt := topS 17
theorem sc_are_sides : FnScope ["wide", "high"] ["wide", "high"] (defScope s_are_sides) := ⟨rfl, rfl, rfl, by decide +kernel, rfl, by decide +kernel, by decide +kernel⟩
abbrev s_are_places : Stmt := topS 18
theorem sc_are_places : FnScope ["xy"] ["xy"] (defScope s_are_places) := ⟨rfl, rfl, rfl, by decide +kernel, rfl, by decide +kernel, by decide +kernel⟩
abbrev s_are_seen : Stmt := topS 19
theorem sc_are_seen : FnScope ["wide", "high", "xy"] ["wide", "high", "xy"] (defScope s_are_seen) := ⟨rfl, rfl, rfl, by decide +kernel, rfl, by decide +kernel, by decide +kernel⟩
abbrev s_columns_near : Stmt := inClass (topS 2) 2
theorem sc_columns_near : FnScope ["self", "x", "far"] ["self", "x", "far"] (defScope s_columns_near) := ⟨rfl, rfl, rfl, by decide +kernel, rfl, by decide +kernel, by decide +kernel⟩
abbrev s_rows_near : Stmt := inClass (topS 2) 3
theorem sc_rows_near : FnScope ["self", "y", "far"] ["self", "y", "far"] (defScope s_rows_near) := ⟨rfl, rfl, rfl, by decide +kernel, rfl, by decide +kernel, by decide +kernel⟩
abbrev s_places_near : Stmt := inClass (topS 2) 4
theorem sc_places_near : FnScope ["self", "x", "y", "far", "found", "first", "last", "begin", "end", "row", "column"] ["self", "x", "y", "far"] (defScope s_places_near) := ⟨rfl, rfl, rfl, by decide +kernel, rfl, by decide +kernel, by decide +kernel⟩
abbrev s_squares_along : Stmt := topS 7
theorem sc_squares_along : FnScope ["place", "here", "step"] ["place", "here"] (defScope s_squares_along) := ⟨rfl, rfl, rfl, by decide +kernel, rfl, by decide +kernel, by decide +kernel⟩
abbrev s_points_within : Stmt := topS 8
theorem sc_points_within : FnScope ["place", "spot", "radius", "across", "down", "most", "many", "one", "other"] ["place", "spot", "radius"] (defScope s_points_within) := ⟨rfl, rfl, rfl, by decide +kernel, rfl, by decide +kernel, by decide +kernel⟩
abbrev s_number : Stmt := inClass (topS 2) 1
theorem sc_number : FnScope ["self", "column", "row"] ["self", "column", "row"] (defScope s_number) := ⟨rfl, rfl, rfl, by decide +kernel, rfl, by decide +kernel, by decide +kernel⟩
abbrev s_aperture : Stmt := topS 9
theorem sc_aperture : FnScope ["frame", "spot", "radius", "light", "points", "place", "many"] ["frame", "spot", "radius"] (defScope s_aperture) := ⟨rfl, rfl, rfl, by decide +kernel, rfl, by decide +kernel, by decide +kernel⟩
abbrev s_light_within : Stmt := topS 10
theorem sc_light_within : FnScope ["frame", "spot", "radius"] ["frame", "spot", "radius"] (defScope s_light_within) := ⟨rfl, rfl, rfl, by decide +kernel, rfl, by decide +kernel, by decide +kernel⟩
abbrev s_least_radius : Stmt := topS 11
theorem sc_least_radius : FnScope ["frame", "spot", "most", "k", "due", "low", "high", "middle"] ["frame", "spot", "most", "k"] (defScope s_least_radius) := ⟨rfl, rfl, rfl, by decide +kernel, rfl, by decide +kernel, by decide +kernel⟩
abbrev s_spots_of : Stmt := topS 3
theorem sc_spots_of : FnScope ["xy", "at"] ["xy"] (defScope s_spots_of) := ⟨rfl, rfl, rfl, by decide +kernel, rfl, by decide +kernel, by decide +kernel⟩
abbrev s_ap_radius : Stmt := topS 22
theorem sc_ap_radius : FnScope ["most", "k", "w", "h", "f", "xy", "frame", "spot"] ["most", "k", "w", "h", "f", "xy"] (defScope s_ap_radius) := ⟨rfl, rfl, rfl, by decide +kernel, rfl, by decide +kernel, by decide +kernel⟩
/-! ### what the top has written -/
structure Tx (K : Fg) (mg : Str → Option Value) (C : Addr) : Prop where
  b_len : mg "len" = none
  b_max : mg "max" = none
  b_min : mg "min" = none
  b_range : mg "range" = none
  g_MOST_MOST : ∃ t, mg "MOST_MOST" = some (.int (512) t)
  g_MOST_PARTS : ∃ t, mg "MOST_PARTS" = some (.int (256) t)
  g_MOST_PLACES : ∃ t, mg "MOST_PLACES" = some (.int (64) t)
  g_MOST_SIDE : ∃ t, mg "MOST_SIDE" = some (.int (64) t)
  g_OUT_OF_RANGE : ∃ t, mg "OUT_OF_RANGE" = some (.int (-2) t)
  g_PARTS : ∃ t, mg "PARTS" = some (.int (256) t)
  g_PLACE : ∃ t, mg "PLACE" = some (.int (64) t)
  g_STEPS : ∃ a, mg "STEPS" = some (.ref a) ∧ ∀ H, SqT K H a [.int 8, .int 24, .int 40, .int 56]
  X : Txt K C
  mgC : mg "Frame" = some (.ref C)
theorem Tx.cl {K : Fg} {mg : Str → Option Value} {C : Addr} (T : Tx K mg C) : Cls K C := T.X.cl
section
variable {P : Program} {w : World} {K : Fg} {mg : Str → Option Value} {base : Heap} {C : Addr}
/-! ### Frame.__init__ -/
def spInit (C : Addr) : Sp := fun vs H Q _ => ∃ (p dx fa : Addr) (w h : Int), vs = [.ref p, .int w, .int h, .ref fa] ∧ H p = some (.ins C dx []) ∧ ∀ H' : Hp, H' p = some (.ins C dx (fF w h fa)) → (∀ b o, H b = some o → b ≠ p → H' b = some o) → Q .non H'
def Ini (P : Program) (w : World) (K : Fg) (mg : Str → Option Value) (base : Heap) (C : Addr) : Prop :=
  ∃ (f : Addr) (fd : FuncData), FnOk P w K mg base CX0 1 f fd ["self", "wide", "high", "numbers"] (spInit C) ∧ Mk K C f ∧ Binds K fd ["self", "wide", "high", "numbers"] []
theorem putA {f : Str} {v : V} : putF f v [] = [(f, v)] := rfl
theorem putB {f g : Str} {v x : V} {r : List (Str × V)} (h : ¬ g = f) : putF f v ((g, x) :: r) = (g, x) :: putF f v r := if_neg h
theorem put_all (w h : Int) (fa : Addr) : putF "numbers" (.ref fa) (putF "high" (.int h) (putF "wide" (.int w) [])) = fF w h fa := by
  rw [putA, putB (by decide +kernel), putA, putB (by decide +kernel), putB (by decide +kernel), putA]
  rfl
theorem ed_make {Γ : Ct} {tr : TA} {E : XK} {w h : Int} {f : List Int} (ha : EvA K C tr Γ [.int w, .int h, .lst (f.map Dt.int)]) : EvD K C (tMake C (spInit C) [] E tr) Γ (.frm w h f) := fun σ G H sd s Q q =>
  ha σ G H sd s _ fun vs G1 H1 g1 dv => by
    cases dv with
    | cons p r =>
      cases r with
      | cons p' r =>
        cases r with
        | cons p'' r =>
          cases r
          cases p
          cases p'
          cases p'' with
          | lst hl hr =>
            have e := drs_ints hr
            subst e
            intro x dx nx nd ne
            refine ⟨x, dx, _, w, h, rfl, upd_same, fun H' e1 keep => ⟨rfl, ?_⟩⟩
            have nG : G1 x = none := g1.gh.free nx
            have hh : Same H1 H' := fun b o hb => keep b o (by
              rw [upd_ne (ne_of_none hb nx), upd_ne (ne_of_none hb nd)]
              exact hb) (ne_of_none hb nx)
            refine q (.ref x) (upd G1 x (.ins C dx (fF w h _))) H' (g1.trans ⟨hh, same_new nG, fun b o hb => ?_, fun b hb => ?_⟩) (.frm upd_same ((same_new nG).seq hl))
            · by_cases hx : b = x
              · subst hx
                rw [upd_same] at hb
                rw [e1, ← hb]
              · rw [upd_ne hx] at hb
                exact hh b o (g1.gh b o hb)
            · by_cases hx : b = x
              · subst hx
                exact Or.inr nx
              · rw [upd_ne hx] at hb
                exact Or.inl hb

theorem ok_init {f : Addr} {fd : FuncData} (T : Tx K mg C) (F : Fun K "__init__" "Frame.__init__" s_init f fd) : FnOk P w K mg base CX0 1 f fd ["self", "wide", "high", "numbers"] (spInit C) := by
  refine F.ok sc_init (fun vs H Q E h => ?_) (fun cdv A outer s H vs Q E hr h => ⟨_, (pss_cons (ps_fld (pv 0) (pv 1) rfl)
      (pss_cons (ps_fld (pv 0) (pv 2) rfl)
      (pss_one (ps_fld (pv 0) (pv 3) rfl)))), ?_⟩)
  · obtain ⟨p, dx, fa, w, h, rfl, _⟩ := h
    rfl
  · obtain ⟨p, dx, fa, wi, hi, rfl, hp, k⟩ := h
    refine ⟨_, rfl, _, rfl, p, C, dx, [], rfl, hp, T.cl, T.X.nW, (by show 0 < 1000; decide), ?_⟩
    refine ⟨_, rfl, _, rfl, p, C, dx, _, rfl, upd_same, T.cl, T.X.nH, (by show 1 < 1000; decide), ?_⟩
    refine ⟨_, rfl, _, rfl, p, C, dx, _, rfl, upd_same, T.cl, T.X.nN, (by show 2 < 1000; decide), ?_⟩
    refine k _ (Eq.trans upd_same (congrArg (fun q => some (HO.ins C dx q)) (put_all wi hi fa))) fun b o e hb => ?_
    rw [upd_ne hb, upd_ne hb, upd_ne hb]
    exact e

/-! ### are_sides -/
def sidesOk (w h : Int) : Bool := (decide (1 ≤ w) && decide (w ≤ 64)) && (decide (1 ≤ h) && decide (h ≤ 64))
def R_are_sides (ds : List Dt) (d : Dt) : Prop := ∃ w h : Int, ds = [.int w, .int h] ∧ d = .bl (sidesOk w h)

theorem ok_are_sides {f : Addr} {fd : FuncData} (T : Tx K mg C) (F : Fun K "are_sides" "are_sides" s_are_sides f fd) : FnOk P w K mg base CX0 1 f fd ["wide", "high"] (spD K C R_are_sides) := by
  refine okD F sc_are_sides (fun ds d r => ?_) fun cdv A outer s H E hr => ⟨_, (pss_one (ps_ret (pe_and (pe_chain op_le op_le pe_int (pv 0) (pe_gint T.g_MOST_SIDE (by rfl))) (pe_one (pe_chain op_le op_le pe_int (pv 1) (pe_gint T.g_MOST_SIDE (by rfl))))))), fun ds d r G0 Q q => ?_⟩
  · obtain ⟨w, h, rfl, rfl⟩ := r
    rfl
  · obtain ⟨w, h, rfl, rfl⟩ := r
    exact s_ret (d := .bl (sidesOk w h)) (ed_andV (ed_chainLe (by walk_at "ev") (by walk_at "ev") (by walk_at "ev")) (ed_chainLe (by walk_at "ev") (by walk_at "ev") (by walk_at "ev"))) q

/-! ### are_places -/
def R_are_places (ds : List Dt) (d : Dt) : Prop := ∃ xs : List Dt, ds = [.lst xs] ∧ d = .bl (decide ((xs.length : Int) ≤ 128))

theorem ok_are_places {f : Addr} {fd : FuncData} (T : Tx K mg C) (F : Fun K "are_places" "are_places" s_are_places f fd) : FnOk P w K mg base CX0 1 f fd ["xy"] (spD K C R_are_places) := by
  refine okD F sc_are_places (fun ds d r => ?_) fun cdv A outer s H E hr => ⟨_, (pss_one (ps_ret (pe_cmpR op_le (pe_callB call_len_seq (by rfl) T.b_len (by decide +kernel) (pa_cons (pv 0) pa_nil)) (pe_op op_mul pe_int (pe_gint T.g_MOST_PLACES (by rfl))) (nomark _)))), fun ds d r G0 Q q => ?_⟩
  · obtain ⟨xs, rfl, rfl⟩ := r
    rfl
  · obtain ⟨xs, rfl, rfl⟩ := r
    exact s_ret (d := .bl (decide ((xs.length : Int) ≤ 2 * 64))) (ed_le (by walk_at "ev") (ed_mul (by walk_at "ev") (by walk_at "ev") (Or.inl ⟨by decide, by decide⟩))) q

/-! ### are_seen -/
def R_are_seen (ds : List Dt) (d : Dt) : Prop := ∃ (w h : Int) (xs : List Dt), ds = [.int w, .int h, .lst xs] ∧ d = .bl (sidesOk w h && decide ((xs.length : Int) ≤ 128))

theorem ok_are_seen {f : Addr} {fd : FuncData} (T : Tx K mg C) (F : Fun K "are_seen" "are_seen" s_are_seen f fd) (h_are_sides : Cal P w K mg base C 1 "are_sides" ["wide", "high"] R_are_sides) (h_are_places : Cal P w K mg base C 1 "are_places" ["xy"] R_are_places) : FnOk P w K mg base CX0 2 f fd ["wide", "high", "xy"] (spD K C R_are_seen) := by
  obtain ⟨f_are_sides, fd_are_sides, G_are_sides, m_are_sides, kp_are_sides, bi_are_sides⟩ := h_are_sides
  obtain ⟨f_are_places, fd_are_places, G_are_places, m_are_places, kp_are_places, bi_are_places⟩ := h_are_places
  refine okD F sc_are_seen (fun ds d r => ?_) fun cdv A outer s H E hr => ⟨_, (pss_one (ps_ret (pe_and (pe_call G_are_sides (hr.mono (by decide)) (by rfl) m_are_sides kp_are_sides bi_are_sides .nil pass0 (pa_cons (pv 0) (pa_cons (pv 1) pa_nil))) (pe_one (pe_call G_are_places (hr.mono (by decide)) (by rfl) m_are_places kp_are_places bi_are_places .nil pass0 (pa_cons (pv 2) pa_nil)))))), fun ds d r G0 Q q => ?_⟩
  · obtain ⟨w, h, xs, rfl, rfl⟩ := r
    rfl
  · obtain ⟨w, h, xs, rfl, rfl⟩ := r
    exact s_ret (ed_andV (ed_call (ea_cons (ed_var rfl) (ea_cons (ed_var rfl) ea_nil)) ⟨w, h, rfl, rfl⟩) (ed_call (ea_cons (ed_var rfl) ea_nil) ⟨xs, rfl, rfl⟩)) q

/-! ### Frame.columns_near -/
def R_columns_near (ds : List Dt) (d : Dt) : Prop := ∃ (w h : Nat) (f : List Int) (x far : Int), ds = [.frm w h f, .int x, .int far] ∧ d = .tup [.int (MFrame.lo x far), .int (MFrame.hi w x far)]

theorem ok_columns_near {f : Addr} {fd : FuncData} (T : Tx K mg C) (F : Fun K "columns_near" "Frame.columns_near" s_columns_near f fd) : FnOk P w K mg base CX0 1 f fd ["self", "x", "far"] (spD K C R_columns_near) := by
  refine okD F sc_columns_near (fun ds d r => ?_) fun cdv A outer s H E hr => ⟨_, (pss_one (ps_ret (pe_tup (pa_cons (pe_callB (call_max2 rfl) (by rfl) T.b_max (by decide +kernel) (pa_cons pe_int (pa_cons (pe_op op_fdivW (pe_op op_sub (pv 1) (pv 2)) (pe_gint T.g_PLACE (by rfl))) pa_nil))) (pa_cons (pe_callB (call_min2 rfl) (by rfl) T.b_min (by decide +kernel) (pa_cons (pe_fld (pv 0) rfl) (pa_cons (pe_op op_add (pe_op op_fdivW (pe_op op_add (pv 1) (pv 2)) (pe_gint T.g_PLACE (by rfl))) pe_int) pa_nil))) pa_nil))))), fun ds d r G0 Q q => ?_⟩
  · obtain ⟨w, h, f, x, far, rfl, rfl⟩ := r
    rfl
  · obtain ⟨w, h, f, x, far, rfl, rfl⟩ := r
    refine s_ret (d := .tup [.int (MFrame.lo x far), .int (MFrame.hi w x far)]) (ed_tup (ea_cons (ed_max2 ed_int (ed_div (ed_sub (ed_var rfl) (ed_var rfl)) ed_int ⟨by decide, by decide⟩)) (ea_cons (ed_min2 (ed_wide T.X (ed_var rfl)) (ed_add (ed_div (ed_add (ed_var rfl) (ed_var rfl)) ed_int ⟨by decide, by decide⟩) ed_int)) ea_nil))) q

/-! ### Frame.rows_near -/
def R_rows_near (ds : List Dt) (d : Dt) : Prop := ∃ (w h : Nat) (f : List Int) (x far : Int), ds = [.frm w h f, .int x, .int far] ∧ d = .tup [.int (MFrame.lo x far), .int (MFrame.hi h x far)]

theorem ok_rows_near {f : Addr} {fd : FuncData} (T : Tx K mg C) (F : Fun K "rows_near" "Frame.rows_near" s_rows_near f fd) : FnOk P w K mg base CX0 1 f fd ["self", "y", "far"] (spD K C R_rows_near) := by
  refine okD F sc_rows_near (fun ds d r => ?_) fun cdv A outer s H E hr => ⟨_, (pss_one (ps_ret (pe_tup (pa_cons (pe_callB (call_max2 rfl) (by rfl) T.b_max (by decide +kernel) (pa_cons pe_int (pa_cons (pe_op op_fdivW (pe_op op_sub (pv 1) (pv 2)) (pe_gint T.g_PLACE (by rfl))) pa_nil))) (pa_cons (pe_callB (call_min2 rfl) (by rfl) T.b_min (by decide +kernel) (pa_cons (pe_fld (pv 0) rfl) (pa_cons (pe_op op_add (pe_op op_fdivW (pe_op op_add (pv 1) (pv 2)) (pe_gint T.g_PLACE (by rfl))) pe_int) pa_nil))) pa_nil))))), fun ds d r G0 Q q => ?_⟩
  · obtain ⟨w, h, f, x, far, rfl, rfl⟩ := r
    rfl
  · obtain ⟨w, h, f, x, far, rfl, rfl⟩ := r
    refine s_ret (d := .tup [.int (MFrame.lo x far), .int (MFrame.hi h x far)]) (ed_tup (ea_cons (ed_max2 ed_int (ed_div (ed_sub (ed_var rfl) (ed_var rfl)) ed_int ⟨by decide, by decide⟩)) (ea_cons (ed_min2 (ed_high T.X (ed_var rfl)) (ed_add (ed_div (ed_add (ed_var rfl) (ed_var rfl)) ed_int ⟨by decide, by decide⟩) ed_int)) ea_nil))) q

/-! ### Frame.places_near -/
def R_places_near (ds : List Dt) (d : Dt) : Prop := ∃ (w h : Nat) (f : List Int) (x y far : Int), ds = [.frm w h f, .int x, .int y, .int far] ∧ w ≤ 64 ∧ h ≤ 64 ∧ -(2 ^ 40) ≤ x ∧ x ≤ 2 ^ 40 ∧ -(2 ^ 40) ≤ y ∧ y ≤ 2 ^ 40 ∧ 0 ≤ far ∧ far ≤ 4096 ∧ d = .lst ((MFrame.pln w h x y far).map dp)
theorem ed_places {Γ : Ct} {ta tb tc td : TE} {E : XK} {w h : Nat} {f : List Int} {x y far : Int} (ha : EvD K C ta Γ (.frm w h f)) (hb : EvD K C tb Γ (.int x)) (hc : EvD K C tc Γ (.int y)) (hd : EvD K C td Γ (.int far)) (hw : w ≤ 64) (hh : h ≤ 64)
    (hx : -(2 ^ 40) ≤ x ∧ x ≤ 2 ^ 40) (hy : -(2 ^ 40) ≤ y ∧ y ≤ 2 ^ 40) (hf : 0 ≤ far ∧ far ≤ 4096) :
    EvD K C (tMeth C "places_near" (spD K C R_places_near) [] E ta (tCons tb (tCons tc (tCons td tNil)))) Γ (.lst ((MFrame.pln w h x y far).map dp)) :=
  ed_meth (fun _ _ _ => by rfl) ha (ea_cons hb (ea_cons hc (ea_cons hd ea_nil))) ⟨w, h, f, x, y, far, rfl, hw, hh, hx.1, hx.2, hy.1, hy.2, hf.1, hf.2, rfl⟩
theorem lo_rg {x far : Int} (hx : -(2 ^ 40) ≤ x) (hx' : x ≤ 2 ^ 40) (h0 : 0 ≤ far) (h1 : far ≤ 4096) : -(2 ^ 62) ≤ MFrame.lo x far ∧ MFrame.lo x far < 2 ^ 62 := by
  unfold MFrame.lo
  split <;> omega
theorem hi_rg {n : Nat} {x far : Int} (hn : n ≤ 64) (hx : -(2 ^ 40) ≤ x) (hx' : x ≤ 2 ^ 40) (h0 : 0 ≤ far) (h1 : far ≤ 4096) : -(2 ^ 62) ≤ MFrame.hi n x far ∧ MFrame.hi n x far < 2 ^ 62 := by
  unfold MFrame.hi
  split <;> omega
theorem cn_le (n : Nat) (x far : Int) : MFrame.cn n x far ≤ n := by
  have := MFrame.box_ok n x far
  omega
theorem flat_len {β : Type} (k : Nat) (F : Nat → Nat → β) (n : Nat) : ((List.range n).flatMap fun i => (List.range k).map fun j => F i j).length = k * n := by
  induction n with
  | zero => rfl
  | succ n ih =>
    rw [List.range_succ, List.flatMap_append, List.length_append, ih, List.flatMap_cons, List.flatMap_nil, List.append_nil, List.length_map, List.length_range, Nat.mul_succ]

theorem ok_places_near {f : Addr} {fd : FuncData} (T : Tx K mg C) (F : Fun K "places_near" "Frame.places_near" s_places_near f fd) (h_columns_near : Mel P w K mg base C 1 "columns_near" ["self", "x", "far"] R_columns_near) (h_rows_near : Mel P w K mg base C 1 "rows_near" ["self", "y", "far"] R_rows_near) : FnOk P w K mg base CX0 2 f fd ["self", "x", "y", "far"] (spD K C R_places_near) := by
  obtain ⟨f_columns_near, fd_columns_near, G_columns_near, m_columns_near, bi_columns_near⟩ := h_columns_near
  obtain ⟨f_rows_near, fd_rows_near, G_rows_near, m_rows_near, bi_rows_near⟩ := h_rows_near
  refine okD F sc_places_near (fun ds d r => ?_) fun cdv A outer s H E hr => ⟨_, (pss_cons (ps_set (i := 4) sc_places_near.nd rfl (Or.inl rfl) (pe_lst pa_nil))
      (pss_cons (ps_asg (pe_meth (pv 0) T.cl m_columns_near G_columns_near (hr.mono (by decide)) bi_columns_near .nil pass0 (pa_cons (pv 1) (pa_cons (pv 3) pa_nil))) (pg_tup (by rfl) (pgs_cons (pg_name (i := 5) sc_places_near.nd rfl (Or.inl rfl)) (pgs_cons (pg_name (i := 6) sc_places_near.nd rfl (Or.inl rfl)) pgs_nil))))
      (pss_cons (ps_asg (pe_meth (pv 0) T.cl m_rows_near G_rows_near (hr.mono (by decide)) bi_rows_near .nil pass0 (pa_cons (pv 2) (pa_cons (pv 3) pa_nil))) (pg_tup (by rfl) (pgs_cons (pg_name (i := 7) sc_places_near.nd rfl (Or.inl rfl)) (pgs_cons (pg_name (i := 8) sc_places_near.nd rfl (Or.inl rfl)) pgs_nil))))
      (pss_cons (ps_for PassesOwn.never rfl (pi_range2 (by rfl) T.b_range (pa_cons (pv 7) (pa_cons (pv 8) pa_nil))) (pg_name (i := 9) sc_places_near.nd rfl (Or.inr rfl)) (pss_one (ps_expr (pe_bm PySem.F.plainAttrs_list PySem.F.slot_list_extend PySem.F.type_list_extend mt_extend (pv 4) (pa_cons (pe_lc (own := [("column", 10)]) (tt := tYes) (by rfl) sc_places_near.nd (pi_range2 (by rfl) T.b_range (pa_cons (pv 5) (pa_cons (pv 6) pa_nil))) (blkOk_by (N := ["self", "x", "y", "far", "found", "first", "last", "begin", "end", "row", "column"]) (sc := defScope s_places_near) (by decide +kernel)) (fun _ _ _ _ _ => (pg_name (i := 10) sc_places_near.nd rfl (Or.inl rfl))) (fun _ _ _ _ _ => pts_nil) (fun _ _ _ _ _ => (pe_tup (pa_cons (pv 10) (pa_cons (pv 9) pa_nil))))) pa_nil)))))
      (pss_one (ps_ret (pv 4))))))), fun ds d r G0 Q q => ?_⟩
  · obtain ⟨w, h, f, x, y, far, rfl, hw, hh, hx1, hx2, hy1, hy2, hf1, hf2, rfl⟩ := r
    rfl
  · obtain ⟨w, h, f, x, y, far, rfl, hw, hh, hx1, hx2, hy1, hy2, hf1, hf2, rfl⟩ := r
    refine q_new ea_nil ?_ (by show 4 < 11; decide)
    refine q_to (ed_meth (fun _ _ _ => by rfl) (ed_var rfl) (ea_cons (ed_var rfl) (ea_cons (ed_var rfl) ea_nil)) ⟨w, h, f, x, far, rfl, rfl⟩) tg_two rfl ?_
    refine q_to (ed_meth (fun _ _ _ => by rfl) (ed_var rfl) (ea_cons (ed_var rfl) (ea_cons (ed_var rfl) ea_nil)) ⟨w, h, f, y, far, rfl, rfl⟩) tg_two rfl ?_
    have lx := lo_rg hx1 hx2 hf1 hf2
    have ly := lo_rg hy1 hy2 hf1 hf2
    have ux := hi_rg hw hx1 hx2 hf1 hf2
    have uy := hi_rg hh hy1 hy2 hf1 hf2
    refine q_for (es_rng2 (ea_cons (ed_var rfl) (ea_cons (ed_var rfl) ea_nil)) ⟨ly.1, ly.2, uy.1, uy.2⟩)
      (fun i Γ1 M1 => i ≤ MFrame.cn h y far ∧ ∃ xr, Γ1 = [some (.frm w h f), some (.int x), some (.int y), some (.int far), none, some (.int (MFrame.lo x far)), some (.int (MFrame.hi w x far)), some (.int (MFrame.lo y far)), some (.int (MFrame.hi h y far)), xr, none] ∧
        M1 = some (4, ((List.range i).flatMap fun i => (List.range (MFrame.cn w x far)).map fun j => (MFrame.c0 x far + j, MFrame.c0 y far + i)).map dp)) ⟨Nat.zero_le _, _, rfl, rfl⟩ ?_ ?_
    · rintro Ga i d Γ1 M1 N _ hi ⟨_, xr, rfl, rfl⟩ hN
      have hi' := (List.getElem?_eq_some_iff.mp hi).1
      have hn : (rng (MFrame.lo y far) (MFrame.hi h y far - MFrame.lo y far).toNat).length = MFrame.cn h y far := by simp [rng, MFrame.cn]
      rw [hn] at hi'
      unfold rng at hi
      rw [List.getElem?_map, List.getElem?_range (by exact hi')] at hi
      cases Option.some.inj hi
      refine ⟨_, _, tg_name, rfl, ?_⟩
      refine s_ext (EvN.eq (en_lc (List.range (MFrame.cn w x far)) (fun (t : Nat) => Dt.int (MFrame.lo x far + (t : Int))) (fun (t : Nat) => dp (MFrame.c0 x far + t, MFrame.c0 y far + i))
        (es_rng2 (ea_cons (ed_var rfl) (ea_cons (ed_var rfl) ea_nil)) ⟨lx.1, lx.2, ux.1, ux.2⟩).w ?_ _ (fun z _ => tg_name) (fun z hz => ?_)) (es := ((List.range (MFrame.cn w x far)).map fun j => (MFrame.c0 x far + j, MFrame.c0 y far + i)).map dp) (by rw [List.map_map]; rfl)) ?_ (hN _ _ ⟨by omega, _, rfl, ?_⟩)
      · rw [List.length_range]
        have := cn_le w x far
        omega
      · have e1 : MFrame.lo x far + (z : Int) = ((MFrame.c0 x far + z : Nat) : Int) := by rw [MFrame.lo_c0, Int.natCast_add]
        have e2 : MFrame.lo y far + (i : Int) = ((MFrame.c0 y far + i : Nat) : Int) := by rw [MFrame.lo_c0, Int.natCast_add]
        exact ed_tup (ea_cons (EvD.eq (ed_var rfl) (congrArg Dt.int e1)) (ea_cons (EvD.eq (ed_var rfl) (congrArg Dt.int e2)) ea_nil))
      · rw [List.length_map, flat_len, List.length_map, List.length_map, List.length_range]
        have a1 := cn_le w x far
        have a2 := cn_le h y far
        have := Nat.mul_le_mul (show MFrame.cn w x far ≤ 64 by omega) (show i ≤ 64 by omega)
        omega
      · rw [List.range_succ, List.flatMap_append, List.flatMap_cons, List.flatMap_nil, List.append_nil, List.map_append]
    · rintro Γ1 M1 ⟨_, xr, rfl, rfl⟩
      refine s_retM ?_
      have hn : (rng (MFrame.lo y far) (MFrame.hi h y far - MFrame.lo y far).toNat).length = MFrame.cn h y far := by simp [rng, MFrame.cn]
      rw [hn]
      exact q

/-! ### squares_along -/
def R_squares_along (ds : List Dt) (d : Dt) : Prop := ∃ (c : Nat) (x : Int), ds = [.int c, .int x] ∧ c ≤ 64 ∧ -(2 ^ 40) ≤ x ∧ x ≤ 2 ^ 40 ∧ d = .lst ((MFrame.sqs c x).map Dt.int)

theorem ok_squares_along {f : Addr} {fd : FuncData} (T : Tx K mg C) (F : Fun K "squares_along" "squares_along" s_squares_along f fd) : FnOk P w K mg base CX0 1 f fd ["place", "here"] (spD K C R_squares_along) := by
  obtain ⟨a_STEPS, g_STEPS, s_STEPS⟩ := T.g_STEPS
  refine okD F sc_squares_along (fun ds d r => ?_) fun cdv A outer s H E hr => ⟨_, (pss_one (ps_ret (pe_lc (own := [("step", 2)]) (tt := tYes) (by rfl) sc_squares_along.nd (pi_tup (pe_glob (v := .ref a_STEPS) (by rfl) g_STEPS rfl)) (blkOk_by (N := ["place", "here", "step"]) (sc := defScope s_squares_along) (by decide +kernel)) (fun _ _ _ _ _ => (pg_name (i := 2) sc_squares_along.nd rfl (Or.inl rfl))) (fun _ _ _ _ _ => pts_nil) (fun _ _ _ _ _ => (pe_op op_mul (pe_op op_sub (pe_op op_add (pe_op op_mul (pe_gint T.g_PLACE (by rfl)) (pv 0)) (pv 2)) (pv 1)) (pe_op op_sub (pe_op op_add (pe_op op_mul (pe_gint T.g_PLACE (by rfl)) (pv 0)) (pv 2)) (pv 1))))))), fun ds d r G0 Q q => ?_⟩
  · obtain ⟨c, x, rfl, hc, hx, hx', rfl⟩ := r
    rfl
  · obtain ⟨c, x, rfl, hc, hx, hx', rfl⟩ := r
    have e : (MFrame.sqs c x).map Dt.int = ([8, 24, 40, 56] : List Nat).map fun (s : Nat) => Dt.int ((((64 * c + s : Nat) : Int) - x) * (((64 * c + s : Nat) : Int) - x)) := by
      unfold MFrame.sqs
      rw [List.map_map]
      rfl
    rw [e] at q
    have dS : ∀ G, Dr K C G (.ref a_STEPS) (.tup (([8, 24, 40, 56] : List Nat).map fun (s : Nat) => Dt.int (s : Int))) := fun G => .tup (s_STEPS G) (.cons (.int 8) (.cons (.int 24) (.cons (.int 40) (.cons (.int 56) .nil))))
    refine s_ret (EvN.asD (en_lc ([8, 24, 40, 56] : List Nat) (fun (s : Nat) => Dt.int (s : Int)) _ (es_tup (ed_c dS)).w (by show 4 ≤ 1000000; decide) _ (fun z _ => tg_name) (fun z hz => ?_))) q
    have hz : z ≤ 56 := by
      have : ∀ z, z ∈ ([8, 24, 40, 56] : List Nat) → z ≤ 56 := by decide
      exact this z hz
    have e1 : 64 * (c : Int) + (z : Int) - x = ((64 * c + z : Nat) : Int) - x := by omega
    rw [← e1]
    refine ed_mul (ed_sub (ed_add (ed_mul ed_int (ed_var rfl) (Or.inl ⟨by decide, by decide⟩)) (ed_var rfl)) (ed_var rfl)) (ed_sub (ed_add (ed_mul ed_int (ed_var rfl) (Or.inl ⟨by decide, by decide⟩)) (ed_var rfl)) (ed_var rfl)) (Or.inl ⟨by omega, by omega⟩)

/-! ### points_within -/
def R_points_within (ds : List Dt) (d : Dt) : Prop := ∃ (c k : Nat) (x y r : Int), ds = [dp (c, k), dq (x, y), .int r] ∧ c ≤ 64 ∧ k ≤ 64 ∧ -(2 ^ 40) ≤ x ∧ x ≤ 2 ^ 40 ∧ -(2 ^ 40) ≤ y ∧ y ≤ 2 ^ 40 ∧ 0 ≤ r ∧ r ≤ 4096 ∧ d = .int ((Sh67.part x y r c k : Nat) : Int)

theorem ok_points_within {f : Addr} {fd : FuncData} (T : Tx K mg C) (F : Fun K "points_within" "points_within" s_points_within f fd) (h_squares_along : Cal P w K mg base C 1 "squares_along" ["place", "here"] R_squares_along) : FnOk P w K mg base CX0 2 f fd ["place", "spot", "radius"] (spD K C R_points_within) := by
  obtain ⟨f_squares_along, fd_squares_along, G_squares_along, m_squares_along, kp_squares_along, bi_squares_along⟩ := h_squares_along
  refine okD F sc_points_within (fun ds d r => ?_) fun cdv A outer s H E hr => ⟨_, (pss_cons (ps_par (i := 3) (j := 4) (by rfl) sc_points_within.nd rfl rfl (by decide) rfl rfl (pa_cons (pe_call G_squares_along (hr.mono (by decide)) (by rfl) m_squares_along kp_squares_along bi_squares_along .nil pass0 (pa_cons (pe_ix (ix_tupK (K := K) rfl) (pv 0) pe_int (fun _ _ => rfl)) (pa_cons (pe_ix (ix_tupK (K := K) rfl) (pv 1) pe_int (fun _ _ => rfl)) pa_nil))) (pa_cons (pe_call G_squares_along (hr.mono (by decide)) (by rfl) m_squares_along kp_squares_along bi_squares_along .nil pass0 (pa_cons (pe_ix (ix_tupK (K := K) rfl) (pv 0) pe_int (fun _ _ => rfl)) (pa_cons (pe_ix (ix_tupK (K := K) rfl) (pv 1) pe_int (fun _ _ => rfl)) pa_nil))) pa_nil)) (by rfl))
      (pss_cons (ps_set (i := 5) sc_points_within.nd rfl (Or.inl rfl) (pe_op op_mul (pv 2) (pv 2)))
      (pss_cons (ps_set (i := 6) sc_points_within.nd rfl (Or.inl rfl) pe_int)
      (pss_cons (ps_for PassesOwn.never rfl (pi_list (pv 3)) (pg_name (i := 7) sc_points_within.nd rfl (Or.inl rfl)) (pss_one (ps_for PassesOwn.never rfl (pi_list (pv 4)) (pg_name (i := 8) sc_points_within.nd rfl (Or.inl rfl)) (pss_one (ps_if (pt_cmpR op_le (pe_op op_add (pv 7) (pv 8)) (pv 5) (nomark _)) (pss_one (ps_aug (i := 6) sc_points_within.nd rfl (Or.inl rfl) pe_int ip_add)) pss_nil)))))
      (pss_one (ps_ret (pv 6))))))), fun ds d r G0 Q q => ?_⟩
  · obtain ⟨c, k, x, y, r, rfl, hc, hk, hx1, hx2, hy1, hy2, hr1, hr2, rfl⟩ := r
    rfl
  · obtain ⟨c, k, x, y, r, rfl, hc, hk, hx1, hx2, hy1, hy2, hr1, hr2, rfl⟩ := r
    rw [← MFrame.part_is] at q
    refine q_two (ea_cons (ed_call (ea_cons (ed_at0 (ed_var rfl)) (ea_cons (ed_at0 (ed_var rfl)) ea_nil)) ⟨c, x, rfl, hc, hx1, hx2, rfl⟩) (ea_cons (ed_call (ea_cons (ed_at1 (ed_var rfl)) (ea_cons (ed_at1 (ed_var rfl)) ea_nil)) ⟨k, y, rfl, hk, hy1, hy2, rfl⟩) ea_nil)) rfl ?_
    refine q_set (d := .int (r * r)) (ed_mul (ed_var rfl) (ed_var rfl) (Or.inl ⟨by omega, by omega⟩)) rfl ?_
    refine q_set (d := .int 0) ed_int rfl ?_
    generalize MFrame.sqs c x = as at q ⊢
    generalize MFrame.sqs k y = bs at q ⊢
    refine q_for (es_list (ed_var (n := 3) rfl)) (fun i Γ1 M1 => ∃ xo xp, Γ1 = [some (dp (c, k)), some (dq (x, y)), some (.int r), some (.lst (as.map Dt.int)), some (.lst (bs.map Dt.int)), some (.int (r * r)), some (.int ((MFrame.cnt (as.take i) bs (r * r) : Nat) : Int)), xo, xp] ∧ M1 = none) ⟨_, _, rfl, rfl⟩ ?_ ?_
    · rintro Ga i d Γ1 M1 N _ hi ⟨xo, xp, rfl, rfl⟩ hN
      have hi' := (List.getElem?_eq_some_iff.mp hi).1
      rw [List.length_map] at hi'
      have gi : as[i]? = some as[i] := List.getElem?_eq_getElem hi'
      rw [List.getElem?_map, gi] at hi
      cases Option.some.inj hi
      generalize as[i] = one at gi
      refine ⟨_, _, tg_name, rfl, ?_⟩
      refine s_for (es_list (ed_var (n := 4) rfl)) (fun j Γ1 M1 => ∃ xp, Γ1 = [some (dp (c, k)), some (dq (x, y)), some (.int r), some (.lst (as.map Dt.int)), some (.lst (bs.map Dt.int)), some (.int (r * r)), some (.int ((MFrame.cnt (as.take i) bs (r * r) + MFrame.cnt1 (bs.take j) (r * r) one : Nat) : Int)), some (.int one), xp] ∧ M1 = none) ⟨_, rfl, rfl⟩ ?_ ?_
      · rintro Gb j d Γ1 M1 N2 _ hj ⟨xp, rfl, rfl⟩ hN2
        have hj' := (List.getElem?_eq_some_iff.mp hj).1
        rw [List.length_map] at hj'
        have gj : bs[j]? = some bs[j] := List.getElem?_eq_getElem hj'
        rw [List.getElem?_map, gj] at hj
        cases Option.some.inj hj
        generalize bs[j] = other at gj
        have e1 : MFrame.cnt1 (bs.take (j + 1)) (r * r) one = MFrame.cnt1 (bs.take j) (r * r) one + if one + other ≤ r * r then 1 else 0 := by
          unfold MFrame.cnt1
          rw [take_one gj, List.filter_append, List.length_append, List.filter_cons]
          split
          · rename_i z
            rw [if_pos (of_decide_eq_true z)]
            rfl
          · rename_i z
            rw [if_neg (fun z' => z (decide_eq_true z'))]
            rfl
        refine ⟨_, _, tg_name, rfl, ?_⟩
        refine s_if (b := decide (one + other ≤ r * r)) (by walk_at "ev") (fun hb => ?_) (fun hb => ?_)
        · rw [if_pos (of_decide_eq_true hb)] at e1
          refine s_aug (j := 1) rfl ed_int rfl (hN2 _ _ ⟨some (.int other), ?_, rfl⟩)
          rw [e1]
          rfl
        · rw [if_neg (of_decide_eq_false hb)] at e1
          refine s_next (hN2 _ _ ⟨some (.int other), ?_, rfl⟩)
          rw [e1]
          rfl
      · rintro Γ1 M1 ⟨xp, rfl, rfl⟩
        refine hN _ _ ⟨some (.int one), xp, ?_, rfl⟩
        rw [List.length_map, List.take_length]
        have e2 : MFrame.cnt (as.take (i + 1)) bs (r * r) = MFrame.cnt (as.take i) bs (r * r) + MFrame.cnt1 bs (r * r) one := by
          unfold MFrame.cnt
          rw [take_one gi, List.map_append, List.sum_append, List.map_cons, List.map_nil, List.sum_cons, List.sum_nil, Nat.add_zero]
        rw [e2]
    · rintro Γ1 M1 ⟨xo, xp, rfl, rfl⟩
      rw [List.length_map, List.take_length]
      exact s_ret (ed_var rfl) q

/-! ### Frame.number -/
def R_number (ds : List Dt) (d : Dt) : Prop := ∃ (w h c q : Nat) (fn : List Nat), ds = [FR w h fn, .int c, .int q] ∧ w * q + c < fn.length ∧ w ≤ 64 ∧ d = .int ((fn.getD (w * q + c) 0 : Nat) : Int)
theorem ed_number {Γ : Ct} {ta tb tc : TE} {E : XK} {w h c q : Nat} {fn : List Nat} (ha : EvD K C ta Γ (FR w h fn)) (hb : EvD K C tb Γ (.int c)) (hc : EvD K C tc Γ (.int q)) (hl : w * q + c < fn.length) (hw : w ≤ 64) :
    EvD K C (tMeth C "number" (spD K C R_number) [] E ta (tCons tb (tCons tc tNil))) Γ (.int ((fn.getD (w * q + c) 0 : Nat) : Int)) := ed_meth (fun _ _ _ => by rfl) ha (ea_cons hb (ea_cons hc ea_nil)) ⟨w, h, c, q, fn, rfl, hl, hw, rfl⟩

theorem ok_number {f : Addr} {fd : FuncData} (T : Tx K mg C) (F : Fun K "number" "Frame.number" s_number f fd) : FnOk P w K mg base CX0 1 f fd ["self", "column", "row"] (spD K C R_number) := by
  refine okD F sc_number (fun ds d r => ?_) fun cdv A outer s H E hr => ⟨_, (pss_one (ps_ret (pe_ix (ix_listK (K := K) rfl) (pe_fld (pv 0) rfl) (pe_op op_add (pe_op op_mul (pe_fld (pv 0) rfl) (pv 2)) (pv 1)) (fun _ _ => rfl)))), fun ds d r G0 Q q => ?_⟩
  · obtain ⟨w, h, c, q, fn, rfl, hl, hw, rfl⟩ := r
    rfl
  · obtain ⟨w, h, c, q, fn, rfl, hl, hw, rfl⟩ := r
    rename_i q0
    refine s_ret (ed_ixL (n := w * q0 + c) (by rw [ints_is]; exact nat_at hl) (ed_numbers T.X (ed_var rfl)) (EvD.eq (ed_add (ed_mul (ed_wide T.X (ed_var rfl)) (ed_var rfl) (Or.inl ⟨by omega, by omega⟩)) (ed_var rfl)) (congrArg Dt.int (by rw [Int.natCast_add, Int.natCast_mul])))) q

/-! ### aperture -/
def R_aperture (ds : List Dt) (d : Dt) : Prop := ∃ (w h : Nat) (fn : List Nat) (x y r : Int), ds = [FR w h fn, dq (x, y), .int r] ∧ FOk w h fn ∧ -(2 ^ 40) ≤ x ∧ x ≤ 2 ^ 40 ∧ -(2 ^ 40) ≤ y ∧ y ≤ 2 ^ 40 ∧ 0 ≤ r ∧ r ≤ 4096 ∧
  d = .tup [.int ((Sh67.aperture w h fn x y r).1 : Nat), .int ((Sh67.aperture w h fn x y r).2 : Nat)]

theorem ok_aperture {f : Addr} {fd : FuncData} (T : Tx K mg C) (F : Fun K "aperture" "aperture" s_aperture f fd) (h_places_near : Mel P w K mg base C 2 "places_near" ["self", "x", "y", "far"] R_places_near) (h_points_within : Cal P w K mg base C 2 "points_within" ["place", "spot", "radius"] R_points_within) (h_number : Mel P w K mg base C 1 "number" ["self", "column", "row"] R_number) : FnOk P w K mg base CX0 3 f fd ["frame", "spot", "radius"] (spD K C R_aperture) := by
  obtain ⟨f_places_near, fd_places_near, G_places_near, m_places_near, bi_places_near⟩ := h_places_near
  obtain ⟨f_points_within, fd_points_within, G_points_within, m_points_within, kp_points_within, bi_points_within⟩ := h_points_within
  obtain ⟨f_number, fd_number, G_number, m_number, bi_number⟩ := h_number
  refine okD F sc_aperture (fun ds d r => ?_) fun cdv A outer s H E hr => ⟨_, (pss_cons (ps_asg (pe_tup (pa_cons pe_int (pa_cons pe_int pa_nil))) (pg_tup (by rfl) (pgs_cons (pg_name (i := 3) sc_aperture.nd rfl (Or.inl rfl)) (pgs_cons (pg_name (i := 4) sc_aperture.nd rfl (Or.inl rfl)) pgs_nil))))
      (pss_cons (ps_for PassesOwn.never rfl (pi_list (pe_meth (pv 0) T.cl m_places_near G_places_near (hr.mono (by decide)) bi_places_near .nil pass0 (pa_cons (pe_ix (ix_tupK (K := K) rfl) (pv 1) pe_int (fun _ _ => rfl)) (pa_cons (pe_ix (ix_tupK (K := K) rfl) (pv 1) pe_int (fun _ _ => rfl)) (pa_cons (pv 2) pa_nil))))) (pg_name (i := 5) sc_aperture.nd rfl (Or.inl rfl)) (pss_cons (ps_set (i := 6) sc_aperture.nd rfl (Or.inl rfl) (pe_call G_points_within (hr.mono (by decide)) (by rfl) m_points_within kp_points_within bi_points_within .nil pass0 (pa_cons (pv 5) (pa_cons (pv 1) (pa_cons (pv 2) pa_nil)))))
      (pss_cons (ps_aug (i := 3) sc_aperture.nd rfl (Or.inl rfl) (pe_op op_mul (pv 6) (pe_meth (pv 0) T.cl m_number G_number (hr.mono (by decide)) bi_number .nil pass0 (pa_cons (pe_ix (ix_tupK (K := K) rfl) (pv 5) pe_int (fun _ _ => rfl)) (pa_cons (pe_ix (ix_tupK (K := K) rfl) (pv 5) pe_int (fun _ _ => rfl)) pa_nil)))) ip_add)
      (pss_one (ps_aug (i := 4) sc_aperture.nd rfl (Or.inl rfl) (pv 6) ip_add)))))
      (pss_one (ps_ret (pe_tup (pa_cons (pv 3) (pa_cons (pv 4) pa_nil))))))), fun ds d r G0 Q q => ?_⟩
  · obtain ⟨wi, he, fn, x, y, r, rfl, F, hx1, hx2, hy1, hy2, hr1, hr2, rfl⟩ := r
    rfl
  · obtain ⟨wi, he, fn, x, y, r, rfl, F, hx1, hx2, hy1, hy2, hr1, hr2, rfl⟩ := r
    rw [MFrame.aperture_is hr1] at q
    refine q_to (ed_tup (ea_cons ed_int (ea_cons ed_int ea_nil))) tg_two rfl ?_
    have mem := fun p hp => MFrame.pln_mem (w := wi) (h := he) (x := x) (y := y) (r := r) (p := p) hp
    refine q_for (es_list (ed_places (ed_var rfl) (ed_at0 (ed_var rfl)) (ed_at1 (ed_var rfl)) (ed_var rfl) F.w64 F.h64 ⟨hx1, hx2⟩ ⟨hy1, hy2⟩ ⟨hr1, hr2⟩))
      (fun i Γ1 M1 => ∃ xp xm, Γ1 = [some (FR wi he fn), some (dq (x, y)), some (.int r), some (.int ((MFrame.light fn wi x y r ((MFrame.pln wi he x y r).take i) : Nat) : Int)), some (.int ((MFrame.many x y r ((MFrame.pln wi he x y r).take i) : Nat) : Int)), xp, xm] ∧ M1 = none) ⟨_, _, rfl, rfl⟩ ?_ ?_
    · rintro Ga i d Γ1 M1 N _ hi ⟨xp, xm, rfl, rfl⟩ hN
      have hi' := (List.getElem?_eq_some_iff.mp hi).1
      rw [List.length_map] at hi'
      have gi : (MFrame.pln wi he x y r)[i]? = some (MFrame.pln wi he x y r)[i] := List.getElem?_eq_getElem hi'
      rw [List.getElem?_map, gi] at hi
      cases Option.some.inj hi
      have mp := mem _ (List.getElem_mem hi')
      generalize (MFrame.pln wi he x y r)[i] = p at gi mp
      have hw := F.w64
      have hh := F.h64
      refine ⟨_, _, tg_name, rfl, ?_⟩
      refine q_set (d := .int ((Sh67.part x y r p.1 p.2 : Nat) : Int)) (ed_call (ea_cons (ed_var rfl) (ea_cons (ed_var rfl) (ea_cons (ed_var rfl) ea_nil))) ⟨p.1, p.2, x, y, r, rfl, by omega, by omega, hx1, hx2, hy1, hy2, hr1, hr2, rfl⟩) rfl ?_
      have hp := MFrame.part_le x y r p.1 p.2
      refine q_aug rfl (ed_mul (ed_var rfl) (ed_number (ed_var rfl) (ed_at0 (ed_var rfl)) (ed_at1 (ed_var rfl)) (F.in_ mp.1 mp.2) hw) (Or.inl ⟨by omega, by omega⟩)) rfl ?_
      refine s_aug rfl (ed_var rfl) rfl (hN _ _ ⟨some (dp p), some (.int ((Sh67.part x y r p.1 p.2 : Nat) : Int)), ?_, rfl⟩)
      have e1 : MFrame.light fn wi x y r ((MFrame.pln wi he x y r).take (i + 1)) = MFrame.light fn wi x y r ((MFrame.pln wi he x y r).take i) + Sh67.part x y r p.1 p.2 * fn.getD (wi * p.2 + p.1) 0 := by
        unfold MFrame.light
        rw [take_one gi, List.map_append, List.sum_append, List.map_cons, List.map_nil, List.sum_cons, List.sum_nil, Nat.add_zero]
      have e2 : MFrame.many x y r ((MFrame.pln wi he x y r).take (i + 1)) = MFrame.many x y r ((MFrame.pln wi he x y r).take i) + Sh67.part x y r p.1 p.2 := by
        unfold MFrame.many
        rw [take_one gi, List.map_append, List.sum_append, List.map_cons, List.map_nil, List.sum_cons, List.sum_nil, Nat.add_zero]
      rw [e1, e2, Int.natCast_add, Int.natCast_mul, Int.natCast_add]
      rfl
    · rintro Γ1 M1 ⟨xp, xm, rfl, rfl⟩
      rw [List.length_map, List.take_length]
      exact s_ret (ed_tup (ea_cons (ed_var rfl) (ea_cons (ed_var rfl) ea_nil))) q

/-! ### light_within -/
def R_light_within (ds : List Dt) (d : Dt) : Prop := ∃ (w h : Nat) (fn : List Nat) (x y r : Int), ds = [FR w h fn, dq (x, y), .int r] ∧ FOk w h fn ∧ -(2 ^ 40) ≤ x ∧ x ≤ 2 ^ 40 ∧ -(2 ^ 40) ≤ y ∧ y ≤ 2 ^ 40 ∧ 0 ≤ r ∧ r ≤ 4096 ∧
  d = .int ((MRadius.Lr w h fn x y r : Nat) : Int)

theorem ok_light_within {f : Addr} {fd : FuncData} (T : Tx K mg C) (F : Fun K "light_within" "light_within" s_light_within f fd) (h_aperture : Cal P w K mg base C 3 "aperture" ["frame", "spot", "radius"] R_aperture) : FnOk P w K mg base CX0 4 f fd ["frame", "spot", "radius"] (spD K C R_light_within) := by
  obtain ⟨f_aperture, fd_aperture, G_aperture, m_aperture, kp_aperture, bi_aperture⟩ := h_aperture
  refine okD F sc_light_within (fun ds d r => ?_) fun cdv A outer s H E hr => ⟨_, (pss_one (ps_ret (pe_ix (ix_tupK (K := K) rfl) (pe_call G_aperture (hr.mono (by decide)) (by rfl) m_aperture kp_aperture bi_aperture .nil pass0 (pa_cons (pv 0) (pa_cons (pv 1) (pa_cons (pv 2) pa_nil)))) pe_int (fun _ _ => rfl)))), fun ds d r G0 Q q => ?_⟩
  · obtain ⟨wi, he, fn, x, y, r, rfl, F, hx1, hx2, hy1, hy2, hr1, hr2, rfl⟩ := r
    rfl
  · obtain ⟨wi, he, fn, x, y, r, rfl, F, hx1, hx2, hy1, hy2, hr1, hr2, rfl⟩ := r
    rw [← MRadius.light_is] at q
    exact s_ret (ed_at0 (ed_call (ea_cons (ed_var rfl) (ea_cons (ed_var rfl) (ea_cons (ed_var rfl) ea_nil))) ⟨wi, he, fn, x, y, r, rfl, F, hx1, hx2, hy1, hy2, hr1, hr2, rfl⟩)) q

/-! ### least_radius -/
def R_least_radius (ds : List Dt) (d : Dt) : Prop := ∃ (w h : Nat) (fn : List Nat) (x y : Int) (most k : Nat), ds = [FR w h fn, dq (x, y), .int most, .int k] ∧ FOk w h fn ∧ -(2 ^ 40) ≤ x ∧ x ≤ 2 ^ 40 ∧ -(2 ^ 40) ≤ y ∧ y ≤ 2 ^ 40 ∧ most ≤ 512 ∧ k ≤ 256 ∧
  d = .int ((Sh67.radius w h fn x y most k : Nat) : Int)

theorem ok_least_radius {f : Addr} {fd : FuncData} (T : Tx K mg C) (F : Fun K "least_radius" "least_radius" s_least_radius f fd) (h_light_within : Cal P w K mg base C 4 "light_within" ["frame", "spot", "radius"] R_light_within) : FnOk P w K mg base CX0 5 f fd ["frame", "spot", "most", "k"] (spD K C R_least_radius) := by
  obtain ⟨f_light_within, fd_light_within, G_light_within, m_light_within, kp_light_within, bi_light_within⟩ := h_light_within
  refine okD F sc_least_radius (fun ds d r => ?_) fun cdv A outer s H E hr => ⟨_, (pss_cons (ps_set (i := 4) sc_least_radius.nd rfl (Or.inl rfl) (pe_op op_mul (pv 3) (pe_call G_light_within (hr.mono (by decide)) (by rfl) m_light_within kp_light_within bi_light_within .nil pass0 (pa_cons (pv 0) (pa_cons (pv 1) (pa_cons (pv 2) pa_nil))))))
      (pss_cons (ps_par (i := 5) (j := 6) (by rfl) sc_least_radius.nd rfl rfl (by decide) rfl rfl (pa_cons pe_int (pa_cons (pv 2) pa_nil)) (by rfl))
      (pss_cons (ps_while PassesOwn.never (pt_cmpR op_lt (pv 5) (pv 6) (nomark _)) (pss_cons (ps_set (i := 7) sc_least_radius.nd rfl (Or.inl rfl) (pe_op op_fdivW (pe_op op_add (pv 5) (pv 6)) pe_int))
      (pss_one (ps_if (pt_cmpR op_ge (pe_op op_mul (pe_gint T.g_PARTS (by rfl)) (pe_call G_light_within (hr.mono (by decide)) (by rfl) m_light_within kp_light_within bi_light_within .nil pass0 (pa_cons (pv 0) (pa_cons (pv 1) (pa_cons (pv 7) pa_nil))))) (pv 4) (nomark _)) (pss_one (ps_set (i := 6) sc_least_radius.nd rfl (Or.inl rfl) (pv 7))) (pss_one (ps_set (i := 5) sc_least_radius.nd rfl (Or.inl rfl) (pe_op op_add (pv 7) pe_int)))))))
      (pss_one (ps_ret (pv 5)))))), fun ds d r G0 Q q => ?_⟩
  · obtain ⟨wi, he, fn, x, y, most, k, rfl, F, hx1, hx2, hy1, hy2, hm, hk, rfl⟩ := r
    rfl
  · obtain ⟨wi, he, fn, x, y, most, k, rfl, F, hx1, hx2, hy1, hy2, hm, hk, rfl⟩ := r
    have due := MRadius.radius_is wi he fn x y hm k
    have lw : ∀ {Γ : Ct} {ta tb tc : TE} {E : XK} {r : Nat}, EvD K C ta Γ (FR wi he fn) → EvD K C tb Γ (dq (x, y)) → EvD K C tc Γ (.int r) → r ≤ 4096 → EvD K C (tCall (spD K C R_light_within) [] E (tCons ta (tCons tb (tCons tc tNil)))) Γ (.int ((MRadius.Lr wi he fn x y r : Nat) : Int)) := fun ha hb hc hr =>
      ed_call (ea_cons ha (ea_cons hb (ea_cons hc ea_nil))) ⟨wi, he, fn, x, y, _, rfl, F, hx1, hx2, hy1, hy2, by omega, by omega, rfl⟩
    refine q_set (d := .int ((k * MRadius.Lr wi he fn x y most : Nat) : Int)) (EvD.eq (ed_mul (ed_var rfl) (lw (ed_var rfl) (ed_var rfl) (ed_var rfl) (by omega)) (Or.inl ⟨by omega, by omega⟩)) (congrArg Dt.int (Int.natCast_mul _ _).symm)) rfl ?_
    refine q_two (ea_cons ed_int (ea_cons (ed_var rfl) ea_nil)) rfl ?_
    refine q_while (fun m Γ1 M1 => ∃ (lo hi : Nat) (xm : Option Dt), lo + m = hi ∧ hi ≤ most ∧ (∀ j, j < lo → ¬ MRadius.Enough wi he fn x y most k j) ∧ (hi < most → MRadius.Enough wi he fn x y most k hi) ∧
      Γ1 = [some (FR wi he fn), some (dq (x, y)), some (.int most), some (.int k), some (.int ((k * MRadius.Lr wi he fn x y most : Nat) : Int)), some (.int lo), some (.int hi), xm] ∧ M1 = none) most ⟨0, most, none, by omega, Nat.le_refl _, fun j hj => absurd hj (by omega), fun z => absurd z (by omega), rfl, rfl⟩ ?_
    rintro m Γ1 M1 ⟨lo, hi, xm, hlh, hh, hno, hyes, rfl, rfl⟩
    refine ⟨decide ((lo : Int) < hi), by walk_at "ev", fun hb N hN => ?_, fun hb => ?_⟩
    · have hb := of_decide_eq_true hb
      obtain ⟨mid, hmid⟩ : ∃ mid, mid = (lo + hi) / 2 := ⟨_, rfl⟩
      refine q_set (d := .int (mid : Int)) (EvD.eq (ed_div (ed_add (ed_var rfl) (ed_var rfl)) ed_int ⟨by decide, by decide⟩) (congrArg Dt.int (by omega))) rfl ?_
      refine s_if (b := decide (((k * MRadius.Lr wi he fn x y most : Nat) : Int) ≤ 256 * ((MRadius.Lr wi he fn x y mid : Nat) : Int))) (eb_t (ed_ge (ed_mul ed_int (lw (ed_var rfl) (ed_var rfl) (ed_var rfl) (by omega)) (Or.inl ⟨by decide, by decide⟩)) (ed_var rfl))) (fun hc => ?_) (fun hc => ?_)
      · have hc := of_decide_eq_true hc
        have hP : MRadius.Enough wi he fn x y most k mid := by
          unfold MRadius.Enough
          omega
        exact s_set (ed_var rfl) rfl (hN (mid - lo) _ _ (by omega) ⟨lo, mid, some (.int (mid : Int)), by omega, by omega, hno, fun _ => hP, rfl, rfl⟩)
      · have hc := of_decide_eq_false hc
        have hP : ¬ MRadius.Enough wi he fn x y most k mid := fun z => by
          unfold MRadius.Enough at z
          omega
        refine s_set (d := .int ((mid + 1 : Nat) : Int)) (EvD.eq (ed_add (ed_var rfl) ed_int) (congrArg Dt.int (by omega))) rfl (hN (hi - (mid + 1)) _ _ (by omega) ⟨mid + 1, hi, some (.int (mid : Int)), by omega, hh, fun j hj z => hP ?_, hyes, rfl, rfl⟩)
        have mono := MRadius.Lr_mono wi he fn x y (r := (j : Int)) (s := (mid : Int)) (by omega) (by omega)
        unfold MRadius.Enough at z ⊢
        omega
    · have hb := of_decide_eq_false hb
      have e0 : lo = hi := by omega
      subst e0
      have e1 := due.one ⟨hh, hno, hyes⟩
      rw [e1] at q
      exact s_ret (ed_var rfl) q

/-! ### spots_of -/
def R_spots_of (ds : List Dt) (d : Dt) : Prop := ∃ (xn : List Nat) (n : Nat), ds = [.lst (natD xn)] ∧ xn.length = 2 * n ∧ n ≤ 1000 ∧ d = .lst ((Sh67.pairsOf xn).map dq)

theorem ok_spots_of {f : Addr} {fd : FuncData} (T : Tx K mg C) (F : Fun K "spots_of" "spots_of" s_spots_of f fd) : FnOk P w K mg base CX0 1 f fd ["xy"] (spD K C R_spots_of) := by
  refine okD F sc_spots_of (fun ds d r => ?_) fun cdv A outer s H E hr => ⟨_, (pss_one (ps_ret (pe_lc (own := [("at", 1)]) (tt := tYes) (by rfl) sc_spots_of.nd (pi_range3 (by rfl) T.b_range (pa_cons pe_int (pa_cons (pe_callB call_len_seq (by rfl) T.b_len (by decide +kernel) (pa_cons (pv 0) pa_nil)) (pa_cons pe_int pa_nil)))) (blkOk_by (N := ["xy", "at"]) (sc := defScope s_spots_of) (by decide +kernel)) (fun _ _ _ _ _ => (pg_name (i := 1) sc_spots_of.nd rfl (Or.inl rfl))) (fun _ _ _ _ _ => pts_nil) (fun _ _ _ _ _ => (pe_tup (pa_cons (pe_ix (ix_listK (K := K) rfl) (pv 0) (pv 1) (fun _ _ => rfl)) (pa_cons (pe_ix (ix_listK (K := K) rfl) (pv 0) (pe_op op_add (pv 1) pe_int) (fun _ _ => rfl)) pa_nil))))))), fun ds d r G0 Q q => ?_⟩
  · obtain ⟨xn, n, rfl, hl, hn, rfl⟩ := r
    rfl
  · obtain ⟨xn, n, rfl, hl, hn, rfl⟩ := r
    have e : Sh67.pairsOf xn = (List.range n).map fun i => (((Sh67.num xn (2 * i) : Nat) : Int), ((Sh67.num xn (2 * i + 1) : Nat) : Int)) := by
      unfold Sh67.pairsOf
      rw [hl, Nat.mul_div_cancel_left _ (by decide)]
    rw [e, List.map_map] at q
    refine s_ret (EvN.asD (en_lc (List.range n) (fun i => Dt.int (0 + (i : Int) * 2)) _
      (es_rng3 (n := n) (ea_cons ed_int (ea_cons (ed_len (ed_var rfl)) (ea_cons ed_int ea_nil))) (by unfold natD; rw [List.length_map, hl]; exact rg_two (by omega))).w (by rw [List.length_range]; omega) _ (fun z _ => tg_name) (fun z hz => ?_))) q
    have hz' := List.mem_range.mp hz
    exact ed_tup (ea_cons (ed_ixL (nat_at (i := 2 * z) (by omega)) (ed_var rfl) (EvD.eq (ed_var rfl) (congrArg Dt.int (by omega))))
      (ea_cons (ed_ixL (nat_at (i := 2 * z + 1) (by omega)) (ed_var rfl) (EvD.eq (ed_add (ed_var rfl) ed_int) (congrArg Dt.int (by omega)))) ea_nil))

/-! ### ap_radius -/
def okF (wi he : Nat) (xn : List Nat) (most k : Nat) : Bool := MAsk.ok wi he xn (decide (most ≤ 512) && decide (k ≤ 256))
def outF (wi he : Nat) (fn : List Nat) (most k : Nat) (p : Int × Int) : Int := (Sh67.radius wi he fn p.1 p.2 most k : Int)
def R_ap_radius (ds : List Dt) (d : Dt) : Prop := ∃ (most k wi he : Nat) (fn xn : List Nat), ds = [.int most, .int k, .int wi, .int he, .lst (natD fn), .lst (natD xn)] ∧ (∀ x, x ∈ fn → x < 65536) ∧ (∀ x, x ∈ xn → x < 65536) ∧
  (okF wi he xn most k = true → fn.length = wi * he) ∧ xn.length = 2 * (xn.length / 2) ∧ xn.length ≤ 140 ∧
  d = .lst ((if okF wi he xn most k = true then 0 :: (Sh67.pairsOf xn).map (outF wi he fn most k) else [-2]).map Dt.int)
theorem seen_is {w h : Nat} {xn : List Nat} (h2 : xn.length = 2 * (xn.length / 2)) : (sidesOk w h && decide (((natD xn).length : Int) ≤ 128)) = (Sh67.sized w h && Sh67.some_ (xn.length / 2)) := by
  rw [MAsk.sized_iff, MAsk.some_iff h2]
  unfold natD sidesOk
  rw [List.length_map]

theorem ok_ap_radius {f : Addr} {fd : FuncData} (T : Tx K mg C) (F : Fun K "ap_radius" "ap_radius" s_ap_radius f fd) (h_init : Ini P w K mg base C) (h_are_seen : Cal P w K mg base C 2 "are_seen" ["wide", "high", "xy"] R_are_seen) (h_least_radius : Cal P w K mg base C 5 "least_radius" ["frame", "spot", "most", "k"] R_least_radius) (h_spots_of : Cal P w K mg base C 1 "spots_of" ["xy"] R_spots_of) : FnOk P w K mg base CX0 6 f fd ["most", "k", "w", "h", "f", "xy"] (spD K C R_ap_radius) := by
  obtain ⟨f_init, fd_init, G_init, mk_init, bi_init⟩ := h_init
  obtain ⟨f_are_seen, fd_are_seen, G_are_seen, m_are_seen, kp_are_seen, bi_are_seen⟩ := h_are_seen
  obtain ⟨f_least_radius, fd_least_radius, G_least_radius, m_least_radius, kp_least_radius, bi_least_radius⟩ := h_least_radius
  obtain ⟨f_spots_of, fd_spots_of, G_spots_of, m_spots_of, kp_spots_of, bi_spots_of⟩ := h_spots_of
  refine okD F sc_ap_radius (fun ds d r => ?_) fun cdv A outer s H E hr => ⟨_, (pss_cons (ps_if (PW.pt (pw_or (pt_not (pt_val (pe_call G_are_seen (hr.mono (by decide)) (by rfl) m_are_seen kp_are_seen bi_are_seen .nil pass0 (pa_cons (pv 2) (pa_cons (pv 3) (pa_cons (pv 5) pa_nil)))))) (pw_or (pt_cmpR op_gt (pv 0) (pe_gint T.g_MOST_MOST (by rfl)) (nomark _)) (pw_or1 (pt_cmpR op_gt (pv 1) (pe_gint T.g_MOST_PARTS (by rfl)) (nomark _)))))) (pss_one (ps_ret (pe_lst (pa_cons (pe_gint T.g_OUT_OF_RANGE (by rfl)) pa_nil)))) pss_nil)
      (pss_cons (ps_set (i := 6) sc_ap_radius.nd rfl (Or.inr rfl) (pe_make mk_init G_init (hr.mono (by decide)) (by rfl) T.mgC bi_init .nil pass0 (pa_cons (pv 2) (pa_cons (pv 3) (pa_cons (pv 4) pa_nil)))))
      (pss_one (ps_ret (pe_op op_cat (pe_lst (pa_cons pe_int pa_nil)) (pe_lc (own := [("spot", 7)]) (tt := tYes) (by rfl) sc_ap_radius.nd (pi_list (pe_call G_spots_of (hr.mono (by decide)) (by rfl) m_spots_of kp_spots_of bi_spots_of .nil pass0 (pa_cons (pv 5) pa_nil))) (blkOk_by (N := ["most", "k", "w", "h", "f", "xy", "frame", "spot"]) (sc := defScope s_ap_radius) (by decide +kernel)) (fun _ _ _ _ _ => (pg_name (i := 7) sc_ap_radius.nd rfl (Or.inl rfl))) (fun _ _ _ _ _ => pts_nil) (fun _ _ _ _ _ => (pe_call G_least_radius (hr.mono (by decide)) (by rfl) m_least_radius kp_least_radius bi_least_radius .nil pass0 (pa_cons (pv 6) (pa_cons (pv 7) (pa_cons (pv 0) (pa_cons (pv 1) pa_nil)))))))))))), fun ds d r G0 Q q => ?_⟩
  · obtain ⟨most, k, wi, he, fn, xn, rfl, hf, hx, hok, h2, h140, rfl⟩ := r
    rfl
  · obtain ⟨most, k, wi, he, fn, xn, rfl, hf, hx, hok, h2, h140, rfl⟩ := r
    refine q_when (eb_or (eb_not (eb_v (ed_call (ea_cons (ed_var rfl) (ea_cons (ed_var rfl) (ea_cons (ed_var rfl) ea_nil))) ⟨_, _, _, rfl, rfl⟩))) (eb_or (eb_t (ed_gt (ed_var rfl) ed_int)) (eb_t (ed_gt (ed_var rfl) ed_int)))) (fun hb => ?_) (fun hb => ?_)
    all_goals
      rw [seen_is h2] at hb
      have eo : okF wi he xn most k = !((!(Sh67.sized wi he && Sh67.some_ (xn.length / 2))) || (decide ((512 : Int) < most) || decide ((256 : Int) < k))) := by
        unfold okF MAsk.ok
        rw [Bool.eq_iff_iff]
        simp
        omega
    · rw [hb] at eo
      rw [if_neg (by rw [eo]; decide)] at q
      exact s_ret (EvN.asD (en_lst (ea_cons ed_int ea_nil))) q
    rw [hb] at eo
    have eo : okF wi he xn most k = true := eo
    rw [if_pos eo] at q
    have hl := hok eo
    unfold okF MAsk.ok at eo
    simp only [Bool.and_eq_true] at eo
    have hs := eo.1.1
    rw [MAsk.sized_iff] at hs
    simp only [Bool.and_eq_true, decide_eq_true_eq] at hs eo
    have F : FOk wi he fn := ⟨by omega, by omega, hl, hf⟩
    refine q_set (d := FR wi he fn) (ed_make (ea_cons (ed_var rfl) (ea_cons (ed_var rfl) (ea_cons (EvD.eq (ed_var rfl) (congrArg Dt.lst (ints_is fn).symm)) ea_nil)))) rfl ?_
    have pl := MAsk.pairs_len xn
    have pm := fun p hp => MAsk.pairs_mem (xn := xn) hx (p := p) hp
    refine s_ret (EvN.asD (EvN.eq (en_cat (en_lst (ea_cons ed_int ea_nil)) (en_lc (Sh67.pairsOf xn) dq (fun p => .int (outF wi he fn most k p)) (es_list (ed_call (ea_cons (ed_var rfl) ea_nil) ⟨xn, _, rfl, h2, by omega, rfl⟩)).w (by omega) _ (fun z _ => tg_name) (fun z hz => ?_)) ?_) (es := (0 :: (Sh67.pairsOf xn).map (outF wi he fn most k)).map Dt.int) ?_)) q
    · have mp := pm z hz
      obtain ⟨px, py⟩ := z
      dsimp only at mp
      exact ed_call (ea_cons (ed_var rfl) (ea_cons (ed_var rfl) (ea_cons (ed_var rfl) (ea_cons (ed_var rfl) ea_nil)))) ⟨wi, he, fn, px, py, most, k, rfl, F, by omega, by omega, by omega, by omega, by omega, by omega, rfl⟩
    · rw [List.length_map]
      show 1 + _ ≤ _
      omega
    · rw [List.map_cons, List.map_map]
      rfl

end
/-! ### the end -/
theorem ap_radius_due (most k wi he : Nat) (fn xn : List Nat) : (if okF wi he xn most k = true then 0 :: (Sh67.pairsOf xn).map (outF wi he fn most k) else [-2]) = PySh67.ap_radius most k wi he (Sh67Neutral.ints fn) (Sh67Neutral.ints xn) := by
  show _ = Sh67Neutral.told (Sh67.answer (if okF wi he (Sh67Neutral.nats (Sh67Neutral.ints xn)) most k = true then .radius most k wi he (Sh67Neutral.nats (Sh67Neutral.ints fn)) (Sh67Neutral.nats (Sh67Neutral.ints xn)) else .bad))
  rw [MAsk.ints_nats, MAsk.ints_nats]
  by_cases h : okF wi he xn most k = true
  · rw [if_pos h, if_pos h]
    show _ = 0 :: Sh67Neutral.ints ((Sh67.pairsOf xn).map fun p => Sh67.radius wi he fn p.1 p.2 most k)
    unfold Sh67Neutral.ints
    rw [List.map_map]
    rfl
  · rw [if_neg h, if_neg h]
    rfl
def spEnd (K : Fg) : Sp := fun vs H Q E => ∀ C, spD K C R_ap_radius vs H Q E
theorem fin_ap_radius {P : Program} {w : World} {K : Fg} {mg : Str → Option Value} {base : Heap} {C : Addr} {lv : Nat} {f : Addr} {fd : FuncData} {ps : List Str} (h : FnOk P w K mg base CX0 lv f fd ps (spD K C R_ap_radius)) : FnOk P w K mg base CX0 lv f fd ps (spEnd K) := h.imp fun _ _ _ _ q => q C
theorem ask_ap_radius {most k wi he : Int} {f xy : List Int} (h : PySh67.ap_radius_asked most k wi he f xy = true) :
    (0 ≤ most ∧ 0 ≤ k ∧ 0 ≤ wi ∧ 0 ≤ he) ∧ (okF wi.toNat he.toNat (Sh67Neutral.nats xy) most.toNat k.toNat = true → (Sh67Neutral.nats f).length = wi.toNat * he.toNat) ∧ (Sh67Neutral.nats xy).length = 2 * ((Sh67Neutral.nats xy).length / 2) := by
  unfold PySh67.ap_radius_asked Sh67Neutral.asked at h
  rw [Bool.and_eq_true] at h
  have h1 := h.1
  unfold Sh67Neutral.asked1 at h1
  simp only [Bool.and_eq_true (Sh67Neutral.natural _ _), Bool.and_eq_true (List.all _ _)] at h1
  obtain ⟨a_most, a_k, aw, ah, _, _, h2⟩ := h1
  exact ⟨⟨MAsk.natural_bits a_most, MAsk.natural_bits a_k, MAsk.natural_bits aw, MAsk.natural_bits ah⟩, MAsk.lens h2⟩

theorem all_mk {P : Program} {w : World} {K : Fg} {h : Heap} {mg : Str → Option Value} {fa C : Addr} (X : K.In h) (G : h.Ns mainGlobals mg) (hfa : mg "ap_radius" = some (.ref fa))
    {f0 f1 f2 f3 f4 f5 f6 f7 f8 f9 f10 f11 f12 f13 f14 : Addr} {od0 an0 od1 an1 od2 an2 od3 an3 od4 an4 od5 an5 od6 an6 od7 an7 od8 an8 od9 an9 od10 an10 od11 an11 od12 an12 od13 an13 od14 an14 : Option Addr} {sl0 sl1 sl2 sl3 sl4 sl5 sl6 sl7 sl8 sl9 sl10 sl11 sl12 sl13 sl14 : Array (Option Value)} {oc0 kV0 dc0 pm0 cd0 ct0 oc1 kV1 dc1 pm1 cd1 ct1 oc2 kV2 dc2 pm2 cd2 ct2 oc3 kV3 dc3 pm3 cd3 ct3 oc4 kV4 dc4 pm4 cd4 ct4 oc5 kV5 dc5 pm5 cd5 ct5 oc6 kV6 dc6 pm6 cd6 ct6 oc7 kV7 dc7 pm7 cd7 ct7 oc8 kV8 dc8 pm8 cd8 ct8 oc9 kV9 dc9 pm9 cd9 ct9 oc10 kV10 dc10 pm10 cd10 ct10 oc11 kV11 dc11 pm11 cd11 ct11 oc12 kV12 dc12 pm12 cd12 ct12 oc13 kV13 dc13 pm13 cd13 ct13 oc14 kV14 dc14 pm14 cd14 ct14 : Value} {t_MOST_MOST : Nat} {t_MOST_PARTS : Nat} {t_MOST_PLACES : Nat} {t_MOST_SIDE : Nat} {t_OUT_OF_RANGE : Nat} {t_PARTS : Nat} {t_PLACE : Nat} {t_STEPS : Addr} {o_STEPS : Obj}
    (aC : PySem.W.nsIn K mainGlobals "Frame" = some (some (.ref C)))
    (a0 : PySem.W.findIn K (.ref C) "__init__" = some (some (.ref f0)))
    (i0 : PySem.W.isFn K (.ref f0) = true)
    (l0 : K.lookup f0 = some ⟨oc0, od0, .func (PySem.W.fnOf "__init__" "Frame.__init__" (defArgs s_init) (defBody s_init) (defScope s_init) .none kV0 dc0 pm0 an0 cd0 ct0), sl0⟩)
    (c0 : PySem.W.codeIn K cd0 "Frame.__init__" = true)
    (k0 : PySem.W.keepIn K (.ref f0) = true)
    (a1 : PySem.W.nsIn K mainGlobals "are_sides" = some (some (.ref f1)))
    (l1 : K.lookup f1 = some ⟨oc1, od1, .func (PySem.W.fnOf "are_sides" "are_sides" (defArgs s_are_sides) (defBody s_are_sides) (defScope s_are_sides) .none kV1 dc1 pm1 an1 cd1 ct1), sl1⟩)
    (c1 : PySem.W.codeIn K cd1 "are_sides" = true)
    (k1 : PySem.W.keepIn K (.ref f1) = true)
    (a2 : PySem.W.nsIn K mainGlobals "are_places" = some (some (.ref f2)))
    (l2 : K.lookup f2 = some ⟨oc2, od2, .func (PySem.W.fnOf "are_places" "are_places" (defArgs s_are_places) (defBody s_are_places) (defScope s_are_places) .none kV2 dc2 pm2 an2 cd2 ct2), sl2⟩)
    (c2 : PySem.W.codeIn K cd2 "are_places" = true)
    (k2 : PySem.W.keepIn K (.ref f2) = true)
    (a3 : PySem.W.nsIn K mainGlobals "are_seen" = some (some (.ref f3)))
    (l3 : K.lookup f3 = some ⟨oc3, od3, .func (PySem.W.fnOf "are_seen" "are_seen" (defArgs s_are_seen) (defBody s_are_seen) (defScope s_are_seen) .none kV3 dc3 pm3 an3 cd3 ct3), sl3⟩)
    (c3 : PySem.W.codeIn K cd3 "are_seen" = true)
    (k3 : PySem.W.keepIn K (.ref f3) = true)
    (a4 : PySem.W.findIn K (.ref C) "columns_near" = some (some (.ref f4)))
    (i4 : PySem.W.isFn K (.ref f4) = true)
    (l4 : K.lookup f4 = some ⟨oc4, od4, .func (PySem.W.fnOf "columns_near" "Frame.columns_near" (defArgs s_columns_near) (defBody s_columns_near) (defScope s_columns_near) .none kV4 dc4 pm4 an4 cd4 ct4), sl4⟩)
    (c4 : PySem.W.codeIn K cd4 "Frame.columns_near" = true)
    (k4 : PySem.W.keepIn K (.ref f4) = true)
    (a5 : PySem.W.findIn K (.ref C) "rows_near" = some (some (.ref f5)))
    (i5 : PySem.W.isFn K (.ref f5) = true)
    (l5 : K.lookup f5 = some ⟨oc5, od5, .func (PySem.W.fnOf "rows_near" "Frame.rows_near" (defArgs s_rows_near) (defBody s_rows_near) (defScope s_rows_near) .none kV5 dc5 pm5 an5 cd5 ct5), sl5⟩)
    (c5 : PySem.W.codeIn K cd5 "Frame.rows_near" = true)
    (k5 : PySem.W.keepIn K (.ref f5) = true)
    (a6 : PySem.W.findIn K (.ref C) "places_near" = some (some (.ref f6)))
    (i6 : PySem.W.isFn K (.ref f6) = true)
    (l6 : K.lookup f6 = some ⟨oc6, od6, .func (PySem.W.fnOf "places_near" "Frame.places_near" (defArgs s_places_near) (defBody s_places_near) (defScope s_places_near) .none kV6 dc6 pm6 an6 cd6 ct6), sl6⟩)
    (c6 : PySem.W.codeIn K cd6 "Frame.places_near" = true)
    (k6 : PySem.W.keepIn K (.ref f6) = true)
    (a7 : PySem.W.nsIn K mainGlobals "squares_along" = some (some (.ref f7)))
    (l7 : K.lookup f7 = some ⟨oc7, od7, .func (PySem.W.fnOf "squares_along" "squares_along" (defArgs s_squares_along) (defBody s_squares_along) (defScope s_squares_along) .none kV7 dc7 pm7 an7 cd7 ct7), sl7⟩)
    (c7 : PySem.W.codeIn K cd7 "squares_along" = true)
    (k7 : PySem.W.keepIn K (.ref f7) = true)
    (a8 : PySem.W.nsIn K mainGlobals "points_within" = some (some (.ref f8)))
    (l8 : K.lookup f8 = some ⟨oc8, od8, .func (PySem.W.fnOf "points_within" "points_within" (defArgs s_points_within) (defBody s_points_within) (defScope s_points_within) .none kV8 dc8 pm8 an8 cd8 ct8), sl8⟩)
    (c8 : PySem.W.codeIn K cd8 "points_within" = true)
    (k8 : PySem.W.keepIn K (.ref f8) = true)
    (a9 : PySem.W.findIn K (.ref C) "number" = some (some (.ref f9)))
    (i9 : PySem.W.isFn K (.ref f9) = true)
    (l9 : K.lookup f9 = some ⟨oc9, od9, .func (PySem.W.fnOf "number" "Frame.number" (defArgs s_number) (defBody s_number) (defScope s_number) .none kV9 dc9 pm9 an9 cd9 ct9), sl9⟩)
    (c9 : PySem.W.codeIn K cd9 "Frame.number" = true)
    (k9 : PySem.W.keepIn K (.ref f9) = true)
    (a10 : PySem.W.nsIn K mainGlobals "aperture" = some (some (.ref f10)))
    (l10 : K.lookup f10 = some ⟨oc10, od10, .func (PySem.W.fnOf "aperture" "aperture" (defArgs s_aperture) (defBody s_aperture) (defScope s_aperture) .none kV10 dc10 pm10 an10 cd10 ct10), sl10⟩)
    (c10 : PySem.W.codeIn K cd10 "aperture" = true)
    (k10 : PySem.W.keepIn K (.ref f10) = true)
    (a11 : PySem.W.nsIn K mainGlobals "light_within" = some (some (.ref f11)))
    (l11 : K.lookup f11 = some ⟨oc11, od11, .func (PySem.W.fnOf "light_within" "light_within" (defArgs s_light_within) (defBody s_light_within) (defScope s_light_within) .none kV11 dc11 pm11 an11 cd11 ct11), sl11⟩)
    (c11 : PySem.W.codeIn K cd11 "light_within" = true)
    (k11 : PySem.W.keepIn K (.ref f11) = true)
    (a12 : PySem.W.nsIn K mainGlobals "least_radius" = some (some (.ref f12)))
    (l12 : K.lookup f12 = some ⟨oc12, od12, .func (PySem.W.fnOf "least_radius" "least_radius" (defArgs s_least_radius) (defBody s_least_radius) (defScope s_least_radius) .none kV12 dc12 pm12 an12 cd12 ct12), sl12⟩)
    (c12 : PySem.W.codeIn K cd12 "least_radius" = true)
    (k12 : PySem.W.keepIn K (.ref f12) = true)
    (a13 : PySem.W.nsIn K mainGlobals "spots_of" = some (some (.ref f13)))
    (l13 : K.lookup f13 = some ⟨oc13, od13, .func (PySem.W.fnOf "spots_of" "spots_of" (defArgs s_spots_of) (defBody s_spots_of) (defScope s_spots_of) .none kV13 dc13 pm13 an13 cd13 ct13), sl13⟩)
    (c13 : PySem.W.codeIn K cd13 "spots_of" = true)
    (k13 : PySem.W.keepIn K (.ref f13) = true)
    (a14 : PySem.W.nsIn K mainGlobals "ap_radius" = some (some (.ref f14)))
    (l14 : K.lookup f14 = some ⟨oc14, od14, .func (PySem.W.fnOf "ap_radius" "ap_radius" (defArgs s_ap_radius) (defBody s_ap_radius) (defScope s_ap_radius) .none kV14 dc14 pm14 an14 cd14 ct14), sl14⟩)
    (c14 : PySem.W.codeIn K cd14 "ap_radius" = true)
    (k14 : PySem.W.keepIn K (.ref f14) = true)
    (z_len : PySem.W.nsIn K mainGlobals "len" = some none)
    (z_max : PySem.W.nsIn K mainGlobals "max" = some none)
    (z_min : PySem.W.nsIn K mainGlobals "min" = some none)
    (z_range : PySem.W.nsIn K mainGlobals "range" = some none)
    (y_MOST_MOST : PySem.W.nsIn K mainGlobals "MOST_MOST" = some (some (.int (512) t_MOST_MOST)))
    (y_MOST_PARTS : PySem.W.nsIn K mainGlobals "MOST_PARTS" = some (some (.int (256) t_MOST_PARTS)))
    (y_MOST_PLACES : PySem.W.nsIn K mainGlobals "MOST_PLACES" = some (some (.int (64) t_MOST_PLACES)))
    (y_MOST_SIDE : PySem.W.nsIn K mainGlobals "MOST_SIDE" = some (some (.int (64) t_MOST_SIDE)))
    (y_OUT_OF_RANGE : PySem.W.nsIn K mainGlobals "OUT_OF_RANGE" = some (some (.int (-2) t_OUT_OF_RANGE)))
    (y_PARTS : PySem.W.nsIn K mainGlobals "PARTS" = some (some (.int (256) t_PARTS)))
    (y_PLACE : PySem.W.nsIn K mainGlobals "PLACE" = some (some (.int (64) t_PLACE)))
    (y_STEPS : PySem.W.nsIn K mainGlobals "STEPS" = some (some (.ref t_STEPS)))
    (yl_STEPS : K.lookup t_STEPS = some o_STEPS)
    (yc_STEPS : tupOf o_STEPS = some [(8 : Int), (24 : Int), (40 : Int), (56 : Int)])
    (pg : PySem.W.plainGet K C Str.empty = true)
    (hd : PySem.W.hasDictIn K C = true)
    (po : PySem.W.plainOver K C = true)
    (sa : PySem.W.findIn K (.ref C) "__setattr__" = some (some (.builtin "object.__setattr__")))
    (mk : PySem.W.makesIn K C = true)
    (kc : PySem.W.keepIn K (.ref C) = true)
    (nW : PySem.W.findIn K (.ref C) "wide" = some none)
    (nH : PySem.W.findIn K (.ref C) "high" = some none)
    (nN : PySem.W.findIn K (.ref C) "numbers" = some none)
    : ∃ fd : FuncData, (∀ (s : Shared) (us : List Value), us.length = (["most", "k", "w", "h", "f", "xy"] : List Str).length → BindsTo s fd ⟨us, []⟩ ((["most", "k", "w", "h", "f", "xy"] : List Str).zip us)) ∧ ∀ base : Heap, K.In base → base.Ns mainGlobals mg → FnOk P w K mg base CX0 6 fa fd ["most", "k", "w", "h", "f", "xy"] (spEnd K) := by
  have e := hfa.symm.trans (PySem.W.mg_of X G a14)
  cases e
  have T : Tx K mg C := ⟨PySem.W.mg_none_of X G z_len, PySem.W.mg_none_of X G z_max, PySem.W.mg_none_of X G z_min, PySem.W.mg_none_of X G z_range, ⟨_, PySem.W.mg_of X G y_MOST_MOST⟩, ⟨_, PySem.W.mg_of X G y_MOST_PARTS⟩, ⟨_, PySem.W.mg_of X G y_MOST_PLACES⟩, ⟨_, PySem.W.mg_of X G y_MOST_SIDE⟩, ⟨_, PySem.W.mg_of X G y_OUT_OF_RANGE⟩, ⟨_, PySem.W.mg_of X G y_PARTS⟩, ⟨_, PySem.W.mg_of X G y_PLACE⟩, ⟨_, PySem.W.mg_of X G y_STEPS, fun H => sqT_of yl_STEPS yc_STEPS⟩, ⟨⟨pg, hd, po, sa⟩, nW, nH, nN⟩, PySem.W.mg_of X G aC⟩
  have F0 := fun_mk (st := s_init) l0 c0 k0
  have b0 := F0.binds (ps := ["self", "wide", "high", "numbers"]) fun _ _ _ _ _ _ us hl => match us, hl with | [_, _, _, _], _ => rfl
  have F1 := fun_mk (st := s_are_sides) l1 c1 k1
  have b1 := F1.binds (ps := ["wide", "high"]) fun _ _ _ _ _ _ us hl => match us, hl with | [_, _], _ => rfl
  have F2 := fun_mk (st := s_are_places) l2 c2 k2
  have b2 := F2.binds (ps := ["xy"]) fun _ _ _ _ _ _ us hl => match us, hl with | [_], _ => rfl
  have F3 := fun_mk (st := s_are_seen) l3 c3 k3
  have b3 := F3.binds (ps := ["wide", "high", "xy"]) fun _ _ _ _ _ _ us hl => match us, hl with | [_, _, _], _ => rfl
  have F4 := fun_mk (st := s_columns_near) l4 c4 k4
  have b4 := F4.binds (ps := ["self", "x", "far"]) fun _ _ _ _ _ _ us hl => match us, hl with | [_, _, _], _ => rfl
  have F5 := fun_mk (st := s_rows_near) l5 c5 k5
  have b5 := F5.binds (ps := ["self", "y", "far"]) fun _ _ _ _ _ _ us hl => match us, hl with | [_, _, _], _ => rfl
  have F6 := fun_mk (st := s_places_near) l6 c6 k6
  have b6 := F6.binds (ps := ["self", "x", "y", "far"]) fun _ _ _ _ _ _ us hl => match us, hl with | [_, _, _, _], _ => rfl
  have F7 := fun_mk (st := s_squares_along) l7 c7 k7
  have b7 := F7.binds (ps := ["place", "here"]) fun _ _ _ _ _ _ us hl => match us, hl with | [_, _], _ => rfl
  have F8 := fun_mk (st := s_points_within) l8 c8 k8
  have b8 := F8.binds (ps := ["place", "spot", "radius"]) fun _ _ _ _ _ _ us hl => match us, hl with | [_, _, _], _ => rfl
  have F9 := fun_mk (st := s_number) l9 c9 k9
  have b9 := F9.binds (ps := ["self", "column", "row"]) fun _ _ _ _ _ _ us hl => match us, hl with | [_, _, _], _ => rfl
  have F10 := fun_mk (st := s_aperture) l10 c10 k10
  have b10 := F10.binds (ps := ["frame", "spot", "radius"]) fun _ _ _ _ _ _ us hl => match us, hl with | [_, _, _], _ => rfl
  have F11 := fun_mk (st := s_light_within) l11 c11 k11
  have b11 := F11.binds (ps := ["frame", "spot", "radius"]) fun _ _ _ _ _ _ us hl => match us, hl with | [_, _, _], _ => rfl
  have F12 := fun_mk (st := s_least_radius) l12 c12 k12
  have b12 := F12.binds (ps := ["frame", "spot", "most", "k"]) fun _ _ _ _ _ _ us hl => match us, hl with | [_, _, _, _], _ => rfl
  have F13 := fun_mk (st := s_spots_of) l13 c13 k13
  have b13 := F13.binds (ps := ["xy"]) fun _ _ _ _ _ _ us hl => match us, hl with | [_], _ => rfl
  have F14 := fun_mk (st := s_ap_radius) l14 c14 k14
  have b14 := F14.binds (ps := ["most", "k", "w", "h", "f", "xy"]) fun _ _ _ _ _ _ us hl => match us, hl with | [_, _, _, _, _, _], _ => rfl
  refine ⟨PySem.W.fnOf "ap_radius" "ap_radius" (defArgs s_ap_radius) (defBody s_ap_radius) (defScope s_ap_radius) .none kV14 dc14 pm14 an14 cd14 ct14, fun s us hu => match us, hu with | [_, _, _, _, _, _], _ => .of_eq rfl, fun base _ _ => ?_⟩
  have h_init : Ini P w K mg base C := ⟨_, _, ok_init T F0, ⟨mk, a0, i0, kc⟩, b0⟩
  have h_are_sides : Cal P w K mg base C 1 "are_sides" ["wide", "high"] R_are_sides := ⟨_, _, ok_are_sides T F1 , PySem.W.mg_of X G a1, F1.kp, b1⟩
  have h_are_places : Cal P w K mg base C 1 "are_places" ["xy"] R_are_places := ⟨_, _, ok_are_places T F2 , PySem.W.mg_of X G a2, F2.kp, b2⟩
  have h_are_seen : Cal P w K mg base C 2 "are_seen" ["wide", "high", "xy"] R_are_seen := ⟨_, _, ok_are_seen T F3 h_are_sides h_are_places, PySem.W.mg_of X G a3, F3.kp, b3⟩
  have h_columns_near : Mel P w K mg base C 1 "columns_near" ["self", "x", "far"] R_columns_near := ⟨_, _, ok_columns_near T F4 , ⟨a4, i4, k4⟩, b4⟩
  have h_rows_near : Mel P w K mg base C 1 "rows_near" ["self", "y", "far"] R_rows_near := ⟨_, _, ok_rows_near T F5 , ⟨a5, i5, k5⟩, b5⟩
  have h_places_near : Mel P w K mg base C 2 "places_near" ["self", "x", "y", "far"] R_places_near := ⟨_, _, ok_places_near T F6 h_columns_near h_rows_near, ⟨a6, i6, k6⟩, b6⟩
  have h_squares_along : Cal P w K mg base C 1 "squares_along" ["place", "here"] R_squares_along := ⟨_, _, ok_squares_along T F7 , PySem.W.mg_of X G a7, F7.kp, b7⟩
  have h_points_within : Cal P w K mg base C 2 "points_within" ["place", "spot", "radius"] R_points_within := ⟨_, _, ok_points_within T F8 h_squares_along, PySem.W.mg_of X G a8, F8.kp, b8⟩
  have h_number : Mel P w K mg base C 1 "number" ["self", "column", "row"] R_number := ⟨_, _, ok_number T F9 , ⟨a9, i9, k9⟩, b9⟩
  have h_aperture : Cal P w K mg base C 3 "aperture" ["frame", "spot", "radius"] R_aperture := ⟨_, _, ok_aperture T F10 h_places_near h_points_within h_number, PySem.W.mg_of X G a10, F10.kp, b10⟩
  have h_light_within : Cal P w K mg base C 4 "light_within" ["frame", "spot", "radius"] R_light_within := ⟨_, _, ok_light_within T F11 h_aperture, PySem.W.mg_of X G a11, F11.kp, b11⟩
  have h_least_radius : Cal P w K mg base C 5 "least_radius" ["frame", "spot", "most", "k"] R_least_radius := ⟨_, _, ok_least_radius T F12 h_light_within, PySem.W.mg_of X G a12, F12.kp, b12⟩
  have h_spots_of : Cal P w K mg base C 1 "spots_of" ["xy"] R_spots_of := ⟨_, _, ok_spots_of T F13 , PySem.W.mg_of X G a13, F13.kp, b13⟩
  exact fin_ap_radius (ok_ap_radius T F14 h_init h_are_seen h_least_radius h_spots_of)
end Pd
open PySem PySem.W PyProof.Rows
set_option maxRecDepth 100000 in
set_option maxHeartbeats 0 in
theorem PySem.Challenge.cw_starlight_s07_ap_radius_holds : PySem.Challenge.rw_starlight_s07_ap_radius.Holds := by
  w_on; k_headS; (case hw => exact ⟨[.int 70000, .int 1, .int 1, .int 1, .list [], .list []], by decide +kernel, by decide +kernel⟩)
  k_fillS
  refine L2.walk_specK (r := PySem.Challenge.rw_starlight_s07_ap_radius) (k := 6) (CX := L2.CX0) (ps := ["most", "k", "w", "h", "f", "xy"]) (sp := Pd.spEnd) (by decide +kernel) rfl rfl ⟨rfl, by decide, by decide⟩ (fun w h Y => PySem.W.kIn_of Y) ?F ?S (fun _ _ _ _ z => z)
  case F =>
    intro w mg fa h Y KX G hmg
    refine' Pd.all_mk KX G hmg ?aC ?a0 ?i0 ?l0 ?c0 ?k0 ?a1 ?l1 ?c1 ?k1 ?a2 ?l2 ?c2 ?k2 ?a3 ?l3 ?c3 ?k3 ?a4 ?i4 ?l4 ?c4 ?k4 ?a5 ?i5 ?l5 ?c5 ?k5 ?a6 ?i6 ?l6 ?c6 ?k6 ?a7 ?l7 ?c7 ?k7 ?a8 ?l8 ?c8 ?k8 ?a9 ?i9 ?l9 ?c9 ?k9 ?a10 ?l10 ?c10 ?k10 ?a11 ?l11 ?c11 ?k11 ?a12 ?l12 ?c12 ?k12 ?a13 ?l13 ?c13 ?k13 ?a14 ?l14 ?c14 ?k14 ?z_len ?z_max ?z_min ?z_range ?y_MOST_MOST ?y_MOST_PARTS ?y_MOST_PLACES ?y_MOST_SIDE ?y_OUT_OF_RANGE ?y_PARTS ?y_PLACE ?y_STEPS ?yl_STEPS ?yc_STEPS ?pg ?hd ?po ?sa ?mk ?kc ?nW ?nH ?nN
    (case aC => k_is)
    (case a0 => k_is)
    (case i0 => k_is)
    (case l0 => k_is)
    (case c0 => k_is)
    (case k0 => k_is)
    (case a1 => k_is)
    (case l1 => k_is)
    (case c1 => k_is)
    (case k1 => k_is)
    (case a2 => k_is)
    (case l2 => k_is)
    (case c2 => k_is)
    (case k2 => k_is)
    (case a3 => k_is)
    (case l3 => k_is)
    (case c3 => k_is)
    (case k3 => k_is)
    (case a4 => k_is)
    (case i4 => k_is)
    (case l4 => k_is)
    (case c4 => k_is)
    (case k4 => k_is)
    (case a5 => k_is)
    (case i5 => k_is)
    (case l5 => k_is)
    (case c5 => k_is)
    (case k5 => k_is)
    (case a6 => k_is)
    (case i6 => k_is)
    (case l6 => k_is)
    (case c6 => k_is)
    (case k6 => k_is)
    (case a7 => k_is)
    (case l7 => k_is)
    (case c7 => k_is)
    (case k7 => k_is)
    (case a8 => k_is)
    (case l8 => k_is)
    (case c8 => k_is)
    (case k8 => k_is)
    (case a9 => k_is)
    (case i9 => k_is)
    (case l9 => k_is)
    (case c9 => k_is)
    (case k9 => k_is)
    (case a10 => k_is)
    (case l10 => k_is)
    (case c10 => k_is)
    (case k10 => k_is)
    (case a11 => k_is)
    (case l11 => k_is)
    (case c11 => k_is)
    (case k11 => k_is)
    (case a12 => k_is)
    (case l12 => k_is)
    (case c12 => k_is)
    (case k12 => k_is)
    (case a13 => k_is)
    (case l13 => k_is)
    (case c13 => k_is)
    (case k13 => k_is)
    (case a14 => k_is)
    (case l14 => k_is)
    (case c14 => k_is)
    (case k14 => k_is)
    (case z_len => k_is)
    (case z_max => k_is)
    (case z_min => k_is)
    (case z_range => k_is)
    (case y_MOST_MOST => k_is)
    (case y_MOST_PARTS => k_is)
    (case y_MOST_PLACES => k_is)
    (case y_MOST_SIDE => k_is)
    (case y_OUT_OF_RANGE => k_is)
    (case y_PARTS => k_is)
    (case y_PLACE => k_is)
    (case y_STEPS => k_is)
    (case yl_STEPS => k_is)
    (case yc_STEPS => rfl)
    (case pg => k_is)
    (case hd => k_is)
    (case po => k_is)
    (case sa => k_is)
    (case mk => k_is)
    (case kc => k_is)
    (case nW => k_is)
    (case nH => k_is)
    (case nN => k_is)
  case S =>
    intro K H xs a hO hwi hask hx
    obtain ⟨most, k, wi, he, f, xy, u⟩ := a
    cases hx with
    | cons v0 hx =>
      cases hx with
      | cons v1 hx =>
        cases hx with
        | cons v2 hx =>
          cases hx with
          | cons v3 hx =>
            cases hx with
            | cons v4 hx =>
              cases hx with
              | cons v5 hx =>
                cases hx
                have q : (PySem.W.Codec.inInt 0 4294967295 most && (PySem.W.Codec.inInt 0 4294967295 k && (PySem.W.Codec.inInt 0 4294967295 wi && (PySem.W.Codec.inInt 0 4294967295 he && ((PySem.W.Codec.inLen 0 4200 f && f.all (PySem.W.Codec.inInt 0 65535)) && ((PySem.W.Codec.inLen 0 140 xy && xy.all (PySem.W.Codec.inInt 0 65535)) && true)))))) = true := hwi
                simp only [Bool.and_eq_true] at q
                obtain ⟨_, _, _, _, ⟨_, q4⟩, ⟨q5, q6⟩, _⟩ := q
                have hl := (PySem.W.Codec.inNat_iff.mp q5).2
                have hf := Pd.all_int q4
                have hx := Pd.all_int q6
                obtain ⟨⟨z_most, z_k, w0, h0⟩, hok, h2⟩ := Pd.ask_ap_radius hask
                have ef := MAsk.nats_ints hf
                have ex := MAsk.nats_ints hx
                have bf := MAsk.nats_big hf
                have bx := MAsk.nats_big hx
                have el : (Sh67Neutral.nats xy).length = xy.length := List.length_map ..
                generalize Sh67Neutral.nats f = fn at ef bf hok
                generalize Sh67Neutral.nats xy = xn at ex bx hok h2 el
                subst ef ex
                obtain ⟨most, rfl⟩ := Int.eq_ofNat_of_zero_le z_most
                obtain ⟨k, rfl⟩ := Int.eq_ofNat_of_zero_le z_k
                obtain ⟨wi, rfl⟩ := Int.eq_ofNat_of_zero_le w0
                obtain ⟨he, rfl⟩ := Int.eq_ofNat_of_zero_le h0
                intro C
                refine ⟨H, _, _, L2.Same.refl H, (.cons (Pd.dw_int v0) (.cons (Pd.dw_int v1) (.cons (Pd.dw_int v2) (.cons (Pd.dw_int v3) (.cons (Pd.ints_is fn ▸ Pd.dw_list v4) (.cons (Pd.ints_is xn ▸ Pd.dw_list v5) .nil)))))), ⟨most, k, wi, he, fn, xn, rfl, bf, bx, hok, h2, by omega, rfl⟩, fun v G2 H2 g dv => ?_⟩
                have e := Pd.dr_out dv g.gh
                rw [Pd.ap_radius_due] at e
                exact e

#print axioms PySem.Challenge.cw_starlight_s07_ap_radius_holds
