import PyProof.Rows.All
import Wide.All
import OpenK.AllK
import Wide.FinOn
import Open.SpecLaws
import KE.OsGo
import HandS.ForSpec
import HandS.Comp
import HandS.Iter
import HandS.Walk
import HandS.Wide
import HandS.WideBits
import HandS.SortInts
import PySem.Challenge.RW_starlight_s05_ap_moments

set_option Elab.async false
set_option linter.all false
set_option maxRecDepth 100000
set_option maxHeartbeats 4000000
/-! Pd: pure data, told symbolically: what slots hold is told by data, what a reading gives is told by data, whatever the heap. -/
namespace Pd
open PySem PySem.Spec PyProof.Rows L2
abbrev Fg := PySem.W.Frag
/-- data: ints, truth values, lists, tuples; a frame by its sides and its numbers -/
inductive Dt where
  | int (i : Int)
  | bl (b : Bool)
  | lst (ds : List Dt)
  | tup (ds : List Dt)
  | frm (w h : Int) (f : List Int)
def fF (w h : Int) (fa : Addr) : List (Str × V) := [("wide", .int w), ("high", .int h), ("numbers", .ref fa)]
mutual
inductive Dr (K : Fg) (C : Addr) (G : Hp) : V → Dt → Prop
  | int (i : Int) : Dr K C G (.int i) (.int i)
  | bl (b : Bool) : Dr K C G (.bl b) (.bl b)
  | lst {a : Addr} {xs : List V} {ds : List Dt} : SqL K G a xs → Drs K C G xs ds → Dr K C G (.ref a) (.lst ds)
  | tup {a : Addr} {xs : List V} {ds : List Dt} : SqT K G a xs → Drs K C G xs ds → Dr K C G (.ref a) (.tup ds)
  | frm {a dx fa : Addr} {w h : Int} {f : List Int} : G a = some (.ins C dx (fF w h fa)) → SqL K G fa (f.map V.int) → Dr K C G (.ref a) (.frm w h f)
inductive Drs (K : Fg) (C : Addr) (G : Hp) : List V → List Dt → Prop
  | nil : Drs K C G [] []
  | cons {v : V} {vs : List V} {d : Dt} {ds : List Dt} : Dr K C G v d → Drs K C G vs ds → Drs K C G (v :: vs) (d :: ds)
end
theorem sqt_go {K : Fg} {H H' : Hp} {a : Addr} {xs : List V} (e : Same H H') (h : SqT K H a xs) : SqT K H' a xs := by
  rcases h with (p | ⟨u, p⟩) | p
  · exact Or.inl (Or.inl (e a _ p))
  · exact Or.inl (Or.inr ⟨u, e a _ p⟩)
  · exact Or.inr p
section
variable {K : Fg} {C : Addr} {G G' : Hp}
mutual
theorem dr_go (e : Same G G') : ∀ (d : Dt) (v : V), Dr K C G v d → Dr K C G' v d
  | .int i, _, x => by cases x; exact .int i
  | .bl b, _, x => by cases x; exact .bl b
  | .lst ds, _, x => by
    cases x with
    | lst p q => exact .lst (e.seq p) (drs_go e ds _ q)
  | .tup ds, _, x => by
    cases x with
    | tup p q => exact .tup (sqt_go e p) (drs_go e ds _ q)
  | .frm w h f, _, x => by
    cases x with
    | frm p q => exact .frm (e _ _ p) (e.seq q)
theorem drs_go (e : Same G G') : ∀ (ds : List Dt) (vs : List V), Drs K C G vs ds → Drs K C G' vs ds
  | [], _, x => by cases x; exact .nil
  | d :: ds, _, x => by
    cases x with
    | cons p q => exact .cons (dr_go e d _ p) (drs_go e ds _ q)
end
theorem Dr.go {d : Dt} {v : V} (x : Dr K C G v d) (e : Same G G') : Dr K C G' v d := dr_go e d v x
theorem Drs.go {ds : List Dt} {vs : List V} (x : Drs K C G vs ds) (e : Same G G') : Drs K C G' vs ds := drs_go e ds vs x
theorem Drs.len : ∀ {ds : List Dt} {vs : List V}, Drs K C G vs ds → vs.length = ds.length
  | [], _, x => by cases x; rfl
  | d :: ds, _, x => by
    cases x with
    | cons p q =>
      show _ + 1 = _ + 1
      rw [q.len]
theorem Drs.get : ∀ {ds : List Dt} {vs : List V} {i : Nat} {v : V}, Drs K C G vs ds → vs[i]? = some v → ∃ d, ds[i]? = some d ∧ Dr K C G v d
  | [], _, i, v, x, h => by cases x; simp at h
  | d :: ds, _, 0, v, x, h => by
    cases x with
    | cons p q =>
      cases Option.some.inj h
      exact ⟨d, rfl, p⟩
  | d :: ds, _, i + 1, v, x, h => by
    cases x with
    | cons p q => exact q.get (i := i) h
theorem Drs.at_ : ∀ {ds : List Dt} {vs : List V} {i : Nat} {d : Dt}, Drs K C G vs ds → ds[i]? = some d → ∃ v, vs[i]? = some v ∧ Dr K C G v d
  | [], _, i, v, x, h => by simp at h
  | d :: ds, _, 0, v, x, h => by
    cases x with
    | cons p q =>
      cases Option.some.inj h
      exact ⟨_, rfl, p⟩
  | d :: ds, _, i + 1, v, x, h => by
    cases x with
    | cons p q => exact q.at_ (i := i) h
theorem Drs.app : ∀ {ds : List Dt} {vs : List V} {es : List Dt} {us : List V}, Drs K C G vs ds → Drs K C G us es → Drs K C G (vs ++ us) (ds ++ es)
  | [], _, _, _, x, y => by cases x; exact y
  | d :: ds, _, _, _, x, y => by
    cases x with
    | cons p q => exact .cons p (q.app y)
theorem Drs.one {d : Dt} {v : V} (x : Dr K C G v d) : Drs K C G [v] [d] := .cons x .nil
theorem drs_ints : ∀ {ns : List Int} {vs : List V}, Drs K C G vs (ns.map Dt.int) → vs = ns.map V.int
  | [], _, x => by cases x; rfl
  | n :: ns, _, x => by
    cases x with
    | cons p q =>
      cases p
      rw [drs_ints q]
      rfl
theorem ints_drs : ∀ ns : List Int, Drs K C G (ns.map V.int) (ns.map Dt.int)
  | [] => .nil
  | n :: ns => .cons (.int n) (ints_drs ns)
theorem drs_bls : ∀ {ns : List Bool} {vs : List V}, Drs K C G vs (ns.map Dt.bl) → vs = ns.map V.bl
  | [], _, x => by cases x; rfl
  | n :: ns, _, x => by
    cases x with
    | cons p q =>
      cases p
      rw [drs_bls q]
      rfl
theorem dr_int {v : V} {i : Int} (x : Dr K C G v (.int i)) : v = .int i := by cases x; rfl
theorem dr_bl {v : V} {b : Bool} (x : Dr K C G v (.bl b)) : v = .bl b := by cases x; rfl
end

/-! ### the part of the heap that data may stand in (G), the heap (H), and how both grow -/
structure Gr (G H G' H' : Hp) : Prop where
  hh : Same H H'
  gg : Same G G'
  gh : Same G' H'
  fr : ∀ a, G' a ≠ none → G a ≠ none ∨ H a = none
section
variable {G H G1 H1 G2 H2 : Hp} {p : Addr} {o : HO}
theorem Gr.refl (h : Same G H) : Gr G H G H := ⟨Same.refl H, Same.refl G, h, fun _ n => Or.inl n⟩
theorem Gr.trans (a : Gr G H G1 H1) (b : Gr G1 H1 G2 H2) : Gr G H G2 H2 := by
  refine ⟨a.hh.trans b.hh, a.gg.trans b.gg, b.gh, fun x n => ?_⟩
  rcases b.fr x n with m | m
  · exact a.fr x m
  · exact Or.inr (a.hh.free m)
theorem same_new {h : Hp} (hp : h p = none) : Same h (upd h p o) := fun b u e => by
  rw [upd_ne (ne_of_none e hp)]
  exact e
/-- a new object that data may stand in -/
theorem Gr.new (h : Same G H) (hp : H p = none) : Gr G H (upd G p o) (upd H p o) := by
  refine ⟨same_new hp, same_new (h.free hp), fun b u e => ?_, fun b n => ?_⟩
  · by_cases hb : b = p
    · subst hb
      rw [upd_same] at e ⊢
      exact e
    · rw [upd_ne hb] at e ⊢
      exact h b u e
  · by_cases hb : b = p
    · subst hb
      exact Or.inr hp
    · rw [upd_ne hb] at n
      exact Or.inl n
/-- a new object kept aside -/
theorem Gr.aside (h : Same G H) (hp : H p = none) : Gr G H G (upd H p o) := ⟨same_new hp, Same.refl G, h.trans (same_new hp), fun _ n => Or.inl n⟩
theorem Gr.out (a : Gr G H G1 H1) (g : G p = none) (h : H p = some o) : G1 p = none ∧ H1 p = some o := by
  refine ⟨?_, a.hh p o h⟩
  cases e : G1 p with
  | none => rfl
  | some u =>
    rcases a.fr p (by rw [e]; exact fun z => nomatch z) with m | m
    · exact absurd g m
    · rw [h] at m
      cases m
/-- what stands aside may change -/
theorem Gr.mut (a : Gr G H G1 H1) (h : H p = none) (g : G1 p = none) : Gr G H G1 (upd H1 p o) := by
  refine ⟨fun b u e => ?_, a.gg, fun b u e => ?_, a.fr⟩
  · rw [upd_ne (ne_of_none e h)]
    exact a.hh b u e
  · rw [upd_ne (ne_of_none e g)]
    exact a.gh b u e
/-- what stands aside is shown -/
theorem Gr.show_ (a : Gr G H G1 H1) (h : H p = none) (g : G1 p = none) (e : H1 p = some o) : Gr G H (upd G1 p o) H1 := by
  refine ⟨a.hh, a.gg.trans (same_new g), fun b u e' => ?_, fun b n => ?_⟩
  · by_cases hb : b = p
    · subst hb
      rw [upd_same] at e'
      rw [e, ← e']
    · rw [upd_ne hb] at e'
      exact a.gh b u e'
  · by_cases hb : b = p
    · subst hb
      exact Or.inr h
    · rw [upd_ne hb] at n
      exact a.fr b n
end

/-! ### slots -/
abbrev Ct := List (Option Dt)
structure Sd (K : Fg) (C : Addr) (G : Hp) (σ : L2.St) (Γ : Ct) : Prop where
  len : σ.length = Γ.length
  at_ : ∀ (i : Nat) (d : Dt), Γ[i]? = some (some d) → ∃ v, σ[i]? = some (some v) ∧ Dr K C G v d
section
variable {K : Fg} {C : Addr} {G G' : Hp} {σ : L2.St} {Γ : Ct}
theorem Sd.go (s : Sd K C G σ Γ) (e : Same G G') : Sd K C G' σ Γ := ⟨s.len, fun i d h => by
  obtain ⟨v, a, b⟩ := s.at_ i d h
  exact ⟨v, a, b.go e⟩⟩
theorem Sd.put (s : Sd K C G σ Γ) {v : V} {d : Dt} (j : Nat) (x : Dr K C G v d) : Sd K C G (σ.set j (some v)) (Γ.set j (some d)) := by
  refine ⟨by rw [List.length_set, List.length_set, s.len], fun i e h => ?_⟩
  by_cases hj : j = i
  · subst hj
    have hl : j < Γ.length := by
      have := (List.getElem?_eq_some_iff.mp h).1
      rwa [List.length_set] at this
    rw [List.getElem?_set_self hl] at h
    cases h
    exact ⟨v, List.getElem?_set_self (by rw [s.len]; exact hl), x⟩
  · rw [List.getElem?_set_ne hj] at h ⊢
    exact s.at_ i e h
theorem Sd.forget (s : Sd K C G σ Γ) (j : Nat) : Sd K C G σ (Γ.set j none) := by
  refine ⟨by rw [List.length_set, s.len], fun i e h => ?_⟩
  by_cases hj : j = i
  · subst hj
    have hl : j < Γ.length := by
      have := (List.getElem?_eq_some_iff.mp h).1
      rwa [List.length_set] at this
    rw [List.getElem?_set_self hl] at h
    cases h
  · rw [List.getElem?_set_ne hj] at h
    exact s.at_ i e h
theorem Sd.unput (s : Sd K C G σ Γ) (j : Nat) (u : Option V) : Sd K C G (σ.set j u) (Γ.set j none) := by
  refine ⟨by rw [List.length_set, List.length_set, s.len], fun i e h => ?_⟩
  by_cases hj : j = i
  · subst hj
    have hl : j < Γ.length := by
      have := (List.getElem?_eq_some_iff.mp h).1
      rwa [List.length_set] at this
    rw [List.getElem?_set_self hl] at h
    cases h
  · rw [List.getElem?_set_ne hj] at h ⊢
    exact s.at_ i e h
def wipeC (Γ : Ct) : List Nat → Ct
  | [] => Γ
  | v :: vs => (wipeC Γ vs).set v none
theorem Sd.wipe (s : Sd K C G σ Γ) : ∀ vs : List Nat, Sd K C G (L2.wipe σ vs) (wipeC Γ vs)
  | [] => s
  | v :: vs => (s.wipe vs).unput v none
end
theorem wipe_at (σ : L2.St) : ∀ (vs : List Nat) (i : Nat), (L2.wipe σ vs)[i]? = if i ∈ vs ∧ i < σ.length then some none else σ[i]?
  | [], i => by simp [L2.wipe]
  | v :: vs, i => by
    show ((L2.wipe σ vs).set v none)[i]? = _
    by_cases hv : v = i
    · subst hv
      by_cases hl : v < σ.length
      · rw [List.getElem?_set_self (by rw [wipe_length]; exact hl), if_pos ⟨List.mem_cons_self, hl⟩]
      · rw [List.getElem?_eq_none (by rw [List.length_set, wipe_length]; omega), if_neg (fun z => hl z.2), List.getElem?_eq_none (by omega)]
    · rw [List.getElem?_set_ne hv, wipe_at σ vs i]
      by_cases hc : i ∈ vs ∧ i < σ.length
      · rw [if_pos hc, if_pos ⟨List.mem_cons_of_mem _ hc.1, hc.2⟩]
      · rw [if_neg hc, if_neg]
        intro z
        rcases List.mem_cons.mp z.1 with e | m
        · exact hv e.symm
        · exact hc ⟨m, z.2⟩
theorem wipe_back {σ σ' : L2.St} {vs : List Nat} (hl : σ'.length = σ.length) (h : ∀ j, j ∉ vs → σ'[j]? = (L2.wipe σ vs)[j]?) : L2.wipe σ' vs = L2.wipe σ vs := by
  apply List.ext_getElem?
  intro i
  rw [wipe_at σ' vs i]
  by_cases hc : i ∈ vs ∧ i < σ.length
  · rw [if_pos ⟨hc.1, by rw [hl]; exact hc.2⟩, wipe_at, if_pos hc]
  · rw [if_neg (by rw [hl]; exact hc)]
    by_cases hm : i ∈ vs
    · have hi : ¬ i < σ.length := fun z => hc ⟨hm, z⟩
      rw [List.getElem?_eq_none (by omega), List.getElem?_eq_none (by rw [wipe_length]; omega)]
    · exact h i hm
theorem sd_start {K : Fg} {C : Addr} {G : Hp} {N : List Str} {vs : List V} {ds : List Dt} (h : Drs K C G vs ds) : Sd K C G (L2.start N vs) (ds.map some ++ List.replicate (N.length - ds.length) none) := by
  have e := h.len
  refine ⟨by unfold L2.start; simp [e], fun i d hd => ?_⟩
  unfold L2.start
  by_cases hi : i < ds.length
  · rw [List.getElem?_append_left (by simpa using hi), List.getElem?_map] at hd
    obtain ⟨d', h1, h2⟩ := Option.map_eq_some_iff.mp hd
    cases h2
    obtain ⟨v, hv, dv⟩ := h.at_ h1
    refine ⟨v, ?_, dv⟩
    rw [List.getElem?_append_left (by simp [e]; exact hi), List.getElem?_map, hv]
    rfl
  · rw [List.getElem?_append_right (by simp; omega)] at hd
    rw [List.getElem?_replicate] at hd
    split at hd
    · cases hd
    · cases hd

/-! ### what a reading gives -/
section
variable (K : Fg) (C : Addr)
def EvD (te : TE) (Γ : Ct) (d : Dt) : Prop := ∀ (σ : L2.St) (G H : Hp), Sd K C G σ Γ → Same G H → ∀ Q : VK, (∀ v G2 H2, Gr G H G2 H2 → Dr K C G2 v d → Q v H2) → te σ H Q
/-- a new list -/
def EvN (te : TE) (Γ : Ct) (ds : List Dt) : Prop := ∀ (σ : L2.St) (G H : Hp), Sd K C G σ Γ → Same G H → ∀ Q : VK, (∀ p xs G2 H2, Gr G H G2 H2 → G2 p = some (.lst xs) → Drs K C G2 xs ds → Q (.ref p) H2) → te σ H Q
def EvB (tt : TT) (Γ : Ct) (b : Bool) : Prop := ∀ (σ : L2.St) (G H : Hp), Sd K C G σ Γ → Same G H → ∀ Q : Bool → Hp → Prop, (∀ G2 H2, Gr G H G2 H2 → Q b H2) → tt σ H Q
def EvA (ta : TA) (Γ : Ct) (ds : List Dt) : Prop := ∀ (σ : L2.St) (G H : Hp), Sd K C G σ Γ → Same G H → ∀ Q : List V → Hp → Prop, (∀ vs G2 H2, Gr G H G2 H2 → Drs K C G2 vs ds → Q vs H2) → ta σ H Q
/-- what is walked: at each turn the next of ds -/
def WkD (J : It) (ds : List Dt) (Ga : Hp) : Prop := Walk J ds.length (fun H => Same Ga H) fun i H x H' => ∀ G', Same Ga G' → Same G' H → ∃ d G2, ds[i]? = some d ∧ Gr G' H G2 H' ∧ Dr K C G2 x d
/-- .. without a new object -/
def WkS (J : It) (ds : List Dt) (Ga : Hp) : Prop := Walk J ds.length (fun H => Same Ga H) fun i H x H' => H' = H ∧ ∃ d, ds[i]? = some d ∧ Dr K C Ga x d
def EvW (wi : TI) (Γ : Ct) (ds : List Dt) : Prop := ∀ (σ : L2.St) (G H : Hp), Sd K C G σ Γ → Same G H → ∀ R : It → Hp → Prop, (∀ J G2 H2, Gr G H G2 H2 → WkD K C J ds G2 → R J H2) → wi σ H R
def EvS (wi : TI) (Γ : Ct) (ds : List Dt) : Prop := ∀ (σ : L2.St) (G H : Hp), Sd K C G σ Γ → Same G H → ∀ R : It → Hp → Prop, (∀ J G2 H2, Gr G H G2 H2 → WkS K C J ds G2 → R J H2) → wi σ H R
/-- a target: d goes to the slots ts, and Γ becomes Γ' -/
def TgD (g : TG) (ts : List Nat) (d : Dt) (Γ Γ' : Ct) : Prop := ∀ (σ : L2.St) (G H : Hp) (x : V), Sd K C G σ Γ → Same G H → Dr K C G x d → ∀ Q : L2.St → Hp → Prop, (∀ σ', σ'.length = σ.length → Sd K C G σ' Γ' → (∀ j, j ∉ ts → σ'[j]? = σ[j]?) → Q σ' H) → g x σ H Q
/-- a def's promise: R ds d says that from ds it gives d -/
def spD (R : List Dt → Dt → Prop) : Sp := fun vs H Q _ => ∃ G ds d, Same G H ∧ Drs K C G vs ds ∧ R ds d ∧ ∀ v G2 H2, Gr G H G2 H2 → Dr K C G2 v d → Q v H2
end
section
variable {K : Fg} {C : Addr} {Γ Γ' : Ct} {d d1 d2 e : Dt} {ds es : List Dt} {ta tb tc te : TE} {tt tu : TT} {tr : TA} {i j k : Int} {b c : Bool}
theorem WkS.w {J : It} {Ga : Hp} (w : WkS K C J ds Ga) : WkD K C J ds Ga := w.mono (fun _ h => h) fun i H x H' _ _ ⟨e, d, h1, h2⟩ G' s1 s2 => by
  subst e
  exact ⟨d, G', h1, Gr.refl s2, h2.go s1⟩
theorem EvS.w {wi : TI} (h : EvS K C wi Γ ds) : EvW K C wi Γ ds := fun σ G H sd s R q => h σ G H sd s R fun J G2 H2 g w => q J G2 H2 g w.w
theorem EvN.asD (h : EvN K C te Γ ds) : EvD K C te Γ (.lst ds) := fun σ G H sd s Q q => h σ G H sd s Q fun p xs G2 H2 g hp dv => q _ G2 H2 g (.lst (SqL.of hp) dv)
theorem EvD.eq (h : EvD K C te Γ d) (e1 : d = e) : EvD K C te Γ e := e1 ▸ h
theorem EvN.eq (h : EvN K C te Γ ds) (e1 : ds = es) : EvN K C te Γ es := e1 ▸ h
theorem EvB.eq (h : EvB K C tt Γ b) (e1 : b = c) : EvB K C tt Γ c := e1 ▸ h
theorem ed_var {n : Nat} (h : Γ[n]? = some (some d)) : EvD K C (tVar n) Γ d := fun σ G H sd s Q q => by
  obtain ⟨v, h1, h2⟩ := sd.at_ n d h
  exact ⟨v, h1, q v G H (Gr.refl s) h2⟩
theorem ed_int : EvD K C (tC (.int i)) Γ (.int i) := fun _ G H _ s _ q => q _ G H (Gr.refl s) (.int i)
theorem ed_bl : EvD K C (tC (.bl b)) Γ (.bl b) := fun _ G H _ s _ q => q _ G H (Gr.refl s) (.bl b)
theorem ed_c {v : V} (h : ∀ G, Dr K C G v d) : EvD K C (tC v) Γ d := fun _ G H _ s _ q => q _ G H (Gr.refl s) (h G)
theorem ed_op {r : R2} (ha : EvD K C ta Γ d1) (hb : EvD K C tb Γ d2) (hr : ∀ G H x y, Same G H → Dr K C G x d1 → Dr K C G y d2 → ∀ Q : VK, (∀ v G2 H2, Gr G H G2 H2 → Dr K C G2 v d → Q v H2) → r x y H Q) : EvD K C (tOp r ta tb) Γ d := fun σ G H sd s Q q =>
  ha σ G H sd s _ fun x G2 H2 g2 dx => hb σ G2 H2 (sd.go g2.gg) g2.gh _ fun y G3 H3 g3 dy => hr G3 H3 x y g3.gh (dx.go g3.gg) dy Q fun v G4 H4 g4 dv => q v G4 H4 ((g2.trans g3).trans g4) dv
theorem ed_I0 {g : Int → Int → V} (hz : ∀ G, Dr K C G (g i j) d) (ha : EvD K C ta Γ (.int i)) (hb : EvD K C tb Γ (.int j)) : EvD K C (tOp (rI0 g) ta tb) Γ d := ed_op ha hb fun G H x y s dx dy Q q => by
  cases dx
  cases dy
  exact ⟨i, j, rfl, rfl, q _ G H (Gr.refl s) (hz G)⟩
theorem ed_I {cc : Int → Int → Prop} {g : Int → Int → V} (hz : ∀ G, Dr K C G (g i j) d) (ha : EvD K C ta Γ (.int i)) (hb : EvD K C tb Γ (.int j)) (hc : cc i j) : EvD K C (tOp (rI cc g) ta tb) Γ d := ed_op ha hb fun G H x y s dx dy Q q => by
  cases dx
  cases dy
  exact ⟨i, j, rfl, rfl, hc, q _ G H (Gr.refl s) (hz G)⟩
theorem ed_add (ha : EvD K C ta Γ (.int i)) (hb : EvD K C tb Γ (.int j)) : EvD K C (tOp (rI0 fun i j => .int (i + j)) ta tb) Γ (.int (i + j)) := ed_I0 (fun _ => .int _) ha hb
theorem ed_sub (ha : EvD K C ta Γ (.int i)) (hb : EvD K C tb Γ (.int j)) : EvD K C (tOp (rI0 fun i j => .int (i - j)) ta tb) Γ (.int (i - j)) := ed_I0 (fun _ => .int _) ha hb
theorem ed_lt (ha : EvD K C ta Γ (.int i)) (hb : EvD K C tb Γ (.int j)) : EvD K C (tOp (rI0 fun i j => .bl (decide (i < j))) ta tb) Γ (.bl (decide (i < j))) := ed_I0 (fun _ => .bl _) ha hb
theorem ed_le (ha : EvD K C ta Γ (.int i)) (hb : EvD K C tb Γ (.int j)) : EvD K C (tOp (rI0 fun i j => .bl (decide (i ≤ j))) ta tb) Γ (.bl (decide (i ≤ j))) := ed_I0 (fun _ => .bl _) ha hb
theorem ed_gt (ha : EvD K C ta Γ (.int i)) (hb : EvD K C tb Γ (.int j)) : EvD K C (tOp (rI0 fun i j => .bl (decide (j < i))) ta tb) Γ (.bl (decide (j < i))) := ed_I0 (fun _ => .bl _) ha hb
theorem ed_ge (ha : EvD K C ta Γ (.int i)) (hb : EvD K C tb Γ (.int j)) : EvD K C (tOp (rI0 fun i j => .bl (decide (j ≤ i))) ta tb) Γ (.bl (decide (j ≤ i))) := ed_I0 (fun _ => .bl _) ha hb
theorem ed_mul (ha : EvD K C ta Γ (.int i)) (hb : EvD K C tb Γ (.int j)) (hc : CMul i j) : EvD K C (tOp (rI CMul fun i j => .int (i * j)) ta tb) Γ (.int (i * j)) := ed_I (fun _ => .int _) ha hb hc
theorem ed_div (ha : EvD K C ta Γ (.int i)) (hb : EvD K C tb Γ (.int j)) (hc : CDivW i j) : EvD K C (tOp (rI CDivW fun i j => .int (i / j)) ta tb) Γ (.int (i / j)) := ed_I (fun _ => .int _) ha hb hc
theorem ed_mod (ha : EvD K C ta Γ (.int i)) (hb : EvD K C tb Γ (.int j)) (hc : 0 < j) : EvD K C (tOp (rI (fun _ j => 0 < j) fun i j => .int (i % j)) ta tb) Γ (.int (i % j)) := ed_I (cc := fun _ j => 0 < j) (fun _ => .int _) ha hb hc
theorem ed_shl (ha : EvD K C ta Γ (.int i)) (hb : EvD K C tb Γ (.int j)) (hc : CPow i j) : EvD K C (tOp (rI CPow fun i j => .int (i * 2 ^ j.toNat)) ta tb) Γ (.int (i * 2 ^ j.toNat)) := ed_I (fun _ => .int _) ha hb hc
theorem ed_shr (ha : EvD K C ta Γ (.int i)) (hb : EvD K C tb Γ (.int j)) (hc : 0 ≤ j) : EvD K C (tOp (rI (fun _ j => 0 ≤ j) fun i j => .int (i / 2 ^ j.toNat)) ta tb) Γ (.int (i / 2 ^ j.toNat)) := ed_I (cc := fun _ j => 0 ≤ j) (fun _ => .int _) ha hb hc
theorem ed_neg (ha : EvD K C ta Γ (.int i)) : EvD K C (tUn (rU fun i => .int (-i)) ta) Γ (.int (-i)) := fun σ G H sd s Q q => ha σ G H sd s _ fun x G2 H2 g2 dx => by
  cases dx
  exact ⟨i, rfl, q _ G2 H2 g2 (.int _)⟩
theorem ed_bits (ha : EvD K C ta Γ (.int i)) : EvD K C (tBits ta) Γ (.int (Builtin.Int.intBits i : Nat)) := fun σ G H sd s Q q => ha σ G H sd s _ fun x G2 H2 g2 dx => by
  cases dx
  exact ⟨i, rfl, q _ G2 H2 g2 (.int _)⟩
theorem ed_chain {r r' : R2} (ha : EvD K C ta Γ (.int i)) (hb : EvD K C tb Γ (.int j)) (hc : EvD K C tc Γ (.int k))
    (hr : ∀ G H, Same G H → ∀ Q : VK, Q (.bl b) H → r (.int i) (.int j) H Q) (hr' : ∀ G H, Same G H → ∀ Q : VK, Q (.bl c) H → r' (.int j) (.int k) H Q) : EvD K C (tChain r r' ta tb tc) Γ (.bl (b && c)) := fun σ G H sd s Q q =>
  ha σ G H sd s _ fun x G2 H2 g2 dx => hb σ G2 H2 (sd.go g2.gg) g2.gh _ fun y G3 H3 g3 dy => by
    cases dx
    cases dy
    refine hr G3 H3 g3.gh _ ⟨b, rfl, ?_⟩
    have g := g2.trans g3
    cases b with
    | true =>
      show tc σ H3 _
      exact hc σ G3 H3 (sd.go g.gg) g.gh _ fun z G4 H4 g4 dz => by
        cases dz
        exact hr' G4 H4 g4.gh _ (q _ G4 H4 (g.trans g4) (.bl c))
    | false => exact q _ G3 H3 g (.bl false)
theorem ed_chainLe (ha : EvD K C ta Γ (.int i)) (hb : EvD K C tb Γ (.int j)) (hc : EvD K C tc Γ (.int k)) : EvD K C (tChain (rI0 fun i j => .bl (decide (i ≤ j))) (rI0 fun i j => .bl (decide (i ≤ j))) ta tb tc) Γ (.bl (decide (i ≤ j) && decide (j ≤ k))) :=
  ed_chain ha hb hc (fun _ _ _ _ q => ⟨_, _, rfl, rfl, q⟩) fun _ _ _ _ q => ⟨_, _, rfl, rfl, q⟩
theorem ed_chainLtLe (ha : EvD K C ta Γ (.int i)) (hb : EvD K C tb Γ (.int j)) (hc : EvD K C tc Γ (.int k)) : EvD K C (tChain (rI0 fun i j => .bl (decide (i < j))) (rI0 fun i j => .bl (decide (i ≤ j))) ta tb tc) Γ (.bl (decide (i < j) && decide (j ≤ k))) :=
  ed_chain ha hb hc (fun _ _ _ _ q => ⟨_, _, rfl, rfl, q⟩) fun _ _ _ _ q => ⟨_, _, rfl, rfl, q⟩
theorem ed_andV (ha : EvD K C ta Γ (.bl b)) (hb : EvD K C tb Γ (.bl c)) : EvD K C (tAndV ta tb) Γ (.bl (b && c)) := fun σ G H sd s Q q => ha σ G H sd s _ fun x G2 H2 g2 dx => by
  cases dx
  refine ⟨b, rfl, ?_⟩
  cases b with
  | true =>
    show tb σ H2 Q
    exact hb σ G2 H2 (sd.go g2.gg) g2.gh _ fun y G3 H3 g3 dy => q y G3 H3 (g2.trans g3) dy
  | false =>
    show Q (.bl false) H2
    exact q _ G2 H2 g2 (.bl false)
theorem eb_v (ha : EvD K C ta Γ (.bl b)) : EvB K C (tB ta) Γ b := fun σ G H sd s Q q => ha σ G H sd s _ fun x G2 H2 g2 dx => by
  cases dx
  exact ⟨b, rfl, q G2 H2 g2⟩
theorem eb_t (ha : EvD K C ta Γ (.bl b)) : EvB K C (tTest ta) Γ b := fun σ G H sd s Q q => ha σ G H sd s _ fun x G2 H2 g2 dx => by
  cases dx
  exact ⟨b, rfl, q G2 H2 g2⟩
theorem eb_and (ha : EvB K C tt Γ b) (hb : EvB K C tu Γ c) : EvB K C (tAnd tt tu) Γ (b && c) := fun σ G H sd s Q q => ha σ G H sd s _ fun G2 H2 g2 => by
  cases b with
  | true =>
    show tu σ H2 Q
    exact hb σ G2 H2 (sd.go g2.gg) g2.gh _ fun G3 H3 g3 => q G3 H3 (g2.trans g3)
  | false =>
    show Q false H2
    exact q G2 H2 g2
theorem eb_or (ha : EvB K C tt Γ b) (hb : EvB K C tu Γ c) : EvB K C (tOr tt tu) Γ (b || c) := fun σ G H sd s Q q => ha σ G H sd s _ fun G2 H2 g2 => by
  cases b with
  | true =>
    show Q true H2
    exact q G2 H2 g2
  | false =>
    show tu σ H2 Q
    exact hb σ G2 H2 (sd.go g2.gg) g2.gh _ fun G3 H3 g3 => q G3 H3 (g2.trans g3)
theorem eb_not (ha : EvB K C tt Γ b) : EvB K C (tNot tt) Γ (!b) := fun σ G H sd s Q q => ha σ G H sd s _ fun G2 H2 g2 => q G2 H2 g2
theorem ed_if (ht : EvB K C tt Γ b) (ha : b = true → EvD K C ta Γ d) (hb : b = false → EvD K C tb Γ d) : EvD K C (tIf tt ta tb) Γ d := fun σ G H sd s Q q => ht σ G H sd s _ fun G2 H2 g2 => by
  cases b with
  | true =>
    show ta σ H2 Q
    exact ha rfl σ G2 H2 (sd.go g2.gg) g2.gh _ fun y G3 H3 g3 dy => q y G3 H3 (g2.trans g3) dy
  | false =>
    show tb σ H2 Q
    exact hb rfl σ G2 H2 (sd.go g2.gg) g2.gh _ fun y G3 H3 g3 dy => q y G3 H3 (g2.trans g3) dy
theorem ea_nil : EvA K C tNil Γ [] := fun _ G H _ s _ q => q [] G H (Gr.refl s) .nil
theorem ea_cons (ha : EvD K C ta Γ d) (hr : EvA K C tr Γ ds) : EvA K C (tCons ta tr) Γ (d :: ds) := fun σ G H sd s Q q => ha σ G H sd s _ fun x G2 H2 g2 dx =>
  hr σ G2 H2 (sd.go g2.gg) g2.gh _ fun vs G3 H3 g3 dv => q _ G3 H3 (g2.trans g3) (.cons (dx.go g3.gg) dv)
theorem sz_le {n : Nat} (h : n ≤ 1000000) : n ≤ sizeLine := Nat.le_trans h (by decide)
theorem ed_tup (h : EvA K C tr Γ ds) (hl : ds.length ≤ 1000000 := by first | exact (by decide) | simp) : EvD K C (tTup tr) Γ (.tup ds) := fun σ G H sd s Q q => h σ G H sd s _ fun vs G2 H2 g2 dv =>
  ⟨sz_le (by rw [dv.len]; exact hl), fun p hp => q _ (upd G2 p (.tup vs)) _ (g2.trans (Gr.new g2.gh hp)) (.tup (SqT.of upd_same) (dv.go (same_new (g2.gh.free hp))))⟩
theorem en_lst (h : EvA K C tr Γ ds) (hl : ds.length ≤ 1000000 := by first | exact (by decide) | simp) : EvN K C (tLst tr) Γ ds := fun σ G H sd s Q q => h σ G H sd s _ fun vs G2 H2 g2 dv =>
  ⟨sz_le (by rw [dv.len]; exact hl), fun p hp => q p vs (upd G2 p (.lst vs)) _ (g2.trans (Gr.new g2.gh hp)) upd_same (dv.go (same_new (g2.gh.free hp)))⟩
theorem ed_ixT {n : Nat} (hn : ds[n]? = some d) (ha : EvD K C ta Γ (.tup ds)) (hb : EvD K C tb Γ (.int (n : Int))) : EvD K C (tOp (rIxT K) ta tb) Γ d := ed_op ha hb fun G H x y s dx dy Q q => by
  cases dx with
  | tup p r =>
    cases dy
    obtain ⟨v, hv, dv⟩ := r.at_ hn
    exact ⟨_, _, _, v, rfl, rfl, sqt_go s p, atI_nat hv, q v G H (Gr.refl s) dv⟩
theorem ed_at0 (ha : EvD K C ta Γ (.tup (d :: ds))) : EvD K C (tOp (rIxT K) ta (tC (.int 0))) Γ d := ed_ixT (n := 0) rfl ha ed_int
theorem ed_at1 (ha : EvD K C ta Γ (.tup (e :: d :: ds))) : EvD K C (tOp (rIxT K) ta (tC (.int 1))) Γ d := ed_ixT (n := 1) rfl ha ed_int
theorem ed_ixL {n : Nat} (hn : ds[n]? = some d) (ha : EvD K C ta Γ (.lst ds)) (hb : EvD K C tb Γ (.int (n : Int))) : EvD K C (tOp (rIxL K) ta tb) Γ d := ed_op ha hb fun G H x y s dx dy Q q => by
  cases dx with
  | lst p r =>
    cases dy
    obtain ⟨v, hv, dv⟩ := r.at_ hn
    exact ⟨_, _, _, v, rfl, rfl, s.seq p, atI_nat hv, q v G H (Gr.refl s) dv⟩
/-- list + list -/
theorem en_cat (ha : EvN K C ta Γ ds) (hb : EvN K C tb Γ es) (hl : ds.length + es.length ≤ 1000000) : EvN K C (tOp rCat ta tb) Γ (ds ++ es) := fun σ G H sd s Q q =>
  ha σ G H sd s _ fun p xs G2 H2 g2 hp dx => hb σ G2 H2 (sd.go g2.gg) g2.gh _ fun p' ys G3 H3 g3 hp' dy =>
    ⟨p, p', xs, ys, rfl, rfl, g3.gh _ _ (g3.gg _ _ hp), g3.gh _ _ hp', sz_le (by rw [dx.len, dy.len]; exact hl), fun r hr =>
      q r (xs ++ ys) (upd G3 r (.lst (xs ++ ys))) _ ((g2.trans g3).trans (Gr.new g3.gh hr)) upd_same (((dx.go g3.gg).app dy).go (same_new (g3.gh.free hr)))⟩

/-! built-ins -/
theorem ed_cb {r : List V → Hp → VK → Prop} (h : EvA K C tr Γ ds) (hr : ∀ G H vs, Same G H → Drs K C G vs ds → ∀ Q : VK, (∀ v G2 H2, Gr G H G2 H2 → Dr K C G2 v d → Q v H2) → r vs H Q) : EvD K C (tCB r tr) Γ d := fun σ G H sd s Q q =>
  h σ G H sd s _ fun vs G2 H2 g2 dv => hr G2 H2 vs g2.gh dv Q fun v G3 H3 g3 d3 => q v G3 H3 (g2.trans g3) d3
theorem ed_abs (h : EvD K C ta Γ (.int i)) : EvD K C (tCB (fun xs H Q => ∃ i, xs = [.int i] ∧ Q (.int (if i < 0 then -i else i)) H) (tCons ta tNil)) Γ (.int (if i < 0 then -i else i)) := ed_cb (ea_cons h ea_nil) fun G H vs s dv Q q => by
  cases dv with
  | cons p r =>
    cases p
    cases r
    exact ⟨i, rfl, q _ G H (Gr.refl s) (.int _)⟩
theorem ed_max2 (h : EvD K C ta Γ (.int i)) (h' : EvD K C tb Γ (.int j)) : EvD K C (tCB (fun xs H Q => ∃ i j, xs = [.int i, .int j] ∧ Q (.int (if j > i then j else i)) H) (tCons ta (tCons tb tNil))) Γ (.int (if j > i then j else i)) := ed_cb (ea_cons h (ea_cons h' ea_nil)) fun G H vs s dv Q q => by
  cases dv with
  | cons p r =>
    cases r with
    | cons p' r =>
      cases p
      cases p'
      cases r
      exact ⟨i, j, rfl, q _ G H (Gr.refl s) (.int _)⟩
theorem ed_min2 (h : EvD K C ta Γ (.int i)) (h' : EvD K C tb Γ (.int j)) : EvD K C (tCB (fun xs H Q => ∃ i j, xs = [.int i, .int j] ∧ Q (.int (if j < i then j else i)) H) (tCons ta (tCons tb tNil))) Γ (.int (if j < i then j else i)) := ed_cb (ea_cons h (ea_cons h' ea_nil)) fun G H vs s dv Q q => by
  cases dv with
  | cons p r =>
    cases r with
    | cons p' r =>
      cases p
      cases p'
      cases r
      exact ⟨i, j, rfl, q _ G H (Gr.refl s) (.int _)⟩
theorem ed_len (h : EvD K C ta Γ (.lst ds)) : EvD K C (tCB (fun xs H Q => ∃ p ys, xs = [.ref p] ∧ (SqL K H p ys ∨ SqT K H p ys) ∧ Q (.int ys.length) H) (tCons ta tNil)) Γ (.int (ds.length : Int)) := ed_cb (ea_cons h ea_nil) fun G H vs s dv Q q => by
  cases dv with
  | cons p r =>
    cases r
    cases p with
    | lst p r => exact ⟨_, _, rfl, .inl (s.seq p), q _ G H (Gr.refl s) (by rw [r.len]; exact .int _)⟩
theorem ed_sum {ns : List Int} (h : EvD K C ta Γ (.lst (ns.map Dt.int))) : EvD K C (tCB (rSum K) (tCons ta tNil)) Γ (.int ns.sum) := ed_cb (ea_cons h ea_nil) fun G H vs s dv Q q => by
  cases dv with
  | cons p r =>
    cases r
    cases p with
    | lst p r =>
      rw [drs_ints r] at p
      exact ⟨_, ns, rfl, s.seq p, q _ G H (Gr.refl s) (.int _)⟩
theorem ed_all {ns : List Bool} (h : EvD K C ta Γ (.lst (ns.map Dt.bl))) : EvD K C (tCB (rAll K) (tCons ta tNil)) Γ (.bl (ns.all id)) := ed_cb (ea_cons h ea_nil) fun G H vs s dv Q q => by
  cases dv with
  | cons p r =>
    cases r
    cases p with
    | lst p r =>
      rw [drs_bls r] at p
      exact ⟨_, ns, rfl, s.seq p, q _ G H (Gr.refl s) (.bl _)⟩
theorem sort_one {a b : List Int} (h : a.Perm b) (s : a.Pairwise (· ≤ ·)) : a = b.mergeSort (fun x y => decide (x ≤ y)) := by
  have h2 : (b.mergeSort (fun x y => decide (x ≤ y))).Pairwise (fun x y => x ≤ y) := by
    have := List.pairwise_mergeSort (le := fun (x y : Int) => decide (x ≤ y)) (fun x y z p q => by simp at *; omega) (fun x y => by simp; omega) b
    exact this.imp fun p => of_decide_eq_true p
  exact List.Perm.eq_of_pairwise (fun x y _ _ p q => Int.le_antisymm p q) s h2 (h.trans (List.mergeSort_perm b _).symm)
theorem en_sorted {ns : List Int} (h : EvD K C ta Γ (.lst (ns.map Dt.int))) : EvN K C (tCB (rSortedI K) (tCons ta tNil)) Γ ((ns.mergeSort (fun x y => decide (x ≤ y))).map Dt.int) := fun σ G H sd s Q q =>
  (ea_cons h ea_nil) σ G H sd s _ fun vs G2 H2 g2 dv => by
    cases dv with
    | cons p r =>
      cases r
      cases p with
      | lst p r =>
        rw [drs_ints r] at p
        refine ⟨_, ns, rfl, g2.gh.seq p, fun ns' b perm rising hb => ?_⟩
        rw [sort_one perm rising]
        exact q b _ (upd G2 b _) _ (g2.trans (Gr.new g2.gh hb)) upd_same (ints_drs _)
theorem ed_in0 {ns : List Int} (ha : EvD K C ta Γ (.int i)) (h : EvD K C tb Γ (.lst (ns.map Dt.int))) : EvD K C (tOp (rIn K false) ta tb) Γ (.bl (ns.any fun n => n == i)) := ed_op ha h fun G H x y s dx dy Q q => by
  cases dx
  cases dy with
  | lst p r =>
    rw [drs_ints r] at p
    refine ⟨_, _, rfl, .inl (s.seq p), rfl, ?_, ?_⟩
    · rw [List.all_map]
      exact List.all_eq_true.mpr fun _ _ => rfl
    · refine q _ G H (Gr.refl s) ?_
      have e : inV (.int i) (ns.map V.int) = ns.any fun n => n == i := by
        unfold inV
        rw [List.any_map]
        rfl
      show Dr K C G (.bl (if false = true then _ else inV (.int i) (ns.map V.int))) _
      rw [if_neg Bool.false_ne_true, e]
      exact .bl _

/-! calls, fields -/
theorem ed_call {R : List Dt → Dt → Prop} {E : XK} (h : EvA K C tr Γ ds) (r : R ds d) : EvD K C (tCall (spD K C R) [] E tr) Γ d := fun σ G H sd s Q q =>
  h σ G H sd s _ fun vs G2 H2 g2 dv => ⟨G2, ds, d, g2.gh, by rw [List.append_nil]; exact dv, r, fun v G3 H3 g3 d3 => q v G3 H3 (g2.trans g3) d3⟩
theorem ed_meth {R : List Dt → Dt → Prop} {E : XK} {m : Str} {w h : Int} {f : List Int} (hm : ∀ w h fa, (fF w h fa).lookup m = none) (ha : EvD K C ta Γ (.frm w h f)) (hr : EvA K C tr Γ ds) (r : R (.frm w h f :: ds) d) :
    EvD K C (tMeth C m (spD K C R) [] E ta tr) Γ d := fun σ G H sd s Q q =>
  ha σ G H sd s _ fun x G2 H2 g2 dx => by
    have dx' := dx
    cases dx with
    | frm p p' =>
      refine ⟨_, _, _, rfl, g2.gh _ _ p, hm _ _ _, hr σ G2 H2 (sd.go g2.gg) g2.gh _ fun vs G3 H3 g3 dv => ?_⟩
      exact ⟨G3, _, d, g3.gh, .cons (dx'.go g3.gg) (by rw [List.append_nil]; exact dv), r, fun v G4 H4 g4 d4 => q v G4 H4 ((g2.trans g3).trans g4) d4⟩
/-- what the top has written of the class -/
structure Txt (K : Fg) (C : Addr) : Prop where
  cl : Cls K C
  nW : NoAttr K C "wide"
  nH : NoAttr K C "high"
  nN : NoAttr K C "numbers"
theorem fF_wide (w h : Int) (fa : Addr) : (fF w h fa).lookup ("wide" : Str) = some (.int w) := by rfl
theorem fF_high (w h : Int) (fa : Addr) : (fF w h fa).lookup ("high" : Str) = some (.int h) := by rfl
theorem fF_numbers (w h : Int) (fa : Addr) : (fF w h fa).lookup ("numbers" : Str) = some (.ref fa) := by rfl
theorem ed_wide {w h : Int} {f : List Int} (T : Txt K C) (ha : EvD K C ta Γ (.frm w h f)) : EvD K C (tFld K ta "wide") Γ (.int w) := fun σ G H sd s Q q =>
  ha σ G H sd s _ fun x G2 H2 g2 dx => by
    cases dx with
    | frm p p' => exact ⟨_, _, _, _, _, rfl, g2.gh _ _ p, T.cl, T.nW, fF_wide _ _ _, q _ G2 H2 g2 (.int w)⟩
theorem ed_high {w h : Int} {f : List Int} (T : Txt K C) (ha : EvD K C ta Γ (.frm w h f)) : EvD K C (tFld K ta "high") Γ (.int h) := fun σ G H sd s Q q =>
  ha σ G H sd s _ fun x G2 H2 g2 dx => by
    cases dx with
    | frm p p' => exact ⟨_, _, _, _, _, rfl, g2.gh _ _ p, T.cl, T.nH, fF_high _ _ _, q _ G2 H2 g2 (.int h)⟩
theorem ed_numbers {w h : Int} {f : List Int} (T : Txt K C) (ha : EvD K C ta Γ (.frm w h f)) : EvD K C (tFld K ta "numbers") Γ (.lst (f.map Dt.int)) := fun σ G H sd s Q q =>
  ha σ G H sd s _ fun x G2 H2 g2 dx => by
    cases dx with
    | frm p p' => exact ⟨_, _, _, _, _, rfl, g2.gh _ _ p, T.cl, T.nN, fF_numbers _ _ _, q _ G2 H2 g2 (.lst p' (ints_drs f))⟩

/-! what is walked -/
theorem es_list (h : EvD K C te Γ (.lst ds)) : EvS K C (iList K te) Γ ds := fun σ G H sd s R q => h σ G H sd s _ fun x G2 H2 g2 dx => by
  cases dx with
  | lst p r =>
    refine ⟨_, rfl, ⟨_, g2.gh.seq p⟩, q _ G2 H2 g2 ?_⟩
    show Walk _ _ _ _
    rw [← r.len]
    exact (walk_list (K := K)).mono (fun H' hs => hs.seq p) fun i H' x H'' hi hs y => ⟨y.1, by
      obtain ⟨d, h1, h2⟩ := r.get y.2
      exact ⟨d, h1, h2⟩⟩
theorem es_tup (h : EvD K C te Γ (.tup ds)) : EvS K C (iTup K te) Γ ds := fun σ G H sd s R q => h σ G H sd s _ fun x G2 H2 g2 dx => by
  cases dx with
  | tup p r =>
    refine ⟨_, rfl, ⟨_, sqt_go g2.gh p⟩, q _ G2 H2 g2 ?_⟩
    show Walk _ _ _ _
    rw [← r.len]
    exact (walk_tup (K := K)).mono (fun H' hs => sqt_go hs p) fun i H' x H'' hi hs y => ⟨y.1, by
      obtain ⟨d, h1, h2⟩ := r.get y.2
      exact ⟨d, h1, h2⟩⟩
def rng (lo : Int) (n : Nat) : List Dt := (List.range n).map fun (t : Nat) => Dt.int (lo + (t : Int))
theorem wk_rng {lo : Int} {n : Nat} {G : Hp} : WkS K C (Itr lo n) (rng lo n) G := by
  show Walk _ _ _ _
  have e : (rng lo n).length = n := by simp [rng]
  rw [e]
  refine (walk_range (lo := lo) (n := n)).mono (fun _ _ => trivial) fun i H x H' hi _ y => ⟨y.1, .int (lo + (i : Int)), ?_, ?_⟩
  · unfold rng
    rw [List.getElem?_map, List.getElem?_range hi]
    rfl
  · rw [y.2]
    exact .int _
theorem es_rng1 {n : Int} (h : EvA K C tr Γ [.int n]) (hn : -(2 ^ 62) ≤ n ∧ n < 2 ^ 62) : EvS K C (iRng1 tr) Γ (rng 0 n.toNat) := fun σ G H sd s R q => h σ G H sd s _ fun vs G2 H2 g2 dv => by
  cases dv with
  | cons p r =>
    cases p
    cases r
    exact ⟨n, rfl, hn.1, hn.2, q _ G2 H2 g2 wk_rng⟩
theorem es_rng2 {lo hi : Int} (h : EvA K C tr Γ [.int lo, .int hi]) (hn : -(2 ^ 62) ≤ lo ∧ lo < 2 ^ 62 ∧ -(2 ^ 62) ≤ hi ∧ hi < 2 ^ 62) : EvS K C (iRng2 tr) Γ (rng lo (hi - lo).toNat) := fun σ G H sd s R q => h σ G H sd s _ fun vs G2 H2 g2 dv => by
  cases dv with
  | cons p r =>
    cases r with
    | cons p' r =>
      cases p
      cases p'
      cases r
      exact ⟨lo, hi, rfl, hn, q _ G2 H2 g2 wk_rng⟩
def rngC (lo c : Int) (n : Nat) : List Dt := (List.range n).map fun (t : Nat) => Dt.int (lo + (t : Int) * c)
theorem es_rng3 {lo hi c : Int} {n : Nat} (h : EvA K C tr Γ [.int lo, .int hi, .int c]) (hn : RgC lo hi c n) : EvS K C (iRng3 tr) Γ (rngC lo c n) := fun σ G H sd s R q => h σ G H sd s _ fun vs G2 H2 g2 dv => by
  cases dv with
  | cons p r =>
    cases r with
    | cons p' r =>
      cases r with
      | cons p'' r =>
        cases p
        cases p'
        cases p''
        cases r
        refine ⟨lo, hi, c, n, rfl, hn, q _ G2 H2 g2 ?_⟩
        show Walk _ _ _ _
        have e : (rngC lo c n).length = n := by simp [rngC]
        rw [e]
        refine (walk_rangeC (lo := lo) (c := c) (n := n)).mono (fun _ _ => trivial) fun i H x H' hi _ y => ⟨y.1, .int (lo + (i : Int) * c), ?_, ?_⟩
        · unfold rngC
          rw [List.getElem?_map, List.getElem?_range hi]
          rfl
        · rw [y.2]
          exact .int _
theorem fits {i : Int} (h : -(2 ^ 62) ≤ i) (h' : i ≤ 2 ^ 62) : Builtin.Range.rangeFitsLong i = true := by
  unfold Builtin.Range.rangeFitsLong
  rw [Bool.and_eq_true]
  exact ⟨decide_eq_true (by omega), decide_eq_true (by omega)⟩
theorem rg_two {n : Nat} (h : n ≤ 1000000) : RgC 0 ((2 * n : Nat) : Int) 2 n := by
  have e : Builtin.Range.rangeSize 0 ((2 * n : Nat) : Int) 2 = (n : Int) := by
    unfold Builtin.Range.rangeSize
    rw [if_pos (by decide)]
    split <;> omega
  refine ⟨by decide, by decide, ?_, e⟩
  unfold Builtin.Range.small
  rw [e, fits (by decide) (by decide), fits (by omega) (by omega), fits (by decide) (by decide), fits (by omega) (by omega)]
  rw [if_pos (by decide), fits (by omega) (by omega), Bool.or_true]
  rfl
theorem rg_three {n : Nat} (h : n ≤ 1000000) : RgC 0 ((3 * n : Nat) : Int) 3 n := by
  have e : Builtin.Range.rangeSize 0 ((3 * n : Nat) : Int) 3 = (n : Int) := by
    unfold Builtin.Range.rangeSize
    rw [if_pos (by decide)]
    split <;> omega
  refine ⟨by decide, by decide, ?_, e⟩
  unfold Builtin.Range.small
  rw [e, fits (by decide) (by decide), fits (by omega) (by omega), fits (by decide) (by decide), fits (by omega) (by omega)]
  rw [if_pos (by decide), fits (by omega) (by omega), Bool.or_true]
  rfl
theorem int_at {l : List Int} {i : Nat} (h : i < l.length) : (l.map Dt.int)[i]? = some (.int (l.getD i 0)) := by
  rw [List.getElem?_map, List.getElem?_eq_getElem h, List.getD_eq_getElem?_getD, List.getElem?_eq_getElem h]
  rfl
theorem take_one {α : Type} {l : List α} {i : Nat} {x : α} (h : l[i]? = some x) : l.take (i + 1) = l.take i ++ [x] := by
  rw [List.take_add_one, h]
  rfl
theorem ew_zip {xs ys : List Dt} (h : EvA K C tr Γ [.lst xs, .lst ys]) : EvW K C (iZip K tr) Γ ((xs.zip ys).map fun p => Dt.tup [p.1, p.2]) := fun σ G H sd s R q => h σ G H sd s _ fun vs G2 H2 g2 dv => by
  cases dv with
  | cons p r =>
    cases r with
    | cons p' r =>
      cases r
      cases p with
      | lst p r =>
        cases p' with
        | lst p' r' =>
          refine ⟨_, _, _, _, rfl, g2.gh.seq p, g2.gh.seq p', q _ G2 H2 g2 ?_⟩
          show Walk _ _ _ _
          refine (Walk.mono (walk_zip (K := K) (a := _) (b := _) (n := ((xs.zip ys).map fun p => Dt.tup [p.1, p.2]).length) (by rw [List.length_map, List.length_zip, ← r.len, ← r'.len])) (fun H' (hs : Same G2 H') => ⟨hs.seq p, hs.seq p'⟩) fun i H' v H'' hi hs y G' s1 s2 => ?_)
          obtain ⟨t, x, z, rfl, ht, rfl, hx, hz⟩ := y
          obtain ⟨d, h1, h2⟩ := r.get hx
          obtain ⟨d', h1', h2'⟩ := r'.get hz
          refine ⟨.tup [d, d'], upd G' t (.tup [x, z]), ?_, Gr.new s2 ht, .tup (SqT.of upd_same) ?_⟩
          · have ez : (xs.zip ys)[i]? = some (d, d') := List.getElem?_zip_eq_some.mpr ⟨h1, h1'⟩
            rw [List.getElem?_map, ez]
            rfl
          · have n1 := same_new (o := .tup [x, z]) (s2.free ht)
            exact .cons ((h2.go s1).go n1) (.cons ((h2'.go s1).go n1) .nil)

/-! targets -/
theorem tg_name {n : Nat} : TgD K C (gName n) [n] d Γ (Γ.set n (some d)) := fun σ G H x sd s dx Q q => q _ (by simp) (sd.put n dx) fun j hj => by
  rw [List.getElem?_set_ne (fun e => hj (by rw [e]; exact List.mem_singleton.mpr rfl))]
theorem tg_two {n m : Nat} : TgD K C (gTup K 2 (gCons (gName n) (gCons (gName m) gNil))) [n, m] (.tup [d1, d2]) Γ ((Γ.set n (some d1)).set m (some d2)) := fun σ G H x sd s dx Q q => by
  cases dx with
  | tup p r =>
    cases r with
    | cons a r =>
      cases r with
      | cons a' r =>
        cases r
        refine ⟨_, _, rfl, sqt_go s p, rfl, _, _, rfl, _, _, rfl, rfl, q _ (by simp) ((sd.put n a).put m a') fun j hj => ?_⟩
        rw [List.getElem?_set_ne (fun e => hj (by simp [e])), List.getElem?_set_ne (fun e => hj (by simp [e]))]
theorem tg_three {n m l : Nat} {d3 : Dt} : TgD K C (gTup K 3 (gCons (gName n) (gCons (gName m) (gCons (gName l) gNil)))) [n, m, l] (.tup [d1, d2, d3]) Γ (((Γ.set n (some d1)).set m (some d2)).set l (some d3)) := fun σ G H x sd s dx Q q => by
  cases dx with
  | tup p r =>
    cases r with
    | cons a r =>
      cases r with
      | cons a' r =>
        cases r with
        | cons a'' r =>
          cases r
          refine ⟨_, _, rfl, sqt_go s p, rfl, _, _, rfl, _, _, rfl, _, _, rfl, rfl, q _ (by simp) (((sd.put n a).put m a').put l a'') fun j hj => ?_⟩
          rw [List.getElem?_set_ne (fun e => hj (by simp [e])), List.getElem?_set_ne (fun e => hj (by simp [e])), List.getElem?_set_ne (fun e => hj (by simp [e]))]

/-! a comprehension without a test -/
theorem en_lc {α : Type} {wi : TI} {g : TG} {vs : List Nat} (l : List α) (mk out : α → Dt) (h : EvW K C wi Γ (l.map mk)) (hl : l.length ≤ 1000000) (Γ2 : α → Ct) (ht : ∀ z, z ∈ l → TgD K C g vs (mk z) (wipeC Γ vs) (Γ2 z))
    (he : ∀ z, z ∈ l → EvD K C te (Γ2 z) (out z)) : EvN K C (tLc wi g tYes te vs) Γ (l.map out) := fun σ G H sd s Q q => h σ G H sd s _ fun J G1 H1 g1 w => fun Da hD => by
  have e1 : (l.map mk).length = l.length := List.length_map ..
  refine lc_it w (fun i H' => ∃ G' xs, Gr G1 H1 G' H' ∧ G' Da = none ∧ H' Da = some (.lst xs) ∧ Drs K C G' xs ((l.map out).take i))
    ⟨G1, [], Gr.aside g1.gh hD, g1.gh.free hD, upd_same, .nil⟩ (fun i H' _ ⟨G', xs, gr, _⟩ => gr.gg.trans gr.gh) ?_ ?_
  · rintro i x H' H2 hi ⟨G', xs, gr, gn, hx, dx⟩ y
    rw [e1] at hi
    obtain ⟨d, G2, hd, g2, dv⟩ := y G' gr.gg gr.gh
    obtain ⟨n2, hx2⟩ := g2.out gn hx
    have hz : l[i]? = some l[i] := List.getElem?_eq_getElem hi
    rw [List.getElem?_map, hz] at hd
    cases Option.some.inj hd
    have gr2 := gr.trans g2
    refine ht l[i] (List.getElem_mem hi) (L2.wipe σ vs) G2 H2 x ((sd.go ((g1.trans gr2).gg)).wipe vs) g2.gh dv _ fun σ2 hlen sd2 hj => ?_
    refine ⟨wipe_back (by rw [hlen, wipe_length]) hj, ?_⟩
    unfold tYes
    dsimp only
    rw [if_pos rfl]
    refine he l[i] (List.getElem_mem hi) σ2 G2 H2 sd2 g2.gh _ fun v G3 H3 g3 dv3 => ?_
    obtain ⟨n3, hx3⟩ := g3.out n2 hx2
    have gr3 := gr2.trans g3
    refine ⟨xs, hx3, ?_, G3, xs ++ [v], gr3.mut hD n3, n3, upd_same, ?_⟩
    · rw [dx.len, List.length_take, List.length_map]
      exact Nat.lt_of_lt_of_le (Nat.lt_of_le_of_lt (Nat.min_le_left _ _) hi) (sz_le hl)
    · have e2 : (l.map out).take (i + 1) = (l.map out).take i ++ [out l[i]] := by
        rw [List.take_add_one, List.getElem?_map, hz]
        rfl
      rw [e2]
      exact ((dx.go g2.gg).go g3.gg).app (.one dv3)
  · rintro H' ⟨G', xs, gr, gn, hx, dx⟩
    rw [e1, List.take_of_length_le (by rw [List.length_map]; exact Nat.le_refl _)] at dx
    exact q Da xs (upd G' Da (.lst xs)) H' (g1.trans (gr.show_ hD gn hx)) upd_same (dx.go (same_new gn))

/-! ### statements: M tells of a list that is kept aside, at a slot, and filled -/
abbrev Mt := Option (Nat × List Dt)
def Aside (K : Fg) (C : Addr) (H0 : Hp) (σ : L2.St) (G H : Hp) : Mt → Prop
  | none => True
  | some (j, ds) => ∃ m xs, σ[j]? = some (some (.ref m)) ∧ H0 m = none ∧ G m = none ∧ H m = some (.lst xs) ∧ Drs K C G xs ds
structure At (K : Fg) (C : Addr) (G0 H0 : Hp) (Γ : Ct) (M : Mt) (σ : L2.St) (G H : Hp) : Prop where
  gr : Gr G0 H0 G H
  sd : Sd K C G σ Γ
  md : Aside K C H0 σ G H M
def mOk : Mt → List Nat → Bool
  | none, _ => true
  | some (j, _), ts => !ts.contains j
theorem Aside.go {H0 : Hp} {σ σ' : L2.St} {G H G1 H1 : Hp} {ts : List Nat} : ∀ {M : Mt}, Aside K C H0 σ G H M → Gr G H G1 H1 → mOk M ts = true → (∀ j, j ∉ ts → σ'[j]? = σ[j]?) → Aside K C H0 σ' G1 H1 M
  | none, _, _, _, _ => trivial
  | some (j, ds), ⟨m, xs, h1, h2, h3, h4, h5⟩, g, hm, hs => by
    obtain ⟨g1, g2⟩ := g.out h3 h4
    have hj : j ∉ ts := fun z => by
      have q : (!ts.contains j) = true := hm
      rw [List.contains_iff_mem.mpr z] at q
      cases q
    exact ⟨m, xs, (hs j hj).trans h1, h2, g1, g2, h5.go g.gg⟩
theorem At.grow {G0 H0 : Hp} {M : Mt} {σ : L2.St} {G H G1 H1 : Hp} (a : At K C G0 H0 Γ M σ G H) (g : Gr G H G1 H1) : At K C G0 H0 Γ M σ G1 H1 :=
  ⟨a.gr.trans g, a.sd.go g.gg, a.md.go (ts := []) g (by
    cases M with
    | none => rfl
    | some p => rfl) fun _ _ => rfl⟩
/-- from what is told of slots, and of the list aside, the statements reach what D wants -/
def OkS (K : Fg) (C : Addr) (G0 H0 : Hp) (D : Ends) (t : TS) (Γ : Ct) (M : Mt) : Prop := ∀ σ G H, At K C G0 H0 Γ M σ G H → t D σ H
/-- what comes next is reached -/
def Nx (K : Fg) (C : Addr) (G0 H0 : Hp) (P : L2.St → Hp → Prop) (Γ : Ct) (M : Mt) : Prop := ∀ σ G H, At K C G0 H0 Γ M σ G H → P σ H
/-- the def's value is d -/
def Rt (K : Fg) (C : Addr) (G0 H0 : Hp) (Q : VK) (d : Dt) : Prop := ∀ v G H, Gr G0 H0 G H → Dr K C G v d → Q v H
section
variable {G0 H0 : Hp} {D : Ends} {M : Mt} {tz ts tw : TS} {g : TG} {n : Nat} {l : List Nat}
theorem q_seq (h : OkS K C G0 H0 { D with nx := tz D } ts Γ M) : OkS K C G0 H0 D (tSeq ts tz) Γ M := h
theorem nx_ok (h : OkS K C G0 H0 D ts Γ M) : Nx K C G0 H0 (ts D) Γ M := h
theorem s_next (h : Nx K C G0 H0 D.nx Γ M) : OkS K C G0 H0 D tNext Γ M := h
theorem s_to (h : EvD K C te Γ d) (hg : TgD K C g l d Γ Γ') (hm : mOk M l = true) (k : Nx K C G0 H0 D.nx Γ' M) : OkS K C G0 H0 D (tAsg te g) Γ M := fun σ G H a =>
  h σ G H a.sd a.gr.gh _ fun v G1 H1 g1 dv => hg σ G1 H1 v (a.sd.go g1.gg) g1.gh dv _ fun σ' _ sd' hs => k σ' G1 H1 ⟨a.gr.trans g1, sd', a.md.go g1 hm hs⟩
theorem q_to (h : EvD K C te Γ d) (hg : TgD K C g l d Γ Γ') (hm : mOk M l = true) (k : OkS K C G0 H0 D tz Γ' M) : OkS K C G0 H0 D (tSeq (tAsg te g) tz) Γ M := s_to (D := { D with nx := tz D }) h hg hm k
theorem s_set (h : EvD K C te Γ d) (hm : mOk M [n] = true) (k : Nx K C G0 H0 D.nx (Γ.set n (some d)) M) : OkS K C G0 H0 D (tAsg te (gName n)) Γ M := s_to h tg_name hm k
theorem q_set (h : EvD K C te Γ d) (hm : mOk M [n] = true) (k : OkS K C G0 H0 D tz (Γ.set n (some d)) M) : OkS K C G0 H0 D (tSeq (tAsg te (gName n)) tz) Γ M := s_set (D := { D with nx := tz D }) h hm k
theorem s_two {m : Nat} (h : EvA K C tr Γ [d1, d2]) (hm : mOk M [n, m] = true) (k : Nx K C G0 H0 D.nx ((Γ.set n (some d1)).set m (some d2)) M) : OkS K C G0 H0 D (tPar n m tr) Γ M := fun σ G H a =>
  h σ G H a.sd a.gr.gh _ fun vs G1 H1 g1 dv => by
    cases dv with
    | cons p r =>
      cases r with
      | cons p' r =>
        cases r
        refine ⟨_, _, rfl, k _ G1 H1 ⟨a.gr.trans g1, ((a.sd.go g1.gg).put n p).put m p', a.md.go g1 hm fun j hj => ?_⟩⟩
        rw [List.getElem?_set_ne (fun e => hj (by simp [e])), List.getElem?_set_ne (fun e => hj (by simp [e]))]
theorem q_two {m : Nat} (h : EvA K C tr Γ [d1, d2]) (hm : mOk M [n, m] = true) (k : OkS K C G0 H0 D tz ((Γ.set n (some d1)).set m (some d2)) M) : OkS K C G0 H0 D (tSeq (tPar n m tr) tz) Γ M := s_two (D := { D with nx := tz D }) h hm k
theorem s_aug (hx : Γ[n]? = some (some (.int i))) (h : EvD K C te Γ (.int j)) (hm : mOk M [n] = true) (k : Nx K C G0 H0 D.nx (Γ.set n (some (.int (i + j)))) M) : OkS K C G0 H0 D (tAug n te (ipI fun i j => i + j)) Γ M := fun σ G H a => by
  obtain ⟨v, h1, h2⟩ := a.sd.at_ n _ hx
  cases h2
  refine ⟨_, h1, h σ G H a.sd a.gr.gh _ fun v G1 H1 g1 dv => ?_⟩
  cases dv
  refine ⟨i, j, rfl, rfl, k _ G1 H1 ⟨a.gr.trans g1, (a.sd.go g1.gg).put n (.int _), a.md.go g1 hm fun j hj => ?_⟩⟩
  rw [List.getElem?_set_ne (fun e => hj (by simp [e]))]
theorem q_aug (hx : Γ[n]? = some (some (.int i))) (h : EvD K C te Γ (.int j)) (hm : mOk M [n] = true) (k : OkS K C G0 H0 D tz (Γ.set n (some (.int (i + j)))) M) : OkS K C G0 H0 D (tSeq (tAug n te (ipI fun i j => i + j)) tz) Γ M := s_aug (D := { D with nx := tz D }) hx h hm k
theorem s_ret (h : EvD K C te Γ d) (k : Rt K C G0 H0 D.rt d) : OkS K C G0 H0 D (tRet te) Γ M := fun σ G H a => h σ G H a.sd a.gr.gh _ fun v G1 H1 g1 dv => k v G1 H1 (a.gr.trans g1) dv
theorem s_retM (k : Rt K C G0 H0 D.rt (.lst ds)) : OkS K C G0 H0 D (tRet (tVar n)) Γ (some (n, ds)) := fun σ G H a => by
  obtain ⟨m, xs, h1, h2, h3, h4, h5⟩ := a.md
  exact ⟨_, h1, k _ (upd G m (.lst xs)) H (a.gr.show_ h2 h3 h4) (.lst (SqL.of upd_same) (h5.go (same_new h3)))⟩
theorem s_if (ht : EvB K C tt Γ b) (h1 : b = true → OkS K C G0 H0 D ts Γ M) (h2 : b = false → OkS K C G0 H0 D tw Γ M) : OkS K C G0 H0 D (tIfS tt ts tw) Γ M := fun σ G H a => ht σ G H a.sd a.gr.gh _ fun G1 H1 g1 => by
  cases b with
  | true =>
    show ts D σ H1
    exact h1 rfl σ G1 H1 (a.grow g1)
  | false =>
    show tw D σ H1
    exact h2 rfl σ G1 H1 (a.grow g1)
theorem q_if (ht : EvB K C tt Γ b) (h1 : b = true → OkS K C G0 H0 { D with nx := tz D } ts Γ M) (h2 : b = false → OkS K C G0 H0 { D with nx := tz D } tw Γ M) : OkS K C G0 H0 D (tSeq (tIfS tt ts tw) tz) Γ M := s_if (D := { D with nx := tz D }) ht h1 h2
/-- an if without an else -/
theorem q_when (ht : EvB K C tt Γ b) (h1 : b = true → OkS K C G0 H0 { D with nx := tz D } ts Γ M) (h2 : b = false → OkS K C G0 H0 D tz Γ M) : OkS K C G0 H0 D (tSeq (tIfS tt ts tNext) tz) Γ M := q_if ht h1 fun e => h2 e
/-- a list aside is made -/
theorem q_new (h : EvA K C tr Γ ds) (k : OkS K C G0 H0 D tz (Γ.set n none) (some (n, ds))) (hn : n < Γ.length) (hl : ds.length ≤ 1000000 := by first | exact (by decide) | simp) : OkS K C G0 H0 D (tSeq (tAsg (tLst tr) (gName n)) tz) Γ none := fun σ G H a =>
  h σ G H a.sd a.gr.gh _ fun vs G1 H1 g1 dv => ⟨sz_le (by rw [dv.len]; exact hl), fun p hp => by
    have g := a.gr.trans g1
    refine k _ G1 (upd H1 p (.lst vs)) ⟨g.trans (Gr.aside g1.gh hp), (a.sd.go g1.gg).unput n _, p, vs, ?_, g.hh.free hp, g1.gh.free hp, upd_same, dv⟩
    exact List.getElem?_set_self (by rw [a.sd.len]; exact hn)⟩
theorem s_app (h : EvD K C te Γ d) (hl : ds.length < 1000000) (k : Nx K C G0 H0 D.nx Γ (some (n, ds ++ [d]))) : OkS K C G0 H0 D (tDrop (tBM K "list" rAppend (tVar n) (tCons te tNil))) Γ (some (n, ds)) := fun σ G H a => by
  obtain ⟨m, xs, h1, h2, h3, h4, h5⟩ := a.md
  refine ⟨_, h1, .inl ⟨rfl, _, SqL.of h4⟩, h σ G H a.sd a.gr.gh _ fun v G1 H1 g1 dv => ?_⟩
  obtain ⟨n1, x1⟩ := g1.out h3 h4
  refine ⟨m, xs, v, rfl, rfl, x1, Nat.lt_of_lt_of_le (by rw [h5.len]; exact hl) (sz_le (Nat.le_refl _)), k σ G1 _ ⟨(a.gr.trans g1).mut h2 n1, a.sd.go g1.gg, m, _, h1, h2, n1, upd_same, (h5.go g1.gg).app (.one dv)⟩⟩
theorem q_app (h : EvD K C te Γ d) (hl : ds.length < 1000000) (k : OkS K C G0 H0 D tz Γ (some (n, ds ++ [d]))) : OkS K C G0 H0 D (tSeq (tDrop (tBM K "list" rAppend (tVar n) (tCons te tNil))) tz) Γ (some (n, ds)) := s_app (D := { D with nx := tz D }) h hl k
theorem s_ext (h : EvN K C te Γ es) (hl : ds.length + es.length ≤ 1000000) (k : Nx K C G0 H0 D.nx Γ (some (n, ds ++ es))) : OkS K C G0 H0 D (tDrop (tBM K "list" rExtend (tVar n) (tCons te tNil))) Γ (some (n, ds)) := fun σ G H a => by
  obtain ⟨m, xs, h1, h2, h3, h4, h5⟩ := a.md
  refine ⟨_, h1, .inl ⟨rfl, _, SqL.of h4⟩, h σ G H a.sd a.gr.gh _ fun p ys G1 H1 g1 hp dv => ?_⟩
  obtain ⟨n1, x1⟩ := g1.out h3 h4
  refine ⟨m, p, xs, ys, rfl, rfl, x1, g1.gh _ _ hp, sz_le (by rw [h5.len, dv.len]; exact hl), k σ G1 _ ⟨(a.gr.trans g1).mut h2 n1, a.sd.go g1.gg, m, _, h1, h2, n1, upd_same, (h5.go g1.gg).app dv⟩⟩
theorem q_ext (h : EvN K C te Γ es) (hl : ds.length + es.length ≤ 1000000) (k : OkS K C G0 H0 D tz Γ (some (n, ds ++ es))) : OkS K C G0 H0 D (tSeq (tDrop (tBM K "list" rExtend (tVar n) (tCons te tNil))) tz) Γ (some (n, ds)) := s_ext (D := { D with nx := tz D }) h hl k
theorem gr_base {Ga Ha G H : Hp} (a : Gr G0 H0 Ga Ha) (b : Gr Ga H0 G H) : Gr G0 H0 G H := ⟨b.hh, a.gg.trans b.gg, b.gh, fun x n => by
  rcases b.fr x n with m | m
  · exact a.fr x m
  · exact Or.inr m⟩
/-- a for: P tells at each turn what the slots hold -/
theorem s_for {wi : TI} (h : EvS K C wi Γ ds) (P : Nat → Ct → Mt → Prop) (h0 : P 0 Γ M)
    (hb : ∀ (Ga : Hp) (i : Nat) (d : Dt) (Γ1 : Ct) (M1 : Mt) (N : L2.St → Hp → Prop), (∀ e, Rt K C G0 H0 D.rt e → Rt K C Ga H0 D.rt e) → ds[i]? = some d → P i Γ1 M1 → (∀ Γ2 M2, P (i + 1) Γ2 M2 → Nx K C Ga H0 N Γ2 M2) →
      ∃ l Γ3, TgD K C g l d Γ1 Γ3 ∧ mOk M1 l = true ∧ OkS K C Ga H0 { D with nx := N, ct := N, bk := D.nx } ts Γ3 M1)
    (hd : ∀ Γ1 M1, P ds.length Γ1 M1 → Nx K C G0 H0 D.nx Γ1 M1) : OkS K C G0 H0 D (tFor wi g ts) Γ M := fun σ G H a => h σ G H a.sd a.gr.gh _ fun J Ga Ha ga w => by
  have a1 := a.grow ga
  have hr : ∀ e, Rt K C G0 H0 D.rt e → Rt K C Ga H0 D.rt e := fun e r v G H g dv => r v G H (gr_base a1.gr g) dv
  have a2 : At K C Ga H0 Γ M σ Ga Ha := ⟨⟨a1.gr.hh, Same.refl _, a1.gr.gh, fun _ n => Or.inl n⟩, a1.sd, a1.md⟩
  refine for_it w (fun i σ' H' => ∃ Γ1 M1 G', P i Γ1 M1 ∧ At K C Ga H0 Γ1 M1 σ' G' H') ⟨Γ, M, Ga, h0, a2⟩ (fun i σ' H' _ ⟨_, _, G', _, a'⟩ => a'.gr.gg.trans a'.gr.gh) ?_ ?_
  · rintro i x σ' H' H2 hi ⟨Γ1, M1, G', p, a'⟩ ⟨rfl, d, hd1, dx⟩
    obtain ⟨l, Γ3, hg, hm, ok⟩ := hb Ga i d Γ1 M1 (fun σ2 H2 => ∃ Γ1 M1 G', P (i + 1) Γ1 M1 ∧ At K C Ga H0 Γ1 M1 σ2 G' H2) hr hd1 p (fun Γ2 M2 p2 σ2 G2 H2 a2 => ⟨Γ2, M2, G2, p2, a2⟩)
    refine hg σ' G' _ x a'.sd a'.gr.gh (dx.go a'.gr.gg) _ fun σ2 _ sd2 hs => ?_
    exact ok σ2 G' _ ⟨a'.gr, sd2, a'.md.go (Gr.refl a'.gr.gh) hm hs⟩
  · rintro σ' H' ⟨Γ1, M1, G', p, a'⟩
    exact hd Γ1 M1 p σ' G' H' ⟨gr_base a1.gr a'.gr, a'.sd, a'.md⟩
theorem q_for {wi : TI} (h : EvS K C wi Γ ds) (P : Nat → Ct → Mt → Prop) (h0 : P 0 Γ M)
    (hb : ∀ (Ga : Hp) (i : Nat) (d : Dt) (Γ1 : Ct) (M1 : Mt) (N : L2.St → Hp → Prop), (∀ e, Rt K C G0 H0 D.rt e → Rt K C Ga H0 D.rt e) → ds[i]? = some d → P i Γ1 M1 → (∀ Γ2 M2, P (i + 1) Γ2 M2 → Nx K C Ga H0 N Γ2 M2) →
      ∃ l Γ3, TgD K C g l d Γ1 Γ3 ∧ mOk M1 l = true ∧ OkS K C Ga H0 { D with nx := N, ct := N, bk := tz D } ts Γ3 M1)
    (hd : ∀ Γ1 M1, P ds.length Γ1 M1 → OkS K C G0 H0 D tz Γ1 M1) : OkS K C G0 H0 D (tSeq (tFor wi g ts) tz) Γ M := s_for (D := { D with nx := tz D }) h P h0 hb hd
/-- a for whose turns are told by one state each -/
theorem q_forS {wi : TI} (h : EvS K C wi Γ ds) (Γs : Nat → Ct) (Ms : Nat → Mt) (h0 : Γs 0 = Γ) (h0' : Ms 0 = M)
    (hb : ∀ (Ga : Hp) (i : Nat) (d : Dt) (N : L2.St → Hp → Prop), (∀ e, Rt K C G0 H0 D.rt e → Rt K C Ga H0 D.rt e) → ds[i]? = some d → i < ds.length → Nx K C Ga H0 N (Γs (i + 1)) (Ms (i + 1)) →
      ∃ l Γ3, TgD K C g l d (Γs i) Γ3 ∧ mOk (Ms i) l = true ∧ OkS K C Ga H0 { D with nx := N, ct := N, bk := tz D } ts Γ3 (Ms i))
    (hd : OkS K C G0 H0 D tz (Γs ds.length) (Ms ds.length)) : OkS K C G0 H0 D (tSeq (tFor wi g ts) tz) Γ M :=
  q_for h (fun i Γ1 M1 => Γ1 = Γs i ∧ M1 = Ms i) ⟨h0.symm, h0'.symm⟩ (fun Ga i d Γ1 M1 N hr hi p hn => by
    obtain ⟨rfl, rfl⟩ := p
    exact hb Ga i d N hr hi (List.getElem?_eq_some_iff.mp hi).1 (hn _ _ ⟨rfl, rfl⟩)) (fun Γ1 M1 p => by
    obtain ⟨rfl, rfl⟩ := p
    exact hd)
theorem s_while (I : Nat → Ct → Mt → Prop) (m0 : Nat) (h0 : I m0 Γ M)
    (hb : ∀ m Γ1 M1, I m Γ1 M1 → ∃ b, EvB K C tt Γ1 b ∧ (b = true → ∀ N : L2.St → Hp → Prop, (∀ m' Γ2 M2, m' < m → I m' Γ2 M2 → Nx K C G0 H0 N Γ2 M2) → OkS K C G0 H0 { D with nx := N, ct := N, bk := D.nx } ts Γ1 M1) ∧ (b = false → Nx K C G0 H0 D.nx Γ1 M1)) :
    OkS K C G0 H0 D (tWhile tt ts) Γ M := fun σ G H a =>
  ⟨fun m σ' H' => ∃ Γ1 M1 G', I m Γ1 M1 ∧ At K C G0 H0 Γ1 M1 σ' G' H', ⟨m0, Γ, M, G, h0, a⟩, fun m σ' H' ⟨Γ1, M1, G', p, a'⟩ => by
    obtain ⟨b, e, h1, h2⟩ := hb m Γ1 M1 p
    refine e σ' G' H' a'.sd a'.gr.gh _ fun G2 H2 g2 => ?_
    cases b with
    | true =>
      rw [if_pos rfl]
      exact ⟨fun σ3 H3 => ∃ m', m' < m ∧ ∃ Γ1 M1 G', I m' Γ1 M1 ∧ At K C G0 H0 Γ1 M1 σ3 G' H3, fun _ _ q => q, h1 rfl _ (fun m' Γ2 M2 hm p2 σ3 G3 H3 a3 => ⟨m', hm, Γ2, M2, G3, p2, a3⟩) σ' G2 H2 (a'.grow g2)⟩
    | false =>
      rw [if_neg Bool.false_ne_true]
      exact h2 rfl σ' G2 H2 (a'.grow g2)⟩
theorem q_while (I : Nat → Ct → Mt → Prop) (m0 : Nat) (h0 : I m0 Γ M)
    (hb : ∀ m Γ1 M1, I m Γ1 M1 → ∃ b, EvB K C tt Γ1 b ∧ (b = true → ∀ N : L2.St → Hp → Prop, (∀ m' Γ2 M2, m' < m → I m' Γ2 M2 → Nx K C G0 H0 N Γ2 M2) → OkS K C G0 H0 { D with nx := N, ct := N, bk := tz D } ts Γ1 M1) ∧ (b = false → OkS K C G0 H0 D tz Γ1 M1)) :
    OkS K C G0 H0 D (tSeq (tWhile tt ts) tz) Γ M := s_while (D := { D with nx := tz D }) I m0 h0 hb
end
end
/-- a def keeps its promise -/
theorem okD {P : Program} {w : World} {K : Fg} {C : Addr} {mg : Str → Option Value} {base : Heap} {x qual : Str} {st : Stmt} {f : Addr} {fd : FuncData} {N ps : List Str} {k : Nat} {R : List Dt → Dt → Prop} (F : Fun K x qual st f fd) (S : FnScope N ps (defScope st))
    (len : ∀ ds d, R ds d → ds.length = ps.length)
    (body : ∀ (cdv : Value) (A : Around) (outer : List Env) (s : Shared) (H : Hp) (E : XK), Room k (A.deeper (envOfC qual (defScope st) s.heap.objs.size f cdv)) →
      ∃ t, PSs (cxOf CX0 P w K mg base N qual (defScope st) f cdv A outer s H E).nox (defBody st) t ∧
        ∀ ds d, R ds d → ∀ (G0 : Hp) (Q : VK), Rt K C G0 H Q d → OkS K C G0 H { nx := fun _ H' => Q .non H', rt := Q } t (ds.map some ++ List.replicate (N.length - ds.length) none) none) :
    FnOk P w K mg base CX0 (k + 1) f fd ps (spD K C R) := by
  refine F.ok S (fun vs H Q E h => ?_) (fun cdv A outer s H vs Q E hr h => ?_)
  · obtain ⟨G, ds, d, _, dv, r, _⟩ := h
    rw [dv.len, len ds d r]
  · obtain ⟨G, ds, d, sm, dv, r, q⟩ := h
    obtain ⟨t, h1, h2⟩ := body cdv A outer s H E hr
    refine ⟨t, h1, h2 ds d r G Q (fun v G2 H2 g dv2 => q v G2 H2 g dv2) _ G H ⟨Gr.refl sm, sd_start dv, trivial⟩⟩
end Pd

namespace MFrame
/-! ### the columns (rows) that may have something no farther than far -/
def lo (x far : Int) : Int := if (x - far) / 64 > 0 then (x - far) / 64 else 0
def hi (n : Nat) (x far : Int) : Int := if (x + far) / 64 + 1 < (n : Int) then (x + far) / 64 + 1 else n
def c0 (x far : Int) : Nat := (lo x far).toNat
def cn (n : Nat) (x far : Int) : Nat := (hi n x far - lo x far).toNat
def pln (w h : Nat) (x y far : Int) : List (Nat × Nat) := (List.range (cn h y far)).flatMap fun i => (List.range (cn w x far)).map fun j => (c0 x far + j, c0 y far + i)
theorem lo_nn (x far : Int) : 0 ≤ lo x far := by
  unfold lo
  split <;> omega
theorem lo_c0 (x far : Int) : lo x far = (c0 x far : Int) := by
  have := lo_nn x far
  unfold c0
  omega
theorem hi_le (n : Nat) (x far : Int) : hi n x far ≤ n := by
  unfold hi
  split <;> omega
theorem box_ok (n : Nat) (x far : Int) : cn n x far = 0 ∨ c0 x far + cn n x far ≤ n := by
  have h1 := lo_nn x far
  have h2 := hi_le n x far
  unfold cn c0
  omega
theorem outside {n : Nat} {x far : Int} {c : Nat} (hc : c < n) (h : ¬ (c0 x far ≤ c ∧ c < c0 x far + cn n x far)) : 64 * ((c : Int) + 1) ≤ x - far ∨ x + far < 64 * (c : Int) := by
  unfold c0 cn lo hi at h
  split at h <;> split at h <;> omega
theorem sq_lt {r d : Int} (hr : 0 ≤ r) (h : r < d) : r * r < d * d := by
  have h1 := Int.mul_le_mul (show r + 1 ≤ d by omega) (show r + 1 ≤ d by omega) (by omega) (by omega)
  have e : (r + 1) * (r + 1) = r * r + 2 * r + 1 := by
    rw [Int.add_mul, Int.mul_add]
    omega
  omega
theorem far_sq {d r : Int} (hr : 0 ≤ r) (h : r < d ∨ d < -r) : r * r < d * d := by
  rcases h with h | h
  · exact sq_lt hr h
  · rw [← Int.neg_mul_neg d d]
    exact sq_lt hr (by omega)
theorem sq_nn (d : Int) : 0 ≤ d * d := by
  rcases Int.le_total 0 d with h | h
  · exact Int.mul_nonneg h h
  · rw [← Int.neg_mul_neg d d]
    exact Int.mul_nonneg (by omega) (by omega)
/-- a step s of a place that lies outside, is too far: one way alone -/
theorem step_far {n : Nat} {x r : Int} {c : Nat} (hr : 0 ≤ r) (hc : c < n) (h : ¬ (c0 x r ≤ c ∧ c < c0 x r + cn n x r)) {s : Nat} (hs : s < 64) : r * r < ((64 * c + s : Nat) - x) * ((64 * c + s : Nat) - x) := by
  have q := outside hc h
  refine far_sq hr ?_
  omega
theorem sum2_far {a b m : Int} (h : m < a) (hb : 0 ≤ b) : ¬ a + b ≤ m := by omega
/-! ### lists over a box -/
section
variable {α : Type}
theorem range_add (a b : Nat) : List.range (a + b) = List.range a ++ (List.range b).map fun j => a + j := by
  induction b with
  | zero => simp
  | succ b ih => rw [← Nat.add_assoc, List.range_succ, ih, List.range_succ, List.map_append, List.append_assoc]; rfl
theorem flat_nil {β : Type} {l : List β} {F : β → List α} (h : ∀ x, x ∈ l → F x = []) : l.flatMap F = [] := by
  induction l with
  | nil => rfl
  | cons a r ih => rw [List.flatMap_cons, h a List.mem_cons_self, ih fun x hx => h x (List.mem_cons_of_mem _ hx)]; rfl
theorem restrict {n a k : Nat} {F : Nat → List α} (hk : k = 0 ∨ a + k ≤ n) (h : ∀ c, c < n → ¬ (a ≤ c ∧ c < a + k) → F c = []) : (List.range n).flatMap F = (List.range k).flatMap fun j => F (a + j) := by
  by_cases h0 : k = 0
  · subst h0
    exact flat_nil fun x hx => h x (List.mem_range.mp hx) (by omega)
  · obtain ⟨m, hm⟩ : ∃ m, n = a + k + m := ⟨n - (a + k), by omega⟩
    subst hm
    rw [range_add, range_add, List.flatMap_append, List.flatMap_append, flat_nil (l := List.range a) fun x hx => h x (by have := List.mem_range.mp hx; omega) (by have := List.mem_range.mp hx; omega), List.nil_append, List.flatMap_map, List.flatMap_map]
    rw [flat_nil (l := List.range m) fun x hx => h (a + k + x) (by have := List.mem_range.mp hx; omega) (by omega), List.append_nil]
theorem flat_congr {β : Type} {l : List β} {F G : β → List α} (h : ∀ x, x ∈ l → F x = G x) : l.flatMap F = l.flatMap G := by
  induction l with
  | nil => rfl
  | cons a r ih => rw [List.flatMap_cons, List.flatMap_cons, h a List.mem_cons_self, ih fun x hx => h x (List.mem_cons_of_mem _ hx)]
/-- row by row: what lies outside the box gives nothing -/
theorem over_box {w h : Nat} {x y r : Int} {F : Nat → Nat → List α} (hF : ∀ c q, c < w → q < h → (¬ (c0 x r ≤ c ∧ c < c0 x r + cn w x r) ∨ ¬ (c0 y r ≤ q ∧ q < c0 y r + cn h y r)) → F c q = []) :
    ((List.range h).flatMap fun q => (List.range w).flatMap fun c => F c q) = (pln w h x y r).flatMap fun p => F p.1 p.2 := by
  rw [restrict (box_ok h y r) fun q hq hn => flat_nil fun c hc => hF c q (List.mem_range.mp hc) hq (Or.inr hn)]
  unfold pln
  rw [List.flatMap_assoc]
  refine flat_congr fun i hi => ?_
  rw [List.flatMap_map]
  have hi' := List.mem_range.mp hi
  have hb := box_ok h y r
  exact restrict (box_ok w x r) fun c hc hn => hF c _ hc (by omega) (Or.inl hn)
theorem pln_mem {w h : Nat} {x y r : Int} {p : Nat × Nat} (hp : p ∈ pln w h x y r) : p.1 < w ∧ p.2 < h := by
  unfold pln at hp
  rw [List.mem_flatMap] at hp
  obtain ⟨i, hi, hp⟩ := hp
  rw [List.mem_map] at hp
  obtain ⟨j, hj, rfl⟩ := hp
  have := List.mem_range.mp hi
  have := List.mem_range.mp hj
  have := box_ok w x r
  have := box_ok h y r
  dsimp only
  omega
theorem range_mul (w h : Nat) : List.range (w * h) = (List.range h).flatMap fun q => (List.range w).map fun c => q * w + c := by
  induction h with
  | zero => rfl
  | succ h ih =>
    rw [Nat.mul_succ, range_add, ih, List.range_succ, List.flatMap_append, List.flatMap_cons, List.flatMap_nil, List.append_nil, Nat.mul_comm w h]
theorem over_all {w h : Nat} (F : Nat → Nat → Nat → List α) : ((List.range (w * h)).flatMap fun i => F i (i % w) (i / w)) = (List.range h).flatMap fun q => (List.range w).flatMap fun c => F (q * w + c) c q := by
  rw [range_mul, List.flatMap_assoc]
  refine flat_congr fun q _ => ?_
  rw [List.flatMap_map]
  refine flat_congr fun c hc => ?_
  have hc := List.mem_range.mp hc
  have e1 : (q * w + c) % w = c := by rw [Nat.mul_comm, Nat.mul_add_mod, Nat.mod_eq_of_lt hc]
  have e2 : (q * w + c) / w = q := by rw [Nat.mul_comm, Nat.mul_add_div (by omega), Nat.div_eq_of_lt hc, Nat.add_zero]
  rw [e1, e2]
theorem map_flat {β : Type} (f : β → α) : ∀ l : List β, l.map f = l.flatMap fun x => [f x]
  | [] => rfl
  | a :: r => by rw [List.map_cons, List.flatMap_cons, map_flat f r]; rfl
theorem filt_flat {β : Type} (f : β → Option α) : ∀ l : List β, l.filterMap f = l.flatMap fun x => (f x).toList
  | [] => rfl
  | a :: r => by
    rw [List.flatMap_cons, ← filt_flat f r, List.filterMap_cons]
    cases f a <;> rfl
end
/-- a sum over a list with what is 0 left out -/
def nz (g : Nat) : List Nat := if g = 0 then [] else [g]
theorem nz_sum (g : Nat) : (nz g).sum = g := by
  unfold nz
  split
  · rename_i h; rw [h]; rfl
  · simp
theorem sum_nz {β : Type} (g : β → Nat) : ∀ l : List β, (l.map g).sum = (l.flatMap fun x => nz (g x)).sum
  | [] => rfl
  | a :: r => by rw [List.map_cons, List.sum_cons, List.flatMap_cons, List.sum_append, nz_sum, sum_nz g r]
/-- a sum over all places is that over the places near -/
theorem sum_box {w h : Nat} {x y r : Int} (g : Nat → Nat → Nat) (hg : ∀ c q, c < w → q < h → (¬ (c0 x r ≤ c ∧ c < c0 x r + cn w x r) ∨ ¬ (c0 y r ≤ q ∧ q < c0 y r + cn h y r)) → g c q = 0) :
    (Sh67.each w h g).sum = ((pln w h x y r).map fun p => g p.1 p.2).sum := by
  rw [sum_nz (fun p : Nat × Nat => g p.1 p.2) (pln w h x y r), ← over_box (F := fun c q => nz (g c q)) fun c q hc hq hn => by
    show nz (g c q) = []
    rw [hg c q hc hq hn]
    rfl]
  unfold Sh67.each
  have e : ∀ l : List Nat, (l.flatMap fun q => (List.range w).map fun c => g c q).sum = (l.flatMap fun q => (List.range w).flatMap fun c => nz (g c q)).sum := fun l => by
    induction l with
    | nil => rfl
    | cons a r ih => rw [List.flatMap_cons, List.flatMap_cons, List.sum_append, List.sum_append, ih, sum_nz (fun c => g c a)]
  exact e _
/-! ### an aperture -/
theorem part_far {w h : Nat} {x y r : Int} (hr : 0 ≤ r) {c q : Nat} (hc : c < w) (hq : q < h) (hn : ¬ (c0 x r ≤ c ∧ c < c0 x r + cn w x r) ∨ ¬ (c0 y r ≤ q ∧ q < c0 y r + cn h y r)) : Sh67.part x y r c q = 0 := by
  unfold Sh67.part
  rw [List.length_eq_zero_iff, List.filter_eq_nil_iff]
  intro p hp
  have hp1 : p.1 < 64 ∧ p.2 < 64 := by
    have : ∀ p, p ∈ Sh67.points → p.1 < 64 ∧ p.2 < 64 := by decide
    exact this p hp
  dsimp only
  intro z
  have z := of_decide_eq_true z
  have n1 := sq_nn (((64 * c + p.1 : Nat) : Int) - x)
  have n2 := sq_nn (((64 * q + p.2 : Nat) : Int) - y)
  rcases hn with hn | hn
  · have := step_far hr hc hn hp1.1
    omega
  · have := step_far hr hq hn hp1.2
    omega
/-! ### a place's points, counted by the columns first -/
def sqs (c : Nat) (x : Int) : List Int := [8, 24, 40, 56].map fun (s : Nat) => (((64 * c + s : Nat) : Int) - x) * (((64 * c + s : Nat) : Int) - x)
def cnt1 (ds : List Int) (m one : Int) : Nat := (ds.filter fun o => decide (one + o ≤ m)).length
def cnt (as ds : List Int) (m : Int) : Nat := (as.map (cnt1 ds m)).sum
theorem len_filter {β : Type} (p : β → Bool) : ∀ l : List β, (l.filter p).length = (l.map fun x => if p x = true then 1 else 0).sum
  | [] => rfl
  | a :: r => by
    rw [List.filter_cons, List.map_cons, List.sum_cons, ← len_filter p r]
    split
    · rw [List.length_cons]; omega
    · omega
theorem part_is (x y r : Int) (c q : Nat) : cnt (sqs c x) (sqs q y) (r * r) = Sh67.part x y r c q := by
  have e : Sh67.part x y r c q = (Sh67.points.map fun p => if decide ((((64 * c + p.1 : Nat) : Int) - x) * (((64 * c + p.1 : Nat) : Int) - x) + (((64 * q + p.2 : Nat) : Int) - y) * (((64 * q + p.2 : Nat) : Int) - y) ≤ r * r) = true then 1 else 0).sum := by
    unfold Sh67.part
    exact len_filter _ _
  rw [e]
  unfold cnt
  have e2 : ∀ one, cnt1 (sqs q y) (r * r) one = ((sqs q y).map fun o => if decide (one + o ≤ r * r) = true then 1 else 0).sum := fun one => len_filter _ _
  rw [show cnt1 (sqs q y) (r * r) = fun one => ((sqs q y).map fun o => if decide (one + o ≤ r * r) = true then 1 else 0).sum from funext e2]
  generalize hg : (fun (a b : Nat) => if decide ((((64 * c + a : Nat) : Int) - x) * (((64 * c + a : Nat) : Int) - x) + (((64 * q + b : Nat) : Int) - y) * (((64 * q + b : Nat) : Int) - y) ≤ r * r) = true then 1 else 0) = g
  have h1 : ((sqs c x).map fun one => ((sqs q y).map fun o => if decide (one + o ≤ r * r) = true then 1 else 0).sum).sum = (g 8 8 + (g 8 24 + (g 8 40 + (g 8 56 + 0)))) + ((g 24 8 + (g 24 24 + (g 24 40 + (g 24 56 + 0)))) + ((g 40 8 + (g 40 24 + (g 40 40 + (g 40 56 + 0)))) + ((g 56 8 + (g 56 24 + (g 56 40 + (g 56 56 + 0)))) + 0))) := by
    rw [← hg]
    rfl
  have h2 : (Sh67.points.map fun p => if decide ((((64 * c + p.1 : Nat) : Int) - x) * (((64 * c + p.1 : Nat) : Int) - x) + (((64 * q + p.2 : Nat) : Int) - y) * (((64 * q + p.2 : Nat) : Int) - y) ≤ r * r) = true then 1 else 0).sum = (g 8 8 + (g 24 8 + (g 40 8 + (g 56 8 + (g 8 24 + (g 24 24 + (g 40 24 + (g 56 24 + (g 8 40 + (g 24 40 + (g 40 40 + (g 56 40 + (g 8 56 + (g 24 56 + (g 40 56 + (g 56 56 + 0)))))))))))))))) := by
    rw [← hg]
    rfl
  rw [h1, h2]
  omega
theorem part_le (x y r : Int) (c q : Nat) : Sh67.part x y r c q ≤ 16 := by
  unfold Sh67.part
  exact Nat.le_trans (List.length_filter_le _ _) (by decide)
/-- an aperture by the places near -/
def light (fn : List Nat) (w : Nat) (x y r : Int) (l : List (Nat × Nat)) : Nat := (l.map fun p => Sh67.part x y r p.1 p.2 * fn.getD (w * p.2 + p.1) 0).sum
def many (x y r : Int) (l : List (Nat × Nat)) : Nat := (l.map fun p => Sh67.part x y r p.1 p.2).sum
theorem arr_get (fn : List Nat) (i : Nat) : fn.toArray.getD i 0 = fn.getD i 0 := by
  rw [Array.getD_eq_getD_getElem?, List.getElem?_toArray, List.getD_eq_getElem?_getD]
theorem each_map {α β : Type} (w h : Nat) (f : Nat → Nat → α) (g : α → β) : (Sh67.each w h f).map g = Sh67.each w h fun c q => g (f c q) := by
  unfold Sh67.each
  rw [List.map_flatMap]
  refine flat_congr fun q _ => ?_
  rw [List.map_map]
  rfl
theorem aperture_is {w h : Nat} {x y r : Int} (hr : 0 ≤ r) (fn : List Nat) : Sh67.aperture w h fn x y r = (light fn w x y r (pln w h x y r), many x y r (pln w h x y r)) := by
  unfold Sh67.aperture
  dsimp only
  rw [each_map, each_map]
  dsimp only
  rw [sum_box (x := x) (y := y) (r := r), sum_box (x := x) (y := y) (r := r)]
  · unfold light many
    congr 1
    congr 1
    apply List.map_congr_left
    intro p _
    rw [arr_get, Nat.mul_comm p.2 w]
  · exact fun c q hc hq hn => part_far hr hc hq hn
  · intro c q hc hq hn
    rw [part_far hr hc hq hn, Nat.zero_mul]
end MFrame

namespace MRing
open MFrame
/-- a place's middle, in 64ths -/
def mid (p : Nat × Nat) : Int × Int := (((64 * p.1 + 32 : Nat) : Int), ((64 * p.2 + 32 : Nat) : Int))
def sqd (a b : Int × Int) : Int := (a.1 - b.1) * (a.1 - b.1) + (a.2 - b.2) * (a.2 - b.2)
/-- what a place gives to a ring -/
def inRing (fn : List Nat) (w : Nat) (x y a b : Int) (p : Nat × Nat) : List Nat := if a * a < sqd (mid p) (x, y) ∧ sqd (mid p) (x, y) ≤ b * b then [fn.getD (w * p.2 + p.1) 0] else []
theorem sqd_far {w h : Nat} {x y r : Int} (hr : 0 ≤ r) {c q : Nat} (hc : c < w) (hq : q < h) (hn : ¬ (c0 x r ≤ c ∧ c < c0 x r + cn w x r) ∨ ¬ (c0 y r ≤ q ∧ q < c0 y r + cn h y r)) : ¬ sqd (mid (c, q)) (x, y) ≤ r * r := by
  unfold sqd mid
  dsimp only
  have n1 := sq_nn (((64 * c + 32 : Nat) : Int) - x)
  have n2 := sq_nn (((64 * q + 32 : Nat) : Int) - y)
  rcases hn with hn | hn
  · have := step_far (s := 32) hr hc hn (by decide)
    omega
  · have := step_far (s := 32) hr hq hn (by decide)
    omega
theorem ring_is {w h : Nat} {x y a b : Int} (hb : 0 ≤ b) (fn : List Nat) : Sh67.ring w h fn x y a b = (pln w h x y b).flatMap (inRing fn w x y a b) := by
  unfold Sh67.ring
  dsimp only
  rw [filt_flat]
  have e := over_all (w := w) (h := h) (α := Nat) fun i c q => ((if a * a < sqd (mid (c, q)) (x, y) ∧ sqd (mid (c, q)) (x, y) ≤ b * b then some (fn.toArray.getD i 0) else none : Option Nat)).toList
  refine e.trans ?_
  rw [over_box (x := x) (y := y) (r := b) (F := fun c q => ((if a * a < sqd (mid (c, q)) (x, y) ∧ sqd (mid (c, q)) (x, y) ≤ b * b then some (fn.toArray.getD (q * w + c) 0) else none : Option Nat)).toList)]
  · refine flat_congr fun p _ => ?_
    unfold inRing
    split
    · rw [arr_get, Nat.mul_comm p.2 w]
      rfl
    · rfl
  · intro c q hc hq hn
    rw [if_neg fun z => sqd_far hb hc hq hn z.2]
    rfl
/-- the middle one, as the numbers are told by ints -/
theorem sort_nat (l : List Nat) : (Sh67Neutral.ints l).mergeSort (fun x y => decide (x ≤ y)) = Sh67Neutral.ints (l.mergeSort fun a b => decide (a ≤ b)) := by
  have h1 : (Sh67Neutral.ints (l.mergeSort fun a b => decide (a ≤ b))).Perm ((Sh67Neutral.ints l).mergeSort (fun x y => decide (x ≤ y))) :=
    ((List.mergeSort_perm l _).map _).trans (List.mergeSort_perm (Sh67Neutral.ints l) _).symm
  have h2 : (Sh67Neutral.ints (l.mergeSort fun a b => decide (a ≤ b))).Pairwise (fun x y => x ≤ y) := by
    unfold Sh67Neutral.ints
    rw [List.pairwise_map]
    have := List.pairwise_mergeSort (le := fun (x y : Nat) => decide (x ≤ y)) (fun x y z p q => by simp at *; omega) (fun x y => by simp; omega) l
    exact this.imp fun p => Int.ofNat_le.mpr (of_decide_eq_true p)
  have h3 : ((Sh67Neutral.ints l).mergeSort (fun x y => decide (x ≤ y))).Pairwise (fun x y => x ≤ y) := by
    have := List.pairwise_mergeSort (le := fun (x y : Int) => decide (x ≤ y)) (fun x y z p q => by simp at *; omega) (fun x y => by simp; omega) (Sh67Neutral.ints l)
    exact this.imp fun p => of_decide_eq_true p
  exact (List.Perm.eq_of_pairwise (fun x y _ _ p q => Int.le_antisymm p q) h2 h3 h1).symm
theorem median_nil : Sh67.median [] = 0 := by
  unfold Sh67.median Sh67.num
  simp
theorem sorted_len (l : List Nat) : (l.mergeSort fun a b => decide (a ≤ b)).length = l.length := List.length_mergeSort _
theorem ring_len {w h : Nat} {x y a b : Int} (fn : List Nat) : (Sh67.ring w h fn x y a b).length ≤ w * h := by
  unfold Sh67.ring
  refine Nat.le_trans (List.length_filterMap_le _ _) ?_
  rw [List.length_range]
  exact Nat.le_refl _
theorem flat_le {α β : Type} (F : α → List β) (h : ∀ x, (F x).length ≤ 1) : ∀ l : List α, (l.flatMap F).length ≤ l.length
  | [] => Nat.le_refl _
  | a :: r => by
    rw [List.flatMap_cons, List.length_append, List.length_cons]
    have := h a
    have := flat_le F h r
    omega
theorem in_le (fn : List Nat) (w : Nat) (x y a b : Int) (p : Nat × Nat) : (inRing fn w x y a b p).length ≤ 1 := by
  unfold inRing
  split <;> simp
theorem pln_len (w h : Nat) (x y r : Int) : (pln w h x y r).length ≤ w * h := by
  have f : ∀ (k n : Nat) (F : Nat → Nat → Nat × Nat), ((List.range n).flatMap fun i => (List.range k).map fun j => F i j).length = k * n := fun k n F => by
    induction n with
    | zero => rfl
    | succ n ih =>
      rw [List.range_succ, List.flatMap_append, List.length_append, ih, List.flatMap_cons, List.flatMap_nil, List.append_nil, List.length_map, List.length_range, Nat.mul_succ]
  unfold pln
  rw [f]
  have h1 := box_ok w x r
  have h2 := box_ok h y r
  exact Nat.mul_le_mul (by omega) (by omega)
theorem many_le (x y r : Int) : ∀ l : List (Nat × Nat), many x y r l ≤ 16 * l.length
  | [] => Nat.le_refl _
  | a :: t => by
    have h1 := part_le x y r a.1 a.2
    have h2 := many_le x y r t
    unfold many at h2 ⊢
    rw [List.map_cons, List.sum_cons, List.length_cons]
    omega
theorem points_le {w h : Nat} {x y r : Int} (hr : 0 ≤ r) (hw : w ≤ 64) (hh : h ≤ 64) (fn : List Nat) : (Sh67.aperture w h fn x y r).2 ≤ 65536 := by
  rw [aperture_is hr]
  have h1 := many_le x y r (pln w h x y r)
  have h2 := pln_len w h x y r
  have h3 := Nat.mul_le_mul hw hh
  dsimp only
  omega
end MRing

namespace MWeigh
open MFrame MRing
abbrev W := (Nat × Nat) × Nat
/-- what a place gives: itself with its weight, if it has one -/
def wt (fn : List Nat) (w level : Nat) (x y r : Int) (p : Nat × Nat) : List W := if level < fn.getD (w * p.2 + p.1) 0 ∧ sqd (mid p) (x, y) ≤ r * r then [(p, fn.getD (w * p.2 + p.1) 0 - level)] else []
def rows (w h : Nat) (fn : List Nat) (level : Nat) (x y r : Int) : List W := (pln w h x y r).flatMap (wt fn w level x y r)
theorem rows_all {w h : Nat} {x y r : Int} (hr : 0 ≤ r) (fn : List Nat) (level : Nat) : rows w h fn level x y r = (List.range (w * h)).flatMap fun i => wt fn w level x y r (i % w, i / w) := by
  rw [over_all (w := w) (h := h) fun _ c q => wt fn w level x y r (c, q)]
  rw [over_box (x := x) (y := y) (r := r) (F := fun c q => wt fn w level x y r (c, q))]
  · rfl
  · intro c q hc hq hn
    unfold wt
    rw [if_neg fun z => sqd_far hr hc hq hn z.2]
theorem weight_is {w : Nat} {x y r : Int} (fn : List Nat) (level i : Nat) : Sh67.weightA fn.toArray level w x y r i = ((wt fn w level x y r (i % w, i / w)).map fun z => z.2).sum := by
  have e : w * (i / w) + i % w = i := Nat.div_add_mod i w
  unfold Sh67.weightA wt
  dsimp only
  rw [e, arr_get]
  unfold sqd mid
  dsimp only
  by_cases h : (((64 * (i % w) + 32 : Nat) : Int) - x) * (((64 * (i % w) + 32 : Nat) : Int) - x) + (((64 * (i / w) + 32 : Nat) : Int) - y) * (((64 * (i / w) + 32 : Nat) : Int) - y) ≤ r * r
  · rw [if_pos h]
    by_cases h2 : level < fn.getD i 0
    · rw [if_pos ⟨h2, h⟩]
      simp
    · rw [if_neg fun z => h2 z.1]
      show fn.getD i 0 - level = 0
      omega
  · rw [if_neg h, if_neg fun z => h z.2]
    rfl
theorem wt_cases (fn : List Nat) (w level : Nat) (x y r : Int) (p : Nat × Nat) : wt fn w level x y r p = [] ∨ ∃ g, 0 < g ∧ g ≤ fn.getD (w * p.2 + p.1) 0 ∧ wt fn w level x y r p = [(p, g)] := by
  unfold wt
  split
  · rename_i h
    exact Or.inr ⟨_, by omega, by omega, rfl⟩
  · exact Or.inl rfl
/-- sums over all places are sums over the rows -/
theorem sum_flat {β : Type} (G : Nat → List β) (v : β → Nat) (F : Nat → Nat) (h : ∀ i, F i = ((G i).map v).sum) : ∀ l : List Nat, (l.map F).sum = ((l.flatMap G).map v).sum
  | [] => rfl
  | a :: t => by rw [List.map_cons, List.sum_cons, List.flatMap_cons, List.map_append, List.sum_append, h a, sum_flat G v F h t]
theorem sum_flatI {β : Type} (G : Nat → List β) (v : β → Int) (F : Nat → Int) (h : ∀ i, F i = ((G i).map v).sum) : ∀ l : List Nat, (l.map F).sum = ((l.flatMap G).map v).sum
  | [] => rfl
  | a :: t => by rw [List.map_cons, List.sum_cons, List.flatMap_cons, List.map_append, List.sum_append, h a, sum_flatI G v F h t]
theorem sum_rows {w h : Nat} {x y r : Int} (hr : 0 ≤ r) (fn : List Nat) (level : Nat) (g : Nat → Nat → Nat) :
    ((List.range (w * h)).map fun i => Sh67.weightA fn.toArray level w x y r i * g (i % w) (i / w)).sum = ((rows w h fn level x y r).map fun z => z.2 * g z.1.1 z.1.2).sum := by
  rw [rows_all hr]
  refine sum_flat _ _ _ (fun i => ?_) _
  rw [weight_is]
  rcases wt_cases fn w level x y r (i % w, i / w) with e | ⟨k, _, _, e⟩
  · rw [e]
    simp
  · rw [e]
    simp
theorem sum_rowsI {w h : Nat} {x y r : Int} (hr : 0 ≤ r) (fn : List Nat) (level : Nat) (g : Nat → Nat → Int) :
    ((List.range (w * h)).map fun i => ((Sh67.weightA fn.toArray level w x y r i : Nat) : Int) * g (i % w) (i / w)).sum = ((rows w h fn level x y r).map fun z => (z.2 : Int) * g z.1.1 z.1.2).sum := by
  rw [rows_all hr]
  refine sum_flatI _ _ _ (fun i => ?_) _
  rw [weight_is]
  rcases wt_cases fn w level x y r (i % w, i / w) with e | ⟨k, _, _, e⟩
  · rw [e]
    simp
  · rw [e]
    simp
def whole (l : List W) : Nat := (l.map fun z => z.2).sum
def mX (l : List W) : Nat := (l.map fun z => z.2 * (64 * z.1.1 + 32)).sum
def mY (l : List W) : Nat := (l.map fun z => z.2 * (64 * z.1.2 + 32)).sum
theorem whole_is {w h : Nat} {x y r : Int} (hr : 0 ≤ r) (fn : List Nat) (level : Nat) : ((List.range (w * h)).map fun i => Sh67.weightA fn.toArray level w x y r i).sum = whole (rows w h fn level x y r) := by
  have e := sum_rows (w := w) (h := h) (x := x) (y := y) hr fn level fun _ _ => 1
  simp only [Nat.mul_one] at e
  exact e
/-- what is known of rows -/
structure Ok (l : List W) : Prop where
  pos : ∀ z, z ∈ l → 0 < z.2 ∧ z.2 < 65536 ∧ z.1.1 < 64 ∧ z.1.2 < 64
  len : l.length ≤ 4096
theorem rows_ok {w h : Nat} {x y r : Int} {fn : List Nat} {level : Nat} (hw : w ≤ 64) (hh : h ≤ 64) (hf : ∀ i, fn.getD i 0 < 65536) : Ok (rows w h fn level x y r) := by
  refine ⟨fun z hz => ?_, ?_⟩
  · unfold rows at hz
    rw [List.mem_flatMap] at hz
    obtain ⟨p, hp, hz⟩ := hz
    have hm := pln_mem hp
    rcases wt_cases fn w level x y r p with e | ⟨k, h1, h2, e⟩
    · rw [e] at hz
      cases hz
    · rw [e, List.mem_singleton] at hz
      subst hz
      have := hf (w * p.2 + p.1)
      dsimp only
      omega
  · have h1 := flat_le (wt fn w level x y r) (fun p => by
      rcases wt_cases fn w level x y r p with e | ⟨k, h1, h2, e⟩
      · rw [e]; exact Nat.zero_le _
      · rw [e]; exact Nat.le_refl _) (pln w h x y r)
    have h2 := pln_len w h x y r
    have h3 := Nat.mul_le_mul hw hh
    unfold rows
    omega
theorem whole_le {l : List W} (h : ∀ z, z ∈ l → z.2 < 65536) : whole l ≤ 65536 * l.length := by
  induction l with
  | nil => exact Nat.le_refl _
  | cons a t ih =>
    have h1 := h a List.mem_cons_self
    have h2 := ih fun z hz => h z (List.mem_cons_of_mem _ hz)
    unfold whole at h2 ⊢
    rw [List.map_cons, List.sum_cons, List.length_cons]
    omega
theorem whole_pos {l : List W} (o : Ok l) (h : l ≠ []) : 0 < whole l := by
  cases l with
  | nil => exact absurd rfl h
  | cons a t =>
    have := (o.pos a List.mem_cons_self).1
    unfold whole
    rw [List.map_cons, List.sum_cons]
    omega
theorem Ok.small {l : List W} (o : Ok l) : whole l ≤ 268435456 := by
  have h1 := whole_le (l := l) fun z hz => (o.pos z hz).2.1
  have h2 := o.len
  omega
theorem m_le (f : Nat × Nat → Nat) {l : List W} (h : ∀ z, z ∈ l → f z.1 ≤ 4128) : (l.map fun z => z.2 * f z.1).sum ≤ 4128 * whole l := by
  induction l with
  | nil => exact Nat.le_refl _
  | cons a t ih =>
    have h1 := h a List.mem_cons_self
    have h2 := ih fun z hz => h z (List.mem_cons_of_mem _ hz)
    have h3 := Nat.mul_le_mul_left a.2 h1
    unfold whole at h2 ⊢
    rw [List.map_cons, List.sum_cons, List.map_cons, List.sum_cons]
    omega
theorem near_rg {t b : Nat} (hb : 0 < b) (ht : t ≤ 4128 * b) : 0 ≤ Sh67.near (t : Int) (b : Int) ∧ Sh67.near (t : Int) (b : Int) ≤ 4129 := by
  unfold Sh67.near
  constructor
  · exact Int.ediv_nonneg (by omega) (by omega)
  · apply Int.le_of_lt_add_one
    apply Int.ediv_lt_of_lt_mul (by omega)
    omega
/-- the middle by weights, once -/
theorem once_is {w h : Nat} {x y r : Int} (hr : 0 ≤ r) (fn : List Nat) (level : Nat) (o : Ok (rows w h fn level x y r)) :
    Sh67.middleOnce w h fn level x y r = if rows w h fn level x y r = [] then none else some (Sh67.near (mX (rows w h fn level x y r) : Nat) (whole (rows w h fn level x y r) : Nat), Sh67.near (mY (rows w h fn level x y r) : Nat) (whole (rows w h fn level x y r) : Nat)) := by
  unfold Sh67.middleOnce
  dsimp only
  rw [List.map_map, List.map_map, List.map_map]
  have e1 : ((List.range (w * h)).map ((fun p : Nat × Nat => p.1) ∘ fun i => (Sh67.weightA fn.toArray level w x y r i, i))).sum = whole (rows w h fn level x y r) := whole_is hr fn level
  have e2 : ((List.range (w * h)).map ((fun p : Nat × Nat => p.1 * (64 * (p.2 % w) + 32)) ∘ fun i => (Sh67.weightA fn.toArray level w x y r i, i))).sum = mX (rows w h fn level x y r) := sum_rows hr fn level fun c _ => 64 * c + 32
  have e3 : ((List.range (w * h)).map ((fun p : Nat × Nat => p.1 * (64 * (p.2 / w) + 32)) ∘ fun i => (Sh67.weightA fn.toArray level w x y r i, i))).sum = mY (rows w h fn level x y r) := sum_rows hr fn level fun _ q => 64 * q + 32
  rw [e1, e2, e3]
  by_cases hn : rows w h fn level x y r = []
  · rw [if_pos hn, hn, if_pos (show whole [] = 0 from rfl)]
  · have := whole_pos o hn
    rw [if_neg hn, if_neg (by omega)]
theorem once_rg {l : List W} (o : Ok l) (h : l ≠ []) : (0 ≤ Sh67.near (mX l : Nat) (whole l : Nat) ∧ Sh67.near (mX l : Nat) (whole l : Nat) ≤ 4129) ∧ (0 ≤ Sh67.near (mY l : Nat) (whole l : Nat) ∧ Sh67.near (mY l : Nat) (whole l : Nat) ≤ 4129) := by
  have p := whole_pos o h
  have a := m_le (fun p => 64 * p.1 + 32) (l := l) fun z hz => by
    have := (o.pos z hz).2.2
    omega
  have b := m_le (fun p => 64 * p.2 + 32) (l := l) fun z hz => by
    have := (o.pos z hz).2.2
    omega
  exact ⟨near_rg p a, near_rg p b⟩
/-- the widths about a spot -/
def sXX (l : List W) (x y : Int) : Int := (l.map fun z => (z.2 : Int) * ((mid z.1).1 - x) * ((mid z.1).1 - x)).sum
def sYY (l : List W) (x y : Int) : Int := (l.map fun z => (z.2 : Int) * ((mid z.1).2 - y) * ((mid z.1).2 - y)).sum
def sXY (l : List W) (x y : Int) : Int := (l.map fun z => (z.2 : Int) * ((mid z.1).1 - x) * ((mid z.1).2 - y)).sum
theorem sum_cast (f : W → Nat) : ∀ l : List W, (l.map fun z => (f z : Int)).sum = (((l.map f).sum : Nat) : Int)
  | [] => rfl
  | a :: t => by rw [List.map_cons, List.sum_cons, List.map_cons, List.sum_cons, sum_cast f t, Int.natCast_add]
theorem moments_is {w h : Nat} {x y r : Int} (hr : 0 ≤ r) (fn : List Nat) (level : Nat) (o : Ok (rows w h fn level x y r)) :
    Sh67.moments w h fn level x y r = if rows w h fn level x y r = [] then none else some (Sh67.near (sXX (rows w h fn level x y r) x y) (whole (rows w h fn level x y r) : Nat), Sh67.near (sYY (rows w h fn level x y r) x y) (whole (rows w h fn level x y r) : Nat), Sh67.near (sXY (rows w h fn level x y r) x y) (whole (rows w h fn level x y r) : Nat)) := by
  unfold Sh67.moments
  dsimp only
  rw [List.map_map, List.map_map, List.map_map, List.map_map]
  have e1 := sum_rowsI (w := w) (h := h) (x := x) (y := y) hr fn level fun _ _ => 1
  simp only [Int.mul_one] at e1
  rw [sum_cast fun z => z.2] at e1
  have e2 := sum_rowsI (w := w) (h := h) (x := x) (y := y) hr fn level fun c _ => (((64 * c + 32 : Nat) : Int) - x) * (((64 * c + 32 : Nat) : Int) - x)
  have e3 := sum_rowsI (w := w) (h := h) (x := x) (y := y) hr fn level fun _ q => (((64 * q + 32 : Nat) : Int) - y) * (((64 * q + 32 : Nat) : Int) - y)
  have e4 := sum_rowsI (w := w) (h := h) (x := x) (y := y) hr fn level fun c q => (((64 * c + 32 : Nat) : Int) - x) * (((64 * q + 32 : Nat) : Int) - y)
  simp only [← Int.mul_assoc] at e2 e3 e4
  simp only [Function.comp_def, ← Int.mul_assoc]
  rw [e1, e2, e3, e4]
  by_cases hn : rows w h fn level x y r = []
  · rw [if_pos hn, hn]
    rfl
  · have := whole_pos o hn
    unfold whole at this
    rw [if_neg hn, if_neg (by omega)]
    rfl
end MWeigh

namespace MAsk
/-- what the frame calls ask of their numbers -/
def ok (w h : Nat) (xn : List Nat) (b : Bool) : Bool := Sh67.sized w h && Sh67.some_ (xn.length / 2) && b
theorem nats_ints {l : List Int} (h : ∀ x, x ∈ l → 0 ≤ x ∧ x ≤ 65535) : Sh67Neutral.ints (Sh67Neutral.nats l) = l := by
  unfold Sh67Neutral.ints Sh67Neutral.nats
  rw [List.map_map]
  refine (List.map_congr_left fun x hx => ?_).trans (List.map_id l)
  have := h x hx
  show ((x.toNat : Nat) : Int) = x
  omega
theorem ints_nats (l : List Nat) : Sh67Neutral.nats (Sh67Neutral.ints l) = l := by
  unfold Sh67Neutral.ints Sh67Neutral.nats
  rw [List.map_map]
  exact (List.map_congr_left fun x hx => rfl).trans (List.map_id l)
theorem nats_big {l : List Int} (h : ∀ x, x ∈ l → 0 ≤ x ∧ x ≤ 65535) : ∀ x, x ∈ Sh67Neutral.nats l → x < 65536 := fun x hx => by
  unfold Sh67Neutral.nats at hx
  rw [List.mem_map] at hx
  obtain ⟨z, hz, rfl⟩ := hx
  have := h z hz
  omega
/-- the lengths: as told where the numbers are in their ranges, else these or none -/
theorem lens {A : Bool} {w h : Nat} {l0 l1 : List Int}
    (e : (if A = true then l0.length == (w * h) && l1.length == (2 * ((Sh67Neutral.nats l1).length / 2)) else (l0.isEmpty && l1.isEmpty) || (l0.length == (w * h) && l1.length == (2 * ((Sh67Neutral.nats l1).length / 2)))) = true) :
    (A = true → (Sh67Neutral.nats l0).length = w * h) ∧ (Sh67Neutral.nats l1).length = 2 * ((Sh67Neutral.nats l1).length / 2) := by
  have e0 : (Sh67Neutral.nats l0).length = l0.length := List.length_map ..
  have e1 : (Sh67Neutral.nats l1).length = l1.length := List.length_map ..
  rw [e1] at e
  rw [e0, e1]
  split at e
  · rw [Bool.and_eq_true] at e
    exact ⟨fun _ => eq_of_beq e.1, eq_of_beq e.2⟩
  · rename_i ha
    refine ⟨fun h => absurd h ha, ?_⟩
    rw [Bool.or_eq_true] at e
    rcases e with e | e
    · rw [Bool.and_eq_true] at e
      have := List.isEmpty_iff.mp e.2
      subst this
      rfl
    · rw [Bool.and_eq_true] at e
      exact eq_of_beq e.2
theorem natural_bits {z : Int} {b : Nat} (h : Sh67Neutral.natural z b = true) : 0 ≤ z := by
  unfold Sh67Neutral.natural at h
  rw [Bool.and_eq_true] at h
  exact of_decide_eq_true h.1
theorem sized_iff (w h : Nat) : Sh67.sized w h = ((decide (1 ≤ (w : Int)) && decide ((w : Int) ≤ 64)) && (decide (1 ≤ (h : Int)) && decide ((h : Int) ≤ 64))) := by
  unfold Sh67.sized Sh67.among
  rw [Bool.eq_iff_iff]
  simp only [Bool.and_eq_true, decide_eq_true_eq]
  omega
theorem some_iff {xn : List Nat} (h : xn.length = 2 * (xn.length / 2)) : Sh67.some_ (xn.length / 2) = decide ((xn.length : Int) ≤ 128) := by
  unfold Sh67.some_
  rw [Bool.eq_iff_iff]
  simp only [decide_eq_true_eq]
  omega
theorem flat_len {α β : Type} (k : Nat) (F : α → List β) (h : ∀ x, (F x).length = k) : ∀ l : List α, (l.flatMap F).length = k * l.length
  | [] => rfl
  | a :: r => by
    rw [List.flatMap_cons, List.length_append, h, flat_len k F h r, List.length_cons, Nat.mul_succ]
    omega
theorem pairs_len (xn : List Nat) : (Sh67.pairsOf xn).length = xn.length / 2 := by
  unfold Sh67.pairsOf
  rw [List.length_map, List.length_range]
theorem pairs_mem {xn : List Nat} (hb : ∀ x, x ∈ xn → x < 65536) {p : Int × Int} (hp : p ∈ Sh67.pairsOf xn) : (0 ≤ p.1 ∧ p.1 < 65536) ∧ (0 ≤ p.2 ∧ p.2 < 65536) := by
  unfold Sh67.pairsOf at hp
  rw [List.mem_map] at hp
  obtain ⟨i, _, rfl⟩ := hp
  have g : ∀ j, Sh67.num xn j < 65536 := fun j => by
    unfold Sh67.num
    rw [List.getD_eq_getElem?_getD]
    cases e : xn[j]? with
    | none => exact (by decide : 0 < 65536)
    | some v => exact hb v (List.mem_of_getElem? e)
  have := g (2 * i)
  have := g (2 * i + 1)
  dsimp only
  omega
end MAsk

namespace Pd
open PySem PySem.Spec PyProof.Rows L2
/-! ### what stands at a name of the top -/
def Cal (P : Program) (w : World) (K : Fg) (mg : Str → Option Value) (base : Heap) (C : Addr) (k : Nat) (x : Str) (ps : List Str) (R : List Dt → Dt → Prop) : Prop :=
  ∃ (f : Addr) (fd : FuncData), FnOk P w K mg base CX0 k f fd ps (spD K C R) ∧ mg x = some (.ref f) ∧ PySem.W.keepIn K (.ref f) = true ∧ Binds K fd ps []
def Mel (P : Program) (w : World) (K : Fg) (mg : Str → Option Value) (base : Heap) (C : Addr) (k : Nat) (x : Str) (ps : List Str) (R : List Dt → Dt → Prop) : Prop :=
  ∃ (f : Addr) (fd : FuncData), FnOk P w K mg base CX0 k f fd ps (spD K C R) ∧ Meth K C x f ∧ Binds K fd ps []
theorem pe_gint {X : Cx} {x : Str} {i : Int} {pos : Pos} (h : ∃ t, X.mg x = some (.int i t)) (hg : Gl X x) (hd : (x == ("__debug__" : Str)) = false := by decide) : PE X (.Name x pos) (tC (.int i)) := by
  obtain ⟨t, h⟩ := h
  exact pe_glob hg h ⟨t, rfl⟩ hd
theorem ix_tupK {X : Cx} {K : Fg} (h : X.K = K) : IxR X (rIxT K) := h ▸ ix_tup
theorem ix_listK {X : Cx} {K : Fg} (h : X.K = K) : IxR X (rIxL K) := h ▸ ix_list
/-- a tuple of ints that the top has written -/
def intsOf : List Value → Option (List Int)
  | [] => some []
  | .int i _ :: r => (intsOf r).map fun l => i :: l
  | _ => none
def tupOf (o : Obj) : Option (List Int) := match o.data with
  | .seq its _ => if o.cls = .type "tuple" ∧ its.size ≤ 1000 then intsOf its.toList else none
  | _ => none
theorem intsOf_vals : ∀ {us : List Value} {ns : List Int}, intsOf us = some ns → Vals (ns.map V.int) us
  | [], ns, h => by
    cases h
    exact .nil
  | .int i t :: r, ns, h => by
    have h' : (intsOf r).map (fun l => i :: l) = some ns := h
    obtain ⟨l, h1, rfl⟩ := Option.map_eq_some_iff.mp h'
    exact .cons ⟨t, rfl⟩ (intsOf_vals h1)
  | .none :: _, _, h => by cases h
  | .ellipsis :: _, _, h => by cases h
  | .notImplemented :: _, _, h => by cases h
  | .bool _ :: _, _, h => by cases h
  | .float _ _ :: _, _, h => by cases h
  | .str _ _ :: _, _, h => by cases h
  | .bytes _ _ :: _, _, h => by cases h
  | .type _ :: _, _, h => by cases h
  | .builtin _ :: _, _, h => by cases h
  | .ref _ :: _, _, h => by cases h
theorem sqT_of {K : Fg} {a : Addr} {o : Obj} {ns : List Int} {H : Hp} (l : K.lookup a = some o) (h : tupOf o = some ns) : SqT K H a (ns.map V.int) := by
  unfold tupOf at h
  split at h
  · rename_i its n hd
    split at h
    · rename_i hc
      exact Or.inr ⟨o, its, n, l, hc.1, hd, sz_le (Nat.le_trans hc.2 (by decide)), intsOf_vals h⟩
    · cases h
  · cases h
/-! ### from the request, to the answer -/
theorem dw_int {K : Fg} {C : Addr} {H : Hp} {v : V} {i : Int} (h : Dw K H v (.int i)) : Dr K C H v (.int i) := by
  cases h
  exact .int i
theorem dw_list {K : Fg} {C : Addr} {H : Hp} {v : V} {ns : List Int} (h : Dw K H v (.list (ns.map PySem.W.WData.int))) : Dr K C H v (.lst (ns.map Dt.int)) := by
  cases h with
  | lst p q =>
    have e := ints_dw ns _ q
    subst e
    exact .lst p (ints_drs ns)
theorem dr_out {K : Fg} {C : Addr} {G H : Hp} {v : V} {ns : List Int} (h : Dr K C G v (.lst (ns.map Dt.int))) (s : Same G H) : Dw K H v (.list (ns.map PySem.W.WData.int)) := by
  cases h with
  | lst p q =>
    have e := drs_ints q
    subst e
    exact .lst (s.seq p) (dw_ints ns)
theorem all_int {lo hi : Int} {ns : List Int} (h : ns.all (PySem.W.Codec.inInt lo hi) = true) : ∀ x, x ∈ ns → lo ≤ x ∧ x ≤ hi := fun x hx => PySem.W.Codec.inInt_iff.mp (List.all_eq_true.mp h x hx)
/-! ### one step of a reading, by its form -/
local macro_rules | `(tactic| walk_at "ev1") => `(tactic| first
  | exact ed_int
  | exact ed_bl
  | exact ea_nil
  | refine ea_cons ?_ ?_
  | refine ed_var rfl
  | refine ed_add ?_ ?_
  | refine ed_sub ?_ ?_
  | refine ed_lt ?_ ?_
  | refine ed_le ?_ ?_
  | refine ed_gt ?_ ?_
  | refine ed_ge ?_ ?_
  | refine ed_mul ?_ ?_ ?_
  | refine ed_div ?_ ?_ ?_
  | refine ed_mod ?_ ?_ ?_
  | refine ed_chainLe ?_ ?_ ?_
  | refine ed_chainLtLe ?_ ?_ ?_
  | refine ed_andV ?_ ?_
  | refine eb_v ?_
  | refine eb_t ?_
  | refine eb_and ?_ ?_
  | refine eb_or ?_ ?_
  | refine eb_not ?_
  | refine ed_abs ?_
  | refine ed_max2 ?_ ?_
  | refine ed_min2 ?_ ?_
  | refine ed_len ?_
  | refine ed_neg ?_
  | refine ed_bits ?_
  | refine ed_shl ?_ ?_ ?_
  | refine ed_shr ?_ ?_ ?_
  | refine ed_tup ?_
  | refine en_lst ?_)
local macro_rules | `(tactic| walk_at "ev") => `(tactic| repeat' walk_at "ev1")

/-! ### frames, places, spots as data -/
def dp (p : Nat × Nat) : Dt := .tup [.int p.1, .int p.2]
def dq (p : Int × Int) : Dt := .tup [.int p.1, .int p.2]
def natD (l : List Nat) : List Dt := l.map fun (n : Nat) => Dt.int (n : Int)
def FR (w h : Nat) (fn : List Nat) : Dt := .frm w h (Sh67Neutral.ints fn)
theorem ints_is (l : List Nat) : (Sh67Neutral.ints l).map Dt.int = natD l := by
  unfold Sh67Neutral.ints natD
  rw [List.map_map]
  rfl
theorem nat_at {l : List Nat} {i : Nat} (h : i < l.length) : (natD l)[i]? = some (.int ((l.getD i 0 : Nat) : Int)) := by
  unfold natD
  rw [List.getElem?_map, List.getElem?_eq_getElem h, List.getD_eq_getElem?_getD, List.getElem?_eq_getElem h]
  rfl
/-- a frame as it may be -/
structure FOk (w h : Nat) (fn : List Nat) : Prop where
  w64 : w ≤ 64
  h64 : h ≤ 64
  len : fn.length = w * h
  big : ∀ x, x ∈ fn → x < 65536
theorem FOk.in_ {w h : Nat} {fn : List Nat} (F : FOk w h fn) {c q : Nat} (hc : c < w) (hq : q < h) : w * q + c < fn.length := by
  rw [F.len]
  have := Nat.mul_le_mul_left w (show q + 1 ≤ h from hq)
  rw [Nat.mul_add] at this
  omega
theorem FOk.get {w h : Nat} {fn : List Nat} (F : FOk w h fn) (i : Nat) : fn.getD i 0 < 65536 := by
  rw [List.getD_eq_getElem?_getD]
  cases e : fn[i]? with
  | none => exact (by decide : 0 < 65536)
  | some v => exact F.big v (List.mem_of_getElem? e)

/-! ### == of data -/
mutual
def pyd : Dt → PyData
  | .int i => .int i
  | .bl b => .bool b
  | .lst ds => .list (pyds ds)
  | .tup ds => .tuple (pyds ds)
  | .frm _ _ _ => .none
def pyds : List Dt → List PyData
  | [] => []
  | d :: ds => pyd d :: pyds ds
end
mutual
def okd (n : Nat) : Dt → Bool
  | .int _ => true
  | .bl _ => true
  | .lst ds => match n with
    | 0 => false
    | n + 1 => okds n ds
  | .tup ds => match n with
    | 0 => false
    | n + 1 => okds n ds
  | .frm _ _ _ => false
def okds (n : Nat) : List Dt → Bool
  | [] => true
  | d :: ds => okd n d && okds n ds
end
mutual
theorem okd_shape : ∀ (n : Nat) (d : Dt), okd n d = true → (pyd d).canLay0 = true ∧ (pyd d).depth ≤ n
  | n, .int i, _ => ⟨by rw [pyd, PyData.canLay0], by rw [pyd, PyData.depth]; exact Nat.zero_le _⟩
  | n, .bl i, _ => ⟨by rw [pyd, PyData.canLay0], by rw [pyd, PyData.depth]; exact Nat.zero_le _⟩
  | 0, .lst ds, h => by rw [okd] at h; cases h
  | n + 1, .lst ds, h => by
    rw [okd] at h
    have q := okds_shape n ds h
    exact ⟨by rw [pyd, PyData.canLay0]; exact q.1, by rw [pyd, PyData.depth]; exact Nat.succ_le_succ q.2⟩
  | 0, .tup ds, h => by rw [okd] at h; cases h
  | n + 1, .tup ds, h => by
    rw [okd] at h
    have q := okds_shape n ds h
    exact ⟨by rw [pyd, PyData.canLay0]; exact q.1, by rw [pyd, PyData.depth]; exact Nat.succ_le_succ q.2⟩
  | n, .frm _ _ _, h => by rw [okd] at h; cases h
theorem okds_shape : ∀ (n : Nat) (ds : List Dt), okds n ds = true → PyData.canLayAll0 (pyds ds) = true ∧ PyData.depthAll (pyds ds) ≤ n
  | n, [], _ => ⟨by rw [pyds, PyData.canLayAll0], by rw [pyds, PyData.depthAll]; exact Nat.zero_le _⟩
  | n, d :: ds, h => by
    rw [okds, Bool.and_eq_true] at h
    have q1 := okd_shape n d h.1
    have q2 := okds_shape n ds h.2
    exact ⟨by rw [pyds, PyData.canLayAll0, q1.1, q2.1]; rfl, by rw [pyds, PyData.depthAll]; exact Nat.max_le.mpr ⟨q1.2, q2.2⟩⟩
end
section
variable {K : Fg} {C : Addr} {H : Hp}
mutual
theorem dr_dp : ∀ (n : Nat) (d : Dt) (v : V), okd n d = true → Dr K C H v d → Dp K H v (pyd d)
  | n, .int i, _, _, x => by
    cases x
    rw [pyd]
    exact .int i
  | n, .bl b, _, _, x => by
    cases x
    rw [pyd]
    exact .bl b
  | 0, .lst ds, _, h, _ => by rw [okd] at h; cases h
  | n + 1, .lst ds, _, h, x => by
    rw [okd] at h
    cases x with
    | lst p q =>
      rw [pyd]
      exact .lst p (drs_dp n ds _ h q)
  | 0, .tup ds, _, h, _ => by rw [okd] at h; cases h
  | n + 1, .tup ds, _, h, x => by
    rw [okd] at h
    cases x with
    | tup p q =>
      rw [pyd]
      exact .tup p (drs_dp n ds _ h q)
  | n, .frm _ _ _, _, h, _ => by rw [okd] at h; cases h
theorem drs_dp : ∀ (n : Nat) (ds : List Dt) (vs : List V), okds n ds = true → Drs K C H vs ds → DpAll K H vs (pyds ds)
  | n, [], _, _, x => by
    cases x
    rw [pyds]
    exact .nil
  | n, d :: ds, _, h, x => by
    rw [okds, Bool.and_eq_true] at h
    cases x with
    | cons p q =>
      rw [pyds]
      exact .cons (dr_dp n d _ h.1 p) (drs_dp n ds _ h.2 q)
end
theorem shaped_of {n : Nat} {d : Dt} (h : okd n d = true) (hn : n ≤ 64) : SeqAt.shaped (pyd d) = true := by
  have q := okd_shape n d h
  unfold SeqAt.shaped
  rw [q.1, decide_eq_true (Nat.le_trans q.2 hn)]
  rfl
theorem ed_eq {Γ : Ct} {ta tb : TE} {d e : Dt} (ha : EvD K C ta Γ d) (hb : EvD K C tb Γ e) (h1 : okd 3 d = true) (h2 : okd 3 e = true) : EvD K C (tOp (rEqD K) ta tb) Γ (.bl (PyData.eqv (pyd d) (pyd e))) := ed_op ha hb fun G H x y s dx dy Q q =>
  ⟨pyd d, pyd e, dr_dp 3 d x h1 (dx.go s), dr_dp 3 e y h2 (dy.go s), shaped_of h1 (by decide), shaped_of h2 (by decide), q _ G H (Gr.refl s) (.bl _)⟩
end
theorem okds_all {n : Nat} : ∀ {ds : List Dt}, (∀ d, d ∈ ds → okd n d = true) → okds n ds = true
  | [], _ => by rw [okds]
  | d :: ds, h => by rw [okds, h d List.mem_cons_self, okds_all fun x hx => h x (List.mem_cons_of_mem _ hx)]; rfl
theorem okd_lst {n : Nat} {ds : List Dt} (h : ∀ d, d ∈ ds → okd n d = true) : okd (n + 1) (.lst ds) = true := by
  rw [okd]
  exact okds_all h
/-- a list against the empty list -/
theorem eq_nil (ds : List Dt) : PyData.eqv (pyd (.lst ds)) (pyd (.lst [])) = ds.isEmpty := by
  rw [pyd, pyd, pyds, PyData.eqv]
  cases ds with
  | nil => rw [pyds, PyData.eqvAll]; rfl
  | cons d r => rw [pyds, PyData.eqvAll]; rfl
theorem eq_pairs (a b c d : Int) : PyData.eqv (pyd (.tup [.int a, .int b])) (pyd (.tup [.int c, .int d])) = (a == c && b == d) := by
  simp only [pyd, pyds, PyData.eqv, PyData.eqvAll, Bool.and_true]
theorem eq_pair_nil (a b : Int) : PyData.eqv (pyd (.tup [.int a, .int b])) (pyd (.tup [])) = false := by
  simp only [pyd, pyds, PyData.eqv, PyData.eqvAll]
theorem eq_nil_nil : PyData.eqv (pyd (.tup [])) (pyd (.tup [])) = true := by
  simp only [pyd, pyds, PyData.eqv, PyData.eqvAll]

/-! ### rows as data -/
def dw (z : MWeigh.W) : Dt := .tup [dq (MRing.mid z.1), .int (z.2 : Int)]
theorem mid_rg {p : Nat × Nat} {x y : Int} (h1 : p.1 ≤ 64) (h2 : p.2 ≤ 64) (hx1 : -(2 ^ 40) ≤ x) (hx2 : x ≤ 2 ^ 40) (hy1 : -(2 ^ 40) ≤ y) (hy2 : y ≤ 2 ^ 40) :
    (-(2 ^ 41) ≤ (MRing.mid p).1 - x ∧ (MRing.mid p).1 - x ≤ 2 ^ 41) ∧ (-(2 ^ 41) ≤ (MRing.mid p).2 - y ∧ (MRing.mid p).2 - y ≤ 2 ^ 41) := by
  unfold MRing.mid
  dsimp only
  omega
theorem okd_dw (z : MWeigh.W) : okd 2 (dw z) = true := by
  unfold dw dq
  simp only [okd, okds]
  rfl
theorem okd_rows (l : List MWeigh.W) : okd 3 (.lst (l.map dw)) = true := okd_lst fun d hd => by
  rw [List.mem_map] at hd
  obtain ⟨z, _, rfl⟩ := hd
  exact okd_dw z
theorem okd_dq (p : Int × Int) : okd 3 (dq p) = true := by
  unfold dq
  simp only [okd, okds]
  rfl

/-! ### the text by its places -/
def topS (i : Nat) : Stmt := PySem.Challenge.pw_starlight_s05_ap_moments.main.body.getD i (.Pass ⟨0, 0, 0, 0⟩)
abbrev s_init : Stmt := inClass (topS 3) 0
theorem sc_init : FnScope ["self", "wide", "high", "numbers"] ["self", "wide", "high", "numbers"] (defScope s_init) := ⟨rfl, rfl, rfl, by decide +kernel, rfl, by decide +kernel, by decide +kernel⟩
abbrev s_spots_of : Stmt := topS 6
theorem sc_spots_of : FnScope ["xy", "at"] ["xy"] (defScope s_spots_of) := ⟨rfl, rfl, rfl, by decide +kernel, rfl, by decide +kernel, by decide +kernel⟩
abbrev s_columns_near : Stmt := inClass (topS 3) 2
theorem sc_columns_near : FnScope ["self", "x", "far"] ["self", "x", "far"] (defScope s_columns_near) := ⟨rfl, rfl, rfl, by decide +kernel, rfl, by decide +kernel, by decide +kernel⟩
abbrev s_rows_near : Stmt := inClass (topS 3) 3
theorem sc_rows_near : FnScope ["self", "y", "far"] ["self", "y", "far"] (defScope s_rows_near) := ⟨rfl, rfl, rfl, by decide +kernel, rfl, by decide +kernel, by decide +kernel⟩
abbrev s_places_near : Stmt := inClass (topS 3) 4
theorem sc_places_near : FnScope ["self", "x", "y", "far", "found", "first", "last", "begin", "end", "row", "column"] ["self", "x", "y", "far"] (defScope s_places_near) := ⟨rfl, rfl, rfl, by decide +kernel, rfl, by decide +kernel, by decide +kernel⟩
abbrev s_middle_of : Stmt := topS 4
theorem sc_middle_of : FnScope ["place", "column", "row"] ["place"] (defScope s_middle_of) := ⟨rfl, rfl, rfl, by decide +kernel, rfl, by decide +kernel, by decide +kernel⟩
abbrev s_number : Stmt := inClass (topS 3) 1
theorem sc_number : FnScope ["self", "column", "row"] ["self", "column", "row"] (defScope s_number) := ⟨rfl, rfl, rfl, by decide +kernel, rfl, by decide +kernel, by decide +kernel⟩
abbrev s_square_of : Stmt := topS 5
theorem sc_square_of : FnScope ["spot", "other", "across", "down"] ["spot", "other"] (defScope s_square_of) := ⟨rfl, rfl, rfl, by decide +kernel, rfl, by decide +kernel, by decide +kernel⟩
abbrev s_weights : Stmt := topS 21
theorem sc_weights : FnScope ["frame", "spot", "level", "radius", "found", "place", "above", "middle"] ["frame", "spot", "level", "radius"] (defScope s_weights) := ⟨rfl, rfl, rfl, by decide +kernel, rfl, by decide +kernel, by decide +kernel⟩
abbrev s_are_sides : Stmt := topS 16
theorem sc_are_sides : FnScope ["wide", "high"] ["wide", "high"] (defScope s_are_sides) := ⟨rfl, rfl, rfl, by decide +kernel, rfl, by decide +kernel, by decide +kernel⟩
abbrev s_are_places : Stmt := topS 17
theorem sc_are_places : FnScope ["xy"] ["xy"] (defScope s_are_places) := ⟨rfl, rfl, rfl, by decide +kernel, rfl, by decide +kernel, by decide +kernel⟩
abbrev s_are_seen : Stmt := topS 18
theorem sc_are_seen : FnScope ["wide", "high", "xy"] ["wide", "high", "xy"] (defScope s_are_seen) := ⟨rfl, rfl, rfl, by decide +kernel, rfl, by decide +kernel, by decide +kernel⟩
abbrev s_are_radii : Stmt := topS 19
theorem sc_are_radii : FnScope ["radii", "radius"] ["radii"] (defScope s_are_radii) := ⟨rfl, rfl, rfl, by decide +kernel, rfl, by decide +kernel, by decide +kernel⟩
abbrev s_as_word : Stmt := topS 9
theorem sc_as_word : FnScope ["number"] ["number"] (defScope s_as_word) := ⟨rfl, rfl, rfl, by decide +kernel, rfl, by decide +kernel, by decide +kernel⟩
abbrev s_sum_of : Stmt := topS 22
theorem sc_sum_of : FnScope ["rows", "middle", "weight"] ["rows"] (defScope s_sum_of) := ⟨rfl, rfl, rfl, by decide +kernel, rfl, by decide +kernel, by decide +kernel⟩
abbrev s_rounded : Stmt := topS 10
theorem sc_rounded : FnScope ["top", "bottom"] ["top", "bottom"] (defScope s_rounded) := ⟨rfl, rfl, rfl, by decide +kernel, rfl, by decide +kernel, by decide +kernel⟩
abbrev s_widths : Stmt := topS 23
theorem sc_widths : FnScope ["rows", "spot", "whole", "x", "y", "across", "down", "both", "middle", "weight"] ["rows", "spot"] (defScope s_widths) := ⟨rfl, rfl, rfl, by decide +kernel, rfl, by decide +kernel, by decide +kernel⟩
abbrev s_ap_moments : Stmt := topS 27
theorem sc_ap_moments : FnScope ["level", "r", "w", "h", "f", "xy", "frame", "found", "spot", "rows", "width"] ["level", "r", "w", "h", "f", "xy"] (defScope s_ap_moments) := ⟨rfl, rfl, rfl, by decide +kernel, rfl, by decide +kernel, by decide +kernel⟩
/-! ### what the top has written -/
structure Tx (K : Fg) (mg : Str → Option Value) (C : Addr) : Prop where
  b_all : mg "all" = none
  b_len : mg "len" = none
  b_max : mg "max" = none
  b_min : mg "min" = none
  b_range : mg "range" = none
  b_sum : mg "sum" = none
  g_HALF : ∃ t, mg "HALF" = some (.int (32) t)
  g_MOST_LEVEL : ∃ t, mg "MOST_LEVEL" = some (.int (65535) t)
  g_MOST_PLACES : ∃ t, mg "MOST_PLACES" = some (.int (64) t)
  g_MOST_RADIUS : ∃ t, mg "MOST_RADIUS" = some (.int (4096) t)
  g_MOST_SIDE : ∃ t, mg "MOST_SIDE" = some (.int (64) t)
  g_NONE : ∃ t, mg "NONE" = some (.int (4294967295) t)
  g_OUT_OF_RANGE : ∃ t, mg "OUT_OF_RANGE" = some (.int (-2) t)
  g_PLACE : ∃ t, mg "PLACE" = some (.int (64) t)
  g_WORD : ∃ t, mg "WORD" = some (.int (4294967296) t)
  X : Txt K C
  mgC : mg "Frame" = some (.ref C)
theorem Tx.cl {K : Fg} {mg : Str → Option Value} {C : Addr} (T : Tx K mg C) : Cls K C := T.X.cl
section
variable {P : Program} {w : World} {K : Fg} {mg : Str → Option Value} {base : Heap} {C : Addr}
/-! ### Frame.__init__ -/
def spInit (C : Addr) : Sp := fun vs H Q _ => ∃ (p dx fa : Addr) (w h : Int), vs = [.ref p, .int w, .int h, .ref fa] ∧ H p = some (.ins C dx []) ∧ ∀ H' : Hp, H' p = some (.ins C dx (fF w h fa)) → (∀ b o, H b = some o → b ≠ p → H' b = some o) → Q .non H'
def Ini (P : Program) (w : World) (K : Fg) (mg : Str → Option Value) (base : Heap) (C : Addr) : Prop :=
  ∃ (f : Addr) (fd : FuncData), FnOk P w K mg base CX0 1 f fd ["self", "wide", "high", "numbers"] (spInit C) ∧ Mk K C f ∧ Binds K fd ["self", "wide", "high", "numbers"] []
theorem putA {f : Str} {v : V} : putF f v [] = [(f, v)] := rfl
theorem putB {f g : Str} {v x : V} {r : List (Str × V)} (h : ¬ g = f) : putF f v ((g, x) :: r) = (g, x) :: putF f v r := if_neg h
theorem put_all (w h : Int) (fa : Addr) : putF "numbers" (.ref fa) (putF "high" (.int h) (putF "wide" (.int w) [])) = fF w h fa := by
  rw [putA, putB (by decide +kernel), putA, putB (by decide +kernel), putB (by decide +kernel), putA]
  rfl
theorem ed_make {Γ : Ct} {tr : TA} {E : XK} {w h : Int} {f : List Int} (ha : EvA K C tr Γ [.int w, .int h, .lst (f.map Dt.int)]) : EvD K C (tMake C (spInit C) [] E tr) Γ (.frm w h f) := fun σ G H sd s Q q =>
  ha σ G H sd s _ fun vs G1 H1 g1 dv => by
    cases dv with
    | cons p r =>
      cases r with
      | cons p' r =>
        cases r with
        | cons p'' r =>
          cases r
          cases p
          cases p'
          cases p'' with
          | lst hl hr =>
            have e := drs_ints hr
            subst e
            intro x dx nx nd ne
            refine ⟨x, dx, _, w, h, rfl, upd_same, fun H' e1 keep => ⟨rfl, ?_⟩⟩
            have nG : G1 x = none := g1.gh.free nx
            have hh : Same H1 H' := fun b o hb => keep b o (by
              rw [upd_ne (ne_of_none hb nx), upd_ne (ne_of_none hb nd)]
              exact hb) (ne_of_none hb nx)
            refine q (.ref x) (upd G1 x (.ins C dx (fF w h _))) H' (g1.trans ⟨hh, same_new nG, fun b o hb => ?_, fun b hb => ?_⟩) (.frm upd_same ((same_new nG).seq hl))
            · by_cases hx : b = x
              · subst hx
                rw [upd_same] at hb
                rw [e1, ← hb]
              · rw [upd_ne hx] at hb
                exact hh b o (g1.gh b o hb)
            · by_cases hx : b = x
              · subst hx
                exact Or.inr nx
              · rw [upd_ne hx] at hb
                exact Or.inl hb

theorem ok_init {f : Addr} {fd : FuncData} (T : Tx K mg C) (F : Fun K "__init__" "Frame.__init__" s_init f fd) : FnOk P w K mg base CX0 1 f fd ["self", "wide", "high", "numbers"] (spInit C) := by
  refine F.ok sc_init (fun vs H Q E h => ?_) (fun cdv A outer s H vs Q E hr h => ⟨_, (pss_cons (ps_fld (pv 0) (pv 1) rfl)
      (pss_cons (ps_fld (pv 0) (pv 2) rfl)
      (pss_one (ps_fld (pv 0) (pv 3) rfl)))), ?_⟩)
  · obtain ⟨p, dx, fa, w, h, rfl, _⟩ := h
    rfl
  · obtain ⟨p, dx, fa, wi, hi, rfl, hp, k⟩ := h
    refine ⟨_, rfl, _, rfl, p, C, dx, [], rfl, hp, T.cl, T.X.nW, (by show 0 < 1000; decide), ?_⟩
    refine ⟨_, rfl, _, rfl, p, C, dx, _, rfl, upd_same, T.cl, T.X.nH, (by show 1 < 1000; decide), ?_⟩
    refine ⟨_, rfl, _, rfl, p, C, dx, _, rfl, upd_same, T.cl, T.X.nN, (by show 2 < 1000; decide), ?_⟩
    refine k _ (Eq.trans upd_same (congrArg (fun q => some (HO.ins C dx q)) (put_all wi hi fa))) fun b o e hb => ?_
    rw [upd_ne hb, upd_ne hb, upd_ne hb]
    exact e

/-! ### spots_of -/
def R_spots_of (ds : List Dt) (d : Dt) : Prop := ∃ (xn : List Nat) (n : Nat), ds = [.lst (natD xn)] ∧ xn.length = 2 * n ∧ n ≤ 1000 ∧ d = .lst ((Sh67.pairsOf xn).map dq)

theorem ok_spots_of {f : Addr} {fd : FuncData} (T : Tx K mg C) (F : Fun K "spots_of" "spots_of" s_spots_of f fd) : FnOk P w K mg base CX0 1 f fd ["xy"] (spD K C R_spots_of) := by
  refine okD F sc_spots_of (fun ds d r => ?_) fun cdv A outer s H E hr => ⟨_, (pss_one (ps_ret (pe_lc (own := [("at", 1)]) (tt := tYes) (by rfl) sc_spots_of.nd (pi_range3 (by rfl) T.b_range (pa_cons pe_int (pa_cons (pe_callB call_len_seq (by rfl) T.b_len (by decide +kernel) (pa_cons (pv 0) pa_nil)) (pa_cons pe_int pa_nil)))) (blkOk_by (N := ["xy", "at"]) (sc := defScope s_spots_of) (by decide +kernel)) (fun _ _ _ _ _ => (pg_name (i := 1) sc_spots_of.nd rfl (Or.inl rfl))) (fun _ _ _ _ _ => pts_nil) (fun _ _ _ _ _ => (pe_tup (pa_cons (pe_ix (ix_listK (K := K) rfl) (pv 0) (pv 1) (fun _ _ => rfl)) (pa_cons (pe_ix (ix_listK (K := K) rfl) (pv 0) (pe_op op_add (pv 1) pe_int) (fun _ _ => rfl)) pa_nil))))))), fun ds d r G0 Q q => ?_⟩
  · obtain ⟨xn, n, rfl, hl, hn, rfl⟩ := r
    rfl
  · obtain ⟨xn, n, rfl, hl, hn, rfl⟩ := r
    have e : Sh67.pairsOf xn = (List.range n).map fun i => (((Sh67.num xn (2 * i) : Nat) : Int), ((Sh67.num xn (2 * i + 1) : Nat) : Int)) := by
      unfold Sh67.pairsOf
      rw [hl, Nat.mul_div_cancel_left _ (by decide)]
    rw [e, List.map_map] at q
    refine s_ret (EvN.asD (en_lc (List.range n) (fun i => Dt.int (0 + (i : Int) * 2)) _
      (es_rng3 (n := n) (ea_cons ed_int (ea_cons (ed_len (ed_var rfl)) (ea_cons ed_int ea_nil))) (by unfold natD; rw [List.length_map, hl]; exact rg_two (by omega))).w (by rw [List.length_range]; omega) _ (fun z _ => tg_name) (fun z hz => ?_))) q
    have hz' := List.mem_range.mp hz
    exact ed_tup (ea_cons (ed_ixL (nat_at (i := 2 * z) (by omega)) (ed_var rfl) (EvD.eq (ed_var rfl) (congrArg Dt.int (by omega))))
      (ea_cons (ed_ixL (nat_at (i := 2 * z + 1) (by omega)) (ed_var rfl) (EvD.eq (ed_add (ed_var rfl) ed_int) (congrArg Dt.int (by omega)))) ea_nil))

/-! ### Frame.columns_near -/
def R_columns_near (ds : List Dt) (d : Dt) : Prop := ∃ (w h : Nat) (f : List Int) (x far : Int), ds = [.frm w h f, .int x, .int far] ∧ d = .tup [.int (MFrame.lo x far), .int (MFrame.hi w x far)]

theorem ok_columns_near {f : Addr} {fd : FuncData} (T : Tx K mg C) (F : Fun K "columns_near" "Frame.columns_near" s_columns_near f fd) : FnOk P w K mg base CX0 1 f fd ["self", "x", "far"] (spD K C R_columns_near) := by
  refine okD F sc_columns_near (fun ds d r => ?_) fun cdv A outer s H E hr => ⟨_, (pss_one (ps_ret (pe_tup (pa_cons (pe_callB (call_max2 rfl) (by rfl) T.b_max (by decide +kernel) (pa_cons pe_int (pa_cons (pe_op op_fdivW (pe_op op_sub (pv 1) (pv 2)) (pe_gint T.g_PLACE (by rfl))) pa_nil))) (pa_cons (pe_callB (call_min2 rfl) (by rfl) T.b_min (by decide +kernel) (pa_cons (pe_fld (pv 0) rfl) (pa_cons (pe_op op_add (pe_op op_fdivW (pe_op op_add (pv 1) (pv 2)) (pe_gint T.g_PLACE (by rfl))) pe_int) pa_nil))) pa_nil))))), fun ds d r G0 Q q => ?_⟩
  · obtain ⟨w, h, f, x, far, rfl, rfl⟩ := r
    rfl
  · obtain ⟨w, h, f, x, far, rfl, rfl⟩ := r
    refine s_ret (d := .tup [.int (MFrame.lo x far), .int (MFrame.hi w x far)]) (ed_tup (ea_cons (ed_max2 ed_int (ed_div (ed_sub (ed_var rfl) (ed_var rfl)) ed_int ⟨by decide, by decide⟩)) (ea_cons (ed_min2 (ed_wide T.X (ed_var rfl)) (ed_add (ed_div (ed_add (ed_var rfl) (ed_var rfl)) ed_int ⟨by decide, by decide⟩) ed_int)) ea_nil))) q

/-! ### Frame.rows_near -/
def R_rows_near (ds : List Dt) (d : Dt) : Prop := ∃ (w h : Nat) (f : List Int) (x far : Int), ds = [.frm w h f, .int x, .int far] ∧ d = .tup [.int (MFrame.lo x far), .int (MFrame.hi h x far)]

theorem ok_rows_near {f : Addr} {fd : FuncData} (T : Tx K mg C) (F : Fun K "rows_near" "Frame.rows_near" s_rows_near f fd) : FnOk P w K mg base CX0 1 f fd ["self", "y", "far"] (spD K C R_rows_near) := by
  refine okD F sc_rows_near (fun ds d r => ?_) fun cdv A outer s H E hr => ⟨_, (pss_one (ps_ret (pe_tup (pa_cons (pe_callB (call_max2 rfl) (by rfl) T.b_max (by decide +kernel) (pa_cons pe_int (pa_cons (pe_op op_fdivW (pe_op op_sub (pv 1) (pv 2)) (pe_gint T.g_PLACE (by rfl))) pa_nil))) (pa_cons (pe_callB (call_min2 rfl) (by rfl) T.b_min (by decide +kernel) (pa_cons (pe_fld (pv 0) rfl) (pa_cons (pe_op op_add (pe_op op_fdivW (pe_op op_add (pv 1) (pv 2)) (pe_gint T.g_PLACE (by rfl))) pe_int) pa_nil))) pa_nil))))), fun ds d r G0 Q q => ?_⟩
  · obtain ⟨w, h, f, x, far, rfl, rfl⟩ := r
    rfl
  · obtain ⟨w, h, f, x, far, rfl, rfl⟩ := r
    refine s_ret (d := .tup [.int (MFrame.lo x far), .int (MFrame.hi h x far)]) (ed_tup (ea_cons (ed_max2 ed_int (ed_div (ed_sub (ed_var rfl) (ed_var rfl)) ed_int ⟨by decide, by decide⟩)) (ea_cons (ed_min2 (ed_high T.X (ed_var rfl)) (ed_add (ed_div (ed_add (ed_var rfl) (ed_var rfl)) ed_int ⟨by decide, by decide⟩) ed_int)) ea_nil))) q

/-! ### Frame.places_near -/
def R_places_near (ds : List Dt) (d : Dt) : Prop := ∃ (w h : Nat) (f : List Int) (x y far : Int), ds = [.frm w h f, .int x, .int y, .int far] ∧ w ≤ 64 ∧ h ≤ 64 ∧ -(2 ^ 40) ≤ x ∧ x ≤ 2 ^ 40 ∧ -(2 ^ 40) ≤ y ∧ y ≤ 2 ^ 40 ∧ 0 ≤ far ∧ far ≤ 4096 ∧ d = .lst ((MFrame.pln w h x y far).map dp)
theorem ed_places {Γ : Ct} {ta tb tc td : TE} {E : XK} {w h : Nat} {f : List Int} {x y far : Int} (ha : EvD K C ta Γ (.frm w h f)) (hb : EvD K C tb Γ (.int x)) (hc : EvD K C tc Γ (.int y)) (hd : EvD K C td Γ (.int far)) (hw : w ≤ 64) (hh : h ≤ 64)
    (hx : -(2 ^ 40) ≤ x ∧ x ≤ 2 ^ 40) (hy : -(2 ^ 40) ≤ y ∧ y ≤ 2 ^ 40) (hf : 0 ≤ far ∧ far ≤ 4096) :
    EvD K C (tMeth C "places_near" (spD K C R_places_near) [] E ta (tCons tb (tCons tc (tCons td tNil)))) Γ (.lst ((MFrame.pln w h x y far).map dp)) :=
  ed_meth (fun _ _ _ => by rfl) ha (ea_cons hb (ea_cons hc (ea_cons hd ea_nil))) ⟨w, h, f, x, y, far, rfl, hw, hh, hx.1, hx.2, hy.1, hy.2, hf.1, hf.2, rfl⟩
theorem lo_rg {x far : Int} (hx : -(2 ^ 40) ≤ x) (hx' : x ≤ 2 ^ 40) (h0 : 0 ≤ far) (h1 : far ≤ 4096) : -(2 ^ 62) ≤ MFrame.lo x far ∧ MFrame.lo x far < 2 ^ 62 := by
  unfold MFrame.lo
  split <;> omega
theorem hi_rg {n : Nat} {x far : Int} (hn : n ≤ 64) (hx : -(2 ^ 40) ≤ x) (hx' : x ≤ 2 ^ 40) (h0 : 0 ≤ far) (h1 : far ≤ 4096) : -(2 ^ 62) ≤ MFrame.hi n x far ∧ MFrame.hi n x far < 2 ^ 62 := by
  unfold MFrame.hi
  split <;> omega
theorem cn_le (n : Nat) (x far : Int) : MFrame.cn n x far ≤ n := by
  have := MFrame.box_ok n x far
  omega
theorem flat_len {β : Type} (k : Nat) (F : Nat → Nat → β) (n : Nat) : ((List.range n).flatMap fun i => (List.range k).map fun j => F i j).length = k * n := by
  induction n with
  | zero => rfl
  | succ n ih =>
    rw [List.range_succ, List.flatMap_append, List.length_append, ih, List.flatMap_cons, List.flatMap_nil, List.append_nil, List.length_map, List.length_range, Nat.mul_succ]

theorem ok_places_near {f : Addr} {fd : FuncData} (T : Tx K mg C) (F : Fun K "places_near" "Frame.places_near" s_places_near f fd) (h_columns_near : Mel P w K mg base C 1 "columns_near" ["self", "x", "far"] R_columns_near) (h_rows_near : Mel P w K mg base C 1 "rows_near" ["self", "y", "far"] R_rows_near) : FnOk P w K mg base CX0 2 f fd ["self", "x", "y", "far"] (spD K C R_places_near) := by
  obtain ⟨f_columns_near, fd_columns_near, G_columns_near, m_columns_near, bi_columns_near⟩ := h_columns_near
  obtain ⟨f_rows_near, fd_rows_near, G_rows_near, m_rows_near, bi_rows_near⟩ := h_rows_near
  refine okD F sc_places_near (fun ds d r => ?_) fun cdv A outer s H E hr => ⟨_, (pss_cons (ps_set (i := 4) sc_places_near.nd rfl (Or.inl rfl) (pe_lst pa_nil))
      (pss_cons (ps_asg (pe_meth (pv 0) T.cl m_columns_near G_columns_near (hr.mono (by decide)) bi_columns_near .nil pass0 (pa_cons (pv 1) (pa_cons (pv 3) pa_nil))) (pg_tup (by rfl) (pgs_cons (pg_name (i := 5) sc_places_near.nd rfl (Or.inl rfl)) (pgs_cons (pg_name (i := 6) sc_places_near.nd rfl (Or.inl rfl)) pgs_nil))))
      (pss_cons (ps_asg (pe_meth (pv 0) T.cl m_rows_near G_rows_near (hr.mono (by decide)) bi_rows_near .nil pass0 (pa_cons (pv 2) (pa_cons (pv 3) pa_nil))) (pg_tup (by rfl) (pgs_cons (pg_name (i := 7) sc_places_near.nd rfl (Or.inl rfl)) (pgs_cons (pg_name (i := 8) sc_places_near.nd rfl (Or.inl rfl)) pgs_nil))))
      (pss_cons (ps_for PassesOwn.never rfl (pi_range2 (by rfl) T.b_range (pa_cons (pv 7) (pa_cons (pv 8) pa_nil))) (pg_name (i := 9) sc_places_near.nd rfl (Or.inr rfl)) (pss_one (ps_expr (pe_bm PySem.F.plainAttrs_list PySem.F.slot_list_extend PySem.F.type_list_extend mt_extend (pv 4) (pa_cons (pe_lc (own := [("column", 10)]) (tt := tYes) (by rfl) sc_places_near.nd (pi_range2 (by rfl) T.b_range (pa_cons (pv 5) (pa_cons (pv 6) pa_nil))) (blkOk_by (N := ["self", "x", "y", "far", "found", "first", "last", "begin", "end", "row", "column"]) (sc := defScope s_places_near) (by decide +kernel)) (fun _ _ _ _ _ => (pg_name (i := 10) sc_places_near.nd rfl (Or.inl rfl))) (fun _ _ _ _ _ => pts_nil) (fun _ _ _ _ _ => (pe_tup (pa_cons (pv 10) (pa_cons (pv 9) pa_nil))))) pa_nil)))))
      (pss_one (ps_ret (pv 4))))))), fun ds d r G0 Q q => ?_⟩
  · obtain ⟨w, h, f, x, y, far, rfl, hw, hh, hx1, hx2, hy1, hy2, hf1, hf2, rfl⟩ := r
    rfl
  · obtain ⟨w, h, f, x, y, far, rfl, hw, hh, hx1, hx2, hy1, hy2, hf1, hf2, rfl⟩ := r
    refine q_new ea_nil ?_ (by show 4 < 11; decide)
    refine q_to (ed_meth (fun _ _ _ => by rfl) (ed_var rfl) (ea_cons (ed_var rfl) (ea_cons (ed_var rfl) ea_nil)) ⟨w, h, f, x, far, rfl, rfl⟩) tg_two rfl ?_
    refine q_to (ed_meth (fun _ _ _ => by rfl) (ed_var rfl) (ea_cons (ed_var rfl) (ea_cons (ed_var rfl) ea_nil)) ⟨w, h, f, y, far, rfl, rfl⟩) tg_two rfl ?_
    have lx := lo_rg hx1 hx2 hf1 hf2
    have ly := lo_rg hy1 hy2 hf1 hf2
    have ux := hi_rg hw hx1 hx2 hf1 hf2
    have uy := hi_rg hh hy1 hy2 hf1 hf2
    refine q_for (es_rng2 (ea_cons (ed_var rfl) (ea_cons (ed_var rfl) ea_nil)) ⟨ly.1, ly.2, uy.1, uy.2⟩)
      (fun i Γ1 M1 => i ≤ MFrame.cn h y far ∧ ∃ xr, Γ1 = [some (.frm w h f), some (.int x), some (.int y), some (.int far), none, some (.int (MFrame.lo x far)), some (.int (MFrame.hi w x far)), some (.int (MFrame.lo y far)), some (.int (MFrame.hi h y far)), xr, none] ∧
        M1 = some (4, ((List.range i).flatMap fun i => (List.range (MFrame.cn w x far)).map fun j => (MFrame.c0 x far + j, MFrame.c0 y far + i)).map dp)) ⟨Nat.zero_le _, _, rfl, rfl⟩ ?_ ?_
    · rintro Ga i d Γ1 M1 N _ hi ⟨_, xr, rfl, rfl⟩ hN
      have hi' := (List.getElem?_eq_some_iff.mp hi).1
      have hn : (rng (MFrame.lo y far) (MFrame.hi h y far - MFrame.lo y far).toNat).length = MFrame.cn h y far := by simp [rng, MFrame.cn]
      rw [hn] at hi'
      unfold rng at hi
      rw [List.getElem?_map, List.getElem?_range (by exact hi')] at hi
      cases Option.some.inj hi
      refine ⟨_, _, tg_name, rfl, ?_⟩
      refine s_ext (EvN.eq (en_lc (List.range (MFrame.cn w x far)) (fun (t : Nat) => Dt.int (MFrame.lo x far + (t : Int))) (fun (t : Nat) => dp (MFrame.c0 x far + t, MFrame.c0 y far + i))
        (es_rng2 (ea_cons (ed_var rfl) (ea_cons (ed_var rfl) ea_nil)) ⟨lx.1, lx.2, ux.1, ux.2⟩).w ?_ _ (fun z _ => tg_name) (fun z hz => ?_)) (es := ((List.range (MFrame.cn w x far)).map fun j => (MFrame.c0 x far + j, MFrame.c0 y far + i)).map dp) (by rw [List.map_map]; rfl)) ?_ (hN _ _ ⟨by omega, _, rfl, ?_⟩)
      · rw [List.length_range]
        have := cn_le w x far
        omega
      · have e1 : MFrame.lo x far + (z : Int) = ((MFrame.c0 x far + z : Nat) : Int) := by rw [MFrame.lo_c0, Int.natCast_add]
        have e2 : MFrame.lo y far + (i : Int) = ((MFrame.c0 y far + i : Nat) : Int) := by rw [MFrame.lo_c0, Int.natCast_add]
        exact ed_tup (ea_cons (EvD.eq (ed_var rfl) (congrArg Dt.int e1)) (ea_cons (EvD.eq (ed_var rfl) (congrArg Dt.int e2)) ea_nil))
      · rw [List.length_map, flat_len, List.length_map, List.length_map, List.length_range]
        have a1 := cn_le w x far
        have a2 := cn_le h y far
        have := Nat.mul_le_mul (show MFrame.cn w x far ≤ 64 by omega) (show i ≤ 64 by omega)
        omega
      · rw [List.range_succ, List.flatMap_append, List.flatMap_cons, List.flatMap_nil, List.append_nil, List.map_append]
    · rintro Γ1 M1 ⟨_, xr, rfl, rfl⟩
      refine s_retM ?_
      have hn : (rng (MFrame.lo y far) (MFrame.hi h y far - MFrame.lo y far).toNat).length = MFrame.cn h y far := by simp [rng, MFrame.cn]
      rw [hn]
      exact q

/-! ### middle_of -/
def R_middle_of (ds : List Dt) (d : Dt) : Prop := ∃ c k : Nat, ds = [dp (c, k)] ∧ d = dq (MRing.mid (c, k))

theorem ok_middle_of {f : Addr} {fd : FuncData} (T : Tx K mg C) (F : Fun K "middle_of" "middle_of" s_middle_of f fd) : FnOk P w K mg base CX0 1 f fd ["place"] (spD K C R_middle_of) := by
  refine okD F sc_middle_of (fun ds d r => ?_) fun cdv A outer s H E hr => ⟨_, (pss_cons (ps_asg (pv 0) (pg_tup (by rfl) (pgs_cons (pg_name (i := 1) sc_middle_of.nd rfl (Or.inl rfl)) (pgs_cons (pg_name (i := 2) sc_middle_of.nd rfl (Or.inl rfl)) pgs_nil))))
      (pss_one (ps_ret (pe_tup (pa_cons (pe_op op_add (pe_op op_mul (pe_gint T.g_PLACE (by rfl)) (pv 1)) (pe_gint T.g_HALF (by rfl))) (pa_cons (pe_op op_add (pe_op op_mul (pe_gint T.g_PLACE (by rfl)) (pv 2)) (pe_gint T.g_HALF (by rfl))) pa_nil)))))), fun ds d r G0 Q q => ?_⟩
  · obtain ⟨c, k, rfl, rfl⟩ := r
    rfl
  · obtain ⟨c, k, rfl, rfl⟩ := r
    refine q_to (ed_var rfl) tg_two rfl ?_
    have e1 : ∀ n : Nat, 64 * (n : Int) + 32 = ((64 * n + 32 : Nat) : Int) := fun n => by omega
    refine s_ret (d := dq (MRing.mid (c, k))) (ed_tup (ea_cons (EvD.eq (ed_add (ed_mul ed_int (ed_var rfl) (Or.inl ⟨by decide, by decide⟩)) ed_int) (congrArg Dt.int (e1 c))) (ea_cons (EvD.eq (ed_add (ed_mul ed_int (ed_var rfl) (Or.inl ⟨by decide, by decide⟩)) ed_int) (congrArg Dt.int (e1 k))) ea_nil))) q

/-! ### Frame.number -/
def R_number (ds : List Dt) (d : Dt) : Prop := ∃ (w h c q : Nat) (fn : List Nat), ds = [FR w h fn, .int c, .int q] ∧ w * q + c < fn.length ∧ w ≤ 64 ∧ d = .int ((fn.getD (w * q + c) 0 : Nat) : Int)
theorem ed_number {Γ : Ct} {ta tb tc : TE} {E : XK} {w h c q : Nat} {fn : List Nat} (ha : EvD K C ta Γ (FR w h fn)) (hb : EvD K C tb Γ (.int c)) (hc : EvD K C tc Γ (.int q)) (hl : w * q + c < fn.length) (hw : w ≤ 64) :
    EvD K C (tMeth C "number" (spD K C R_number) [] E ta (tCons tb (tCons tc tNil))) Γ (.int ((fn.getD (w * q + c) 0 : Nat) : Int)) := ed_meth (fun _ _ _ => by rfl) ha (ea_cons hb (ea_cons hc ea_nil)) ⟨w, h, c, q, fn, rfl, hl, hw, rfl⟩

theorem ok_number {f : Addr} {fd : FuncData} (T : Tx K mg C) (F : Fun K "number" "Frame.number" s_number f fd) : FnOk P w K mg base CX0 1 f fd ["self", "column", "row"] (spD K C R_number) := by
  refine okD F sc_number (fun ds d r => ?_) fun cdv A outer s H E hr => ⟨_, (pss_one (ps_ret (pe_ix (ix_listK (K := K) rfl) (pe_fld (pv 0) rfl) (pe_op op_add (pe_op op_mul (pe_fld (pv 0) rfl) (pv 2)) (pv 1)) (fun _ _ => rfl)))), fun ds d r G0 Q q => ?_⟩
  · obtain ⟨w, h, c, q, fn, rfl, hl, hw, rfl⟩ := r
    rfl
  · obtain ⟨w, h, c, q, fn, rfl, hl, hw, rfl⟩ := r
    rename_i q0
    refine s_ret (ed_ixL (n := w * q0 + c) (by rw [ints_is]; exact nat_at hl) (ed_numbers T.X (ed_var rfl)) (EvD.eq (ed_add (ed_mul (ed_wide T.X (ed_var rfl)) (ed_var rfl) (Or.inl ⟨by omega, by omega⟩)) (ed_var rfl)) (congrArg Dt.int (by rw [Int.natCast_add, Int.natCast_mul])))) q

/-! ### square_of -/
def R_square_of (ds : List Dt) (d : Dt) : Prop := ∃ a b : Int × Int, ds = [dq a, dq b] ∧ (-(2 ^ 41) ≤ a.1 - b.1 ∧ a.1 - b.1 ≤ 2 ^ 41) ∧ (-(2 ^ 41) ≤ a.2 - b.2 ∧ a.2 - b.2 ≤ 2 ^ 41) ∧ d = .int (MRing.sqd a b)

theorem ok_square_of {f : Addr} {fd : FuncData} (T : Tx K mg C) (F : Fun K "square_of" "square_of" s_square_of f fd) : FnOk P w K mg base CX0 1 f fd ["spot", "other"] (spD K C R_square_of) := by
  refine okD F sc_square_of (fun ds d r => ?_) fun cdv A outer s H E hr => ⟨_, (pss_cons (ps_par (i := 2) (j := 3) (by rfl) sc_square_of.nd rfl rfl (by decide) rfl rfl (pa_cons (pe_op op_sub (pe_ix (ix_tupK (K := K) rfl) (pv 0) pe_int (fun _ _ => rfl)) (pe_ix (ix_tupK (K := K) rfl) (pv 1) pe_int (fun _ _ => rfl))) (pa_cons (pe_op op_sub (pe_ix (ix_tupK (K := K) rfl) (pv 0) pe_int (fun _ _ => rfl)) (pe_ix (ix_tupK (K := K) rfl) (pv 1) pe_int (fun _ _ => rfl))) pa_nil)) (by rfl))
      (pss_one (ps_ret (pe_op op_add (pe_op op_mul (pv 2) (pv 2)) (pe_op op_mul (pv 3) (pv 3)))))), fun ds d r G0 Q q => ?_⟩
  · obtain ⟨a, b, rfl, h1, h2, rfl⟩ := r
    rfl
  · obtain ⟨a, b, rfl, h1, h2, rfl⟩ := r
    refine q_two (ea_cons (ed_sub (ed_at0 (ed_var rfl)) (ed_at0 (ed_var rfl))) (ea_cons (ed_sub (ed_at1 (ed_var rfl)) (ed_at1 (ed_var rfl))) ea_nil)) rfl ?_
    exact s_ret (d := .int (MRing.sqd a b)) (ed_add (ed_mul (ed_var rfl) (ed_var rfl) (Or.inl ⟨by omega, by omega⟩)) (ed_mul (ed_var rfl) (ed_var rfl) (Or.inl ⟨by omega, by omega⟩))) q

/-! ### weights -/
def R_weights (ds : List Dt) (d : Dt) : Prop := ∃ (w h : Nat) (fn : List Nat) (x y r : Int) (level : Nat), ds = [FR w h fn, dq (x, y), .int level, .int r] ∧ FOk w h fn ∧ -(2 ^ 40) ≤ x ∧ x ≤ 2 ^ 40 ∧ -(2 ^ 40) ≤ y ∧ y ≤ 2 ^ 40 ∧ 0 ≤ r ∧ r ≤ 4096 ∧
  d = .lst ((MWeigh.rows w h fn level x y r).map dw)

theorem ok_weights {f : Addr} {fd : FuncData} (T : Tx K mg C) (F : Fun K "weights" "weights" s_weights f fd) (h_places_near : Mel P w K mg base C 2 "places_near" ["self", "x", "y", "far"] R_places_near) (h_middle_of : Cal P w K mg base C 1 "middle_of" ["place"] R_middle_of) (h_number : Mel P w K mg base C 1 "number" ["self", "column", "row"] R_number) (h_square_of : Cal P w K mg base C 1 "square_of" ["spot", "other"] R_square_of) : FnOk P w K mg base CX0 3 f fd ["frame", "spot", "level", "radius"] (spD K C R_weights) := by
  obtain ⟨f_places_near, fd_places_near, G_places_near, m_places_near, bi_places_near⟩ := h_places_near
  obtain ⟨f_middle_of, fd_middle_of, G_middle_of, m_middle_of, kp_middle_of, bi_middle_of⟩ := h_middle_of
  obtain ⟨f_number, fd_number, G_number, m_number, bi_number⟩ := h_number
  obtain ⟨f_square_of, fd_square_of, G_square_of, m_square_of, kp_square_of, bi_square_of⟩ := h_square_of
  refine okD F sc_weights (fun ds d r => ?_) fun cdv A outer s H E hr => ⟨_, (pss_cons (ps_set (i := 4) sc_weights.nd rfl (Or.inl rfl) (pe_lst pa_nil))
      (pss_cons (ps_for PassesOwn.never rfl (pi_list (pe_meth (pv 0) T.cl m_places_near G_places_near (hr.mono (by decide)) bi_places_near .nil pass0 (pa_cons (pe_ix (ix_tupK (K := K) rfl) (pv 1) pe_int (fun _ _ => rfl)) (pa_cons (pe_ix (ix_tupK (K := K) rfl) (pv 1) pe_int (fun _ _ => rfl)) (pa_cons (pv 3) pa_nil))))) (pg_name (i := 5) sc_weights.nd rfl (Or.inl rfl)) (pss_cons (ps_set (i := 6) sc_weights.nd rfl (Or.inl rfl) (pe_op op_sub (pe_meth (pv 0) T.cl m_number G_number (hr.mono (by decide)) bi_number .nil pass0 (pa_cons (pe_ix (ix_tupK (K := K) rfl) (pv 5) pe_int (fun _ _ => rfl)) (pa_cons (pe_ix (ix_tupK (K := K) rfl) (pv 5) pe_int (fun _ _ => rfl)) pa_nil))) (pv 2)))
      (pss_cons (ps_set (i := 7) sc_weights.nd rfl (Or.inl rfl) (pe_call G_middle_of (hr.mono (by decide)) (by rfl) m_middle_of kp_middle_of bi_middle_of .nil pass0 (pa_cons (pv 5) pa_nil)))
      (pss_one (ps_if (PW.pt (pw_and (pt_cmpR op_gt (pv 6) pe_int (nomark _)) (pw_and1 (pt_cmpR op_le (pe_call G_square_of (hr.mono (by decide)) (by rfl) m_square_of kp_square_of bi_square_of .nil pass0 (pa_cons (pv 7) (pa_cons (pv 1) pa_nil))) (pe_op op_mul (pv 3) (pv 3)) (nomark _))))) (pss_one (ps_expr (pe_bm PySem.F.plainAttrs_list PySem.F.slot_list_append PySem.F.type_list_append mt_append (pv 4) (pa_cons (pe_tup (pa_cons (pv 7) (pa_cons (pv 6) pa_nil))) pa_nil)))) pss_nil)))))
      (pss_one (ps_ret (pv 4))))), fun ds d r G0 Q q => ?_⟩
  · obtain ⟨wi, he, fn, x, y, r, level, rfl, F, hx1, hx2, hy1, hy2, hr1, hr2, rfl⟩ := r
    rfl
  · obtain ⟨wi, he, fn, x, y, r, level, rfl, F, hx1, hx2, hy1, hy2, hr1, hr2, rfl⟩ := r
    refine q_new ea_nil ?_ (by show 4 < 8; decide)
    have mem := fun p hp => MFrame.pln_mem (w := wi) (h := he) (x := x) (y := y) (r := r) (p := p) hp
    have len := MRing.pln_len wi he x y r
    have len2 : wi * he ≤ 4096 := Nat.mul_le_mul F.w64 F.h64
    refine q_for (es_list (ed_places (ed_var rfl) (ed_at0 (ed_var rfl)) (ed_at1 (ed_var rfl)) (ed_var rfl) F.w64 F.h64 ⟨hx1, hx2⟩ ⟨hy1, hy2⟩ ⟨hr1, hr2⟩))
      (fun i Γ1 M1 => ∃ xp xa xm, Γ1 = [some (FR wi he fn), some (dq (x, y)), some (.int level), some (.int r), none, xp, xa, xm] ∧ M1 = some (4, (((MFrame.pln wi he x y r).take i).flatMap (MWeigh.wt fn wi level x y r)).map dw)) ⟨_, _, _, rfl, rfl⟩ ?_ ?_
    · rintro Ga i d Γ1 M1 N _ hi ⟨xp, xa, xm, rfl, rfl⟩ hN
      have hi' := (List.getElem?_eq_some_iff.mp hi).1
      rw [List.length_map] at hi'
      have gi : (MFrame.pln wi he x y r)[i]? = some (MFrame.pln wi he x y r)[i] := List.getElem?_eq_getElem hi'
      rw [List.getElem?_map, gi] at hi
      cases Option.some.inj hi
      have mp := mem _ (List.getElem_mem hi')
      generalize (MFrame.pln wi he x y r)[i] = p at gi mp
      have hw := F.w64
      have hh := F.h64
      have rg := mid_rg (p := p) (by omega) (by omega) hx1 hx2 hy1 hy2
      refine ⟨_, _, tg_name, rfl, ?_⟩
      refine q_set (d := .int (((fn.getD (wi * p.2 + p.1) 0 : Nat) : Int) - level)) (ed_sub (ed_number (ed_var rfl) (ed_at0 (ed_var rfl)) (ed_at1 (ed_var rfl)) (F.in_ mp.1 mp.2) hw) (ed_var rfl)) rfl ?_
      refine q_set (d := dq (MRing.mid p)) (ed_call (ea_cons (ed_var rfl) ea_nil) ⟨p.1, p.2, rfl, rfl⟩) rfl ?_
      have fl := MRing.flat_le (MWeigh.wt fn wi level x y r) (fun p => by
        rcases MWeigh.wt_cases fn wi level x y r p with e | ⟨k, h1, h2, e⟩
        · rw [e]; exact Nat.zero_le _
        · rw [e]; exact Nat.le_refl _) ((MFrame.pln wi he x y r).take i)
      rw [List.length_take] at fl
      have e1 : ((MFrame.pln wi he x y r).take (i + 1)).flatMap (MWeigh.wt fn wi level x y r) = ((MFrame.pln wi he x y r).take i).flatMap (MWeigh.wt fn wi level x y r) ++ MWeigh.wt fn wi level x y r p := by
        rw [take_one gi, List.flatMap_append, List.flatMap_cons, List.flatMap_nil, List.append_nil]
      refine s_if (b := decide ((0 : Int) < ((fn.getD (wi * p.2 + p.1) 0 : Nat) : Int) - level) && decide (MRing.sqd (MRing.mid p) (x, y) ≤ r * r)) (eb_and (eb_t (ed_gt (ed_var rfl) ed_int)) (eb_t (ed_le (ed_call (ea_cons (ed_var rfl) (ea_cons (ed_var rfl) ea_nil)) ⟨MRing.mid p, (x, y), rfl, rg.1, rg.2, rfl⟩) (ed_mul (ed_var rfl) (ed_var rfl) (Or.inl ⟨by omega, by omega⟩))))) (fun hc => ?_) (fun hc => ?_)
      · rw [Bool.and_eq_true, decide_eq_true_eq, decide_eq_true_eq] at hc
        refine s_app (d := dw (p, fn.getD (wi * p.2 + p.1) 0 - level)) (ed_tup (ea_cons (ed_var rfl) (ea_cons (EvD.eq (ed_var rfl) (congrArg Dt.int (by omega))) ea_nil))) ?_ (hN _ _ ⟨_, _, _, rfl, ?_⟩)
        · rw [List.length_map]
          omega
        · have e2 : MWeigh.wt fn wi level x y r p = [(p, fn.getD (wi * p.2 + p.1) 0 - level)] := if_pos ⟨by omega, hc.2⟩
          rw [e1, e2, List.map_append]
          rfl
      · refine s_next (hN _ _ ⟨_, _, _, rfl, ?_⟩)
        have hc' : ¬ (level < fn.getD (wi * p.2 + p.1) 0 ∧ MRing.sqd (MRing.mid p) (x, y) ≤ r * r) := fun z => by
          rw [decide_eq_true (show (0 : Int) < ((fn.getD (wi * p.2 + p.1) 0 : Nat) : Int) - level by omega), decide_eq_true z.2] at hc
          cases hc
        have e2 : MWeigh.wt fn wi level x y r p = [] := if_neg hc'
        rw [e1, e2, List.append_nil]
    · rintro Γ1 M1 ⟨xp, xa, xm, rfl, rfl⟩
      rw [List.length_map, List.take_length]
      exact s_retM q

/-! ### are_sides -/
def sidesOk (w h : Int) : Bool := (decide (1 ≤ w) && decide (w ≤ 64)) && (decide (1 ≤ h) && decide (h ≤ 64))
def R_are_sides (ds : List Dt) (d : Dt) : Prop := ∃ w h : Int, ds = [.int w, .int h] ∧ d = .bl (sidesOk w h)

theorem ok_are_sides {f : Addr} {fd : FuncData} (T : Tx K mg C) (F : Fun K "are_sides" "are_sides" s_are_sides f fd) : FnOk P w K mg base CX0 1 f fd ["wide", "high"] (spD K C R_are_sides) := by
  refine okD F sc_are_sides (fun ds d r => ?_) fun cdv A outer s H E hr => ⟨_, (pss_one (ps_ret (pe_and (pe_chain op_le op_le pe_int (pv 0) (pe_gint T.g_MOST_SIDE (by rfl))) (pe_one (pe_chain op_le op_le pe_int (pv 1) (pe_gint T.g_MOST_SIDE (by rfl))))))), fun ds d r G0 Q q => ?_⟩
  · obtain ⟨w, h, rfl, rfl⟩ := r
    rfl
  · obtain ⟨w, h, rfl, rfl⟩ := r
    exact s_ret (d := .bl (sidesOk w h)) (ed_andV (ed_chainLe (by walk_at "ev") (by walk_at "ev") (by walk_at "ev")) (ed_chainLe (by walk_at "ev") (by walk_at "ev") (by walk_at "ev"))) q

/-! ### are_places -/
def R_are_places (ds : List Dt) (d : Dt) : Prop := ∃ xs : List Dt, ds = [.lst xs] ∧ d = .bl (decide ((xs.length : Int) ≤ 128))

theorem ok_are_places {f : Addr} {fd : FuncData} (T : Tx K mg C) (F : Fun K "are_places" "are_places" s_are_places f fd) : FnOk P w K mg base CX0 1 f fd ["xy"] (spD K C R_are_places) := by
  refine okD F sc_are_places (fun ds d r => ?_) fun cdv A outer s H E hr => ⟨_, (pss_one (ps_ret (pe_cmpR op_le (pe_callB call_len_seq (by rfl) T.b_len (by decide +kernel) (pa_cons (pv 0) pa_nil)) (pe_op op_mul pe_int (pe_gint T.g_MOST_PLACES (by rfl))) (nomark _)))), fun ds d r G0 Q q => ?_⟩
  · obtain ⟨xs, rfl, rfl⟩ := r
    rfl
  · obtain ⟨xs, rfl, rfl⟩ := r
    exact s_ret (d := .bl (decide ((xs.length : Int) ≤ 2 * 64))) (ed_le (by walk_at "ev") (ed_mul (by walk_at "ev") (by walk_at "ev") (Or.inl ⟨by decide, by decide⟩))) q

/-! ### are_seen -/
def R_are_seen (ds : List Dt) (d : Dt) : Prop := ∃ (w h : Int) (xs : List Dt), ds = [.int w, .int h, .lst xs] ∧ d = .bl (sidesOk w h && decide ((xs.length : Int) ≤ 128))

theorem ok_are_seen {f : Addr} {fd : FuncData} (T : Tx K mg C) (F : Fun K "are_seen" "are_seen" s_are_seen f fd) (h_are_sides : Cal P w K mg base C 1 "are_sides" ["wide", "high"] R_are_sides) (h_are_places : Cal P w K mg base C 1 "are_places" ["xy"] R_are_places) : FnOk P w K mg base CX0 2 f fd ["wide", "high", "xy"] (spD K C R_are_seen) := by
  obtain ⟨f_are_sides, fd_are_sides, G_are_sides, m_are_sides, kp_are_sides, bi_are_sides⟩ := h_are_sides
  obtain ⟨f_are_places, fd_are_places, G_are_places, m_are_places, kp_are_places, bi_are_places⟩ := h_are_places
  refine okD F sc_are_seen (fun ds d r => ?_) fun cdv A outer s H E hr => ⟨_, (pss_one (ps_ret (pe_and (pe_call G_are_sides (hr.mono (by decide)) (by rfl) m_are_sides kp_are_sides bi_are_sides .nil pass0 (pa_cons (pv 0) (pa_cons (pv 1) pa_nil))) (pe_one (pe_call G_are_places (hr.mono (by decide)) (by rfl) m_are_places kp_are_places bi_are_places .nil pass0 (pa_cons (pv 2) pa_nil)))))), fun ds d r G0 Q q => ?_⟩
  · obtain ⟨w, h, xs, rfl, rfl⟩ := r
    rfl
  · obtain ⟨w, h, xs, rfl, rfl⟩ := r
    exact s_ret (ed_andV (ed_call (ea_cons (ed_var rfl) (ea_cons (ed_var rfl) ea_nil)) ⟨w, h, rfl, rfl⟩) (ed_call (ea_cons (ed_var rfl) ea_nil) ⟨xs, rfl, rfl⟩)) q

/-! ### are_radii -/
def R_are_radii (ds : List Dt) (d : Dt) : Prop := ∃ rs : List Int, ds = [.lst (rs.map Dt.int)] ∧ rs.length ≤ 100 ∧ d = .bl ((rs.map fun r => decide (r ≤ 4096)).all id)

theorem ok_are_radii {f : Addr} {fd : FuncData} (T : Tx K mg C) (F : Fun K "are_radii" "are_radii" s_are_radii f fd) : FnOk P w K mg base CX0 1 f fd ["radii"] (spD K C R_are_radii) := by
  refine okD F sc_are_radii (fun ds d r => ?_) fun cdv A outer s H E hr => ⟨_, (pss_one (ps_ret (pe_callB (cr_all rfl) (by rfl) T.b_all (by decide +kernel) (pa_cons (pe_lc (own := [("radius", 1)]) (tt := tYes) (by rfl) sc_are_radii.nd (pi_list (pv 0)) (blkOk_by (N := ["radii", "radius"]) (sc := defScope s_are_radii) (by decide +kernel)) (fun _ _ _ _ _ => (pg_name (i := 1) sc_are_radii.nd rfl (Or.inl rfl))) (fun _ _ _ _ _ => pts_nil) (fun _ _ _ _ _ => (pe_cmpR op_le (pv 1) (pe_gint T.g_MOST_RADIUS (by rfl)) (nomark _)))) pa_nil)))), fun ds d r G0 Q q => ?_⟩
  · obtain ⟨rs, rfl, hl, rfl⟩ := r
    rfl
  · obtain ⟨rs, rfl, hl, rfl⟩ := r
    exact s_ret (ed_all (EvN.asD (EvN.eq (en_lc rs Dt.int (fun r => .bl (decide (r ≤ 4096))) (es_list (ed_var rfl)).w (by omega) _ (fun z _ => tg_name) (fun z hz => by walk_at "ev")) (es := (rs.map fun r => decide (r ≤ 4096)).map Dt.bl) (by rw [List.map_map]; rfl)))) q

/-! ### as_word -/
def R_as_word (ds : List Dt) (d : Dt) : Prop := ∃ n : Int, ds = [.int n] ∧ d = .int (n % 4294967296)
theorem ed_word {Γ : Ct} {ta : TE} {E : XK} {n : Int} (h : EvD K C ta Γ (.int n)) : EvD K C (tCall (spD K C R_as_word) [] E (tCons ta tNil)) Γ (.int (n % 4294967296)) := ed_call (ea_cons h ea_nil) ⟨n, rfl, rfl⟩

theorem ok_as_word {f : Addr} {fd : FuncData} (T : Tx K mg C) (F : Fun K "as_word" "as_word" s_as_word f fd) : FnOk P w K mg base CX0 1 f fd ["number"] (spD K C R_as_word) := by
  refine okD F sc_as_word (fun ds d r => ?_) fun cdv A outer s H E hr => ⟨_, (pss_one (ps_ret (pe_op op_mod (pv 0) (pe_gint T.g_WORD (by rfl))))), fun ds d r G0 Q q => ?_⟩
  · obtain ⟨n, rfl, rfl⟩ := r
    rfl
  · obtain ⟨n, rfl, rfl⟩ := r
    refine s_ret (d := .int (n % 4294967296)) ?_ q
    walk_at "ev"
    decide

/-! ### sum_of -/
def R_sum_of (ds : List Dt) (d : Dt) : Prop := ∃ l : List MWeigh.W, ds = [.lst (l.map dw)] ∧ l.length ≤ 4096 ∧ d = .int ((MWeigh.whole l : Nat) : Int)

theorem ok_sum_of {f : Addr} {fd : FuncData} (T : Tx K mg C) (F : Fun K "sum_of" "sum_of" s_sum_of f fd) : FnOk P w K mg base CX0 1 f fd ["rows"] (spD K C R_sum_of) := by
  refine okD F sc_sum_of (fun ds d r => ?_) fun cdv A outer s H E hr => ⟨_, (pss_one (ps_ret (pe_callB (cr_sum rfl) (by rfl) T.b_sum (by decide +kernel) (pa_cons (pe_lc (own := [("middle", 1), ("weight", 2)]) (g := gTup K 2 (gCons (gName 1) (gCons (gName 2) gNil))) (tt := tYes) (by rfl) sc_sum_of.nd (pi_list (pv 0)) (blkOk_by (N := ["rows", "middle", "weight"]) (sc := defScope s_sum_of) (by decide +kernel)) (fun _ _ _ _ _ => (pg_tup (by rfl) (pgs_cons (pg_name (i := 1) sc_sum_of.nd rfl (Or.inl rfl)) (pgs_cons (pg_name (i := 2) sc_sum_of.nd rfl (Or.inl rfl)) pgs_nil)))) (fun _ _ _ _ _ => pts_nil) (fun _ _ _ _ _ => (pv 2))) pa_nil)))), fun ds d r G0 Q q => ?_⟩
  · obtain ⟨l, rfl, hl, rfl⟩ := r
    rfl
  · obtain ⟨l, rfl, hl, rfl⟩ := r
    unfold MWeigh.whole at q
    rw [← MWeigh.sum_cast fun z => z.2] at q
    exact s_ret (ed_sum (ns := l.map fun z => (z.2 : Int)) (EvN.asD (EvN.eq (en_lc l dw (fun z => .int (z.2 : Int)) (es_list (ed_var rfl)).w (by omega) _ (fun z _ => tg_two) (fun z hz => ed_var rfl)) (by rw [List.map_map]; rfl)))) q

/-! ### rounded -/
def R_rounded (ds : List Dt) (d : Dt) : Prop := ∃ t b : Int, ds = [.int t, .int b] ∧ 0 < b ∧ b < 2 ^ 60 ∧ d = .int (Sh67.near t b)
theorem ed_rounded {Γ : Ct} {ta tb : TE} {E : XK} {t b : Int} (h : EvD K C ta Γ (.int t)) (h' : EvD K C tb Γ (.int b)) (h0 : 0 < b) (h1 : b < 2 ^ 60) : EvD K C (tCall (spD K C R_rounded) [] E (tCons ta (tCons tb tNil))) Γ (.int (Sh67.near t b)) := ed_call (ea_cons h (ea_cons h' ea_nil)) ⟨t, b, rfl, h0, h1, rfl⟩

theorem ok_rounded {f : Addr} {fd : FuncData} (T : Tx K mg C) (F : Fun K "rounded" "rounded" s_rounded f fd) : FnOk P w K mg base CX0 1 f fd ["top", "bottom"] (spD K C R_rounded) := by
  refine okD F sc_rounded (fun ds d r => ?_) fun cdv A outer s H E hr => ⟨_, (pss_one (ps_ret (pe_op op_fdivW (pe_op op_add (pe_op op_mul pe_int (pv 0)) (pv 1)) (pe_op op_mul pe_int (pv 1))))), fun ds d r G0 Q q => ?_⟩
  · obtain ⟨t, b, rfl, h0, h1, rfl⟩ := r
    rfl
  · obtain ⟨t, b, rfl, h0, h1, rfl⟩ := r
    refine s_ret (d := .int ((2 * t + b) / (2 * b))) ?_ q
    walk_at "ev"
    · exact Or.inl ⟨by decide, by decide⟩
    · exact Or.inl ⟨by decide, by decide⟩
    · exact wide_div (b := 61) (by omega) (by omega) (by decide) (by decide)

/-! ### widths -/
def R_widths (ds : List Dt) (d : Dt) : Prop := ∃ (l : List MWeigh.W) (x y : Int), ds = [.lst (l.map dw), dq (x, y)] ∧ MWeigh.Ok l ∧ l ≠ [] ∧ -(2 ^ 40) ≤ x ∧ x ≤ 2 ^ 40 ∧ -(2 ^ 40) ≤ y ∧ y ≤ 2 ^ 40 ∧
  d = .tup [.int (Sh67.near (MWeigh.sXX l x y) (MWeigh.whole l : Nat)), .int (Sh67.near (MWeigh.sYY l x y) (MWeigh.whole l : Nat)), .int (Sh67.near (MWeigh.sXY l x y) (MWeigh.whole l : Nat))]
theorem mul_rg {g : Nat} {m : Int} (hg : g < 65536) (h1 : -(2 ^ 41) ≤ m) (h2 : m ≤ 2 ^ 41) : -(2 ^ 64) < (g : Int) * m ∧ (g : Int) * m < 2 ^ 64 := by
  have a := Int.mul_le_mul_of_nonneg_left h2 (Int.natCast_nonneg g)
  have b := Int.mul_le_mul_of_nonneg_left h1 (Int.natCast_nonneg g)
  omega

theorem ok_widths {f : Addr} {fd : FuncData} (T : Tx K mg C) (F : Fun K "widths" "widths" s_widths f fd) (h_sum_of : Cal P w K mg base C 1 "sum_of" ["rows"] R_sum_of) (h_rounded : Cal P w K mg base C 1 "rounded" ["top", "bottom"] R_rounded) : FnOk P w K mg base CX0 2 f fd ["rows", "spot"] (spD K C R_widths) := by
  obtain ⟨f_sum_of, fd_sum_of, G_sum_of, m_sum_of, kp_sum_of, bi_sum_of⟩ := h_sum_of
  obtain ⟨f_rounded, fd_rounded, G_rounded, m_rounded, kp_rounded, bi_rounded⟩ := h_rounded
  refine okD F sc_widths (fun ds d r => ?_) fun cdv A outer s H E hr => ⟨_, (pss_cons (ps_set (i := 2) sc_widths.nd rfl (Or.inl rfl) (pe_call G_sum_of (hr.mono (by decide)) (by rfl) m_sum_of kp_sum_of bi_sum_of .nil pass0 (pa_cons (pv 0) pa_nil)))
      (pss_cons (ps_asg (pv 1) (pg_tup (by rfl) (pgs_cons (pg_name (i := 3) sc_widths.nd rfl (Or.inr rfl)) (pgs_cons (pg_name (i := 4) sc_widths.nd rfl (Or.inr rfl)) pgs_nil))))
      (pss_cons (ps_set (i := 5) sc_widths.nd rfl (Or.inl rfl) (pe_callB (cr_sum rfl) (by rfl) T.b_sum (by decide +kernel) (pa_cons (pe_lc (own := [("middle", 8), ("weight", 9)]) (g := gTup K 2 (gCons (gName 8) (gCons (gName 9) gNil))) (tt := tYes) (by rfl) sc_widths.nd (pi_list (pv 0)) (blkOk_by (N := ["rows", "spot", "whole", "x", "y", "across", "down", "both", "middle", "weight"]) (sc := defScope s_widths) (by decide +kernel)) (fun _ _ _ _ _ => (pg_tup (by rfl) (pgs_cons (pg_name (i := 8) sc_widths.nd rfl (Or.inl rfl)) (pgs_cons (pg_name (i := 9) sc_widths.nd rfl (Or.inl rfl)) pgs_nil)))) (fun _ _ _ _ _ => pts_nil) (fun _ _ _ _ _ => (pe_op op_mul (pe_op op_mul (pv 9) (pe_op op_sub (pe_ix (ix_tupK (K := K) rfl) (pv 8) pe_int (fun _ _ => rfl)) (pv 3))) (pe_op op_sub (pe_ix (ix_tupK (K := K) rfl) (pv 8) pe_int (fun _ _ => rfl)) (pv 3))))) pa_nil)))
      (pss_cons (ps_set (i := 6) sc_widths.nd rfl (Or.inl rfl) (pe_callB (cr_sum rfl) (by rfl) T.b_sum (by decide +kernel) (pa_cons (pe_lc (own := [("middle", 8), ("weight", 9)]) (g := gTup K 2 (gCons (gName 8) (gCons (gName 9) gNil))) (tt := tYes) (by rfl) sc_widths.nd (pi_list (pv 0)) (blkOk_by (N := ["rows", "spot", "whole", "x", "y", "across", "down", "both", "middle", "weight"]) (sc := defScope s_widths) (by decide +kernel)) (fun _ _ _ _ _ => (pg_tup (by rfl) (pgs_cons (pg_name (i := 8) sc_widths.nd rfl (Or.inl rfl)) (pgs_cons (pg_name (i := 9) sc_widths.nd rfl (Or.inl rfl)) pgs_nil)))) (fun _ _ _ _ _ => pts_nil) (fun _ _ _ _ _ => (pe_op op_mul (pe_op op_mul (pv 9) (pe_op op_sub (pe_ix (ix_tupK (K := K) rfl) (pv 8) pe_int (fun _ _ => rfl)) (pv 4))) (pe_op op_sub (pe_ix (ix_tupK (K := K) rfl) (pv 8) pe_int (fun _ _ => rfl)) (pv 4))))) pa_nil)))
      (pss_cons (ps_set (i := 7) sc_widths.nd rfl (Or.inl rfl) (pe_callB (cr_sum rfl) (by rfl) T.b_sum (by decide +kernel) (pa_cons (pe_lc (own := [("middle", 8), ("weight", 9)]) (g := gTup K 2 (gCons (gName 8) (gCons (gName 9) gNil))) (tt := tYes) (by rfl) sc_widths.nd (pi_list (pv 0)) (blkOk_by (N := ["rows", "spot", "whole", "x", "y", "across", "down", "both", "middle", "weight"]) (sc := defScope s_widths) (by decide +kernel)) (fun _ _ _ _ _ => (pg_tup (by rfl) (pgs_cons (pg_name (i := 8) sc_widths.nd rfl (Or.inl rfl)) (pgs_cons (pg_name (i := 9) sc_widths.nd rfl (Or.inl rfl)) pgs_nil)))) (fun _ _ _ _ _ => pts_nil) (fun _ _ _ _ _ => (pe_op op_mul (pe_op op_mul (pv 9) (pe_op op_sub (pe_ix (ix_tupK (K := K) rfl) (pv 8) pe_int (fun _ _ => rfl)) (pv 3))) (pe_op op_sub (pe_ix (ix_tupK (K := K) rfl) (pv 8) pe_int (fun _ _ => rfl)) (pv 4))))) pa_nil)))
      (pss_one (ps_ret (pe_tup (pa_cons (pe_call G_rounded (hr.mono (by decide)) (by rfl) m_rounded kp_rounded bi_rounded .nil pass0 (pa_cons (pv 5) (pa_cons (pv 2) pa_nil))) (pa_cons (pe_call G_rounded (hr.mono (by decide)) (by rfl) m_rounded kp_rounded bi_rounded .nil pass0 (pa_cons (pv 6) (pa_cons (pv 2) pa_nil))) (pa_cons (pe_call G_rounded (hr.mono (by decide)) (by rfl) m_rounded kp_rounded bi_rounded .nil pass0 (pa_cons (pv 7) (pa_cons (pv 2) pa_nil))) pa_nil))))))))))), fun ds d r G0 Q q => ?_⟩
  · obtain ⟨l, x, y, rfl, o, hne, hx1, hx2, hy1, hy2, rfl⟩ := r
    rfl
  · obtain ⟨l, x, y, rfl, o, hne, hx1, hx2, hy1, hy2, rfl⟩ := r
    have hl := o.len
    have hp := MWeigh.whole_pos o hne
    have hs := o.small
    have rg := fun (z : MWeigh.W) (hz : z ∈ l) => mid_rg (p := z.1) (x := x) (y := y) (by have := o.pos z hz; omega) (by have := o.pos z hz; omega) hx1 hx2 hy1 hy2
    have mg := fun (z : MWeigh.W) (hz : z ∈ l) => mul_rg (g := z.2) (m := (MRing.mid z.1).1 - x) (o.pos z hz).2.1 (rg z hz).1.1 (rg z hz).1.2
    have mg' := fun (z : MWeigh.W) (hz : z ∈ l) => mul_rg (g := z.2) (m := (MRing.mid z.1).2 - y) (o.pos z hz).2.1 (rg z hz).2.1 (rg z hz).2.2
    refine q_set (d := .int ((MWeigh.whole l : Nat) : Int)) (ed_call (ea_cons (ed_var rfl) ea_nil) ⟨l, rfl, hl, rfl⟩) rfl ?_
    refine q_to (ed_var rfl) tg_two rfl ?_
    refine q_set (d := .int (MWeigh.sXX l x y)) (ed_sum (ns := l.map fun z => (z.2 : Int) * ((MRing.mid z.1).1 - x) * ((MRing.mid z.1).1 - x)) (EvN.asD (EvN.eq (en_lc l dw (fun z => .int ((z.2 : Int) * ((MRing.mid z.1).1 - x) * ((MRing.mid z.1).1 - x))) (es_list (ed_var rfl)).w (by omega) _ (fun z _ => tg_two) (fun z hz => ?_)) (by rw [List.map_map]; rfl)))) rfl ?_
    · have hz2 := (o.pos z hz).2.1
      exact ed_mul (ed_mul (ed_var rfl) (ed_sub (ed_at0 (ed_var rfl)) (ed_var rfl)) (Or.inl ⟨by omega, by omega⟩)) (ed_sub (ed_at0 (ed_var rfl)) (ed_var rfl)) (Or.inl (mg z hz))
    refine q_set (d := .int (MWeigh.sYY l x y)) (ed_sum (ns := l.map fun z => (z.2 : Int) * ((MRing.mid z.1).2 - y) * ((MRing.mid z.1).2 - y)) (EvN.asD (EvN.eq (en_lc l dw (fun z => .int ((z.2 : Int) * ((MRing.mid z.1).2 - y) * ((MRing.mid z.1).2 - y))) (es_list (ed_var rfl)).w (by omega) _ (fun z _ => tg_two) (fun z hz => ?_)) (by rw [List.map_map]; rfl)))) rfl ?_
    · have hz2 := (o.pos z hz).2.1
      exact ed_mul (ed_mul (ed_var rfl) (ed_sub (ed_at1 (ed_var rfl)) (ed_var rfl)) (Or.inl ⟨by omega, by omega⟩)) (ed_sub (ed_at1 (ed_var rfl)) (ed_var rfl)) (Or.inl (mg' z hz))
    refine q_set (d := .int (MWeigh.sXY l x y)) (ed_sum (ns := l.map fun z => (z.2 : Int) * ((MRing.mid z.1).1 - x) * ((MRing.mid z.1).2 - y)) (EvN.asD (EvN.eq (en_lc l dw (fun z => .int ((z.2 : Int) * ((MRing.mid z.1).1 - x) * ((MRing.mid z.1).2 - y))) (es_list (ed_var rfl)).w (by omega) _ (fun z _ => tg_two) (fun z hz => ?_)) (by rw [List.map_map]; rfl)))) rfl ?_
    · have hz2 := (o.pos z hz).2.1
      exact ed_mul (ed_mul (ed_var rfl) (ed_sub (ed_at0 (ed_var rfl)) (ed_var rfl)) (Or.inl ⟨by omega, by omega⟩)) (ed_sub (ed_at1 (ed_var rfl)) (ed_var rfl)) (Or.inl (mg z hz))
    exact s_ret (ed_tup (ea_cons (ed_rounded (ed_var rfl) (ed_var rfl) (by omega) (by omega)) (ea_cons (ed_rounded (ed_var rfl) (ed_var rfl) (by omega) (by omega)) (ea_cons (ed_rounded (ed_var rfl) (ed_var rfl) (by omega) (by omega)) ea_nil)))) q

/-! ### ap_moments -/
def okF (wi he : Nat) (xn : List Nat) (level r : Nat) : Bool := MAsk.ok wi he xn (decide (level ≤ 65535) && decide (r ≤ 4096))
def outF (wi he : Nat) (fn : List Nat) (level r : Nat) (p : Int × Int) : List Int := Sh67Neutral.ints (Sh67.triple (Sh67.moments wi he fn level p.1 p.2 r))
def R_ap_moments (ds : List Dt) (d : Dt) : Prop := ∃ (level r wi he : Nat) (fn xn : List Nat), ds = [.int level, .int r, .int wi, .int he, .lst (natD fn), .lst (natD xn)] ∧ (∀ x, x ∈ fn → x < 65536) ∧ (∀ x, x ∈ xn → x < 65536) ∧
  (okF wi he xn level r = true → fn.length = wi * he) ∧ xn.length = 2 * (xn.length / 2) ∧ xn.length ≤ 140 ∧
  d = .lst ((if okF wi he xn level r = true then 0 :: (Sh67.pairsOf xn).flatMap (outF wi he fn level r) else [-2]).map Dt.int)
theorem seen_is {w h : Nat} {xn : List Nat} (h2 : xn.length = 2 * (xn.length / 2)) : (sidesOk w h && decide (((natD xn).length : Int) ≤ 128)) = (Sh67.sized w h && Sh67.some_ (xn.length / 2)) := by
  rw [MAsk.sized_iff, MAsk.some_iff h2]
  unfold natD sidesOk
  rw [List.length_map]
theorem out_len (wi he : Nat) (fn : List Nat) (level r : Nat) (p : Int × Int) : (outF wi he fn level r p).length = 3 := by
  unfold outF Sh67Neutral.ints
  rw [List.length_map]
  generalize Sh67.moments wi he fn level p.1 p.2 r = z
  cases z <;> rfl
theorem word_is (z : Int) : ((Sh67.wordOf z : Nat) : Int) = z % 4294967296 := by
  unfold Sh67.wordOf
  omega

theorem ok_ap_moments {f : Addr} {fd : FuncData} (T : Tx K mg C) (F : Fun K "ap_moments" "ap_moments" s_ap_moments f fd) (h_init : Ini P w K mg base C) (h_spots_of : Cal P w K mg base C 1 "spots_of" ["xy"] R_spots_of) (h_weights : Cal P w K mg base C 3 "weights" ["frame", "spot", "level", "radius"] R_weights) (h_are_seen : Cal P w K mg base C 2 "are_seen" ["wide", "high", "xy"] R_are_seen) (h_are_radii : Cal P w K mg base C 1 "are_radii" ["radii"] R_are_radii) (h_as_word : Cal P w K mg base C 1 "as_word" ["number"] R_as_word) (h_widths : Cal P w K mg base C 2 "widths" ["rows", "spot"] R_widths) : FnOk P w K mg base CX0 4 f fd ["level", "r", "w", "h", "f", "xy"] (spD K C R_ap_moments) := by
  obtain ⟨f_init, fd_init, G_init, mk_init, bi_init⟩ := h_init
  obtain ⟨f_spots_of, fd_spots_of, G_spots_of, m_spots_of, kp_spots_of, bi_spots_of⟩ := h_spots_of
  obtain ⟨f_weights, fd_weights, G_weights, m_weights, kp_weights, bi_weights⟩ := h_weights
  obtain ⟨f_are_seen, fd_are_seen, G_are_seen, m_are_seen, kp_are_seen, bi_are_seen⟩ := h_are_seen
  obtain ⟨f_are_radii, fd_are_radii, G_are_radii, m_are_radii, kp_are_radii, bi_are_radii⟩ := h_are_radii
  obtain ⟨f_as_word, fd_as_word, G_as_word, m_as_word, kp_as_word, bi_as_word⟩ := h_as_word
  obtain ⟨f_widths, fd_widths, G_widths, m_widths, kp_widths, bi_widths⟩ := h_widths
  refine okD F sc_ap_moments (fun ds d r => ?_) fun cdv A outer s H E hr => ⟨_, (pss_cons (ps_if (PW.pt (pw_or (pt_not (pt_val (pe_call G_are_seen (hr.mono (by decide)) (by rfl) m_are_seen kp_are_seen bi_are_seen .nil pass0 (pa_cons (pv 2) (pa_cons (pv 3) (pa_cons (pv 5) pa_nil)))))) (pw_or (pt_not (pt_val (pe_call G_are_radii (hr.mono (by decide)) (by rfl) m_are_radii kp_are_radii bi_are_radii .nil pass0 (pa_cons (pe_lst (pa_cons (pv 1) pa_nil)) pa_nil)))) (pw_or1 (pt_cmpR op_gt (pv 0) (pe_gint T.g_MOST_LEVEL (by rfl)) (nomark _)))))) (pss_one (ps_ret (pe_lst (pa_cons (pe_gint T.g_OUT_OF_RANGE (by rfl)) pa_nil)))) pss_nil)
      (pss_cons (ps_set (i := 6) sc_ap_moments.nd rfl (Or.inl rfl) (pe_make mk_init G_init (hr.mono (by decide)) (by rfl) T.mgC bi_init .nil pass0 (pa_cons (pv 2) (pa_cons (pv 3) (pa_cons (pv 4) pa_nil)))))
      (pss_cons (ps_set (i := 7) sc_ap_moments.nd rfl (Or.inl rfl) (pe_lst (pa_cons pe_int pa_nil)))
      (pss_cons (ps_for PassesOwn.never rfl (pi_list (pe_call G_spots_of (hr.mono (by decide)) (by rfl) m_spots_of kp_spots_of bi_spots_of .nil pass0 (pa_cons (pv 5) pa_nil))) (pg_name (i := 8) sc_ap_moments.nd rfl (Or.inl rfl)) (pss_cons (ps_set (i := 9) sc_ap_moments.nd rfl (Or.inl rfl) (pe_call G_weights (hr.mono (by decide)) (by rfl) m_weights kp_weights bi_weights .nil pass0 (pa_cons (pv 6) (pa_cons (pv 8) (pa_cons (pv 0) (pa_cons (pv 1) pa_nil))))))
      (pss_one (ps_if (pt_cmpR (op_eqD hr.units) (pv 9) (pe_lst pa_nil) (nomark _)) (pss_one (ps_expr (pe_bm PySem.F.plainAttrs_list PySem.F.slot_list_extend PySem.F.type_list_extend mt_extend (pv 7) (pa_cons (pe_lst (pa_cons (pe_gint T.g_NONE (by rfl)) (pa_cons (pe_gint T.g_NONE (by rfl)) (pa_cons (pe_gint T.g_NONE (by rfl)) pa_nil)))) pa_nil)))) (pss_one (ps_expr (pe_bm PySem.F.plainAttrs_list PySem.F.slot_list_extend PySem.F.type_list_extend mt_extend (pv 7) (pa_cons (pe_lc (own := [("width", 10)]) (tt := tYes) (by rfl) sc_ap_moments.nd (pi_tup (pe_call G_widths (hr.mono (by decide)) (by rfl) m_widths kp_widths bi_widths .nil pass0 (pa_cons (pv 9) (pa_cons (pv 8) pa_nil)))) (blkOk_by (N := ["level", "r", "w", "h", "f", "xy", "frame", "found", "spot", "rows", "width"]) (sc := defScope s_ap_moments) (by decide +kernel)) (fun _ _ _ _ _ => (pg_name (i := 10) sc_ap_moments.nd rfl (Or.inl rfl))) (fun _ _ _ _ _ => pts_nil) (fun _ _ _ _ _ => (pe_call G_as_word (hr.mono (by decide)) (by rfl) m_as_word kp_as_word bi_as_word .nil pass0 (pa_cons (pv 10) pa_nil)))) pa_nil))))))))
      (pss_one (ps_ret (pv 7))))))), fun ds d r G0 Q q => ?_⟩
  · obtain ⟨level, r, wi, he, fn, xn, rfl, hf, hx, hok, h2, h140, rfl⟩ := r
    rfl
  · obtain ⟨level, r, wi, he, fn, xn, rfl, hf, hx, hok, h2, h140, rfl⟩ := r
    refine q_when (eb_or (eb_not (eb_v (ed_call (ea_cons (ed_var rfl) (ea_cons (ed_var rfl) (ea_cons (ed_var rfl) ea_nil))) ⟨_, _, _, rfl, rfl⟩))) (eb_or (eb_not (eb_v (ed_call (ea_cons (EvN.asD (en_lst (ea_cons (ed_var rfl) ea_nil))) ea_nil) ⟨[(r : Int)], rfl, by simp, rfl⟩))) (eb_t (ed_gt (ed_var rfl) ed_int)))) (fun hb => ?_) (fun hb => ?_)
    all_goals
      rw [seen_is h2] at hb
      have eo : okF wi he xn level r = !((!(Sh67.sized wi he && Sh67.some_ (xn.length / 2))) || (!(([(r : Int)].map fun r => decide (r ≤ 4096)).all id) || decide ((65535 : Int) < level))) := by
        unfold okF MAsk.ok
        rw [Bool.eq_iff_iff]
        simp
        omega
    · rw [hb] at eo
      rw [if_neg (by rw [eo]; decide)] at q
      exact s_ret (EvN.asD (en_lst (ea_cons ed_int ea_nil))) q
    rw [hb] at eo
    have eo : okF wi he xn level r = true := eo
    rw [if_pos eo] at q
    have hl := hok eo
    unfold okF MAsk.ok at eo
    simp only [Bool.and_eq_true] at eo
    have hs := eo.1.1
    rw [MAsk.sized_iff] at hs
    simp only [Bool.and_eq_true, decide_eq_true_eq] at hs eo
    have F : FOk wi he fn := ⟨by omega, by omega, hl, hf⟩
    refine q_set (d := FR wi he fn) (ed_make (ea_cons (ed_var rfl) (ea_cons (ed_var rfl) (ea_cons (EvD.eq (ed_var rfl) (congrArg Dt.lst (ints_is fn).symm)) ea_nil)))) rfl ?_
    refine q_new (ea_cons ed_int ea_nil) ?_ (by show 7 < 11; decide)
    have pl := MAsk.pairs_len xn
    have pm := fun p hp => MAsk.pairs_mem (xn := xn) hx (p := p) hp
    refine q_for (es_list (ed_call (ea_cons (ed_var rfl) ea_nil) ⟨xn, _, rfl, h2, by omega, rfl⟩)) (fun i Γ1 M1 => ∃ x0 x1 x2, Γ1 = [some (.int level), some (.int r), some (.int wi), some (.int he), some (.lst (natD fn)), some (.lst (natD xn)), some (FR wi he fn), none, x0, x1, x2] ∧
      M1 = some (7, (0 :: ((Sh67.pairsOf xn).take i).flatMap (outF wi he fn level r)).map Dt.int)) ⟨_, _, _, rfl, rfl⟩ ?_ ?_
    · rintro Ga i d Γ1 M1 N _ hi ⟨x0, x1, x2, rfl, rfl⟩ hN
      have hi' := (List.getElem?_eq_some_iff.mp hi).1
      rw [List.length_map] at hi'
      have gi : (Sh67.pairsOf xn)[i]? = some (Sh67.pairsOf xn)[i] := List.getElem?_eq_getElem hi'
      rw [List.getElem?_map, gi] at hi
      cases Option.some.inj hi
      have mp := pm _ (List.getElem_mem hi')
      generalize (Sh67.pairsOf xn)[i] = p at gi mp
      obtain ⟨px, py⟩ := p
      dsimp only at mp
      have fl := MAsk.flat_len 3 _ (out_len wi he fn level r) ((Sh67.pairsOf xn).take i)
      rw [List.length_take] at fl
      have ol := out_len wi he fn level r (px, py)
      have hz : (List.map Dt.int (0 :: ((Sh67.pairsOf xn).take i).flatMap (outF wi he fn level r))).length + ((outF wi he fn level r (px, py)).map Dt.int).length ≤ 1000000 := by
        rw [List.length_map, List.length_cons, fl, List.length_map, ol]
        omega
      have e1 : (0 :: ((Sh67.pairsOf xn).take (i + 1)).flatMap (outF wi he fn level r)).map Dt.int = (0 :: ((Sh67.pairsOf xn).take i).flatMap (outF wi he fn level r)).map Dt.int ++ (outF wi he fn level r (px, py)).map Dt.int := by
        rw [take_one gi, List.flatMap_append, List.flatMap_cons, List.flatMap_nil, List.append_nil, ← List.cons_append, List.map_append]
      refine ⟨_, _, tg_name, rfl, ?_⟩
      have o := MWeigh.rows_ok (w := wi) (h := he) (x := px) (y := py) (r := (r : Int)) (fn := fn) (level := level) F.w64 F.h64 F.get
      have once := MWeigh.moments_is (x := px) (y := py) (Int.natCast_nonneg r) fn level o
      have eo2 : outF wi he fn level r (px, py) = Sh67Neutral.ints (Sh67.triple (Sh67.moments wi he fn level px py r)) := rfl
      rw [once] at eo2
      refine q_set (d := .lst ((MWeigh.rows wi he fn level px py r).map dw)) (ed_call (ea_cons (ed_var rfl) (ea_cons (ed_var rfl) (ea_cons (ed_var rfl) (ea_cons (ed_var rfl) ea_nil)))) ⟨wi, he, fn, px, py, r, level, rfl, F, by omega, by omega, by omega, by omega, by omega, by omega, rfl⟩) rfl ?_
      generalize MWeigh.rows wi he fn level px py r = l at o eo2 ⊢
      refine s_if (eb_t (ed_eq (ed_var rfl) (EvN.asD (en_lst ea_nil)) (okd_rows l) (okd_rows []))) (fun hb => ?_) (fun hb => ?_)
      · rw [eq_nil, List.isEmpty_iff] at hb
        have e : l = [] := List.map_eq_nil_iff.mp hb
        rw [if_pos e] at eo2
        refine s_ext (EvN.eq (en_lst (ea_cons ed_int (ea_cons ed_int (ea_cons ed_int ea_nil)))) (es := (outF wi he fn level r (px, py)).map Dt.int) ?_) hz (hN _ _ ⟨_, _, _, rfl, ?_⟩)
        · rw [eo2]
          rfl
        · rw [e1]
      · rw [eq_nil] at hb
        have hne : l ≠ [] := fun e => by
          subst e
          cases hb
        rw [if_neg hne] at eo2
        refine s_ext (EvN.eq (en_lc [Sh67.near (MWeigh.sXX l px py) (MWeigh.whole l : Nat), Sh67.near (MWeigh.sYY l px py) (MWeigh.whole l : Nat), Sh67.near (MWeigh.sXY l px py) (MWeigh.whole l : Nat)] Dt.int (fun z => .int (z % 4294967296)) (es_tup (ed_call (ea_cons (ed_var rfl) (ea_cons (ed_var rfl) ea_nil)) ⟨l, px, py, rfl, o, hne, by omega, by omega, by omega, by omega, rfl⟩)).w (by show 3 ≤ 1000000; decide) _ (fun z _ => tg_name) (fun z hz => ed_word (ed_var rfl))) (es := (outF wi he fn level r (px, py)).map Dt.int) ?_) hz (hN _ _ ⟨_, _, _, rfl, ?_⟩)
        · rw [eo2]
          show [Dt.int _, Dt.int _, Dt.int _] = [Dt.int ((Sh67.wordOf _ : Nat) : Int), Dt.int ((Sh67.wordOf _ : Nat) : Int), Dt.int ((Sh67.wordOf _ : Nat) : Int)]
          rw [word_is, word_is, word_is]
        · rw [e1]
    · rintro Γ1 M1 ⟨x0, x1, x2, rfl, rfl⟩
      rw [List.length_map, List.take_length]
      exact s_retM q

end
/-! ### the end -/
theorem ap_moments_due (level r wi he : Nat) (fn xn : List Nat) : (if okF wi he xn level r = true then 0 :: (Sh67.pairsOf xn).flatMap (outF wi he fn level r) else [-2]) = PySh67.ap_moments level r wi he (Sh67Neutral.ints fn) (Sh67Neutral.ints xn) := by
  show _ = Sh67Neutral.told (Sh67.answer (if okF wi he (Sh67Neutral.nats (Sh67Neutral.ints xn)) level r = true then .moments level r wi he (Sh67Neutral.nats (Sh67Neutral.ints fn)) (Sh67Neutral.nats (Sh67Neutral.ints xn)) else .bad))
  rw [MAsk.ints_nats, MAsk.ints_nats]
  by_cases h : okF wi he xn level r = true
  · rw [if_pos h, if_pos h]
    show _ = 0 :: Sh67Neutral.ints ((Sh67.pairsOf xn).flatMap fun p => Sh67.triple (Sh67.moments wi he fn level p.1 p.2 r))
    unfold Sh67Neutral.ints
    rw [List.map_flatMap]
    rfl
  · rw [if_neg h, if_neg h]
    rfl
def spEnd (K : Fg) : Sp := fun vs H Q E => ∀ C, spD K C R_ap_moments vs H Q E
theorem fin_ap_moments {P : Program} {w : World} {K : Fg} {mg : Str → Option Value} {base : Heap} {C : Addr} {k : Nat} {f : Addr} {fd : FuncData} {ps : List Str} (h : FnOk P w K mg base CX0 k f fd ps (spD K C R_ap_moments)) : FnOk P w K mg base CX0 k f fd ps (spEnd K) := h.imp fun _ _ _ _ q => q C
theorem ask_ap_moments {level r wi he : Int} {f xy : List Int} (h : PySh67.ap_moments_asked level r wi he f xy = true) :
    (0 ≤ level ∧ 0 ≤ r ∧ 0 ≤ wi ∧ 0 ≤ he) ∧ (okF wi.toNat he.toNat (Sh67Neutral.nats xy) level.toNat r.toNat = true → (Sh67Neutral.nats f).length = wi.toNat * he.toNat) ∧ (Sh67Neutral.nats xy).length = 2 * ((Sh67Neutral.nats xy).length / 2) := by
  unfold PySh67.ap_moments_asked Sh67Neutral.asked at h
  rw [Bool.and_eq_true] at h
  have h1 := h.1
  unfold Sh67Neutral.asked1 at h1
  simp only [Bool.and_eq_true (Sh67Neutral.natural _ _), Bool.and_eq_true (List.all _ _)] at h1
  obtain ⟨a_level, a_r, aw, ah, _, _, h2⟩ := h1
  exact ⟨⟨MAsk.natural_bits a_level, MAsk.natural_bits a_r, MAsk.natural_bits aw, MAsk.natural_bits ah⟩, MAsk.lens h2⟩

theorem all_mk {P : Program} {w : World} {K : Fg} {h : Heap} {mg : Str → Option Value} {fa C : Addr} (X : K.In h) (G : h.Ns mainGlobals mg) (hfa : mg "ap_moments" = some (.ref fa))
    {f0 f1 f2 f3 f4 f5 f6 f7 f8 f9 f10 f11 f12 f13 f14 f15 f16 f17 : Addr} {od0 an0 od1 an1 od2 an2 od3 an3 od4 an4 od5 an5 od6 an6 od7 an7 od8 an8 od9 an9 od10 an10 od11 an11 od12 an12 od13 an13 od14 an14 od15 an15 od16 an16 od17 an17 : Option Addr} {sl0 sl1 sl2 sl3 sl4 sl5 sl6 sl7 sl8 sl9 sl10 sl11 sl12 sl13 sl14 sl15 sl16 sl17 : Array (Option Value)} {oc0 kV0 dc0 pm0 cd0 ct0 oc1 kV1 dc1 pm1 cd1 ct1 oc2 kV2 dc2 pm2 cd2 ct2 oc3 kV3 dc3 pm3 cd3 ct3 oc4 kV4 dc4 pm4 cd4 ct4 oc5 kV5 dc5 pm5 cd5 ct5 oc6 kV6 dc6 pm6 cd6 ct6 oc7 kV7 dc7 pm7 cd7 ct7 oc8 kV8 dc8 pm8 cd8 ct8 oc9 kV9 dc9 pm9 cd9 ct9 oc10 kV10 dc10 pm10 cd10 ct10 oc11 kV11 dc11 pm11 cd11 ct11 oc12 kV12 dc12 pm12 cd12 ct12 oc13 kV13 dc13 pm13 cd13 ct13 oc14 kV14 dc14 pm14 cd14 ct14 oc15 kV15 dc15 pm15 cd15 ct15 oc16 kV16 dc16 pm16 cd16 ct16 oc17 kV17 dc17 pm17 cd17 ct17 : Value} {t_HALF : Nat} {t_MOST_LEVEL : Nat} {t_MOST_PLACES : Nat} {t_MOST_RADIUS : Nat} {t_MOST_SIDE : Nat} {t_NONE : Nat} {t_OUT_OF_RANGE : Nat} {t_PLACE : Nat} {t_WORD : Nat}
    (aC : PySem.W.nsIn K mainGlobals "Frame" = some (some (.ref C)))
    (a0 : PySem.W.findIn K (.ref C) "__init__" = some (some (.ref f0)))
    (i0 : PySem.W.isFn K (.ref f0) = true)
    (l0 : K.lookup f0 = some ⟨oc0, od0, .func (PySem.W.fnOf "__init__" "Frame.__init__" (defArgs s_init) (defBody s_init) (defScope s_init) .none kV0 dc0 pm0 an0 cd0 ct0), sl0⟩)
    (c0 : PySem.W.codeIn K cd0 "Frame.__init__" = true)
    (k0 : PySem.W.keepIn K (.ref f0) = true)
    (a1 : PySem.W.nsIn K mainGlobals "spots_of" = some (some (.ref f1)))
    (l1 : K.lookup f1 = some ⟨oc1, od1, .func (PySem.W.fnOf "spots_of" "spots_of" (defArgs s_spots_of) (defBody s_spots_of) (defScope s_spots_of) .none kV1 dc1 pm1 an1 cd1 ct1), sl1⟩)
    (c1 : PySem.W.codeIn K cd1 "spots_of" = true)
    (k1 : PySem.W.keepIn K (.ref f1) = true)
    (a2 : PySem.W.findIn K (.ref C) "columns_near" = some (some (.ref f2)))
    (i2 : PySem.W.isFn K (.ref f2) = true)
    (l2 : K.lookup f2 = some ⟨oc2, od2, .func (PySem.W.fnOf "columns_near" "Frame.columns_near" (defArgs s_columns_near) (defBody s_columns_near) (defScope s_columns_near) .none kV2 dc2 pm2 an2 cd2 ct2), sl2⟩)
    (c2 : PySem.W.codeIn K cd2 "Frame.columns_near" = true)
    (k2 : PySem.W.keepIn K (.ref f2) = true)
    (a3 : PySem.W.findIn K (.ref C) "rows_near" = some (some (.ref f3)))
    (i3 : PySem.W.isFn K (.ref f3) = true)
    (l3 : K.lookup f3 = some ⟨oc3, od3, .func (PySem.W.fnOf "rows_near" "Frame.rows_near" (defArgs s_rows_near) (defBody s_rows_near) (defScope s_rows_near) .none kV3 dc3 pm3 an3 cd3 ct3), sl3⟩)
    (c3 : PySem.W.codeIn K cd3 "Frame.rows_near" = true)
    (k3 : PySem.W.keepIn K (.ref f3) = true)
    (a4 : PySem.W.findIn K (.ref C) "places_near" = some (some (.ref f4)))
    (i4 : PySem.W.isFn K (.ref f4) = true)
    (l4 : K.lookup f4 = some ⟨oc4, od4, .func (PySem.W.fnOf "places_near" "Frame.places_near" (defArgs s_places_near) (defBody s_places_near) (defScope s_places_near) .none kV4 dc4 pm4 an4 cd4 ct4), sl4⟩)
    (c4 : PySem.W.codeIn K cd4 "Frame.places_near" = true)
    (k4 : PySem.W.keepIn K (.ref f4) = true)
    (a5 : PySem.W.nsIn K mainGlobals "middle_of" = some (some (.ref f5)))
    (l5 : K.lookup f5 = some ⟨oc5, od5, .func (PySem.W.fnOf "middle_of" "middle_of" (defArgs s_middle_of) (defBody s_middle_of) (defScope s_middle_of) .none kV5 dc5 pm5 an5 cd5 ct5), sl5⟩)
    (c5 : PySem.W.codeIn K cd5 "middle_of" = true)
    (k5 : PySem.W.keepIn K (.ref f5) = true)
    (a6 : PySem.W.findIn K (.ref C) "number" = some (some (.ref f6)))
    (i6 : PySem.W.isFn K (.ref f6) = true)
    (l6 : K.lookup f6 = some ⟨oc6, od6, .func (PySem.W.fnOf "number" "Frame.number" (defArgs s_number) (defBody s_number) (defScope s_number) .none kV6 dc6 pm6 an6 cd6 ct6), sl6⟩)
    (c6 : PySem.W.codeIn K cd6 "Frame.number" = true)
    (k6 : PySem.W.keepIn K (.ref f6) = true)
    (a7 : PySem.W.nsIn K mainGlobals "square_of" = some (some (.ref f7)))
    (l7 : K.lookup f7 = some ⟨oc7, od7, .func (PySem.W.fnOf "square_of" "square_of" (defArgs s_square_of) (defBody s_square_of) (defScope s_square_of) .none kV7 dc7 pm7 an7 cd7 ct7), sl7⟩)
    (c7 : PySem.W.codeIn K cd7 "square_of" = true)
    (k7 : PySem.W.keepIn K (.ref f7) = true)
    (a8 : PySem.W.nsIn K mainGlobals "weights" = some (some (.ref f8)))
    (l8 : K.lookup f8 = some ⟨oc8, od8, .func (PySem.W.fnOf "weights" "weights" (defArgs s_weights) (defBody s_weights) (defScope s_weights) .none kV8 dc8 pm8 an8 cd8 ct8), sl8⟩)
    (c8 : PySem.W.codeIn K cd8 "weights" = true)
    (k8 : PySem.W.keepIn K (.ref f8) = true)
    (a9 : PySem.W.nsIn K mainGlobals "are_sides" = some (some (.ref f9)))
    (l9 : K.lookup f9 = some ⟨oc9, od9, .func (PySem.W.fnOf "are_sides" "are_sides" (defArgs s_are_sides) (defBody s_are_sides) (defScope s_are_sides) .none kV9 dc9 pm9 an9 cd9 ct9), sl9⟩)
    (c9 : PySem.W.codeIn K cd9 "are_sides" = true)
    (k9 : PySem.W.keepIn K (.ref f9) = true)
    (a10 : PySem.W.nsIn K mainGlobals "are_places" = some (some (.ref f10)))
    (l10 : K.lookup f10 = some ⟨oc10, od10, .func (PySem.W.fnOf "are_places" "are_places" (defArgs s_are_places) (defBody s_are_places) (defScope s_are_places) .none kV10 dc10 pm10 an10 cd10 ct10), sl10⟩)
    (c10 : PySem.W.codeIn K cd10 "are_places" = true)
    (k10 : PySem.W.keepIn K (.ref f10) = true)
    (a11 : PySem.W.nsIn K mainGlobals "are_seen" = some (some (.ref f11)))
    (l11 : K.lookup f11 = some ⟨oc11, od11, .func (PySem.W.fnOf "are_seen" "are_seen" (defArgs s_are_seen) (defBody s_are_seen) (defScope s_are_seen) .none kV11 dc11 pm11 an11 cd11 ct11), sl11⟩)
    (c11 : PySem.W.codeIn K cd11 "are_seen" = true)
    (k11 : PySem.W.keepIn K (.ref f11) = true)
    (a12 : PySem.W.nsIn K mainGlobals "are_radii" = some (some (.ref f12)))
    (l12 : K.lookup f12 = some ⟨oc12, od12, .func (PySem.W.fnOf "are_radii" "are_radii" (defArgs s_are_radii) (defBody s_are_radii) (defScope s_are_radii) .none kV12 dc12 pm12 an12 cd12 ct12), sl12⟩)
    (c12 : PySem.W.codeIn K cd12 "are_radii" = true)
    (k12 : PySem.W.keepIn K (.ref f12) = true)
    (a13 : PySem.W.nsIn K mainGlobals "as_word" = some (some (.ref f13)))
    (l13 : K.lookup f13 = some ⟨oc13, od13, .func (PySem.W.fnOf "as_word" "as_word" (defArgs s_as_word) (defBody s_as_word) (defScope s_as_word) .none kV13 dc13 pm13 an13 cd13 ct13), sl13⟩)
    (c13 : PySem.W.codeIn K cd13 "as_word" = true)
    (k13 : PySem.W.keepIn K (.ref f13) = true)
    (a14 : PySem.W.nsIn K mainGlobals "sum_of" = some (some (.ref f14)))
    (l14 : K.lookup f14 = some ⟨oc14, od14, .func (PySem.W.fnOf "sum_of" "sum_of" (defArgs s_sum_of) (defBody s_sum_of) (defScope s_sum_of) .none kV14 dc14 pm14 an14 cd14 ct14), sl14⟩)
    (c14 : PySem.W.codeIn K cd14 "sum_of" = true)
    (k14 : PySem.W.keepIn K (.ref f14) = true)
    (a15 : PySem.W.nsIn K mainGlobals "rounded" = some (some (.ref f15)))
    (l15 : K.lookup f15 = some ⟨oc15, od15, .func (PySem.W.fnOf "rounded" "rounded" (defArgs s_rounded) (defBody s_rounded) (defScope s_rounded) .none kV15 dc15 pm15 an15 cd15 ct15), sl15⟩)
    (c15 : PySem.W.codeIn K cd15 "rounded" = true)
    (k15 : PySem.W.keepIn K (.ref f15) = true)
    (a16 : PySem.W.nsIn K mainGlobals "widths" = some (some (.ref f16)))
    (l16 : K.lookup f16 = some ⟨oc16, od16, .func (PySem.W.fnOf "widths" "widths" (defArgs s_widths) (defBody s_widths) (defScope s_widths) .none kV16 dc16 pm16 an16 cd16 ct16), sl16⟩)
    (c16 : PySem.W.codeIn K cd16 "widths" = true)
    (k16 : PySem.W.keepIn K (.ref f16) = true)
    (a17 : PySem.W.nsIn K mainGlobals "ap_moments" = some (some (.ref f17)))
    (l17 : K.lookup f17 = some ⟨oc17, od17, .func (PySem.W.fnOf "ap_moments" "ap_moments" (defArgs s_ap_moments) (defBody s_ap_moments) (defScope s_ap_moments) .none kV17 dc17 pm17 an17 cd17 ct17), sl17⟩)
    (c17 : PySem.W.codeIn K cd17 "ap_moments" = true)
    (k17 : PySem.W.keepIn K (.ref f17) = true)
    (z_all : PySem.W.nsIn K mainGlobals "all" = some none)
    (z_len : PySem.W.nsIn K mainGlobals "len" = some none)
    (z_max : PySem.W.nsIn K mainGlobals "max" = some none)
    (z_min : PySem.W.nsIn K mainGlobals "min" = some none)
    (z_range : PySem.W.nsIn K mainGlobals "range" = some none)
    (z_sum : PySem.W.nsIn K mainGlobals "sum" = some none)
    (y_HALF : PySem.W.nsIn K mainGlobals "HALF" = some (some (.int (32) t_HALF)))
    (y_MOST_LEVEL : PySem.W.nsIn K mainGlobals "MOST_LEVEL" = some (some (.int (65535) t_MOST_LEVEL)))
    (y_MOST_PLACES : PySem.W.nsIn K mainGlobals "MOST_PLACES" = some (some (.int (64) t_MOST_PLACES)))
    (y_MOST_RADIUS : PySem.W.nsIn K mainGlobals "MOST_RADIUS" = some (some (.int (4096) t_MOST_RADIUS)))
    (y_MOST_SIDE : PySem.W.nsIn K mainGlobals "MOST_SIDE" = some (some (.int (64) t_MOST_SIDE)))
    (y_NONE : PySem.W.nsIn K mainGlobals "NONE" = some (some (.int (4294967295) t_NONE)))
    (y_OUT_OF_RANGE : PySem.W.nsIn K mainGlobals "OUT_OF_RANGE" = some (some (.int (-2) t_OUT_OF_RANGE)))
    (y_PLACE : PySem.W.nsIn K mainGlobals "PLACE" = some (some (.int (64) t_PLACE)))
    (y_WORD : PySem.W.nsIn K mainGlobals "WORD" = some (some (.int (4294967296) t_WORD)))
    (pg : PySem.W.plainGet K C Str.empty = true)
    (hd : PySem.W.hasDictIn K C = true)
    (po : PySem.W.plainOver K C = true)
    (sa : PySem.W.findIn K (.ref C) "__setattr__" = some (some (.builtin "object.__setattr__")))
    (mk : PySem.W.makesIn K C = true)
    (kc : PySem.W.keepIn K (.ref C) = true)
    (nW : PySem.W.findIn K (.ref C) "wide" = some none)
    (nH : PySem.W.findIn K (.ref C) "high" = some none)
    (nN : PySem.W.findIn K (.ref C) "numbers" = some none)
    : ∃ fd : FuncData, (∀ (s : Shared) (us : List Value), us.length = (["level", "r", "w", "h", "f", "xy"] : List Str).length → BindsTo s fd ⟨us, []⟩ ((["level", "r", "w", "h", "f", "xy"] : List Str).zip us)) ∧ ∀ base : Heap, K.In base → base.Ns mainGlobals mg → FnOk P w K mg base CX0 4 fa fd ["level", "r", "w", "h", "f", "xy"] (spEnd K) := by
  have e := hfa.symm.trans (PySem.W.mg_of X G a17)
  cases e
  have T : Tx K mg C := ⟨PySem.W.mg_none_of X G z_all, PySem.W.mg_none_of X G z_len, PySem.W.mg_none_of X G z_max, PySem.W.mg_none_of X G z_min, PySem.W.mg_none_of X G z_range, PySem.W.mg_none_of X G z_sum, ⟨_, PySem.W.mg_of X G y_HALF⟩, ⟨_, PySem.W.mg_of X G y_MOST_LEVEL⟩, ⟨_, PySem.W.mg_of X G y_MOST_PLACES⟩, ⟨_, PySem.W.mg_of X G y_MOST_RADIUS⟩, ⟨_, PySem.W.mg_of X G y_MOST_SIDE⟩, ⟨_, PySem.W.mg_of X G y_NONE⟩, ⟨_, PySem.W.mg_of X G y_OUT_OF_RANGE⟩, ⟨_, PySem.W.mg_of X G y_PLACE⟩, ⟨_, PySem.W.mg_of X G y_WORD⟩, ⟨⟨pg, hd, po, sa⟩, nW, nH, nN⟩, PySem.W.mg_of X G aC⟩
  have F0 := fun_mk (st := s_init) l0 c0 k0
  have b0 := F0.binds (ps := ["self", "wide", "high", "numbers"]) fun _ _ _ _ _ _ us hl => match us, hl with | [_, _, _, _], _ => rfl
  have F1 := fun_mk (st := s_spots_of) l1 c1 k1
  have b1 := F1.binds (ps := ["xy"]) fun _ _ _ _ _ _ us hl => match us, hl with | [_], _ => rfl
  have F2 := fun_mk (st := s_columns_near) l2 c2 k2
  have b2 := F2.binds (ps := ["self", "x", "far"]) fun _ _ _ _ _ _ us hl => match us, hl with | [_, _, _], _ => rfl
  have F3 := fun_mk (st := s_rows_near) l3 c3 k3
  have b3 := F3.binds (ps := ["self", "y", "far"]) fun _ _ _ _ _ _ us hl => match us, hl with | [_, _, _], _ => rfl
  have F4 := fun_mk (st := s_places_near) l4 c4 k4
  have b4 := F4.binds (ps := ["self", "x", "y", "far"]) fun _ _ _ _ _ _ us hl => match us, hl with | [_, _, _, _], _ => rfl
  have F5 := fun_mk (st := s_middle_of) l5 c5 k5
  have b5 := F5.binds (ps := ["place"]) fun _ _ _ _ _ _ us hl => match us, hl with | [_], _ => rfl
  have F6 := fun_mk (st := s_number) l6 c6 k6
  have b6 := F6.binds (ps := ["self", "column", "row"]) fun _ _ _ _ _ _ us hl => match us, hl with | [_, _, _], _ => rfl
  have F7 := fun_mk (st := s_square_of) l7 c7 k7
  have b7 := F7.binds (ps := ["spot", "other"]) fun _ _ _ _ _ _ us hl => match us, hl with | [_, _], _ => rfl
  have F8 := fun_mk (st := s_weights) l8 c8 k8
  have b8 := F8.binds (ps := ["frame", "spot", "level", "radius"]) fun _ _ _ _ _ _ us hl => match us, hl with | [_, _, _, _], _ => rfl
  have F9 := fun_mk (st := s_are_sides) l9 c9 k9
  have b9 := F9.binds (ps := ["wide", "high"]) fun _ _ _ _ _ _ us hl => match us, hl with | [_, _], _ => rfl
  have F10 := fun_mk (st := s_are_places) l10 c10 k10
  have b10 := F10.binds (ps := ["xy"]) fun _ _ _ _ _ _ us hl => match us, hl with | [_], _ => rfl
  have F11 := fun_mk (st := s_are_seen) l11 c11 k11
  have b11 := F11.binds (ps := ["wide", "high", "xy"]) fun _ _ _ _ _ _ us hl => match us, hl with | [_, _, _], _ => rfl
  have F12 := fun_mk (st := s_are_radii) l12 c12 k12
  have b12 := F12.binds (ps := ["radii"]) fun _ _ _ _ _ _ us hl => match us, hl with | [_], _ => rfl
  have F13 := fun_mk (st := s_as_word) l13 c13 k13
  have b13 := F13.binds (ps := ["number"]) fun _ _ _ _ _ _ us hl => match us, hl with | [_], _ => rfl
  have F14 := fun_mk (st := s_sum_of) l14 c14 k14
  have b14 := F14.binds (ps := ["rows"]) fun _ _ _ _ _ _ us hl => match us, hl with | [_], _ => rfl
  have F15 := fun_mk (st := s_rounded) l15 c15 k15
  have b15 := F15.binds (ps := ["top", "bottom"]) fun _ _ _ _ _ _ us hl => match us, hl with | [_, _], _ => rfl
  have F16 := fun_mk (st := s_widths) l16 c16 k16
  have b16 := F16.binds (ps := ["rows", "spot"]) fun _ _ _ _ _ _ us hl => match us, hl with | [_, _], _ => rfl
  have F17 := fun_mk (st := s_ap_moments) l17 c17 k17
  have b17 := F17.binds (ps := ["level", "r", "w", "h", "f", "xy"]) fun _ _ _ _ _ _ us hl => match us, hl with | [_, _, _, _, _, _], _ => rfl
  refine ⟨PySem.W.fnOf "ap_moments" "ap_moments" (defArgs s_ap_moments) (defBody s_ap_moments) (defScope s_ap_moments) .none kV17 dc17 pm17 an17 cd17 ct17, fun s us hu => match us, hu with | [_, _, _, _, _, _], _ => .of_eq rfl, fun base _ _ => ?_⟩
  have h_init : Ini P w K mg base C := ⟨_, _, ok_init T F0, ⟨mk, a0, i0, kc⟩, b0⟩
  have h_spots_of : Cal P w K mg base C 1 "spots_of" ["xy"] R_spots_of := ⟨_, _, ok_spots_of T F1 , PySem.W.mg_of X G a1, F1.kp, b1⟩
  have h_columns_near : Mel P w K mg base C 1 "columns_near" ["self", "x", "far"] R_columns_near := ⟨_, _, ok_columns_near T F2 , ⟨a2, i2, k2⟩, b2⟩
  have h_rows_near : Mel P w K mg base C 1 "rows_near" ["self", "y", "far"] R_rows_near := ⟨_, _, ok_rows_near T F3 , ⟨a3, i3, k3⟩, b3⟩
  have h_places_near : Mel P w K mg base C 2 "places_near" ["self", "x", "y", "far"] R_places_near := ⟨_, _, ok_places_near T F4 h_columns_near h_rows_near, ⟨a4, i4, k4⟩, b4⟩
  have h_middle_of : Cal P w K mg base C 1 "middle_of" ["place"] R_middle_of := ⟨_, _, ok_middle_of T F5 , PySem.W.mg_of X G a5, F5.kp, b5⟩
  have h_number : Mel P w K mg base C 1 "number" ["self", "column", "row"] R_number := ⟨_, _, ok_number T F6 , ⟨a6, i6, k6⟩, b6⟩
  have h_square_of : Cal P w K mg base C 1 "square_of" ["spot", "other"] R_square_of := ⟨_, _, ok_square_of T F7 , PySem.W.mg_of X G a7, F7.kp, b7⟩
  have h_weights : Cal P w K mg base C 3 "weights" ["frame", "spot", "level", "radius"] R_weights := ⟨_, _, ok_weights T F8 h_places_near h_middle_of h_number h_square_of, PySem.W.mg_of X G a8, F8.kp, b8⟩
  have h_are_sides : Cal P w K mg base C 1 "are_sides" ["wide", "high"] R_are_sides := ⟨_, _, ok_are_sides T F9 , PySem.W.mg_of X G a9, F9.kp, b9⟩
  have h_are_places : Cal P w K mg base C 1 "are_places" ["xy"] R_are_places := ⟨_, _, ok_are_places T F10 , PySem.W.mg_of X G a10, F10.kp, b10⟩
  have h_are_seen : Cal P w K mg base C 2 "are_seen" ["wide", "high", "xy"] R_are_seen := ⟨_, _, ok_are_seen T F11 h_are_sides h_are_places, PySem.W.mg_of X G a11, F11.kp, b11⟩
  have h_are_radii : Cal P w K mg base C 1 "are_radii" ["radii"] R_are_radii := ⟨_, _, ok_are_radii T F12 , PySem.W.mg_of X G a12, F12.kp, b12⟩
  have h_as_word : Cal P w K mg base C 1 "as_word" ["number"] R_as_word := ⟨_, _, ok_as_word T F13 , PySem.W.mg_of X G a13, F13.kp, b13⟩
  have h_sum_of : Cal P w K mg base C 1 "sum_of" ["rows"] R_sum_of := ⟨_, _, ok_sum_of T F14 , PySem.W.mg_of X G a14, F14.kp, b14⟩
  have h_rounded : Cal P w K mg base C 1 "rounded" ["top", "bottom"] R_rounded := ⟨_, _, ok_rounded T F15 , PySem.W.mg_of X G a15, F15.kp, b15⟩
  have h_widths : Cal P w K mg base C 2 "widths" ["rows", "spot"] R_widths := ⟨_, _, ok_widths T F16 h_sum_of h_rounded, PySem.W.mg_of X G a16, F16.kp, b16⟩
  exact fin_ap_moments (ok_ap_moments T F17 h_init h_spots_of h_weights h_are_seen h_are_radii h_as_word h_widths)
end Pd
open PySem PySem.W PyProof.Rows
set_option maxRecDepth 100000 in
set_option maxHeartbeats 0 in
theorem PySem.Challenge.cw_starlight_s05_ap_moments_holds : PySem.Challenge.rw_starlight_s05_ap_moments.Holds := by
  w_on; k_headS; (case hw => exact ⟨[.int 70000, .int 1, .int 1, .int 1, .list [], .list []], by decide +kernel, by decide +kernel⟩)
  k_fillS
  refine L2.walk_specK (r := PySem.Challenge.rw_starlight_s05_ap_moments) (k := 4) (CX := L2.CX0) (ps := ["level", "r", "w", "h", "f", "xy"]) (sp := Pd.spEnd) (by decide +kernel) rfl rfl ⟨rfl, by decide, by decide⟩ (fun w h Y => PySem.W.kIn_of Y) ?F ?S (fun _ _ _ _ z => z)
  case F =>
    intro w mg fa h Y KX G hmg
    refine' Pd.all_mk KX G hmg ?aC ?a0 ?i0 ?l0 ?c0 ?k0 ?a1 ?l1 ?c1 ?k1 ?a2 ?i2 ?l2 ?c2 ?k2 ?a3 ?i3 ?l3 ?c3 ?k3 ?a4 ?i4 ?l4 ?c4 ?k4 ?a5 ?l5 ?c5 ?k5 ?a6 ?i6 ?l6 ?c6 ?k6 ?a7 ?l7 ?c7 ?k7 ?a8 ?l8 ?c8 ?k8 ?a9 ?l9 ?c9 ?k9 ?a10 ?l10 ?c10 ?k10 ?a11 ?l11 ?c11 ?k11 ?a12 ?l12 ?c12 ?k12 ?a13 ?l13 ?c13 ?k13 ?a14 ?l14 ?c14 ?k14 ?a15 ?l15 ?c15 ?k15 ?a16 ?l16 ?c16 ?k16 ?a17 ?l17 ?c17 ?k17 ?z_all ?z_len ?z_max ?z_min ?z_range ?z_sum ?y_HALF ?y_MOST_LEVEL ?y_MOST_PLACES ?y_MOST_RADIUS ?y_MOST_SIDE ?y_NONE ?y_OUT_OF_RANGE ?y_PLACE ?y_WORD ?pg ?hd ?po ?sa ?mk ?kc ?nW ?nH ?nN
    (case aC => k_is)
    (case a0 => k_is)
    (case i0 => k_is)
    (case l0 => k_is)
    (case c0 => k_is)
    (case k0 => k_is)
    (case a1 => k_is)
    (case l1 => k_is)
    (case c1 => k_is)
    (case k1 => k_is)
    (case a2 => k_is)
    (case i2 => k_is)
    (case l2 => k_is)
    (case c2 => k_is)
    (case k2 => k_is)
    (case a3 => k_is)
    (case i3 => k_is)
    (case l3 => k_is)
    (case c3 => k_is)
    (case k3 => k_is)
    (case a4 => k_is)
    (case i4 => k_is)
    (case l4 => k_is)
    (case c4 => k_is)
    (case k4 => k_is)
    (case a5 => k_is)
    (case l5 => k_is)
    (case c5 => k_is)
    (case k5 => k_is)
    (case a6 => k_is)
    (case i6 => k_is)
    (case l6 => k_is)
    (case c6 => k_is)
    (case k6 => k_is)
    (case a7 => k_is)
    (case l7 => k_is)
    (case c7 => k_is)
    (case k7 => k_is)
    (case a8 => k_is)
    (case l8 => k_is)
    (case c8 => k_is)
    (case k8 => k_is)
    (case a9 => k_is)
    (case l9 => k_is)
    (case c9 => k_is)
    (case k9 => k_is)
    (case a10 => k_is)
    (case l10 => k_is)
    (case c10 => k_is)
    (case k10 => k_is)
    (case a11 => k_is)
    (case l11 => k_is)
    (case c11 => k_is)
    (case k11 => k_is)
    (case a12 => k_is)
    (case l12 => k_is)
    (case c12 => k_is)
    (case k12 => k_is)
    (case a13 => k_is)
    (case l13 => k_is)
    (case c13 => k_is)
    (case k13 => k_is)
    (case a14 => k_is)
    (case l14 => k_is)
    (case c14 => k_is)
    (case k14 => k_is)
    (case a15 => k_is)
    (case l15 => k_is)
    (case c15 => k_is)
    (case k15 => k_is)
    (case a16 => k_is)
    (case l16 => k_is)
    (case c16 => k_is)
    (case k16 => k_is)
    (case a17 => k_is)
    (case l17 => k_is)
    (case c17 => k_is)
    (case k17 => k_is)
    (case z_all => k_is)
    (case z_len => k_is)
    (case z_max => k_is)
    (case z_min => k_is)
    (case z_range => k_is)
    (case z_sum => k_is)
    (case y_HALF => k_is)
    (case y_MOST_LEVEL => k_is)
    (case y_MOST_PLACES => k_is)
    (case y_MOST_RADIUS => k_is)
    (case y_MOST_SIDE => k_is)
    (case y_NONE => k_is)
    (case y_OUT_OF_RANGE => k_is)
    (case y_PLACE => k_is)
    (case y_WORD => k_is)
    (case pg => k_is)
    (case hd => k_is)
    (case po => k_is)
    (case sa => k_is)
    (case mk => k_is)
    (case kc => k_is)
    (case nW => k_is)
    (case nH => k_is)
    (case nN => k_is)
  case S =>
    intro K H xs a hO hwi hask hx
    obtain ⟨level, r, wi, he, f, xy, u⟩ := a
    cases hx with
    | cons v0 hx =>
      cases hx with
      | cons v1 hx =>
        cases hx with
        | cons v2 hx =>
          cases hx with
          | cons v3 hx =>
            cases hx with
            | cons v4 hx =>
              cases hx with
              | cons v5 hx =>
                cases hx
                have q : (PySem.W.Codec.inInt 0 4294967295 level && (PySem.W.Codec.inInt 0 4294967295 r && (PySem.W.Codec.inInt 0 4294967295 wi && (PySem.W.Codec.inInt 0 4294967295 he && ((PySem.W.Codec.inLen 0 4200 f && f.all (PySem.W.Codec.inInt 0 65535)) && ((PySem.W.Codec.inLen 0 140 xy && xy.all (PySem.W.Codec.inInt 0 65535)) && true)))))) = true := hwi
                simp only [Bool.and_eq_true] at q
                obtain ⟨_, _, _, _, ⟨_, q4⟩, ⟨q5, q6⟩, _⟩ := q
                have hl := (PySem.W.Codec.inNat_iff.mp q5).2
                have hf := Pd.all_int q4
                have hx := Pd.all_int q6
                obtain ⟨⟨z_level, z_r, w0, h0⟩, hok, h2⟩ := Pd.ask_ap_moments hask
                have ef := MAsk.nats_ints hf
                have ex := MAsk.nats_ints hx
                have bf := MAsk.nats_big hf
                have bx := MAsk.nats_big hx
                have el : (Sh67Neutral.nats xy).length = xy.length := List.length_map ..
                generalize Sh67Neutral.nats f = fn at ef bf hok
                generalize Sh67Neutral.nats xy = xn at ex bx hok h2 el
                subst ef ex
                obtain ⟨level, rfl⟩ := Int.eq_ofNat_of_zero_le z_level
                obtain ⟨r, rfl⟩ := Int.eq_ofNat_of_zero_le z_r
                obtain ⟨wi, rfl⟩ := Int.eq_ofNat_of_zero_le w0
                obtain ⟨he, rfl⟩ := Int.eq_ofNat_of_zero_le h0
                intro C
                refine ⟨H, _, _, L2.Same.refl H, (.cons (Pd.dw_int v0) (.cons (Pd.dw_int v1) (.cons (Pd.dw_int v2) (.cons (Pd.dw_int v3) (.cons (Pd.ints_is fn ▸ Pd.dw_list v4) (.cons (Pd.ints_is xn ▸ Pd.dw_list v5) .nil)))))), ⟨level, r, wi, he, fn, xn, rfl, bf, bx, hok, h2, by omega, rfl⟩, fun v G2 H2 g dv => ?_⟩
                have e := Pd.dr_out dv g.gh
                rw [Pd.ap_moments_due] at e
                exact e

#print axioms PySem.Challenge.cw_starlight_s05_ap_moments_holds
