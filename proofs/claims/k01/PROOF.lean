import PyProof.Rows.All
import Wide.All
import OpenK.AllK
import Wide.FinOn
import HandS.ForMost
import HandS.ForExc
import HandS.Wide
import KE.Datum
import HandS.SortInts
import HandS.Style
import HandS.IsInst
import HandS.Conv
import HandS.Zip
import HandS.Rev
import HandS.More
import HandS.Evl
import PySem.Challenge.RW_rowsight_k01_who_is_seen
set_option Elab.async false
set_option linter.all false
set_option maxRecDepth 100000
set_option maxHeartbeats 4000000
/-! Framework: pure evaluation over the hand layer -/
namespace Rs
open PySem PySem.Spec PyProof.Rows L2

/-! ### heaps -/
def Ex (H H' : Hp) : Prop := ∀ a o, H a = some o → H' a = some o
theorem Ex.refl (H : Hp) : Ex H H := fun _ _ h => h
theorem Ex.trans {H H1 H2 : Hp} (a : Ex H H1) (b : Ex H1 H2) : Ex H H2 := fun x o h => b x o (a x o h)
theorem Ex.back {H H' : Hp} {p : Addr} (e : Ex H H') (h : H' p = none) : H p = none := by
  cases h1 : H p with
  | none => rfl
  | some o => rw [e p o h1] at h; cases h
theorem Ex.new {H : Hp} {p : Addr} {o : HO} (h : H p = none) : Ex H (upd H p o) := fun a u e => by
  rw [upd_ne (ne_of_none e h)]; exact e
theorem Ex.mut {B H : Hp} {p : Addr} {o : HO} (e : Ex B H) (h : B p = none) : Ex B (upd H p o) := fun a u ha => by
  rw [upd_ne (ne_of_none ha h)]; exact e a u ha
theorem Ex.both {B H : Hp} {p : Addr} {o : HO} (e : Ex B H) : Ex (upd B p o) (upd H p o) := fun a u ha => by
  by_cases h : a = p
  · subst h; rw [upd_same] at ha ⊢; exact ha
  · rw [upd_ne h] at ha ⊢; exact e a u ha
theorem Ex.take {B H : Hp} {p : Addr} {o : HO} (e : Ex B H) (h : H p = some o) : Ex (upd B p o) H := fun a u ha => by
  by_cases z : a = p
  · subst z; rw [upd_same] at ha; rw [h]; exact ha
  · rw [upd_ne z] at ha; exact e a u ha
theorem Ex.hop {B B' : Hp} {p : Addr} {o : HO} (e : Ex B B') (h : B p = none) : Ex B (upd B' p o) := Ex.mut e h

/-- B: what is known ahead, in H; B' what is known behind, in H': what stood and wasn't known stays unknown -/
structure Step (B H B' H' : Hp) : Prop where
  ex : Ex B H
  bb : Ex B B'
  bh : Ex B' H'
  hh : Ex H H'
  nw : ∀ a, H a ≠ none → B a = none → B' a = none
section
variable {B H B' H' B1 H1 B2 H2 : Hp} {p : Addr} {o : HO}
theorem Step.refl (e : Ex B H) : Step B H B H := ⟨e, Ex.refl _, e, Ex.refl _, fun _ _ h => h⟩
theorem Step.trans (s : Step B H B1 H1) (t : Step B1 H1 B2 H2) : Step B H B2 H2 :=
  ⟨s.ex, s.bb.trans t.bb, t.bh, s.hh.trans t.hh, fun a h n => t.nw a (fun z => h (s.hh.back z)) (s.nw a h n)⟩
theorem Step.new (e : Ex B H) (h : H p = none) : Step B H (upd B p o) (upd H p o) :=
  ⟨e, Ex.new (e.back h), e.both, Ex.new h, fun a z n => by
    rw [upd_ne (fun q => z (by rw [q]; exact h))]; exact n⟩
theorem Step.heap (e : Ex B H) (f : Ex H H') : Step B H B H' := ⟨e, Ex.refl _, e.trans f, f, fun _ _ h => h⟩
theorem Step.fresh (e : Ex B H) (h : H p = none) : Step B H B (upd H p o) := Step.heap e (Ex.new h)
theorem Step.mut (s : Step B H B' H') (hp : H p = none) (hb : B' p = none) : Step B H B' (upd H' p o) :=
  ⟨s.ex, s.bb, s.bh.mut hb, s.hh.mut hp, s.nw⟩
theorem Step.keep (s : Step B H B' H') (hp : H p = none) (h : H' p = some o) : Step B H (upd B' p o) H' :=
  ⟨s.ex, s.bb.hop (s.ex.back hp), s.bh.take h, s.hh, fun a z n => by
    rw [upd_ne (fun q => z (by rw [q]; exact hp))]; exact s.nw a z n⟩
theorem Step.base (s : Step B H B' H') (hp : H p ≠ none) (h : B p = none) : B' p = none := s.nw p hp h
theorem Step.got (s : Step B H B' H') (h : H p = some o) : H' p = some o := s.hh p o h
/-- the parts put together -/
def uni (B B' : Hp) : Hp := fun a => match B a with
  | some o => some o
  | none => B' a
theorem uni_l : Ex B (uni B B') := fun a o h => by unfold uni; rw [h]
theorem uni_none {a : Addr} (h : B a = none) : uni B B' a = B' a := by unfold uni; rw [h]
theorem uni_le (e : Ex B H) (f : Ex B' H) : Ex (uni B B') H := fun a o h => by
  cases q : B a with
  | none => rw [uni_none q] at h; exact f a o h
  | some u =>
    have : uni B B' a = some u := uni_l a u q
    rw [this] at h; cases h; exact e a _ q
theorem uni_r (e : Ex B H) (f : Ex B' H) : Ex B' (uni B B') := fun a o h => by
  cases q : B a with
  | none => rw [uni_none q]; exact h
  | some u =>
    have h1 := e a u q
    have h2 := f a o h
    rw [h1] at h2; cases h2
    exact uni_l a _ q
theorem Step.more (s : Step B H B' H') (e : Ex B B1) (f : Ex B1 H) : Step B1 H (uni B1 B') H' ∧ Ex B' (uni B1 B') :=
  ⟨⟨f, uni_l, uni_le (f.trans s.hh) s.bh, s.hh, fun a z n => by rw [uni_none n]; exact s.nw a z (e.back n)⟩, uni_r (f.trans s.hh) s.bh⟩
end

/-! ### data -/
/-- a script's data (read only) -/
def dS (ns : List Int) : PyData := .dict [(.list (ns.map PyData.int), .none)]
abbrev dL (ns : List Int) : PyData := .list (ns.map PyData.int)
abbrev dLL (nss : List (List Int)) : PyData := .list (nss.map dL)
abbrev dLLL (nss : List (List (List Int))) : PyData := .list (nss.map dLL)
mutual
inductive Dt (K : PySem.W.Frag) (H : Hp) : V → PyData → Prop
  | non : Dt K H .non .none
  | bl (b : Bool) : Dt K H (.bl b) (.bool b)
  | int (i : Int) : Dt K H (.int i) (.int i)
  | lst {a : Addr} {xs : List V} {ds : List PyData} : H a = some (.lst xs) → DtAll K H xs ds → Dt K H (.ref a) (.list ds)
  | tup {a : Addr} {xs : List V} {ds : List PyData} : H a = some (.tup xs) → DtAll K H xs ds → Dt K H (.ref a) (.tuple ds)
  | scr {a : Addr} {ns : List Int} : SqL K H a (ns.map V.int) → Dt K H (.ref a) (.dict [(.list (ns.map PyData.int), .none)])
inductive DtAll (K : PySem.W.Frag) (H : Hp) : List V → List PyData → Prop
  | nil : DtAll K H [] []
  | cons {v : V} {vs : List V} {d : PyData} {ds : List PyData} : Dt K H v d → DtAll K H vs ds → DtAll K H (v :: vs) (d :: ds)
end
theorem ex_sql {K : PySem.W.Frag} {H H' : Hp} {a : Addr} {xs : List V} (e : Ex H H') (h : SqL K H a xs) : SqL K H' a xs := by
  rcases h with (h | ⟨o, h⟩) | h
  · exact .inl (.inl (e _ _ h))
  · exact .inl (.inr ⟨o, e _ _ h⟩)
  · exact .inr h
section
variable {K : PySem.W.Frag} {H H' B B' : Hp}
mutual
theorem Dt.ex (e : Ex H H') : ∀ (d : PyData) (v : V), Dt K H v d → Dt K H' v d
  | .none, _, h => by cases h; exact .non
  | .bool b, _, h => by cases h; exact .bl b
  | .int i, _, h => by cases h; exact .int i
  | .str s, _, h => by cases h
  | .list ds, _, h => by
    cases h with
    | lst a b => exact .lst (e _ _ a) (DtAll.ex e ds _ b)
  | .tuple ds, _, h => by
    cases h with
    | tup a b => exact .tup (e _ _ a) (DtAll.ex e ds _ b)
  | .dict ds, _, h => by
    cases h with
    | scr a => exact .scr (ex_sql e a)
theorem DtAll.ex (e : Ex H H') : ∀ (ds : List PyData) (vs : List V), DtAll K H vs ds → DtAll K H' vs ds
  | [], _, h => by cases h; exact .nil
  | d :: ds, _, h => by
    cases h with
    | cons a b => exact .cons (Dt.ex e d _ a) (DtAll.ex e ds _ b)
end
theorem Dt.up {d : PyData} {v : V} (h : Dt K H v d) (e : Ex H H') : Dt K H' v d := Dt.ex e d v h
theorem DtAll.up {ds : List PyData} {vs : List V} (h : DtAll K H vs ds) (e : Ex H H') : DtAll K H' vs ds := DtAll.ex e ds vs h
theorem Dt.int_eq {v : V} {i : Int} (h : Dt K H v (.int i)) : v = .int i := by cases h; rfl
theorem Dt.bl_eq {v : V} {i : Bool} (h : Dt K H v (.bool i)) : v = .bl i := by cases h; rfl
theorem Dt.non_eq {v : V} (h : Dt K H v .none) : v = .non := by cases h; rfl
theorem Dt.list_eq {v : V} {ds : List PyData} (h : Dt K H v (.list ds)) : ∃ a xs, v = .ref a ∧ H a = some (.lst xs) ∧ DtAll K H xs ds := by
  cases h with
  | lst a b => exact ⟨_, _, rfl, a, b⟩
theorem Dt.tup_eq {v : V} {ds : List PyData} (h : Dt K H v (.tuple ds)) : ∃ a xs, v = .ref a ∧ H a = some (.tup xs) ∧ DtAll K H xs ds := by
  cases h with
  | tup a b => exact ⟨_, _, rfl, a, b⟩
theorem map_int_inj : ∀ {ns ms : List Int}, ns.map PyData.int = ms.map PyData.int → ns = ms
  | [], [], _ => rfl
  | [], _ :: _, h => by simp at h
  | _ :: _, [], h => by simp at h
  | a :: ns, b :: ms, h => by
    simp only [List.map_cons, List.cons.injEq, PyData.int.injEq] at h
    rw [h.1, map_int_inj h.2]
theorem Dt.scr_eq {v : V} {ns : List Int} (h : Dt K H v (dS ns)) : ∃ a, v = .ref a ∧ SqL K H a (ns.map V.int) := by
  generalize hd : dS ns = d at h
  cases h with
  | scr a =>
    unfold dS at hd
    simp only [PyData.dict.injEq, List.cons.injEq, Prod.mk.injEq, PyData.list.injEq, and_true] at hd
    rw [map_int_inj hd]
    exact ⟨_, rfl, a⟩
  | non => cases hd
  | bl => cases hd
  | int => cases hd
  | lst => cases hd
  | tup => cases hd
theorem DtAll.length : ∀ {vs : List V} {ds : List PyData}, DtAll K H vs ds → vs.length = ds.length
  | _, _, .nil => rfl
  | _, _, .cons _ t => by rw [List.length_cons, List.length_cons, DtAll.length t]
theorem DtAll.get : ∀ {vs : List V} {ds : List PyData} {i : Nat} {d : PyData}, DtAll K H vs ds → ds[i]? = some d → ∃ v, vs[i]? = some v ∧ Dt K H v d
  | _, _, _, _, .nil, h => by simp at h
  | _, _, 0, _, .cons a _, h => by simp at h; subst h; exact ⟨_, rfl, a⟩
  | _, _, i + 1, d, .cons _ t, h => by
    obtain ⟨v, h1, h2⟩ := DtAll.get (i := i) (d := d) t (by simpa using h)
    exact ⟨v, by simpa using h1, h2⟩
theorem DtAll.getV : ∀ {vs : List V} {ds : List PyData} {i : Nat} {v : V}, DtAll K H vs ds → vs[i]? = some v → ∃ d, ds[i]? = some d ∧ Dt K H v d
  | _, _, _, _, .nil, h => by simp at h
  | _, _, 0, _, .cons a _, h => by simp at h; subst h; exact ⟨_, rfl, a⟩
  | _, _, i + 1, d, .cons _ t, h => by
    obtain ⟨v, h1, h2⟩ := DtAll.getV (i := i) t (by simpa using h)
    exact ⟨v, by simpa using h1, h2⟩
theorem DtAll.app : ∀ {vs ws : List V} {ds es : List PyData}, DtAll K H vs ds → DtAll K H ws es → DtAll K H (vs ++ ws) (ds ++ es)
  | _, _, _, _, .nil, h => h
  | _, _, _, _, .cons a t, h => .cons a (DtAll.app t h)
theorem DtAll.one {v : V} {d : PyData} (h : Dt K H v d) : DtAll K H [v] [d] := .cons h .nil
theorem DtAll.take : ∀ {vs : List V} {ds : List PyData} (n : Nat), DtAll K H vs ds → DtAll K H (vs.take n) (ds.take n)
  | _, _, 0, _ => .nil
  | _, _, _ + 1, .nil => .nil
  | _, _, n + 1, .cons a t => .cons a (DtAll.take n t)
theorem DtAll.drop : ∀ {vs : List V} {ds : List PyData} (n : Nat), DtAll K H vs ds → DtAll K H (vs.drop n) (ds.drop n)
  | _, _, 0, h => h
  | _, _, _ + 1, .nil => .nil
  | _, _, n + 1, .cons _ t => DtAll.drop n t
theorem DtAll.set : ∀ {vs : List V} {ds : List PyData} (n : Nat) {v : V} {d : PyData}, DtAll K H vs ds → Dt K H v d → DtAll K H (vs.set n v) (ds.set n d)
  | _, _, _, _, _, .nil, _ => .nil
  | _, _, 0, _, _, .cons _ t, h => .cons h t
  | _, _, n + 1, _, _, .cons a t, h => .cons a (DtAll.set n t h)
theorem DtAll.erase : ∀ {vs : List V} {ds : List PyData} (n : Nat), DtAll K H vs ds → DtAll K H (vs.eraseIdx n) (ds.eraseIdx n)
  | _, _, _, .nil => .nil
  | _, _, 0, .cons _ t => t
  | _, _, n + 1, .cons a t => .cons a (DtAll.erase n t)
theorem DtAll.rev {vs : List V} {ds : List PyData} (h : DtAll K H vs ds) : DtAll K H vs.reverse ds.reverse := by
  induction ds generalizing vs with
  | nil => cases h; exact .nil
  | cons d ds ih =>
    cases h with
    | cons a t => rw [List.reverse_cons, List.reverse_cons]; exact (ih t).app (.one a)
theorem DtAll.ints : ∀ {vs : List V} {ns : List Int}, DtAll K H vs (ns.map PyData.int) → vs = ns.map V.int
  | _, [], h => by cases h; rfl
  | _, n :: ns, h => by
    cases h with
    | cons a t => rw [a.int_eq, DtAll.ints t]; rfl
theorem DtAll.of_ints : ∀ (ns : List Int), DtAll K H (ns.map V.int) (ns.map PyData.int)
  | [] => .nil
  | n :: ns => .cons (.int n) (DtAll.of_ints ns)
theorem DtAll.bls : ∀ {vs : List V} {ns : List Bool}, DtAll K H vs (ns.map PyData.bool) → vs = ns.map V.bl
  | _, [], h => by cases h; rfl
  | _, n :: ns, h => by
    cases h with
    | cons a t => rw [a.bl_eq, DtAll.bls t]; rfl
theorem Dt.ints_eq {v : V} {ns : List Int} (h : Dt K H v (dL ns)) : ∃ a, v = .ref a ∧ H a = some (.lst (ns.map V.int)) := by
  obtain ⟨a, xs, e, h1, h2⟩ := h.list_eq
  exact ⟨a, e, by rw [h1, h2.ints]⟩
theorem Dt.of_ints {a : Addr} {ns : List Int} (h : H a = some (.lst (ns.map V.int))) : Dt K H (.ref a) (dL ns) := .lst h (.of_ints ns)
/-! data without scripts -/
mutual
def pure? : PyData → Bool
  | .dict _ => false
  | .list ds => pures? ds
  | .tuple ds => pures? ds
  | _ => true
def pures? : List PyData → Bool
  | [] => true
  | d :: ds => pure? d && pures? ds
end
mutual
theorem Dt.dp : ∀ (d : PyData) (v : V), Dt K H v d → pure? d = true → Dp K H v d
  | .none, _, h, _ => by cases h; exact .non
  | .bool b, _, h, _ => by cases h; exact .bl b
  | .int i, _, h, _ => by cases h; exact .int i
  | .str s, _, h, _ => by cases h
  | .list ds, _, h, p => by
    cases h with
    | lst a b => exact .lst (.inl (.inl a)) (DtAll.dp ds _ b (by unfold pure? at p; exact p))
  | .tuple ds, _, h, p => by
    cases h with
    | tup a b => exact .tup (.inl (.inl a)) (DtAll.dp ds _ b (by unfold pure? at p; exact p))
  | .dict ds, _, h, p => by unfold pure? at p; cases p
theorem DtAll.dp : ∀ (ds : List PyData) (vs : List V), DtAll K H vs ds → pures? ds = true → DpAll K H vs ds
  | [], _, h, _ => by cases h; exact .nil
  | d :: ds, _, h, p => by
    unfold pures? at p
    rw [Bool.and_eq_true] at p
    cases h with
    | cons a b => exact .cons (Dt.dp d _ a p.1) (DtAll.dp ds _ b p.2)
end
end
end Rs

namespace Rs
open PySem PySem.Spec PyProof.Rows L2

/-! ### evaluation of pure expressions -/
def EvF (K : PySem.W.Frag) (F : Hp → VK → Prop) (B : Hp) (d : PyData) : Prop := ∀ H, Ex B H → ∀ Q : VK, (∀ v B' H', Step B H B' H' → Dt K B' v d → Q v H') → F H Q
/-- a new list -/
def EvN (K : PySem.W.Frag) (F : Hp → VK → Prop) (B : Hp) (ds : List PyData) : Prop := ∀ H, Ex B H → ∀ Q : VK, (∀ p vs B' H', Step B H B' H' → H p = none → B' p = none → H' p = some (.lst vs) → DtAll K B' vs ds → Q (.ref p) H') → F H Q
def EvT (F : Hp → (Bool → Hp → Prop) → Prop) (B : Hp) (b : Bool) : Prop := ∀ H, Ex B H → ∀ Q : Bool → Hp → Prop, (∀ H', Ex H H' → Q b H') → F H Q
def EvA (K : PySem.W.Frag) (F : Hp → (List V → Hp → Prop) → Prop) (B : Hp) (ds : List PyData) : Prop := ∀ H, Ex B H → ∀ Q : List V → Hp → Prop, (∀ vs B' H', Step B H B' H' → DtAll K B' vs ds → Q vs H') → F H Q
/-- a part of a slice -/
def EvO (F : Hp → (Option Int → Hp → Prop) → Prop) (B : Hp) (o : Option Int) : Prop := ∀ H, Ex B H → ∀ Q : Option Int → Hp → Prop, (∀ H', Ex H H' → Q o H') → F H Q

section
variable {K : PySem.W.Frag} {σ : L2.St} {B B' : Hp} {ta tb tc te : TE} {t u : TT} {d d1 d2 d3 : PyData} {r : R2} {b b' : Bool} {ar : TA} {F : Hp → VK → Prop}
theorem EvF.mono (h : EvF K F B d) (e : Ex B B') : EvF K F B' d := fun H f Q q =>
  h H (e.trans f) Q fun v B1 H1 s dv =>
    let ⟨s1, e1⟩ := s.more e f
    q v _ H1 s1 (dv.up e1)
theorem EvN.mono {ds : List PyData} (h : EvN K F B ds) (e : Ex B B') : EvN K F B' ds := fun H f Q q =>
  h H (e.trans f) Q fun p vs B1 H1 s h0 h1 h2 dv =>
    let ⟨s1, e1⟩ := s.more e f
    q p vs _ H1 s1 h0 (by rw [uni_none (f.back h0)]; exact h1) h2 (dv.up e1)
theorem EvT.mono {F : Hp → (Bool → Hp → Prop) → Prop} (h : EvT F B b) (e : Ex B B') : EvT F B' b := fun H f Q q => h H (e.trans f) Q q
theorem EvA.mono {F : Hp → (List V → Hp → Prop) → Prop} {ds : List PyData} (h : EvA K F B ds) (e : Ex B B') : EvA K F B' ds := fun H f Q q =>
  h H (e.trans f) Q fun v B1 H1 s dv =>
    let ⟨s1, e1⟩ := s.more e f
    q v _ H1 s1 (dv.up e1)
theorem EvO.mono {F : Hp → (Option Int → Hp → Prop) → Prop} {o : Option Int} (h : EvO F B o) (e : Ex B B') : EvO F B' o := fun H f Q q => h H (e.trans f) Q q
theorem EvN.toD {ds : List PyData} (h : EvN K F B ds) : EvF K F B (.list ds) := fun H f Q q =>
  h H f Q fun p vs B1 H1 s h0 h1 h2 dv => q (.ref p) (upd B1 p (.lst vs)) H1 (s.keep h0 h2) (.lst upd_same (dv.up (Ex.new h1)))
theorem EvF.is {d' : PyData} (h : EvF K F B d) (e : d = d') : EvF K F B d' := e ▸ h
theorem EvN.is {ds ds' : List PyData} (h : EvN K F B ds) (e : ds = ds') : EvN K F B ds' := e ▸ h
theorem EvT.is {F : Hp → (Bool → Hp → Prop) → Prop} (h : EvT F B b) (e : b = b') : EvT F B b' := e ▸ h

theorem ev_var {i : Nat} {v : V} (h : σ[i]? = some (some v)) (hd : Dt K B v d) : EvF K (tVar i σ) B d := fun H f Q q => ⟨v, h, q v B H (Step.refl f) hd⟩
theorem ev_int {i : Int} : EvF K (tC (.int i) σ) B (.int i) := fun H f Q q => q _ B H (Step.refl f) (.int i)
theorem ev_bl {i : Bool} : EvF K (tC (.bl i) σ) B (.bool i) := fun H f Q q => q _ B H (Step.refl f) (.bl i)
theorem ev_non : EvF K (tC .non σ) B .none := fun H f Q q => q _ B H (Step.refl f) .non
/-- one after another -/
theorem ev_op (ha : EvF K (ta σ) B d1) (hb : EvF K (tb σ) B d2) (hr : ∀ x y B', Ex B B' → Dt K B' x d1 → Dt K B' y d2 → EvF K (r x y) B' d) : EvF K (tOp r ta tb σ) B d := fun H f Q q =>
  ha H f _ fun x B1 H1 s1 dx => (hb.mono s1.bb) H1 s1.bh _ fun y B2 H2 s2 dy =>
    hr x y B2 (s1.bb.trans s2.bb) (dx.up s2.bb) dy H2 s2.bh Q fun v B3 H3 s3 dv => q v B3 H3 ((s1.trans s2).trans s3) dv
theorem ev_opN {ds : List PyData} (ha : EvF K (ta σ) B d1) (hb : EvF K (tb σ) B d2) (hr : ∀ x y B', Ex B B' → Dt K B' x d1 → Dt K B' y d2 → EvN K (r x y) B' ds) : EvN K (tOp r ta tb σ) B ds := fun H f Q q =>
  ha H f _ fun x B1 H1 s1 dx => (hb.mono s1.bb) H1 s1.bh _ fun y B2 H2 s2 dy =>
    hr x y B2 (s1.bb.trans s2.bb) (dx.up s2.bb) dy H2 s2.bh Q fun p vs B3 H3 s3 h0 h1 h2 dv => q p vs B3 H3 ((s1.trans s2).trans s3) (((s1.trans s2).hh).back h0) h1 h2 dv
theorem ev_un {r : V → Hp → VK → Prop} (ha : EvF K (ta σ) B d1) (hr : ∀ x B', Ex B B' → Dt K B' x d1 → EvF K (r x) B' d) : EvF K (tUn r ta σ) B d := fun H f Q q =>
  ha H f _ fun x B1 H1 s1 dx => hr x B1 s1.bb dx H1 s1.bh Q fun v B3 H3 s3 dv => q v B3 H3 (s1.trans s3) dv
/-- a value told at once, the heap as it is -/
theorem ev_here {v : V} (hd : Dt K B v d) (h : ∀ H, Ex B H → ∀ Q : VK, Q v H → F H Q) : EvF K F B d := fun H f Q q => h H f Q (q v B H (Step.refl f) hd)
theorem ev_newl {xs : List V} {ds : List PyData} (hd : DtAll K B xs ds) (h : ∀ H, Ex B H → ∀ Q : VK, (∀ p, H p = none → Q (.ref p) (upd H p (.lst xs))) → F H Q) : EvN K F B ds := fun H f Q q =>
  h H f Q fun p hp => q p xs B _ (Step.fresh f hp) hp (f.back hp) upd_same hd
theorem ev_newt {xs : List V} {ds : List PyData} (hd : DtAll K B xs ds) (h : ∀ H, Ex B H → ∀ Q : VK, (∀ p, H p = none → Q (.ref p) (upd H p (.tup xs))) → F H Q) : EvF K F B (.tuple ds) := fun H f Q q =>
  h H f Q fun p hp => q _ (upd B p (.tup xs)) _ (Step.new f hp) (.tup upd_same (hd.up (Ex.new (f.back hp))))
theorem ev_opI {g : Int → Int → V} {i j : Int} (ha : EvF K (ta σ) B (.int i)) (hb : EvF K (tb σ) B (.int j)) (hd : ∀ B', Dt K B' (g i j) d) : EvF K (tOp (rI0 g) ta tb σ) B d :=
  ev_op ha hb fun x y B' e dx dy => by
    rw [dx.int_eq, dy.int_eq]
    exact ev_here (hd B') fun H f Q q => ⟨i, j, rfl, rfl, q⟩
theorem ev_opC {C : Int → Int → Prop} {g : Int → Int → V} {i j : Int} (ha : EvF K (ta σ) B (.int i)) (hb : EvF K (tb σ) B (.int j)) (hc : C i j) (hd : ∀ B', Dt K B' (g i j) d) : EvF K (tOp (rI C g) ta tb σ) B d :=
  ev_op ha hb fun x y B' e dx dy => by
    rw [dx.int_eq, dy.int_eq]
    exact ev_here (hd B') fun H f Q q => ⟨i, j, rfl, rfl, hc, q⟩
section
variable {i j : Int}
theorem ev_add (ha : EvF K (ta σ) B (.int i)) (hb : EvF K (tb σ) B (.int j)) : EvF K (tOp (rI0 fun i j => .int (i + j)) ta tb σ) B (.int (i + j)) := ev_opI ha hb fun _ => .int _
theorem ev_sub (ha : EvF K (ta σ) B (.int i)) (hb : EvF K (tb σ) B (.int j)) : EvF K (tOp (rI0 fun i j => .int (i - j)) ta tb σ) B (.int (i - j)) := ev_opI ha hb fun _ => .int _
theorem ev_mul (ha : EvF K (ta σ) B (.int i)) (hb : EvF K (tb σ) B (.int j)) (hc : CMul i j) : EvF K (tOp (rI CMul fun i j => .int (i * j)) ta tb σ) B (.int (i * j)) := ev_opC ha hb hc fun _ => .int _
theorem ev_mulW (ha : EvF K (ta σ) B (.int i)) (hb : EvF K (tb σ) B (.int j)) (hc : CMulW i j) : EvF K (tOp (rI CMulW fun i j => .int (i * j)) ta tb σ) B (.int (i * j)) := ev_opC ha hb hc fun _ => .int _
theorem ev_mod (ha : EvF K (ta σ) B (.int i)) (hb : EvF K (tb σ) B (.int j)) (hc : 0 < j) : EvF K (tOp (rI (fun _ j => 0 < j) fun i j => .int (i % j)) ta tb σ) B (.int (i % j)) := ev_opC ha hb hc fun _ => .int _
theorem ev_fdiv (ha : EvF K (ta σ) B (.int i)) (hb : EvF K (tb σ) B (.int j)) (hc : CDiv i j) : EvF K (tOp (rI CDiv fun i j => .int (i / j)) ta tb σ) B (.int (i / j)) := ev_opC ha hb hc fun _ => .int _
theorem ev_fdivW (ha : EvF K (ta σ) B (.int i)) (hb : EvF K (tb σ) B (.int j)) (hc : CDivW i j) : EvF K (tOp (rI CDivW fun i j => .int (i / j)) ta tb σ) B (.int (i / j)) := ev_opC ha hb hc fun _ => .int _
theorem ev_pow (ha : EvF K (ta σ) B (.int i)) (hb : EvF K (tb σ) B (.int j)) (hc : CPow i j) : EvF K (tOp (rI CPow fun i j => .int (i ^ j.toNat)) ta tb σ) B (.int (i ^ j.toNat)) := ev_opC ha hb hc fun _ => .int _
theorem ev_neg (ha : EvF K (ta σ) B (.int i)) : EvF K (tUn (rU fun i => .int (-i)) ta σ) B (.int (-i)) := ev_un ha fun x B' e dx => by
  rw [dx.int_eq]
  exact ev_here (.int _) fun H f Q q => ⟨i, rfl, q⟩
theorem ev_lt (ha : EvF K (ta σ) B (.int i)) (hb : EvF K (tb σ) B (.int j)) : EvF K (tOp (rI0 fun i j => .bl (decide (i < j))) ta tb σ) B (.bool (decide (i < j))) := ev_opI ha hb fun _ => .bl _
theorem ev_le (ha : EvF K (ta σ) B (.int i)) (hb : EvF K (tb σ) B (.int j)) : EvF K (tOp (rI0 fun i j => .bl (decide (i ≤ j))) ta tb σ) B (.bool (decide (i ≤ j))) := ev_opI ha hb fun _ => .bl _
theorem ev_gt (ha : EvF K (ta σ) B (.int i)) (hb : EvF K (tb σ) B (.int j)) : EvF K (tOp (rI0 fun i j => .bl (decide (j < i))) ta tb σ) B (.bool (decide (j < i))) := ev_opI ha hb fun _ => .bl _
theorem ev_ge (ha : EvF K (ta σ) B (.int i)) (hb : EvF K (tb σ) B (.int j)) : EvF K (tOp (rI0 fun i j => .bl (decide (j ≤ i))) ta tb σ) B (.bool (decide (j ≤ i))) := ev_opI ha hb fun _ => .bl _
end
/-! == and != of data -/
theorem ev_eq (ha : EvF K (ta σ) B d1) (hb : EvF K (tb σ) B d2) (h1 : pure? d1 = true := by rfl) (h2 : pure? d2 = true := by rfl) (s1 : SeqAt.shaped d1 = true := by rfl) (s2 : SeqAt.shaped d2 = true := by rfl) : EvF K (tOp (rEqD K) ta tb σ) B (.bool (PyData.eqv d1 d2)) :=
  ev_op ha hb fun x y B' e dx dy => ev_here (.bl _) fun H f Q q => ⟨d1, d2, (dx.up f).dp _ _ h1, (dy.up f).dp _ _ h2, s1, s2, q⟩
theorem ev_ne (ha : EvF K (ta σ) B d1) (hb : EvF K (tb σ) B d2) (h1 : pure? d1 = true := by rfl) (h2 : pure? d2 = true := by rfl) (s1 : SeqAt.shaped d1 = true := by rfl) (s2 : SeqAt.shaped d2 = true := by rfl) : EvF K (tOp (rNeD K) ta tb σ) B (.bool (!PyData.eqv d1 d2)) :=
  ev_op ha hb fun x y B' e dx dy => ev_here (.bl _) fun H f Q q => ⟨d1, d2, (dx.up f).dp _ _ h1, (dy.up f).dp _ _ h2, s1, s2, q⟩
/-- is None -/
def rIsN : R2 := fun x y H Q => y = .non ∧ Q (.bl (decide (x = .non))) H
def rNotN : R2 := fun x y H Q => y = .non ∧ Q (.bl (!decide (x = .non))) H
theorem op_isN1 {X : Cx} : OpR X (compareOp .Is) rIsN := op_isN
theorem op_notN1 {X : Cx} : OpR X (compareOp .IsNot) rNotN := op_notN
def isNone : PyData → Bool
  | .none => true
  | _ => false
theorem Dt.isNone {v : V} (h : Dt K B v d) : decide (v = .non) = isNone d := by
  cases h <;> simp [Rs.isNone]
theorem ev_isN (ha : EvF K (ta σ) B d1) : EvF K (tOp rIsN ta (tC .non) σ) B (.bool (isNone d1)) := ev_op ha ev_non fun x y B' e dx dy =>
  ev_here (.bl _) fun H f Q q => ⟨dy.non_eq, by rw [dx.isNone]; exact q⟩
theorem ev_notN (ha : EvF K (ta σ) B d1) : EvF K (tOp rNotN ta (tC .non) σ) B (.bool (!isNone d1)) := ev_op ha ev_non fun x y B' e dx dy =>
  ev_here (.bl _) fun H f Q q => ⟨dy.non_eq, by rw [dx.isNone]; exact q⟩
/-! a < b < c -/
theorem ev_chain {r r' : R2} {k1 k2 : Bool} (ha : EvF K (ta σ) B d1) (hb : EvF K (tb σ) B d2) (hc : EvF K (tc σ) B d3)
    (h1 : ∀ x y B', Ex B B' → Dt K B' x d1 → Dt K B' y d2 → EvF K (r x y) B' (.bool k1)) (h2 : ∀ x y B', Ex B B' → Dt K B' x d2 → Dt K B' y d3 → EvF K (r' x y) B' (.bool k2)) : EvF K (tChain r r' ta tb tc σ) B (.bool (k1 && k2)) := fun H f Q q =>
  ha H f _ fun x B1 H1 s1 dx => (hb.mono s1.bb) H1 s1.bh _ fun y B2 H2 s2 dy =>
    h1 x y B2 (s1.bb.trans s2.bb) (dx.up s2.bb) dy H2 s2.bh _ fun v B3 H3 s3 dv => ⟨k1, dv.bl_eq, by
      cases k1 with
      | true =>
        refine iteT ?_
        refine (hc.mono ((s1.bb.trans s2.bb).trans s3.bb)) H3 s3.bh _ fun z B4 H4 s4 dz => ?_
        exact h2 y z B4 (((s1.bb.trans s2.bb).trans s3.bb).trans s4.bb) ((dy.up s3.bb).up s4.bb) dz H4 s4.bh Q fun v B5 H5 s5 dv => q v B5 H5 ((((s1.trans s2).trans s3).trans s4).trans s5) dv
      | false =>
        refine iteF ?_
        exact q _ B3 H3 ((s1.trans s2).trans s3) (.bl _)⟩
theorem ev_leI {i j : Int} : ∀ x y B', Ex B B' → Dt K B' x (.int i) → Dt K B' y (.int j) → EvF K (rI0 (fun i j => .bl (decide (i ≤ j))) x y) B' (.bool (decide (i ≤ j))) := fun x y B' e dx dy => by
  rw [dx.int_eq, dy.int_eq]
  exact ev_here (.bl _) fun H f Q q => ⟨i, j, rfl, rfl, q⟩
theorem ev_ltI {i j : Int} : ∀ x y B', Ex B B' → Dt K B' x (.int i) → Dt K B' y (.int j) → EvF K (rI0 (fun i j => .bl (decide (i < j))) x y) B' (.bool (decide (i < j))) := fun x y B' e dx dy => by
  rw [dx.int_eq, dy.int_eq]
  exact ev_here (.bl _) fun H f Q q => ⟨i, j, rfl, rfl, q⟩
theorem ev_chLeLe {i j k : Int} (ha : EvF K (ta σ) B (.int i)) (hb : EvF K (tb σ) B (.int j)) (hc : EvF K (tc σ) B (.int k)) :
    EvF K (tChain (rI0 fun i j => .bl (decide (i ≤ j))) (rI0 fun i j => .bl (decide (i ≤ j))) ta tb tc σ) B (.bool (decide (i ≤ j) && decide (j ≤ k))) := ev_chain ha hb hc ev_leI ev_leI
theorem ev_chLeLt {i j k : Int} (ha : EvF K (ta σ) B (.int i)) (hb : EvF K (tb σ) B (.int j)) (hc : EvF K (tc σ) B (.int k)) :
    EvF K (tChain (rI0 fun i j => .bl (decide (i ≤ j))) (rI0 fun i j => .bl (decide (i < j))) ta tb tc σ) B (.bool (decide (i ≤ j) && decide (j < k))) := ev_chain ha hb hc ev_leI ev_ltI
/-! tests -/
theorem et_test (h : EvF K (te σ) B (.bool b)) : EvT (tTest te σ) B b := fun H f Q q => h H f _ fun v B1 H1 s dv => ⟨b, dv.bl_eq, q H1 s.hh⟩
theorem et_B (h : EvF K (te σ) B (.bool b)) : EvT (tB te σ) B b := fun H f Q q => h H f _ fun v B1 H1 s dv => ⟨b, dv.bl_eq, q H1 s.hh⟩
theorem et_and (h1 : EvT (t σ) B b) (h2 : b = true → EvT (u σ) B b') : EvT (tAnd t u σ) B (b && b') := fun H f Q q => h1 H f _ fun H1 e1 => by
  cases b with
  | true => exact iteT ((h2 rfl) H1 (f.trans e1) _ fun H2 e2 => q H2 (e1.trans e2))
  | false => exact iteF (q H1 e1)
theorem et_or (h1 : EvT (t σ) B b) (h2 : b = false → EvT (u σ) B b') : EvT (tOr t u σ) B (b || b') := fun H f Q q => h1 H f _ fun H1 e1 => by
  cases b with
  | true => exact iteT (q H1 e1)
  | false => exact iteF ((h2 rfl) H1 (f.trans e1) _ fun H2 e2 => q H2 (e1.trans e2))
theorem et_not (h1 : EvT (t σ) B b) : EvT (tNot t σ) B (!b) := fun H f Q q => h1 H f _ fun H1 e1 => q H1 e1
theorem et_yes : EvT (tYes σ) B true := fun H f Q q => q H (Ex.refl H)
theorem ev_andV (h1 : EvF K (ta σ) B (.bool b)) (h2 : b = true → EvF K (tb σ) B (.bool b')) : EvF K (tAndV ta tb σ) B (.bool (b && b')) := fun H f Q q => h1 H f _ fun v B1 H1 s1 dv => ⟨b, dv.bl_eq, by
  cases b with
  | true => exact iteT (((h2 rfl).mono s1.bb) H1 s1.bh _ fun w B2 H2 s2 dw => q w B2 H2 (s1.trans s2) dw)
  | false => exact iteF (q _ B1 H1 s1 (.bl _))⟩
theorem ev_orV (h1 : EvF K (ta σ) B (.bool b)) (h2 : b = false → EvF K (tb σ) B (.bool b')) : EvF K (tOrV ta tb σ) B (.bool (b || b')) := fun H f Q q => h1 H f _ fun v B1 H1 s1 dv => ⟨b, dv.bl_eq, by
  cases b with
  | true => exact iteT (q _ B1 H1 s1 (.bl _))
  | false => exact iteF (((h2 rfl).mono s1.bb) H1 s1.bh _ fun w B2 H2 s2 dw => q w B2 H2 (s1.trans s2) dw)⟩
theorem ev_notV (h1 : EvF K (ta σ) B (.bool b)) : EvF K (tNotV ta σ) B (.bool (!b)) := fun H f Q q => h1 H f _ fun v B1 H1 s1 dv => ⟨b, dv.bl_eq, q _ B1 H1 s1 (.bl _)⟩
theorem ev_if {d : PyData} (h : EvT (t σ) B b) (h1 : b = true → EvF K (ta σ) B d) (h2 : b = false → EvF K (tb σ) B d) : EvF K (tIf t ta tb σ) B d := fun H f Q q => h H f _ fun H1 e1 => by
  cases b with
  | true => exact iteT ((h1 rfl) H1 (f.trans e1) _ fun w B2 H2 s2 dw => q w B2 H2 ((Step.heap f e1).trans s2) dw)
  | false => exact iteF ((h2 rfl) H1 (f.trans e1) _ fun w B2 H2 s2 dw => q w B2 H2 ((Step.heap f e1).trans s2) dw)
/-! arguments, displays -/
theorem ea_nil : EvA K (tNil σ) B [] := fun H f Q q => q [] B H (Step.refl f) .nil
theorem ea_cons {ds : List PyData} (h : EvF K (ta σ) B d) (hr : EvA K (ar σ) B ds) : EvA K (tCons ta ar σ) B (d :: ds) := fun H f Q q =>
  h H f _ fun x B1 H1 s1 dx => (hr.mono s1.bb) H1 s1.bh _ fun xs B2 H2 s2 dxs => q _ B2 H2 (s1.trans s2) (.cons (dx.up s2.bb) dxs)
theorem sz100 {n : Nat} (h : n ≤ 100000) : n ≤ sizeLine := Nat.le_trans h (by decide)
theorem sz100lt {n : Nat} (h : n < 100000) : n < sizeLine := Nat.lt_of_lt_of_le h (by decide)
theorem ev_bindA {F' : List V → Hp → VK → Prop} {ds : List PyData} (h : EvA K (ar σ) B ds) (k : ∀ vs B', Ex B B' → DtAll K B' vs ds → EvF K (F' vs) B' d) : EvF K (fun H Q => ar σ H fun vs H1 => F' vs H1 Q) B d := fun H f Q q =>
  h H f _ fun vs B1 H1 s1 dx => k vs B1 s1.bb dx H1 s1.bh _ fun v B2 H2 s2 dv => q v B2 H2 (s1.trans s2) dv
theorem ev_bindAN {F' : List V → Hp → VK → Prop} {ds es : List PyData} (h : EvA K (ar σ) B ds) (k : ∀ vs B', Ex B B' → DtAll K B' vs ds → EvN K (F' vs) B' es) : EvN K (fun H Q => ar σ H fun vs H1 => F' vs H1 Q) B es := fun H f Q q =>
  h H f _ fun vs B1 H1 s1 dx => k vs B1 s1.bb dx H1 s1.bh _ fun p vs B2 H2 s2 h0 h1 h2 dv => q p vs B2 H2 (s1.trans s2) (s1.hh.back h0) h1 h2 dv
theorem ev_lst {ds : List PyData} (h : EvA K (ar σ) B ds) (hl : ds.length ≤ 100000 := by simp) : EvN K (tLst ar σ) B ds :=
  ev_bindAN (F' := fun xs H1 Q => xs.length ≤ sizeLine ∧ ∀ p, H1 p = none → Q (.ref p) (upd H1 p (.lst xs))) h fun vs B' e dv => ev_newl dv fun H f Q q => ⟨sz100 (by rw [dv.length]; exact hl), q⟩
theorem ev_tup {ds : List PyData} (h : EvA K (ar σ) B ds) (hl : ds.length ≤ 100000 := by simp) : EvF K (tTup ar σ) B (.tuple ds) :=
  ev_bindA (F' := fun xs H1 Q => xs.length ≤ sizeLine ∧ ∀ p, H1 p = none → Q (.ref p) (upd H1 p (.tup xs))) h fun vs B' e dv => ev_newt dv fun H f Q q => ⟨sz100 (by rw [dv.length]; exact hl), q⟩
/-! calls by values -/
theorem ev_cb {r : List V → Hp → VK → Prop} {ds : List PyData} (h : EvA K (ar σ) B ds) (k : ∀ vs B', Ex B B' → DtAll K B' vs ds → EvF K (r vs) B' d) : EvF K (tCB r ar σ) B d := ev_bindA (F' := r) h k
theorem ev_cbN {r : List V → Hp → VK → Prop} {ds es : List PyData} (h : EvA K (ar σ) B ds) (k : ∀ vs B', Ex B B' → DtAll K B' vs ds → EvN K (r vs) B' es) : EvN K (tCB r ar σ) B es := ev_bindAN (F' := r) h k
theorem DtAll.one_eq {vs : List V} (h : DtAll K B vs [d]) : ∃ v, vs = [v] ∧ Dt K B v d := by
  cases h with
  | cons a t => cases t; exact ⟨_, rfl, a⟩
theorem DtAll.two_eq {vs : List V} (h : DtAll K B vs [d1, d2]) : ∃ v w, vs = [v, w] ∧ Dt K B v d1 ∧ Dt K B w d2 := by
  cases h with
  | cons a t => cases t with
    | cons b t => cases t; exact ⟨_, _, rfl, a, b⟩
end
end Rs

namespace Rs
open PySem PySem.Spec PyProof.Rows L2

/-! ### promises -/
def SpF (K : PySem.W.Frag) (R : List PyData → PyData → Prop) : Sp := fun vs H Q _ => ∃ B ds r, Ex B H ∧ DtAll K B vs ds ∧ R ds r ∧ ∀ v B' H', Step B H B' H' → Dt K B' v r → Q v H'
/-- hands back a new list -/
def SpN (K : PySem.W.Frag) (R : List PyData → List PyData → Prop) : Sp := fun vs H Q _ => ∃ B ds rs, Ex B H ∧ DtAll K B vs ds ∧ R ds rs ∧
  ∀ p ws B' H', Step B H B' H' → H p = none → B' p = none → H' p = some (.lst ws) → DtAll K B' ws rs → Q (.ref p) H'
/-- may raise the class at C -/
def SpX (K : PySem.W.Frag) (R : List PyData → PyData → Prop) (Bad : List PyData → Prop) (C : Addr) : Sp := fun vs H Q E => ∃ B ds, Ex B H ∧ DtAll K B vs ds ∧
  ((∃ r, R ds r ∧ ∀ v B' H', Step B H B' H' → Dt K B' v r → Q v H') ∨ (Bad ds ∧ ∀ H', Ex H H' → E (.ref C) none H'))
def SpXN (K : PySem.W.Frag) (R : List PyData → List PyData → Prop) (Bad : List PyData → Prop) (C : Addr) : Sp := fun vs H Q E => ∃ B ds, Ex B H ∧ DtAll K B vs ds ∧
  ((∃ rs, R ds rs ∧ ∀ p ws B' H', Step B H B' H' → H p = none → B' p = none → H' p = some (.lst ws) → DtAll K B' ws rs → Q (.ref p) H') ∨ (Bad ds ∧ ∀ H', Ex H H' → E (.ref C) none H'))

section
variable {K : PySem.W.Frag} {σ : L2.St} {B B' : Hp} {ta tb tc te : TE} {t u : TT} {d d1 d2 d3 : PyData} {r : R2} {b b' : Bool} {ar : TA} {F : Hp → VK → Prop}
theorem ev_call {R : List PyData → PyData → Prop} {E : XK} {ds : List PyData} (h : EvA K (ar σ) B ds) (hR : R ds d) : EvF K (tCall (SpF K R) [] E ar σ) B d := fun H f Q q =>
  h H f _ fun vs B1 H1 s1 dv => ⟨B1, ds, d, s1.bh, by rw [List.append_nil]; exact dv, hR, fun v B2 H2 s2 dr => q v B2 H2 (s1.trans s2) dr⟩
theorem ev_callN {R : List PyData → List PyData → Prop} {E : XK} {ds rs : List PyData} (h : EvA K (ar σ) B ds) (hR : R ds rs) : EvN K (tCall (SpN K R) [] E ar σ) B rs := fun H f Q q =>
  h H f _ fun vs B1 H1 s1 dv => ⟨B1, ds, rs, s1.bh, by rw [List.append_nil]; exact dv, hR, fun p ws B2 H2 s2 h0 h1 h2 dr => q p ws B2 H2 (s1.trans s2) (s1.hh.back h0) h1 h2 dr⟩
/-- a call that may raise, where it does not -/
theorem ev_callX {R : List PyData → PyData → Prop} {Bad : List PyData → Prop} {C : Addr} {E : XK} {ds : List PyData} (h : EvA K (ar σ) B ds) (hR : R ds d) : EvF K (tCall (SpX K R Bad C) [] E ar σ) B d := fun H f Q q =>
  h H f _ fun vs B1 H1 s1 dv => ⟨B1, ds, s1.bh, by rw [List.append_nil]; exact dv, .inl ⟨d, hR, fun v B2 H2 s2 dr => q v B2 H2 (s1.trans s2) dr⟩⟩
theorem ev_callXN {R : List PyData → List PyData → Prop} {Bad : List PyData → Prop} {C : Addr} {E : XK} {ds rs : List PyData} (h : EvA K (ar σ) B ds) (hR : R ds rs) : EvN K (tCall (SpXN K R Bad C) [] E ar σ) B rs := fun H f Q q =>
  h H f _ fun vs B1 H1 s1 dv => ⟨B1, ds, s1.bh, by rw [List.append_nil]; exact dv, .inl ⟨rs, hR, fun p ws B2 H2 s2 h0 h1 h2 dr => q p ws B2 H2 (s1.trans s2) (s1.hh.back h0) h1 h2 dr⟩⟩

/-! ### lists read -/
theorem DtAll.atI {vs : List V} {ds : List PyData} {i : Int} (h : DtAll K B vs ds) (e : atI ds i = some d) : ∃ v, atI vs i = some v ∧ Dt K B v d := by
  unfold L2.atI at e ⊢
  rw [h.length]
  cases q : ixN ds.length i with
  | none => rw [q] at e; cases e
  | some j =>
    rw [q, Option.bind_some] at e
    obtain ⟨v, h1, h2⟩ := h.get e
    exact ⟨v, by rw [Option.bind_some]; exact h1, h2⟩
theorem ev_ix {ds : List PyData} {i : Int} (ha : EvF K (ta σ) B (.list ds)) (hb : EvF K (tb σ) B (.int i)) (hi : atI ds i = some d) : EvF K (tOp (rIxL K) ta tb σ) B d :=
  ev_op ha hb fun x y B' e dx dy => by
    obtain ⟨a, xs, rfl, hx, hd⟩ := dx.list_eq
    obtain ⟨v, h1, h2⟩ := hd.atI hi
    rw [dy.int_eq]
    exact ev_here h2 fun H f Q q => ⟨a, xs, i, v, rfl, rfl, .inl (.inl (f _ _ hx)), h1, q⟩
theorem ev_ixT {ds : List PyData} {i : Int} (ha : EvF K (ta σ) B (.tuple ds)) (hb : EvF K (tb σ) B (.int i)) (hi : atI ds i = some d) : EvF K (tOp (rIxT K) ta tb σ) B d :=
  ev_op ha hb fun x y B' e dx dy => by
    obtain ⟨a, xs, rfl, hx, hd⟩ := dx.tup_eq
    obtain ⟨v, h1, h2⟩ := hd.atI hi
    rw [dy.int_eq]
    exact ev_here h2 fun H f Q q => ⟨a, xs, i, v, rfl, rfl, .inl (.inl (f _ _ hx)), h1, q⟩
theorem atI_map {α β : Type} (f : α → β) (xs : List α) (i : Int) : atI (xs.map f) i = (atI xs i).map f := by
  unfold L2.atI
  rw [List.length_map]
  cases ixN xs.length i with
  | none => rfl
  | some j => simp
theorem ev_ixS {ns : List Int} {i j : Int} (ha : EvF K (ta σ) B (dS ns)) (hb : EvF K (tb σ) B (.int i)) (hi : atI ns i = some j) : EvF K (tOp (rIxL K) ta tb σ) B (.int j) :=
  ev_op ha hb fun x y B' e dx dy => by
    obtain ⟨a, rfl, hx⟩ := dx.scr_eq
    rw [dy.int_eq]
    exact ev_here (.int j) fun H f Q q => ⟨a, _, i, .int j, rfl, rfl, ex_sql f hx, by rw [atI_map, hi]; rfl, q⟩
/-- len -/
def rLen (K : PySem.W.Frag) : List V → Hp → VK → Prop := fun xs H Q => ∃ p ys, xs = [.ref p] ∧ (SqL K H p ys ∨ SqT K H p ys) ∧ Q (.int ys.length) H
theorem k_len {X : Cx} : CallR X (.builtin "len") (rLen X.K) := call_len_seq
theorem ev_len {ds : List PyData} (h : EvF K (ta σ) B (.list ds)) : EvF K (tCB (rLen K) (tCons ta tNil) σ) B (.int (ds.length : Nat)) := ev_cb (ea_cons h ea_nil) fun vs B' e dv => by
  obtain ⟨v, rfl, dx⟩ := dv.one_eq
  obtain ⟨a, xs, rfl, hx, hd⟩ := dx.list_eq
  rw [← hd.length]
  exact ev_here (.int _) fun H f Q q => ⟨a, xs, rfl, .inl (.inl (.inl (f _ _ hx))), q⟩
theorem ev_lenT {ds : List PyData} (h : EvF K (ta σ) B (.tuple ds)) : EvF K (tCB (rLen K) (tCons ta tNil) σ) B (.int (ds.length : Nat)) := ev_cb (ea_cons h ea_nil) fun vs B' e dv => by
  obtain ⟨v, rfl, dx⟩ := dv.one_eq
  obtain ⟨a, xs, rfl, hx, hd⟩ := dx.tup_eq
  rw [← hd.length]
  exact ev_here (.int _) fun H f Q q => ⟨a, xs, rfl, .inr (.inl (.inl (f _ _ hx))), q⟩
theorem ev_lenS {ns : List Int} (h : EvF K (ta σ) B (dS ns)) : EvF K (tCB (rLen K) (tCons ta tNil) σ) B (.int (ns.length : Nat)) := ev_cb (ea_cons h ea_nil) fun vs B' e dv => by
  obtain ⟨v, rfl, dx⟩ := dv.one_eq
  obtain ⟨a, rfl, hx⟩ := dx.scr_eq
  exact ev_here (.int _) fun H f Q q => ⟨a, _, rfl, .inl (ex_sql f hx), by rw [List.length_map]; exact q⟩
/-- list(x) -/
def rListOf (K : PySem.W.Frag) : List V → Hp → VK → Prop := fun xs H Q => ∃ p ys, xs = [.ref p] ∧ (SqL K H p ys ∨ SqT K H p ys) ∧ ∀ l, H l = none → Q (.ref l) (upd H l (.lst ys))
theorem k_list {X : Cx} : CallR X (.type "list") (rListOf X.K) := call_list_of
theorem ev_list {ds : List PyData} (h : EvF K (ta σ) B (.list ds)) : EvN K (tCB (rListOf K) (tCons ta tNil) σ) B ds := ev_cbN (ea_cons h ea_nil) fun vs B' e dv => by
  obtain ⟨v, rfl, dx⟩ := dv.one_eq
  obtain ⟨a, xs, rfl, hx, hd⟩ := dx.list_eq
  exact ev_newl hd fun H f Q q => ⟨a, xs, rfl, .inl (.inl (.inl (f _ _ hx))), q⟩
theorem ev_listT {ds : List PyData} (h : EvF K (ta σ) B (.tuple ds)) : EvN K (tCB (rListOf K) (tCons ta tNil) σ) B ds := ev_cbN (ea_cons h ea_nil) fun vs B' e dv => by
  obtain ⟨v, rfl, dx⟩ := dv.one_eq
  obtain ⟨a, xs, rfl, hx, hd⟩ := dx.tup_eq
  exact ev_newl hd fun H f Q q => ⟨a, xs, rfl, .inr (.inl (.inl (f _ _ hx))), q⟩
/-- tuple(x) -/
def rTupOf (K : PySem.W.Frag) : List V → Hp → VK → Prop := fun xs H Q => ∃ p ys, xs = [.ref p] ∧ ((SqL K H p ys ∧ ∀ l, H l = none → Q (.ref l) (upd H l (.tup ys))) ∨ (SqT K H p ys ∧ Q (.ref p) H))
theorem k_tuple {X : Cx} : CallR X (.type "tuple") (rTupOf X.K) := call_tuple_of
theorem ev_tuple {ds : List PyData} (h : EvF K (ta σ) B (.list ds)) : EvF K (tCB (rTupOf K) (tCons ta tNil) σ) B (.tuple ds) := ev_cb (ea_cons h ea_nil) fun vs B' e dv => by
  obtain ⟨v, rfl, dx⟩ := dv.one_eq
  obtain ⟨a, xs, rfl, hx, hd⟩ := dx.list_eq
  exact ev_newt hd fun H f Q q => ⟨a, xs, rfl, .inl ⟨.inl (.inl (f _ _ hx)), q⟩⟩
/-! slices -/
theorem eo_none : EvO (tNoPart σ) B none := fun H f Q q => q H (Ex.refl H)
theorem eo_some {i : Int} (h : EvF K (te σ) B (.int i)) : EvO (tPart te σ) B (some i) := fun H f Q q => h H f _ fun v B1 H1 s dv => ⟨i, dv.int_eq, q H1 s.hh⟩
def cut {α : Type} (xs : List α) (lo hi : Option Int) : List α := (xs.drop (HT.sIx xs.length 0 lo)).take (HT.sIx xs.length xs.length hi - HT.sIx xs.length 0 lo)
theorem DtAll.cut {vs : List V} {ds : List PyData} (h : DtAll K B vs ds) (lo hi : Option Int) : DtAll K B (cutV vs lo hi) (Rs.cut ds lo hi) := by
  unfold cutV Rs.cut
  rw [h.length]
  exact (h.drop _).take _
theorem ev_sl {tl th : TO} {lo hi : Option Int} {ds : List PyData} (h : EvF K (te σ) B (.list ds)) (h1 : EvO (tl σ) B lo) (h2 : EvO (th σ) B hi) : EvN K (tSl (rSlL K) te tl th σ) B (cut ds lo hi) := fun H f Q q =>
  h H f _ fun v B1 H1 s1 dv => (h1.mono s1.bb) H1 s1.bh _ fun H2 e2 => (h2.mono s1.bb) H2 (s1.bh.trans e2) _ fun H3 e3 => by
    obtain ⟨a, xs, rfl, hx, hd⟩ := dv.list_eq
    have s3 : Step B H B1 H3 := s1.trans (Step.heap s1.bh (e2.trans e3))
    exact ⟨a, xs, rfl, .inl (.inl (s3.bh _ _ hx)), fun p hp => q p _ B1 _ (s3.trans (Step.fresh s3.bh hp)) (s3.hh.back hp) (s3.bh.back hp) upd_same (hd.cut lo hi)⟩
theorem ev_rev {ds : List PyData} (h : EvF K (te σ) B (.list ds)) : EvN K (tRevL K te σ) B ds.reverse := fun H f Q q =>
  h H f _ fun v B1 H1 s1 dv => by
    obtain ⟨a, xs, rfl, hx, hd⟩ := dv.list_eq
    exact ⟨a, xs, rfl, .inl (.inl (s1.bh _ _ hx)), fun p hp => q p _ B1 _ (s1.trans (Step.fresh s1.bh hp)) (s1.hh.back hp) (s1.bh.back hp) upd_same hd.rev⟩
/-! xs + ys, xs * k -/
theorem ev_cat {ds es : List PyData} (ha : EvF K (ta σ) B (.list ds)) (hb : EvF K (tb σ) B (.list es)) (hz : ds.length + es.length ≤ 100000) : EvN K (tOp rCat ta tb σ) B (ds ++ es) :=
  ev_opN ha hb fun x y B' e dx dy => by
    obtain ⟨a, xs, rfl, hx, hd⟩ := dx.list_eq
    obtain ⟨c, ys, rfl, hy, hd'⟩ := dy.list_eq
    exact ev_newl (hd.app hd') fun H f Q q => ⟨a, c, xs, ys, rfl, rfl, f _ _ hx, f _ _ hy, sz100 (by rw [hd.length, hd'.length]; exact hz), q⟩
theorem DtAll.rep {vs : List V} {ds : List PyData} (h : DtAll K B vs ds) : ∀ k : Nat, DtAll K B (List.replicate k vs).flatten (List.replicate k ds).flatten
  | 0 => .nil
  | k + 1 => by
    rw [List.replicate_succ, List.replicate_succ, List.flatten_cons, List.flatten_cons]
    exact h.app (DtAll.rep h k)
theorem ev_rep {ds : List PyData} {k : Int} (ha : EvF K (ta σ) B (.list ds)) (hb : EvF K (tb σ) B (.int k)) (h0 : -100000 ≤ k ∧ k ≤ 100000) (hz : ds.length * k.toNat ≤ 100000) : EvN K (tOp rRep ta tb σ) B (List.replicate k.toNat ds).flatten :=
  ev_opN ha hb fun x y B' e dx dy => by
    obtain ⟨a, xs, rfl, hx, hd⟩ := dx.list_eq
    rw [dy.int_eq]
    exact ev_newl (hd.rep k.toNat) fun H f Q q => ⟨a, k, xs, rfl, rfl, f _ _ hx, by omega, by omega, sz100 (by rw [hd.length]; exact hz), q⟩
/-! in, not in -/
theorem inV_ints (n : Int) (ns : List Int) : inV (.int n) (ns.map V.int) = decide (n ∈ ns) := by
  unfold inV
  induction ns with
  | nil => rfl
  | cons a t ih =>
    rw [List.map_cons, List.any_cons, ih]
    have : eqV (.int a) (.int n) = decide (a = n) := by
      unfold eqV
      first
        | rfl
        | (rw [Bool.eq_iff_iff]; simp)
    rw [this]
    by_cases h : a = n
    · subst h; simp
    · simp [h, Ne.symm h]
theorem inV_bls (n : Bool) (ns : List Bool) : inV (.bl n) (ns.map V.bl) = decide (n ∈ ns) := by
  unfold inV
  induction ns with
  | nil => rfl
  | cons a t ih =>
    rw [List.map_cons, List.any_cons, ih]
    have : eqV (.bl a) (.bl n) = decide (a = n) := by cases a <;> cases n <;> rfl
    rw [this]
    by_cases h : a = n
    · subst h; simp
    · simp [h, Ne.symm h]
theorem flat_ints (ns : List Int) : (ns.map V.int).all flatV = true := by
  rw [List.all_eq_true]
  intro x hx
  obtain ⟨n, _, rfl⟩ := List.mem_map.mp hx
  rfl
theorem flat_bls (ns : List Bool) : (ns.map V.bl).all flatV = true := by
  rw [List.all_eq_true]
  intro x hx
  obtain ⟨n, _, rfl⟩ := List.mem_map.mp hx
  rfl
theorem ev_inI {n : Int} {ns : List Int} {neg : Bool} (ha : EvF K (ta σ) B (.int n)) (hb : EvF K (tb σ) B (dL ns)) : EvF K (tOp (rIn K neg) ta tb σ) B (.bool (if neg then !decide (n ∈ ns) else decide (n ∈ ns))) :=
  ev_op ha hb fun x y B' e dx dy => by
    obtain ⟨a, rfl, hx⟩ := dy.ints_eq
    rw [dx.int_eq]
    exact ev_here (.bl _) fun H f Q q => ⟨a, _, rfl, .inl (.inl (.inl (f _ _ hx))), rfl, flat_ints ns, by rw [inV_ints]; exact q⟩
theorem ev_inIT {n : Int} {ns : List Int} {neg : Bool} (ha : EvF K (ta σ) B (.int n)) (hb : EvF K (tb σ) B (.tuple (ns.map PyData.int))) : EvF K (tOp (rIn K neg) ta tb σ) B (.bool (if neg then !decide (n ∈ ns) else decide (n ∈ ns))) :=
  ev_op ha hb fun x y B' e dx dy => by
    obtain ⟨a, xs, rfl, hx, hd⟩ := dy.tup_eq
    rw [dx.int_eq]
    rw [hd.ints] at hx
    exact ev_here (.bl _) fun H f Q q => ⟨a, _, rfl, .inr (.inl (.inl (f _ _ hx))), rfl, flat_ints ns, by rw [inV_ints]; exact q⟩
theorem ev_inB {n : Bool} {ns : List Bool} {neg : Bool} (ha : EvF K (ta σ) B (.bool n)) (hb : EvF K (tb σ) B (.list (ns.map PyData.bool))) : EvF K (tOp (rIn K neg) ta tb σ) B (.bool (if neg then !decide (n ∈ ns) else decide (n ∈ ns))) :=
  ev_op ha hb fun x y B' e dx dy => by
    obtain ⟨a, xs, rfl, hx, hd⟩ := dy.list_eq
    rw [dx.bl_eq]
    rw [hd.bls] at hx
    exact ev_here (.bl _) fun H f Q q => ⟨a, _, rfl, .inl (.inl (.inl (f _ _ hx))), rfl, flat_bls ns, by rw [inV_bls]; exact q⟩
/-! sorted, sum, max, min of ints -/
theorem ev_sorted {ns ms : List Int} (h : EvF K (ta σ) B (dL ns)) (hp : ms.Perm ns) (ho : ms.Pairwise (· ≤ ·)) : EvN K (tCB (rSortedI K) (tCons ta tNil) σ) B (ms.map PyData.int) := ev_cbN (ea_cons h ea_nil) fun vs B' e dv => by
  obtain ⟨v, rfl, dx⟩ := dv.one_eq
  obtain ⟨a, rfl, hx⟩ := dx.ints_eq
  refine ev_newl (xs := ms.map V.int) (.of_ints ms) fun H f Q q => ⟨a, ns, rfl, .inl (.inl (f _ _ hx)), fun ns' p h1 h2 h0 => ?_⟩
  have : ns' = ms := List.Perm.eq_of_pairwise (le := (· ≤ ·)) (fun a b _ _ h1 h2 => Int.le_antisymm h1 h2) h2 ho (h1.trans hp.symm)
  rw [this]
  exact q p h0
theorem ev_sum {ns : List Int} (h : EvF K (ta σ) B (dL ns)) : EvF K (tCB (rSum K) (tCons ta tNil) σ) B (.int ns.sum) := ev_cb (ea_cons h ea_nil) fun vs B' e dv => by
  obtain ⟨v, rfl, dx⟩ := dv.one_eq
  obtain ⟨a, rfl, hx⟩ := dx.ints_eq
  exact ev_here (.int _) fun H f Q q => ⟨a, ns, rfl, .inl (.inl (f _ _ hx)), q⟩
theorem ev_max {ns : List Int} {m : Int} (h : EvF K (ta σ) B (dL ns)) (h1 : m ∈ ns) (h2 : ∀ y ∈ ns, y ≤ m) : EvF K (tCB (rMax K) (tCons ta tNil) σ) B (.int m) := ev_cb (ea_cons h ea_nil) fun vs B' e dv => by
  obtain ⟨v, rfl, dx⟩ := dv.one_eq
  obtain ⟨a, rfl, hx⟩ := dx.ints_eq
  refine ev_here (.int m) fun H f Q q => ⟨a, ns, rfl, .inl (.inl (f _ _ hx)), List.length_pos_of_mem h1, fun m' h3 h4 => ?_⟩
  have : m' = m := Int.le_antisymm (h2 _ h3) (h4 _ h1)
  rw [this]
  exact q
theorem ev_min {ns : List Int} {m : Int} (h : EvF K (ta σ) B (dL ns)) (h1 : m ∈ ns) (h2 : ∀ y ∈ ns, m ≤ y) : EvF K (tCB (rMin K) (tCons ta tNil) σ) B (.int m) := ev_cb (ea_cons h ea_nil) fun vs B' e dv => by
  obtain ⟨v, rfl, dx⟩ := dv.one_eq
  obtain ⟨a, rfl, hx⟩ := dx.ints_eq
  refine ev_here (.int m) fun H f Q q => ⟨a, ns, rfl, .inl (.inl (f _ _ hx)), List.length_pos_of_mem h1, fun m' h3 h4 => ?_⟩
  have : m' = m := Int.le_antisymm (h4 _ h1) (h2 _ h3)
  rw [this]
  exact q
def rMax2 : List V → Hp → VK → Prop := fun xs H Q => ∃ i j, xs = [.int i, .int j] ∧ Q (.int (if j > i then j else i)) H
theorem k_max2 {X : Cx} (hc : X.calm = true) : CallR X (.builtin "max") rMax2 := call_max2 hc
def rMin2 : List V → Hp → VK → Prop := fun xs H Q => ∃ i j, xs = [.int i, .int j] ∧ Q (.int (if j < i then j else i)) H
theorem k_min2 {X : Cx} (hc : X.calm = true) : CallR X (.builtin "min") rMin2 := call_min2 hc
theorem ev_max2 {i j : Int} (ha : EvF K (ta σ) B (.int i)) (hb : EvF K (tb σ) B (.int j)) : EvF K (tCB rMax2 (tCons ta (tCons tb tNil)) σ) B (.int (if j > i then j else i)) := ev_cb (ea_cons ha (ea_cons hb ea_nil)) fun vs B' e dv => by
  obtain ⟨v, w, rfl, dx, dw⟩ := dv.two_eq
  rw [dx.int_eq, dw.int_eq]
  exact ev_here (.int _) fun H f Q q => ⟨i, j, rfl, q⟩
theorem ev_min2 {i j : Int} (ha : EvF K (ta σ) B (.int i)) (hb : EvF K (tb σ) B (.int j)) : EvF K (tCB rMin2 (tCons ta (tCons tb tNil)) σ) B (.int (if j < i then j else i)) := ev_cb (ea_cons ha (ea_cons hb ea_nil)) fun vs B' e dv => by
  obtain ⟨v, w, rfl, dx, dw⟩ := dv.two_eq
  rw [dx.int_eq, dw.int_eq]
  exact ev_here (.int _) fun H f Q q => ⟨i, j, rfl, q⟩
def rInt1 : List V → Hp → VK → Prop := fun xs H Q => (∃ i, xs = [.int i] ∧ Q (.int i) H) ∨ ∃ k, xs = [.bl k] ∧ Q (.int (if k then 1 else 0)) H
theorem k_int {X : Cx} : CallR X (.type "int") rInt1 := call_int1
theorem ev_intB (h : EvF K (ta σ) B (.bool b)) : EvF K (tCB rInt1 (tCons ta tNil) σ) B (.int (if b then 1 else 0)) := ev_cb (ea_cons h ea_nil) fun vs B' e dv => by
  obtain ⟨v, rfl, dx⟩ := dv.one_eq
  rw [dx.bl_eq]
  exact ev_here (.int _) fun H f Q q => .inr ⟨b, rfl, q⟩
/-! list(range(..)) -/
theorem ev_rgl2 {i j : Int} (ha : EvF K (ta σ) B (.int i)) (hb : EvF K (tb σ) B (.int j)) (h : RgOk i j) : EvN K (tLstRg (tRg2 ta tb) σ) B ((List.range (j - i).toNat).map fun (k : Nat) => PyData.int (i + k)) := fun H f Q q =>
  ha H f _ fun x B1 H1 s1 dx => (hb.mono s1.bb) H1 s1.bh _ fun y B2 H2 s2 dy => ⟨i, j, dx.int_eq, dy.int_eq, h, fun p hp => by
    have s := s1.trans s2
    refine q p _ B2 _ (s.trans (Step.fresh s.bh hp)) (s.hh.back hp) (s.bh.back hp) upd_same ?_
    have e : ((List.range (j - i).toNat).map fun (k : Nat) => PyData.int (i + k)) = ((List.range (j - i).toNat).map fun (k : Nat) => i + (k : Int)).map PyData.int := by rw [List.map_map]; rfl
    have e2 : rgV i j = ((List.range (j - i).toNat).map fun (k : Nat) => i + (k : Int)).map V.int := by unfold rgV; rw [List.map_map]; rfl
    rw [e, e2]
    exact .of_ints _⟩
/-! isinstance -/
def tyD : PyData → Value
  | .none => .type "NoneType"
  | .bool _ => .type "bool"
  | .int _ => .type "int"
  | .list _ => .type "list"
  | .tuple _ => .type "tuple"
  | _ => .none
end
end Rs

namespace Rs
open PySem PySem.Spec PyProof.Rows L2

/-- the same, as it is carried along (another name, that it is not taken for a step) -/
structure Amb (B0 H0 B H : Hp) : Prop where
  st : Step B0 H0 B H
section
variable {B0 H0 B H B' H' : Hp} {p : Addr} {o : HO}
theorem Amb.refl (e : Ex B H) : Amb B H B H := ⟨Step.refl e⟩
theorem Amb.bh (s : Amb B0 H0 B H) : Ex B H := s.st.bh
theorem Amb.bb (s : Amb B0 H0 B H) : Ex B0 B := s.st.bb
theorem Amb.hh (s : Amb B0 H0 B H) : Ex H0 H := s.st.hh
theorem Amb.trans (s : Amb B0 H0 B H) (t : Step B H B' H') : Amb B0 H0 B' H' := ⟨s.st.trans t⟩
theorem Amb.mut (s : Amb B0 H0 B H) (hp : H0 p = none) (hb : B p = none) : Amb B0 H0 B (upd H p o) := ⟨s.st.mut hp hb⟩
theorem Amb.keep (s : Amb B0 H0 B H) (hp : H0 p = none) (h : H p = some o) : Amb B0 H0 (upd B p o) H := ⟨s.st.keep hp h⟩
theorem Amb.heap (s : Amb B0 H0 B H) (e : Ex H H') : Amb B0 H0 B H' := s.trans (Step.heap s.bh e)
end
section
variable {K : PySem.W.Frag} {σ : L2.St} {B B' B0 H0 H : Hp} {ta tb tc te tl : TE} {t u : TT} {d d1 d2 d3 : PyData} {r : R2} {b b' : Bool} {ar : TA} {F : Hp → VK → Prop}
/-! isinstance -/
theorem Dt.ty {v : V} (h : Dt K H v d) (hp : pure? d = true) : TyX K H v (tyD d) := by
  cases h with
  | non => exact .base .non
  | bl b => exact .base (.bl b)
  | int i => exact .base (.int i)
  | lst a _ => exact .base (.lst a)
  | tup a _ => exact .base (.tup a)
  | scr a => unfold pure? at hp; cases hp
theorem ev_isi {n : String} (h : EvF K (ta σ) B d) (hk : PySem.W.kitOne K (tyD d) (.type n) = some b) (hp : pure? d = true := by rfl) : EvF K (tCB (rIsi K) (tCons ta (tCons (tC (.ty n)) tNil)) σ) B (.bool b) := fun H f Q q =>
  h H f _ fun v B1 H1 s dv => ⟨v, .ty n, tyD d, .type n, b, rfl, .ty n, (dv.up s.bh).ty hp, hk, q _ B1 H1 s (.bl b)⟩
theorem kit_int_int : PySem.W.kitOne K (.type "int") (.type "int") = some true := kit_ty (by decide +kernel)
theorem kit_int_bool : PySem.W.kitOne K (.type "int") (.type "bool") = some false := kit_ty (by decide +kernel)
theorem kit_bool_bool : PySem.W.kitOne K (.type "bool") (.type "bool") = some true := kit_ty (by decide +kernel)
theorem kit_bool_int : PySem.W.kitOne K (.type "bool") (.type "int") = some true := kit_ty (by decide +kernel)
theorem kit_list_list : PySem.W.kitOne K (.type "list") (.type "list") = some true := kit_ty (by decide +kernel)
theorem kit_tuple_tuple : PySem.W.kitOne K (.type "tuple") (.type "tuple") = some true := kit_ty (by decide +kernel)

/-! ### comprehensions -/
theorem filter_snoc {α : Type} (p : α → Bool) (xs : List α) (a : α) : (xs ++ [a]).filter p = xs.filter p ++ (if p a then [a] else []) := by
  rw [List.filter_append]
  congr 1
  by_cases h : p a = true
  · simp [h]
  · simp [h]
theorem take_snoc {α : Type} {xs : List α} {i : Nat} {a : α} (h : xs[i]? = some a) : xs.take (i + 1) = xs.take i ++ [a] := by
  rw [List.take_add_one, h]; rfl
/-- what a comprehension has made of the first i items -/
def Cw {α : Type} (K : PySem.W.Frag) (p : α → Bool) (g : α → PyData) (xs : List α) (B1 H1 : Hp) (D : Addr) (i : Nat) (H' : Hp) : Prop :=
  ∃ B' acc, Step B1 H1 B' H' ∧ B' D = none ∧ H' D = some (.lst acc) ∧ DtAll K B' acc (((xs.take i).filter p).map g)
theorem cw_turn {α : Type} {p : α → Bool} {g : α → PyData} {xs : List α} {B1 H1 : Hp} {D : Addr} {i : Nat} {H' : Hp} {a : α} {σ2 : L2.St} (c : Cw K p g xs B1 H1 D i H') (hD : H1 D = none) (hi : xs[i]? = some a) (hz : xs.length ≤ 10000000)
    (ht : EvT (t σ2) B1 (p a)) (he : p a = true → EvF K (te σ2) B1 (g a)) :
    t σ2 H' fun b H3 => if b = true then te σ2 H3 fun y H4 => ∃ acc, H4 D = some (.lst acc) ∧ acc.length < sizeLine ∧ Cw K p g xs B1 H1 D (i + 1) (upd H4 D (.lst (acc ++ [y]))) else Cw K p g xs B1 H1 D (i + 1) H3 := by
  obtain ⟨B', acc, s, h1, h2, h3⟩ := c
  refine (ht.mono s.bb) H' s.bh _ fun H3 e3 => ?_
  have s3 : Step B1 H1 B' H3 := s.trans (Step.heap s.bh e3)
  have hl : acc.length ≤ xs.length := by
    rw [h3.length, List.length_map]
    exact Nat.le_trans (List.length_filter_le _ _) (by rw [List.length_take]; exact Nat.min_le_right _ _)
  cases hp : p a with
  | true =>
    refine iteT ?_
    refine ((he hp).mono s.bb) H3 s3.bh _ fun y B4 H4 s4 dy => ?_
    have hD4 : H4 D = some (.lst acc) := s4.hh _ _ (e3 _ _ h2)
    have hB4 : B4 D = none := s4.nw D (by rw [e3 _ _ h2]; simp) h1
    refine ⟨acc, hD4, ?_, B4, acc ++ [y], (s3.trans s4).mut hD hB4, hB4, upd_same, ?_⟩
    · exact Nat.lt_of_le_of_lt (Nat.le_trans hl hz) (by decide)
    · rw [take_snoc hi, filter_snoc, if_pos hp, List.map_append]
      exact (h3.up s4.bb).app (.one dy)
  | false =>
    refine iteF ⟨B', acc, s3, h1, e3 _ _ h2, ?_⟩
    rw [take_snoc hi, filter_snoc, if_neg (by rw [hp]; decide), List.append_nil]
    exact h3
theorem ev_lcL {α : Type} (enc : α → PyData) (p : α → Bool) (g : α → PyData) {xs : List α} {j : Nat} {vs : List Nat} (h : EvF K (tl σ) B (.list (xs.map enc))) (hz : xs.length ≤ 10000000) (hw : ∀ x, wipe ((wipe σ vs).set j (some x)) vs = wipe σ vs)
    (ht : ∀ x a B', Ex B B' → a ∈ xs → Dt K B' x (enc a) → EvT (t ((wipe σ vs).set j (some x))) B' (p a)) (he : ∀ x a B', Ex B B' → a ∈ xs → p a = true → Dt K B' x (enc a) → EvF K (te ((wipe σ vs).set j (some x))) B' (g a)) :
    EvN K (tLc (iList K tl) (gName j) t te vs σ) B ((xs.filter p).map g) := fun H f Q q =>
  h H f _ fun v B1 H1 s1 dv => by
    obtain ⟨a, ws, rfl, hx, hd⟩ := dv.list_eq
    have hlen : ws.length = xs.length := by rw [hd.length, List.length_map]
    refine ⟨a, rfl, ⟨ws, .inl (.inl (s1.bh _ _ hx))⟩, fun D hD => ?_⟩
    refine lc_list (xs := ws) (Cw K p g xs B1 H1 D) ⟨B1, [], Step.fresh s1.bh hD, s1.bh.back hD, upd_same, by simp; exact .nil⟩ (fun i H' _ c => ?_) (fun i x H' hi c => ?_) (fun H' c => ?_)
    · obtain ⟨B', acc, s, _⟩ := c
      exact .inl (.inl (s.bh _ _ (s.bb _ _ hx)))
    · obtain ⟨d, hd1, hd2⟩ := hd.getV hi
      rw [List.getElem?_map] at hd1
      cases hxi : xs[i]? with
      | none => rw [hxi] at hd1; cases hd1
      | some y =>
        rw [hxi, Option.map_some] at hd1
        have e : enc y = d := Option.some.inj hd1
        rw [← e] at hd2
        have hm : y ∈ xs := List.mem_of_getElem? hxi
        exact ⟨hw x, cw_turn c hD hxi hz (ht x y B1 s1.bb hm hd2) fun hp => he x y B1 s1.bb hm hp hd2⟩
    · obtain ⟨B', acc, s, h1, h2, h3⟩ := c
      rw [hlen, List.take_length] at h3
      exact q D acc B' H' (s1.trans s) (s1.hh.back hD) h1 h2 h3
theorem ev_lcL0 {α : Type} (enc : α → PyData) (g : α → PyData) {xs : List α} {j : Nat} {vs : List Nat} (h : EvF K (tl σ) B (.list (xs.map enc))) (hz : xs.length ≤ 10000000) (hw : ∀ x, wipe ((wipe σ vs).set j (some x)) vs = wipe σ vs)
    (he : ∀ x a B', Ex B B' → a ∈ xs → Dt K B' x (enc a) → EvF K (te ((wipe σ vs).set j (some x))) B' (g a)) :
    EvN K (tLc (iList K tl) (gName j) tYes te vs σ) B (xs.map g) :=
  (ev_lcL enc (fun _ => true) g h hz hw (fun _ _ _ _ _ _ => et_yes) fun x a B' e m _ dx => he x a B' e m dx).is (by rw [List.filter_eq_self.mpr fun _ _ => rfl])
theorem range_get {n i : Nat} (h : i < n) : (List.range n)[i]? = some i := by rw [List.getElem?_range h]
theorem ev_lcR1 (p : Nat → Bool) (g : Nat → PyData) {n : Int} {j : Nat} {vs : List Nat} (h : EvA K (ar σ) B [.int n]) (hn : n ≤ 10000000 ∧ -10000000 ≤ n) (hw : ∀ x, wipe ((wipe σ vs).set j (some x)) vs = wipe σ vs)
    (ht : ∀ (i : Nat) B', Ex B B' → (i : Int) < n → EvT (t ((wipe σ vs).set j (some (.int (i : Int))))) B' (p i)) (he : ∀ (i : Nat) B', Ex B B' → (i : Int) < n → p i = true → EvF K (te ((wipe σ vs).set j (some (.int (i : Int))))) B' (g i)) :
    EvN K (tLc (iRng1 ar) (gName j) t te vs σ) B (((List.range n.toNat).filter p).map g) := fun H f Q q =>
  h H f _ fun ws B1 H1 s1 dv => by
    obtain ⟨v, rfl, dx⟩ := dv.one_eq
    rw [dx.int_eq]
    refine ⟨n, rfl, by omega, by omega, fun D hD => ?_⟩
    refine lc_range (lo := 0) (n := n.toNat) (Cw K p g (List.range n.toNat) B1 H1 D) ⟨B1, [], Step.fresh s1.bh hD, s1.bh.back hD, upd_same, by simp; exact .nil⟩ (fun i H' hi c => ?_) (fun H' c => ?_)
    · have e0 : (0 : Int) + (i : Int) = (i : Int) := Int.zero_add _
      show wipe ((wipe σ vs).set j (some (.int (0 + (i : Int))))) vs = wipe σ vs ∧ t ((wipe σ vs).set j (some (.int (0 + (i : Int))))) H' fun b H3 => if b = true then te ((wipe σ vs).set j (some (.int (0 + (i : Int))))) H3 fun y H4 => ∃ acc, H4 D = some (.lst acc) ∧ acc.length < sizeLine ∧ Cw K p g (List.range n.toNat) B1 H1 D (i + 1) (upd H4 D (.lst (acc ++ [y]))) else Cw K p g (List.range n.toNat) B1 H1 D (i + 1) H3
      rw [e0]
      exact ⟨hw _, cw_turn c hD (range_get hi) (by rw [List.length_range]; omega) (ht i B1 s1.bb (by omega)) fun hp => he i B1 s1.bb (by omega) hp⟩
    · obtain ⟨B', acc, s, h1, h2, h3⟩ := c
      rw [List.take_of_length_le (by rw [List.length_range]; exact Nat.le_refl _)] at h3
      exact q D acc B' H' (s1.trans s) (s1.hh.back hD) h1 h2 h3
theorem ev_lcR10 (g : Nat → PyData) {n : Int} {j : Nat} {vs : List Nat} (h : EvA K (ar σ) B [.int n]) (hn : n ≤ 10000000 ∧ -10000000 ≤ n) (hw : ∀ x, wipe ((wipe σ vs).set j (some x)) vs = wipe σ vs)
    (he : ∀ (i : Nat) B', Ex B B' → (i : Int) < n → EvF K (te ((wipe σ vs).set j (some (.int (i : Int))))) B' (g i)) :
    EvN K (tLc (iRng1 ar) (gName j) tYes te vs σ) B ((List.range n.toNat).map g) :=
  (ev_lcR1 (fun _ => true) g h hn hw (fun _ _ _ _ => et_yes) fun i B' e m _ => he i B' e m).is (by rw [List.filter_eq_self.mpr fun _ _ => rfl])
theorem ev_lcR2 (p : Nat → Bool) (g : Nat → PyData) {lo n : Int} {j : Nat} {vs : List Nat} (h : EvA K (ar σ) B [.int lo, .int n]) (hn : n ≤ 10000000 ∧ -10000000 ≤ n ∧ -10000000 ≤ lo ∧ lo ≤ 10000000) (hz : (n - lo) ≤ 10000000) (hw : ∀ x, wipe ((wipe σ vs).set j (some x)) vs = wipe σ vs)
    (ht : ∀ (i : Nat) B', Ex B B' → lo + (i : Int) < n → EvT (t ((wipe σ vs).set j (some (.int (lo + (i : Int)))))) B' (p i)) (he : ∀ (i : Nat) B', Ex B B' → lo + (i : Int) < n → p i = true → EvF K (te ((wipe σ vs).set j (some (.int (lo + (i : Int)))))) B' (g i)) :
    EvN K (tLc (iRng2 ar) (gName j) t te vs σ) B (((List.range (n - lo).toNat).filter p).map g) := fun H f Q q =>
  h H f _ fun ws B1 H1 s1 dv => by
    obtain ⟨v, w, rfl, dx, dy⟩ := dv.two_eq
    rw [dx.int_eq, dy.int_eq]
    refine ⟨lo, n, rfl, ⟨by omega, by omega, by omega, by omega⟩, fun D hD => ?_⟩
    refine lc_range (lo := lo) (n := (n - lo).toNat) (Cw K p g (List.range (n - lo).toNat) B1 H1 D) ⟨B1, [], Step.fresh s1.bh hD, s1.bh.back hD, upd_same, by simp; exact .nil⟩ (fun i H' hi c => ?_) (fun H' c => ?_)
    · exact ⟨hw _, cw_turn c hD (range_get hi) (by rw [List.length_range]; omega) (ht i B1 s1.bb (by omega)) fun hp => he i B1 s1.bb (by omega) hp⟩
    · obtain ⟨B', acc, s, h1, h2, h3⟩ := c
      rw [List.take_of_length_le (by rw [List.length_range]; exact Nat.le_refl _)] at h3
      exact q D acc B' H' (s1.trans s) (s1.hh.back hD) h1 h2 h3
theorem ev_lcR20 (g : Nat → PyData) {lo n : Int} {j : Nat} {vs : List Nat} (h : EvA K (ar σ) B [.int lo, .int n]) (hn : n ≤ 10000000 ∧ -10000000 ≤ n ∧ -10000000 ≤ lo ∧ lo ≤ 10000000) (hz : (n - lo) ≤ 10000000) (hw : ∀ x, wipe ((wipe σ vs).set j (some x)) vs = wipe σ vs)
    (he : ∀ (i : Nat) B', Ex B B' → lo + (i : Int) < n → EvF K (te ((wipe σ vs).set j (some (.int (lo + (i : Int)))))) B' (g i)) :
    EvN K (tLc (iRng2 ar) (gName j) tYes te vs σ) B ((List.range (n - lo).toNat).map g) :=
  (ev_lcR2 (fun _ => true) g h hn hz hw (fun _ _ _ _ => et_yes) fun i B' e m _ => he i B' e m).is (by rw [List.filter_eq_self.mpr fun _ _ => rfl])

/-! ### statements -/
variable {D : Ends} {tu tw tz : TS}
theorem s_asg {i : Nat} (s : Amb B0 H0 B H) (h : EvF K (te σ) B d) (k : ∀ v B' H', Amb B0 H0 B' H' → Step B H B' H' → Dt K B' v d → D.nx (σ.set i (some v)) H') : tAsg te (gName i) D σ H := h H s.bh _ fun v B' H' s' dv => k v B' H' (s.trans s') s' dv
theorem q_asg {i : Nat} (s : Amb B0 H0 B H) (h : EvF K (te σ) B d) (k : ∀ v B' H', Amb B0 H0 B' H' → Step B H B' H' → Dt K B' v d → tz D (σ.set i (some v)) H') : tSeq (tAsg te (gName i)) tz D σ H := s_asg (D := { D with nx := tz D }) s h k
theorem s_asgN {i : Nat} {ds : List PyData} (s : Amb B0 H0 B H) (h : EvN K (te σ) B ds) (k : ∀ p vs B' H', Amb B0 H0 B' H' → Step B H B' H' → H p = none → H0 p = none → B' p = none → H' p = some (.lst vs) → DtAll K B' vs ds → D.nx (σ.set i (some (.ref p))) H') : tAsg te (gName i) D σ H :=
  h H s.bh _ fun p vs B' H' s' h0 h1 h2 dv => k p vs B' H' (s.trans s') s' h0 (s.hh.back h0) h1 h2 dv
theorem q_asgN {i : Nat} {ds : List PyData} (s : Amb B0 H0 B H) (h : EvN K (te σ) B ds) (k : ∀ p vs B' H', Amb B0 H0 B' H' → Step B H B' H' → H p = none → H0 p = none → B' p = none → H' p = some (.lst vs) → DtAll K B' vs ds → tz D (σ.set i (some (.ref p))) H') : tSeq (tAsg te (gName i)) tz D σ H :=
  s_asgN (D := { D with nx := tz D }) s h k
theorem s_drop (s : Amb B0 H0 B H) (h : EvF K (te σ) B d) (k : ∀ B' H', Amb B0 H0 B' H' → Step B H B' H' → D.nx σ H') : tDrop te D σ H := h H s.bh _ fun v B' H' s' dv => k B' H' (s.trans s') s'
theorem q_drop (s : Amb B0 H0 B H) (h : EvF K (te σ) B d) (k : ∀ B' H', Amb B0 H0 B' H' → Step B H B' H' → tz D σ H') : tSeq (tDrop te) tz D σ H := s_drop (D := { D with nx := tz D }) s h k
theorem s_ret (s : Amb B0 H0 B H) (h : EvF K (te σ) B d) (k : ∀ v B' H', Step B0 H0 B' H' → Dt K B' v d → D.rt v H') : tRet te D σ H := h H s.bh _ fun v B' H' s' dv => k v B' H' (s.trans s').st dv
theorem s_retN {ds : List PyData} (s : Amb B0 H0 B H) (h : EvN K (te σ) B ds) (k : ∀ p vs B' H', Step B0 H0 B' H' → H0 p = none → B' p = none → H' p = some (.lst vs) → DtAll K B' vs ds → D.rt (.ref p) H') : tRet te D σ H := h H s.bh _ fun p vs B' H' s' h0 h1 h2 dv => k p vs B' H' (s.trans s').st (s.hh.back h0) h1 h2 dv
/-- a list of one's own handed back -/
theorem s_retV {v : V} {i : Nat} (hv : σ[i]? = some (some v)) (k : D.rt v H) : tRet (tVar i) D σ H := ⟨v, hv, k⟩
theorem s_if (s : Amb B0 H0 B H) (h : EvT (t σ) B b) (h1 : b = true → ∀ H', Ex H H' → Amb B0 H0 B H' → tu D σ H') (h2 : b = false → ∀ H', Ex H H' → Amb B0 H0 B H' → tw D σ H') : tIfS t tu tw D σ H := h H s.bh _ fun H' e => by
  have s' := s.trans (Step.heap s.bh e)
  cases b with
  | true => exact iteT (h1 rfl H' e s')
  | false => exact iteF (h2 rfl H' e s')
theorem q_if (s : Amb B0 H0 B H) (h : EvT (t σ) B b) (h1 : b = true → ∀ H', Ex H H' → Amb B0 H0 B H' → tu { D with nx := tz D } σ H') (h2 : b = false → ∀ H', Ex H H' → Amb B0 H0 B H' → tw { D with nx := tz D } σ H') : tSeq (tIfS t tu tw) tz D σ H := s_if (D := { D with nx := tz D }) s h h1 h2
theorem q_when (s : Amb B0 H0 B H) (h : EvT (t σ) B b) (h1 : b = true → ∀ H', Ex H H' → Amb B0 H0 B H' → tu { D with nx := tz D } σ H') (h2 : b = false → ∀ H', Ex H H' → Amb B0 H0 B H' → tz D σ H') : tSeq (tIfS t tu tNext) tz D σ H := s_if (D := { D with nx := tz D }) s h h1 h2
theorem s_when (s : Amb B0 H0 B H) (h : EvT (t σ) B b) (h1 : b = true → ∀ H', Ex H H' → Amb B0 H0 B H' → tu D σ H') (h2 : b = false → ∀ H', Ex H H' → Amb B0 H0 B H' → D.nx σ H') : tIfS t tu tNext D σ H := s_if s h h1 h2

/-- a list of one's own, not known by others -/
structure Own (H0 B H : Hp) (l : Addr) (xs : List V) : Prop where
  h0 : H0 l = none
  hb : B l = none
  hh : H l = some (.lst xs)
theorem Own.step {l : Addr} {xs : List V} {H' : Hp} (o : Own H0 B H l xs) (s : Step B H B' H') : Own H0 B' H' l xs := ⟨o.h0, s.nw l (by rw [o.hh]; simp) o.hb, s.hh _ _ o.hh⟩
theorem Own.heap {l : Addr} {xs : List V} {H' : Hp} (o : Own H0 B H l xs) (e : Ex H H') : Own H0 B H' l xs := ⟨o.h0, o.hb, e _ _ o.hh⟩
theorem Own.upd {l : Addr} {xs ys : List V} (o : Own H0 B H l xs) : Own H0 B (upd H l (.lst ys)) l ys := ⟨o.h0, o.hb, upd_same⟩
theorem Own.other {l p : Addr} {xs : List V} {u : HO} (o : Own H0 B H l xs) (h : l ≠ p) : Own H0 B (L2.upd H p u) l xs := ⟨o.h0, o.hb, by rw [upd_ne h]; exact o.hh⟩
theorem Own.mut {l : Addr} {xs : List V} {u : HO} (o : Own H0 B H l xs) (s : Amb B0 H0 B H) : Amb B0 H0 B (L2.upd H l u) := s.mut o.h0 o.hb
theorem Own.back {l : Addr} {xs : List V} {H1 : Hp} (o : Own H0 B H l xs) (e : Ex H1 H0) : Own H1 B H l xs := ⟨e.back o.h0, o.hb, o.hh⟩
/-- told to others from now on -/
theorem Own.keep {l : Addr} {xs : List V} (o : Own H0 B H l xs) (s : Amb B0 H0 B H) : Amb B0 H0 (L2.upd B l (.lst xs)) H := s.keep o.h0 o.hh
theorem Own.dt {l : Addr} {xs : List V} {ds : List PyData} (o : Own H0 B H l xs) (h : DtAll K B xs ds) : Dt K (L2.upd B l (.lst xs)) (.ref l) (.list ds) := .lst upd_same (h.up (Ex.new o.hb))
/-- xs.append(e), xs a list of one's own -/
theorem s_app {l : Addr} {xs : List V} {i : Nat} (s : Amb B0 H0 B H) (o : Own H0 B H l xs) (hi : σ[i]? = some (some (.ref l))) (h : EvF K (te σ) B d) (hz : xs.length ≤ 10000000)
    (k : ∀ v B' H', Amb B0 H0 B' (upd H' l (.lst (xs ++ [v]))) → Step B H B' H' → Own H0 B' (upd H' l (.lst (xs ++ [v]))) l (xs ++ [v]) → Dt K B' v d → D.nx σ (upd H' l (.lst (xs ++ [v])))) :
    tDrop (tBM K "list" rAppend (tVar i) (tCons te tNil)) D σ H := ⟨.ref l, hi, .inl ⟨rfl, xs, .inl (.inl o.hh)⟩, h H s.bh _ fun v B' H' s' dv =>
  have o' := o.step s'
  ⟨l, xs, v, rfl, rfl, o'.hh, Nat.lt_of_le_of_lt hz (by decide), k v B' H' (o'.mut (s.trans s')) s' o'.upd dv⟩⟩
theorem q_app {l : Addr} {xs : List V} {i : Nat} (s : Amb B0 H0 B H) (o : Own H0 B H l xs) (hi : σ[i]? = some (some (.ref l))) (h : EvF K (te σ) B d) (hz : xs.length ≤ 10000000)
    (k : ∀ v B' H', Amb B0 H0 B' (upd H' l (.lst (xs ++ [v]))) → Step B H B' H' → Own H0 B' (upd H' l (.lst (xs ++ [v]))) l (xs ++ [v]) → Dt K B' v d → tz D σ (upd H' l (.lst (xs ++ [v])))) :
    tSeq (tDrop (tBM K "list" rAppend (tVar i) (tCons te tNil))) tz D σ H := s_app (D := { D with nx := tz D }) s o hi h hz k
/-- xs.extend(ys) -/
theorem s_ext {l : Addr} {xs : List V} {i : Nat} {es : List PyData} (s : Amb B0 H0 B H) (o : Own H0 B H l xs) (hi : σ[i]? = some (some (.ref l))) (h : EvF K (te σ) B (.list es)) (hz : xs.length + es.length ≤ 10000000)
    (k : ∀ ws B' H', Amb B0 H0 B' (upd H' l (.lst (xs ++ ws))) → Step B H B' H' → Own H0 B' (upd H' l (.lst (xs ++ ws))) l (xs ++ ws) → DtAll K B' ws es → D.nx σ (upd H' l (.lst (xs ++ ws)))) :
    tDrop (tBM K "list" rExtend (tVar i) (tCons te tNil)) D σ H := ⟨.ref l, hi, .inl ⟨rfl, xs, .inl (.inl o.hh)⟩, h H s.bh _ fun v B' H' s' dv => by
  have o' := o.step s'
  obtain ⟨a, ws, rfl, hx, hd⟩ := dv.list_eq
  exact ⟨l, a, xs, ws, rfl, rfl, o'.hh, s'.bh _ _ hx, Nat.le_trans (by rw [hd.length]; exact hz) (by decide), k ws B' H' (o'.mut (s.trans s')) s' o'.upd hd⟩⟩
theorem q_ext {l : Addr} {xs : List V} {i : Nat} {es : List PyData} (s : Amb B0 H0 B H) (o : Own H0 B H l xs) (hi : σ[i]? = some (some (.ref l))) (h : EvF K (te σ) B (.list es)) (hz : xs.length + es.length ≤ 10000000)
    (k : ∀ ws B' H', Amb B0 H0 B' (upd H' l (.lst (xs ++ ws))) → Step B H B' H' → Own H0 B' (upd H' l (.lst (xs ++ ws))) l (xs ++ ws) → DtAll K B' ws es → tz D σ (upd H' l (.lst (xs ++ ws)))) :
    tSeq (tDrop (tBM K "list" rExtend (tVar i) (tCons te tNil))) tz D σ H := s_ext (D := { D with nx := tz D }) s o hi h hz k

/-! ### loops -/
/-- between two turns -/
def LJ (B0 H0 B : Hp) (R : Nat → L2.St → Hp → Hp → Prop) (i : Nat) (σ' : L2.St) (H' : Hp) : Prop := ∃ B', Amb B0 H0 B' H' ∧ Ex B B' ∧ R i σ' B' H'
theorem s_forR1 {n : Int} {j : Nat} (R : Nat → L2.St → Hp → Hp → Prop) (s : Amb B0 H0 B H) (h : EvA K (ar σ) B [.int n]) (hn : n ≤ 10000000 ∧ -10000000 ≤ n)
    (h0 : ∀ B' H', Amb B0 H0 B' H' → Step B H B' H' → R 0 σ B' H')
    (hs : ∀ (i : Nat) σ' B' H', (i : Int) < n → Amb B0 H0 B' H' → Ex B B' → R i σ' B' H' → tu { D with nx := LJ B0 H0 B R (i + 1), ct := LJ B0 H0 B R (i + 1), bk := D.nx } (σ'.set j (some (.int (i : Int)))) H')
    (hd : ∀ σ' B' H', Amb B0 H0 B' H' → Ex B B' → R n.toNat σ' B' H' → D.nx σ' H') : tFor (iRng1 ar) (gName j) tu D σ H := h H s.bh _ fun ws B1 H1 s1 dv => by
  obtain ⟨v, rfl, dx⟩ := dv.one_eq
  rw [dx.int_eq]
  refine ⟨n, rfl, by omega, by omega, ?_⟩
  refine for_range (lo := 0) (n := n.toNat) (LJ B0 H0 B R) ⟨B1, s.trans s1, s1.bb, h0 B1 H1 (s.trans s1) s1⟩ (fun i σ' H' hi c => ?_) (fun σ' H' ⟨B', s', e', c⟩ => hd σ' B' H' s' e' c)
  obtain ⟨B', s', e', c⟩ := c
  have e0 : (0 : Int) + (i : Int) = (i : Int) := Int.zero_add _
  show tu { D with nx := LJ B0 H0 B R (i + 1), ct := LJ B0 H0 B R (i + 1), bk := D.nx } (σ'.set j (some (.int (0 + (i : Int))))) H'
  rw [e0]
  exact hs i σ' B' H' (by omega) s' e' c
theorem q_forR1 {n : Int} {j : Nat} (R : Nat → L2.St → Hp → Hp → Prop) (s : Amb B0 H0 B H) (h : EvA K (ar σ) B [.int n]) (hn : n ≤ 10000000 ∧ -10000000 ≤ n)
    (h0 : ∀ B' H', Amb B0 H0 B' H' → Step B H B' H' → R 0 σ B' H')
    (hs : ∀ (i : Nat) σ' B' H', (i : Int) < n → Amb B0 H0 B' H' → Ex B B' → R i σ' B' H' → tu { D with nx := LJ B0 H0 B R (i + 1), ct := LJ B0 H0 B R (i + 1), bk := tz D } (σ'.set j (some (.int (i : Int)))) H')
    (hd : ∀ σ' B' H', Amb B0 H0 B' H' → Ex B B' → R n.toNat σ' B' H' → tz D σ' H') : tSeq (tFor (iRng1 ar) (gName j) tu) tz D σ H := s_forR1 (D := { D with nx := tz D }) R s h hn h0 hs hd
theorem s_forR2 {lo n : Int} {j : Nat} (R : Nat → L2.St → Hp → Hp → Prop) (s : Amb B0 H0 B H) (h : EvA K (ar σ) B [.int lo, .int n]) (hn : n ≤ 10000000 ∧ -10000000 ≤ n ∧ -10000000 ≤ lo ∧ lo ≤ 10000000)
    (h0 : ∀ B' H', Amb B0 H0 B' H' → Step B H B' H' → R 0 σ B' H')
    (hs : ∀ (i : Nat) σ' B' H', lo + (i : Int) < n → Amb B0 H0 B' H' → Ex B B' → R i σ' B' H' → tu { D with nx := LJ B0 H0 B R (i + 1), ct := LJ B0 H0 B R (i + 1), bk := D.nx } (σ'.set j (some (.int (lo + (i : Int))))) H')
    (hd : ∀ σ' B' H', Amb B0 H0 B' H' → Ex B B' → R (n - lo).toNat σ' B' H' → D.nx σ' H') : tFor (iRng2 ar) (gName j) tu D σ H := h H s.bh _ fun ws B1 H1 s1 dv => by
  obtain ⟨v, w, rfl, dx, dy⟩ := dv.two_eq
  rw [dx.int_eq, dy.int_eq]
  refine ⟨lo, n, rfl, ⟨by omega, by omega, by omega, by omega⟩, ?_⟩
  refine for_range (lo := lo) (n := (n - lo).toNat) (LJ B0 H0 B R) ⟨B1, s.trans s1, s1.bb, h0 B1 H1 (s.trans s1) s1⟩ (fun i σ' H' hi c => ?_) (fun σ' H' ⟨B', s', e', c⟩ => hd σ' B' H' s' e' c)
  obtain ⟨B', s', e', c⟩ := c
  exact hs i σ' B' H' (by omega) s' e' c
theorem q_forR2 {lo n : Int} {j : Nat} (R : Nat → L2.St → Hp → Hp → Prop) (s : Amb B0 H0 B H) (h : EvA K (ar σ) B [.int lo, .int n]) (hn : n ≤ 10000000 ∧ -10000000 ≤ n ∧ -10000000 ≤ lo ∧ lo ≤ 10000000)
    (h0 : ∀ B' H', Amb B0 H0 B' H' → Step B H B' H' → R 0 σ B' H')
    (hs : ∀ (i : Nat) σ' B' H', lo + (i : Int) < n → Amb B0 H0 B' H' → Ex B B' → R i σ' B' H' → tu { D with nx := LJ B0 H0 B R (i + 1), ct := LJ B0 H0 B R (i + 1), bk := tz D } (σ'.set j (some (.int (lo + (i : Int))))) H')
    (hd : ∀ σ' B' H', Amb B0 H0 B' H' → Ex B B' → R (n - lo).toNat σ' B' H' → tz D σ' H') : tSeq (tFor (iRng2 ar) (gName j) tu) tz D σ H := s_forR2 (D := { D with nx := tz D }) R s h hn h0 hs hd
/-- over a list: v its value -/
theorem s_forL {ds : List PyData} {j : Nat} (R : Nat → L2.St → Hp → Hp → Prop) (s : Amb B0 H0 B H) (h : EvF K (tl σ) B (.list ds))
    (h0 : ∀ B' H', Amb B0 H0 B' H' → Step B H B' H' → R 0 σ B' H')
    (hs : ∀ B1 (i : Nat) d x σ' B' H', Ex B B1 → ds[i]? = some d → Amb B0 H0 B' H' → Ex B1 B' → Dt K B' x d → R i σ' B' H' → tu { D with nx := LJ B0 H0 B1 R (i + 1), ct := LJ B0 H0 B1 R (i + 1), bk := D.nx } (σ'.set j (some x)) H')
    (hd : ∀ σ' B' H', Amb B0 H0 B' H' → Ex B B' → R ds.length σ' B' H' → D.nx σ' H') : tFor (iList K tl) (gName j) tu D σ H := h H s.bh _ fun v B1 H1 s1 dv => by
  obtain ⟨a, ws, rfl, hx, hds⟩ := dv.list_eq
  refine ⟨a, rfl, ⟨ws, .inl (.inl (s1.bh _ _ hx))⟩, ?_⟩
  refine for_list (xs := ws) (LJ B0 H0 B1 R) ⟨B1, s.trans s1, Ex.refl _, h0 B1 H1 (s.trans s1) s1⟩ (fun i σ' H' _ c => ?_) (fun i x σ' H' hi c => ?_) (fun σ' H' c => ?_)
  · obtain ⟨B', s', e', _⟩ := c
    exact .inl (.inl (s'.bh _ _ (e' _ _ hx)))
  · obtain ⟨B', s', e', c⟩ := c
    obtain ⟨d, h1, h2⟩ := hds.getV hi
    exact hs B1 i d x σ' B' H' s1.bb h1 s' e' (h2.up e') c
  · obtain ⟨B', s', e', c⟩ := c
    rw [hds.length] at c
    exact hd σ' B' H' s' (s1.bb.trans e') c
theorem q_forL {ds : List PyData} {j : Nat} (R : Nat → L2.St → Hp → Hp → Prop) (s : Amb B0 H0 B H) (h : EvF K (tl σ) B (.list ds))
    (h0 : ∀ B' H', Amb B0 H0 B' H' → Step B H B' H' → R 0 σ B' H')
    (hs : ∀ B1 (i : Nat) d x σ' B' H', Ex B B1 → ds[i]? = some d → Amb B0 H0 B' H' → Ex B1 B' → Dt K B' x d → R i σ' B' H' → tu { D with nx := LJ B0 H0 B1 R (i + 1), ct := LJ B0 H0 B1 R (i + 1), bk := tz D } (σ'.set j (some x)) H')
    (hd : ∀ σ' B' H', Amb B0 H0 B' H' → Ex B B' → R ds.length σ' B' H' → tz D σ' H') : tSeq (tFor (iList K tl) (gName j) tu) tz D σ H := s_forL (D := { D with nx := tz D }) R s h h0 hs hd
end
end Rs

namespace Rs
open PySem PySem.Spec PyProof.Rows L2

/-! ### defs that stand -/
structure Has (P : Program) (w : World) (K : PySem.W.Frag) (mg : Str → Option Value) (base : Heap) (k : Nat) (x : Str) (ps : List Str) (sp : Sp) : Prop where
  ex : ∃ f fd, FnOk P w K mg base (L2.CX P w) k f fd ps sp ∧ mg x = some (.ref f) ∧ PySem.W.keepIn K (.ref f) = true ∧ Binds K fd ps []
/-- built-in names are the built-ins -/
structure Glo (mg : Str → Option Value) : Prop where
  len : mg "len" = none
  range : mg "range" = none
  list : mg "list" = none
  tuple : mg "tuple" = none
  set : mg "set" = none
  sorted : mg "sorted" = none
  max : mg "max" = none
  min : mg "min" = none
  sum : mg "sum" = none
  int : mg "int" = none
  bool : mg "bool" = none
  isinstance : mg "isinstance" = none
  reversed : mg "reversed" = none
  ValueError : mg "ValueError" = none
/-- an own class of errors beneath ValueError -/
structure ECls (K : PySem.W.Frag) (mg : Str → Option Value) (x : Str) (C : Addr) : Prop where
  g : mg x = some (.ref C)
  xF : PySem.W.excIn K C [.type "ValueError", .type "Exception", .type "BaseException", .type "object"] "ValueError.__new__" = true
  k : PySem.W.keepIn K (.ref C) = true
  b : PySem.W.subIn K (.ref C) (.type "BaseException") = some true
  t : PySem.W.typeIn K (.ref C) = some (.type "type")
section
variable {X : Cx} {k : Nat} {ps : List Str} {sp : Sp} {x : Str} {p pos : Pos} {e : Expr} {es : List Expr} {t : TA}
theorem pe_c (h : Has X.prog X.w X.K X.mg X.base k x ps sp) (hr : Room k X.A) (ha : PA X (e :: es) t) (hg : Gl X x := by rfl) (hdb : (x == ("__debug__" : Str)) = false := by decide)
    (he : starEach (e :: es) X.env = (false, eval e X.env) :: starEach es X.env := by rfl) (hpl : (backTo pos (starEach es X.env)).any (·.1) = false := by rfl) : PE X (.Call (.Name x p) (e :: es) [] pos) (tCall sp [] E0 t) := by
  obtain ⟨f, fd, F, g, kp, b⟩ := h.ex
  exact pe_call F hr hg g kp b .nil passL ha hdb he hpl
theorem pe_cE {E : XK} (h : Has X.prog X.w X.K X.mg X.base k x ps sp) (hr : Room k X.A) (tk : Takes X (fun cls d _ H => E cls d H)) (ha : PA X (e :: es) t) (hg : Gl X x := by rfl) (hdb : (x == ("__debug__" : Str)) = false := by decide)
    (he : starEach (e :: es) X.env = (false, eval e X.env) :: starEach es X.env := by rfl) (hpl : (backTo pos (starEach es X.env)).any (·.1) = false := by rfl) : PE X (.Call (.Name x p) (e :: es) [] pos) (tCall sp [] E t) := by
  obtain ⟨f, fd, F, g, kp, b⟩ := h.ex
  exact pe_call F hr hg g kp b .nil (passes_call tk fun _ _ _ _ z => z) ha hdb he hpl
theorem ECls.pmk {C : Addr} {m : Str} {j : Nat} {p2 : Pos} (c : ECls X.K X.mg x C) (hg : Gl X x := by rfl) (hdb : (x == ("__debug__" : Str)) = false := by decide) :
    PMk X (.Call (.Name x p) [.Constant (.str m) j p2] [] pos) (fun _ H Q => Q (.ref C) none H) := pmk_own PySem.F.excBase_ValueError c.xF c.g c.k (raises_own c.b c.t) hg hdb
end
section
variable {P : Program} {w : World} {K : PySem.W.Frag} {mg : Str → Option Value} {base : Heap}
theorem Has.mk' {k : Nat} {x qual : Str} {st : Stmt} {f : Addr} {fd : FuncData} {ps : List Str} {sp : Sp} (F : Fun K x qual st f fd) (h : FnOk P w K mg base (L2.CX P w) k f fd ps sp) (g : mg x = some (.ref f)) (b : Binds K fd ps []) : Has P w K mg base k x ps sp := ⟨f, fd, h, g, F.kp, b⟩
end
/-! ### len(set(xs)) -/
/-- how many unlike ones -/
def nset (ns : List Int) : Nat := (PyProof.Rows.firstMet (fun i => ns.getD i 0) ns.length).length
theorem nset_nodup {ns : List Int} (h : ns.Nodup) : nset ns = ns.length := by
  unfold nset
  rw [RZ.firstMet_nodup h ns.length (Nat.le_refl _), List.take_length]
theorem firstMet_full (val : Nat → Int) : ∀ i, (PyProof.Rows.firstMet val i).length = i → ((List.range i).map val).Nodup
  | 0, _ => by simp
  | i + 1, h => by
    rw [PyProof.Rows.firstMet_succ] at h
    unfold PyProof.Rows.step_dedup at h
    have hle := PyProof.Rows.firstMet_length_le val i
    by_cases q : (PyProof.Rows.firstMet val i).any (· == val i) = true
    · rw [if_pos q] at h; omega
    · rw [if_neg q, List.length_append] at h
      have ih := firstMet_full val i (by simpa using h)
      rw [List.range_succ, List.map_append, List.nodup_append]
      refine ⟨ih, by simp, fun a ha b hb e => q ?_⟩
      have hb' : b = val i := by simpa using hb
      rw [PyProof.Rows.firstMet_any, List.any_eq_true]
      exact ⟨a, ha, by rw [e, hb']; simp⟩
theorem map_getD (ns : List Int) : (List.range ns.length).map (fun i => ns.getD i 0) = ns := by
  apply List.ext_getElem?
  intro i
  by_cases h : i < ns.length
  · rw [List.getElem?_map, List.getElem?_range h, List.getElem?_eq_getElem h]
    simp [List.getD_eq_getElem?_getD, List.getElem?_eq_getElem h]
  · rw [List.getElem?_eq_none (by simpa using h), List.getElem?_eq_none (by omega)]
theorem nset_eq {ns : List Int} (h : nset ns = ns.length) : ns.Nodup := by
  have := firstMet_full (fun i => ns.getD i 0) ns.length h
  rw [map_getD] at this
  exact this
theorem nset_iff (ns : List Int) : nset ns = ns.length ↔ ns.Nodup := ⟨nset_eq, nset_nodup⟩
def tLenSet (K : PySem.W.Frag) (ta : TE) : TE := fun σ H Q => ta σ H fun x H1 => ∃ (l : Addr) (ns : List Int), x = .ref l ∧ SqL K H1 l (ns.map V.int) ∧ ns.length ≤ 4000 ∧ Q (.int (nset ns : Nat)) H1
theorem pe_lenSet {X : Cx} {a : Expr} {ta : TE} {p p2 q pos : Pos} (hg : Gl X "len") (hm : X.mg "len" = none) (hg2 : Gl X "set") (hm2 : X.mg "set" = none) (ha : PE X a ta) (hc : X.calm = true := by rfl)
    (na : starEach [a] X.env = (false, eval a X.env) :: starEach [] X.env := by rfl) : PE X (.Call (.Name "len" p) [.Call (.Name "set" p2) [a] [] q] [] pos) (tLenSet X.K ta) := by
  refine ⟨fun pins s σ H Q I h => ?_⟩
  refine Call_ (ld_blt I hg hm boot_len ?_)
  refine PyProof.Rows.callWith_builtin1 (PyProof.Rows.args_cons ?_ rfl) rfl rfl
  refine Call_ (ld_blt I hg2 hm2 boot_set ?_)
  refine PyProof.Rows.callWith_type1 (PyProof.Rows.args_cons (thn (ha.run pins s σ H _ I h) fun v s1 ⟨x, H1, I1, r1, q1⟩ => PyProof.Rows.args_nil ?_) na) na rfl
  obtain ⟨l, ns, rfl, hq, hl, q1⟩ := q1
  cases r1
  obtain ⟨its, r, pl, hz⟩ := I1.list hq
  have hlen : its.toArray.size = ns.length := by rw [List.size_toArray, ← r.length, List.length_map]
  refine call_set_list (I1.ok.hd hc) pl.isList (by simpa using RZ.intsAre_vals r) (by rw [hlen]; unfold scanBound; omega) fun h' tk hS hk => ?_
  refine PyProof.Rows.args_nil ?_
  rw [hlen] at hS
  obtain ⟨o, es, ep, t, ho, hex, hd, _, _, _, hf, hn⟩ := hS
  have I2 : Inv X pins σ H1 { s1 with heap := h', toks := tk } := I1.kept fun b o e => hk b o (Heap.lt_size e) e
  have hle := PyProof.Rows.firstMet_length_le (fun i => ns.getD i 0) ns.length
  exact call_len_set ho hex hd hf (by rw [hn]; omega) ⟨.int (nset ns : Nat), H1, I2.tok _, ⟨_, by rw [hn]; rfl⟩, q1⟩
section
variable {K : PySem.W.Frag} {σ : L2.St} {B B' B0 H0 H : Hp} {ta tb tc te tl : TE} {t u : TT} {d d1 d2 d3 : PyData} {b b' : Bool} {ar : TA}
theorem ev_lenSet {ns : List Int} (h : EvF K (ta σ) B (dL ns)) (hl : ns.length ≤ 4000) : EvF K (tLenSet K ta σ) B (.int (nset ns : Nat)) := fun H f Q q =>
  h H f _ fun v B1 H1 s dv => by
    obtain ⟨a, rfl, hx⟩ := dv.ints_eq
    exact ⟨a, ns, rfl, .inl (.inl (s.bh _ _ hx)), hl, q _ B1 H1 s (.int _)⟩
/-! more on methods -/
def rInsert : V → List V → Hp → VK → Prop := fun x vs H Q => ∃ (l : Addr) (xs : List V) (i : Int) (y : V), x = .ref l ∧ vs = [.int i, y] ∧ H l = some (.lst xs) ∧ xs.length < sizeLine ∧ 0 ≤ i ∧ i < 2 ^ 63 ∧
    Q .non (upd H l (.lst (xs.take i.toNat ++ [y] ++ xs.drop i.toNat)))
theorem mt_insertI {X : Cx} : MtR X "list.insert" rInsert := mt_insert
/-- xs.index(n) -/
theorem eqV_int (a b : Int) : eqV (.int a) (.int b) = decide (a = b) := by
  unfold eqV
  first
    | rfl
    | (rw [Bool.eq_iff_iff]; simp)
theorem ev_index {ns : List Int} {n : Int} {j : Nat} (ha : EvF K (ta σ) B (dL ns)) (hb : EvF K (tb σ) B (.int n)) (hj : ns[j]? = some n) (hf : ∀ m < j, ns[m]? ≠ some n) : EvF K (tBM K "list" (rIndex K) ta (tCons tb tNil) σ) B (.int (j : Nat)) := fun H f Q q =>
  ha H f _ fun v B1 H1 s dv => by
    obtain ⟨a, rfl, hx⟩ := dv.ints_eq
    refine ⟨.inl ⟨rfl, _, .inl (.inl (s.bh _ _ hx))⟩, (hb.mono s.bb) H1 s.bh _ fun w B2 H2 s2 dw => ?_⟩
    rw [dw.int_eq]
    refine ⟨a, ns.map V.int, .int n, j, .int n, rfl, rfl, .inl (.inl (s2.bh _ _ (s2.bb _ _ hx))), rfl, flat_ints ns, by rw [List.getElem?_map, hj]; rfl, by rw [eqV_int]; simp, fun m z' hm hz => ?_, q _ B2 H2 (s.trans s2) (.int _)⟩
    rw [List.getElem?_map] at hz
    cases e : ns[m]? with
    | none => rw [e] at hz; cases hz
    | some y =>
      rw [e] at hz
      have : V.int y = z' := Option.some.inj hz
      rw [← this, eqV_int, decide_eq_false]
      intro z
      exact hf m hm (by rw [e, z])
end
/-! rules with the written part named -/
section
variable {X : Cx} {K : PySem.W.Frag}
theorem ixl (h : X.K = K := by rfl) : IxR X (rIxL K) := h ▸ ix_list
theorem ixt (h : X.K = K := by rfl) : IxR X (rIxT K) := h ▸ ix_tup
theorem ckLen (h : X.K = K := by rfl) : CallR X (.builtin "len") (rLen K) := h ▸ k_len
theorem ckList (h : X.K = K := by rfl) : CallR X (.type "list") (rListOf K) := h ▸ k_list
theorem ckTuple (h : X.K = K := by rfl) : CallR X (.type "tuple") (rTupOf K) := h ▸ k_tuple
theorem ckSorted (h : X.K = K := by rfl) : CallR X (.builtin "sorted") (rSortedI K) := h ▸ cr_sortedI
theorem ckSum (hc : X.calm = true) (h : X.K = K := by rfl) : CallR X (.builtin "sum") (rSum K) := h ▸ cr_sum hc
theorem ckMax (hc : X.calm = true) (h : X.K = K := by rfl) : CallR X (.builtin "max") (rMax K) := h ▸ cr_max hc
theorem ckMin (hc : X.calm = true) (h : X.K = K := by rfl) : CallR X (.builtin "min") (rMin K) := h ▸ cr_min hc
theorem ckIsi (h : X.K = K := by rfl) : CallR X (.builtin "isinstance") (rIsi K) := h ▸ call_isi
theorem oIn (h : X.K = K := by rfl) : OpR X (compareOp .In) (rIn K false) := h ▸ op_in_seq
theorem oNotIn (h : X.K = K := by rfl) : OpR X (compareOp .NotIn) (rIn K true) := h ▸ op_notIn_seq
theorem oEq (hu : X.A.units + 64 < cLine) (h : X.K = K := by rfl) : OpR X (compareOp .Eq) (rEqD K) := h ▸ op_eqD hu
theorem oNe (hu : X.A.units + 64 < cLine) (h : X.K = K := by rfl) : OpR X (compareOp .NotEq) (rNeD K) := h ▸ op_neD hu
theorem slL (h : X.K = K := by rfl) : SlR X (rSlL K) := h ▸ sl_list
theorem piL {tg e : Expr} {te : TE} (he : PE X e te) (h : X.K = K := by rfl) : PI X tg e (iList K te) := h ▸ pi_list he
theorem peRev {e : Expr} {te : TE} {k : Nat} {p1 p2 p3 pos : Pos} (he : PE X e te) (h : X.K = K := by rfl) : PE X (.Subscript e (.Slice none none (some (.UnaryOp .USub (.Constant (.int 1) k p1) p2)) p3) pos) (tRevL K te) := h ▸ pe_revL he
theorem mtIndex (h : X.K = K := by rfl) : MtR X "list.index" (rIndex K) := h ▸ mt_index
theorem peLenSet {a : Expr} {ta : TE} {p p2 q pos : Pos} (hg : Gl X "len") (hm : X.mg "len" = none) (hg2 : Gl X "set") (hm2 : X.mg "set" = none) (ha : PE X a ta) (h : X.K = K := by rfl) (hc : X.calm = true := by rfl)
    (na : starEach [a] X.env = (false, eval a X.env) :: starEach [] X.env := by rfl) : PE X (.Call (.Name "len" p) [.Call (.Name "set" p2) [a] [] q] [] pos) (tLenSet K ta) := h ▸ pe_lenSet hg hm hg2 hm2 ha hc na
variable {o e : Expr} {es : List Expr} {to : TE} {t : TA} {name : Str} {apos cpos : Pos} {T id : String} {r : V → List V → Hp → VK → Prop}
theorem peBm0 (pa : PlainAttrs T) (slot : Slot T name id) (hty : typeOf (.builtin id) = pure (.type "method_descriptor")) (hm : MtR X id r) (ho : PE X o to) (h : X.K = K := by rfl)
    (hbase : attributeBase o name X.env (eval o X.env) = eval o X.env := by rfl) (hline : (apos.endLine == cpos.line) = true := by rfl) : PE X (.Call (.Attribute o name apos) [] [] cpos) (tBM0 K T r to) := h ▸ pe_bm0 pa slot hty hm ho hbase hline
theorem peBm (pa : PlainAttrs T) (slot : Slot T name id) (hty : typeOf (.builtin id) = pure (.type "method_descriptor")) (hm : MtR X id r) (ho : PE X o to) (ha : PA X (e :: es) t) (h : X.K = K := by rfl)
    (hbase : attributeBase o name X.env (eval o X.env) = eval o X.env := by rfl)
    (hfew : ((backTo cpos (starEach (e :: es) X.env)).all (fun x => !x.1) && (backToKw cpos (keywordEach [] X.env)).all (fun x => x.1.isSome)
      && decide ((e :: es).length + ([] : List Keyword).length + (if ([] : List Keyword).isEmpty then 0 else 1) < 30)) = true := by rfl)
    (hline : (apos.endLine == cpos.line) = true := by rfl) (hs : starEach (e :: es) X.env = (false, eval e X.env) :: starEach es X.env := by rfl) (hplain : (backTo cpos (starEach es X.env)).any (·.1) = false := by rfl) :
    PE X (.Call (.Attribute o name apos) (e :: es) [] cpos) (tBM K T r to t) := h ▸ pe_bm pa slot hty hm ho ha hbase hfew hline hs hplain
end
end Rs

namespace Rs
open PySem PySem.Spec PyProof.Rows L2
/-- data that == takes: no scripts, at most n deep -/
def Sh (d : PyData) (n : Nat) : Prop := pure? d = true ∧ d.canLay0 = true ∧ d.depth ≤ n
theorem sh_all {n : Nat} : ∀ {ds : List PyData}, (∀ d ∈ ds, Sh d n) → pures? ds = true ∧ PyData.canLayAll0 ds = true ∧ PyData.depthAll ds ≤ n
  | [], _ => ⟨rfl, rfl, by simp [PyData.depthAll]⟩
  | d :: ds, h => by
    have h1 := h d List.mem_cons_self
    have h2 := sh_all (ds := ds) fun x hx => h x (List.mem_cons_of_mem _ hx)
    refine ⟨by unfold pures?; rw [h1.1, h2.1]; rfl, by unfold PyData.canLayAll0; rw [h1.2.1, h2.2.1]; rfl, ?_⟩
    unfold PyData.depthAll
    exact Nat.max_le.mpr ⟨h1.2.2, h2.2.2⟩
theorem Sh.list {n : Nat} {ds : List PyData} (h : ∀ d ∈ ds, Sh d n) : Sh (.list ds) (n + 1) := by
  obtain ⟨h1, h2, h3⟩ := sh_all h
  exact ⟨by unfold pure?; exact h1, by unfold PyData.canLay0; exact h2, by unfold PyData.depth; omega⟩
theorem Sh.tuple {n : Nat} {ds : List PyData} (h : ∀ d ∈ ds, Sh d n) : Sh (.tuple ds) (n + 1) := by
  obtain ⟨h1, h2, h3⟩ := sh_all h
  exact ⟨by unfold pure?; exact h1, by unfold PyData.canLay0; exact h2, by unfold PyData.depth; omega⟩
theorem Sh.mono {d : PyData} {n m : Nat} (h : Sh d n) (e : n ≤ m) : Sh d m := ⟨h.1, h.2.1, Nat.le_trans h.2.2 e⟩
theorem sh_int (i : Int) : Sh (.int i) 0 := ⟨rfl, rfl, by simp [PyData.depth]⟩
theorem sh_bool (i : Bool) : Sh (.bool i) 0 := ⟨rfl, rfl, by simp [PyData.depth]⟩
theorem sh_none : Sh .none 0 := ⟨rfl, rfl, by simp [PyData.depth]⟩
theorem sh_map {α : Type} {n : Nat} {f : α → PyData} (xs : List α) (h : ∀ x, Sh (f x) n) : Sh (.list (xs.map f)) (n + 1) := Sh.list fun d hd => by
  obtain ⟨x, _, rfl⟩ := List.mem_map.mp hd
  exact h x
theorem sh_dL (ns : List Int) : Sh (dL ns) 1 := sh_map ns sh_int
theorem sh_dLL (ns : List (List Int)) : Sh (dLL ns) 2 := sh_map ns sh_dL
theorem sh_dLLL (ns : List (List (List Int))) : Sh (dLLL ns) 3 := sh_map ns sh_dLL
theorem Sh.pure {d : PyData} {n : Nat} (h : Sh d n) : pure? d = true := h.1
theorem Sh.shaped {d : PyData} {n : Nat} (h : Sh d n) (hn : n ≤ 64 := by decide) : SeqAt.shaped d = true := by
  unfold SeqAt.shaped
  rw [h.2.1, decide_eq_true (Nat.le_trans h.2.2 hn)]; rfl
theorem eqv_dL (a b : List Int) : PyData.eqv (dL a) (dL b) = decide (a = b) := PySem.W.Datum.eqv (α := List Int) a b
theorem eqv_dLL (a b : List (List Int)) : PyData.eqv (dLL a) (dLL b) = decide (a = b) := PySem.W.Datum.eqv (α := List (List Int)) a b
theorem eqv_dLLL (a b : List (List (List Int))) : PyData.eqv (dLLL a) (dLLL b) = decide (a = b) := PySem.W.Datum.eqv (α := List (List (List Int))) a b
theorem eqv_int (a b : Int) : PyData.eqv (.int a) (.int b) = decide (a = b) := PySem.W.Datum.eqv (α := Int) a b
theorem eqv_bool (a b : Bool) : PyData.eqv (.bool a) (.bool b) = decide (a = b) := PySem.W.Datum.eqv (α := Bool) a b
theorem eqv_list_nil (a : List PyData) : PyData.eqv (.list a) (.list []) = a.isEmpty := by
  cases a <;> simp [PyData.eqv, PyData.eqvAll]
theorem eqv_tup2 (a b c d : Int) : PyData.eqv (.tuple [.int a, .int b]) (.tuple [.int c, .int d]) = (decide (a = c) && decide (b = d)) := by
  simp only [PyData.eqv, PyData.eqvAll, Bool.and_true]
  rw [PySem.W.beq_decide, PySem.W.beq_decide]
section
variable {K : PySem.W.Frag} {σ : L2.St} {B : Hp} {ta tb : TE} {d1 d2 : PyData}
theorem ev_eqI {i j : Int} (ha : EvF K (ta σ) B (.int i)) (hb : EvF K (tb σ) B (.int j)) : EvF K (tOp (rEqD K) ta tb σ) B (.bool (decide (i = j))) := (ev_eq ha hb (sh_int i).pure (sh_int j).pure (sh_int i).shaped (sh_int j).shaped).is (by rw [eqv_int])
theorem ev_neI {i j : Int} (ha : EvF K (ta σ) B (.int i)) (hb : EvF K (tb σ) B (.int j)) : EvF K (tOp (rNeD K) ta tb σ) B (.bool (!decide (i = j))) := (ev_ne ha hb (sh_int i).pure (sh_int j).pure (sh_int i).shaped (sh_int j).shaped).is (by rw [eqv_int])
theorem ev_eqL {i j : List Int} (ha : EvF K (ta σ) B (dL i)) (hb : EvF K (tb σ) B (dL j)) : EvF K (tOp (rEqD K) ta tb σ) B (.bool (decide (i = j))) := (ev_eq ha hb (sh_dL i).pure (sh_dL j).pure (sh_dL i).shaped (sh_dL j).shaped).is (by rw [eqv_dL])
theorem ev_neL {i j : List Int} (ha : EvF K (ta σ) B (dL i)) (hb : EvF K (tb σ) B (dL j)) : EvF K (tOp (rNeD K) ta tb σ) B (.bool (!decide (i = j))) := (ev_ne ha hb (sh_dL i).pure (sh_dL j).pure (sh_dL i).shaped (sh_dL j).shaped).is (by rw [eqv_dL])
theorem ev_eqLL {i j : List (List Int)} (ha : EvF K (ta σ) B (dLL i)) (hb : EvF K (tb σ) B (dLL j)) : EvF K (tOp (rEqD K) ta tb σ) B (.bool (decide (i = j))) := (ev_eq ha hb (sh_dLL i).pure (sh_dLL j).pure (sh_dLL i).shaped (sh_dLL j).shaped).is (by rw [eqv_dLL])
theorem ev_neLL {i j : List (List Int)} (ha : EvF K (ta σ) B (dLL i)) (hb : EvF K (tb σ) B (dLL j)) : EvF K (tOp (rNeD K) ta tb σ) B (.bool (!decide (i = j))) := (ev_ne ha hb (sh_dLL i).pure (sh_dLL j).pure (sh_dLL i).shaped (sh_dLL j).shaped).is (by rw [eqv_dLL])
theorem ev_eqNil {n : Nat} {ds : List PyData} (ha : EvF K (ta σ) B (.list ds)) (hs : Sh (.list ds) n) (hn : n ≤ 64 := by decide) (hb : EvF K (tb σ) B (.list [])) : EvF K (tOp (rEqD K) ta tb σ) B (.bool ds.isEmpty) :=
  (ev_eq ha hb hs.pure rfl (hs.shaped hn) (by decide)).is (by rw [eqv_list_nil])
theorem ev_neNil {n : Nat} {ds : List PyData} (ha : EvF K (ta σ) B (.list ds)) (hs : Sh (.list ds) n) (hn : n ≤ 64 := by decide) (hb : EvF K (tb σ) B (.list [])) : EvF K (tOp (rNeD K) ta tb σ) B (.bool (!ds.isEmpty)) :=
  (ev_ne ha hb hs.pure rfl (hs.shaped hn) (by decide)).is (by rw [eqv_list_nil])
end
section
variable {K : PySem.W.Frag} {σ : L2.St} {B H : Hp} {ar : TA} {R : List PyData → PyData → Prop} {RN : List PyData → List PyData → Prop} {Bad : List PyData → Prop} {C : Addr} {E : XK} {ds : List PyData} {D : Ends} {tz : TS}
/-- a call that raises -/
theorem t_bad {Q : VK} (e : Ex B H) (h : EvA K (ar σ) B ds) (hb : Bad ds) (k : ∀ H', Ex H H' → E (.ref C) none H') : tCall (SpX K R Bad C) [] E ar σ H Q :=
  h H e _ fun vs B1 H1 s1 dv => ⟨B1, ds, s1.bh, by rw [List.append_nil]; exact dv, .inr ⟨hb, fun H' e' => k H' (s1.hh.trans e')⟩⟩
theorem t_badN {Q : VK} (e : Ex B H) (h : EvA K (ar σ) B ds) (hb : Bad ds) (k : ∀ H', Ex H H' → E (.ref C) none H') : tCall (SpXN K RN Bad C) [] E ar σ H Q :=
  h H e _ fun vs B1 H1 s1 dv => ⟨B1, ds, s1.bh, by rw [List.append_nil]; exact dv, .inr ⟨hb, fun H' e' => k H' (s1.hh.trans e')⟩⟩
theorem q_bad (e : Ex B H) (h : EvA K (ar σ) B ds) (hb : Bad ds) (k : ∀ H', Ex H H' → E (.ref C) none H') : tSeq (tDrop (tCall (SpX K R Bad C) [] E ar)) tz D σ H := t_bad (R := R) e h hb k
theorem q_asgBad {i : Nat} (e : Ex B H) (h : EvA K (ar σ) B ds) (hb : Bad ds) (k : ∀ H', Ex H H' → E (.ref C) none H') : tSeq (tAsg (tCall (SpX K R Bad C) [] E ar) (gName i)) tz D σ H := t_bad (R := R) e h hb k
theorem q_asgBadN {i : Nat} (e : Ex B H) (h : EvA K (ar σ) B ds) (hb : Bad ds) (k : ∀ H', Ex H H' → E (.ref C) none H') : tSeq (tAsg (tCall (SpXN K RN Bad C) [] E ar) (gName i)) tz D σ H := t_badN (RN := RN) e h hb k
end
theorem at_dL {ns : List Int} {i : Int} (h0 : 0 ≤ i) (h : i < ns.length) : atI (ns.map PyData.int) i = some (.int (ns.getD i.toNat 0)) := by
  obtain ⟨j, rfl⟩ := Int.eq_ofNat_of_zero_le h0
  have hj : j < ns.length := by omega
  show atI (ns.map PyData.int) (j : Int) = _
  rw [atI_nat (v := PyData.int (ns.getD j 0))]
  · simp
  · rw [List.getElem?_map, List.getElem?_eq_getElem hj]
    simp [List.getD_eq_getElem?_getD, List.getElem?_eq_getElem hj]
theorem seqIx {n j : Nat} (h : j < n) : seqIndex? (j : Int) n = some j := by
  have : ixN n (j : Int) = some j := by
    unfold ixN
    rw [if_pos (by omega), if_pos (by omega)]
    simp
  exact (ixN_seq this).1
section
variable {K : PySem.W.Frag} {σ : L2.St} {B H : Hp} {te tf : TE} {d d' : PyData}
theorem t_a1 {Q : List V → Hp → Prop} (h : EvF K (te σ) B d) (e : Ex B H) (k : ∀ v B' H', Step B H B' H' → Dt K B' v d → Q [v] H') : tCons te tNil σ H Q := h H e _ fun v B' H' s dv => k v B' H' s dv
end
section
variable {K : PySem.W.Frag} {σ : L2.St} {B H B0 H0 : Hp} {t1 t2 : TE} {D : Ends} {tz : TS}
/-- x = [f(..), g(..)], both new lists -/
theorem q_asgTwo {i : Nat} {ds1 ds2 : List PyData} (s : Amb B0 H0 B H) (h1 : EvN K (t1 σ) B ds1) (h2 : EvN K (t2 σ) B ds2)
    (k : ∀ p1 vs1 p2 vs2 l B' H', Amb B0 H0 B' H' → Step B H B' H' → Own H B' H' p1 vs1 → Own H B' H' p2 vs2 → Own H B' H' l [.ref p1, .ref p2] → p1 ≠ p2 → l ≠ p1 → l ≠ p2 → DtAll K B' vs1 ds1 → DtAll K B' vs2 ds2 → tz D (σ.set i (some (.ref l))) H') :
    tSeq (tAsg (tLst (tCons t1 (tCons t2 tNil))) (gName i)) tz D σ H :=
  h1 H s.bh _ fun p1 vs1 B1 H1 s1 hp1 hb1 hh1 d1 => (h2.mono s1.bb) H1 s1.bh _ fun p2 vs2 B2 H2 s2 hp2 hb2 hh2 d2 => ⟨sz100 (by simp), fun l hl => by
    have o1 : Own H B2 H2 p1 vs1 := (⟨hp1, hb1, hh1⟩ : Own H B1 H1 p1 vs1).step s2
    have o2 : Own H B2 H2 p2 vs2 := ⟨s1.hh.back hp2, hb2, hh2⟩
    have n12 : p1 ≠ p2 := by rintro rfl; rw [hh1] at hp2; cases hp2
    have nl1 : l ≠ p1 := by rintro rfl; rw [o1.hh] at hl; cases hl
    have nl2 : l ≠ p2 := by rintro rfl; rw [hh2] at hl; cases hl
    have st : Step B H B2 (upd H2 l (.lst [.ref p1, .ref p2])) := (s1.trans s2).trans (Step.fresh s2.bh hl)
    exact k p1 vs1 p2 vs2 l B2 _ (s.trans st) st (o1.other nl1.symm) (o2.other nl2.symm) ⟨(s1.trans s2).hh.back hl, s2.bh.back hl, upd_same⟩ n12 nl1 nl2 (d1.up s2.bb) d2⟩
end
end Rs

/-! rows: plain mathematics -/
namespace Rs
/-- 1 .. n -/
def upTo (n : Nat) : List Int := (List.range n).map fun (i : Nat) => 1 + (i : Int)
def isSeen (ns : List Int) (i : Nat) : Bool := (List.range i).all fun k => decide (ns.getD k 0 < ns.getD i 0)
def seen (ns : List Int) : List Nat := (List.range ns.length).filter (isSeen ns)
def isBack (ns : List Int) (i : Nat) : Bool := (List.range (ns.length - (i + 1))).all fun k => decide (ns.getD (i + 1 + k) 0 < ns.getD i 0)
def backs (ns : List Int) : List Nat := (List.range ns.length).filter (isBack ns)
def seenI (ns : List Int) : List Int := (seen ns).map fun (i : Nat) => (i : Int)
def backI (ns : List Int) : List Int := (backs ns).map fun (i : Nat) => (i : Int)
def GoodRow (ns : List Int) : Prop := 1 ≤ ns.length ∧ ns.length ≤ 30 ∧ ns.Nodup
instance (ns : List Int) : Decidable (GoodRow ns) := inferInstanceAs (Decidable (_ ∧ _ ∧ _))
theorem seenI_len (ns : List Int) : (seenI ns).length = (seen ns).length := by unfold seenI; rw [List.length_map]
theorem backI_len (ns : List Int) : (backI ns).length = (backs ns).length := by unfold backI; rw [List.length_map]
theorem upTo_len (n : Nat) : (upTo n).length = n := by unfold upTo; rw [List.length_map, List.length_range]
theorem mem_upTo {n : Nat} {x : Int} : x ∈ upTo n ↔ 1 ≤ x ∧ x ≤ n := by
  unfold upTo
  rw [List.mem_map]
  constructor
  · rintro ⟨i, hi, rfl⟩
    have := List.mem_range.mp hi
    omega
  · rintro ⟨h1, h2⟩
    exact ⟨(x - 1).toNat, List.mem_range.mpr (by omega), by omega⟩
theorem upTo_get {n i : Nat} (h : i < n) : (upTo n)[i]? = some (1 + (i : Int)) := by
  unfold upTo
  rw [List.getElem?_map, List.getElem?_range h]
  rfl
theorem upTo_sorted (n : Nat) : (upTo n).Pairwise (· ≤ ·) := by
  unfold upTo
  rw [List.pairwise_map]
  exact List.pairwise_lt_range.imp fun h => by omega
theorem upTo_lt (n : Nat) : (upTo n).Pairwise (· < ·) := by
  unfold upTo
  rw [List.pairwise_map]
  exact List.pairwise_lt_range.imp fun h => by omega
theorem upTo_nodup (n : Nat) : (upTo n).Nodup := (upTo_lt n).imp fun h e => by omega
/-! seen from the front, by a running list -/
theorem isSeen_iff {ns : List Int} {i : Nat} : isSeen ns i = true ↔ ∀ k < i, ns.getD k 0 < ns.getD i 0 := by
  unfold isSeen
  rw [List.all_eq_true]
  exact ⟨fun h k hk => of_decide_eq_true (h k (List.mem_range.mpr hk)), fun h k hk => decide_eq_true (h k (List.mem_range.mp hk))⟩
theorem isBack_iff {ns : List Int} {i : Nat} : isBack ns i = true ↔ ∀ k, i < k → k < ns.length → ns.getD k 0 < ns.getD i 0 := by
  unfold isBack
  rw [List.all_eq_true]
  constructor
  · intro h k h1 h2
    have := of_decide_eq_true (h (k - (i + 1)) (List.mem_range.mpr (by omega)))
    rwa [show i + 1 + (k - (i + 1)) = k by omega] at this
  · intro h k hk
    have := List.mem_range.mp hk
    exact decide_eq_true (h _ (by omega) (by omega))
def seenTo (ns : List Int) (i : Nat) : List Nat := (List.range i).filter (isSeen ns)
theorem seenTo_len (ns : List Int) : seenTo ns ns.length = seen ns := rfl
theorem seenTo_succ (ns : List Int) (i : Nat) : seenTo ns (i + 1) = seenTo ns i ++ (if isSeen ns i then [i] else []) := by
  unfold seenTo
  rw [List.range_succ, List.filter_append]
  congr 1
  by_cases h : isSeen ns i = true
  · simp [h]
  · simp [h]
/-- the last one seen is the greatest so far -/
theorem seenTo_last (ns : List Int) : ∀ i, 0 < i → ∃ j, (seenTo ns i).getLast? = some j ∧ j < i ∧ ∀ k < i, ns.getD k 0 ≤ ns.getD j 0
  | 0, h => absurd h (by omega)
  | i + 1, _ => by
    rw [seenTo_succ]
    by_cases h : isSeen ns i = true
    · rw [if_pos h]
      refine ⟨i, by simp, by omega, fun k hk => ?_⟩
      by_cases e : k = i
      · rw [e]; exact Int.le_refl _
      · exact Int.le_of_lt (isSeen_iff.mp h k (by omega))
    · rw [if_neg h, List.append_nil]
      have hi : 0 < i := by
        apply Nat.pos_of_ne_zero
        intro e
        subst e
        exact h (isSeen_iff.mpr fun k hk => absurd hk (by omega))
      obtain ⟨j, h1, h2, h3⟩ := seenTo_last ns i hi
      refine ⟨j, h1, by omega, fun k hk => ?_⟩
      by_cases e : k = i
      · subst e
        refine Int.not_lt.mp fun q => h (isSeen_iff.mpr fun k' hk' => ?_)
        have := h3 k' hk'
        omega
      · exact h3 k (by omega)
theorem isSeen_last {ns : List Int} {i j : Nat} (hi : 0 < i) (h : (seenTo ns i).getLast? = some j) : isSeen ns i = decide (ns.getD j 0 < ns.getD i 0) := by
  obtain ⟨j', h1, h2, h3⟩ := seenTo_last ns i hi
  rw [h] at h1
  cases h1
  rw [Bool.eq_iff_iff, isSeen_iff, decide_eq_true_eq]
  exact ⟨fun q => q j h2, fun q k hk => by have := h3 k hk; omega⟩
theorem seenTo_nil {ns : List Int} {i : Nat} (h : seenTo ns i = []) : i = 0 := by
  apply Nat.eq_zero_of_not_pos
  intro hi
  obtain ⟨j, h1, _⟩ := seenTo_last ns i hi
  rw [h] at h1
  cases h1
theorem seenTo_ne {ns : List Int} {i : Nat} (h : 0 < i) : seenTo ns i ≠ [] := fun e => by have := seenTo_nil e; omega
theorem isSeen_zero (ns : List Int) : isSeen ns 0 = true := rfl
theorem seen_lt {ns : List Int} {i : Nat} (h : i ∈ seen ns) : i < ns.length := List.mem_range.mp (List.mem_filter.mp h).1
theorem getD_reverse {ns : List Int} {k : Nat} (h : k < ns.length) : ns.reverse.getD k 0 = ns.getD (ns.length - 1 - k) 0 := by
  rw [List.getD_eq_getElem?_getD, List.getD_eq_getElem?_getD, List.getElem?_reverse h]
theorem isSeen_reverse {ns : List Int} {i : Nat} (h : i < ns.length) : isSeen ns.reverse i = isBack ns (ns.length - 1 - i) := by
  rw [Bool.eq_iff_iff, isSeen_iff, isBack_iff]
  constructor
  · intro q k h1 h2
    have := q (ns.length - 1 - k) (by omega)
    rw [getD_reverse h, getD_reverse (by omega)] at this
    rwa [show ns.length - 1 - (ns.length - 1 - k) = k by omega] at this
  · intro q k hk
    rw [getD_reverse h, getD_reverse (by omega)]
    exact q _ (by omega) (by omega)
theorem range_rev (n : Nat) : ((List.range n).map fun i => n - 1 - i) = (List.range n).reverse := by
  apply List.ext_getElem?
  intro i
  by_cases h : i < n
  · rw [List.getElem?_map, List.getElem?_range h, List.getElem?_reverse (by simpa using h), List.length_range, List.getElem?_range (by omega)]
    rfl
  · rw [List.getElem?_eq_none (by simpa using h), List.getElem?_eq_none (by simpa using h)]
/-- back, turned, is what is seen of the row turned -/
theorem backs_rev (ns : List Int) : (seen ns.reverse).map (fun i => ns.length - 1 - i) = (backs ns).reverse := by
  unfold seen backs
  rw [← List.filter_reverse, ← range_rev, List.length_reverse, List.filter_map]
  congr 1
  apply List.filter_congr
  intro x hx
  exact isSeen_reverse (List.mem_range.mp hx)
theorem backI_perm (ns : List Int) : ((seen ns.reverse).map fun (i : Nat) => (ns.length : Int) - 1 - (i : Int)).Perm (backI ns) := by
  have e : ((seen ns.reverse).map fun (i : Nat) => (ns.length : Int) - 1 - (i : Int)) = ((backs ns).reverse).map fun (i : Nat) => (i : Int) := by
    rw [← backs_rev, List.map_map]
    apply List.map_congr_left
    intro i hi
    have := seen_lt hi
    rw [List.length_reverse] at this
    show (ns.length : Int) - 1 - (i : Int) = ((ns.length - 1 - i : Nat) : Int)
    omega
  rw [e]
  unfold backI
  exact (List.reverse_perm _).map _
theorem backI_sorted (ns : List Int) : (backI ns).Pairwise (· ≤ ·) := by
  unfold backI backs
  rw [List.pairwise_map]
  exact (List.pairwise_lt_range.filter _).imp fun h => by omega

/-! the draws of the laws -/
def cell (ns : List Int) (k : Int) : Int := if k < ns.length then ns.getD k.toNat 0 else 0
def stir1 (ns : List Int) (k : Int) : Int := (cell ns (k % 61) + 7919 * k + 104729) * 48271 % 2147483647
def draw (ns : List Int) (k : Int) : Int := (stir1 ns k * stir1 ns k % 2147483647) * 16807 % 2147483647 / 8
theorem draw_nn (ns : List Int) (k : Int) : 0 ≤ draw ns k := by unfold draw; omega
theorem draw_lt (ns : List Int) (k : Int) : draw ns k < 268435456 := by unfold draw; omega
/-- a row drawn: what is left, what is told -/
def ordSt (ns : List Int) (start : Int) (many : Nat) : Nat → List Int × List Int
  | 0 => (upTo many, [])
  | i + 1 =>
    let s := ordSt ns start many i
    let j := (draw ns (start + i) % (s.1.length : Int)).toNat
    (s.1.eraseIdx j, s.2 ++ [s.1.getD j 0])
/-- one height moved -/
def mv (xs : List Int) (a b : Nat) : List Int := (xs.eraseIdx a).take b ++ [xs.getD a 0] ++ (xs.eraseIdx a).drop b
def order (ns : List Int) (start : Int) (many : Nat) : List Int :=
  if draw ns 59 % 6 = 5 then
    mv (mv (upTo many) (draw ns start % many).toNat (draw ns (start + 2) % many).toNat) (draw ns (start + 1) % many).toNat (draw ns (start + 2 + 1) % many).toNat
  else (ordSt ns start many many).2
theorem erase_perm {xs : List Int} {j : Nat} (h : j < xs.length) : (xs.getD j 0 :: xs.eraseIdx j).Perm xs := by
  induction xs generalizing j with
  | nil => simp at h
  | cons a t ih =>
    cases j with
    | zero => simp
    | succ j =>
      rw [List.eraseIdx_cons_succ]
      have hj : j < t.length := by simpa using h
      have := ih hj
      have e : (a :: t).getD (j + 1) 0 = t.getD j 0 := by simp [List.getD_eq_getElem?_getD]
      rw [e]
      exact (List.Perm.swap a _ _).trans (this.cons a)
theorem mv_perm {xs : List Int} {a b : Nat} (h : a < xs.length) : (mv xs a b).Perm xs := by
  unfold mv
  have h1 : ((xs.eraseIdx a).take b ++ [xs.getD a 0] ++ (xs.eraseIdx a).drop b).Perm (xs.getD a 0 :: ((xs.eraseIdx a).take b ++ (xs.eraseIdx a).drop b)) := by
    rw [List.append_assoc]
    exact List.perm_middle
  rw [List.take_append_drop] at h1
  exact h1.trans (erase_perm h)
theorem mv_len {xs : List Int} {a b : Nat} (h : a < xs.length) : (mv xs a b).length = xs.length := (mv_perm h).length_eq
theorem ordSt_ok (ns : List Int) (start : Int) (many : Nat) : ∀ i, i ≤ many → (ordSt ns start many i).1.length = many - i ∧ (ordSt ns start many i).2.length = i ∧ ((ordSt ns start many i).1 ++ (ordSt ns start many i).2).Perm (upTo many)
  | 0, _ => ⟨by simp [ordSt, upTo_len], rfl, by simp [ordSt]⟩
  | i + 1, h => by
    obtain ⟨h1, h2, h3⟩ := ordSt_ok ns start many i (by omega)
    have hp : (0 : Int) < ((ordSt ns start many i).1.length : Int) := by omega
    have hj : (draw ns (start + i) % ((ordSt ns start many i).1.length : Int)).toNat < (ordSt ns start many i).1.length := by
      have a := Int.emod_nonneg (draw ns (start + i)) (Int.ne_of_gt hp)
      have b := Int.emod_lt_of_pos (draw ns (start + i)) hp
      omega
    show ((ordSt ns start many i).1.eraseIdx _).length = many - (i + 1) ∧ ((ordSt ns start many i).2 ++ [_]).length = i + 1 ∧ ((ordSt ns start many i).1.eraseIdx _ ++ ((ordSt ns start many i).2 ++ [_])).Perm (upTo many)
    refine ⟨?_, by simp [h2], ?_⟩
    · rw [List.length_eraseIdx_of_lt hj, h1]; omega
    · refine List.Perm.trans ?_ h3
      rw [← List.append_assoc]
      refine (List.perm_append_comm).trans ?_
      show ((ordSt ns start many i).1.getD _ 0 :: ((ordSt ns start many i).1.eraseIdx _ ++ (ordSt ns start many i).2)).Perm _
      rw [← List.cons_append]
      exact (erase_perm hj).append_right _
theorem order_perm (ns : List Int) (start : Int) (many : Nat) (hm : 1 ≤ many) : (order ns start many).Perm (upTo many) := by
  unfold order
  have hp : (0 : Int) < (many : Int) := by omega
  have lt : ∀ x : Int, (x % (many : Int)).toNat < many := fun x => by
    have a := Int.emod_nonneg x (Int.ne_of_gt hp)
    have b := Int.emod_lt_of_pos x hp
    omega
  split
  · refine (mv_perm ?_).trans (mv_perm ?_)
    · rw [mv_len (by rw [upTo_len]; exact lt _), upTo_len]; exact lt _
    · rw [upTo_len]; exact lt _
  · obtain ⟨h1, h2, h3⟩ := ordSt_ok ns start many many (Nat.le_refl _)
    have e : (ordSt ns start many many).1 = [] := List.eq_nil_of_length_eq_zero (by omega)
    rw [e, List.nil_append] at h3
    exact h3
theorem order_len (ns : List Int) (start : Int) (many : Nat) (hm : 1 ≤ many) : (order ns start many).length = many := by
  rw [(order_perm ns start many hm).length_eq, upTo_len]
theorem order_nodup (ns : List Int) (start : Int) (many : Nat) (hm : 1 ≤ many) : (order ns start many).Nodup := (order_perm ns start many hm).nodup_iff.mpr (upTo_nodup many)
theorem notFalse {n : Nat} (f : Nat → Bool) : (!decide (false ∈ (List.range n).map f)) = (List.range n).all f := by
  rw [Bool.eq_iff_iff, List.all_eq_true, Bool.not_eq_true', decide_eq_false_iff_not]
  constructor
  · intro h x hx
    cases e : f x with
    | true => rfl
    | false => exact absurd (List.mem_map.mpr ⟨x, hx, e⟩) h
  · intro h hm
    obtain ⟨x, hx, e⟩ := List.mem_map.mp hm
    rw [h x hx] at e
    cases e
theorem notFalseL {α : Type} (xs : List α) (f : α → Bool) : (!decide (false ∈ xs.map f)) = xs.all f := by
  rw [Bool.eq_iff_iff, List.all_eq_true, Bool.not_eq_true', decide_eq_false_iff_not]
  constructor
  · intro h x hx
    cases e : f x with
    | true => rfl
    | false => exact absurd (List.mem_map.mpr ⟨x, hx, e⟩) h
  · intro h hm
    obtain ⟨x, hx, e⟩ := List.mem_map.mp hm
    rw [h x hx] at e
    cases e
def backTo (ns : List Int) (i : Nat) : List Nat := (List.range i).filter (isBack ns)
theorem backTo_succ (ns : List Int) (i : Nat) : backTo ns (i + 1) = backTo ns i ++ (if isBack ns i then [i] else []) := by
  unfold backTo
  rw [List.range_succ, List.filter_append]
  congr 1
  by_cases h : isBack ns i = true
  · simp [h]
  · simp [h]
theorem erase_map {α β : Type} (f : α → β) : ∀ (xs : List α) (i : Nat), (xs.map f).eraseIdx i = (xs.eraseIdx i).map f
  | [], _ => by simp
  | a :: t, 0 => by simp
  | a :: t, i + 1 => by simp [erase_map f t i]
theorem affine_nodup {ns : List Int} (h : ns.Nodup) (a b : Int) (ha : 0 < a) : (ns.map fun x => x * a - b).Nodup := by
  unfold List.Nodup at *
  rw [List.pairwise_map]
  refine h.imp fun {x y} hxy e => hxy ?_
  have : x * a = y * a := by omega
  exact Int.eq_of_mul_eq_mul_right (by omega) this
end Rs

namespace Rs
open PySem PySem.Spec PyProof.Rows L2
section
variable {K : PySem.W.Frag} {vs : List V} {H : Hp} {Q : VK} {E : XK} {C : Addr} {n : Nat}
theorem SpF.len {R : List PyData → PyData → Prop} (h : SpF K R vs H Q E) (hR : ∀ ds r, R ds r → ds.length = n) : vs.length = n := by
  obtain ⟨B, ds, r, _, hd, hr, _⟩ := h
  rw [hd.length, hR ds r hr]
theorem SpN.len {R : List PyData → List PyData → Prop} (h : SpN K R vs H Q E) (hR : ∀ ds r, R ds r → ds.length = n) : vs.length = n := by
  obtain ⟨B, ds, r, _, hd, hr, _⟩ := h
  rw [hd.length, hR ds r hr]
theorem SpX.len {R : List PyData → PyData → Prop} {Bad : List PyData → Prop} (h : SpX K R Bad C vs H Q E) (hR : ∀ ds r, R ds r → ds.length = n) (hB : ∀ ds, Bad ds → ds.length = n) : vs.length = n := by
  obtain ⟨B, ds, _, hd, hr⟩ := h
  rw [hd.length]
  rcases hr with ⟨r, hr, _⟩ | ⟨hr, _⟩
  · exact hR ds r hr
  · exact hB ds hr
theorem SpXN.len {R : List PyData → List PyData → Prop} {Bad : List PyData → Prop} (h : SpXN K R Bad C vs H Q E) (hR : ∀ ds r, R ds r → ds.length = n) (hB : ∀ ds, Bad ds → ds.length = n) : vs.length = n := by
  obtain ⟨B, ds, _, hd, hr⟩ := h
  rw [hd.length]
  rcases hr with ⟨r, hr, _⟩ | ⟨hr, _⟩
  · exact hR ds r hr
  · exact hB ds hr
end
/-! ### rowsight.rows -/
def sp_see_row (K : PySem.W.Frag) (C : Addr) : Sp := SpX K (fun ds r => ∃ ns, ds = [dL ns] ∧ GoodRow ns ∧ r = .none) (fun ds => ∃ ns, ds = [dL ns] ∧ ¬ GoodRow ns) C
def sp_seen_from_front (K : PySem.W.Frag) : Sp := SpN K fun ds rs => ∃ ns, ds = [dL ns] ∧ ns.length ≤ 4000 ∧ rs = (seenI ns).map PyData.int
def sp_front (K : PySem.W.Frag) (C : Addr) : Sp := SpXN K (fun ds rs => ∃ ns, ds = [dL ns] ∧ GoodRow ns ∧ rs = (seenI ns).map PyData.int) (fun ds => ∃ ns, ds = [dL ns] ∧ ¬ GoodRow ns) C
def sp_back (K : PySem.W.Frag) (C : Addr) : Sp := SpXN K (fun ds rs => ∃ ns, ds = [dL ns] ∧ GoodRow ns ∧ rs = (backI ns).map PyData.int) (fun ds => ∃ ns, ds = [dL ns] ∧ ¬ GoodRow ns) C
def dSight (ns : List Int) : PyData := .tuple [.int ((seen ns).length : Nat), .int ((backs ns).length : Nat)]
def sp_sight (K : PySem.W.Frag) (C : Addr) : Sp := SpX K (fun ds r => ∃ ns, ds = [dL ns] ∧ GoodRow ns ∧ r = dSight ns) (fun ds => ∃ ns, ds = [dL ns] ∧ ¬ GoodRow ns) C
/-! ### the laws' own -/
def sp__law_cell_at (K : PySem.W.Frag) : Sp := SpF K fun ds r => ∃ ns k, ds = [dS ns, .int k] ∧ 0 ≤ k ∧ r = .int (cell ns k)
def sp__law_draw (K : PySem.W.Frag) : Sp := SpF K fun ds r => ∃ ns k, ds = [dS ns, .int k] ∧ 0 ≤ k ∧ k ≤ 1000000 ∧ r = .int (draw ns k)
def sp__law_whole (K : PySem.W.Frag) : Sp := SpF K fun ds r => ∃ i, ds = [.int i] ∧ r = .bool true
def sp__law_order (K : PySem.W.Frag) : Sp := SpN K fun ds rs => ∃ ns start many, ds = [dS ns, .int start, .int ((many : Nat) : Int)] ∧ 0 ≤ start ∧ start ≤ 1000 ∧ 1 ≤ many ∧ many ≤ 60 ∧ rs = (order ns start many).map PyData.int
def sp__law_seen (K : PySem.W.Frag) : Sp := SpN K fun ds rs => ∃ ns, ds = [dL ns] ∧ ns.length ≤ 4000 ∧ rs = (seenI ns).map PyData.int
def sp__law_back (K : PySem.W.Frag) : Sp := SpN K fun ds rs => ∃ ns, ds = [dL ns] ∧ ns.length ≤ 4000 ∧ rs = (backI ns).map PyData.int
def sp__law_sight (K : PySem.W.Frag) : Sp := SpF K fun ds r => ∃ ns, ds = [dL ns] ∧ ns.length ≤ 4000 ∧ r = dSight ns
def sp__law_numbers (K : PySem.W.Frag) : Sp := SpF K fun ds r => ∃ a b, ds = [dL a, dL b] ∧ a.length ≤ 4000 ∧ r = .bool (decide (a = b))
/-- the law itself: True -/
def sp_law (K : PySem.W.Frag) : Sp := SpF K fun ds r => ∃ ns, ds = [dS ns] ∧ ns.length ≤ 63 ∧ r = .bool true
section
variable {K : PySem.W.Frag} {vs : List V} {H : Hp} {Q : VK} {E : XK} {C : Addr}
theorem len_see_row (h : sp_see_row K C vs H Q E) : vs.length = 1 := SpX.len h (fun _ _ ⟨_, e, _⟩ => by rw [e]; rfl) (fun _ ⟨_, e, _⟩ => by rw [e]; rfl)
theorem len_seen_from_front (h : sp_seen_from_front K vs H Q E) : vs.length = 1 := SpN.len h (fun _ _ ⟨_, e, _⟩ => by rw [e]; rfl)
theorem len_front (h : sp_front K C vs H Q E) : vs.length = 1 := SpXN.len h (fun _ _ ⟨_, e, _⟩ => by rw [e]; rfl) (fun _ ⟨_, e, _⟩ => by rw [e]; rfl)
theorem len_back (h : sp_back K C vs H Q E) : vs.length = 1 := SpXN.len h (fun _ _ ⟨_, e, _⟩ => by rw [e]; rfl) (fun _ ⟨_, e, _⟩ => by rw [e]; rfl)
theorem len_sight (h : sp_sight K C vs H Q E) : vs.length = 1 := SpX.len h (fun _ _ ⟨_, e, _⟩ => by rw [e]; rfl) (fun _ ⟨_, e, _⟩ => by rw [e]; rfl)
theorem len__law_cell_at (h : sp__law_cell_at K vs H Q E) : vs.length = 2 := SpF.len h (fun _ _ ⟨_, _, e, _⟩ => by rw [e]; rfl)
theorem len__law_draw (h : sp__law_draw K vs H Q E) : vs.length = 2 := SpF.len h (fun _ _ ⟨_, _, e, _⟩ => by rw [e]; rfl)
theorem len__law_whole (h : sp__law_whole K vs H Q E) : vs.length = 1 := SpF.len h (fun _ _ ⟨_, e, _⟩ => by rw [e]; rfl)
theorem len__law_order (h : sp__law_order K vs H Q E) : vs.length = 3 := SpN.len h (fun _ _ ⟨_, _, _, e, _⟩ => by rw [e]; rfl)
theorem len__law_seen (h : sp__law_seen K vs H Q E) : vs.length = 1 := SpN.len h (fun _ _ ⟨_, e, _⟩ => by rw [e]; rfl)
theorem len__law_back (h : sp__law_back K vs H Q E) : vs.length = 1 := SpN.len h (fun _ _ ⟨_, e, _⟩ => by rw [e]; rfl)
theorem len__law_sight (h : sp__law_sight K vs H Q E) : vs.length = 1 := SpF.len h (fun _ _ ⟨_, e, _⟩ => by rw [e]; rfl)
theorem len__law_numbers (h : sp__law_numbers K vs H Q E) : vs.length = 2 := SpF.len h (fun _ _ ⟨_, _, e, _⟩ => by rw [e]; rfl)
theorem len_law (h : sp_law K vs H Q E) : vs.length = 1 := SpF.len h (fun _ _ ⟨_, e, _⟩ => by rw [e]; rfl)
end
end Rs

namespace Rs
open PySem PySem.Spec PyProof.Rows L2
local macro_rules
  | `(tactic| walk_at "lift0") => `(tactic| first
    | assumption
    | exact Rs.Dt.int _
    | exact Rs.Dt.bl _)
local macro_rules
  | `(tactic| walk_at "lift1") => `(tactic| first
    | assumption
    | exact Rs.Dt.int _
    | exact Rs.Dt.bl _
    | (refine Rs.Dt.up ?_ (by assumption : Rs.Ex _ _); walk_at "lift0")
    | (refine Rs.Dt.up ?_ (Rs.Step.bb (by assumption : Rs.Step _ _ _ _)); walk_at "lift0"))
local macro_rules
  | `(tactic| walk_at "lift2") => `(tactic| first
    | assumption
    | exact Rs.Dt.int _
    | exact Rs.Dt.bl _
    | (refine Rs.Dt.up ?_ (by assumption : Rs.Ex _ _); walk_at "lift1")
    | (refine Rs.Dt.up ?_ (Rs.Step.bb (by assumption : Rs.Step _ _ _ _)); walk_at "lift1"))
local macro_rules
  | `(tactic| walk_at "lift3") => `(tactic| first
    | assumption
    | exact Rs.Dt.int _
    | exact Rs.Dt.bl _
    | (refine Rs.Dt.up ?_ (by assumption : Rs.Ex _ _); walk_at "lift2")
    | (refine Rs.Dt.up ?_ (Rs.Step.bb (by assumption : Rs.Step _ _ _ _)); walk_at "lift2"))
local macro_rules
  | `(tactic| walk_at "lift4") => `(tactic| first
    | assumption
    | exact Rs.Dt.int _
    | exact Rs.Dt.bl _
    | (refine Rs.Dt.up ?_ (by assumption : Rs.Ex _ _); walk_at "lift3")
    | (refine Rs.Dt.up ?_ (Rs.Step.bb (by assumption : Rs.Step _ _ _ _)); walk_at "lift3"))
local macro_rules
  | `(tactic| walk_at "lift5") => `(tactic| first
    | assumption
    | exact Rs.Dt.int _
    | exact Rs.Dt.bl _
    | (refine Rs.Dt.up ?_ (by assumption : Rs.Ex _ _); walk_at "lift4")
    | (refine Rs.Dt.up ?_ (Rs.Step.bb (by assumption : Rs.Step _ _ _ _)); walk_at "lift4"))
local macro_rules
  | `(tactic| walk_at "lift6") => `(tactic| first
    | assumption
    | exact Rs.Dt.int _
    | exact Rs.Dt.bl _
    | (refine Rs.Dt.up ?_ (by assumption : Rs.Ex _ _); walk_at "lift5")
    | (refine Rs.Dt.up ?_ (Rs.Step.bb (by assumption : Rs.Step _ _ _ _)); walk_at "lift5"))
local macro_rules
  | `(tactic| walk_at "lift7") => `(tactic| first
    | assumption
    | exact Rs.Dt.int _
    | exact Rs.Dt.bl _
    | (refine Rs.Dt.up ?_ (by assumption : Rs.Ex _ _); walk_at "lift6")
    | (refine Rs.Dt.up ?_ (Rs.Step.bb (by assumption : Rs.Step _ _ _ _)); walk_at "lift6"))
local macro_rules
  | `(tactic| walk_at "lift8") => `(tactic| first
    | assumption
    | exact Rs.Dt.int _
    | exact Rs.Dt.bl _
    | (refine Rs.Dt.up ?_ (by assumption : Rs.Ex _ _); walk_at "lift7")
    | (refine Rs.Dt.up ?_ (Rs.Step.bb (by assumption : Rs.Step _ _ _ _)); walk_at "lift7"))
local macro_rules
  | `(tactic| walk_at "lift9") => `(tactic| first
    | assumption
    | exact Rs.Dt.int _
    | exact Rs.Dt.bl _
    | (refine Rs.Dt.up ?_ (by assumption : Rs.Ex _ _); walk_at "lift8")
    | (refine Rs.Dt.up ?_ (Rs.Step.bb (by assumption : Rs.Step _ _ _ _)); walk_at "lift8"))
local macro_rules
  | `(tactic| walk_at "lift10") => `(tactic| first
    | assumption
    | exact Rs.Dt.int _
    | exact Rs.Dt.bl _
    | (refine Rs.Dt.up ?_ (by assumption : Rs.Ex _ _); walk_at "lift9")
    | (refine Rs.Dt.up ?_ (Rs.Step.bb (by assumption : Rs.Step _ _ _ _)); walk_at "lift9"))
local macro_rules
  | `(tactic| walk_at "lift11") => `(tactic| first
    | assumption
    | exact Rs.Dt.int _
    | exact Rs.Dt.bl _
    | (refine Rs.Dt.up ?_ (by assumption : Rs.Ex _ _); walk_at "lift10")
    | (refine Rs.Dt.up ?_ (Rs.Step.bb (by assumption : Rs.Step _ _ _ _)); walk_at "lift10"))
local macro_rules
  | `(tactic| walk_at "lift") => `(tactic| first
    | assumption
    | exact Rs.Dt.int _
    | exact Rs.Dt.bl _
    | (refine Rs.Dt.up ?_ (by assumption : Rs.Ex _ _); walk_at "lift11")
    | (refine Rs.Dt.up ?_ (Rs.Step.bb (by assumption : Rs.Step _ _ _ _)); walk_at "lift11"))
local macro_rules
  | `(tactic| walk_at "evA") => `(tactic| first
    | exact Rs.ea_nil
    | (refine Rs.ea_cons ?_ ?_
       · walk_at "ev"
       · walk_at "evA"))
local macro_rules
  | `(tactic| walk_at "ev") => `(tactic| first
    | assumption
    | exact Rs.ev_int
    | exact Rs.ev_bl
    | exact Rs.ev_non
    | (refine Rs.ev_var rfl ?_; walk_at "lift")
    | (refine Rs.ev_add ?_ ?_ <;> walk_at "ev")
    | (refine Rs.ev_sub ?_ ?_ <;> walk_at "ev")
    | (refine Rs.ev_lt ?_ ?_ <;> walk_at "ev")
    | (refine Rs.ev_le ?_ ?_ <;> walk_at "ev")
    | (refine Rs.ev_gt ?_ ?_ <;> walk_at "ev")
    | (refine Rs.ev_ge ?_ ?_ <;> walk_at "ev")
    | (refine Rs.ev_neg ?_; walk_at "ev")
    | (refine Rs.ev_len ?_; walk_at "ev")
    | (refine Rs.ev_lenT ?_; walk_at "ev")
    | (refine Rs.ev_lenS ?_; walk_at "ev")
    | (refine Rs.ev_mul ?_ ?_ ?_
       · walk_at "ev"
       · walk_at "ev"
       · walk_at "side")
    | (refine Rs.ev_mod ?_ ?_ ?_
       · walk_at "ev"
       · walk_at "ev"
       · walk_at "side")
    | (refine Rs.ev_fdiv ?_ ?_ ?_
       · walk_at "ev"
       · walk_at "ev"
       · walk_at "side")
    | (refine Rs.ev_eqI ?_ ?_ <;> walk_at "ev")
    | (refine Rs.ev_neI ?_ ?_ <;> walk_at "ev")
    | (refine Rs.ev_eqL ?_ ?_ <;> walk_at "ev")
    | (refine Rs.ev_neL ?_ ?_ <;> walk_at "ev")
    | (refine Rs.ev_chLeLe ?_ ?_ ?_ <;> walk_at "ev")
    | (refine Rs.ev_chLeLt ?_ ?_ ?_ <;> walk_at "ev")
    | (refine Rs.ev_notV ?_; walk_at "ev")
    | (refine Rs.ev_tup ?_; walk_at "evA")
    | (refine Rs.EvN.toD ?_; walk_at "evN"))
local macro_rules
  | `(tactic| walk_at "evN") => `(tactic| first
    | assumption
    | (refine Rs.ev_lst ?_; walk_at "evA")
    | (refine Rs.ev_list ?_; walk_at "ev")
    | (refine Rs.ev_listT ?_; walk_at "ev")
    | (refine Rs.ev_rev ?_; walk_at "ev"))
local macro_rules
  | `(tactic| walk_at "side") => `(tactic| first
    | assumption
    | omega
    | decide
    | rfl
    | (simp; done)
    | (simp; omega))
def topS (i : Nat) : Stmt := PySem.Challenge.pw_rowsight_k01_who_is_seen.main.body.getD i (.Pass ⟨0, 0, 0, 0⟩)
abbrev s_see_row : Stmt := topS 4
theorem sc_see_row : FnScope ["row"] ["row"] (defScope s_see_row) := ⟨rfl, rfl, rfl, by decide +kernel, rfl, by decide +kernel, by decide +kernel⟩
section
variable {P : Program} {w : World} {K : PySem.W.Frag} {mg : Str → Option Value} {base : Heap}
theorem ok_see_row {f : Addr} {fd : FuncData} (F : Fun K "see_row" "see_row" s_see_row f fd) (T : Glo mg) {C_BadRow : Addr} (c_BadRow : ECls K mg "BadRow" C_BadRow) : FnOk P w K mg base (L2.CX P w) 1 f fd ["row"] (sp_see_row K C_BadRow) := by
  refine F.okX sc_see_row (fun vs H Q E h => len_see_row h) (fun cdv A outer s H vs Q E hr h => ?_)
  obtain ⟨B, ds, eB, hd, hc⟩ := h
  obtain ⟨ns, rfl⟩ : ∃ ns, ds = [dL ns] := by
    rcases hc with ⟨r, ⟨ns, e, _⟩, _⟩ | ⟨⟨ns, e, _⟩, _⟩
    · exact ⟨ns, e⟩
    · exact ⟨ns, e⟩
  obtain ⟨v, rfl, dv⟩ := hd.one_eq
  refine ⟨_, (pss_one (ps_if (PW.pt (pw_or (pt_not (pt_chain op_le op_le pe_int (pe_callB (ckLen (K := K)) (by rfl) T.len PySem.boot_len (pa_cons (pv 0) pa_nil)) pe_int)) (pw_or1 (pt_cmpR (oNe (K := K) hr.units) (peLenSet (K := K) rfl T.len rfl T.set (pv 0)) (pe_callB (ckLen (K := K)) (by rfl) T.len PySem.boot_len (pa_cons (pv 0) pa_nil)) (nomark _))))) (pss_one (ps_raise rfl (takes_of rfl rfl rfl rfl) c_BadRow.pmk)) pss_nil)), ?_⟩
  have h0 := Amb.refl eB
  refine s_when (b := !decide (GoodRow ns)) h0 ?_ (fun hb H' e s => ?_) (fun hb H' e s => ?_)
  · refine EvT.is (et_or (b := !(decide ((1 : Int) ≤ (ns.length : Nat)) && decide (((ns.length : Nat) : Int) ≤ 30))) (b' := !decide (nset ns = ns.length)) (et_not (et_test (K := K) ?_)) fun h1 => et_test (K := K) ?_) ?_
    · refine EvF.is (ev_chLeLe ev_int (ev_len (by walk_at "ev")) ev_int) ?_
      rw [List.length_map]
    · have hl : ns.length ≤ 30 := by
        simp only [Bool.not_eq_false', Bool.and_eq_true, decide_eq_true_eq] at h1
        omega
      refine EvF.is (ev_neI (ev_lenSet (by walk_at "ev") (by omega)) (ev_len (by walk_at "ev"))) ?_
      rw [List.length_map]
      congr 2
      exact decide_eq_decide.mpr (by omega)
    · rw [Bool.eq_iff_iff]
      simp only [Bool.or_eq_true, Bool.not_eq_true', Bool.and_eq_false_iff, decide_eq_false_iff_not]
      unfold GoodRow
      rw [← nset_iff]
      omega
  · have hb' : ¬ GoodRow ns := by simpa using hb
    rcases hc with ⟨r, ⟨ns', e1, g, _⟩, _⟩ | ⟨_, k⟩
    · obtain rfl : ns = ns' := map_int_inj (by simpa using e1)
      exact absurd g hb'
    · exact k H' e
  · have hb' : GoodRow ns := by simpa using hb
    rcases hc with ⟨r, ⟨ns', e1, g, rfl⟩, k⟩ | ⟨⟨ns', e1, g⟩, _⟩
    · exact k .non B H' s.st .non
    · obtain rfl : ns = ns' := map_int_inj (by simpa using e1)
      exact absurd hb' g
end

abbrev s_seen_from_front : Stmt := topS 5
theorem sc_seen_from_front : FnScope ["row", "found", "place"] ["row"] (defScope s_seen_from_front) := ⟨rfl, rfl, rfl, by decide +kernel, rfl, by decide +kernel, by decide +kernel⟩
section
variable {P : Program} {w : World} {K : PySem.W.Frag} {mg : Str → Option Value} {base : Heap}
theorem ok_seen_from_front {f : Addr} {fd : FuncData} (F : Fun K "seen_from_front" "seen_from_front" s_seen_from_front f fd) (T : Glo mg) : FnOk P w K mg base (L2.CX P w) 1 f fd ["row"] (sp_seen_from_front K) := by
  refine F.okX sc_seen_from_front (fun vs H Q E h => len_seen_from_front h) (fun cdv A outer s H vs Q E hr h => ?_)
  obtain ⟨B, ds, rs, eB, hd, ⟨ns, rfl, hl, rfl⟩, k⟩ := h
  obtain ⟨v, rfl, dv⟩ := hd.one_eq
  refine ⟨_, (pss_cons (ps_set (i := 1) sc_seen_from_front.nd rfl (Or.inl rfl) (pe_lst pa_nil))
      (pss_cons (ps_for (passes_of rfl) rfl (pi_range1 rfl T.range (pa_cons (pe_callB (ckLen (K := K)) (by rfl) T.len PySem.boot_len (pa_cons (pv 0) pa_nil)) pa_nil)) (pg_name (i := 2) sc_seen_from_front.nd rfl (Or.inl rfl)) (pss_one (ps_if (PW.pt (pw_or (pt_cmpR (oEq (K := K) hr.units) (pv 1) (pe_lst pa_nil) (nomark _)) (pw_or1 (pt_cmpR op_gt (pe_ix (ixl (K := K)) (pv 0) (pv 2) (fun _ _ => rfl)) (pe_ix (ixl (K := K)) (pv 0) (pe_ix (ixl (K := K)) (pv 1) (pe_un un_neg pe_int) (fun _ _ => rfl)) (fun _ _ => rfl)) (nomark _))))) (pss_one (ps_expr (peBm (K := K) PySem.F.plainAttrs_list PySem.F.slot_list_append PySem.F.type_list_append mt_append (pv 1) (pa_cons (pv 2) pa_nil)))) pss_nil)))
      (pss_one (ps_ret (pv 1))))), ?_⟩
  have h0 := Amb.refl eB
  refine q_asgN (K := K) h0 (ev_lst ea_nil) fun p vs B1 H1 s1 i1 hp hp0 hb1 h1 hv => ?_
  cases hv
  refine q_forR1 (K := K) (R := fun i σ' B' H' => ∃ y, σ' = [some v, some (.ref p), y] ∧ Own H B' H' p (((seenTo ns i).map fun (j : Nat) => (j : Int)).map V.int)) s1 (n := (ns.length : Nat)) (ea_cons (EvF.is (ev_len (by walk_at "ev")) (by rw [List.length_map])) ea_nil) (by omega)
    (fun B2 H2 s2 i2 => ⟨none, rfl, (⟨hp0, hb1, h1⟩ : Own H B1 H1 p []).step i2⟩) (fun i σ' B2 H2 hi s2 e2 c => ?_) (fun σ' B2 H2 s2 e2 c => ?_)
  · obtain ⟨y, rfl, o⟩ := c
    have hl2 : (seenTo ns i).length ≤ i := by unfold seenTo; exact Nat.le_trans (List.length_filter_le _ _) (by rw [List.length_range]; exact Nat.le_refl _)
    have ok : Dt K (upd B2 p (.lst (((seenTo ns i).map fun (j : Nat) => (j : Int)).map V.int))) (.ref p) (dL ((seenTo ns i).map fun (j : Nat) => (j : Int))) := o.dt (.of_ints _)
    have s3 := o.keep s2
    have e3 : Ex B2 (upd B2 p (.lst (((seenTo ns i).map fun (j : Nat) => (j : Int)).map V.int))) := Ex.new o.hb
    refine s_when (b := isSeen ns i) s3 ?_ (fun hb H' e s => ?_) (fun hb H' e s => ?_)
    · refine EvT.is (et_or (b := (seenTo ns i).isEmpty) (b' := isSeen ns i) (et_test (K := K) ?_) fun h1 => et_test (K := K) ?_) ?_
      · refine EvF.is (ev_eqNil (EvF.is (ev_var rfl ok) rfl) (sh_dL _) (by decide) (EvN.toD (ev_lst ea_nil))) ?_
        simp
      · have hne : seenTo ns i ≠ [] := by intro z; rw [z] at h1; cases h1
        have hi0 : 0 < i := by
          apply Nat.pos_of_ne_zero
          rintro rfl
          exact hne rfl
        obtain ⟨j, hj1, hj2, hj3⟩ := seenTo_last ns i hi0
        refine EvF.is (ev_gt (j := ns.getD j 0) (i := ns.getD i 0) (ev_ix (by walk_at "ev") (ev_var rfl (.int _)) ?_) (ev_ix (by walk_at "ev") (ev_ix (i := -1) (d := .int (j : Int)) (ev_var rfl ok) (EvF.is (ev_neg ev_int) rfl) ?_) ?_)) ?_
        · rw [atI_nat (v := PyData.int (ns.getD i 0))]
          rw [List.getElem?_map, List.getElem?_eq_getElem (by omega)]
          simp [List.getD_eq_getElem?_getD, List.getElem?_eq_getElem (show i < ns.length by omega)]
        · obtain ⟨xs, hx⟩ := List.getLast?_eq_some_iff.mp hj1
          rw [hx, List.map_append, List.map_append]
          exact atI_last _ _
        · rw [atI_nat (v := PyData.int (ns.getD j 0))]
          rw [List.getElem?_map, List.getElem?_eq_getElem (by omega)]
          simp [List.getD_eq_getElem?_getD, List.getElem?_eq_getElem (show j < ns.length by omega)]
        · rw [isSeen_last hi0 hj1]
      · cases hz : (seenTo ns i).isEmpty with
        | true =>
          have : i = 0 := seenTo_nil (List.isEmpty_iff.mp hz)
          subst this
          rfl
        | false => rfl
    · refine s_app (K := K) (s2.trans (Step.heap s2.bh e)) (o.heap e) rfl (ev_var rfl (.int _)) (by rw [List.length_map, List.length_map]; omega) fun v' B3 H3 s4 i4 o4 dv' => ?_
      obtain rfl := dv'.int_eq
      refine ⟨B3, s4, e2.trans i4.bb, _, rfl, ?_⟩
      rw [seenTo_succ, if_pos hb, List.map_append, List.map_append]
      exact o4
    · refine ⟨B2, s2.trans (Step.heap s2.bh e), e2, _, rfl, ?_⟩
      rw [seenTo_succ, if_neg (by rw [hb]; decide), List.append_nil]
      exact o.heap e
  · obtain ⟨y, rfl, o⟩ := c
    refine s_retV rfl ?_
    exact k p _ B2 H2 s2.st hp0 o.hb o.hh (.of_ints _)
end

abbrev s_front : Stmt := topS 6
theorem sc_front : FnScope ["row"] ["row"] (defScope s_front) := ⟨rfl, rfl, rfl, by decide +kernel, rfl, by decide +kernel, by decide +kernel⟩
section
variable {P : Program} {w : World} {K : PySem.W.Frag} {mg : Str → Option Value} {base : Heap}
theorem ok_front {f : Addr} {fd : FuncData} (F : Fun K "front" "front" s_front f fd) (T : Glo mg) {C_BadRow : Addr} (c_BadRow : ECls K mg "BadRow" C_BadRow) (h_seen_from_front : Has P w K mg base 1 "seen_from_front" ["row"] (sp_seen_from_front K)) (h_see_row : Has P w K mg base 1 "see_row" ["row"] (sp_see_row K C_BadRow)) : FnOk P w K mg base (L2.CX P w) 2 f fd ["row"] (sp_front K C_BadRow) := by
  refine F.okX sc_front (fun vs H Q E h => len_front h) (fun cdv A outer s H vs Q E hr h => ?_)
  obtain ⟨B, ds, eB, hd, hc⟩ := h
  obtain ⟨ns, rfl⟩ : ∃ ns, ds = [dL ns] := by
    rcases hc with ⟨r, ⟨ns, e, _⟩, _⟩ | ⟨⟨ns, e, _⟩, _⟩
    · exact ⟨ns, e⟩
    · exact ⟨ns, e⟩
  obtain ⟨v, rfl, dv⟩ := hd.one_eq
  refine ⟨_, (pss_cons (ps_expr (pe_cE h_see_row (hr.mono (by decide)) (takes_of rfl rfl rfl rfl) (pa_cons (pv 0) pa_nil)))
      (pss_one (ps_ret (pe_c h_seen_from_front (hr.mono (by decide)) (pa_cons (pv 0) pa_nil))))), ?_⟩
  have h0 := Amb.refl eB
  rcases hc with ⟨r, ⟨ns', e1, g, rfl⟩, k⟩ | ⟨hb, k⟩
  · obtain rfl : ns = ns' := map_int_inj (by simpa using e1)
    refine q_drop (K := K) h0 (ev_callX (by walk_at "evA") ⟨ns, rfl, g, rfl⟩) fun B1 H1 s1 i1 => ?_
    refine s_retN (K := K) s1 (ev_callN (by walk_at "evA") ⟨ns, rfl, by have := g.2.1; omega, rfl⟩) fun p vs B2 H2 s2 hp hb2 hh hv => ?_
    exact k p vs B2 H2 s2 hp hb2 hh hv
  · exact q_bad (K := K) eB (by walk_at "evA") hb k
end

abbrev s_back : Stmt := topS 7
theorem sc_back : FnScope ["row", "found", "place"] ["row"] (defScope s_back) := ⟨rfl, rfl, rfl, by decide +kernel, rfl, by decide +kernel, by decide +kernel⟩
section
variable {P : Program} {w : World} {K : PySem.W.Frag} {mg : Str → Option Value} {base : Heap}
theorem ok_back {f : Addr} {fd : FuncData} (F : Fun K "back" "back" s_back f fd) (T : Glo mg) {C_BadRow : Addr} (c_BadRow : ECls K mg "BadRow" C_BadRow) (h_seen_from_front : Has P w K mg base 1 "seen_from_front" ["row"] (sp_seen_from_front K)) (h_see_row : Has P w K mg base 1 "see_row" ["row"] (sp_see_row K C_BadRow)) : FnOk P w K mg base (L2.CX P w) 2 f fd ["row"] (sp_back K C_BadRow) := by
  refine F.okX sc_back (fun vs H Q E h => len_back h) (fun cdv A outer s H vs Q E hr h => ?_)
  obtain ⟨B, ds, eB, hd, hc⟩ := h
  obtain ⟨ns, rfl⟩ : ∃ ns, ds = [dL ns] := by
    rcases hc with ⟨r, ⟨ns, e, _⟩, _⟩ | ⟨⟨ns, e, _⟩, _⟩
    · exact ⟨ns, e⟩
    · exact ⟨ns, e⟩
  obtain ⟨v, rfl, dv⟩ := hd.one_eq
  refine ⟨_, (pss_cons (ps_expr (pe_cE h_see_row (hr.mono (by decide)) (takes_of rfl rfl rfl rfl) (pa_cons (pv 0) pa_nil)))
      (pss_cons (ps_setLc (i := 1) (own := [("place", 2)]) (g := gName 2) (tt := tYes) rfl sc_back.nd rfl rfl (sw_true rfl rfl rfl (by decide +kernel)) (piL (K := K) (pe_c h_seen_from_front (hr.mono (by decide)) (pa_cons (peRev (K := K) (pv 0)) pa_nil))) (blkOk_by (own := [("place", 2)]) (N := ["row", "found", "place"]) (sc := defScope s_back) (by decide +kernel)) (fun _ _ _ _ _ => pg_name (i := 2) sc_back.nd rfl (Or.inl rfl)) (fun _ _ _ _ _ => pts_nil) (fun _ _ _ _ _ => (pe_op op_sub (pe_op op_sub (pe_callB (ckLen (K := K)) (by rfl) T.len PySem.boot_len (pa_cons (pv 0) pa_nil)) pe_int) (pv 2))))
      (pss_one (ps_ret (pe_callB (ckSorted (K := K)) (by rfl) T.sorted (by decide +kernel) (pa_cons (pv 1) pa_nil)))))), ?_⟩
  have h0 := Amb.refl eB
  rcases hc with ⟨r, ⟨ns', e1, g, rfl⟩, k⟩ | ⟨hb, k⟩
  · obtain rfl : ns = ns' := map_int_inj (by simpa using e1)
    have hl := g.2.1
    refine q_drop (K := K) h0 (ev_callX (by walk_at "evA") ⟨ns, rfl, g, rfl⟩) fun B1 H1 s1 i1 => ?_
    refine q_asgN (K := K) s1 (ds := ((seen ns.reverse).map fun (i : Nat) => (ns.length : Int) - 1 - (i : Int)).map PyData.int) (EvN.is (ev_lcL0 (fun (i : Nat) => PyData.int (i : Int)) (fun (i : Nat) => PyData.int ((ns.length : Int) - 1 - (i : Int))) (xs := seen ns.reverse) (EvN.toD ?_) ?_ (fun _ => rfl) fun x a B' e m dx => ?_) ?_) fun p vs B2 H2 s2 i2 hp hp0 hb2 hh hv => ?_
    · refine EvN.is (ev_callN (ea_cons (EvN.toD (ev_rev (by walk_at "ev"))) ea_nil) ⟨ns.reverse, by rw [← List.map_reverse], by rw [List.length_reverse]; omega, rfl⟩) ?_
      unfold seenI
      rw [List.map_map]
      rfl
    · have : (seen ns.reverse).length ≤ ns.length := by
        unfold seen
        exact Nat.le_trans (List.length_filter_le _ _) (by rw [List.length_range, List.length_reverse]; exact Nat.le_refl _)
      omega
    · refine EvF.is (ev_sub (ev_sub (ev_len (ev_var rfl (dv.up (i1.bb.trans e)))) ev_int) (ev_var rfl dx)) ?_
      rw [List.length_map]
    · rw [List.map_map]
      rfl
    · have o : Own H B2 H2 p vs := ⟨hp0, hb2, hh⟩
      refine s_retN (K := K) (o.keep s2) (ev_sorted (ev_var rfl (o.dt hv)) (backI_perm ns).symm (backI_sorted ns)) fun p2 vs2 B3 H3 s3 hp3 hb3 hh3 hv3 => ?_
      exact k p2 vs2 B3 H3 s3 hp3 hb3 hh3 hv3
  · exact q_bad (K := K) eB (by walk_at "evA") hb k
end

abbrev s_sight : Stmt := topS 8
theorem sc_sight : FnScope ["row"] ["row"] (defScope s_sight) := ⟨rfl, rfl, rfl, by decide +kernel, rfl, by decide +kernel, by decide +kernel⟩
section
variable {P : Program} {w : World} {K : PySem.W.Frag} {mg : Str → Option Value} {base : Heap}
theorem ok_sight {f : Addr} {fd : FuncData} (F : Fun K "sight" "sight" s_sight f fd) (T : Glo mg) {C_BadRow : Addr} (c_BadRow : ECls K mg "BadRow" C_BadRow) (h_back : Has P w K mg base 2 "back" ["row"] (sp_back K C_BadRow)) (h_front : Has P w K mg base 2 "front" ["row"] (sp_front K C_BadRow)) (h_see_row : Has P w K mg base 1 "see_row" ["row"] (sp_see_row K C_BadRow)) : FnOk P w K mg base (L2.CX P w) 3 f fd ["row"] (sp_sight K C_BadRow) := by
  refine F.okX sc_sight (fun vs H Q E h => len_sight h) (fun cdv A outer s H vs Q E hr h => ?_)
  obtain ⟨B, ds, eB, hd, hc⟩ := h
  obtain ⟨ns, rfl⟩ : ∃ ns, ds = [dL ns] := by
    rcases hc with ⟨r, ⟨ns, e, _⟩, _⟩ | ⟨⟨ns, e, _⟩, _⟩
    · exact ⟨ns, e⟩
    · exact ⟨ns, e⟩
  obtain ⟨v, rfl, dv⟩ := hd.one_eq
  refine ⟨_, (pss_cons (ps_expr (pe_cE h_see_row (hr.mono (by decide)) (takes_of rfl rfl rfl rfl) (pa_cons (pv 0) pa_nil)))
      (pss_one (ps_ret (pe_tup (pa_cons (pe_callB (ckLen (K := K)) (by rfl) T.len PySem.boot_len (pa_cons (pe_c h_front (hr.mono (by decide)) (pa_cons (pv 0) pa_nil)) pa_nil)) (pa_cons (pe_callB (ckLen (K := K)) (by rfl) T.len PySem.boot_len (pa_cons (pe_c h_back (hr.mono (by decide)) (pa_cons (pv 0) pa_nil)) pa_nil)) pa_nil)))))), ?_⟩
  have h0 := Amb.refl eB
  rcases hc with ⟨r, ⟨ns', e1, g, rfl⟩, k⟩ | ⟨hb, k⟩
  · obtain rfl : ns = ns' := map_int_inj (by simpa using e1)
    refine q_drop (K := K) h0 (ev_callX (by walk_at "evA") ⟨ns, rfl, g, rfl⟩) fun B1 H1 s1 i1 => ?_
    refine s_ret (K := K) s1 (EvF.is (ev_tup (ea_cons (ev_len (EvN.toD (ev_callXN (by walk_at "evA") ⟨ns, rfl, g, rfl⟩))) (ea_cons (ev_len (EvN.toD (ev_callXN (by walk_at "evA") ⟨ns, rfl, g, rfl⟩))) ea_nil))) ?_) k
    rw [List.length_map, List.length_map, seenI_len, backI_len]
    rfl
  · exact q_bad (K := K) eB (by walk_at "evA") hb k
end

abbrev s__law_cell_at : Stmt := topS 10
theorem sc__law_cell_at : FnScope ["script", "k"] ["script", "k"] (defScope s__law_cell_at) := ⟨rfl, rfl, rfl, by decide +kernel, rfl, by decide +kernel, by decide +kernel⟩
section
variable {P : Program} {w : World} {K : PySem.W.Frag} {mg : Str → Option Value} {base : Heap}
theorem ok__law_cell_at {f : Addr} {fd : FuncData} (F : Fun K "_law_cell_at" "_law_cell_at" s__law_cell_at f fd) (T : Glo mg) : FnOk P w K mg base (L2.CX P w) 1 f fd ["script", "k"] (sp__law_cell_at K) := by
  refine F.okX sc__law_cell_at (fun vs H Q E h => len__law_cell_at h) (fun cdv A outer s H vs Q E hr h => ?_)
  obtain ⟨B, ds, r, eB, hd, ⟨ns, i, rfl, hi, rfl⟩, k⟩ := h
  obtain ⟨v, w', rfl, dv, dw⟩ := hd.two_eq
  refine ⟨_, (pss_cons (ps_if (pt_cmpR op_lt (pv 1) (pe_callB (ckLen (K := K)) (by rfl) T.len PySem.boot_len (pa_cons (pv 0) pa_nil)) (nomark _)) (pss_one (ps_ret (pe_ix (ixl (K := K)) (pv 0) (pv 1) (fun _ _ => rfl)))) pss_nil)
      (pss_one (ps_ret pe_int))), ?_⟩
  have h0 := Amb.refl eB
  refine q_when (b := decide (i < (ns.length : Nat))) h0 (et_test (K := K) (ev_lt (by walk_at "ev") (ev_lenS (by walk_at "ev")))) (fun hb H' e s => ?_) (fun hb H' e s => ?_)
  · have hb' : i < (ns.length : Nat) := of_decide_eq_true hb
    refine s_ret (K := K) s (ev_ixS (by walk_at "ev") (by walk_at "ev") (j := cell ns i) ?_) k
    obtain ⟨j, rfl⟩ := Int.eq_ofNat_of_zero_le hi
    have hj : j < ns.length := by omega
    rw [atI_nat (v := ns.getD j 0) (by rw [List.getElem?_eq_getElem hj]; simp [List.getD_eq_getElem?_getD, List.getElem?_eq_getElem hj])]
    unfold cell
    rw [if_pos hb']
    rfl
  · have hb' : ¬ i < (ns.length : Nat) := of_decide_eq_false hb
    refine s_ret (K := K) s (EvF.is ev_int ?_) k
    unfold cell
    rw [if_neg hb']
end

abbrev s__law_draw : Stmt := topS 11
theorem sc__law_draw : FnScope ["script", "k", "stir"] ["script", "k"] (defScope s__law_draw) := ⟨rfl, rfl, rfl, by decide +kernel, rfl, by decide +kernel, by decide +kernel⟩
section
variable {P : Program} {w : World} {K : PySem.W.Frag} {mg : Str → Option Value} {base : Heap}
theorem ok__law_draw {f : Addr} {fd : FuncData} (F : Fun K "_law_draw" "_law_draw" s__law_draw f fd) (T : Glo mg) (h__law_cell_at : Has P w K mg base 1 "_law_cell_at" ["script", "k"] (sp__law_cell_at K)) : FnOk P w K mg base (L2.CX P w) 2 f fd ["script", "k"] (sp__law_draw K) := by
  refine F.okX sc__law_draw (fun vs H Q E h => len__law_draw h) (fun cdv A outer s H vs Q E hr h => ?_)
  obtain ⟨B, ds, r, eB, hd, ⟨ns, i, rfl, hi, hi2, rfl⟩, k⟩ := h
  obtain ⟨v, w', rfl, dv, dw⟩ := hd.two_eq
  refine ⟨_, (pss_cons (ps_set (i := 2) sc__law_draw.nd rfl (Or.inl rfl) (pe_op op_mod (pe_op op_mul (pe_op op_add (pe_op op_add (pe_c h__law_cell_at (hr.mono (by decide)) (pa_cons (pv 0) (pa_cons (pe_op op_mod (pv 1) pe_int) pa_nil))) (pe_op op_mul pe_int (pv 1))) pe_int) pe_int) pe_int))
      (pss_cons (ps_set (i := 2) sc__law_draw.nd rfl (Or.inl rfl) (pe_op op_mod (pe_op op_mul (pv 2) (pv 2)) pe_int))
      (pss_one (ps_ret (pe_op op_fdiv (pe_op op_mod (pe_op op_mul (pv 2) pe_int) pe_int) pe_int))))), ?_⟩
  have h0 := Amb.refl eB
  refine q_asg (K := K) h0 (d := .int (stir1 ns i)) (ev_mod (ev_mul (ev_add (ev_add (ev_call (ea_cons (by walk_at "ev") (ea_cons (ev_mod (by walk_at "ev") ev_int (by decide)) ea_nil)) ⟨ns, i % 61, rfl, by omega, rfl⟩) (ev_mul ev_int (by walk_at "ev") (.inl (by decide)))) ev_int) ev_int (.inr (by decide))) ev_int (by decide)) fun v2 B1 H1 s1 i1 d1 => ?_
  have b1 : 0 ≤ stir1 ns i ∧ stir1 ns i < 2147483647 := by unfold stir1; omega
  refine q_asg (K := K) s1 (d := .int (stir1 ns i * stir1 ns i % 2147483647)) (ev_mod (ev_mul (ev_var rfl d1) (ev_var rfl d1) (.inl (by omega))) ev_int (by decide)) fun v3 B2 H2 s2 i2 d2 => ?_
  exact s_ret (K := K) s2 (ev_fdiv (ev_mod (ev_mul (ev_var rfl d2) ev_int (.inr (by decide))) ev_int (by decide)) ev_int ⟨by decide, by decide⟩) k
end

abbrev s__law_whole : Stmt := topS 12
theorem sc__law_whole : FnScope ["found"] ["found"] (defScope s__law_whole) := ⟨rfl, rfl, rfl, by decide +kernel, rfl, by decide +kernel, by decide +kernel⟩
section
variable {P : Program} {w : World} {K : PySem.W.Frag} {mg : Str → Option Value} {base : Heap}
theorem ok__law_whole {f : Addr} {fd : FuncData} (F : Fun K "_law_whole" "_law_whole" s__law_whole f fd) (T : Glo mg) : FnOk P w K mg base (L2.CX P w) 1 f fd ["found"] (sp__law_whole K) := by
  refine F.okX sc__law_whole (fun vs H Q E h => len__law_whole h) (fun cdv A outer s H vs Q E hr h => ?_)
  obtain ⟨B, ds, r, eB, hd, ⟨i, rfl, rfl⟩, k⟩ := h
  obtain ⟨v, rfl, dv⟩ := hd.one_eq
  refine ⟨_, (pss_one (ps_ret (pe_and (pe_callB (ckIsi (K := K)) (by rfl) T.isinstance (by decide +kernel) (pa_cons (pv 0) (pa_cons (pe_bltn (v := .ty "int") (by rfl) T.int (by decide +kernel) rfl) pa_nil))) (pe_one (pe_not (pe_callB (ckIsi (K := K)) (by rfl) T.isinstance (by decide +kernel) (pa_cons (pv 0) (pa_cons (pe_bltn (v := .ty "bool") (by rfl) T.bool (by decide +kernel) rfl) pa_nil)))))))), ?_⟩
  have h0 := Amb.refl eB
  exact s_ret (K := K) h0 (EvF.is (ev_andV (b := true) (b' := true) (ev_isi (d := .int i) (by walk_at "ev") kit_int_int) fun _ => EvF.is (ev_notV (ev_isi (d := .int i) (by walk_at "ev") kit_int_bool)) rfl) rfl) k
end

abbrev s__law_order : Stmt := topS 13
theorem sc__law_order : FnScope ["script", "start", "many", "left", "row", "k", "at", "to"] ["script", "start", "many"] (defScope s__law_order) := ⟨rfl, rfl, rfl, by decide +kernel, rfl, by decide +kernel, by decide +kernel⟩
section
variable {P : Program} {w : World} {K : PySem.W.Frag} {mg : Str → Option Value} {base : Heap}
theorem ok__law_order {f : Addr} {fd : FuncData} (F : Fun K "_law_order" "_law_order" s__law_order f fd) (T : Glo mg) (h__law_draw : Has P w K mg base 2 "_law_draw" ["script", "k"] (sp__law_draw K)) : FnOk P w K mg base (L2.CX P w) 3 f fd ["script", "start", "many"] (sp__law_order K) := by
  refine F.okX sc__law_order (fun vs H Q E h => len__law_order h) (fun cdv A outer s H vs Q E hr h => ?_)
  obtain ⟨B, ds, rs, eB, hd, ⟨ns, st, many, rfl, hs0, hs1, hm, hm2, rfl⟩, k⟩ := h
  obtain ⟨v, vs', rfl, dv, hd⟩ : ∃ v vs', vs = v :: vs' ∧ Dt K B v (dS ns) ∧ DtAll K B vs' [.int st, .int ((many : Nat) : Int)] := by
    cases hd with
    | cons a t => exact ⟨_, _, rfl, a, t⟩
  obtain ⟨w1, w2, rfl, dw1, dw2⟩ := hd.two_eq
  obtain rfl := dw1.int_eq
  obtain rfl := dw2.int_eq
  refine ⟨_, (pss_cons (ps_set (i := 3) sc__law_order.nd rfl (Or.inl rfl) (pe_listRg rfl rfl T.list (prg_2 rfl T.range pe_int (pe_op op_add (pv 2) pe_int))))
      (pss_cons (ps_set (i := 4) sc__law_order.nd rfl (Or.inl rfl) (pe_lst pa_nil))
      (pss_cons (ps_for (passes_of rfl) rfl (pi_range1 rfl T.range (pa_cons (pv 2) pa_nil)) (pg_name (i := 5) sc__law_order.nd rfl (Or.inl rfl)) (pss_one (ps_expr (peBm (K := K) PySem.F.plainAttrs_list PySem.F.slot_list_append PySem.F.type_list_append mt_append (pv 4) (pa_cons (peBm (K := K) PySem.F.plainAttrs_list PySem.F.slot_list_pop PySem.F.type_list_pop mt_popAt (pv 3) (pa_cons (pe_op op_mod (pe_c h__law_draw (hr.mono (by decide)) (pa_cons (pv 0) (pa_cons (pe_op op_add (pv 1) (pv 5)) pa_nil))) (pe_callB (ckLen (K := K)) (by rfl) T.len PySem.boot_len (pa_cons (pv 3) pa_nil))) pa_nil)) pa_nil)))))
      (pss_cons (ps_if (pt_cmpR (oEq (K := K) hr.units) (pe_op op_mod (pe_c h__law_draw (hr.mono (by decide)) (pa_cons (pv 0) (pa_cons pe_int pa_nil))) pe_int) pe_int (nomark _)) (pss_cons (ps_set (i := 4) sc__law_order.nd rfl (Or.inl rfl) (pe_callB (ckSorted (K := K)) (by rfl) T.sorted (by decide +kernel) (pa_cons (pv 4) pa_nil)))
      (pss_one (ps_for (passes_of rfl) rfl (pi_range1 rfl T.range (pa_cons pe_int pa_nil)) (pg_name (i := 5) sc__law_order.nd rfl (Or.inl rfl)) (pss_cons (ps_set (i := 6) sc__law_order.nd rfl (Or.inl rfl) (pe_op op_mod (pe_c h__law_draw (hr.mono (by decide)) (pa_cons (pv 0) (pa_cons (pe_op op_add (pv 1) (pv 5)) pa_nil))) (pv 2)))
      (pss_cons (ps_set (i := 7) sc__law_order.nd rfl (Or.inl rfl) (pe_op op_mod (pe_c h__law_draw (hr.mono (by decide)) (pa_cons (pv 0) (pa_cons (pe_op op_add (pe_op op_add (pv 1) pe_int) (pv 5)) pa_nil))) (pv 2)))
      (pss_one (ps_expr (peBm (K := K) PySem.F.plainAttrs_list PySem.F.slot_list_insert PySem.F.type_list_insert mt_insertI (pv 4) (pa_cons (pv 7) (pa_cons (peBm (K := K) PySem.F.plainAttrs_list PySem.F.slot_list_pop PySem.F.type_list_pop mt_popAt (pv 4) (pa_cons (pv 6) pa_nil)) pa_nil)))))))))) pss_nil)
      (pss_one (ps_ret (pv 4))))))), ?_⟩
  have h0 := Amb.refl eB
  have pos : (0 : Int) < (many : Nat) := by omega
  have modlt : ∀ x : Int, 0 ≤ x % (many : Int) ∧ x % (many : Int) < many := fun x => ⟨Int.emod_nonneg _ (by omega), Int.emod_lt_of_pos _ pos⟩
  refine q_asgN (K := K) h0 (EvN.is (ev_rgl2 ev_int (ev_add (by walk_at "ev") ev_int) (.of_le (by omega) (by omega) (by omega) (by omega))) (ds' := (upTo many).map PyData.int) ?_) fun p vs B1 H1 s1 i1 hp hp0 hb1 h1 hv => ?_
  · unfold upTo
    rw [List.map_map, show (((many : Nat) : Int) + 1 - 1).toNat = many by omega]
    rfl
  obtain rfl := hv.ints
  refine q_asgN (K := K) s1 (ev_lst ea_nil) fun q vs B2 H2 s2 i2 hq hq0 hb2 h2 hv2 => ?_
  cases hv2
  have op : Own H B2 H2 p ((upTo many).map V.int) := (⟨hp0, hb1, h1⟩ : Own H B1 H1 p _).step i2
  have oq : Own H B2 H2 q [] := ⟨hq0, hb2, h2⟩
  have npq : p ≠ q := by rintro rfl; rw [h1] at hq; cases hq
  refine q_forR1 (K := K) (R := fun i σ' B' H' => ∃ y, σ' = [some v, some (.int st), some (.int ((many : Nat) : Int)), some (.ref p), some (.ref q), y, none, none] ∧ Own H B' H' p ((ordSt ns st many i).1.map V.int) ∧ Own H B' H' q ((ordSt ns st many i).2.map V.int)) s2 (n := ((many : Nat) : Int)) (ea_cons (ev_var rfl (.int _)) ea_nil) (by omega)
    (fun B3 H3 s3 i3 => ⟨none, rfl, op.step i3, oq.step i3⟩) (fun i σ' B3 H3 hi s3 e3 c => ?_) (fun σ' B3 H3 s3 e3 c => ?_)
  · obtain ⟨y, rfl, op, oq⟩ := c
    obtain ⟨l1, l2, _⟩ := ordSt_ok ns st many i (by omega)
    have hl : (0 : Int) < ((ordSt ns st many i).1.length : Nat) := by omega
    have j0 := Int.emod_nonneg (draw ns (st + (i : Int))) (Int.ne_of_gt hl)
    have j1 := Int.emod_lt_of_pos (draw ns (st + (i : Int))) hl
    have okp : Dt K (upd B3 p (.lst ((ordSt ns st many i).1.map V.int))) (.ref p) (dL (ordSt ns st many i).1) := op.dt (.of_ints _)
    have s4 := op.keep s3
    have x4 : Ex B3 (upd B3 p (.lst ((ordSt ns st many i).1.map V.int))) := Ex.new op.hb
    refine ⟨.ref q, rfl, .inl ⟨rfl, _, .inl (.inl oq.hh)⟩, ?_⟩
    refine ⟨.ref p, rfl, .inl ⟨rfl, _, .inl (.inl op.hh)⟩, ?_⟩
    refine t_a1 (K := K) (ev_mod (ev_call (by walk_at "evA") ⟨ns, st + (i : Int), rfl, by omega, by omega, rfl⟩) (EvF.is (ev_len (ev_var rfl okp)) (by rw [List.length_map])) hl) s4.bh fun z B5 H5 s5 dz => ?_
    obtain rfl := dz.int_eq
    obtain ⟨jn, hj⟩ := Int.eq_ofNat_of_zero_le j0
    have hjn : jn < (ordSt ns st many i).1.length := by omega
    have op5 := op.heap s5.hh
    have oq5 := oq.heap s5.hh
    refine ⟨p, (ordSt ns st many i).1.map V.int, _, jn, .int ((ordSt ns st many i).1.getD jn 0), rfl, rfl, op5.hh, by omega, by omega, by rw [List.length_map, hj]; exact seqIx hjn, by rw [List.getElem?_map, List.getElem?_eq_getElem hjn]; simp [List.getD_eq_getElem?_getD, List.getElem?_eq_getElem hjn], ?_⟩
    have op6 := op5.upd (ys := ((ordSt ns st many i).1.map V.int).eraseIdx jn)
    have oq6 := oq5.other (u := .lst (((ordSt ns st many i).1.map V.int).eraseIdx jn)) (Ne.symm npq)
    refine ⟨q, (ordSt ns st many i).2.map V.int, .int ((ordSt ns st many i).1.getD jn 0), rfl, rfl, oq6.hh, Nat.lt_of_le_of_lt (by rw [List.length_map, l2]; show i ≤ 1000; omega) (by decide), ?_⟩
    refine ⟨B3, ?_, e3, some (.int (i : Int)), rfl, ?_, ?_⟩
    · exact oq6.mut (op5.mut (s3.trans (Step.heap s3.bh s5.hh)))
    · have e : (ordSt ns st many (i + 1)).1 = (ordSt ns st many i).1.eraseIdx jn := by
        show (ordSt ns st many i).1.eraseIdx (draw ns (st + (i : Int)) % ((ordSt ns st many i).1.length : Int)).toNat = _
        rw [hj]; rfl
      rw [e, ← erase_map]
      exact op6.other npq
    · have e : (ordSt ns st many (i + 1)).2 = (ordSt ns st many i).2 ++ [(ordSt ns st many i).1.getD jn 0] := by
        show (ordSt ns st many i).2 ++ [(ordSt ns st many i).1.getD (draw ns (st + (i : Int)) % ((ordSt ns st many i).1.length : Int)).toNat 0] = _
        rw [hj]; rfl
      rw [e, List.map_append]
      exact oq6.upd
  · obtain ⟨y, rfl, op, oq⟩ := c
    rw [show ((many : Nat) : Int).toNat = many by omega] at op oq
    have hord := ordSt_ok ns st many many (Nat.le_refl _)
    have okq : Dt K (upd B3 q (.lst ((ordSt ns st many many).2.map V.int))) (.ref q) (dL (ordSt ns st many many).2) := oq.dt (.of_ints _)
    have s4 := oq.keep s3
    have x4 : Ex B3 (upd B3 q (.lst ((ordSt ns st many many).2.map V.int))) := Ex.new oq.hb
    refine q_when (b := decide (draw ns 59 % 6 = 5)) s4 (et_test (K := K) (ev_eqI (ev_mod (ev_call (by walk_at "evA") ⟨ns, 59, rfl, by omega, by omega, rfl⟩) ev_int (by decide)) ev_int)) (fun hb H' e s => ?_) (fun hb H' e s => ?_)
    · have hb' := of_decide_eq_true hb
      have he : (ordSt ns st many many).1 = [] := List.eq_nil_of_length_eq_zero (by omega)
      have hperm : (upTo many).Perm (ordSt ns st many many).2 := by
        have := hord.2.2
        rw [he, List.nil_append] at this
        exact this.symm
      refine q_asgN (K := K) s (ev_sorted (ev_var rfl okq) hperm (upTo_sorted many)) fun r vs B5 H5 s5 i5 hr5 hr0 hb5 h5 hv5 => ?_
      obtain rfl := hv5.ints
      have or5 : Own H B5 H5 r ((upTo many).map V.int) := ⟨hr0, hb5, h5⟩
      let mvs : Nat → List Int := fun i => match i with
        | 0 => upTo many
        | 1 => mv (upTo many) (draw ns st % many).toNat (draw ns (st + 2) % many).toNat
        | _ => mv (mv (upTo many) (draw ns st % many).toNat (draw ns (st + 2) % many).toNat) (draw ns (st + 1) % many).toNat (draw ns (st + 2 + 1) % many).toNat
      have mlen : ∀ i, i < 2 → (mvs i).length = many := fun i hi => by
        match i, hi with
        | 0, _ => exact upTo_len many
        | 1, _ =>
          show (mv (upTo many) _ _).length = many
          rw [mv_len (by rw [upTo_len]; have := modlt (draw ns st); omega), upTo_len]
      have mnext : ∀ i, i < 2 → mvs (i + 1) = mv (mvs i) (draw ns (st + (i : Int)) % many).toNat (draw ns (st + 2 + (i : Int)) % many).toNat := fun i hi => by
        match i, hi with
        | 0, _ => show mv _ _ _ = mv _ _ _; simp [mvs]
        | 1, _ => rfl
      refine s_forR1 (K := K) (R := fun i σ' B' H' => ∃ y5 y6 y7, σ' = [some v, some (.int st), some (.int ((many : Nat) : Int)), some (.ref p), some (.ref r), y5, y6, y7] ∧ Own H B' H' r ((mvs i).map V.int)) s5 (n := 2) (ea_cons ev_int ea_nil) (by omega)
        (fun B6 H6 s6 i6 => ⟨_, _, _, rfl, or5.step i6⟩) (fun i σ' B6 H6 hi s6 e6 c => ?_) (fun σ' B6 H6 s6 e6 c => ?_)
      · obtain ⟨y5, y6, y7, rfl, or⟩ := c
        have hi2 : i < 2 := by omega
        refine q_asg (K := K) s6 (ev_mod (ev_call (by walk_at "evA") ⟨ns, st + (i : Int), rfl, by omega, by omega, rfl⟩) (ev_var rfl (.int _)) pos) fun v7 B7 H7 s7 i7 d7 => ?_
        refine q_asg (K := K) s7 (ev_mod (ev_call (by walk_at "evA") ⟨ns, st + 2 + (i : Int), rfl, by omega, by omega, rfl⟩) (ev_var rfl (.int _)) pos) fun v8 B8 H8 s8 i8 d8 => ?_
        obtain rfl := d7.int_eq
        obtain rfl := d8.int_eq
        have or8 := (or.step i7).step i8
        have ma := modlt (draw ns (st + (i : Int)))
        have mb := modlt (draw ns (st + 2 + (i : Int)))
        have mn := mnext i hi2
        have ml := mlen i hi2
        obtain ⟨an, ea⟩ := Int.eq_ofNat_of_zero_le ma.1
        obtain ⟨bn, eb⟩ := Int.eq_ofNat_of_zero_le mb.1
        have ha : an < (mvs i).length := by omega
        refine ⟨.ref r, rfl, .inl ⟨rfl, _, .inl (.inl or8.hh)⟩, ?_⟩
        refine ⟨_, rfl, .ref r, rfl, .inl ⟨rfl, _, .inl (.inl or8.hh)⟩, _, rfl, ?_⟩
        refine ⟨r, (mvs i).map V.int, _, an, .int ((mvs i).getD an 0), rfl, rfl, or8.hh, by omega, by omega, by rw [List.length_map, ea]; exact seqIx ha, by rw [List.getElem?_map, List.getElem?_eq_getElem ha]; simp [List.getD_eq_getElem?_getD, List.getElem?_eq_getElem ha], ?_⟩
        have or9 := or8.upd (ys := ((mvs i).map V.int).eraseIdx an)
        refine ⟨r, ((mvs i).map V.int).eraseIdx an, _, .int ((mvs i).getD an 0), rfl, rfl, or9.hh, Nat.lt_of_le_of_lt (Nat.le_trans (List.length_eraseIdx_le _ _) (by rw [List.length_map]; omega : _ ≤ 60)) (by decide), by omega, by omega, ?_⟩
        refine ⟨B8, or9.mut (or8.mut s8), (e6.trans i7.bb).trans i8.bb, _, _, _, rfl, ?_⟩
        have or10 := or9.upd (ys := (((mvs i).map V.int).eraseIdx an).take bn ++ [V.int ((mvs i).getD an 0)] ++ (((mvs i).map V.int).eraseIdx an).drop bn)
        have em : (mvs (i + 1)).map V.int = (((mvs i).map V.int).eraseIdx an).take bn ++ [V.int ((mvs i).getD an 0)] ++ (((mvs i).map V.int).eraseIdx an).drop bn := by
          rw [mn, ea, eb]
          show (mv (mvs i) an bn).map V.int = _
          unfold mv
          rw [List.map_append, List.map_append, List.map_take, List.map_drop, ← erase_map]
          rfl
        rw [em]
        rw [eb] 
        exact or10
      · obtain ⟨y5, y6, y7, rfl, or⟩ := c
        refine s_retV rfl ?_
        refine k r _ B6 H6 s6.st hr0 or.hb or.hh ?_
        unfold order
        rw [if_pos hb']
        exact .of_ints _
    · have hb' := of_decide_eq_false hb
      refine s_retV rfl ?_
      refine k q _ B3 H' (s3.trans (Step.heap s3.bh e)).st hq0 oq.hb (oq.heap e).hh ?_
      unfold order
      rw [if_neg hb']
      exact .of_ints _
end

abbrev s__law_seen : Stmt := topS 14
theorem sc__law_seen : FnScope ["row", "found", "place", "k"] ["row"] (defScope s__law_seen) := ⟨rfl, rfl, rfl, by decide +kernel, rfl, by decide +kernel, by decide +kernel⟩
section
variable {P : Program} {w : World} {K : PySem.W.Frag} {mg : Str → Option Value} {base : Heap}
theorem ok__law_seen {f : Addr} {fd : FuncData} (F : Fun K "_law_seen" "_law_seen" s__law_seen f fd) (T : Glo mg) : FnOk P w K mg base (L2.CX P w) 1 f fd ["row"] (sp__law_seen K) := by
  refine F.okX sc__law_seen (fun vs H Q E h => len__law_seen h) (fun cdv A outer s H vs Q E hr h => ?_)
  obtain ⟨B, ds, rs, eB, hd, ⟨ns, rfl, hl, rfl⟩, k⟩ := h
  obtain ⟨v, rfl, dv⟩ := hd.one_eq
  refine ⟨_, (pss_cons (ps_set (i := 1) sc__law_seen.nd rfl (Or.inl rfl) (pe_lst pa_nil))
      (pss_cons (ps_for (passes_of rfl) rfl (pi_range1 rfl T.range (pa_cons (pe_callB (ckLen (K := K)) (by rfl) T.len PySem.boot_len (pa_cons (pv 0) pa_nil)) pa_nil)) (pg_name (i := 2) sc__law_seen.nd rfl (Or.inr rfl)) (pss_one (ps_if (pt_cmpR (oNotIn (K := K)) pe_bl (pe_lc (own := [("k", 3)]) (g := gName 3) (tt := tYes) rfl sc__law_seen.nd (pi_range1 rfl T.range (pa_cons (pv 2) pa_nil)) (blkOk_by (own := [("k", 3)]) (N := ["row", "found", "place", "k"]) (sc := defScope s__law_seen) (by decide +kernel)) (fun _ _ _ _ _ => pg_name (i := 3) sc__law_seen.nd rfl (Or.inl rfl)) (fun _ _ _ _ _ => pts_nil) (fun _ _ _ _ _ => (pe_cmpR op_lt (pe_ix (ixl (K := K)) (pv 0) (pv 3) (fun _ _ => rfl)) (pe_ix (ixl (K := K)) (pv 0) (pv 2) (fun _ _ => rfl)) (nomark _)))) (by rfl)) (pss_one (ps_expr (peBm (K := K) PySem.F.plainAttrs_list PySem.F.slot_list_append PySem.F.type_list_append mt_append (pv 1) (pa_cons (pv 2) pa_nil)))) pss_nil)))
      (pss_one (ps_ret (pv 1))))), ?_⟩
  have h0 := Amb.refl eB
  refine q_asgN (K := K) h0 (ev_lst ea_nil) fun p vs B1 H1 s1 i1 hp hp0 hb1 h1 hv => ?_
  cases hv
  refine q_forR1 (K := K) (R := fun i σ' B' H' => ∃ y, σ' = [some v, some (.ref p), y, none] ∧ Own H B' H' p (((seenTo ns i).map fun (j : Nat) => (j : Int)).map V.int)) s1 (n := (ns.length : Nat)) (ea_cons (EvF.is (ev_len (by walk_at "ev")) (by rw [List.length_map])) ea_nil) (by omega)
    (fun B2 H2 s2 i2 => ⟨none, rfl, (⟨hp0, hb1, h1⟩ : Own H B1 H1 p []).step i2⟩) (fun i σ' B2 H2 hi s2 e2 c => ?_) (fun σ' B2 H2 s2 e2 c => ?_)
  · obtain ⟨y, rfl, o⟩ := c
    have hl2 : (seenTo ns i).length ≤ i := by unfold seenTo; exact Nat.le_trans (List.length_filter_le _ _) (by rw [List.length_range]; exact Nat.le_refl _)
    refine s_when (b := isSeen ns i) s2 (EvT.is (et_test (K := K) (ev_inB (ns := (List.range i).map fun k => decide (ns.getD k 0 < ns.getD i 0)) ev_bl (EvN.toD (EvN.is (ev_lcR10 (fun k => PyData.bool (decide (ns.getD k 0 < ns.getD i 0))) (n := (i : Int)) (by walk_at "evA") (by omega) (fun _ => rfl) fun k B' e hk => ?_) ?_)))) ?_) (fun hb H' e s => ?_) (fun hb H' e s => ?_)
    · refine ev_lt (ev_ix (by walk_at "ev") (by walk_at "ev") ?_) (ev_ix (by walk_at "ev") (by walk_at "ev") ?_)
      · exact at_dL (by omega) (by omega)
      · exact at_dL (by omega) (by omega)
    · rw [List.map_map]
      rfl
    · exact notFalse _
    · refine s_app (K := K) s (o.heap e) rfl (ev_var rfl (.int _)) (by rw [List.length_map, List.length_map]; omega) fun v' B3 H3 s4 i4 o4 dv' => ?_
      obtain rfl := dv'.int_eq
      refine ⟨B3, s4, e2.trans i4.bb, _, rfl, ?_⟩
      rw [seenTo_succ, if_pos hb, List.map_append, List.map_append]
      exact o4
    · refine ⟨B2, s, e2, _, rfl, ?_⟩
      rw [seenTo_succ, if_neg (by rw [hb]; decide), List.append_nil]
      exact o.heap e
  · obtain ⟨y, rfl, o⟩ := c
    refine s_retV rfl ?_
    exact k p _ B2 H2 s2.st hp0 o.hb o.hh (.of_ints _)
end

abbrev s__law_back : Stmt := topS 15
theorem sc__law_back : FnScope ["row", "found", "place", "k"] ["row"] (defScope s__law_back) := ⟨rfl, rfl, rfl, by decide +kernel, rfl, by decide +kernel, by decide +kernel⟩
section
variable {P : Program} {w : World} {K : PySem.W.Frag} {mg : Str → Option Value} {base : Heap}
theorem ok__law_back {f : Addr} {fd : FuncData} (F : Fun K "_law_back" "_law_back" s__law_back f fd) (T : Glo mg) : FnOk P w K mg base (L2.CX P w) 1 f fd ["row"] (sp__law_back K) := by
  refine F.okX sc__law_back (fun vs H Q E h => len__law_back h) (fun cdv A outer s H vs Q E hr h => ?_)
  obtain ⟨B, ds, rs, eB, hd, ⟨ns, rfl, hl, rfl⟩, k⟩ := h
  obtain ⟨v, rfl, dv⟩ := hd.one_eq
  refine ⟨_, (pss_cons (ps_set (i := 1) sc__law_back.nd rfl (Or.inl rfl) (pe_lst pa_nil))
      (pss_cons (ps_for (passes_of rfl) rfl (pi_range1 rfl T.range (pa_cons (pe_callB (ckLen (K := K)) (by rfl) T.len PySem.boot_len (pa_cons (pv 0) pa_nil)) pa_nil)) (pg_name (i := 2) sc__law_back.nd rfl (Or.inr rfl)) (pss_one (ps_if (pt_cmpR (oNotIn (K := K)) pe_bl (pe_lc (own := [("k", 3)]) (g := gName 3) (tt := tYes) rfl sc__law_back.nd (pi_range2 rfl T.range (pa_cons (pe_op op_add (pv 2) pe_int) (pa_cons (pe_callB (ckLen (K := K)) (by rfl) T.len PySem.boot_len (pa_cons (pv 0) pa_nil)) pa_nil))) (blkOk_by (own := [("k", 3)]) (N := ["row", "found", "place", "k"]) (sc := defScope s__law_back) (by decide +kernel)) (fun _ _ _ _ _ => pg_name (i := 3) sc__law_back.nd rfl (Or.inl rfl)) (fun _ _ _ _ _ => pts_nil) (fun _ _ _ _ _ => (pe_cmpR op_lt (pe_ix (ixl (K := K)) (pv 0) (pv 3) (fun _ _ => rfl)) (pe_ix (ixl (K := K)) (pv 0) (pv 2) (fun _ _ => rfl)) (nomark _)))) (by rfl)) (pss_one (ps_expr (peBm (K := K) PySem.F.plainAttrs_list PySem.F.slot_list_append PySem.F.type_list_append mt_append (pv 1) (pa_cons (pv 2) pa_nil)))) pss_nil)))
      (pss_one (ps_ret (pv 1))))), ?_⟩
  have h0 := Amb.refl eB
  refine q_asgN (K := K) h0 (ev_lst ea_nil) fun p vs B1 H1 s1 i1 hp hp0 hb1 h1 hv => ?_
  cases hv
  refine q_forR1 (K := K) (R := fun i σ' B' H' => ∃ y, σ' = [some v, some (.ref p), y, none] ∧ Own H B' H' p (((backTo ns i).map fun (j : Nat) => (j : Int)).map V.int)) s1 (n := (ns.length : Nat)) (ea_cons (EvF.is (ev_len (by walk_at "ev")) (by rw [List.length_map])) ea_nil) (by omega)
    (fun B2 H2 s2 i2 => ⟨none, rfl, (⟨hp0, hb1, h1⟩ : Own H B1 H1 p []).step i2⟩) (fun i σ' B2 H2 hi s2 e2 c => ?_) (fun σ' B2 H2 s2 e2 c => ?_)
  · obtain ⟨y, rfl, o⟩ := c
    have hl2 : (backTo ns i).length ≤ i := by unfold backTo; exact Nat.le_trans (List.length_filter_le _ _) (by rw [List.length_range]; exact Nat.le_refl _)
    refine s_when (b := isBack ns i) s2 (EvT.is (et_test (K := K) (ev_inB (ns := (List.range (ns.length - (i + 1))).map fun k => decide (ns.getD (i + 1 + k) 0 < ns.getD i 0)) ev_bl (EvN.toD (EvN.is (ev_lcR20 (fun k => PyData.bool (decide (ns.getD (i + 1 + k) 0 < ns.getD i 0))) (lo := (i : Int) + 1) (n := (ns.length : Nat)) (ea_cons (by walk_at "ev") (ea_cons (EvF.is (ev_len (by walk_at "ev")) (by rw [List.length_map])) ea_nil)) (by omega) (by omega) (fun _ => rfl) fun k B' e hk => ?_) ?_)))) ?_) (fun hb H' e s => ?_) (fun hb H' e s => ?_)
    · refine ev_lt (ev_ix (by walk_at "ev") (by walk_at "ev") ?_) (ev_ix (by walk_at "ev") (by walk_at "ev") ?_)
      · rw [at_dL (by omega) (by omega), show ((i : Int) + 1 + (k : Int)).toNat = i + 1 + k by omega]
      · exact at_dL (by omega) (by omega)
    · rw [List.map_map, show (((ns.length : Nat) : Int) - ((i : Int) + 1)).toNat = ns.length - (i + 1) by omega]
      rfl
    · exact notFalse _
    · refine s_app (K := K) s (o.heap e) rfl (ev_var rfl (.int _)) (by rw [List.length_map, List.length_map]; omega) fun v' B3 H3 s4 i4 o4 dv' => ?_
      obtain rfl := dv'.int_eq
      refine ⟨B3, s4, e2.trans i4.bb, _, rfl, ?_⟩
      rw [backTo_succ, if_pos hb, List.map_append, List.map_append]
      exact o4
    · refine ⟨B2, s, e2, _, rfl, ?_⟩
      rw [backTo_succ, if_neg (by rw [hb]; decide), List.append_nil]
      exact o.heap e
  · obtain ⟨y, rfl, o⟩ := c
    refine s_retV rfl ?_
    exact k p _ B2 H2 s2.st hp0 o.hb o.hh (.of_ints _)
end

abbrev s__law_sight : Stmt := topS 16
theorem sc__law_sight : FnScope ["row"] ["row"] (defScope s__law_sight) := ⟨rfl, rfl, rfl, by decide +kernel, rfl, by decide +kernel, by decide +kernel⟩
section
variable {P : Program} {w : World} {K : PySem.W.Frag} {mg : Str → Option Value} {base : Heap}
theorem ok__law_sight {f : Addr} {fd : FuncData} (F : Fun K "_law_sight" "_law_sight" s__law_sight f fd) (T : Glo mg) (h__law_back : Has P w K mg base 1 "_law_back" ["row"] (sp__law_back K)) (h__law_seen : Has P w K mg base 1 "_law_seen" ["row"] (sp__law_seen K)) : FnOk P w K mg base (L2.CX P w) 2 f fd ["row"] (sp__law_sight K) := by
  refine F.okX sc__law_sight (fun vs H Q E h => len__law_sight h) (fun cdv A outer s H vs Q E hr h => ?_)
  obtain ⟨B, ds, r, eB, hd, ⟨ns, rfl, hl, rfl⟩, k⟩ := h
  obtain ⟨v, rfl, dv⟩ := hd.one_eq
  refine ⟨_, (pss_one (ps_ret (pe_tup (pa_cons (pe_callB (ckLen (K := K)) (by rfl) T.len PySem.boot_len (pa_cons (pe_c h__law_seen (hr.mono (by decide)) (pa_cons (pv 0) pa_nil)) pa_nil)) (pa_cons (pe_callB (ckLen (K := K)) (by rfl) T.len PySem.boot_len (pa_cons (pe_c h__law_back (hr.mono (by decide)) (pa_cons (pv 0) pa_nil)) pa_nil)) pa_nil))))), ?_⟩
  have h0 := Amb.refl eB
  refine s_ret (K := K) h0 (EvF.is (ev_tup (ea_cons (ev_len (EvN.toD (ev_callN (by walk_at "evA") ⟨ns, rfl, hl, rfl⟩))) (ea_cons (ev_len (EvN.toD (ev_callN (by walk_at "evA") ⟨ns, rfl, hl, rfl⟩))) ea_nil))) ?_) k
  rw [List.length_map, List.length_map, seenI_len, backI_len]
  rfl
end

abbrev s__law_numbers : Stmt := topS 17
theorem sc__law_numbers : FnScope ["found", "due", "number"] ["found", "due"] (defScope s__law_numbers) := ⟨rfl, rfl, rfl, by decide +kernel, rfl, by decide +kernel, by decide +kernel⟩
section
variable {P : Program} {w : World} {K : PySem.W.Frag} {mg : Str → Option Value} {base : Heap}
theorem ok__law_numbers {f : Addr} {fd : FuncData} (F : Fun K "_law_numbers" "_law_numbers" s__law_numbers f fd) (T : Glo mg) (h__law_whole : Has P w K mg base 1 "_law_whole" ["found"] (sp__law_whole K)) : FnOk P w K mg base (L2.CX P w) 2 f fd ["found", "due"] (sp__law_numbers K) := by
  refine F.okX sc__law_numbers (fun vs H Q E h => len__law_numbers h) (fun cdv A outer s H vs Q E hr h => ?_)
  obtain ⟨B, ds, r, eB, hd, ⟨a, b, rfl, hl, rfl⟩, k⟩ := h
  obtain ⟨v, w', rfl, dv, dw⟩ := hd.two_eq
  refine ⟨_, (pss_cons (ps_if (PW.pt (pw_or (pt_not (pt_val (pe_callB (ckIsi (K := K)) (by rfl) T.isinstance (by decide +kernel) (pa_cons (pv 0) (pa_cons (pe_bltn (v := .ty "list") (by rfl) T.list (by decide +kernel) rfl) pa_nil))))) (pw_or1 (pt_cmpR (oNe (K := K) hr.units) (pv 0) (pv 1) (nomark _))))) (pss_one (ps_ret pe_bl)) pss_nil)
      (pss_one (ps_ret (pe_cmpR (oNotIn (K := K)) pe_bl (pe_lc (own := [("number", 2)]) (g := gName 2) (tt := tYes) rfl sc__law_numbers.nd (piL (K := K) (pv 0)) (blkOk_by (own := [("number", 2)]) (N := ["found", "due", "number"]) (sc := defScope s__law_numbers) (by decide +kernel)) (fun _ _ _ _ _ => pg_name (i := 2) sc__law_numbers.nd rfl (Or.inl rfl)) (fun _ _ _ _ _ => pts_nil) (fun _ _ _ _ _ => (pe_c h__law_whole (hr.mono (by decide)) (pa_cons (pv 2) pa_nil)))) (by rfl))))), ?_⟩
  have h0 := Amb.refl eB
  refine q_when (b := !decide (a = b)) h0 (EvT.is (et_or (b := !true) (et_not (et_B (K := K) (ev_isi (d := dL a) (by walk_at "ev") kit_list_list (sh_dL a).pure))) fun _ => et_test (K := K) (ev_neL (by walk_at "ev") (by walk_at "ev"))) rfl) (fun hb H' e s => ?_) (fun hb H' e s => ?_)
  · refine s_ret (K := K) s (EvF.is ev_bl ?_) k
    rw [Bool.not_eq_true', decide_eq_false_iff_not] at hb
    rw [decide_eq_false hb]
  · rw [Bool.not_eq_false', decide_eq_true_eq] at hb
    refine s_ret (K := K) s (EvF.is (ev_inB (ns := a.map fun _ => true) (neg := true) ev_bl (EvN.toD (EvN.is (ev_lcL0 PyData.int (fun _ => PyData.bool true) (xs := a) (by walk_at "ev") (by omega) (fun _ => rfl) fun x n B' e' m dx => ev_call (by walk_at "evA") ⟨n, rfl, rfl⟩) (by rw [List.map_map]; rfl)))) ?_) k
    rw [decide_eq_true hb]
    show PyData.bool (!decide (false ∈ a.map fun _ => true)) = _
    rw [notFalseL]
    congr 1
    rw [List.all_eq_true]
    intro _ _
    rfl
end

abbrev s_law : Stmt := topS 18
theorem sc_law : FnScope ["script", "many", "row", "handed", "due", "turn", "told", "found", "height"] ["script"] (defScope s_law) := ⟨rfl, rfl, rfl, by decide +kernel, rfl, by decide +kernel, by decide +kernel⟩
section
variable {P : Program} {w : World} {K : PySem.W.Frag} {mg : Str → Option Value} {base : Heap}
theorem ok_law {f : Addr} {fd : FuncData} (F : Fun K "law" "law" s_law f fd) (T : Glo mg) {C_BadRow : Addr} (c_BadRow : ECls K mg "BadRow" C_BadRow) (h__law_whole : Has P w K mg base 1 "_law_whole" ["found"] (sp__law_whole K)) (h_sight : Has P w K mg base 3 "sight" ["row"] (sp_sight K C_BadRow)) (h__law_numbers : Has P w K mg base 2 "_law_numbers" ["found", "due"] (sp__law_numbers K)) (h_back : Has P w K mg base 2 "back" ["row"] (sp_back K C_BadRow)) (h_front : Has P w K mg base 2 "front" ["row"] (sp_front K C_BadRow)) (h__law_back : Has P w K mg base 1 "_law_back" ["row"] (sp__law_back K)) (h__law_seen : Has P w K mg base 1 "_law_seen" ["row"] (sp__law_seen K)) (h__law_draw : Has P w K mg base 2 "_law_draw" ["script", "k"] (sp__law_draw K)) (h__law_cell_at : Has P w K mg base 1 "_law_cell_at" ["script", "k"] (sp__law_cell_at K)) (h__law_order : Has P w K mg base 3 "_law_order" ["script", "start", "many"] (sp__law_order K)) : FnOk P w K mg base (L2.CX P w) 4 f fd ["script"] (sp_law K) := by
  refine F.okX sc_law (fun vs H Q E h => len_law h) (fun cdv A outer s H vs Q E hr h => ?_)
  obtain ⟨B, ds, r, eB, hd, ⟨ns, rfl, hl, rfl⟩, k⟩ := h
  obtain ⟨v, rfl, dv⟩ := hd.one_eq
  refine ⟨_, (pss_cons (ps_set (i := 1) sc_law.nd rfl (Or.inl rfl) (pe_op op_add pe_int (pe_op op_mod (pe_c h__law_draw (hr.mono (by decide)) (pa_cons (pv 0) (pa_cons pe_int pa_nil))) (pe_ix (ixl (K := K)) (pe_lst (pa_cons pe_int (pa_cons pe_int (pa_cons pe_int pa_nil)))) (pe_op op_mod (pe_c h__law_draw (hr.mono (by decide)) (pa_cons (pv 0) (pa_cons pe_int pa_nil))) pe_int) (fun _ _ => rfl)))))
      (pss_cons (ps_set (i := 2) sc_law.nd rfl (Or.inl rfl) (pe_c h__law_order (hr.mono (by decide)) (pa_cons (pv 0) (pa_cons pe_int (pa_cons (pv 1) pa_nil)))))
      (Evl.pss_cut (ps_if (pt_cmpR (oEq (K := K) hr.units) (pe_op op_mod (pe_c h__law_draw (hr.mono (by decide)) (pa_cons (pv 0) (pa_cons pe_int pa_nil))) pe_int) pe_int (nomark _)) (pss_one (ps_setLc (i := 2) (own := [("height", 8)]) (g := gName 8) (tt := tYes) rfl sc_law.nd rfl rfl (sw_true rfl rfl rfl (by decide +kernel)) (piL (K := K) (pv 2)) (blkOk_by (own := [("height", 8)]) (N := ["script", "many", "row", "handed", "due", "turn", "told", "found", "height"]) (sc := defScope s_law) (by decide +kernel)) (fun _ _ _ _ _ => pg_name (i := 8) sc_law.nd rfl (Or.inl rfl)) (fun _ _ _ _ _ => pts_nil) (fun _ _ _ _ _ => (pe_op op_sub (pe_op op_mul (pv 8) (pe_op op_add (pe_op op_mod (pe_c h__law_cell_at (hr.mono (by decide)) (pa_cons (pv 0) (pa_cons pe_int pa_nil))) (pe_op op_pow pe_int pe_int)) pe_int)) (pe_op op_mod (pe_c h__law_cell_at (hr.mono (by decide)) (pa_cons (pv 0) (pa_cons pe_int pa_nil))) (pe_op op_pow pe_int pe_int)))))) pss_nil)
      (pss_cons (ps_set (i := 3) sc_law.nd rfl (Or.inl rfl) (pe_callTy (ckList (K := K)) (by rfl) T.list (by decide +kernel) (pa_cons (pv 2) pa_nil)))
      (pss_cons (ps_set (i := 4) sc_law.nd rfl (Or.inl rfl) (pe_lst (pa_cons (pe_c h__law_seen (hr.mono (by decide)) (pa_cons (pv 2) pa_nil)) (pa_cons (pe_c h__law_back (hr.mono (by decide)) (pa_cons (pv 2) pa_nil)) pa_nil))))
      (pss_cons (ps_for (passes_of rfl) rfl (pi_range1 rfl T.range (pa_cons pe_int pa_nil)) (pg_name (i := 5) sc_law.nd rfl (Or.inl rfl)) (pss_cons (ps_set (i := 6) sc_law.nd rfl (Or.inl rfl) (pe_lst (pa_cons (pe_c h_front (hr.mono (by decide)) (pa_cons (pv 3) pa_nil)) (pa_cons (pe_c h_back (hr.mono (by decide)) (pa_cons (pv 3) pa_nil)) pa_nil))))
      (pss_cons (ps_if (PW.pt (pw_or (pt_not (pt_val (pe_c h__law_numbers (hr.mono (by decide)) (pa_cons (pe_ix (ixl (K := K)) (pv 6) pe_int (fun _ _ => rfl)) (pa_cons (pe_ix (ixl (K := K)) (pv 4) pe_int (fun _ _ => rfl)) pa_nil))))) (pw_or (pt_not (pt_val (pe_c h__law_numbers (hr.mono (by decide)) (pa_cons (pe_ix (ixl (K := K)) (pv 6) pe_int (fun _ _ => rfl)) (pa_cons (pe_ix (ixl (K := K)) (pv 4) pe_int (fun _ _ => rfl)) pa_nil))))) (pw_or1 (pt_cmpR (oNe (K := K) hr.units) (pv 3) (pv 2) (nomark _)))))) (pss_one (ps_ret pe_bl)) pss_nil)
      (pss_cons (ps_expr (peBm (K := K) PySem.F.plainAttrs_list PySem.F.slot_list_append PySem.F.type_list_append mt_append (pe_ix (ixl (K := K)) (pv 6) pe_int (fun _ _ => rfl)) (pa_cons pe_int pa_nil)))
      (pss_one (ps_expr (peBm0 (K := K) PySem.F.plainAttrs_list PySem.F.slot_list_clear PySem.F.type_list_clear mt_clear (pe_ix (ixl (K := K)) (pv 6) pe_int (fun _ _ => rfl)))))))))
      (pss_cons (ps_set (i := 7) sc_law.nd rfl (Or.inl rfl) (pe_c h_sight (hr.mono (by decide)) (pa_cons (pv 3) pa_nil)))
      (pss_cons (ps_if (PW.pt (pw_or (pt_not (pt_val (pe_callB (ckIsi (K := K)) (by rfl) T.isinstance (by decide +kernel) (pa_cons (pv 7) (pa_cons (pe_bltn (v := .ty "tuple") (by rfl) T.tuple (by decide +kernel) rfl) pa_nil))))) (pw_or (pt_cmpR (oNe (K := K) hr.units) (pe_callB (ckLen (K := K)) (by rfl) T.len PySem.boot_len (pa_cons (pv 7) pa_nil)) pe_int (nomark _)) (pw_or (pt_not (pt_val (pe_c h__law_whole (hr.mono (by decide)) (pa_cons (pe_ix (ixt (K := K)) (pv 7) pe_int (fun _ _ => rfl)) pa_nil)))) (pw_or1 (pt_not (pt_val (pe_c h__law_whole (hr.mono (by decide)) (pa_cons (pe_ix (ixt (K := K)) (pv 7) pe_int (fun _ _ => rfl)) pa_nil))))))))) (pss_one (ps_ret pe_bl)) pss_nil)
      (pss_one (ps_ret (pe_and (pe_cmpR (oEq (K := K) hr.units) (pv 7) (pe_tup (pa_cons (pe_callB (ckLen (K := K)) (by rfl) T.len PySem.boot_len (pa_cons (pe_ix (ixl (K := K)) (pv 4) pe_int (fun _ _ => rfl)) pa_nil)) (pa_cons (pe_callB (ckLen (K := K)) (by rfl) T.len PySem.boot_len (pa_cons (pe_ix (ixl (K := K)) (pv 4) pe_int (fun _ _ => rfl)) pa_nil)) pa_nil))) (nomark _)) (pe_one (pe_cmpR (oEq (K := K) hr.units) (pv 3) (pv 2) (nomark _)))))))))))))), ?_⟩
  have h0 := Amb.refl eB
  -- many
  have hm3 : 0 ≤ draw ns 2 % 3 ∧ draw ns 2 % 3 < 3 := by omega
  obtain ⟨m, hmm, hm⟩ : ∃ m : Int, (m = 6 ∨ m = 12 ∨ m = 30) ∧ ([6, 12, 30] : List Int).getD (draw ns 2 % 3).toNat 0 = m := by
    have : (draw ns 2 % 3).toNat = 0 ∨ (draw ns 2 % 3).toNat = 1 ∨ (draw ns 2 % 3).toNat = 2 := by omega
    rcases this with e | e | e
    · exact ⟨6, .inl rfl, by rw [e]; rfl⟩
    · exact ⟨12, .inr (.inl rfl), by rw [e]; rfl⟩
    · exact ⟨30, .inr (.inr rfl), by rw [e]; rfl⟩
  have mpos : 0 < m := by omega
  have hmod : 0 ≤ draw ns 1 % m ∧ draw ns 1 % m < m := ⟨Int.emod_nonneg _ (by omega), Int.emod_lt_of_pos _ mpos⟩
  obtain ⟨many, hmany⟩ : ∃ many : Nat, 1 + draw ns 1 % m = (many : Int) := Int.eq_ofNat_of_zero_le (by omega)
  have b1 : 1 ≤ many ∧ many ≤ 30 := by omega
  refine q_asg (K := K) h0 (EvF.is (ev_add ev_int (ev_mod (ev_call (by walk_at "evA") ⟨ns, 1, rfl, by omega, by omega, rfl⟩) (ev_ix (ds := ([6, 12, 30] : List Int).map PyData.int) (EvN.toD (ev_lst (by walk_at "evA"))) (ev_mod (ev_call (by walk_at "evA") ⟨ns, 2, rfl, by omega, by omega, rfl⟩) ev_int (by decide)) (by rw [at_dL (by omega) (by simp; omega), hm])) mpos)) (d' := .int (many : Nat)) (by rw [hmany])) fun v1 B1 H1 s1 i1 d1 => ?_
  obtain rfl := d1.int_eq
  -- row
  refine q_asgN (K := K) s1 (ev_callN (by walk_at "evA") ⟨ns, 100, many, rfl, by omega, by omega, by omega, by omega, rfl⟩) fun p vs B2 H2 s2 i2 hp hp0 hb2 h2 hv => ?_
  have o2 : Own H B2 H2 p vs := ⟨hp0, hb2, h2⟩
  have x2 := o2.keep s2
  have dr := o2.dt hv
  have e2 : Ex B2 (upd B2 p (.lst vs)) := Ex.new hb2
  have olen := order_len ns 100 many b1.1
  have ond := order_nodup ns 100 many b1.1
  -- the row as it is asked
  refine ⟨fun σ' H' => ∃ (row : List Int) (vr : V) (B3 : Hp), GoodRow row ∧ Amb B H B3 H' ∧ Ex B1 B3 ∧ Dt K B3 vr (dL row) ∧ σ' = [some v, some (.int (many : Nat)), some vr, none, none, none, none, none, none], ?_, fun σ' H' c => ?_⟩
  · refine s_if x2 (b := decide (draw ns 3 % 3 = 1)) (et_test (K := K) (ev_eqI (ev_mod (ev_call (by walk_at "evA") ⟨ns, 3, rfl, by omega, by omega, rfl⟩) ev_int (by decide)) ev_int)) (fun hb H' e s => ?_) (fun hb H' e s => ?_)
    · have a0 : 0 ≤ cell ns 4 % 10 ^ 18 := Int.emod_nonneg _ (by decide)
      have a1 : cell ns 4 % 10 ^ 18 < 10 ^ 18 := Int.emod_lt_of_pos _ (by decide)
      refine s_asgN (K := K) s (ev_lcL0 PyData.int (fun x => PyData.int (x * (cell ns 4 % 10 ^ 18 + 1) - cell ns 5 % 10 ^ 20)) (xs := order ns 100 many) (ev_var rfl dr) (by omega) (fun _ => rfl) fun x n B' e' m dx => ?_) fun q ws B4 H4 s4 i4 hq hq0 hb4 h4 hw => ?_
      · have hn := (mem_upTo.mp ((order_perm ns 100 many b1.1).mem_iff.mp m))
        refine ev_sub (ev_mul (ev_var rfl dx) (ev_add (ev_mod (ev_call (by walk_at "evA") ⟨ns, 4, rfl, by omega, rfl⟩) (ev_pow ev_int ev_int ⟨by decide, by decide, by decide⟩) (by decide)) ev_int) (.inl (by omega))) (ev_mod (ev_call (by walk_at "evA") ⟨ns, 5, rfl, by omega, rfl⟩) (ev_pow ev_int ev_int ⟨by decide, by decide, by decide⟩) (by decide))
      · have o4 : Own H B4 H4 q ws := ⟨hq0, hb4, h4⟩
        refine ⟨(order ns 100 many).map fun x => x * (cell ns 4 % 10 ^ 18 + 1) - cell ns 5 % 10 ^ 20, .ref q, _, ⟨by rw [List.length_map]; omega, by rw [List.length_map]; omega, affine_nodup ond _ _ (by omega)⟩, o4.keep s4, ((i2.bb.trans e2).trans i4.bb).trans (Ex.new hb4), o4.dt (ds := ((order ns 100 many).map fun x => x * (cell ns 4 % 10 ^ 18 + 1) - cell ns 5 % 10 ^ 20).map PyData.int) ?_, rfl⟩
        rw [List.map_map]
        exact hw
    · exact ⟨order ns 100 many, .ref p, _, ⟨by omega, by omega, ond⟩, s, i2.bb.trans e2, dr, rfl⟩
  obtain ⟨row, vr, B3, g, s3, e3, dr, rfl⟩ := c
  have hrl := g.2.1
  refine q_asgN (K := K) s3 (ev_list (by walk_at "ev")) fun ph vsh B4 H4 s4 i4 hph hph0 hb4 h4 hvh => ?_
  have o4 : Own H B4 H4 ph vsh := ⟨hph0, hb4, h4⟩
  have s5 := o4.keep s4
  have dh := o4.dt hvh
  have e5 : Ex B4 (upd B4 ph (.lst vsh)) := Ex.new hb4
  generalize hB5 : upd B4 ph (.lst vsh) = B5 at *
  refine q_asg (K := K) s5 (d := dLL [seenI row, backI row]) (EvN.toD (ev_lst (ea_cons (EvN.toD (ev_callN (by walk_at "evA") ⟨row, rfl, by omega, rfl⟩)) (ea_cons (EvN.toD (ev_callN (by walk_at "evA") ⟨row, rfl, by omega, rfl⟩)) ea_nil)))) fun vd B6 H6 s6 i6 dd => ?_
  have dr6 : Dt K B6 vr (dL row) := by walk_at "lift"
  have dh6 : Dt K B6 (.ref ph) (dL row) := by walk_at "lift"
  have dv6 : Dt K B6 v (dS ns) := by walk_at "lift"
  clear i4 e5 i6 e3 i2 i1
  refine q_forR1 (K := K) (R := fun i σ' B' H' => ∃ y5 y6, σ' = [some v, some (.int (many : Nat)), some vr, some (.ref ph), some vd, y5, y6, none, none]) s6 (n := 2) (ea_cons ev_int ea_nil) (by omega)
    (fun B7 H7 s7 i7 => ⟨_, _, rfl⟩) (fun i σ' B7 H7 hi s7 e7 c => ?_) (fun σ' B7 H7 s7 e7 c => ?_)
  · obtain ⟨y5, y6, rfl⟩ := c
    -- told = [front(handed), back(handed)]
    refine q_asgTwo (K := K) s7 (ev_callXN (by walk_at "evA") ⟨row, rfl, g, rfl⟩) (ev_callXN (by walk_at "evA") ⟨row, rfl, g, rfl⟩) fun p1 vs1 p2 vs2 l B8 H8 s8 i8 o1 o2 ol n12 nl1 nl2 d1 d2 => ?_
    obtain rfl := d1.ints
    obtain rfl := d2.ints
    have o1' := o1.back s7.hh
    have o2' := o2.back s7.hh
    have ol' := ol.back s7.hh
    generalize hB9 : upd (upd (upd B8 p1 (.lst ((seenI row).map V.int))) p2 (.lst ((backI row).map V.int))) l (.lst [.ref p1, .ref p2]) = B9
    have s9 : Amb B H B9 H8 := by
      rw [← hB9]
      exact ((s8.keep o1'.h0 o1'.hh).keep o2'.h0 o2'.hh).keep ol'.h0 ol'.hh
    have x1 : Ex B8 (upd B8 p1 (.lst ((seenI row).map V.int))) := Ex.new o1.hb
    have x2 : Ex (upd B8 p1 (.lst ((seenI row).map V.int))) (upd (upd B8 p1 (.lst ((seenI row).map V.int))) p2 (.lst ((backI row).map V.int))) := Ex.new (by rw [upd_ne n12.symm]; exact o2.hb)
    have x3 : Ex (upd (upd B8 p1 (.lst ((seenI row).map V.int))) p2 (.lst ((backI row).map V.int))) B9 := by
      rw [← hB9]
      exact Ex.new (by rw [upd_ne nl2, upd_ne nl1]; exact ol.hb)
    have e9 : Ex B8 B9 := (x1.trans x2).trans x3
    have dl : Dt K B9 (.ref l) (dLL [seenI row, backI row]) := by
      refine .lst (xs := [.ref p1, .ref p2]) (by rw [← hB9, upd_same]) (.cons (.of_ints (x3 _ _ (x2 _ _ upd_same))) (.cons (.of_ints (x3 _ _ upd_same)) .nil))
    clear x1 x2 x3
    refine q_when (b := false) s9 (EvT.is (et_or (b := !true) (b' := (!true) || (!decide (row = row))) (et_not (et_B (K := K) (ev_call (ea_cons (ev_ix (ds := [dL (seenI row), dL (backI row)]) (by walk_at "ev") ev_int rfl) (ea_cons (ev_ix (ds := [dL (seenI row), dL (backI row)]) (by walk_at "ev") ev_int rfl) ea_nil)) ⟨seenI row, seenI row, rfl, ?_, by rw [decide_eq_true rfl]⟩))) fun _ => et_or (et_not (et_B (K := K) (ev_call (ea_cons (ev_ix (ds := [dL (seenI row), dL (backI row)]) (by walk_at "ev") ev_int rfl) (ea_cons (ev_ix (ds := [dL (seenI row), dL (backI row)]) (by walk_at "ev") ev_int rfl) ea_nil)) ⟨backI row, backI row, rfl, ?_, by rw [decide_eq_true rfl]⟩))) fun _ => et_test (K := K) (ev_neL (by walk_at "ev") (by walk_at "ev"))) (by rw [decide_eq_true rfl]; rfl)) (fun hb => by cases hb) (fun _ H' e s => ?_)
    · rw [seenI_len]
      exact Nat.le_trans (List.length_filter_le _ _) (by rw [List.length_range]; omega)
    · rw [backI_len]
      exact Nat.le_trans (List.length_filter_le _ _) (by rw [List.length_range]; omega)
    · have a8 : Amb B H B8 H' := s8.heap e
      have q1 := o1'.heap e
      have q2 := o2'.heap e
      have ql := ol'.heap e
      refine ⟨.ref l, rfl, l, [.ref p1, .ref p2], 0, .ref p1, rfl, rfl, .inl (.inl ql.hh), rfl, .inl ⟨rfl, _, .inl (.inl q1.hh)⟩, p1, (seenI row).map V.int, .int 0, rfl, rfl, q1.hh, ?_, ?_⟩
      · rw [List.length_map, seenI_len]
        exact Nat.lt_of_le_of_lt (Nat.le_trans (List.length_filter_le _ _) (by rw [List.length_range]; omega : _ ≤ 1000)) (by decide)
      · refine ⟨.ref l, rfl, l, [.ref p1, .ref p2], 1, .ref p2, rfl, rfl, .inl (.inl (ql.other nl1).hh), rfl, .inl ⟨rfl, _, .inl (.inl (q2.other n12.symm).hh)⟩, p2, (backI row).map V.int, rfl, rfl, (q2.other n12.symm).hh, ?_⟩
        exact ⟨B8, ((q2.other n12.symm).mut (q1.mut a8)), e7.trans i8.bb, _, _, rfl⟩
  · obtain ⟨y5, y6, rfl⟩ := c
    refine q_asg (K := K) s7 (ev_callX (by walk_at "evA") ⟨row, rfl, g, rfl⟩) fun vf B8 H8 s8 i8 df => ?_
    refine q_when (b := false) s8 (EvT.is (et_or (b := !true) (b' := (!decide ((2 : Int) = 2)) || ((!true) || (!true))) (et_not (et_B (K := K) (ev_isi (d := dSight row) (by walk_at "ev") kit_tuple_tuple (Sh.tuple (n := 0) (by simp [sh_int])).pure))) fun _ => ?_) (by rfl)) (fun hb => by cases hb) (fun _ H' e s => ?_)
    · refine et_or (et_test (K := K) (ev_neI (ev_lenT (ds := [.int ((seen row).length : Nat), .int ((backs row).length : Nat)]) (by walk_at "ev")) ev_int)) fun _ => et_or (et_not (et_B (K := K) (ev_call (ea_cons (ev_ixT (by walk_at "ev") ev_int rfl) ea_nil) ⟨_, rfl, rfl⟩))) fun _ => et_not (et_B (K := K) (ev_call (ea_cons (ev_ixT (by walk_at "ev") ev_int rfl) ea_nil) ⟨_, rfl, rfl⟩))
    · refine s_ret (K := K) s (EvF.is (ev_andV (b := true) (b' := true) (EvF.is (ev_eq (d1 := dSight row) (d2 := dSight row) (by walk_at "ev") (EvF.is (ev_tup (ea_cons (ev_len (ev_ix (ds := [dL (seenI row), dL (backI row)]) (by walk_at "ev") ev_int rfl)) (ea_cons (ev_len (ev_ix (ds := [dL (seenI row), dL (backI row)]) (by walk_at "ev") ev_int rfl)) ea_nil))) ?_) (Sh.tuple (n := 0) (by simp [sh_int])).pure (Sh.tuple (n := 0) (by simp [sh_int])).pure (Sh.tuple (n := 0) (by simp [sh_int])).shaped (Sh.tuple (n := 0) (by simp [sh_int])).shaped) ?_) fun _ => EvF.is (ev_eqL (by walk_at "ev") (by walk_at "ev")) ?_) rfl) k
      · rw [List.length_map, List.length_map, seenI_len, backI_len]
        rfl
      · unfold dSight
        rw [eqv_tup2, decide_eq_true rfl, decide_eq_true rfl]
        rfl
      · rw [decide_eq_true rfl]
end
theorem all_mk {l : PySem.W.OpenLaw} {w : World} {K : PySem.W.Frag} {h : Heap} {mg : Str → Option Value} {fa f1 f2 f3 f4 f5 f6 f7 f8 f9 f10 f11 f12 f13 f14 : Addr} (X : K.In h) (G : h.Ns mainGlobals mg) (hfa : mg "law" = some (.ref fa))
    {od1 an1 od2 an2 od3 an3 od4 an4 od5 an5 od6 an6 od7 an7 od8 an8 od9 an9 od10 an10 od11 an11 od12 an12 od13 an13 od14 an14 : Option Addr} {sl1 sl2 sl3 sl4 sl5 sl6 sl7 sl8 sl9 sl10 sl11 sl12 sl13 sl14 : Array (Option Value)} {oc1 kV1 dc1 pm1 cd1 ct1 oc2 kV2 dc2 pm2 cd2 ct2 oc3 kV3 dc3 pm3 cd3 ct3 oc4 kV4 dc4 pm4 cd4 ct4 oc5 kV5 dc5 pm5 cd5 ct5 oc6 kV6 dc6 pm6 cd6 ct6 oc7 kV7 dc7 pm7 cd7 ct7 oc8 kV8 dc8 pm8 cd8 ct8 oc9 kV9 dc9 pm9 cd9 ct9 oc10 kV10 dc10 pm10 cd10 ct10 oc11 kV11 dc11 pm11 cd11 ct11 oc12 kV12 dc12 pm12 cd12 ct12 oc13 kV13 dc13 pm13 cd13 ct13 oc14 kV14 dc14 pm14 cd14 ct14 : Value}
    (a1 : PySem.W.nsIn K mainGlobals "see_row" = some (some (.ref f1))) (l1 : K.lookup f1 = some ⟨oc1, od1, .func (PySem.W.fnOf "see_row" "see_row" (defArgs s_see_row) (defBody s_see_row) (defScope s_see_row) .none kV1 dc1 pm1 an1 cd1 ct1), sl1⟩) (c1 : PySem.W.codeIn K cd1 "see_row" = true) (k1 : PySem.W.keepIn K (.ref f1) = true)
    (a2 : PySem.W.nsIn K mainGlobals "seen_from_front" = some (some (.ref f2))) (l2 : K.lookup f2 = some ⟨oc2, od2, .func (PySem.W.fnOf "seen_from_front" "seen_from_front" (defArgs s_seen_from_front) (defBody s_seen_from_front) (defScope s_seen_from_front) .none kV2 dc2 pm2 an2 cd2 ct2), sl2⟩) (c2 : PySem.W.codeIn K cd2 "seen_from_front" = true) (k2 : PySem.W.keepIn K (.ref f2) = true)
    (a3 : PySem.W.nsIn K mainGlobals "front" = some (some (.ref f3))) (l3 : K.lookup f3 = some ⟨oc3, od3, .func (PySem.W.fnOf "front" "front" (defArgs s_front) (defBody s_front) (defScope s_front) .none kV3 dc3 pm3 an3 cd3 ct3), sl3⟩) (c3 : PySem.W.codeIn K cd3 "front" = true) (k3 : PySem.W.keepIn K (.ref f3) = true)
    (a4 : PySem.W.nsIn K mainGlobals "back" = some (some (.ref f4))) (l4 : K.lookup f4 = some ⟨oc4, od4, .func (PySem.W.fnOf "back" "back" (defArgs s_back) (defBody s_back) (defScope s_back) .none kV4 dc4 pm4 an4 cd4 ct4), sl4⟩) (c4 : PySem.W.codeIn K cd4 "back" = true) (k4 : PySem.W.keepIn K (.ref f4) = true)
    (a5 : PySem.W.nsIn K mainGlobals "sight" = some (some (.ref f5))) (l5 : K.lookup f5 = some ⟨oc5, od5, .func (PySem.W.fnOf "sight" "sight" (defArgs s_sight) (defBody s_sight) (defScope s_sight) .none kV5 dc5 pm5 an5 cd5 ct5), sl5⟩) (c5 : PySem.W.codeIn K cd5 "sight" = true) (k5 : PySem.W.keepIn K (.ref f5) = true)
    (a6 : PySem.W.nsIn K mainGlobals "_law_cell_at" = some (some (.ref f6))) (l6 : K.lookup f6 = some ⟨oc6, od6, .func (PySem.W.fnOf "_law_cell_at" "_law_cell_at" (defArgs s__law_cell_at) (defBody s__law_cell_at) (defScope s__law_cell_at) .none kV6 dc6 pm6 an6 cd6 ct6), sl6⟩) (c6 : PySem.W.codeIn K cd6 "_law_cell_at" = true) (k6 : PySem.W.keepIn K (.ref f6) = true)
    (a7 : PySem.W.nsIn K mainGlobals "_law_draw" = some (some (.ref f7))) (l7 : K.lookup f7 = some ⟨oc7, od7, .func (PySem.W.fnOf "_law_draw" "_law_draw" (defArgs s__law_draw) (defBody s__law_draw) (defScope s__law_draw) .none kV7 dc7 pm7 an7 cd7 ct7), sl7⟩) (c7 : PySem.W.codeIn K cd7 "_law_draw" = true) (k7 : PySem.W.keepIn K (.ref f7) = true)
    (a8 : PySem.W.nsIn K mainGlobals "_law_whole" = some (some (.ref f8))) (l8 : K.lookup f8 = some ⟨oc8, od8, .func (PySem.W.fnOf "_law_whole" "_law_whole" (defArgs s__law_whole) (defBody s__law_whole) (defScope s__law_whole) .none kV8 dc8 pm8 an8 cd8 ct8), sl8⟩) (c8 : PySem.W.codeIn K cd8 "_law_whole" = true) (k8 : PySem.W.keepIn K (.ref f8) = true)
    (a9 : PySem.W.nsIn K mainGlobals "_law_order" = some (some (.ref f9))) (l9 : K.lookup f9 = some ⟨oc9, od9, .func (PySem.W.fnOf "_law_order" "_law_order" (defArgs s__law_order) (defBody s__law_order) (defScope s__law_order) .none kV9 dc9 pm9 an9 cd9 ct9), sl9⟩) (c9 : PySem.W.codeIn K cd9 "_law_order" = true) (k9 : PySem.W.keepIn K (.ref f9) = true)
    (a10 : PySem.W.nsIn K mainGlobals "_law_seen" = some (some (.ref f10))) (l10 : K.lookup f10 = some ⟨oc10, od10, .func (PySem.W.fnOf "_law_seen" "_law_seen" (defArgs s__law_seen) (defBody s__law_seen) (defScope s__law_seen) .none kV10 dc10 pm10 an10 cd10 ct10), sl10⟩) (c10 : PySem.W.codeIn K cd10 "_law_seen" = true) (k10 : PySem.W.keepIn K (.ref f10) = true)
    (a11 : PySem.W.nsIn K mainGlobals "_law_back" = some (some (.ref f11))) (l11 : K.lookup f11 = some ⟨oc11, od11, .func (PySem.W.fnOf "_law_back" "_law_back" (defArgs s__law_back) (defBody s__law_back) (defScope s__law_back) .none kV11 dc11 pm11 an11 cd11 ct11), sl11⟩) (c11 : PySem.W.codeIn K cd11 "_law_back" = true) (k11 : PySem.W.keepIn K (.ref f11) = true)
    (a12 : PySem.W.nsIn K mainGlobals "_law_sight" = some (some (.ref f12))) (l12 : K.lookup f12 = some ⟨oc12, od12, .func (PySem.W.fnOf "_law_sight" "_law_sight" (defArgs s__law_sight) (defBody s__law_sight) (defScope s__law_sight) .none kV12 dc12 pm12 an12 cd12 ct12), sl12⟩) (c12 : PySem.W.codeIn K cd12 "_law_sight" = true) (k12 : PySem.W.keepIn K (.ref f12) = true)
    (a13 : PySem.W.nsIn K mainGlobals "_law_numbers" = some (some (.ref f13))) (l13 : K.lookup f13 = some ⟨oc13, od13, .func (PySem.W.fnOf "_law_numbers" "_law_numbers" (defArgs s__law_numbers) (defBody s__law_numbers) (defScope s__law_numbers) .none kV13 dc13 pm13 an13 cd13 ct13), sl13⟩) (c13 : PySem.W.codeIn K cd13 "_law_numbers" = true) (k13 : PySem.W.keepIn K (.ref f13) = true)
    (a14 : PySem.W.nsIn K mainGlobals "law" = some (some (.ref f14))) (l14 : K.lookup f14 = some ⟨oc14, od14, .func (PySem.W.fnOf "law" "law" (defArgs s_law) (defBody s_law) (defScope s_law) .none kV14 dc14 pm14 an14 cd14 ct14), sl14⟩) (c14 : PySem.W.codeIn K cd14 "law" = true) (k14 : PySem.W.keepIn K (.ref f14) = true)
    {C_BadRow : Addr} (g_BadRow : PySem.W.nsIn K mainGlobals "BadRow" = some (some (.ref C_BadRow))) (x_BadRow : PySem.W.excIn K C_BadRow [.type "ValueError", .type "Exception", .type "BaseException", .type "object"] "ValueError.__new__" = true) (kp_BadRow : PySem.W.keepIn K (.ref C_BadRow) = true) (b_BadRow : PySem.W.subIn K (.ref C_BadRow) (.type "BaseException") = some true) (t_BadRow : PySem.W.typeIn K (.ref C_BadRow) = some (.type "type"))
    (z_len : PySem.W.nsIn K mainGlobals "len" = some none)
    (z_range : PySem.W.nsIn K mainGlobals "range" = some none)
    (z_list : PySem.W.nsIn K mainGlobals "list" = some none)
    (z_tuple : PySem.W.nsIn K mainGlobals "tuple" = some none)
    (z_set : PySem.W.nsIn K mainGlobals "set" = some none)
    (z_sorted : PySem.W.nsIn K mainGlobals "sorted" = some none)
    (z_max : PySem.W.nsIn K mainGlobals "max" = some none)
    (z_min : PySem.W.nsIn K mainGlobals "min" = some none)
    (z_sum : PySem.W.nsIn K mainGlobals "sum" = some none)
    (z_int : PySem.W.nsIn K mainGlobals "int" = some none)
    (z_bool : PySem.W.nsIn K mainGlobals "bool" = some none)
    (z_isinstance : PySem.W.nsIn K mainGlobals "isinstance" = some none)
    (z_reversed : PySem.W.nsIn K mainGlobals "reversed" = some none)
    (z_ValueError : PySem.W.nsIn K mainGlobals "ValueError" = some none)
    : ∃ fd : FuncData, (∀ (s : Shared) (v : Value), BindsTo s fd ⟨[v], []⟩ [("script", v)]) ∧ ∀ base : Heap, K.In base → base.Ns mainGlobals mg → FnOk l.prog w K mg base (L2.CX l.prog w) 4 fa fd ["script"] (sp_law K) := by
  have e := hfa.symm.trans (PySem.W.mg_of X G a14)
  cases e
  have T : Glo mg := ⟨PySem.W.mg_none_of X G z_len, PySem.W.mg_none_of X G z_range, PySem.W.mg_none_of X G z_list, PySem.W.mg_none_of X G z_tuple, PySem.W.mg_none_of X G z_set, PySem.W.mg_none_of X G z_sorted, PySem.W.mg_none_of X G z_max, PySem.W.mg_none_of X G z_min, PySem.W.mg_none_of X G z_sum, PySem.W.mg_none_of X G z_int, PySem.W.mg_none_of X G z_bool, PySem.W.mg_none_of X G z_isinstance, PySem.W.mg_none_of X G z_reversed, PySem.W.mg_none_of X G z_ValueError⟩
  have c_BadRow : ECls K mg "BadRow" C_BadRow := ⟨PySem.W.mg_of X G g_BadRow, x_BadRow, kp_BadRow, b_BadRow, t_BadRow⟩
  have F1 := fun_mk (st := s_see_row) l1 c1 k1
  have F2 := fun_mk (st := s_seen_from_front) l2 c2 k2
  have F3 := fun_mk (st := s_front) l3 c3 k3
  have F4 := fun_mk (st := s_back) l4 c4 k4
  have F5 := fun_mk (st := s_sight) l5 c5 k5
  have F6 := fun_mk (st := s__law_cell_at) l6 c6 k6
  have F7 := fun_mk (st := s__law_draw) l7 c7 k7
  have F8 := fun_mk (st := s__law_whole) l8 c8 k8
  have F9 := fun_mk (st := s__law_order) l9 c9 k9
  have F10 := fun_mk (st := s__law_seen) l10 c10 k10
  have F11 := fun_mk (st := s__law_back) l11 c11 k11
  have F12 := fun_mk (st := s__law_sight) l12 c12 k12
  have F13 := fun_mk (st := s__law_numbers) l13 c13 k13
  have F14 := fun_mk (st := s_law) l14 c14 k14
  refine ⟨PySem.W.fnOf "law" "law" (defArgs s_law) (defBody s_law) (defScope s_law) .none kV14 dc14 pm14 an14 cd14 ct14, fun s v => .of_eq rfl, fun base _ _ => ?_⟩
  have h_see_row : Has l.prog w K mg base 1 "see_row" ["row"] (sp_see_row K C_BadRow) := Has.mk' F1 (ok_see_row F1 T c_BadRow) (PySem.W.mg_of X G a1) (F1.binds fun _ _ _ _ _ _ us hl => match us, hl with | [_], _ => rfl)
  have h_seen_from_front : Has l.prog w K mg base 1 "seen_from_front" ["row"] (sp_seen_from_front K) := Has.mk' F2 (ok_seen_from_front F2 T) (PySem.W.mg_of X G a2) (F2.binds fun _ _ _ _ _ _ us hl => match us, hl with | [_], _ => rfl)
  have h_front : Has l.prog w K mg base 2 "front" ["row"] (sp_front K C_BadRow) := Has.mk' F3 (ok_front F3 T c_BadRow h_seen_from_front h_see_row) (PySem.W.mg_of X G a3) (F3.binds fun _ _ _ _ _ _ us hl => match us, hl with | [_], _ => rfl)
  have h_back : Has l.prog w K mg base 2 "back" ["row"] (sp_back K C_BadRow) := Has.mk' F4 (ok_back F4 T c_BadRow h_seen_from_front h_see_row) (PySem.W.mg_of X G a4) (F4.binds fun _ _ _ _ _ _ us hl => match us, hl with | [_], _ => rfl)
  have h_sight : Has l.prog w K mg base 3 "sight" ["row"] (sp_sight K C_BadRow) := Has.mk' F5 (ok_sight F5 T c_BadRow h_back h_front h_see_row) (PySem.W.mg_of X G a5) (F5.binds fun _ _ _ _ _ _ us hl => match us, hl with | [_], _ => rfl)
  have h__law_cell_at : Has l.prog w K mg base 1 "_law_cell_at" ["script", "k"] (sp__law_cell_at K) := Has.mk' F6 (ok__law_cell_at F6 T) (PySem.W.mg_of X G a6) (F6.binds fun _ _ _ _ _ _ us hl => match us, hl with | [_, _], _ => rfl)
  have h__law_draw : Has l.prog w K mg base 2 "_law_draw" ["script", "k"] (sp__law_draw K) := Has.mk' F7 (ok__law_draw F7 T h__law_cell_at) (PySem.W.mg_of X G a7) (F7.binds fun _ _ _ _ _ _ us hl => match us, hl with | [_, _], _ => rfl)
  have h__law_whole : Has l.prog w K mg base 1 "_law_whole" ["found"] (sp__law_whole K) := Has.mk' F8 (ok__law_whole F8 T) (PySem.W.mg_of X G a8) (F8.binds fun _ _ _ _ _ _ us hl => match us, hl with | [_], _ => rfl)
  have h__law_order : Has l.prog w K mg base 3 "_law_order" ["script", "start", "many"] (sp__law_order K) := Has.mk' F9 (ok__law_order F9 T h__law_draw) (PySem.W.mg_of X G a9) (F9.binds fun _ _ _ _ _ _ us hl => match us, hl with | [_, _, _], _ => rfl)
  have h__law_seen : Has l.prog w K mg base 1 "_law_seen" ["row"] (sp__law_seen K) := Has.mk' F10 (ok__law_seen F10 T) (PySem.W.mg_of X G a10) (F10.binds fun _ _ _ _ _ _ us hl => match us, hl with | [_], _ => rfl)
  have h__law_back : Has l.prog w K mg base 1 "_law_back" ["row"] (sp__law_back K) := Has.mk' F11 (ok__law_back F11 T) (PySem.W.mg_of X G a11) (F11.binds fun _ _ _ _ _ _ us hl => match us, hl with | [_], _ => rfl)
  have h__law_sight : Has l.prog w K mg base 2 "_law_sight" ["row"] (sp__law_sight K) := Has.mk' F12 (ok__law_sight F12 T h__law_back h__law_seen) (PySem.W.mg_of X G a12) (F12.binds fun _ _ _ _ _ _ us hl => match us, hl with | [_], _ => rfl)
  have h__law_numbers : Has l.prog w K mg base 2 "_law_numbers" ["found", "due"] (sp__law_numbers K) := Has.mk' F13 (ok__law_numbers F13 T h__law_whole) (PySem.W.mg_of X G a13) (F13.binds fun _ _ _ _ _ _ us hl => match us, hl with | [_, _], _ => rfl)
  exact ok_law (base := base) (P := l.prog) (w := w) F14 T c_BadRow h__law_whole h_sight h__law_numbers h_back h_front h__law_back h__law_seen h__law_draw h__law_cell_at h__law_order
theorem noCX {P : Program} {w : World} {H : Hp} {s s' : Shared} {e : Value} (h : L2.CX P w [] H s (fun _ _ _ => False) e s') : False := by
  obtain ⟨_, _, _, _, _, _, _, _, _, _, _, _, z⟩ := h
  exact z
end Rs
open PySem PySem.W PyProof.Rows
set_option maxHeartbeats 0 in
theorem PySem.Challenge.cw_rowsight_k01_who_is_seen_holds : PySem.Challenge.rw_rowsight_k01_who_is_seen.Holds := by
  w_on; o_law; k_head; (case hw => w_witness2)
  k_fill
  refine L2.walk_of (l := PySem.Challenge.rw_rowsight_k01_who_is_seen) (n := 63) (k := 4) (x := "script") (CX := fun w => L2.CX PySem.Challenge.rw_rowsight_k01_who_is_seen.prog w) (sp := fun w => Rs.sp_law _) rfl (by decide) rfl ⟨rfl, by decide, by decide⟩ (fun w h Y => PySem.W.kIn_of Y) ?F
    (fun _ H a ns hl _ hS => ⟨H, [Rs.dS ns], .bool true, Rs.Ex.refl _, .cons (.scr hS) .nil, ⟨ns, rfl, hl, rfl⟩, fun v B' H' s dv => dv.bl_eq⟩) (fun _ _ _ _ _ h => Rs.noCX h)
  case F =>
    intro w mg fa h KX G hmg
    refine' Rs.all_mk KX G hmg ?a1 ?l1 ?c1 ?k1 ?a2 ?l2 ?c2 ?k2 ?a3 ?l3 ?c3 ?k3 ?a4 ?l4 ?c4 ?k4 ?a5 ?l5 ?c5 ?k5 ?a6 ?l6 ?c6 ?k6 ?a7 ?l7 ?c7 ?k7 ?a8 ?l8 ?c8 ?k8 ?a9 ?l9 ?c9 ?k9 ?a10 ?l10 ?c10 ?k10 ?a11 ?l11 ?c11 ?k11 ?a12 ?l12 ?c12 ?k12 ?a13 ?l13 ?c13 ?k13 ?a14 ?l14 ?c14 ?k14 ?g_BadRow ?x_BadRow ?kp_BadRow ?b_BadRow ?t_BadRow ?z_len ?z_range ?z_list ?z_tuple ?z_set ?z_sorted ?z_max ?z_min ?z_sum ?z_int ?z_bool ?z_isinstance ?z_reversed ?z_ValueError
    (case a1 => k_is)
    (case l1 => k_is)
    (case c1 => k_is)
    (case k1 => k_is)
    (case a2 => k_is)
    (case l2 => k_is)
    (case c2 => k_is)
    (case k2 => k_is)
    (case a3 => k_is)
    (case l3 => k_is)
    (case c3 => k_is)
    (case k3 => k_is)
    (case a4 => k_is)
    (case l4 => k_is)
    (case c4 => k_is)
    (case k4 => k_is)
    (case a5 => k_is)
    (case l5 => k_is)
    (case c5 => k_is)
    (case k5 => k_is)
    (case a6 => k_is)
    (case l6 => k_is)
    (case c6 => k_is)
    (case k6 => k_is)
    (case a7 => k_is)
    (case l7 => k_is)
    (case c7 => k_is)
    (case k7 => k_is)
    (case a8 => k_is)
    (case l8 => k_is)
    (case c8 => k_is)
    (case k8 => k_is)
    (case a9 => k_is)
    (case l9 => k_is)
    (case c9 => k_is)
    (case k9 => k_is)
    (case a10 => k_is)
    (case l10 => k_is)
    (case c10 => k_is)
    (case k10 => k_is)
    (case a11 => k_is)
    (case l11 => k_is)
    (case c11 => k_is)
    (case k11 => k_is)
    (case a12 => k_is)
    (case l12 => k_is)
    (case c12 => k_is)
    (case k12 => k_is)
    (case a13 => k_is)
    (case l13 => k_is)
    (case c13 => k_is)
    (case k13 => k_is)
    (case a14 => k_is)
    (case l14 => k_is)
    (case c14 => k_is)
    (case k14 => k_is)
    (case g_BadRow => k_is)
    (case x_BadRow => k_exc)
    (case kp_BadRow => k_is)
    (case b_BadRow => k_is)
    (case t_BadRow => k_is)
    (case z_len => k_is)
    (case z_range => k_is)
    (case z_list => k_is)
    (case z_tuple => k_is)
    (case z_set => k_is)
    (case z_sorted => k_is)
    (case z_max => k_is)
    (case z_min => k_is)
    (case z_sum => k_is)
    (case z_int => k_is)
    (case z_bool => k_is)
    (case z_isinstance => k_is)
    (case z_reversed => k_is)
    (case z_ValueError => k_is)
#print axioms PySem.Challenge.cw_rowsight_k01_who_is_seen_holds

