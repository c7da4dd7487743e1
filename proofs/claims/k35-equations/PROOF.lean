import PyProof.Rows.All
import Wide.All
import OpenK.AllK
import Wide.FinOn
import HandS.ForMost
import HandS.ForExc
import HandS.TryOnly
import HandS.TryMany
import HandS.IsInst
import HandS.Wide
import HandS.TupAny
import HandS.TupMul
import HandS.Deep
import HandS.Flow
import HandS.Conv
import HandS.Style
import HandS.Iter
import HandS.Zip
import HandS.Comp
import HandS.Codes
import HandS.WordsExc
import HandS.ExcIs
import PySem.Challenge.RW_tablesswitched_k35_whole_equations_of_ta
import HandS.EndBits
set_option Elab.async false
set_option linter.all false
set_option maxRecDepth 100000
/-! DL0 -/
/-! DL0: data without a heap, what stands for it, the state of a body. -/
namespace DL
open PySem PySem.Spec PyProof.Rows L2

/-- data: what a value stands for. fn: a def of the text by its name; dr: the list of draws -/
inductive D where
  | non | bl (b : Bool) | int (i : Int) | str (x : Str) | fn (x : Str) | dr
  | tup (xs : List D) | lst (o : Bool) (xs : List D)
deriving Inhabited

mutual
/-- what is one's own is given away -/
def D.fz : D → D
  | .lst _ xs => .lst false (D.fzs xs)
  | .tup xs => .tup xs
  | .non => .non | .bl b => .bl b | .int i => .int i | .str x => .str x | .fn x => .fn x | .dr => .dr
def D.fzs : List D → List D
  | [] => []
  | x :: xs => D.fz x :: D.fzs xs
end
mutual
/-- nothing of one's own within -/
def D.frz : D → Bool
  | .lst o xs => !o
  | _ => true
end
mutual
def D.eqv : D → D → Bool
  | .non, .non => true
  | .bl a, .bl b => a == b
  | .bl a, .int b => (if a then 1 else 0) == b
  | .int a, .bl b => a == (if b then 1 else 0)
  | .int a, .int b => a == b
  | .str a, .str b => a == b
  | .tup xs, .tup ys => D.eqvs xs ys
  | .lst _ xs, .lst _ ys => D.eqvs xs ys
  | _, _ => false
def D.eqvs : List D → List D → Bool
  | [], [] => true
  | x :: xs, y :: ys => D.eqv x y && D.eqvs xs ys
  | _, _ => false
end
theorem fzs_map (xs : List D) : D.fzs xs = xs.map D.fz := by
  induction xs with
  | nil => rfl
  | cons x xs ih => simp [D.fzs, ih]

/-! ### the draws -/
structure Dw where
  cells : List Int
  p : Int
  q : Int
  left : Int
  seed : Int
  cnt : Int
abbrev Dr := Option Dw
structure Exn where
  cls : Str
  fld : Option (Str × Str) := none
inductive R (α : Type) where
  | st | ok (a : α) (dr : Dr) | ex (e : Exn) (dr : Dr)
def R.bind {α β : Type} : R α → (α → Dr → R β) → R β
  | .st, _ => .st
  | .ok a d, f => f a d
  | .ex e d, _ => .ex e d
def R.opt {α : Type} : Option α → Dr → R α
  | some a, d => .ok a d
  | none, _ => .st
abbrev Rho := List (Option D)
abbrev CEx := Rho → Dr → R D
abbrev CTx := Rho → Dr → R Bool
abbrev CAx := Rho → Dr → R (List D)

/-! ### what stands for data -/
structure DC where
  K : PySem.W.Frag
  mg : Str → Option Value
  dra : Option (Addr × Addr)
/-- a tuple of the written part -/
def KT (K : PySem.W.Frag) (a : Addr) (vs : List V) : Prop :=
  ∃ (o : Obj) (its : Array Value) (n : Nat), K.lookup a = some o ∧ o.cls = .type "tuple" ∧ o.data = .seq its n ∧ its.size ≤ sizeLine ∧ Vals vs its.toList
mutual
inductive Rp (c : DC) (O : Addr → Prop) (H : Hp) : V → D → List Addr → Prop where
  | non : Rp c O H .non .non []
  | bl (b : Bool) : Rp c O H (.bl b) (.bl b) []
  | int (i : Int) : Rp c O H (.int i) (.int i) []
  | str (x : Str) : Rp c O H (.str x) (.str x) []
  | fn {x : Str} {f : Addr} : c.mg x = some (.ref f) → Rp c O H (.ref f) (.fn x) []
  | dr {p : Addr × Addr} : c.dra = some p → Rp c O H (.ref p.1) .dr []
  | tup {a : Addr} {vs : List V} {ds : List D} : H a = some (.tup vs) → ¬ O a → Rps c O H vs ds [] → Rp c O H (.ref a) (.tup ds) []
  | tupK {a : Addr} {vs : List V} {ds : List D} : KT c.K a vs → Rps c O H vs ds [] → Rp c O H (.ref a) (.tup ds) []
  | lst {a : Addr} {vs : List V} {ds : List D} : H a = some (.lst vs) → ¬ O a → Rps c O H vs ds [] → Rp c O H (.ref a) (.lst false ds) []
  | own {a : Addr} {vs : List V} {ds : List D} {fp : List Addr} : H a = some (.lst vs) → Rps c O H vs ds fp → Rp c O H (.ref a) (.lst true ds) (a :: fp)
inductive Rps (c : DC) (O : Addr → Prop) (H : Hp) : List V → List D → List Addr → Prop where
  | nil : Rps c O H [] [] []
  | cons {v : V} {d : D} {fp : List Addr} {vs : List V} {ds : List D} {fq : List Addr} : Rp c O H v d fp → Rps c O H vs ds fq → Rps c O H (v :: vs) (d :: ds) (fp ++ fq)
end

section
variable {c : DC} {O O' : Addr → Prop} {H H' : Hp}
mutual
/-- another heap, another lot of what is one's own -/
theorem Rp.mono : ∀ (d : D) {v : V} {fp : List Addr}, Rp c O H v d fp → (∀ a o, H a = some o → (¬ O a ∨ a ∈ fp) → H' a = some o) → (∀ a o, H a = some o → ¬ O a → ¬ O' a) → Rp c O' H' v d fp
  | .non, _, _, h, _, _ => by cases h; exact .non
  | .bl _, _, _, h, _, _ => by cases h; exact .bl _
  | .int _, _, _, h, _, _ => by cases h; exact .int _
  | .str _, _, _, h, _, _ => by cases h; exact .str _
  | .fn _, _, _, h, _, _ => by
    cases h with
    | fn e => exact .fn e
  | .dr, _, _, h, _, _ => by
    cases h with
    | dr e => exact .dr e
  | .tup ds, _, _, h, k, o => by
    cases h with
    | tup e n r => exact .tup (k _ _ e (.inl n)) (o _ _ e n) (Rps.mono ds r k o)
    | tupK e r => exact .tupK e (Rps.mono ds r k o)
  | .lst b ds, _, _, h, k, o => by
    cases h with
    | lst e n r => exact .lst (k _ _ e (.inl n)) (o _ _ e n) (Rps.mono ds r k o)
    | own e r => exact .own (k _ _ e (.inr List.mem_cons_self)) (Rps.mono ds r (fun a ob q z => k a ob q (z.elim .inl fun m => .inr (List.mem_cons_of_mem _ m))) o)
theorem Rps.mono : ∀ (ds : List D) {vs : List V} {fp : List Addr}, Rps c O H vs ds fp → (∀ a o, H a = some o → (¬ O a ∨ a ∈ fp) → H' a = some o) → (∀ a o, H a = some o → ¬ O a → ¬ O' a) → Rps c O' H' vs ds fp
  | [], _, _, h, _, _ => by cases h; exact .nil
  | d :: ds, _, _, h, k, o => by
    cases h with
    | cons r t => exact .cons (Rp.mono d r (fun a ob q z => k a ob q (z.elim .inl fun m => .inr (List.mem_append_left _ m))) o) (Rps.mono ds t (fun a ob q z => k a ob q (z.elim .inl fun m => .inr (List.mem_append_right _ m))) o)
end
mutual
theorem Rp.trk : ∀ (d : D) {v : V} {fp : List Addr}, Rp c O H v d fp → ∀ a ∈ fp, H a ≠ none
  | .lst b ds, _, _, h, a, ha => by
    cases h with
    | lst e n r => cases ha
    | own e r =>
      rcases List.mem_cons.mp ha with rfl | ha
      · rw [e]; exact fun z => nomatch z
      · exact Rps.trk ds r a ha
  | .tup ds, _, _, h, a, ha => by cases h <;> cases ha
  | .non, _, _, h, a, ha => by cases h; cases ha
  | .bl _, _, _, h, a, ha => by cases h; cases ha
  | .int _, _, _, h, a, ha => by cases h; cases ha
  | .str _, _, _, h, a, ha => by cases h; cases ha
  | .fn _, _, _, h, a, ha => by cases h; cases ha
  | .dr, _, _, h, a, ha => by cases h; cases ha
theorem Rps.trk : ∀ (ds : List D) {vs : List V} {fp : List Addr}, Rps c O H vs ds fp → ∀ a ∈ fp, H a ≠ none
  | [], _, _, h, a, ha => by cases h; cases ha
  | d :: ds, _, _, h, a, ha => by
    cases h with
    | cons r t =>
      rcases List.mem_append.mp ha with ha | ha
      · exact Rp.trk d r a ha
      · exact Rps.trk ds t a ha
end
mutual
/-- given away -/
theorem Rp.fz : ∀ (d : D) {v : V} {fp : List Addr}, Rp c O H v d fp → (∀ a ∈ fp, ¬ O a) → Rp c O H v d.fz []
  | .lst b ds, _, _, h, k => by
    cases h with
    | lst e n r => exact .lst e n (Rps.fz ds r fun a ha => nomatch ha)
    | own e r => exact .lst e (k _ List.mem_cons_self) (Rps.fz ds r fun a ha => k a (List.mem_cons_of_mem _ ha))
  | .tup ds, _, _, h, k => by
    cases h with
    | tup e n r => exact .tup e n r
    | tupK e r => exact .tupK e r
  | .non, _, _, h, k => by cases h; exact .non
  | .bl _, _, _, h, k => by cases h; exact .bl _
  | .int _, _, _, h, k => by cases h; exact .int _
  | .str _, _, _, h, k => by cases h; exact .str _
  | .fn _, _, _, h, k => by
    cases h with
    | fn e => exact .fn e
  | .dr, _, _, h, k => by
    cases h with
    | dr e => exact .dr e
theorem Rps.fz : ∀ (ds : List D) {vs : List V} {fp : List Addr}, Rps c O H vs ds fp → (∀ a ∈ fp, ¬ O a) → Rps c O H vs (D.fzs ds) []
  | [], _, _, h, k => by cases h; exact .nil
  | d :: ds, _, _, h, k => by
    cases h with
    | cons r t => exact .cons (Rp.fz d r fun a ha => k a (List.mem_append_left _ ha)) (Rps.fz ds t fun a ha => k a (List.mem_append_right _ ha))
end
theorem Rp.frz : ∀ (d : D) {v : V} {fp : List Addr}, Rp c O H v d fp → d.frz = true → fp = []
  | .lst b ds, _, _, h, k => by
    cases h with
    | lst e n r => rfl
    | own e r => cases k
  | .tup ds, _, _, h, k => by cases h <;> rfl
  | .non, _, _, h, k => by cases h; rfl
  | .bl _, _, _, h, k => by cases h; rfl
  | .int _, _, _, h, k => by cases h; rfl
  | .str _, _, _, h, k => by cases h; rfl
  | .fn _, _, _, h, k => by cases h; rfl
  | .dr, _, _, h, k => by cases h; rfl
theorem Rps.len : ∀ {ds : List D} {vs : List V} {fp : List Addr}, Rps c O H vs ds fp → vs.length = ds.length
  | _, _, _, .nil => rfl
  | _, _, _, .cons _ t => congrArg (· + 1) (Rps.len t)
theorem Rps.get : ∀ {ds : List D} {vs : List V} {fp : List Addr} {i : Nat} {d : D}, Rps c O H vs ds fp → ds[i]? = some d → ∃ v fq, vs[i]? = some v ∧ Rp c O H v d fq ∧ List.Sublist fq fp
  | _, _, _, _, _, .nil, e => by simp at e
  | _, _, _, 0, _, .cons r t, e => by
    simp at e; subst e
    exact ⟨_, _, rfl, r, List.sublist_append_left ..⟩
  | _, _, _, i + 1, d, .cons r t, e => by
    obtain ⟨v, fq, e1, r1, s⟩ := Rps.get (i := i) (d := d) t (by simpa using e)
    exact ⟨v, fq, by simpa using e1, r1, s.trans (List.sublist_append_right ..)⟩
theorem Rps.append : ∀ {ds es : List D} {vs us : List V} {fp fq : List Addr}, Rps c O H vs ds fp → Rps c O H us es fq → Rps c O H (vs ++ us) (ds ++ es) (fp ++ fq)
  | _, _, _, _, _, _, .nil, s => s
  | _, _, _, _, _, _, .cons r t, s => by
    rw [List.append_assoc]
    exact .cons r (Rps.append t s)
theorem Rps.noneI {ds : List D} {vs : List V} {fp : List Addr} (r : Rps c O H vs ds fp) {i : Nat} (h : ds[i]? = none) : vs[i]? = none := by
  rw [List.getElem?_eq_none_iff] at h ⊢
  rw [r.len]; exact h
end
end DL
/-! DL1 -/
/-! DL1: the state of a body, the judgements, names, constants, operators. -/
namespace DL
open PySem PySem.Spec PyProof.Rows L2

def orO (O : Addr → Prop) (fp : List Addr) : Addr → Prop := fun a => O a ∨ a ∈ fp
/-- the heap behind: all but the list of draws as it was -/
structure Ext (c : DC) (H H' : Hp) : Prop where
  keep : ∀ a o, H a = some o → (∀ p, c.dra = some p → a ≠ p.1) → H' a = some o
  trk : ∀ a, H a ≠ none → H' a ≠ none
def DrOk (c : DC) : Dr → Hp → Prop
  | none, _ => True
  | some s, H => ∃ p, c.dra = some p ∧ H p.1 = some (.lst [.ref p.2, .int s.p, .int s.q, .int s.left, .int s.seed, .int s.cnt]) ∧ H p.2 = some (.lst (s.cells.map V.int)) ∧ p.2 ≠ p.1
def ExOk (c : DC) (e : Exn) (cls : Value) (od : Option Addr) (H : Hp) : Prop :=
  ∃ C, cls = .ref C ∧ c.mg e.cls = some (.ref C) ∧ match e.fld with
    | none => od = none
    | some (f, x) => ∃ d, od = some d ∧ H d = some (.xd [(f, .str x)])
/-- the entry: its heap, what was the callers' own then -/
structure En where
  He : Hp
  Oe : Addr → Prop
structure StOk (c : DC) (en : En) (O : Addr → Prop) (lf : List Addr) (ρ : Rho) (dr : Dr) (σ : L2.St) (H : Hp) : Prop where
  slots : ∃ fps : List (List Addr), fps.length = ρ.length ∧ (lf ++ fps.flatten).Nodup ∧ (∀ a ∈ lf ++ fps.flatten, O a ∧ en.He a = none) ∧
    ∀ (i : Nat) (d : D), ρ[i]? = some (some d) → ∃ v fp, σ[i]? = some (some v) ∧ fps[i]? = some fp ∧ Rp c O H v d fp
  len : ρ.length = σ.length
  trk : ∀ a, O a → H a ≠ none
  sub : ∀ a, en.Oe a → O a
  ext : Ext c en.He H
  drw : DrOk c dr H
  odr : ∀ p, c.dra = some p → O p.1
  edr : ∀ p, c.dra = some p → en.He p.1 ≠ none
  oe : ∀ a, en.Oe a → en.He a ≠ none
  ed2 : ∀ p, c.dra = some p → en.He p.2 ≠ none

section
variable {c : DC} {en : En} {O O' : Addr → Prop} {lf fp fq : List Addr} {ρ : Rho} {dr dr' : Dr} {σ : L2.St} {H H' H1 H2 : Hp} {v : V} {d : D}
theorem Ext.refl : Ext c H H := ⟨fun _ _ e _ => e, fun _ e => e⟩
theorem Ext.trans (a : Ext c H H1) (b : Ext c H1 H2) : Ext c H H2 := ⟨fun x o e n => b.keep x o (a.keep x o e n) n, fun x e => b.trk x (a.trk x e)⟩
theorem Ext.of_same (s : Same H H') : Ext c H H' := ⟨fun a o e _ => s a o e, fun a e z => by
  cases q : H a with
  | none => exact e q
  | some o => rw [s a o q] at z; cases z⟩
theorem Ext.un (e : Ext c H H') {a : Addr} (h : H' a = none) : H a = none := by
  cases q : H a with
  | none => rfl
  | some o => exact absurd h (e.trk a (by rw [q]; exact fun z => nomatch z))
theorem DrOk.same (d : DrOk c dr H) (s : Same H H') : DrOk c dr H' := by
  cases dr with
  | none => trivial
  | some x =>
    obtain ⟨p, e, h1, h2, n⟩ := d
    exact ⟨p, e, s _ _ h1, s _ _ h2, n⟩
theorem same_upd {p : Addr} {o : HO} (h : H p = none) : Same H (upd H p o) := fun b x e => by
  rw [upd_ne (ne_of_none e h)]
  exact e
theorem Rp.anti (r : Rp c O H v d fp) (h : ∀ a, O' a → O a) : Rp c O' H v d fp := Rp.mono d r (fun _ _ e _ => e) fun a _ _ n z => n (h a z)
theorem Rps.anti {vs : List V} {ds : List D} (r : Rps c O H vs ds fp) (h : ∀ a, O' a → O a) : Rps c O' H vs ds fp := Rps.mono ds r (fun _ _ e _ => e) fun a _ _ n z => n (h a z)
theorem Rp.same (r : Rp c O H v d fp) (s : Same H H') : Rp c O H' v d fp := Rp.mono d r (fun a o e _ => s a o e) fun _ _ _ n => n
theorem Rps.same {vs : List V} {ds : List D} (r : Rps c O H vs ds fp) (s : Same H H') : Rps c O H' vs ds fp := Rps.mono ds r (fun a o e _ => s a o e) fun _ _ _ n => n
theorem Rp.ext (r : Rp c O H v d fp) (e : Ext c H H') (o : ∀ p, c.dra = some p → O p.1) (n : ∀ p, c.dra = some p → p.1 ∉ fp) : Rp c O H' v d fp :=
  Rp.mono d r (fun a ob q z => e.keep a ob q fun p hp => by
    rintro rfl
    exact z.elim (fun k => k (o p hp)) fun k => n p hp k) fun _ _ _ k => k
theorem Rps.ext {vs : List V} {ds : List D} (r : Rps c O H vs ds fp) (e : Ext c H H') (o : ∀ p, c.dra = some p → O p.1) (n : ∀ p, c.dra = some p → p.1 ∉ fp) : Rps c O H' vs ds fp :=
  Rps.mono ds r (fun a ob q z => e.keep a ob q fun p hp => by
    rintro rfl
    exact z.elim (fun k => k (o p hp)) fun k => n p hp k) fun _ _ _ k => k
theorem orO_l {a : Addr} (h : O a) : orO O fp a := .inl h
theorem orO_nil {a : Addr} (h : orO O [] a) : O a := h.elim id fun z => nomatch z
theorem Rp.orl (r : Rp c (orO O fp) H v d fq) : Rp c O H v d fq := r.anti fun _ => .inl
theorem Rps.orl {vs : List V} {ds : List D} (r : Rps c (orO O fp) H vs ds fq) : Rps c O H vs ds fq := r.anti fun _ => .inl
theorem Rp.nil_or (r : Rp c O H v d fq) : Rp c (orO O []) H v d fq := r.anti fun _ => orO_nil

/-- behind an expression -/
theorem StOk.step (S : StOk c en O lf ρ dr σ H) (e : Ext c H H') (dw : DrOk c dr' H') : StOk c en O lf ρ dr' σ H' := by
  obtain ⟨fps, h1, h2, h3, h4⟩ := S.slots
  refine ⟨⟨fps, h1, h2, h3, fun i d hi => ?_⟩, S.len, fun a ha => e.trk a (S.trk a ha), S.sub, S.ext.trans e, dw, S.odr, S.edr, S.oe, S.ed2⟩
  obtain ⟨v, fp, e1, e2, r⟩ := h4 i d hi
  refine ⟨v, fp, e1, e2, r.ext e S.odr fun p hp hm => ?_⟩
  have := (h3 p.1 (List.mem_append_right _ (List.mem_flatten.mpr ⟨fp, List.mem_of_getElem? e2, hm⟩))).2
  exact S.edr p hp this
/-- new things are held in hand -/
theorem StOk.hold (S : StOk c en O lf ρ dr σ H) (e : Ext c H H') (dw : DrOk c dr' H') (nd : fp.Nodup) (fr : ∀ a ∈ fp, H a = none) (tr : ∀ a ∈ fp, H' a ≠ none) : StOk c en (orO O fp) (fp ++ lf) ρ dr' σ H' := by
  obtain ⟨fps, h1, h2, h3, h4⟩ := S.slots
  have notIn : ∀ a ∈ fp, ¬ O a := fun a ha z => S.trk a z (fr a ha)
  refine ⟨⟨fps, h1, ?_, fun a ha => ?_, fun i d hi => ?_⟩, S.len, fun a ha => ?_, fun a ha => .inl (S.sub a ha), S.ext.trans e, dw, fun p hp => .inl (S.odr p hp), S.edr, S.oe, S.ed2⟩
  · rw [List.append_assoc, List.nodup_append]
    refine ⟨nd, h2, fun a ha b hb => ?_⟩
    rintro rfl
    exact notIn a ha (h3 a hb).1
  · rw [List.append_assoc] at ha
    rcases List.mem_append.mp ha with ha | ha
    · exact ⟨.inr ha, S.ext.un (fr a ha)⟩
    · exact ⟨.inl (h3 a ha).1, (h3 a ha).2⟩
  · obtain ⟨v, fq, e1, e2, r⟩ := h4 i d hi
    refine ⟨v, fq, e1, e2, ?_⟩
    have r2 : Rp c (orO O fp) H v d fq := Rp.mono d r (fun _ _ q _ => q) fun a o q n z => z.elim n fun m => by rw [fr a m] at q; cases q
    exact r2.ext e (fun p hp => .inl (S.odr p hp)) fun p hp hm =>
      S.edr p hp (h3 p.1 (List.mem_append_right _ (List.mem_flatten.mpr ⟨fq, List.mem_of_getElem? e2, hm⟩))).2
  · rcases ha with ha | ha
    · exact e.trk a (S.trk a ha)
    · exact tr a ha
end
end DL
/-! DL2 -/
/-! DL2: the judgements, names, constants, operators. -/
namespace DL
open PySem PySem.Spec PyProof.Rows L2

def Wp {α : Type} (r : R α) (ok : α → Dr → Prop) (ex : Exn → Dr → Prop) : Prop := match r with
  | .st => False
  | .ok a d => ok a d
  | .ex e d => ex e d
theorem Wp.bind {α β : Type} {r : R α} {f : α → Dr → R β} {ok : β → Dr → Prop} {ex : Exn → Dr → Prop} (h : Wp (r.bind f) ok ex) : Wp r (fun a d => Wp (f a d) ok ex) ex := by
  cases r <;> exact h
theorem Wp.mono {α : Type} {r : R α} {ok ok' : α → Dr → Prop} {ex ex' : Exn → Dr → Prop} (h : Wp r ok ex) (h1 : ∀ a d, ok a d → ok' a d) (h2 : ∀ e d, ex e d → ex' e d) : Wp r ok' ex' := by
  cases r with
  | st => exact h
  | ok a d => exact h1 a d h
  | ex e d => exact h2 e d h
theorem Wp.opt {α : Type} {o : Option α} {d : Dr} {ok : α → Dr → Prop} {ex : Exn → Dr → Prop} (h : Wp (R.opt o d) ok ex) : ∃ a, o = some a ∧ ok a d := by
  cases o with
  | none => exact h.elim
  | some a => exact ⟨a, rfl, h⟩

abbrev dc (X : Cx) (dra : Option (Addr × Addr)) : DC := ⟨X.K, X.mg, dra⟩
/-- what is wanted of an error -/
def ExW (c : DC) (W : WX) (σ : L2.St) (H : Hp) : Exn → Dr → Prop := fun e dr => ∀ cls od H', Ext c H H' → DrOk c dr H' → ExOk c e cls od H' → W cls od σ H'
/-- what is wanted of a value: seen (its own things may be another's), had (its own things are new) -/
def OkB (c : DC) (en : En) (O : Addr → Prop) (H : Hp) (Q : VK) : D → Dr → Prop := fun d dr => ∀ v H' fp, Ext c H H' → DrOk c dr H' → Rp c (orO O fp) H' v d fp → fp.Nodup → (∀ a ∈ fp, en.He a = none) → Q v H'
def OkE (c : DC) (O : Addr → Prop) (H : Hp) (Q : VK) : D → Dr → Prop := fun d dr => ∀ v H' fp, Ext c H H' → DrOk c dr H' → Rp c (orO O fp) H' v d fp → fp.Nodup → (∀ a ∈ fp, H a = none) → Q v H'
def tB (c : DC) (W : WX) (F : CEx) : TE := fun σ H Q => ∃ en O lf ρ dr, StOk c en O lf ρ dr σ H ∧ Wp (F ρ dr) (OkB c en O H Q) (ExW c W σ H)
def tE (c : DC) (W : WX) (F : CEx) : TE := fun σ H Q => ∃ en O lf ρ dr, StOk c en O lf ρ dr σ H ∧ Wp (F ρ dr) (OkE c O H Q) (ExW c W σ H)
def tT (c : DC) (W : WX) (F : CTx) : TT := fun σ H Q => ∃ en O lf ρ dr, StOk c en O lf ρ dr σ H ∧ Wp (F ρ dr) (fun b dr' => ∀ H', Ext c H H' → DrOk c dr' H' → Q b H') (ExW c W σ H)
structure BE (X : Cx) (dra : Option (Addr × Addr)) (W : WX) (e : Expr) (F : CEx) : Prop where
  pe : PE X e (tB (dc X dra) W F)
structure EE (X : Cx) (dra : Option (Addr × Addr)) (W : WX) (e : Expr) (F : CEx) : Prop where
  pe : PE X e (tE (dc X dra) W F)
structure BT (X : Cx) (dra : Option (Addr × Addr)) (W : WX) (e : Expr) (F : CTx) : Prop where
  pt : PT X e (tT (dc X dra) W F)
theorem wkE {X : Cx} {e : Expr} {t t' : TE} (h : PE X e t) (i : ∀ σ H Q, t' σ H Q → t σ H Q) : PE X e t' := ⟨fun pins s σ H Q I hw => h.run pins s σ H Q I (i σ H Q hw)⟩
theorem wkT {X : Cx} {e : Expr} {t t' : TT} (h : PT X e t) (i : ∀ σ H Q, t' σ H Q → t σ H Q) : PT X e t' := ⟨fun pins s σ H Q I hw => h.run pins s σ H Q I (i σ H Q hw)⟩

section
variable {c : DC} {en : En} {O O' : Addr → Prop} {lf fp fq : List Addr} {ρ : Rho} {dr dr' : Dr} {σ : L2.St} {H H' H1 H2 : Hp} {v : V} {d : D} {W : WX} {Q : VK}
theorem ExW.later {e : Exn} (h : ExW c W σ H e dr) (x : Ext c H H1) : ExW c W σ H1 e dr := fun cls od H' e' => h cls od H' (x.trans e')
theorem OkE.later (h : OkE c O H Q d dr) (x : Ext c H H1) : OkE c O H1 Q d dr := fun v H' fp e dw r nd fr => h v H' fp (x.trans e) dw r nd fun a ha => x.un (fr a ha)
theorem OkB.later (h : OkB c en O H Q d dr) (x : Ext c H H1) : OkB c en O H1 Q d dr := fun v H' fp e dw r nd fr => h v H' fp (x.trans e) dw r nd fr
theorem OkB.e (h : OkB c en O H Q d dr) (x : Ext c en.He H) : OkE c O H Q d dr := fun v H' fp e dw r nd fr => h v H' fp e dw r nd fun a ha => x.un (fr a ha)
/-- an atom -/
theorem OkE.atom (h : OkE c O H Q d dr) (dw : DrOk c dr H) (r : Rp c O H v d []) : Q v H := h v H [] Ext.refl dw r.nil_or List.nodup_nil fun _ z => nomatch z
/-- a value, the heap only longer -/
theorem OkE.new (h : OkE c O H Q d dr) (dw : DrOk c dr H) (s : Same H H') (r : Rp c O H' v d []) : Q v H' := h v H' [] (Ext.of_same s) (dw.same s) r.nil_or List.nodup_nil fun _ z => nomatch z
theorem OkE.newO (h : OkE c O H Q d dr) (dw : DrOk c dr H) (s : Same H H') (r : Rp c (orO O fp) H' v d fp) (nd : fp.Nodup) (fr : ∀ a ∈ fp, H a = none) : Q v H' := h v H' fp (Ext.of_same s) (dw.same s) r nd fr
/-- seen now, seen later -/
theorem Rp.later (S : StOk c en O lf ρ dr σ H) (r : Rp c (orO O fp) H1 v d fp) (x : Ext c H1 H2) (fr : ∀ a ∈ fp, en.He a = none) : Rp c (orO O fp) H2 v d fp :=
  r.ext x (fun p hp => .inl (S.odr p hp)) fun p hp hm => S.edr p hp (fr _ hm)
end

section
variable {X : Cx} {dra : Option (Addr × Addr)} {W : WX} {e a b : Expr} {F G F1 F2 : CEx} {pos : Pos}
theorem EE.be (h : EE X dra W e F) : BE X dra W e F := ⟨wkE h.pe fun σ H Q ⟨en, O, lf, ρ, dr, S, w⟩ => ⟨en, O, lf, ρ, dr, S, w.mono (fun _ _ k => k.e S.ext) fun _ _ k => k⟩⟩
/-- what is seen, nobody's own -/
def cFrz (F : CEx) : CEx := fun ρ dr => (F ρ dr).bind fun d dr => if d.frz = true then .ok d dr else .st
theorem BE.ee (h : BE X dra W e F) : EE X dra W e (cFrz F) := ⟨wkE h.pe fun σ H Q ⟨en, O, lf, ρ, dr, S, w⟩ => ⟨en, O, lf, ρ, dr, S, (Wp.bind w).mono (fun d dr' k v H' fp x dw r nd fr => by
  by_cases hd : d.frz = true
  · rw [if_pos hd] at k
    have : fp = [] := r.frz d hd
    subst this
    exact k v H' [] x dw r nd fun a z => nomatch z
  · rw [if_neg hd] at k
    exact k.elim) fun _ _ k => k⟩⟩

/-! ### names, constants -/
def cVar (i : Nat) : CEx := fun ρ dr => match ρ[i]? with
  | some (some d) => .ok d dr
  | _ => .st
def cK (d : D) : CEx := fun _ dr => .ok d dr
theorem be_var (i : Nat) {x : Str} (hN : X.N[i]? = some x := by rfl) (hv : Vis X.env.scope x := by first | exact Or.inl rfl | exact Or.inr (Or.inl rfl) | exact Or.inr (Or.inr rfl)) (hd : (x == ("__debug__" : Str)) = false := by decide)
    (hcd : (x == ("__classdict__" : Str)) = false := by decide) : BE X dra W (.Name x pos) (cVar i) := ⟨wkE (pv i hN hv hd hcd) fun σ H Q ⟨en, O, lf, ρ, dr, S, w⟩ => by
  unfold cVar at w
  obtain ⟨fps, h1, h2, h3, h4⟩ := S.slots
  split at w
  · rename_i d hd
    obtain ⟨v, fp, e1, e2, r⟩ := h4 i d hd
    have mem : ∀ a ∈ fp, a ∈ lf ++ fps.flatten := fun a ha => List.mem_append_right _ (List.mem_flatten.mpr ⟨fp, List.mem_of_getElem? e2, ha⟩)
    refine ⟨v, e1, w v H fp Ext.refl S.drw (r.anti fun a ha => ha.elim id fun m => (h3 a (mem a m)).1) ?_ fun a ha => (h3 a (mem a ha)).2⟩
    have s1 : List.Sublist fp fps.flatten := List.sublist_flatten_of_mem (List.mem_of_getElem? e2)
    exact h2.sublist (s1.trans (List.sublist_append_right ..))
  · exact w.elim⟩
theorem ee_of {v : V} {d : D} (h : PE X e (tC v)) (r : ∀ O H, Rp (dc X dra) O H v d []) : EE X dra W e (cK d) := ⟨wkE h fun σ H Q ⟨en, O, lf, ρ, dr, S, w⟩ => by
  have w : OkE (dc X dra) O H Q d dr := w
  exact w.atom S.drw (r O H)⟩
theorem ee_int {i j pos} : EE X dra W (.Constant (.int i) j pos) (cK (.int i)) := ee_of pe_int fun _ _ => .int _
theorem ee_bl {i j pos} : EE X dra W (.Constant (.bool i) j pos) (cK (.bl i)) := ee_of pe_bl fun _ _ => .bl _
theorem ee_str {i j pos} : EE X dra W (.Constant (.str i) j pos) (cK (.str i)) := ee_of pe_str fun _ _ => .str _
theorem ee_non {j pos} : EE X dra W (.Constant .none j pos) (cK .non) := ee_of pe_non fun _ _ => .non
/-- a name of the top: a constant, a def -/
theorem ee_glob {x : Str} {v : V} {u : Value} {d : D} {pos : Pos} (hm : X.mg x = some u) (hr : RelV v u) (r : ∀ c : DC, c.K = X.K → c.mg = X.mg → ∀ O H, Rp c O H v d []) (hg : Gl X x := by rfl) (hd : (x == ("__debug__" : Str)) = false := by decide) : EE X dra W (.Name x pos) (cK d) :=
  ee_of (pe_glob hg hm hr hd) fun O H => r _ rfl rfl O H

/-! ### operators -/
/-- what an operator of two values comes to -/
def OpD (X : Cx) (dra : Option (Addr × Addr)) (r : R2) (g : D → D → Option D) : Prop :=
  ∀ (O : Addr → Prop) (H : Hp) (x y : V) (d1 d2 z : D) (fp fq : List Addr) (dr : Dr) (Q : VK), Rp (dc X dra) O H x d1 fp → Rp (dc X dra) O H y d2 fq → g d1 d2 = some z → (∀ a, O a → H a ≠ none) → DrOk (dc X dra) dr H → OkE (dc X dra) O H Q z dr → r x y H Q
def cBin (g : D → D → Option D) (F1 F2 : CEx) : CEx := fun ρ dr => (F1 ρ dr).bind fun x dr => (F2 ρ dr).bind fun y dr => R.opt (g x y) dr
/-- two seen, one behind the other -/
theorem two {c : DC} {en : En} {O : Addr → Prop} {lf : List Addr} {ρ : Rho} {dr : Dr} {σ : L2.St} {H : Hp} {K : V → V → Hp → Prop} {ok : D → D → Dr → Prop} (S : StOk c en O lf ρ dr σ H)
    (w : Wp (F1 ρ dr) (fun x dr => Wp (F2 ρ dr) (fun y dr => ok x y dr) (ExW c W σ H)) (ExW c W σ H))
    (k : ∀ d1 d2 dr' H' u v fp fq, ok d1 d2 dr' → Ext c H H' → (∀ a, O a → H' a ≠ none) → DrOk c dr' H' → Rp c (orO O fp) H' u d1 fp → Rp c (orO O fq) H' v d2 fq → K u v H') :
    tB c W F1 σ H fun u H1 => tB c W F2 σ H1 fun v H2 => K u v H2 := by
  refine ⟨en, O, lf, ρ, dr, S, w.mono (fun d1 dr1 w1 u H1 fp x1 dw1 r1 nd1 fr1 => ?_) fun _ _ k => k⟩
  refine ⟨en, O, lf, ρ, dr1, S.step x1 dw1, w1.mono (fun d2 dr2 w2 v H2 fq x2 dw2 r2 nd2 fr2 => ?_) fun _ _ k => k.later x1⟩
  exact k d1 d2 dr2 H2 u v fp fq w2 (x1.trans x2) (fun a ha => (x1.trans x2).trk a (S.trk a ha)) dw2 (r1.later S x2 fr1) r2
theorem ee_bin {op : Operator} {r : R2} {g : D → D → Option D} (ho : OpR X (binaryOp op) r) (hg : OpD X dra r g) (ha : BE X dra W a F1) (hb : BE X dra W b F2) : EE X dra W (.BinOp a op b pos) (cBin g F1 F2) :=
  ⟨wkE (pe_op ho ha.pe hb.pe) fun σ H Q ⟨en, O, lf, ρ, dr, S, w⟩ => two S (w.bind.mono (fun _ _ k => k.bind) fun _ _ k => k) fun d1 d2 dr' H' u v fp fq w x tr dw r1 r2 => by
    obtain ⟨z, e, k⟩ := w.opt
    exact hg O H' u v d1 d2 z fp fq dr' Q r1.orl r2.orl e tr dw (k.later x)⟩
theorem ee_cmp {op : CmpOp} {r : R2} {g : D → D → Option D} (ho : OpR X (compareOp op) r) (hg : OpD X dra r g) (ha : BE X dra W a F1) (hb : BE X dra W b F2) (hm : behindInMarks op b = false) : EE X dra W (.Compare a [op] [b] pos) (cBin g F1 F2) :=
  ⟨wkE (pe_cmpR ho ha.pe hb.pe hm) fun σ H Q ⟨en, O, lf, ρ, dr, S, w⟩ => two S (w.bind.mono (fun _ _ k => k.bind) fun _ _ k => k) fun d1 d2 dr' H' u v fp fq w x tr dw r1 r2 => by
    obtain ⟨z, e, k⟩ := w.opt
    exact hg O H' u v d1 d2 z fp fq dr' Q r1.orl r2.orl e tr dw (k.later x)⟩
end
end DL
/-! DL3 -/
/-! DL3: the operators, one by one. -/
namespace DL
open PySem PySem.Spec PyProof.Rows L2

section
variable {X : Cx} {dra : Option (Addr × Addr)}
/-! ### whole numbers -/
def gI (C : Int → Int → Bool) (f : Int → Int → Int) : D → D → Option D
  | .int a, .int b => if C a b = true then some (.int (f a b)) else none
  | _, _ => none
theorem opd_rI {C : Int → Int → Bool} {P : Int → Int → Prop} {f : Int → Int → Int} (h : ∀ a b, C a b = true → P a b) : OpD X dra (rI P fun i j => .int (f i j)) (gI C f) := by
  intro O H x y d1 d2 z fp fq dr Q r1 r2 e tr dw k
  cases d1 with
  | int a =>
    cases d2 with
    | int b =>
      cases r1; cases r2
      have e : (if C a b = true then some (D.int (f a b)) else none) = some z := e
      by_cases hc : C a b = true
      · rw [if_pos hc] at e
        cases e
        exact ⟨a, b, rfl, rfl, h a b hc, k.atom dw (.int _)⟩
      · rw [if_neg hc] at e; cases e
    | _ => cases e
  | _ => cases e
theorem opd_rI0 {f : Int → Int → Int} : OpD X dra (rI0 fun i j => .int (f i j)) (gI (fun _ _ => true) f) := by
  intro O H x y d1 d2 z fp fq dr Q r1 r2 e tr dw k
  obtain ⟨a, b, e1, e2, _, q⟩ := opd_rI (X := X) (P := fun _ _ => True) (fun _ _ _ => trivial) O H x y d1 d2 z fp fq dr Q r1 r2 e tr dw k
  exact ⟨a, b, e1, e2, q⟩
def cMul (a b : Int) : Bool := decide (a.natAbs.log2 + b.natAbs.log2 < 1000000)
def cDiv (_ b : Int) : Bool := decide (b ≠ 0) && decide (b.natAbs.log2 < 9000)
def cNz (_ b : Int) : Bool := decide (b ≠ 0)
def cPow (i j : Int) : Bool := decide (0 ≤ j) && decide (j ≤ 1000000) && decide (i.natAbs < 2 ^ 64)
theorem op_fdivA : OpR X (binaryOp .FloorDiv) (rI (fun _ j => j ≠ 0 ∧ j.natAbs.log2 < 9000) fun i j => .int (i.fdiv j)) := opI fun i j _ _ _ _ _ hc q => floordiv_int hc.1 q (.inl (PyProof.noPylong_of_log2 hc.2))
theorem opd_add0 : OpD X dra (rI0 fun i j => .int (i + j)) (gI (fun _ _ => true) (· + ·)) := opd_rI0
theorem opd_sub : OpD X dra (rI0 fun i j => .int (i - j)) (gI (fun _ _ => true) (· - ·)) := opd_rI0
theorem opd_mulI : OpD X dra (rI CMulW fun i j => .int (i * j)) (gI cMul (· * ·)) := opd_rI fun a b h => by
  have : a.natAbs.log2 + b.natAbs.log2 < 1000000 := of_decide_eq_true h
  exact this
theorem opd_fdiv : OpD X dra (rI (fun _ j => j ≠ 0 ∧ j.natAbs.log2 < 9000) fun i j => .int (i.fdiv j)) (gI cDiv Int.fdiv) := opd_rI fun _ _ h => by
  unfold cDiv at h
  rw [Bool.and_eq_true] at h
  exact ⟨of_decide_eq_true h.1, of_decide_eq_true h.2⟩
theorem opd_mod : OpD X dra (rI (fun _ j => j ≠ 0) fun i j => .int (i.fmod j)) (gI cNz Int.fmod) := opd_rI fun _ _ h => of_decide_eq_true h
theorem opd_pow : OpD X dra (rI CPow fun i j => .int (i ^ j.toNat)) (gI cPow fun i j => i ^ j.toNat) := opd_rI fun _ _ h => by
  unfold cPow at h
  rw [Bool.and_eq_true, Bool.and_eq_true] at h
  exact ⟨of_decide_eq_true h.1.1, of_decide_eq_true h.1.2, of_decide_eq_true h.2⟩
def gC (p : Int → Int → Bool) : D → D → Option D
  | .int a, .int b => some (.bl (p a b))
  | _, _ => none
theorem opd_cmp {p : Int → Int → Bool} : OpD X dra (rI0 fun i j => .bl (p i j)) (gC p) := by
  intro O H x y d1 d2 z fp fq dr Q r1 r2 e tr dw k
  cases d1 with
  | int a =>
    cases d2 with
    | int b =>
      cases r1; cases r2
      cases e
      exact ⟨a, b, rfl, rfl, k.atom dw (.bl _)⟩
    | _ => cases e
  | _ => cases e

/-! ### + of numbers, texts, tuples, lists -/
def gAdd : D → D → Option D
  | .int a, .int b => some (.int (a + b))
  | .str a, .str b => if a.length + b.length ≤ sizeLine then some (.str (a ++ b)) else none
  | .tup xs, .tup ys => if xs.length + ys.length ≤ sizeLine then some (.tup (xs ++ ys)) else none
  | .lst _ xs, .lst _ ys => if xs.length + ys.length ≤ sizeLine && xs.all D.frz && ys.all D.frz then some (.lst true (xs ++ ys)) else none
  | _, _ => none
def rAddA (K : PySem.W.Frag) : R2 := fun x y H Q => (∃ i j, x = .int i ∧ y = .int j ∧ Q (.int (i + j)) H) ∨ (∃ i j, x = .str i ∧ y = .str j ∧ i.length + j.length ≤ sizeLine ∧ Q (.str (i ++ j)) H) ∨ rCatA K x y H Q ∨ rCat x y H Q
theorem op_addA : OpR X (binaryOp .Add) (rAddA X.K) := OpR.or op_add (OpR.or op_add_str (OpR.or op_catA op_cat))
theorem Rps.allfrz {c : DC} {O : Addr → Prop} {H : Hp} : ∀ {ds : List D} {vs : List V} {fp : List Addr}, Rps c O H vs ds fp → ds.all D.frz = true → Rps c O H vs ds []
  | _, _, _, .nil, _ => .nil
  | d :: ds, _, _, .cons r t, h => by
    rw [List.all_cons, Bool.and_eq_true] at h
    have e := r.frz d h.1
    subst e
    exact .cons r (t.allfrz h.2)
theorem Rps.append0 {c : DC} {O : Addr → Prop} {H : Hp} {ds es : List D} {vs us : List V} (r : Rps c O H vs ds []) (s : Rps c O H us es []) : Rps c O H (vs ++ us) (ds ++ es) [] := r.append s
theorem rp_sqt {c : DC} {O : Addr → Prop} {H : Hp} {v : V} {ds : List D} {fp : List Addr} (r : Rp c O H v (.tup ds) fp) : ∃ a vs, v = .ref a ∧ SqT c.K H a vs ∧ Rps c O H vs ds [] ∧ (H a = some (.tup vs) ∧ ¬ O a ∨ KT c.K a vs) := by
  cases r with
  | tup e n r => exact ⟨_, _, rfl, .inl (.inl e), r, .inl ⟨e, n⟩⟩
  | tupK e r => exact ⟨_, _, rfl, .inr e, r, .inr e⟩
theorem rp_lst {c : DC} {O : Addr → Prop} {H : Hp} {v : V} {o : Bool} {ds : List D} {fp : List Addr} (r : Rp c O H v (.lst o ds) fp) : ∃ a vs fq, v = .ref a ∧ H a = some (.lst vs) ∧ Rps c O H vs ds fq ∧ List.Sublist fq fp := by
  cases r with
  | lst e n r => exact ⟨_, _, _, rfl, e, r, List.nil_sublist _⟩
  | own e r => exact ⟨_, _, _, rfl, e, r, List.sublist_cons_self ..⟩
theorem Rp.tupN {c : DC} {O : Addr → Prop} {H : Hp} {p : Addr} {vs : List V} {ds : List D} (hn : H p = none) (ho : ¬ O p) (r : Rps c O H vs ds []) : Rp c O (upd H p (.tup vs)) (.ref p) (.tup ds) [] :=
  .tup upd_same ho (r.same (same_upd hn))
/-- a new list of frozen things -/
theorem Rps.fresh {c : DC} {O : Addr → Prop} {H H' : Hp} {p : Addr} {vs : List V} {ds : List D} (hn : H p = none) (s : Same H H') (r : Rps c O H vs ds []) : Rps c (orO O [p]) H' vs ds [] :=
  Rps.mono ds r (fun a o e _ => s a o e) fun a o e n z => z.elim n fun m => by
    have : a = p := by simpa using m
    rw [this, hn] at e; cases e
theorem Rp.lstN {c : DC} {O : Addr → Prop} {H : Hp} {p : Addr} {vs : List V} {ds : List D} (hn : H p = none) (r : Rps c O H vs ds []) : Rp c (orO O [p]) (upd H p (.lst vs)) (.ref p) (.lst true ds) [p] :=
  .own upd_same (r.fresh hn (same_upd hn))
theorem OkE.newL {c : DC} {O : Addr → Prop} {H : Hp} {Q : VK} {dr : Dr} {p : Addr} {vs : List V} {ds : List D} (k : OkE c O H Q (.lst true ds) dr) (dw : DrOk c dr H) (hn : H p = none) (r : Rps c O H vs ds []) : Q (.ref p) (upd H p (.lst vs)) :=
  k.newO dw (same_upd hn) (Rp.lstN hn r) (by simp) fun a ha => by
    have : a = p := by simpa using ha
    rw [this]; exact hn
theorem OkE.newT {c : DC} {O : Addr → Prop} {H : Hp} {Q : VK} {dr : Dr} {p : Addr} {vs : List V} {ds : List D} (k : OkE c O H Q (.tup ds) dr) (dw : DrOk c dr H) (tr : ∀ a, O a → H a ≠ none) (hn : H p = none) (r : Rps c O H vs ds []) : Q (.ref p) (upd H p (.tup vs)) :=
  k.new dw (same_upd hn) (Rp.tupN hn (fun z => tr p z hn) r)
theorem opd_add : OpD X dra (rAddA X.K) gAdd := by
  intro O H x y d1 d2 z fp fq dr Q r1 r2 e tr dw k
  cases d1 with
  | int a =>
    cases d2 with
    | int b =>
      cases r1; cases r2
      cases e
      exact .inl ⟨a, b, rfl, rfl, k.atom dw (.int _)⟩
    | _ => cases e
  | str a =>
    cases d2 with
    | str b =>
      cases r1; cases r2
      have e : (if a.length + b.length ≤ sizeLine then some (D.str (a ++ b)) else none) = some z := e
      by_cases hc : a.length + b.length ≤ sizeLine
      · rw [if_pos hc] at e
        cases e
        exact .inr (.inl ⟨a, b, rfl, rfl, hc, k.atom dw (.str _)⟩)
      · rw [if_neg hc] at e; cases e
    | _ => cases e
  | tup xs =>
    cases d2 with
    | tup ys =>
      have e : (if xs.length + ys.length ≤ sizeLine then some (D.tup (xs ++ ys)) else none) = some z := e
      by_cases hc : xs.length + ys.length ≤ sizeLine
      · rw [if_pos hc] at e
        cases e
        have f1 := r1
        have f2 := r2
        obtain ⟨a, vs, rfl, h1, s1, _⟩ := rp_sqt r1
        obtain ⟨b, us, rfl, h2, s2, _⟩ := rp_sqt r2
        refine .inr (.inr (.inl ⟨a, b, vs, us, rfl, rfl, h1, h2, by rw [s1.len, s2.len]; exact hc, fun z => ?_, fun _ z => ?_, fun _ _ p hp => k.newT dw tr hp (s1.append0 s2)⟩))
        · subst z
          have : xs = [] := List.eq_nil_of_length_eq_zero s1.len.symm
          subst this
          rw [List.nil_append] at k
          have e0 := r2.frz _ rfl
          subst e0
          exact k.atom dw r2
        · subst z
          have : ys = [] := List.eq_nil_of_length_eq_zero s2.len.symm
          subst this
          rw [List.append_nil] at k
          have e0 := r1.frz _ rfl
          subst e0
          exact k.atom dw r1
      · rw [if_neg hc] at e; cases e
    | _ => cases e
  | lst o xs =>
    cases d2 with
    | lst o2 ys =>
      have e : (if (xs.length + ys.length ≤ sizeLine && xs.all D.frz && ys.all D.frz) = true then some (D.lst true (xs ++ ys)) else none) = some z := e
      by_cases hc : (xs.length + ys.length ≤ sizeLine && xs.all D.frz && ys.all D.frz) = true
      · rw [if_pos hc] at e
        cases e
        simp only [Bool.and_eq_true, decide_eq_true_eq] at hc
        obtain ⟨a, vs, _, rfl, h1, s1, _⟩ := rp_lst r1
        obtain ⟨b, us, _, rfl, h2, s2, _⟩ := rp_lst r2
        exact .inr (.inr (.inr ⟨a, b, vs, us, rfl, rfl, h1, h2, by rw [s1.len, s2.len]; exact hc.1.1, fun p hp => k.newL dw hp ((s1.allfrz hc.1.2).append0 (s2.allfrz hc.2))⟩))
      · rw [if_neg hc] at e; cases e
    | _ => cases e
  | _ => cases e

/-! ### * of numbers, a list, a tuple times a number -/
section
open PySem.MeetsSeq PySem.MeetsSeq2 PySem.MeetsSeq3 PySem.AutoSeq1
theorem tuple_mulS (l : Addr) (items : Array Value) (n : Nat) (dd : Option Addr) (sl : Array (Option Value)) (x : Int) (u : Tok) (c0 : (decide (x < -(2 ^ 63)) || decide (x ≥ 2 ^ 63)) = false) (c1 : (items.isEmpty || x == 1) = true) :
    Meets (Builtin.«tuple.__mul__» ⟨[.ref l, .int x u], []⟩) (fun _ R s => s.heap.get? l = some { cls := .type "tuple", dict := dd, data := .seq items n, slots := sl } ∧
      R (.ok (.ret (Value.ref l))) s) :=
  .of_wp fun prog w A R s h => by
    obtain ⟨hp, g, d, tk, os⟩ := s
    obtain ⟨hl, h⟩ := h
    have f1 := AutoSeq1.idx_int
    wp_walk using wpAny_loadPart' hl
    repeat (first
      | (refine wpAny_ite_false (decide_eq_false (by rw [c0]; exact Bool.false_ne_true)) ?_; wp_walk using wpAny_loadPart' hl)
      | (refine wpAny_ite_true (decide_eq_true c1) ?_; wp_walk using wpAny_loadPart' hl))
    exact ⟨_, rfl, h⟩
theorem tuple_mul0 (l : Addr) (items : Array Value) (n : Nat) (dd : Option Addr) (sl : Array (Option Value)) (x : Int) (u : Tok) (c0 : (decide (x < -(2 ^ 63)) || decide (x ≥ 2 ^ 63)) = false) (c1 : (items.isEmpty || x == 1) = false) (c2 : (decide (x ≤ 0) || items.isEmpty) = true) :
    Meets (Builtin.«tuple.__mul__» ⟨[.ref l, .int x u], []⟩) (fun _ R s => s.heap.get? l = some { cls := .type "tuple", dict := dd, data := .seq items n, slots := sl } ∧
      R (.ok (.ret (Value.ref s.heap.objs.size))) { s with heap := s.heap.push { cls := Value.type "tuple", data := Data.seq #[] }, toks := s.toks }) :=
  .of_wp fun prog w A R s h => by
    obtain ⟨hp, g, d, tk, os⟩ := s
    obtain ⟨hl, h⟩ := h
    have f1 := AutoSeq1.idx_int
    wp_walk using wpAny_loadPart' hl
    repeat (first
      | (refine wpAny_ite_false (decide_eq_false (by rw [c0]; exact Bool.false_ne_true)) ?_; wp_walk using wpAny_loadPart' hl)
      | (refine wpAny_ite_false (decide_eq_false (by rw [c1]; exact Bool.false_ne_true)) ?_; wp_walk using wpAny_loadPart' hl)
      | (refine wpAny_ite_true (decide_eq_true c2) ?_; wp_walk using wpAny_loadPart' hl))
    exact ⟨_, rfl, h⟩
end
/-- a tuple times a number that is nought or less, or 1, or an empty one -/
def rRepT1 (K : PySem.W.Frag) : R2 := fun x y H Q => ∃ l k xs, x = .ref l ∧ y = .int k ∧ SqT K H l xs ∧ -(2 ^ 63) ≤ k ∧ k < 2 ^ 63 ∧ ((k = 1 ∨ xs = []) → Q (.ref l) H) ∧ (k ≤ 0 → xs ≠ [] → ∀ p, H p = none → Q (.ref p) (upd H p (.tup []))) ∧ (k ≤ 1 ∨ xs = [])
theorem op_repT1 : OpR X (binaryOp .Mult) (rRepT1 X.K) := by
  intro pins s σ H x y v u Q I rx ry h
  obtain ⟨l, k, xs, rfl, rfl, hT, h1, h2, q1, q0, hk⟩ := h
  cases rx
  obtain ⟨t, rfl⟩ := ry
  obtain ⟨its, r, ⟨⟨cls, dd, data, sl⟩, ho, hc, n, hd⟩, hs⟩ := I.tuple hT
  simp only at hc hd
  subst hc hd
  have hle : its.length = xs.length := r.length.symm
  have c0 : (decide (k < -(2 ^ 63)) || decide (k ≥ 2 ^ 63)) = false := by
    rw [decide_eq_false (by omega), decide_eq_false (by omega)] <;> rfl
  have hnil : its.toArray.isEmpty = true ↔ xs = [] := by
    constructor
    · intro e
      cases its with
      | nil => exact List.eq_nil_of_length_eq_zero hle.symm
      | cons a b => exact absurd e (by simp)
    · intro e
      subst e
      have : its = [] := List.eq_nil_of_length_eq_zero hle
      subst this
      rfl
  by_cases c1 : (its.toArray.isEmpty || k == 1) = true
  · refine wpAny_binaryOp_repeat_ref (T := "tuple") (U := "int") (by decide) ⟨_, ho, rfl⟩ (fun s' => typeIs_int s' k t) noFill_tuple_mul F.fills_int_mul F.slot_int_rmul repeat_tuple F.slot_int_index.lookup
      (call_meets F.slot_int_rmul (typeIs_int s k t) F.entry_int_rmul (F.args_int_rmul_2 _ _) (int_rmul_tuple k t l its.toArray n dd sl)
        ⟨ho, rfl, ⟨_, ho, rfl⟩, call_meets F.slot_tuple_mul ⟨_, ho, rfl⟩ F.entry_tuple_mul (F.args_tuple_mul_2 _ _) (tuple_mulS l its.toArray n dd sl k t c0 c1) ⟨ho, ?_⟩⟩)
    refine ⟨.ref l, H, I, rfl, q1 ?_⟩
    rcases Bool.or_eq_true_iff.mp c1 with e | e
    · exact .inr (hnil.mp e)
    · exact .inl (by simpa using e)
  · have c1' : (its.toArray.isEmpty || k == 1) = false := by simpa using c1
    rw [Bool.or_eq_false_iff] at c1'
    have ne : xs ≠ [] := fun e => by
      have := hnil.mpr e
      rw [c1'.1] at this; cases this
    have k0 : k ≤ 0 := by
      have : k ≠ 1 := by simpa using c1'.2
      rcases hk with z | z
      · omega
      · exact absurd z ne
    have c2 : (decide (k ≤ 0) || its.toArray.isEmpty) = true := by rw [decide_eq_true k0]; rfl
    refine wpAny_binaryOp_repeat_ref (T := "tuple") (U := "int") (by decide) ⟨_, ho, rfl⟩ (fun s' => typeIs_int s' k t) noFill_tuple_mul F.fills_int_mul F.slot_int_rmul repeat_tuple F.slot_int_index.lookup
      (call_meets F.slot_int_rmul (typeIs_int s k t) F.entry_int_rmul (F.args_int_rmul_2 _ _) (int_rmul_tuple k t l its.toArray n dd sl)
        ⟨ho, rfl, ⟨_, ho, rfl⟩, call_meets F.slot_tuple_mul ⟨_, ho, rfl⟩ F.entry_tuple_mul (F.args_tuple_mul_2 _ _) (tuple_mul0 l its.toArray n dd sl k t c0 (by simpa using c1) c2) ⟨ho, ?_⟩⟩)
    refine ⟨.ref s.heap.objs.size, _, I.laid (t' := s.toks) (o := .tup []) (fun b ob q => Heap.get?_push_of_some _ q) (Nat.le_refl _) ?_, rfl, q0 k0 ne _ (I.hok.fresh (Nat.le_refl _))⟩
    exact ⟨Nat.zero_le _, [], .nil, IsTup.new _ _⟩
def gMul : D → D → Option D
  | .int a, .int b => if cMul a b then some (.int (a * b)) else none
  | .lst _ xs, .int k => if decide (-(2 ^ 63) ≤ k) && decide (k < 2 ^ 63) && decide (xs.length * k.toNat ≤ sizeLine) && xs.all D.frz then some (.lst true (List.replicate k.toNat xs).flatten) else none
  | .tup xs, .int k => if decide (-(2 ^ 63) ≤ k) && decide (k ≤ 1000) && decide (xs.length ≤ 1000) then some (.tup (List.replicate k.toNat xs).flatten) else none
  | _, _ => none
def rMulA (K : PySem.W.Frag) : R2 := fun x y H Q => (∃ i j, x = .int i ∧ y = .int j ∧ CMulW i j ∧ Q (.int (i * j)) H) ∨ rRepT K x y H Q ∨ rRepT1 K x y H Q ∨ rRep x y H Q
theorem op_mulA : OpR X (binaryOp .Mult) (rMulA X.K) := OpR.or op_mulW (OpR.or op_repT (OpR.or op_repT1 op_rep))
theorem Rps.rep {c : DC} {O : Addr → Prop} {H : Hp} {vs : List V} {ds : List D} (r : Rps c O H vs ds []) : ∀ k : Nat, Rps c O H (List.replicate k vs).flatten (List.replicate k ds).flatten []
  | 0 => .nil
  | k + 1 => by
    rw [List.replicate_succ, List.replicate_succ, List.flatten_cons, List.flatten_cons]
    exact r.append (r.rep k)
theorem opd_mul : OpD X dra (rMulA X.K) gMul := by
  intro O H x y d1 d2 z fp fq dr Q r1 r2 e tr dw k
  cases d1 with
  | int a =>
    cases d2 with
    | int b =>
      cases r1; cases r2
      have e : (if cMul a b = true then some (D.int (a * b)) else none) = some z := e
      by_cases hc : cMul a b = true
      · rw [if_pos hc] at e
        cases e
        have h2 : a.natAbs.log2 + b.natAbs.log2 < 1000000 := of_decide_eq_true hc
        exact .inl ⟨a, b, rfl, rfl, h2, k.atom dw (.int _)⟩
      · rw [if_neg hc] at e; cases e
    | _ => cases e
  | tup xs =>
    cases d2 with
    | int j =>
      have e : (if (decide (-(2 ^ 63) ≤ j) && decide (j ≤ 1000) && decide (xs.length ≤ 1000)) = true then some (D.tup (List.replicate j.toNat xs).flatten) else none) = some z := e
      by_cases hc : (decide (-(2 ^ 63) ≤ j) && decide (j ≤ 1000) && decide (xs.length ≤ 1000)) = true
      · rw [if_pos hc] at e
        cases e
        simp only [Bool.and_eq_true, decide_eq_true_eq] at hc
        cases r2
        obtain ⟨a, vs, rfl, h1, s1, _⟩ := rp_sqt r1
        have hv : vs = [] ↔ xs = [] := by
          constructor
          · rintro rfl; exact List.eq_nil_of_length_eq_zero s1.len.symm
          · rintro rfl; exact List.eq_nil_of_length_eq_zero s1.len
        by_cases hj : 2 ≤ j ∧ vs ≠ []
        · exact .inr (.inl ⟨a, j, vs, rfl, rfl, h1, hj.2, hj.1, hc.1.2, by rw [s1.len]; exact hc.2, fun p hp => k.newT dw tr hp (s1.rep _)⟩)
        · refine .inr (.inr (.inl ⟨a, j, vs, rfl, rfl, h1, hc.1.1, by omega, fun z => ?_, fun j0 ne p hp => ?_, ?_⟩))
          · have e0 := r1.frz _ rfl
            subst e0
            have : (List.replicate j.toNat xs).flatten = xs := by
              rcases z with rfl | z
              · simp
              · have := hv.mp z
                subst this
                simp
            rw [this] at k
            exact k.atom dw r1
          · have : (List.replicate j.toNat xs).flatten = [] := by
              have : j.toNat = 0 := by omega
              rw [this]; rfl
            rw [this] at k
            exact k.newT dw tr hp .nil
          · by_cases h2 : 2 ≤ j
            · by_cases h3 : vs = []
              · exact .inr h3
              · exact absurd ⟨h2, h3⟩ hj
            · exact .inl (by omega)
      · rw [if_neg hc] at e; cases e
    | _ => cases e
  | lst o xs =>
    cases d2 with
    | int j =>
      have e : (if (decide (-(2 ^ 63) ≤ j) && decide (j < 2 ^ 63) && decide (xs.length * j.toNat ≤ sizeLine) && xs.all D.frz) = true then some (D.lst true (List.replicate j.toNat xs).flatten) else none) = some z := e
      by_cases hc : (decide (-(2 ^ 63) ≤ j) && decide (j < 2 ^ 63) && decide (xs.length * j.toNat ≤ sizeLine) && xs.all D.frz) = true
      · rw [if_pos hc] at e
        cases e
        simp only [Bool.and_eq_true, decide_eq_true_eq] at hc
        cases r2
        obtain ⟨a, vs, _, rfl, h1, s1, _⟩ := rp_lst r1
        exact .inr (.inr (.inr ⟨a, j, vs, rfl, rfl, h1, hc.1.1.1, hc.1.1.2, by rw [s1.len]; exact hc.1.2, fun p hp => k.newL dw hp ((s1.allfrz hc.2).rep _)⟩))
      · rw [if_neg hc] at e; cases e
    | _ => cases e
  | _ => cases e
end
end DL
/-! DL4 -/
/-! DL4: comparisons, tests, and, or, not, chosen values. -/
namespace DL
open PySem PySem.Spec PyProof.Rows L2

/-! ### == of data -/
mutual
/-- data that == takes: no def, no draws; not too deep -/
def D.pl : D → Bool
  | .fn _ => false
  | .dr => false
  | .tup xs => D.pls xs
  | .lst _ xs => D.pls xs
  | .str x => PyData.strOk x
  | _ => true
def D.pls : List D → Bool
  | [] => true
  | x :: xs => D.pl x && D.pls xs
end
mutual
def D.dep : D → Nat
  | .tup xs => D.deps xs + 1
  | .lst _ xs => D.deps xs + 1
  | _ => 0
def D.deps : List D → Nat
  | [] => 0
  | x :: xs => max (D.dep x) (D.deps xs)
end
mutual
def D.py : D → PyData
  | .non => .none | .bl b => .bool b | .int i => .int i | .str x => .str x | .fn _ => .none | .dr => .none
  | .tup xs => .tuple (D.pys xs)
  | .lst _ xs => .list (D.pys xs)
def D.pys : List D → List PyData
  | [] => []
  | x :: xs => D.py x :: D.pys xs
end
mutual
theorem py_lay : ∀ d : D, d.pl = true → PyData.canLay0 d.py = true
  | .non, _ => rfl | .bl _, _ => rfl | .int _, _ => rfl | .str _, h => h | .fn _, _ => rfl | .dr, _ => rfl
  | .tup xs, h => by simpa [D.py, PyData.canLay0] using pys_lay xs h
  | .lst _ xs, h => by simpa [D.py, PyData.canLay0] using pys_lay xs h
theorem pys_lay : ∀ ds : List D, D.pls ds = true → PyData.canLayAll0 (D.pys ds) = true
  | [], _ => rfl
  | x :: xs, h => by
    have h' : (x.pl && D.pls xs) = true := h
    rw [Bool.and_eq_true] at h'
    simp [D.pys, PyData.canLayAll0, py_lay x h'.1, pys_lay xs h'.2]
end
mutual
theorem py_dep : ∀ d : D, PyData.depth d.py = d.dep
  | .non => rfl | .bl _ => rfl | .int _ => rfl | .str _ => rfl | .fn _ => rfl | .dr => rfl
  | .tup xs => by simp [D.py, D.dep, PyData.depth, pys_dep xs]
  | .lst _ xs => by simp [D.py, D.dep, PyData.depth, pys_dep xs]
theorem pys_dep : ∀ ds : List D, PyData.depthAll (D.pys ds) = D.deps ds
  | [] => rfl
  | x :: xs => by simp [D.pys, D.deps, PyData.depthAll, py_dep x, pys_dep xs]
end
mutual
theorem py_eqv : ∀ d e : D, d.pl = true → e.pl = true → PyData.eqv d.py e.py = d.eqv e
  | .non, e, _, h => by cases e <;> first | rfl | cases h
  | .bl _, e, _, h => by cases e <;> first | rfl | cases h
  | .int _, e, _, h => by cases e <;> first | rfl | cases h
  | .str _, e, _, h => by cases e <;> first | rfl | (cases h; done)
  | .fn _, _, h, _ => by cases h
  | .dr, _, h, _ => by cases h
  | .tup xs, e, g, h => by
    cases e with
    | tup ys => exact pys_eqv xs ys g h
    | fn _ => cases h
    | dr => cases h
    | _ => rfl
  | .lst _ xs, e, g, h => by
    cases e with
    | lst _ ys => exact pys_eqv xs ys g h
    | fn _ => cases h
    | dr => cases h
    | _ => rfl
theorem pys_eqv : ∀ ds es : List D, D.pls ds = true → D.pls es = true → PyData.eqvAll (D.pys ds) (D.pys es) = D.eqvs ds es
  | [], [], _, _ => rfl
  | [], _ :: _, _, _ => rfl
  | _ :: _, [], _, _ => rfl
  | x :: xs, y :: ys, g, h => by
    have g' : (x.pl && D.pls xs) = true := g
    have h' : (y.pl && D.pls ys) = true := h
    rw [Bool.and_eq_true] at g' h'
    simp [D.pys, PyData.eqvAll, D.eqvs, py_eqv x y g'.1 h'.1, pys_eqv xs ys g'.2 h'.2]
end
mutual
theorem rp_dp {c : DC} {O : Addr → Prop} {H : Hp} : ∀ (d : D) {v : V} {fp : List Addr}, Rp c O H v d fp → d.pl = true → Dp c.K H v d.py
  | .non, _, _, h, _ => by cases h; exact .non
  | .bl _, _, _, h, _ => by cases h; exact .bl _
  | .int _, _, _, h, _ => by cases h; exact .int _
  | .str _, _, _, h, _ => by cases h; exact .str _
  | .fn _, _, _, _, h => by cases h
  | .dr, _, _, _, h => by cases h
  | .tup ds, _, _, h, p => by
    cases h with
    | tup e n r => exact .tup (.inl (.inl e)) (rps_dp ds r p)
    | tupK e r => exact .tup (.inr e) (rps_dp ds r p)
  | .lst _ ds, _, _, h, p => by
    cases h with
    | lst e n r => exact .lst (.inl (.inl e)) (rps_dp ds r p)
    | own e r => exact .lst (.inl (.inl e)) (rps_dp ds r p)
theorem rps_dp {c : DC} {O : Addr → Prop} {H : Hp} : ∀ (ds : List D) {vs : List V} {fp : List Addr}, Rps c O H vs ds fp → D.pls ds = true → DpAll c.K H vs (D.pys ds)
  | [], _, _, h, _ => by cases h; exact .nil
  | d :: ds, _, _, h, p => by
    have p' : (d.pl && D.pls ds) = true := p
    rw [Bool.and_eq_true] at p'
    cases h with
    | cons r t => exact .cons (rp_dp d r p'.1) (rps_dp ds t p'.2)
end
theorem py_shaped {d : D} (p : d.pl = true) (h : d.dep ≤ 64) : SeqAt.shaped d.py = true := by
  unfold SeqAt.shaped
  rw [py_lay d p, py_dep, decide_eq_true h]
  rfl
def D.ok (d : D) : Bool := d.pl && decide (d.dep ≤ 64)

section
variable {X : Cx} {dra : Option (Addr × Addr)}
def gEq : D → D → Option D := fun x y => if x.ok && y.ok then some (.bl (x.eqv y)) else none
def gNe : D → D → Option D := fun x y => if x.ok && y.ok then some (.bl (!x.eqv y)) else none
theorem opd_eq : OpD X dra (rEqD X.K) gEq := by
  intro O H x y d1 d2 z fp fq dr Q r1 r2 e tr dw k
  have e : (if (d1.ok && d2.ok) = true then some (D.bl (d1.eqv d2)) else none) = some z := e
  by_cases hc : (d1.ok && d2.ok) = true
  · rw [if_pos hc] at e
    cases e
    simp only [D.ok, Bool.and_eq_true, decide_eq_true_eq] at hc
    refine ⟨d1.py, d2.py, rp_dp d1 r1 hc.1.1, rp_dp d2 r2 hc.2.1, py_shaped hc.1.1 hc.1.2, py_shaped hc.2.1 hc.2.2, ?_⟩
    rw [py_eqv _ _ hc.1.1 hc.2.1]
    exact k.atom dw (.bl _)
  · rw [if_neg hc] at e; cases e
theorem opd_ne : OpD X dra (rNeD X.K) gNe := by
  intro O H x y d1 d2 z fp fq dr Q r1 r2 e tr dw k
  have e : (if (d1.ok && d2.ok) = true then some (D.bl (!d1.eqv d2)) else none) = some z := e
  by_cases hc : (d1.ok && d2.ok) = true
  · rw [if_pos hc] at e
    cases e
    simp only [D.ok, Bool.and_eq_true, decide_eq_true_eq] at hc
    refine ⟨d1.py, d2.py, rp_dp d1 r1 hc.1.1, rp_dp d2 r2 hc.2.1, py_shaped hc.1.1 hc.1.2, py_shaped hc.2.1 hc.2.2, ?_⟩
    rw [py_eqv _ _ hc.1.1 hc.2.1]
    exact k.atom dw (.bl _)
  · rw [if_neg hc] at e; cases e

/-! ### is None; <, <= of numbers and texts -/
def D.isNon : D → Bool
  | .non => true
  | _ => false
def gIsN (neg : Bool) : D → D → Option D
  | x, .non => some (.bl (x.isNon ^^ neg))
  | _, _ => none
theorem rp_non {c : DC} {O : Addr → Prop} {H : Hp} {v : V} {d : D} {fp : List Addr} (r : Rp c O H v d fp) : decide (v = .non) = d.isNon := by
  cases r <;> first | rfl | exact decide_eq_false (fun z => nomatch z)
theorem opd_isN : OpD X dra (fun x y H Q => y = .non ∧ Q (.bl (decide (x = .non))) H) (gIsN false) := by
  intro O H x y d1 d2 z fp fq dr Q r1 r2 e tr dw k
  cases d2 with
  | non =>
    cases r2
    have e : some (D.bl (d1.isNon ^^ false)) = some z := e
    cases e
    refine ⟨rfl, ?_⟩
    rw [rp_non r1, ← Bool.xor_false d1.isNon]
    exact k.atom dw (.bl _)
  | _ => cases d1 <;> cases e
theorem opd_notN : OpD X dra (fun x y H Q => y = .non ∧ Q (.bl (!decide (x = .non))) H) (gIsN true) := by
  intro O H x y d1 d2 z fp fq dr Q r1 r2 e tr dw k
  cases d2 with
  | non =>
    cases r2
    have e : some (D.bl (d1.isNon ^^ true)) = some z := e
    cases e
    refine ⟨rfl, ?_⟩
    rw [rp_non r1, ← Bool.xor_true d1.isNon]
    exact k.atom dw (.bl _)
  | _ => cases d1 <;> cases e
def gCS (p : Int → Int → Bool) (q : List Nat → List Nat → Bool) : D → D → Option D
  | .int a, .int b => some (.bl (p a b))
  | .str a, .str b => some (.bl (q a.cps.toList b.cps.toList))
  | _, _ => none
def rCS (p : Int → Int → Bool) (q : List Nat → List Nat → Bool) : R2 := fun x y H Q => (∃ i j, x = .int i ∧ y = .int j ∧ Q (.bl (p i j)) H) ∨ (∃ i j, x = .str i ∧ y = .str j ∧ Q (.bl (q i.cps.toList j.cps.toList)) H)
theorem opd_cs {p : Int → Int → Bool} {q : List Nat → List Nat → Bool} : OpD X dra (rCS p q) (gCS p q) := by
  intro O H x y d1 d2 z fp fq dr Q r1 r2 e tr dw k
  cases d1 with
  | int a =>
    cases d2 with
    | int b =>
      cases r1; cases r2; cases e
      exact .inl ⟨a, b, rfl, rfl, k.atom dw (.bl _)⟩
    | _ => cases e
  | str a =>
    cases d2 with
    | str b =>
      cases r1; cases r2; cases e
      exact .inr ⟨a, b, rfl, rfl, k.atom dw (.bl _)⟩
    | _ => cases e
  | _ => cases e
abbrev gLt := gCS (fun i j => decide (i < j)) (fun i j => decide (i < j))
abbrev gLe := gCS (fun i j => decide (i ≤ j)) (fun i j => !decide (j < i))
abbrev gGt := gCS (fun i j => decide (j < i)) (fun i j => decide (j < i))
abbrev gGe := gCS (fun i j => decide (j ≤ i)) (fun i j => !decide (i < j))
theorem op_ltA : OpR X (compareOp .Lt) (rCS (fun i j => decide (i < j)) (fun i j => decide (i < j))) := OpR.or op_lt op_lt_str
theorem op_leA : OpR X (compareOp .LtE) (rCS (fun i j => decide (i ≤ j)) (fun i j => !decide (j < i))) := OpR.or op_le op_le_str
theorem op_gtA : OpR X (compareOp .Gt) (rCS (fun i j => decide (j < i)) (fun i j => decide (j < i))) := OpR.or op_gt op_gt_str
theorem op_geA : OpR X (compareOp .GtE) (rCS (fun i j => decide (j ≤ i)) (fun i j => !decide (i < j))) := OpR.or op_ge op_ge_str

/-! ### in, not in -/
def D.flat : D → Bool
  | .non => true | .bl _ => true | .int _ => true | .str _ => true
  | _ => false
def gIn (neg : Bool) : D → D → Option D
  | x, .lst _ ys => if x.ok && (D.lst false ys).ok then some (.bl ((ys.any fun y => y.eqv x) ^^ neg)) else none
  | x, .tup ys => if x.flat && ys.all D.flat then some (.bl ((ys.any fun y => y.eqv x) ^^ neg)) else none
  | .str x, .str y => some (.bl ((!(Builtin.Str.occurrences y x 0 y.length 1).isEmpty) ^^ neg))
  | _, _ => none
def rInA (K : PySem.W.Frag) (neg : Bool) : R2 := fun x y H Q =>
  (∃ d ds, Dp K H x d ∧ Dp K H y (.list ds) ∧ SeqAt.shaped d = true ∧ SeqAt.shaped (.list ds) = true ∧ Q (.bl ((ds.any fun z => PyData.eqv z d) ^^ neg)) H) ∨
  (rIn K neg x y H Q) ∨ (∃ i j, x = .str i ∧ y = .str j ∧ Q (.bl ((!(Builtin.Str.occurrences j i 0 j.length 1).isEmpty) ^^ neg)) H)
theorem op_inA (hu : X.A.units + 65 < cLine) : OpR X (compareOp .In) (rInA X.K false) := by
  intro pins s σ H x y v u Q I rx ry h
  rcases h with ⟨d, ds, h1, h2, h3, h4, q⟩ | h | ⟨i, j, h1, h2, q⟩
  · rw [Bool.xor_false] at q
    exact op_inD hu pins s σ H x y v u Q I rx ry ⟨d, ds, h1, h2, h3, h4, q⟩
  · exact op_in_seq pins s σ H x y v u Q I rx ry h
  · rw [Bool.xor_false] at q
    exact op_in_str pins s σ H x y v u Q I rx ry ⟨i, j, h1, h2, q⟩
theorem op_notInA (hu : X.A.units + 65 < cLine) : OpR X (compareOp .NotIn) (rInA X.K true) := by
  intro pins s σ H x y v u Q I rx ry h
  rcases h with ⟨d, ds, h1, h2, h3, h4, q⟩ | h | ⟨i, j, h1, h2, q⟩
  · rw [Bool.xor_true] at q
    exact op_notInD hu pins s σ H x y v u Q I rx ry ⟨d, ds, h1, h2, h3, h4, q⟩
  · exact op_notIn_seq pins s σ H x y v u Q I rx ry h
  · rw [Bool.xor_true] at q
    exact L2.op_notIn_str pins s σ H x y v u Q I rx ry ⟨i, j, h1, h2, q⟩
theorem flat_v {c : DC} {O : Addr → Prop} {H : Hp} {v : V} {d : D} {fp : List Addr} (r : Rp c O H v d fp) (h : d.flat = true) : flatV v = true := by
  cases r <;> first | rfl | cases h
theorem flat_eq {c : DC} {O : Addr → Prop} {H : Hp} {v w : V} {d e : D} {fp fq : List Addr} (r : Rp c O H v d fp) (s : Rp c O H w e fq) (h : d.flat = true) (h' : e.flat = true) : eqV v w = d.eqv e := by
  cases r <;> first | (cases h; done) | (cases s <;> first | rfl | (cases h'; done))
theorem flats {c : DC} {O : Addr → Prop} {H : Hp} {w : V} {e : D} {fq : List Addr} (s : Rp c O H w e fq) (h' : e.flat = true) : ∀ {ds : List D} {vs : List V} {fp : List Addr}, Rps c O H vs ds fp → ds.all D.flat = true → vs.all flatV = true ∧ (vs.any fun y => eqV y w) = ds.any fun y => y.eqv e
  | _, _, _, .nil, _ => ⟨rfl, rfl⟩
  | _, _, _, .cons r t, h => by
    rw [List.all_cons, Bool.and_eq_true] at h
    obtain ⟨i1, i2⟩ := flats s h' t h.2
    refine ⟨by rw [List.all_cons, flat_v r h.1, i1]; rfl, ?_⟩
    rw [List.any_cons, List.any_cons, i2, flat_eq r s h.1 h']
theorem any_pys : ∀ (ds : List D) (x : D), D.pls ds = true → x.pl = true → ((D.pys ds).any fun z => PyData.eqv z x.py) = ds.any fun y => y.eqv x
  | [], _, _, _ => rfl
  | d :: ds, x, h, hx => by
    have h' : (d.pl && D.pls ds) = true := h
    rw [Bool.and_eq_true] at h'
    show (PyData.eqv d.py x.py || (D.pys ds).any fun z => PyData.eqv z x.py) = (d.eqv x || ds.any fun y => y.eqv x)
    rw [py_eqv d x h'.1 hx, any_pys ds x h'.2 hx]
theorem opd_in {neg : Bool} : OpD X dra (rInA X.K neg) (gIn neg) := by
  intro O H x y d1 d2 z fp fq dr Q r1 r2 e tr dw k
  cases d2 with
  | lst o ys =>
    have e : (if (d1.ok && (D.lst false ys).ok) = true then some (D.bl ((ys.any fun y => y.eqv d1) ^^ neg)) else none) = some z := by cases d1 <;> exact e
    by_cases hc : (d1.ok && (D.lst false ys).ok) = true
    · rw [if_pos hc] at e
      cases e
      simp only [D.ok, Bool.and_eq_true, decide_eq_true_eq] at hc
      have hp : D.pls ys = true := hc.2.1
      refine .inl ⟨d1.py, D.pys ys, rp_dp d1 r1 hc.1.1, rp_dp _ r2 hp, py_shaped hc.1.1 hc.1.2, py_shaped hc.2.1 hc.2.2, ?_⟩
      rw [any_pys ys d1 hp hc.1.1]
      exact k.atom dw (.bl _)
    · rw [if_neg hc] at e; cases e
  | tup ys =>
    have e : (if (d1.flat && ys.all D.flat) = true then some (D.bl ((ys.any fun y => y.eqv d1) ^^ neg)) else none) = some z := by cases d1 <;> exact e
    by_cases hc : (d1.flat && ys.all D.flat) = true
    · rw [if_pos hc] at e
      cases e
      rw [Bool.and_eq_true] at hc
      obtain ⟨a, vs, rfl, h1, s1, _⟩ := rp_sqt r2
      obtain ⟨f1, f2⟩ := flats r1 hc.1 s1 hc.2
      refine .inr (.inl ⟨a, vs, rfl, .inr h1, flat_v r1 hc.1, f1, ?_⟩)
      have : (if neg = true then !inV x vs else inV x vs) = ((ys.any fun y => y.eqv d1) ^^ neg) := by
        unfold inV
        rw [f2]
        cases neg <;> simp
      rw [this]
      exact k.atom dw (.bl _)
    · rw [if_neg hc] at e; cases e
  | str b =>
    cases d1 with
    | str a =>
      cases r1; cases r2; cases e
      exact .inr (.inr ⟨a, b, rfl, rfl, k.atom dw (.bl _)⟩)
    | _ => cases e
  | _ => cases d1 <;> cases e
end
end DL
/-! DL5 -/
/-! DL5: tests, and, or, not, chosen values, signs. -/
namespace DL
open PySem PySem.Spec PyProof.Rows L2

def cTst (F : CEx) : CTx := fun ρ dr => (F ρ dr).bind fun d dr => match d with
  | .bl k => .ok k dr
  | _ => .st
/-- truth -/
def D.tru : D → Option Bool
  | .non => some false
  | .bl b => some b
  | .int i => some (i != 0)
  | .str x => if x.length ≤ sizeLine then some ((x.length : Int) != 0) else none
  | .tup xs => some (!xs.isEmpty)
  | .lst _ xs => some (!xs.isEmpty)
  | _ => none
def cTru (F : CEx) : CTx := fun ρ dr => (F ρ dr).bind fun d dr => R.opt d.tru dr
def cAnd (F G : CTx) : CTx := fun ρ dr => (F ρ dr).bind fun b dr => if b = true then G ρ dr else .ok false dr
def cOr (F G : CTx) : CTx := fun ρ dr => (F ρ dr).bind fun b dr => if b = true then .ok true dr else G ρ dr
def cNotT (F : CTx) : CTx := fun ρ dr => (F ρ dr).bind fun b dr => .ok (!b) dr
def cNot (F : CEx) : CEx := fun ρ dr => (F ρ dr).bind fun d dr => R.opt (d.tru.map fun k => .bl (!k)) dr
def cIf (C : CTx) (F G : CEx) : CEx := fun ρ dr => (C ρ dr).bind fun b dr => if b = true then F ρ dr else G ρ dr
def cAndV (F G : CEx) : CEx := fun ρ dr => (F ρ dr).bind fun d dr => match d with
  | .bl k => if k = true then G ρ dr else .ok (.bl false) dr
  | _ => .st
def cOrV (F G : CEx) : CEx := fun ρ dr => (F ρ dr).bind fun d dr => match d with
  | .bl k => if k = true then .ok (.bl true) dr else G ρ dr
  | _ => .st
def cChain (g g' : D → D → Option D) (F1 F2 F3 : CEx) : CEx := fun ρ dr => (F1 ρ dr).bind fun x dr => (F2 ρ dr).bind fun y dr => match g x y with
  | some (.bl k) => if k = true then (F3 ρ dr).bind fun z dr => R.opt (g' y z) dr else .ok (.bl false) dr
  | _ => .st
def cNeg (F : CEx) : CEx := fun ρ dr => (F ρ dr).bind fun d dr => match d with
  | .int i => .ok (.int (-i)) dr
  | _ => .st

section
variable {c : DC} {W : WX} {F G : CEx} {σ : L2.St} {H : Hp} {Q : Bool → Hp → Prop}
theorem rp_bl {O : Addr → Prop} {v : V} {k : Bool} {fp : List Addr} (r : Rp c O H v (.bl k) fp) : v = .bl k := by cases r; rfl
/-- a test of a value that is True or False -/
theorem imp_tst (h : tT c W (cTst F) σ H Q) : tE c W F σ H fun x H' => ∃ k, x = .bl k ∧ Q k H' := by
  obtain ⟨en, O, lf, ρ, dr, S, w⟩ := h
  refine ⟨en, O, lf, ρ, dr, S, (Wp.bind w).mono (fun d dr' k v H' fp x dw r nd fr => ?_) fun _ _ k => k⟩
  cases d with
  | bl b => exact ⟨b, rp_bl r, k H' x dw⟩
  | _ => exact k.elim
theorem imp_tstB (h : tT c W (cTst F) σ H Q) : tB c W F σ H fun x H' => ∃ k, x = .bl k ∧ Q k H' := by
  obtain ⟨en, O, lf, ρ, dr, S, w⟩ := h
  refine ⟨en, O, lf, ρ, dr, S, (Wp.bind w).mono (fun d dr' k v H' fp x dw r nd fr => ?_) fun _ _ k => k⟩
  cases d with
  | bl b => exact ⟨b, rp_bl r, k H' x dw⟩
  | _ => exact k.elim
theorem Rps.emp {O : Addr → Prop} : ∀ {ds : List D} {vs : List V} {fp : List Addr}, Rps c O H vs ds fp → (!ds.isEmpty) = !vs.isEmpty
  | _, _, _, .nil => rfl
  | _, _, _, .cons _ _ => rfl
theorem rp_tru {O : Addr → Prop} {v : V} {d : D} {k : Bool} {fp : List Addr} (r : Rp c O H v d fp) (h : d.tru = some k) : TruV c.K v H k := by
  cases r with
  | non => cases h; rfl
  | bl b => cases h; rfl
  | int i => cases h; rfl
  | str x =>
    have h : (if x.length ≤ sizeLine then some ((x.length : Int) != 0) else none) = some k := h
    by_cases hz : x.length ≤ sizeLine
    · rw [if_pos hz] at h; cases h; exact ⟨hz, rfl⟩
    · rw [if_neg hz] at h; cases h
  | fn _ => cases h
  | dr _ => cases h
  | tup e n r =>
    cases h
    refine .inr (.inl ⟨_, .inl (.inl e), r.emp⟩)
  | tupK e r =>
    cases h
    refine .inr (.inl ⟨_, .inr e, r.emp⟩)
  | lst e n r =>
    cases h
    refine .inl ⟨_, .inl (.inl e), r.emp⟩
  | own e r =>
    cases h
    refine .inl ⟨_, .inl (.inl e), r.emp⟩
theorem imp_tru (h : tT c W (cTru F) σ H Q) : tB c W F σ H fun x H' => ∃ k, TruV c.K x H' k ∧ Q k H' := by
  obtain ⟨en, O, lf, ρ, dr, S, w⟩ := h
  refine ⟨en, O, lf, ρ, dr, S, (Wp.bind w).mono (fun d dr' k v H' fp x dw r nd fr => ?_) fun _ _ k => k⟩
  obtain ⟨b, e, q⟩ := k.opt
  exact ⟨b, rp_tru r e, q H' x dw⟩
theorem imp_not {Q : VK} (h : tE c W (cNot F) σ H Q) : tB c W F σ H fun x H' => ∃ k, TruV c.K x H' k ∧ Q (.bl (!k)) H' := by
  obtain ⟨en, O, lf, ρ, dr, S, w⟩ := h
  refine ⟨en, O, lf, ρ, dr, S, (Wp.bind w).mono (fun d dr' k v H' fp x dw r nd fr => ?_) fun _ _ k => k⟩
  obtain ⟨b, e, q⟩ := k.opt
  obtain ⟨k', e1, e2⟩ := Option.map_eq_some_iff.mp e
  subst e2
  exact ⟨k', rp_tru r e1, (OkE.later q x).atom dw (.bl _)⟩
theorem imp_and {T T' : CTx} (h : tT c W (cAnd T T') σ H Q) : tT c W T σ H fun k H1 => if k = true then tT c W T' σ H1 Q else Q false H1 := by
  obtain ⟨en, O, lf, ρ, dr, S, w⟩ := h
  refine ⟨en, O, lf, ρ, dr, S, (Wp.bind w).mono (fun d dr' k H' x dw => ?_) fun _ _ k => k⟩
  cases d with
  | true => exact ⟨en, O, lf, ρ, dr', S.step x dw, k.mono (fun b d q H2 x2 dw2 => q H2 (x.trans x2) dw2) fun _ _ k => k.later x⟩
  | false => exact k H' x dw
theorem imp_or {T T' : CTx} (h : tT c W (cOr T T') σ H Q) : tT c W T σ H fun k H1 => if k = true then Q true H1 else tT c W T' σ H1 Q := by
  obtain ⟨en, O, lf, ρ, dr, S, w⟩ := h
  refine ⟨en, O, lf, ρ, dr, S, (Wp.bind w).mono (fun d dr' k H' x dw => ?_) fun _ _ k => k⟩
  cases d with
  | false => exact ⟨en, O, lf, ρ, dr', S.step x dw, k.mono (fun b d q H2 x2 dw2 => q H2 (x.trans x2) dw2) fun _ _ k => k.later x⟩
  | true => exact k H' x dw
theorem imp_notT {T : CTx} (h : tT c W (cNotT T) σ H Q) : tT c W T σ H fun k H1 => Q (!k) H1 := by
  obtain ⟨en, O, lf, ρ, dr, S, w⟩ := h
  exact ⟨en, O, lf, ρ, dr, S, (Wp.bind w).mono (fun d dr' k H' x dw => k H' x dw) fun _ _ k => k⟩
theorem imp_if {T : CTx} {Q : VK} (h : tB c W (cIf T F G) σ H Q) : tT c W T σ H fun k H1 => if k = true then tB c W F σ H1 Q else tB c W G σ H1 Q := by
  obtain ⟨en, O, lf, ρ, dr, S, w⟩ := h
  refine ⟨en, O, lf, ρ, dr, S, (Wp.bind w).mono (fun d dr' k H' x dw => ?_) fun _ _ k => k⟩
  cases d with
  | true => exact ⟨en, O, lf, ρ, dr', S.step x dw, Wp.mono (show Wp (F ρ dr') _ _ from k) (fun b d q => q.later x) fun _ _ k => k.later x⟩
  | false => exact ⟨en, O, lf, ρ, dr', S.step x dw, Wp.mono (show Wp (G ρ dr') _ _ from k) (fun b d q => q.later x) fun _ _ k => k.later x⟩
theorem imp_ifE {T : CTx} {Q : VK} (h : tE c W (cIf T F G) σ H Q) : tT c W T σ H fun k H1 => if k = true then tE c W F σ H1 Q else tE c W G σ H1 Q := by
  obtain ⟨en, O, lf, ρ, dr, S, w⟩ := h
  refine ⟨en, O, lf, ρ, dr, S, (Wp.bind w).mono (fun d dr' k H' x dw => ?_) fun _ _ k => k⟩
  cases d with
  | true => exact ⟨en, O, lf, ρ, dr', S.step x dw, Wp.mono (show Wp (F ρ dr') _ _ from k) (fun b d q => q.later x) fun _ _ k => k.later x⟩
  | false => exact ⟨en, O, lf, ρ, dr', S.step x dw, Wp.mono (show Wp (G ρ dr') _ _ from k) (fun b d q => q.later x) fun _ _ k => k.later x⟩
theorem imp_andV {Q : VK} (h : tE c W (cAndV F G) σ H Q) : tB c W F σ H fun x H1 => ∃ k, x = .bl k ∧ if k = true then tE c W G σ H1 Q else Q (.bl false) H1 := by
  obtain ⟨en, O, lf, ρ, dr, S, w⟩ := h
  refine ⟨en, O, lf, ρ, dr, S, (Wp.bind w).mono (fun d dr' k v H' fp x dw r nd fr => ?_) fun _ _ k => k⟩
  cases d with
  | bl b =>
    refine ⟨b, rp_bl r, ?_⟩
    cases b with
    | true => exact ⟨en, O, lf, ρ, dr', S.step x dw, Wp.mono (show Wp (G ρ dr') _ _ from k) (fun b d q => q.later x) fun _ _ k => k.later x⟩
    | false => exact (OkE.later (show OkE c O H Q (.bl false) dr' from k) x).atom dw (.bl _)
  | _ => exact k.elim
theorem imp_orV {Q : VK} (h : tE c W (cOrV F G) σ H Q) : tB c W F σ H fun x H1 => ∃ k, x = .bl k ∧ if k = true then Q (.bl true) H1 else tE c W G σ H1 Q := by
  obtain ⟨en, O, lf, ρ, dr, S, w⟩ := h
  refine ⟨en, O, lf, ρ, dr, S, (Wp.bind w).mono (fun d dr' k v H' fp x dw r nd fr => ?_) fun _ _ k => k⟩
  cases d with
  | bl b =>
    refine ⟨b, rp_bl r, ?_⟩
    cases b with
    | false => exact ⟨en, O, lf, ρ, dr', S.step x dw, Wp.mono (show Wp (G ρ dr') _ _ from k) (fun b d q => q.later x) fun _ _ k => k.later x⟩
    | true => exact (OkE.later (show OkE c O H Q (.bl true) dr' from k) x).atom dw (.bl _)
  | _ => exact k.elim
end

section
variable {X : Cx} {dra : Option (Addr × Addr)} {W : WX} {e a b d : Expr} {F G F1 F2 F3 : CEx} {T T' : CTx} {pos : Pos} {rest : List Expr}
theorem imp_bin {r : R2} {g : D → D → Option D} {σ : L2.St} {H : Hp} {Q : VK} (hg : OpD X dra r g) (h : tE (dc X dra) W (cBin g F1 F2) σ H Q) : tOp r (tB (dc X dra) W F1) (tB (dc X dra) W F2) σ H Q := by
  obtain ⟨en, O, lf, ρ, dr, S, w⟩ := h
  exact two S (w.bind.mono (fun _ _ k => k.bind) fun _ _ k => k) fun d1 d2 dr' H' u v fp fq w x tr dw r1 r2 => by
    obtain ⟨z, e, k⟩ := w.opt
    exact hg O H' u v d1 d2 z fp fq dr' Q r1.orl r2.orl e tr dw (k.later x)
theorem bt_cmp {op : CmpOp} {r : R2} {g : D → D → Option D} (ho : OpR X (compareOp op) r) (hg : OpD X dra r g) (ha : BE X dra W a F1) (hb : BE X dra W b F2) (hm : behindInMarks op b = false) : BT X dra W (.Compare a [op] [b] pos) (cTst (cBin g F1 F2)) :=
  ⟨wkT (pt_cmpR ho ha.pe hb.pe hm) fun σ H Q h => imp_bin hg (imp_tst h)⟩
theorem bt_val (h : BE X dra W e F) (he : ∀ whole, isTrue e X.env whole = (do let v ← whole; standAt e.pos; holding [v] (truthy v)) := by intro _; rfl) : BT X dra W e (cTst F) :=
  ⟨wkT (pt_val h.pe he) fun σ H Q h => imp_tstB h⟩
theorem bt_tru (h : BE X dra W e F) (he : ∀ whole, isTrue e X.env whole = (do let v ← whole; standAt e.pos; holding [v] (truthy v)) := by intro _; rfl) : BT X dra W e (cTru F) :=
  ⟨wkT (pt_truth h.pe he) fun σ H Q h => imp_tru h⟩
structure BW (X : Cx) (dra : Option (Addr × Addr)) (W : WX) (e : Expr) (F : CTx) : Prop where
  pw : PW X e (tT (dc X dra) W F)
theorem wkW {t t' : TT} (h : PW X e t) (i : ∀ σ H Q, t' σ H Q → t σ H Q) : PW X e t' := ⟨fun wh pins s σ H Q I hw => h.run wh pins s σ H Q I (i σ H Q hw)⟩
theorem BW.bt (h : BW X dra W e T) : BT X dra W e T := ⟨h.pw.pt⟩
theorem bw_and1 (h : BT X dra W a T) : BW X dra W (.BoolOp .And [a] pos) T := ⟨pw_and1 h.pt⟩
theorem bw_or1 (h : BT X dra W a T) : BW X dra W (.BoolOp .Or [a] pos) T := ⟨pw_or1 h.pt⟩
theorem bw_and (h : BT X dra W a T) (h' : BW X dra W (.BoolOp .And (b :: rest) pos) T') : BW X dra W (.BoolOp .And (a :: b :: rest) pos) (cAnd T T') := ⟨wkW (pw_and h.pt h'.pw) fun σ H Q h => imp_and h⟩
theorem bw_or (h : BT X dra W a T) (h' : BW X dra W (.BoolOp .Or (b :: rest) pos) T') : BW X dra W (.BoolOp .Or (a :: b :: rest) pos) (cOr T T') := ⟨wkW (pw_or h.pt h'.pw) fun σ H Q h => imp_or h⟩
theorem bt_not (h : BT X dra W a T) : BT X dra W (.UnaryOp .Not a pos) (cNotT T) := ⟨wkT (pt_not h.pt) fun σ H Q h => imp_notT h⟩
theorem ee_not (h : BE X dra W a F) : EE X dra W (.UnaryOp .Not a pos) (cNot F) := ⟨wkE (pe_notT h.pe) fun σ H Q h => imp_not h⟩
theorem be_if (ht : BT X dra W d T) (ha : BE X dra W a F) (hb : BE X dra W b G) : BE X dra W (.IfExp d a b pos) (cIf T F G) := ⟨wkE (pe_ifExp ht.pt ha.pe hb.pe) fun σ H Q h => imp_if h⟩
theorem ee_if (ht : BT X dra W d T) (ha : EE X dra W a F) (hb : EE X dra W b G) : EE X dra W (.IfExp d a b pos) (cIf T F G) := ⟨wkE (pe_ifExp ht.pt ha.pe hb.pe) fun σ H Q h => imp_ifE h⟩
theorem ee_one {op} (h : EE X dra W a F) : EE X dra W (.BoolOp op [a] pos) F := ⟨pe_one h.pe⟩
theorem ee_and (ha : BE X dra W a F) (hb : EE X dra W (.BoolOp .And (b :: rest) pos) G) : EE X dra W (.BoolOp .And (a :: b :: rest) pos) (cAndV F G) := ⟨wkE (pe_and ha.pe hb.pe) fun σ H Q h => imp_andV h⟩
theorem ee_or (ha : BE X dra W a F) (hb : EE X dra W (.BoolOp .Or (b :: rest) pos) G) : EE X dra W (.BoolOp .Or (a :: b :: rest) pos) (cOrV F G) := ⟨wkE (pe_or ha.pe hb.pe) fun σ H Q h => imp_orV h⟩
theorem ee_neg (h : BE X dra W a F) : EE X dra W (.UnaryOp .USub a pos) (cNeg F) := ⟨wkE (pe_un un_neg h.pe) fun σ H Q ⟨en, O, lf, ρ, dr, S, w⟩ => by
  refine ⟨en, O, lf, ρ, dr, S, (Wp.bind w).mono (fun d dr' k v H' fp x dw r nd fr => ?_) fun _ _ k => k⟩
  cases d with
  | int i =>
    cases r
    exact ⟨i, rfl, (OkE.later (show OkE (dc X dra) O H Q (.int (-i)) dr' from k) x).atom dw (.int _)⟩
  | _ => exact k.elim⟩
/-- a op b op' d -/
theorem imp_chain {r r' : R2} {g g' : D → D → Option D} {σ : L2.St} {H : Hp} {Q : VK} (hg : OpD X dra r g) (hg' : OpD X dra r' g') (h : tE (dc X dra) W (cChain g g' F1 F2 F3) σ H Q) :
    tChain r r' (tB (dc X dra) W F1) (tB (dc X dra) W F2) (tB (dc X dra) W F3) σ H Q := by
  obtain ⟨en, O, lf, ρ, dr, S, w⟩ := h
  refine ⟨en, O, lf, ρ, dr, S, (Wp.bind w).mono (fun d1 dr1 w1 u H1 fp x1 dw1 r1 nd1 fr1 => ?_) fun _ _ k => k⟩
  refine ⟨en, O, lf, ρ, dr1, S.step x1 dw1, (Wp.bind w1).mono (fun d2 dr2 w2 v H2 fq x2 dw2 r2 nd2 fr2 => ?_) fun _ _ k => k.later x1⟩
  have x12 := x1.trans x2
  have tr : ∀ a, O a → H2 a ≠ none := fun a ha => x12.trk a (S.trk a ha)
  cases e : g d1 d2 with
  | none => rw [e] at w2; exact w2.elim
  | some z =>
    rw [e] at w2
    cases z with
    | bl k =>
      refine hg O H2 u v d1 d2 (.bl k) fp fq dr2 _ (r1.later S x2 fr1).orl r2.orl e tr dw2 fun v' H3 fs x3 dw3 r3 _ _ => ⟨k, rp_bl r3, ?_⟩
      cases k with
      | true =>
        refine ⟨en, O, lf, ρ, dr2, S.step (x12.trans x3) dw3, (Wp.bind (show Wp ((F3 ρ dr2).bind _) _ _ from w2)).mono (fun d3 dr3 w3 w' H4 fw x4 dw4 r4 nd4 fr4 => ?_) fun _ _ k => k.later (x12.trans x3)⟩
        obtain ⟨z, e', k⟩ := w3.opt
        exact hg' O H4 v w' d2 d3 z fq fw dr3 Q (r2.later S (x3.trans x4) fr2).orl r4.orl e' (fun a ha => (x3.trans x4).trk a (tr a ha)) dw4 (k.later ((x12.trans x3).trans x4))
      | false => exact (OkE.later (show OkE (dc X dra) O H Q (.bl false) dr2 from w2) (x12.trans x3)).atom dw3 (.bl _)
    | _ => exact w2.elim
theorem ee_chain {op op' : CmpOp} {r r' : R2} {g g' : D → D → Option D} (ho : OpR X (compareOp op) r) (ho' : OpR X (compareOp op') r') (hg : OpD X dra r g) (hg' : OpD X dra r' g') (ha : BE X dra W a F1) (hb : BE X dra W b F2) (hc : BE X dra W d F3)
    (hm : lastMarks [op, op'] [b, d] = false := by with_unfolding_all rfl) : EE X dra W (.Compare a [op, op'] [b, d] pos) (cChain g g' F1 F2 F3) := ⟨wkE (pe_chain ho ho' ha.pe hb.pe hc.pe hm) fun σ H Q h => imp_chain hg hg' h⟩
theorem bt_chain {op op' : CmpOp} {r r' : R2} {g g' : D → D → Option D} (ho : OpR X (compareOp op) r) (ho' : OpR X (compareOp op') r') (hg : OpD X dra r g) (hg' : OpD X dra r' g') (ha : BE X dra W a F1) (hb : BE X dra W b F2) (hc : BE X dra W d F3)
    (hm : lastMarks [op, op'] [b, d] = false := by with_unfolding_all rfl) : BT X dra W (.Compare a [op, op'] [b, d] pos) (cTst (cChain g g' F1 F2 F3)) := ⟨wkT (pt_chain ho ho' ha.pe hb.pe hc.pe hm) fun σ H Q h => imp_chain hg hg' (imp_tst h)⟩
end
end DL
/-! DL6 -/
/-! DL6: lists of arguments, displays, subscripts, slices. -/
namespace DL
open PySem PySem.Spec PyProof.Rows L2

/-! ### several values, one behind the other -/
def cNil : CAx := fun _ dr => .ok [] dr
def cCons (F : CEx) (G : CAx) : CAx := fun ρ dr => (F ρ dr).bind fun x dr => (G ρ dr).bind fun xs dr => .ok (x :: xs) dr
/-- each one's own or nobody's -/
def OkA (c : DC) (O : Addr → Prop) (H : Hp) (Q : List V → Hp → Prop) : List D → Dr → Prop := fun ds dr => ∀ vs H' fp, Ext c H H' → DrOk c dr H' → Rps c (orO O fp) H' vs ds fp → fp.Nodup → (∀ a ∈ fp, H a = none) → Q vs H'
inductive Bs (c : DC) (O : Addr → Prop) (H : Hp) : List V → List D → Prop where
  | nil : Bs c O H [] []
  | cons {v : V} {d : D} {fp : List Addr} {vs : List V} {ds : List D} : Rp c O H v d fp → Bs c O H vs ds → Bs c O H (v :: vs) (d :: ds)
def OkS (c : DC) (O : Addr → Prop) (H : Hp) (Q : List V → Hp → Prop) : List D → Dr → Prop := fun ds dr => ∀ vs H', Ext c H H' → DrOk c dr H' → Bs c O H' vs ds → Q vs H'
def tA (c : DC) (W : WX) (F : CAx) : TA := fun σ H Q => ∃ en O lf ρ dr, StOk c en O lf ρ dr σ H ∧ Wp (F ρ dr) (OkA c O H Q) (ExW c W σ H)
def tS (c : DC) (W : WX) (F : CAx) : TA := fun σ H Q => ∃ en O lf ρ dr, StOk c en O lf ρ dr σ H ∧ Wp (F ρ dr) (OkS c O H Q) (ExW c W σ H)
/-- had; seen -/
structure EA (X : Cx) (dra : Option (Addr × Addr)) (W : WX) (es : List Expr) (F : CAx) : Prop where
  pa : PA X es (tA (dc X dra) W F)
structure BA (X : Cx) (dra : Option (Addr × Addr)) (W : WX) (es : List Expr) (F : CAx) : Prop where
  pa : PA X es (tS (dc X dra) W F)
theorem wkA {X : Cx} {es : List Expr} {t t' : TA} (h : PA X es t) (i : ∀ σ H Q, t' σ H Q → t σ H Q) : PA X es t' := ⟨fun pos pins s σ H Q I hw => h.run pos pins s σ H Q I (i σ H Q hw)⟩
section
variable {X : Cx} {dra : Option (Addr × Addr)} {W : WX} {e a b d : Expr} {es : List Expr} {F G F1 F2 F3 : CEx} {A : CAx} {pos : Pos}
theorem ea_nil : EA X dra W [] cNil := ⟨wkA pa_nil fun σ H Q ⟨en, O, lf, ρ, dr, S, w⟩ => by
  have w : OkA (dc X dra) O H Q [] dr := w
  exact w [] H [] Ext.refl S.drw .nil List.nodup_nil fun _ z => nomatch z⟩
theorem ba_nil : BA X dra W [] cNil := ⟨wkA pa_nil fun σ H Q ⟨en, O, lf, ρ, dr, S, w⟩ => by
  have w : OkS (dc X dra) O H Q [] dr := w
  exact w [] H Ext.refl S.drw .nil⟩
theorem ea_cons (ha : EE X dra W e F) (hr : EA X dra W es A) (hs : starEach (e :: es) X.env = (false, eval e X.env) :: starEach es X.env := by rfl) : EA X dra W (e :: es) (cCons F A) :=
  ⟨wkA (pa_cons ha.pe hr.pa hs) fun σ H Q ⟨en, O, lf, ρ, dr, S, w⟩ => by
    refine ⟨en, O, lf, ρ, dr, S, (Wp.bind w).mono (fun d dr1 w1 v H1 fp x1 dw1 r1 nd1 fr1 => ?_) fun _ _ k => k⟩
    have S1 := S.hold x1 dw1 nd1 fr1 (r1.trk d)
    refine ⟨en, orO O fp, fp ++ lf, ρ, dr1, S1, (Wp.bind w1).mono (fun ds dr2 w2 vs H2 fq x2 dw2 r2 nd2 fr2 => ?_) fun _ _ k => k.later x1⟩
    have w2 : OkA (dc X dra) O H Q (d :: ds) dr2 := w2
    have no : ∀ p, (dc X dra).dra = some p → p.1 ∉ fp := fun p hp hm => S.trk p.1 (S.odr p hp) (fr1 _ hm)
    have r1' : Rp (dc X dra) (orO O (fp ++ fq)) H1 v d fp := Rp.mono d r1 (fun _ _ q _ => q) fun a o q n z => by
      rcases z with z | z
      · exact n (.inl z)
      · rcases List.mem_append.mp z with z | z
        · exact n (.inr z)
        · rw [fr2 a z] at q; cases q
    refine w2 (v :: vs) H2 (fp ++ fq) (x1.trans x2) dw2 (.cons (r1'.ext x2 (fun p hp => .inl (S.odr p hp)) no) (r2.anti fun a z => ?_)) ?_ fun a ha => ?_
    · rcases z with z | z
      · exact .inl (.inl z)
      · rcases List.mem_append.mp z with z | z
        · exact .inl (.inr z)
        · exact .inr z
    · rw [List.nodup_append]
      refine ⟨nd1, nd2, fun a ha b hb e => ?_⟩
      subst e
      exact r1.trk d a ha (fr2 a hb)
    · rcases List.mem_append.mp ha with ha | ha
      · exact fr1 a ha
      · exact x1.un (fr2 a ha)⟩
theorem ba_cons (ha : BE X dra W e F) (hr : BA X dra W es A) (hs : starEach (e :: es) X.env = (false, eval e X.env) :: starEach es X.env := by rfl) : BA X dra W (e :: es) (cCons F A) :=
  ⟨wkA (pa_cons ha.pe hr.pa hs) fun σ H Q ⟨en, O, lf, ρ, dr, S, w⟩ => by
    refine ⟨en, O, lf, ρ, dr, S, (Wp.bind w).mono (fun d dr1 w1 v H1 fp x1 dw1 r1 nd1 fr1 => ?_) fun _ _ k => k⟩
    refine ⟨en, O, lf, ρ, dr1, S.step x1 dw1, (Wp.bind w1).mono (fun ds dr2 w2 vs H2 x2 dw2 r2 => ?_) fun _ _ k => k.later x1⟩
    have w2 : OkS (dc X dra) O H Q (d :: ds) dr2 := w2
    exact w2 (v :: vs) H2 (x1.trans x2) dw2 (.cons (r1.later S x2 fr1).orl r2)⟩

/-! ### displays -/
def cTup (A : CAx) : CEx := fun ρ dr => (A ρ dr).bind fun ds dr => if ds.length ≤ sizeLine then .ok (.tup (D.fzs ds)) dr else .st
/-- a list whose things may be one's own; one of nobody's things -/
def cLst (A : CAx) : CEx := fun ρ dr => (A ρ dr).bind fun ds dr => if ds.length ≤ sizeLine then .ok (.lst true ds) dr else .st
def cLstF (A : CAx) : CEx := fun ρ dr => (A ρ dr).bind fun ds dr => if ds.length ≤ sizeLine then .ok (.lst true (D.fzs ds)) dr else .st
theorem ee_tup {k} (h : EA X dra W es A) : EE X dra W (.Tuple es k pos) (cTup A) := ⟨wkE (pe_tup h.pa) fun σ H Q ⟨en, O, lf, ρ, dr, S, w⟩ => by
  refine ⟨en, O, lf, ρ, dr, S, (Wp.bind w).mono (fun ds dr1 w1 vs H1 fp x1 dw1 r1 nd1 fr1 => ?_) fun _ _ k => k⟩
  by_cases hz : ds.length ≤ sizeLine
  · rw [if_pos hz] at w1
    refine ⟨by rw [r1.len]; exact hz, fun p hp => ?_⟩
    have q : OkE (dc X dra) O H1 Q _ dr1 := OkE.later w1 x1
    exact q.newT dw1 (fun a ha => x1.trk a (S.trk a ha)) hp (r1.orl.fz ds fun a ha z => S.trk a z (fr1 a ha))
  · rw [if_neg hz] at w1; exact w1.elim⟩
theorem ee_lst (h : EA X dra W es A) : EE X dra W (.List es pos) (cLst A) := ⟨wkE (pe_lst h.pa) fun σ H Q ⟨en, O, lf, ρ, dr, S, w⟩ => by
  refine ⟨en, O, lf, ρ, dr, S, (Wp.bind w).mono (fun ds dr1 w1 vs H1 fp x1 dw1 r1 nd1 fr1 => ?_) fun _ _ k => k⟩
  by_cases hz : ds.length ≤ sizeLine
  · rw [if_pos hz] at w1
    refine ⟨by rw [r1.len]; exact hz, fun p hp => ?_⟩
    have w1 : OkE (dc X dra) O H Q (.lst true ds) dr1 := w1
    have hpf : p ∉ fp := fun m => r1.trk ds p m hp
    refine w1 _ _ (p :: fp) (x1.trans (Ext.of_same (same_upd hp))) (dw1.same (same_upd hp)) (.own upd_same ?_) (List.nodup_cons.mpr ⟨hpf, nd1⟩) fun a ha => ?_
    · refine Rps.mono ds r1 (fun a o e _ => same_upd hp a o e) fun a o e n z => ?_
      rcases z with z | z
      · exact n (.inl z)
      · rcases List.mem_cons.mp z with z | z
        · rw [z, hp] at e; cases e
        · exact n (.inr z)
    · rcases List.mem_cons.mp ha with z | z
      · rw [z]; exact x1.un hp
      · exact fr1 a z
  · rw [if_neg hz] at w1; exact w1.elim⟩
theorem ee_lstF (h : EA X dra W es A) : EE X dra W (.List es pos) (cLstF A) := ⟨wkE (pe_lst h.pa) fun σ H Q ⟨en, O, lf, ρ, dr, S, w⟩ => by
  refine ⟨en, O, lf, ρ, dr, S, (Wp.bind w).mono (fun ds dr1 w1 vs H1 fp x1 dw1 r1 nd1 fr1 => ?_) fun _ _ k => k⟩
  by_cases hz : ds.length ≤ sizeLine
  · rw [if_pos hz] at w1
    refine ⟨by rw [r1.len]; exact hz, fun p hp => ?_⟩
    have q : OkE (dc X dra) O H1 Q _ dr1 := OkE.later w1 x1
    exact q.newL dw1 hp (r1.orl.fz ds fun a ha z => S.trk a z (fr1 a ha))
  · rw [if_neg hz] at w1; exact w1.elim⟩

/-! ### a[i] -/
def gIx : D → D → Option D
  | .tup xs, .int i => atI xs i
  | .lst _ xs, .int i => atI xs i
  | .str z, .int i => if z.length ≤ sizeLine then (atI z.cps.toList i).map fun c => .str ⟨#[c]⟩ else none
  | _, _ => none
theorem at_get {α β : Type} {xs : List α} {ys : List β} (hl : ys.length = xs.length) {i : Int} {d : α} (h : atI xs i = some d) : ∃ j : Nat, xs[j]? = some d ∧ ∀ v, ys[j]? = some v → atI ys i = some v := by
  unfold atI at h ⊢
  rw [hl]
  cases e : ixN xs.length i with
  | none => rw [e] at h; cases h
  | some j =>
    rw [e] at h
    exact ⟨j, h, fun v hv => hv⟩
/-- what may be seen of a part of what is seen -/
theorem be_ix (ha : BE X dra W a F1) (hb : BE X dra W b F2) (hs : PlainIx b := by intro _ _; rfl) : BE X dra W (.Subscript a b pos) (cBin gIx F1 F2) :=
  ⟨wkE (pe_ix ix_seq ha.pe hb.pe hs) fun σ H Q ⟨en, O, lf, ρ, dr, S, w⟩ => by
    refine ⟨en, O, lf, ρ, dr, S, (Wp.bind w).mono (fun d1 dr1 w1 u H1 fp x1 dw1 r1 nd1 fr1 => ?_) fun _ _ k => k⟩
    refine ⟨en, O, lf, ρ, dr1, S.step x1 dw1, (Wp.bind w1).mono (fun d2 dr2 w2 v H2 fq x2 dw2 r2 nd2 fr2 => ?_) fun _ _ k => k.later x1⟩
    obtain ⟨z, e, k⟩ := w2.opt
    have k : OkB (dc X dra) en O H Q z dr2 := k
    have k := k.later (x1.trans x2)
    have r1 := r1.later S x2 fr1
    cases d2 with
    | int i =>
      cases r2
      cases d1 with
      | tup xs =>
        have e : atI xs i = some z := e
        obtain ⟨p, vs, rfl, h1, s1, _⟩ := rp_sqt r1
        obtain ⟨j, e1, e2⟩ := at_get s1.len e
        obtain ⟨v, fs, e3, r3, sb⟩ := s1.get e1
        have : fs = [] := List.sublist_nil.mp sb
        subst this
        exact .inr (.inl ⟨p, vs, i, v, rfl, rfl, h1, e2 v e3, k v H2 [] Ext.refl dw2 (r3.anti fun a z => .inl (orO_nil z)) List.nodup_nil fun _ z => nomatch z⟩)
      | lst o xs =>
        have e : atI xs i = some z := e
        obtain ⟨p, vs, fs0, rfl, h1, s1, sb0⟩ := rp_lst r1
        obtain ⟨j, e1, e2⟩ := at_get s1.len e
        obtain ⟨v, fs, e3, r3, sb⟩ := s1.get e1
        have sbf := sb.trans sb0
        exact .inl ⟨p, vs, i, v, rfl, rfl, .inl (.inl h1), e2 v e3, k v H2 fs Ext.refl dw2 (r3.anti fun a z => z.elim .inl fun m => .inr (sbf.subset m)) (nd1.sublist sbf) fun a ha => fr1 a (sbf.subset ha)⟩
      | str s =>
        have e : (if s.length ≤ sizeLine then (atI s.cps.toList i).map fun c => D.str ⟨#[c]⟩ else none) = some z := e
        cases r1
        by_cases hz : s.length ≤ sizeLine
        · rw [if_pos hz] at e
          obtain ⟨c, e1, e2⟩ := Option.map_eq_some_iff.mp e
          subst e2
          exact .inr (.inr ⟨s, i, c, rfl, rfl, hz, e1, k _ H2 [] Ext.refl dw2 (.str _) List.nodup_nil fun _ z => nomatch z⟩)
        · rw [if_neg hz] at e; cases e
      | _ => cases e
    | _ => cases d1 <;> cases e⟩

/-! ### a[i:j] -/
def cutD {α : Type} (xs : List α) (lo hi : Option Int) : List α := (xs.drop (HT.sIx xs.length 0 lo)).take (HT.sIx xs.length xs.length hi - HT.sIx xs.length 0 lo)
def gSl : D → Option Int → Option Int → Option D
  | .tup xs, lo, hi => some (.tup (cutD xs lo hi))
  | .lst _ xs, lo, hi => if xs.all D.frz then some (.lst true (cutD xs lo hi)) else none
  | .str z, lo, hi => if z.length ≤ sizeLine then some (.str (cutS z lo hi)) else none
  | _, _, _ => none
abbrev COx := Rho → Dr → R (Option Int)
def cNoPart : COx := fun _ dr => .ok none dr
def cPart (F : CEx) : COx := fun ρ dr => (F ρ dr).bind fun d dr => match d with
  | .int i => .ok (some i) dr
  | _ => .st
def tO (c : DC) (W : WX) (F : COx) : TO := fun σ H Q => ∃ en O lf ρ dr, StOk c en O lf ρ dr σ H ∧ Wp (F ρ dr) (fun o dr' => ∀ H', Ext c H H' → DrOk c dr' H' → Q o H') (ExW c W σ H)
structure BO (X : Cx) (dra : Option (Addr × Addr)) (W : WX) (e : Option Expr) (F : COx) : Prop where
  po : PO X e (tO (dc X dra) W F)
theorem bo_none : BO X dra W none cNoPart := ⟨⟨fun pins s σ H Q I ⟨en, O, lf, ρ, dr, S, w⟩ => po_none.run pins s σ H Q I (by
  have w : ∀ H', Ext (dc X dra) H H' → DrOk (dc X dra) dr H' → Q none H' := w
  exact w H Ext.refl S.drw)⟩⟩
theorem bo_some (h : BE X dra W e F) : BO X dra W (some e) (cPart F) := ⟨⟨fun pins s σ H Q I ⟨en, O, lf, ρ, dr, S, w⟩ => (po_some h.pe).run pins s σ H Q I (by
  refine ⟨en, O, lf, ρ, dr, S, (Wp.bind w).mono (fun d dr' k v H' fp x dw r nd fr => ?_) fun _ _ k => k⟩
  cases d with
  | int i =>
    cases r
    exact ⟨i, rfl, k H' x dw⟩
  | _ => exact k.elim)⟩⟩
def cSl (F : CEx) (L U : COx) : CEx := fun ρ dr => (F ρ dr).bind fun x dr => (L ρ dr).bind fun l dr => (U ρ dr).bind fun u dr => R.opt (gSl x l u) dr
theorem Rps.uncons {c : DC} {O : Addr → Prop} {H : Hp} {v : V} {vs : List V} {d : D} {ds : List D} {fp : List Addr} : Rps c O H (v :: vs) (d :: ds) fp → ∃ f1 f2, fp = f1 ++ f2 ∧ Rp c O H v d f1 ∧ Rps c O H vs ds f2
  | .cons r t => ⟨_, _, rfl, r, t⟩
theorem Rps.tail0 {c : DC} {O : Addr → Prop} {H : Hp} {v : V} {vs : List V} {d : D} {ds : List D} (r : Rps c O H (v :: vs) (d :: ds) []) : Rps c O H vs ds [] := by
  obtain ⟨f1, f2, e, _, t⟩ := r.uncons
  rw [(List.append_eq_nil_iff.mp e.symm).2] at t
  exact t
theorem Rps.cut {c : DC} {O : Addr → Prop} {H : Hp} : ∀ {ds : List D} {vs : List V}, Rps c O H vs ds [] → ∀ n m, Rps c O H ((vs.drop n).take m) ((ds.drop n).take m) [] := by
  have tk : ∀ {ds : List D} {vs : List V}, Rps c O H vs ds [] → ∀ m, Rps c O H (vs.take m) (ds.take m) [] := by
    intro ds
    induction ds with
    | nil => intro vs r m; cases vs with
      | nil => cases m <;> exact .nil
      | cons _ _ => exact absurd r.len (by simp)
    | cons d ds ih =>
      intro vs r m
      cases m with
      | zero => exact .nil
      | succ m =>
        cases vs with
        | nil => exact absurd r.len (by simp)
        | cons v vs =>
          obtain ⟨v', fs, e1, r1, sb⟩ := r.get (i := 0) (d := d) rfl
          cases e1
          have e0 : fs = [] := List.sublist_nil.mp sb
          subst e0
          have rt := r.tail0
          exact .cons (fp := []) (fq := []) r1 (ih rt m)
  have dp : ∀ {ds : List D} {vs : List V}, Rps c O H vs ds [] → ∀ n, Rps c O H (vs.drop n) (ds.drop n) [] := by
    intro ds
    induction ds with
    | nil => intro vs r m; cases vs with
      | nil => cases m <;> exact .nil
      | cons _ _ => exact absurd r.len (by simp)
    | cons d ds ih =>
      intro vs r m
      cases m with
      | zero => exact r
      | succ m =>
        cases vs with
        | nil => exact absurd r.len (by simp)
        | cons v vs =>
          have rt := r.tail0
          exact ih rt m
  intro ds vs r n m
  exact tk (dp r n) m
theorem cut_rps {c : DC} {O : Addr → Prop} {H : Hp} {ds : List D} {vs : List V} (r : Rps c O H vs ds []) (lo hi : Option Int) : Rps c O H (cutV vs lo hi) (cutD ds lo hi) [] := by
  unfold cutV cutD
  rw [r.len]
  exact r.cut _ _
theorem ee_sl {lo hi : Option Expr} {L U : COx} {p2 : Pos} (h : BE X dra W a F) (hl : BO X dra W lo L) (hu : BO X dra W hi U) : EE X dra W (.Subscript a (.Slice lo hi none p2) pos) (cSl F L U) :=
  ⟨wkE (pe_slice (SlR.or sl_tupA (SlR.or sl_list sl_str)) h.pe hl.po hu.po) fun σ H Q ⟨en, O, lf, ρ, dr, S, w⟩ => by
    refine ⟨en, O, lf, ρ, dr, S, (Wp.bind w).mono (fun d1 dr1 w1 u H1 fp x1 dw1 r1 nd1 fr1 => ?_) fun _ _ k => k⟩
    refine ⟨en, O, lf, ρ, dr1, S.step x1 dw1, (Wp.bind w1).mono (fun l dr2 w2 H2 x2 dw2 => ?_) fun _ _ k => k.later x1⟩
    refine ⟨en, O, lf, ρ, dr2, S.step (x1.trans x2) dw2, (Wp.bind w2).mono (fun u' dr3 w3 H3 x3 dw3 => ?_) fun _ _ k => k.later (x1.trans x2)⟩
    obtain ⟨z, e, k⟩ := w3.opt
    have xx := x1.trans (x2.trans x3)
    have k : OkE (dc X dra) O H3 Q z dr3 := OkE.later k xx
    have r1 := r1.later S (x2.trans x3) fr1
    have tr : ∀ a, O a → H3 a ≠ none := fun a ha => xx.trk a (S.trk a ha)
    cases d1 with
    | tup xs =>
      cases e
      obtain ⟨p, vs, rfl, h1, s1, _⟩ := rp_sqt r1.orl
      refine .inl ⟨p, vs, rfl, h1, fun q => ?_, fun _ p hp => k.newT dw3 tr hp (cut_rps s1 l u')⟩
      have : cutD xs l u' = xs := by
        unfold cutD
        rw [← s1.len, q.1, q.2]
        rw [Nat.sub_zero, List.drop_zero, s1.len, List.take_length]
      rw [this] at k
      have e0 := r1.frz _ rfl
      subst e0
      exact k.atom dw3 r1.orl
    | lst o xs =>
      have e : (if xs.all D.frz = true then some (D.lst true (cutD xs l u')) else none) = some z := e
      by_cases hz : xs.all D.frz = true
      · rw [if_pos hz] at e
        cases e
        obtain ⟨p, vs, _, rfl, h1, s1, _⟩ := rp_lst r1.orl
        exact .inr (.inl ⟨p, vs, rfl, .inl (.inl h1), fun p hp => k.newL dw3 hp (cut_rps (s1.allfrz hz) l u')⟩)
      · rw [if_neg hz] at e; cases e
    | str s =>
      have e : (if s.length ≤ sizeLine then some (D.str (cutS s l u')) else none) = some z := e
      by_cases hz : s.length ≤ sizeLine
      · rw [if_pos hz] at e
        cases e
        cases r1
        exact .inr (.inr ⟨s, rfl, hz, k.atom dw3 (.str _)⟩)
      · rw [if_neg hz] at e; cases e
    | _ => cases e⟩
end
end DL
/-! DL7 -/
/-! DL7: the built-in functions; a[::-1]. -/
namespace DL
open PySem PySem.Spec PyProof.Rows L2

/-- what a built-in comes to -/
def CallD (X : Cx) (dra : Option (Addr × Addr)) (r : List V → Hp → VK → Prop) (g : List D → Option D) : Prop :=
  ∀ (O : Addr → Prop) (H : Hp) (xs : List V) (ds : List D) (z : D) (dr : Dr) (Q : VK), Bs (dc X dra) O H xs ds → g ds = some z → (∀ a, O a → H a ≠ none) → DrOk (dc X dra) dr H → OkE (dc X dra) O H Q z dr → r xs H Q
def cB (g : List D → Option D) (A : CAx) : CEx := fun ρ dr => (A ρ dr).bind fun ds dr => R.opt (g ds) dr
section
variable {X : Cx} {dra : Option (Addr × Addr)} {W : WX} {e a b d : Expr} {es : List Expr} {F G F1 F2 F3 : CEx} {A : CAx} {pos p : Pos} {x : Str} {r : List V → Hp → VK → Prop} {g : List D → Option D} {id T : String}
theorem imp_b {σ : L2.St} {H : Hp} {Q : VK} (hg : CallD X dra r g) (h : tE (dc X dra) W (cB g A) σ H Q) : tCB r (tS (dc X dra) W A) σ H Q := by
  obtain ⟨en, O, lf, ρ, dr, S, w⟩ := h
  refine ⟨en, O, lf, ρ, dr, S, (Wp.bind w).mono (fun ds dr1 w1 vs H1 x1 dw1 r1 => ?_) fun _ _ k => k⟩
  obtain ⟨z, e, k⟩ := w1.opt
  exact hg O H1 vs ds z dr1 Q r1 e (fun a ha => x1.trk a (S.trk a ha)) dw1 (OkE.later k x1)
theorem ee_b (hc : CallR X (.builtin id) r) (hgd : CallD X dra r g) (hm : X.mg x = none) (hv : bootBuiltins x = some (.builtin id)) (ha : BA X dra W (e :: es) A) (hg : Gl X x := by rfl) (hn : x ≠ "__name__" := by decide) (hdb : (x == ("__debug__" : Str)) = false := by decide)
    (he : starEach (e :: es) X.env = (false, eval e X.env) :: starEach es X.env := by rfl) (hpl : (backTo pos (starEach es X.env)).any (·.1) = false := by rfl) : EE X dra W (.Call (.Name x p) (e :: es) [] pos) (cB g A) :=
  ⟨wkE (pe_callB hc hg hm hv ha.pa hn hdb he hpl) fun σ H Q h => imp_b hgd h⟩
theorem ee_ty (hc : CallR X (.type T) r) (hgd : CallD X dra r g) (hm : X.mg x = none) (hv : bootBuiltins x = some (.type T)) (ha : BA X dra W (e :: es) A) (hg : Gl X x := by rfl) (hn : x ≠ "__name__" := by decide) (hdb : (x == ("__debug__" : Str)) = false := by decide)
    (he : starEach (e :: es) X.env = (false, eval e X.env) :: starEach es X.env := by rfl) (hpl : (backTo pos (starEach es X.env)).any (·.1) = false := by rfl) : EE X dra W (.Call (.Name x p) (e :: es) [] pos) (cB g A) :=
  ⟨wkE (pe_callTy hc hg hm hv ha.pa hn hdb he hpl) fun σ H Q h => imp_b hgd h⟩

theorem bs1 {c : DC} {O : Addr → Prop} {H : Hp} {xs : List V} {d : D} (r : Bs c O H xs [d]) : ∃ v fp, xs = [v] ∧ Rp c O H v d fp := by
  cases r with
  | cons r t => cases t; exact ⟨_, _, rfl, r⟩
theorem bs2 {c : DC} {O : Addr → Prop} {H : Hp} {xs : List V} {d e : D} (r : Bs c O H xs [d, e]) : ∃ v u fp fq, xs = [v, u] ∧ Rp c O H v d fp ∧ Rp c O H u e fq := by
  cases r with
  | cons r t =>
    cases t with
    | cons r2 t2 => cases t2; exact ⟨_, _, _, _, rfl, r, r2⟩

/-! ### len, abs, int -/
def gLen : List D → Option D
  | [.tup xs] => some (.int xs.length)
  | [.lst _ xs] => some (.int xs.length)
  | [.str x] => if x.length ≤ sizeLine then some (.int x.length) else none
  | _ => none
def rLenA (K : PySem.W.Frag) : List V → Hp → VK → Prop := fun xs H Q => ∃ x n, xs = [x] ∧ LenV K x H n ∧ Q (.int n) H
theorem cd_len : CallD X dra (rLenA X.K) gLen := by
  intro O H xs ds z dr Q r e tr dw k
  match ds, e with
  | [.tup ys], e =>
    cases e
    obtain ⟨v, fp, rfl, r1⟩ := bs1 r
    obtain ⟨a, vs, rfl, h1, s1, _⟩ := rp_sqt r1
    exact ⟨_, ys.length, rfl, .inr ⟨vs, h1, s1.len.symm⟩, k.atom dw (.int _)⟩
  | [.lst o ys], e =>
    cases e
    obtain ⟨v, fp, rfl, r1⟩ := bs1 r
    obtain ⟨a, vs, _, rfl, h1, s1, _⟩ := rp_lst r1
    exact ⟨_, ys.length, rfl, .inl ⟨vs, .inl (.inl h1), s1.len.symm⟩, k.atom dw (.int _)⟩
  | [.str y], e =>
    have e : (if y.length ≤ sizeLine then some (D.int y.length) else none) = some z := e
    by_cases hz : y.length ≤ sizeLine
    · rw [if_pos hz] at e
      cases e
      obtain ⟨v, fp, rfl, r1⟩ := bs1 r
      cases r1
      exact ⟨_, y.length, rfl, ⟨hz, rfl⟩, k.atom dw (.int _)⟩
    · rw [if_neg hz] at e; cases e
theorem ee_len (hm : X.mg "len" = none) (ha : BE X dra W a F) (hg : Gl X "len" := by rfl)
    (hs : starEach [a] X.env = (false, eval a X.env) :: starEach [] X.env := by rfl) : EE X dra W (.Call (.Name "len" p) [a] [] pos) (cB gLen (cCons F cNil)) :=
  ee_b call_len cd_len hm PySem.boot_len (ba_cons ha ba_nil hs) hg (he := hs)
def gAbs : List D → Option D
  | [.int i] => some (.int (if i < 0 then -i else i))
  | _ => none
theorem cd_abs : CallD X dra (fun xs H Q => ∃ i, xs = [.int i] ∧ Q (.int (if i < 0 then -i else i)) H) gAbs := by
  intro O H xs ds z dr Q r e tr dw k
  match ds, e with
  | [.int i], e =>
    cases e
    obtain ⟨v, fp, rfl, r1⟩ := bs1 r
    cases r1
    exact ⟨i, rfl, k.atom dw (.int _)⟩
def gInt : List D → Option D
  | [.int i] => some (.int i)
  | [.bl b] => some (.int (if b then 1 else 0))
  | _ => none
theorem cd_int : CallD X dra (fun xs H Q => (∃ i, xs = [.int i] ∧ Q (.int i) H) ∨ ∃ k, xs = [.bl k] ∧ Q (.int (if k then 1 else 0)) H) gInt := by
  intro O H xs ds z dr Q r e tr dw k
  match ds, e with
  | [.int i], e =>
    cases e
    obtain ⟨v, fp, rfl, r1⟩ := bs1 r
    cases r1
    exact .inl ⟨i, rfl, k.atom dw (.int _)⟩
  | [.bl i], e =>
    cases e
    obtain ⟨v, fp, rfl, r1⟩ := bs1 r
    cases r1
    exact .inr ⟨i, rfl, k.atom dw (.int _)⟩

/-! ### tuple, list -/
def gTuple : List D → Option D
  | [.tup xs] => some (.tup xs)
  | [.lst _ xs] => if xs.all D.frz then some (.tup xs) else none
  | _ => none
theorem cd_tuple : CallD X dra (fun xs H Q => ∃ p ys, xs = [.ref p] ∧ ((SqL X.K H p ys ∧ ∀ l, H l = none → Q (.ref l) (upd H l (.tup ys))) ∨ (SqT X.K H p ys ∧ Q (.ref p) H))) gTuple := by
  intro O H xs ds z dr Q r e tr dw k
  match ds, e with
  | [.tup ys], e =>
    cases e
    obtain ⟨v, fp, rfl, r1⟩ := bs1 r
    have e0 := r1.frz _ rfl
    subst e0
    have r1' := r1
    obtain ⟨a, vs, rfl, h1, s1, _⟩ := rp_sqt r1
    exact ⟨a, vs, rfl, .inr ⟨h1, k.atom dw r1'⟩⟩
  | [.lst o ys], e =>
    have e : (if ys.all D.frz = true then some (D.tup ys) else none) = some z := e
    by_cases hz : ys.all D.frz = true
    · rw [if_pos hz] at e
      cases e
      obtain ⟨v, fp, rfl, r1⟩ := bs1 r
      obtain ⟨a, vs, _, rfl, h1, s1, _⟩ := rp_lst r1
      exact ⟨a, vs, rfl, .inl ⟨.inl (.inl h1), fun l hl => k.newT dw tr hl (s1.allfrz hz)⟩⟩
    · rw [if_neg hz] at e; cases e
theorem ee_tuple (hm : X.mg "tuple" = none) (ha : BE X dra W a F) (hg : Gl X "tuple" := by rfl)
    (hs : starEach [a] X.env = (false, eval a X.env) :: starEach [] X.env := by rfl) : EE X dra W (.Call (.Name "tuple" p) [a] [] pos) (cB gTuple (cCons F cNil)) :=
  ee_ty call_tuple_of cd_tuple hm boot_tuple (ba_cons ha ba_nil hs) hg (he := hs)
def gList : List D → Option D
  | [.tup xs] => some (.lst true xs)
  | [.lst _ xs] => if xs.all D.frz then some (.lst true xs) else none
  | _ => none
theorem cd_list : CallD X dra (fun xs H Q => ∃ p ys, xs = [.ref p] ∧ (SqL X.K H p ys ∨ SqT X.K H p ys) ∧ ∀ l, H l = none → Q (.ref l) (upd H l (.lst ys))) gList := by
  intro O H xs ds z dr Q r e tr dw k
  match ds, e with
  | [.tup ys], e =>
    cases e
    obtain ⟨v, fp, rfl, r1⟩ := bs1 r
    obtain ⟨a, vs, rfl, h1, s1, _⟩ := rp_sqt r1
    exact ⟨a, vs, rfl, .inr h1, fun l hl => k.newL dw hl s1⟩
  | [.lst o ys], e =>
    have e : (if ys.all D.frz = true then some (D.lst true ys) else none) = some z := e
    by_cases hz : ys.all D.frz = true
    · rw [if_pos hz] at e
      cases e
      obtain ⟨v, fp, rfl, r1⟩ := bs1 r
      obtain ⟨a, vs, _, rfl, h1, s1, _⟩ := rp_lst r1
      exact ⟨a, vs, rfl, .inl (.inl (.inl h1)), fun l hl => k.newL dw hl (s1.allfrz hz)⟩
    · rw [if_neg hz] at e; cases e
theorem ee_list (hm : X.mg "list" = none) (ha : BE X dra W a F) (hg : Gl X "list" := by rfl)
    (hs : starEach [a] X.env = (false, eval a X.env) :: starEach [] X.env := by rfl) : EE X dra W (.Call (.Name "list" p) [a] [] pos) (cB gList (cCons F cNil)) :=
  ee_ty call_list_of cd_list hm boot_list (ba_cons ha ba_nil hs) hg (he := hs)

/-! ### sum, all, any, max, min -/
def D.int? : D → Option Int
  | .int i => some i
  | _ => none
def D.bl? : D → Option Bool
  | .bl i => some i
  | _ => none
def ints? : List D → Option (List Int)
  | [] => some []
  | d :: ds => (d.int?).bind fun i => (ints? ds).map fun is => i :: is
def bls? : List D → Option (List Bool)
  | [] => some []
  | d :: ds => (d.bl?).bind fun i => (bls? ds).map fun is => i :: is
theorem ints_of {c : DC} {O : Addr → Prop} {H : Hp} : ∀ {ds : List D} {vs : List V} {fp : List Addr} {ns : List Int}, Rps c O H vs ds fp → ints? ds = some ns → vs = ns.map V.int
  | [], _, _, _, r, e => by cases r; cases e; rfl
  | d :: ds, _, _, ns, r, e => by
    cases r with
    | cons r t =>
      cases d with
      | int i =>
        have e : (ints? ds).map (fun is => i :: is) = some ns := e
        obtain ⟨is, e1, e2⟩ := Option.map_eq_some_iff.mp e
        subst e2
        cases r
        rw [ints_of t e1]; rfl
      | _ => cases e
theorem bls_of {c : DC} {O : Addr → Prop} {H : Hp} : ∀ {ds : List D} {vs : List V} {fp : List Addr} {ns : List Bool}, Rps c O H vs ds fp → bls? ds = some ns → vs = ns.map V.bl
  | [], _, _, _, r, e => by cases r; cases e; rfl
  | d :: ds, _, _, ns, r, e => by
    cases r with
    | cons r t =>
      cases d with
      | bl i =>
        have e : (bls? ds).map (fun is => i :: is) = some ns := e
        obtain ⟨is, e1, e2⟩ := Option.map_eq_some_iff.mp e
        subst e2
        cases r
        rw [bls_of t e1]; rfl
      | _ => cases e
def gSum : List D → Option D
  | [.lst _ xs] => (ints? xs).map fun ns => .int ns.sum
  | _ => none
theorem cd_sum : CallD X dra (rSum X.K) gSum := by
  intro O H xs ds z dr Q r e tr dw k
  match ds, e with
  | [.lst o ys], e =>
    obtain ⟨ns, e1, e2⟩ := Option.map_eq_some_iff.mp (show (ints? ys).map (fun ns => D.int ns.sum) = some z from e)
    subst e2
    obtain ⟨v, fp, rfl, r1⟩ := bs1 r
    obtain ⟨a, vs, _, rfl, h1, s1, _⟩ := rp_lst r1
    exact ⟨a, ns, rfl, .inl (.inl (by rw [← ints_of s1 e1]; exact h1)), k.atom dw (.int _)⟩
def gAll : List D → Option D
  | [.lst _ xs] => (bls? xs).map fun ns => .bl (ns.all (fun b => b))
  | _ => none
def gAny : List D → Option D
  | [.lst _ xs] => (bls? xs).map fun ns => .bl (ns.any (fun b => b))
  | _ => none
theorem cd_all : CallD X dra (rAll X.K) gAll := by
  intro O H xs ds z dr Q r e tr dw k
  match ds, e with
  | [.lst o ys], e =>
    obtain ⟨ns, e1, e2⟩ := Option.map_eq_some_iff.mp (show (bls? ys).map (fun ns => D.bl (ns.all (fun b => b))) = some z from e)
    subst e2
    obtain ⟨v, fp, rfl, r1⟩ := bs1 r
    obtain ⟨a, vs, _, rfl, h1, s1, _⟩ := rp_lst r1
    exact ⟨a, ns, rfl, .inl (.inl (by rw [← bls_of s1 e1]; exact h1)), k.atom dw (.bl _)⟩
theorem cd_any : CallD X dra (rAny X.K) gAny := by
  intro O H xs ds z dr Q r e tr dw k
  match ds, e with
  | [.lst o ys], e =>
    obtain ⟨ns, e1, e2⟩ := Option.map_eq_some_iff.mp (show (bls? ys).map (fun ns => D.bl (ns.any (fun b => b))) = some z from e)
    subst e2
    obtain ⟨v, fp, rfl, r1⟩ := bs1 r
    obtain ⟨a, vs, _, rfl, h1, s1, _⟩ := rp_lst r1
    exact ⟨a, ns, rfl, .inl (.inl (by rw [← bls_of s1 e1]; exact h1)), k.atom dw (.bl _)⟩
def maxI : Int → List Int → Int
  | m, [] => m
  | m, x :: xs => maxI (if x > m then x else m) xs
def minI : Int → List Int → Int
  | m, [] => m
  | m, x :: xs => minI (if x < m then x else m) xs
theorem maxI_ge : ∀ (xs : List Int) (m : Int), m ≤ maxI m xs ∧ ∀ y ∈ xs, y ≤ maxI m xs
  | [], m => ⟨Int.le_refl _, fun _ h => nomatch h⟩
  | x :: xs, m => by
    obtain ⟨i1, i2⟩ := maxI_ge xs (if x > m then x else m)
    refine ⟨?_, fun y hy => ?_⟩
    · show m ≤ maxI (if x > m then x else m) xs
      split at i1 <;> split <;> omega
    · show y ≤ maxI (if x > m then x else m) xs
      rcases List.mem_cons.mp hy with rfl | hy
      · split at i1 <;> split <;> omega
      · exact i2 y hy
theorem maxI_mem : ∀ (xs : List Int) (m : Int), maxI m xs = m ∨ maxI m xs ∈ xs
  | [], m => .inl rfl
  | x :: xs, m => by
    have h := maxI_mem xs (if x > m then x else m)
    show maxI (if x > m then x else m) xs = m ∨ maxI (if x > m then x else m) xs ∈ x :: xs
    rcases h with h | h
    · rw [h]
      split
      · exact .inr List.mem_cons_self
      · exact .inl rfl
    · exact .inr (List.mem_cons_of_mem _ h)
theorem minI_le : ∀ (xs : List Int) (m : Int), minI m xs ≤ m ∧ ∀ y ∈ xs, minI m xs ≤ y
  | [], m => ⟨Int.le_refl _, fun _ h => nomatch h⟩
  | x :: xs, m => by
    obtain ⟨i1, i2⟩ := minI_le xs (if x < m then x else m)
    refine ⟨?_, fun y hy => ?_⟩
    · show minI (if x < m then x else m) xs ≤ m
      split at i1 <;> split <;> omega
    · show minI (if x < m then x else m) xs ≤ y
      rcases List.mem_cons.mp hy with rfl | hy
      · split at i1 <;> split <;> omega
      · exact i2 y hy
theorem minI_mem : ∀ (xs : List Int) (m : Int), minI m xs = m ∨ minI m xs ∈ xs
  | [], m => .inl rfl
  | x :: xs, m => by
    have h := minI_mem xs (if x < m then x else m)
    show minI (if x < m then x else m) xs = m ∨ minI (if x < m then x else m) xs ∈ x :: xs
    rcases h with h | h
    · rw [h]
      split
      · exact .inr List.mem_cons_self
      · exact .inl rfl
    · exact .inr (List.mem_cons_of_mem _ h)
def gMax1 : List D → Option D
  | [.lst _ xs] => (ints? xs).bind fun ns => match ns with
    | [] => none
    | n :: ns => some (.int (maxI n ns))
  | _ => none
def gMin1 : List D → Option D
  | [.lst _ xs] => (ints? xs).bind fun ns => match ns with
    | [] => none
    | n :: ns => some (.int (minI n ns))
  | _ => none
theorem cd_max1 : CallD X dra (rMax X.K) gMax1 := by
  intro O H xs ds z dr Q r e tr dw k
  match ds, e with
  | [.lst o ys], e =>
    obtain ⟨ns, e1, e2⟩ := Option.bind_eq_some_iff.mp (show (ints? ys).bind _ = some z from e)
    cases ns with
    | nil => cases e2
    | cons n ns =>
      cases e2
      obtain ⟨v, fp, rfl, r1⟩ := bs1 r
      obtain ⟨a, vs, _, rfl, h1, s1, _⟩ := rp_lst r1
      refine ⟨a, n :: ns, rfl, .inl (.inl (by rw [← ints_of s1 e1]; exact h1)), by simp, fun m hm hle => ?_⟩
      have : m = maxI n ns := by
        obtain ⟨g1, g2⟩ := maxI_ge ns n
        have l1 : m ≤ maxI n ns := by
          rcases List.mem_cons.mp hm with rfl | hm
          · exact g1
          · exact g2 m hm
        have l2 : maxI n ns ≤ m := by
          rcases maxI_mem ns n with h | h
          · rw [h]; exact hle n List.mem_cons_self
          · exact hle _ (List.mem_cons_of_mem _ h)
        omega
      rw [this]
      exact k.atom dw (.int _)
theorem cd_min1 : CallD X dra (rMin X.K) gMin1 := by
  intro O H xs ds z dr Q r e tr dw k
  match ds, e with
  | [.lst o ys], e =>
    obtain ⟨ns, e1, e2⟩ := Option.bind_eq_some_iff.mp (show (ints? ys).bind _ = some z from e)
    cases ns with
    | nil => cases e2
    | cons n ns =>
      cases e2
      obtain ⟨v, fp, rfl, r1⟩ := bs1 r
      obtain ⟨a, vs, _, rfl, h1, s1, _⟩ := rp_lst r1
      refine ⟨a, n :: ns, rfl, .inl (.inl (by rw [← ints_of s1 e1]; exact h1)), by simp, fun m hm hle => ?_⟩
      have : m = minI n ns := by
        obtain ⟨g1, g2⟩ := minI_le ns n
        have l1 : minI n ns ≤ m := by
          rcases List.mem_cons.mp hm with rfl | hm
          · exact g1
          · exact g2 m hm
        have l2 : m ≤ minI n ns := by
          rcases minI_mem ns n with h | h
          · rw [h]; exact hle n List.mem_cons_self
          · exact hle _ (List.mem_cons_of_mem _ h)
        omega
      rw [this]
      exact k.atom dw (.int _)
def gMax2 : List D → Option D
  | [.int i, .int j] => some (.int (if j > i then j else i))
  | _ => none
def gMin2 : List D → Option D
  | [.int i, .int j] => some (.int (if j < i then j else i))
  | _ => none
theorem cd_max2 : CallD X dra (fun xs H Q => ∃ i j, xs = [.int i, .int j] ∧ Q (.int (if j > i then j else i)) H) gMax2 := by
  intro O H xs ds z dr Q r e tr dw k
  match ds, e with
  | [.int i, .int j], e =>
    cases e
    obtain ⟨v, u, fp, fq, rfl, r1, r2⟩ := bs2 r
    cases r1; cases r2
    exact ⟨i, j, rfl, k.atom dw (.int _)⟩
theorem cd_min2 : CallD X dra (fun xs H Q => ∃ i j, xs = [.int i, .int j] ∧ Q (.int (if j < i then j else i)) H) gMin2 := by
  intro O H xs ds z dr Q r e tr dw k
  match ds, e with
  | [.int i, .int j], e =>
    cases e
    obtain ⟨v, u, fp, fq, rfl, r1, r2⟩ := bs2 r
    cases r1; cases r2
    exact ⟨i, j, rfl, k.atom dw (.int _)⟩
theorem ee_b1 (hc : CallR X (.builtin id) r) (hgd : CallD X dra r g) (hm : X.mg x = none) (hv : bootBuiltins x = some (.builtin id)) (ha : BE X dra W a F) (hg : Gl X x := by rfl) (hn : x ≠ "__name__" := by decide) (hdb : (x == ("__debug__" : Str)) = false := by decide)
    (hs : starEach [a] X.env = (false, eval a X.env) :: starEach [] X.env := by rfl) : EE X dra W (.Call (.Name x p) [a] [] pos) (cB g (cCons F cNil)) :=
  ee_b hc hgd hm hv (ba_cons ha ba_nil hs) hg hn hdb (he := hs)

/-! ### isinstance -/
def D.ty : D → String
  | .non => "NoneType" | .bl _ => "bool" | .int _ => "int" | .str _ => "str" | .tup _ => "tuple" | .lst _ _ => "list" | .fn _ => "function" | .dr => "list"
/-- whether it is an instance of T, by the type's name; for None of the kinds that a law asks it is told here -/
def D.isi (T : String) : D → Option Bool
  | .fn _ => none
  | .dr => none
  | d => some (d.ty == T || (d.ty == "bool" && T == "int"))
def IsiT (T : String) : Prop := ∀ s ∈ ["NoneType", "bool", "int", "str", "tuple", "list"], kitB s T = some (s == T || (s == "bool" && T == "int"))
theorem isi_int : IsiT "int" := by unfold IsiT; decide +kernel
theorem isi_bool : IsiT "bool" := by unfold IsiT; decide +kernel
theorem isi_str : IsiT "str" := by unfold IsiT; decide +kernel
theorem isi_tuple : IsiT "tuple" := by unfold IsiT; decide +kernel
theorem isi_list : IsiT "list" := by unfold IsiT; decide +kernel
def cIsi (T : String) (F : CEx) : CEx := fun ρ dr => (F ρ dr).bind fun d dr => R.opt ((d.isi T).map .bl) dr
theorem rp_ty {c : DC} {O : Addr → Prop} {H : Hp} {v : V} {d : D} {T : String} {k : Bool} {fp : List Addr} (r : Rp c O H v d fp) (hT : IsiT T) (e : d.isi T = some k) : ∃ t, TyX c.K H v t ∧ PySem.W.kitOne c.K t (.type T) = some k := by
  cases r with
  | non => cases e; exact ⟨_, .base .non, kit_ty (hT "NoneType" (by decide))⟩
  | bl b => cases e; exact ⟨_, .base (.bl b), kit_ty (hT "bool" (by decide))⟩
  | int i => cases e; exact ⟨_, .base (.int i), kit_ty (hT "int" (by decide))⟩
  | str x => cases e; exact ⟨_, .base (.str x), kit_ty (hT "str" (by decide))⟩
  | fn _ => cases e
  | dr _ => cases e
  | tup h _ _ => cases e; exact ⟨_, .base (.tup h), kit_ty (hT "tuple" (by decide))⟩
  | tupK h _ =>
    cases e
    obtain ⟨o, its, n, h1, h2, _⟩ := h
    exact ⟨_, .kTuple h1 h2, kit_ty (hT "tuple" (by decide))⟩
  | lst h _ _ => cases e; exact ⟨_, .base (.lst h), kit_ty (hT "list" (by decide))⟩
  | own h _ => cases e; exact ⟨_, .base (.lst h), kit_ty (hT "list" (by decide))⟩
theorem ee_isi {T : String} {y : Str} {p2 : Pos} (hT : IsiT T) (hm : X.mg "isinstance" = none) (hy : X.mg y = none) (hv : bootBuiltins y = some (.type T)) (ha : BE X dra W a F) (hg : Gl X "isinstance" := by rfl) (hg2 : Gl X y := by rfl) (hn : y ≠ "__name__" := by decide) (hdb : (y == ("__debug__" : Str)) = false := by decide)
    (hs : starEach [a, .Name y p2] X.env = (false, eval a X.env) :: starEach [.Name y p2] X.env := by rfl) : EE X dra W (.Call (.Name "isinstance" p) [a, .Name y p2] [] pos) (cIsi T F) :=
  ⟨wkE (pe_callB call_isi hg hm (by decide +kernel) (pa_cons ha.pe (pa_cons (pe_bltn (v := .ty T) hg2 hy hv rfl hn hdb) pa_nil rfl) hs) (by decide) (by decide) hs rfl) fun σ H Q ⟨en, O, lf, ρ, dr, S, w⟩ => by
    refine ⟨en, O, lf, ρ, dr, S, (Wp.bind w).mono (fun d dr' k v H' fp x dw r nd fr => ?_) fun _ _ k => k⟩
    obtain ⟨z, e, q⟩ := k.opt
    obtain ⟨k', e1, e2⟩ := Option.map_eq_some_iff.mp e
    subst e2
    obtain ⟨t, h1, h2⟩ := rp_ty r hT e1
    exact ⟨v, .ty T, t, .type T, k', rfl, .ty T, h1, h2, (OkE.later q x).atom dw (.bl _)⟩⟩

/-! ### list(range(..)) -/
def cRg1 (F : CEx) : Rho → Dr → R (Int × Int) := fun ρ dr => (F ρ dr).bind fun d dr => match d with
  | .int n => .ok (0, n) dr
  | _ => .st
def cRg2 (F G : CEx) : Rho → Dr → R (Int × Int) := fun ρ dr => (F ρ dr).bind fun d dr => (G ρ dr).bind fun e dr => match d, e with
  | .int n, .int m => .ok (n, m) dr
  | _, _ => .st
def rgD (a b : Int) : List D := (List.range (b - a).toNat).map fun i => D.int (a + (i : Nat))
def okRg (a b : Int) : Bool := decide (-(2 ^ 62) ≤ a) && decide (a < 2 ^ 62) && decide (-(2 ^ 62) ≤ b) && decide (b < 2 ^ 62) && decide ((b - a).toNat ≤ 2 ^ 24)
theorem okRg_of {a b : Int} (h : okRg a b = true) : RgOk a b := by
  unfold okRg at h
  simp only [Bool.and_eq_true, decide_eq_true_eq] at h
  exact ⟨h.1.1.1.1, h.1.1.1.2, h.1.1.2, h.1.2, h.2⟩
def cLstRg (G : Rho → Dr → R (Int × Int)) : CEx := fun ρ dr => (G ρ dr).bind fun ab dr => if okRg ab.1 ab.2 = true then .ok (.lst true (rgD ab.1 ab.2)) dr else .st
theorem rps_ints {c : DC} {O : Addr → Prop} {H : Hp} : ∀ is : List Int, Rps c O H (is.map V.int) (is.map D.int) []
  | [] => .nil
  | i :: is => .cons (fp := []) (fq := []) (.int i) (rps_ints is)
theorem rps_rg {c : DC} {O : Addr → Prop} {H : Hp} (a b : Int) : Rps c O H (rgV a b) (rgD a b) [] := by
  have := rps_ints (c := c) (O := O) (H := H) ((List.range (b - a).toNat).map fun i => a + (i : Nat))
  rw [List.map_map, List.map_map] at this
  exact this
def tRg (c : DC) (W : WX) (G : Rho → Dr → R (Int × Int)) : L2.St → Hp → (Int → Int → Hp → Prop) → Prop := fun σ H Q => ∃ en O lf ρ dr, StOk c en O lf ρ dr σ H ∧ Wp (G ρ dr) (fun ab dr' => ∀ H', Ext c H H' → DrOk c dr' H' → Q ab.1 ab.2 H') (ExW c W σ H)
structure BRg (X : Cx) (dra : Option (Addr × Addr)) (W : WX) (e : Expr) (G : Rho → Dr → R (Int × Int)) : Prop where
  pr : PRg X e (tRg (dc X dra) W G)
theorem brg1 (hm : X.mg "range" = none) (ha : BE X dra W a F) (hg : Gl X "range" := by rfl) (hs : starEach [a] X.env = (false, eval a X.env) :: starEach [] X.env := by rfl) : BRg X dra W (.Call (.Name "range" p) [a] [] pos) (cRg1 F) :=
  ⟨fun pins s σ H Q I ⟨en, O, lf, ρ, dr, S, w⟩ => prg_1 hg hm ha.pe hs pins s σ H Q I (by
    refine ⟨en, O, lf, ρ, dr, S, (Wp.bind w).mono (fun d dr' k v H' fp x dw r nd fr => ?_) fun _ _ k => k⟩
    cases d with
    | int n => cases r; exact ⟨n, rfl, k H' x dw⟩
    | _ => exact k.elim)⟩
theorem brg2 (hm : X.mg "range" = none) (ha : BE X dra W a F) (hb : BE X dra W b G) (hg : Gl X "range" := by rfl) (hs : starEach [a, b] X.env = (false, eval a X.env) :: starEach [b] X.env := by rfl)
    (hs2 : starEach [b] X.env = (false, eval b X.env) :: starEach [] X.env := by rfl) (hp : (backTo pos (starEach [b] X.env)).any (·.1) = false := by rfl) : BRg X dra W (.Call (.Name "range" p) [a, b] [] pos) (cRg2 F G) :=
  ⟨fun pins s σ H Q I ⟨en, O, lf, ρ, dr, S, w⟩ => prg_2 hg hm ha.pe hb.pe hs hs2 hp pins s σ H Q I (by
    refine ⟨en, O, lf, ρ, dr, S, (Wp.bind w).mono (fun d dr' k v H' fp x dw r nd fr => ?_) fun _ _ k => k⟩
    refine ⟨en, O, lf, ρ, dr', S.step x dw, (Wp.bind k).mono (fun d2 dr2 k2 v2 H2 fp2 x2 dw2 r2 nd2 fr2 => ?_) fun _ _ k => k.later x⟩
    cases d with
    | int n =>
      cases d2 with
      | int m => cases r; cases r2; exact ⟨n, m, rfl, rfl, k2 H2 (x.trans x2) dw2⟩
      | _ => exact k2.elim
    | _ => exact k2.elim)⟩
theorem ee_listRg {G : Rho → Dr → R (Int × Int)} (hc : X.calm = true) (hm : X.mg "list" = none) (h : BRg X dra W a G) (hg : Gl X "list" := by rfl) (hs : starEach [a] X.env = (false, eval a X.env) :: starEach [] X.env := by rfl) : EE X dra W (.Call (.Name "list" p) [a] [] pos) (cLstRg G) :=
  ⟨wkE (pe_listRg hc hg hm h.pr hs) fun σ H Q ⟨en, O, lf, ρ, dr, S, w⟩ => by
    refine ⟨en, O, lf, ρ, dr, S, (Wp.bind w).mono (fun ab dr' k H' x dw => ?_) fun _ _ k => k⟩
    by_cases hz : okRg ab.1 ab.2 = true
    · rw [if_pos hz] at k
      exact ⟨okRg_of hz, fun q hq => (OkE.later (show OkE (dc X dra) O H Q _ dr' from k) x).newL dw hq (rps_rg _ _)⟩
    · rw [if_neg hz] at k; exact k.elim⟩
end
end DL
/-! DL8 -/
/-! DL8: statements: stores, blocks, ifs, returns, lists changed in place. -/
namespace DL
open PySem PySem.Spec PyProof.Rows L2

inductive SR where
  | st | nx (ρ : Rho) (dr : Dr) | rt (d : D) (dr : Dr) | bk (ρ : Rho) (dr : Dr) | ct (ρ : Rho) (dr : Dr) | ex (e : Exn) (ρ : Rho) (dr : Dr)
abbrev CSx := Rho → Dr → SR
/-- what stood and was nobody's own stands; what is one's own now was so, or is new -/
structure Grow (c : DC) (O : Addr → Prop) (H : Hp) (O' : Addr → Prop) (H' : Hp) : Prop where
  keep : ∀ a o, H a = some o → ¬ O a → H' a = some o
  new : ∀ a, O' a → O a ∨ H a = none
  trk : ∀ a, H a ≠ none → H' a ≠ none
def WpS (r : SR) (c : DC) (en : En) (O : Addr → Prop) (H : Hp) (De : Ends) (W : WX) : Prop := match r with
  | .st => False
  | .nx ρ' dr' => ∀ σ' H' O', StOk c en O' [] ρ' dr' σ' H' → Grow c O H O' H' → De.nx σ' H'
  | .rt d dr' => ∀ v H' fp, Ext c en.He H' → DrOk c dr' H' → Rp c (orO en.Oe fp) H' v d fp → fp.Nodup → (∀ a ∈ fp, en.He a = none) → De.rt v H'
  | .bk ρ' dr' => ∀ σ' H' O', StOk c en O' [] ρ' dr' σ' H' → Grow c O H O' H' → De.bk σ' H'
  | .ct ρ' dr' => ∀ σ' H' O', StOk c en O' [] ρ' dr' σ' H' → Grow c O H O' H' → De.ct σ' H'
  | .ex e ρ' dr' => ∀ cls od σ' H' O', StOk c en O' [] ρ' dr' σ' H' → Grow c O H O' H' → ExOk c e cls od H' → W cls od σ' H'
def tSt (c : DC) (W : WX) (F : CSx) : TS := fun De σ H => ∃ en O ρ dr, StOk c en O [] ρ dr σ H ∧ WpS (F ρ dr) c en O H De W
structure BS (X : Cx) (dra : Option (Addr × Addr)) (W : WX) (s : Stmt) (F : CSx) : Prop where
  ps : PS X s (tSt (dc X dra) W F)
structure BSs (X : Cx) (dra : Option (Addr × Addr)) (W : WX) (s : List Stmt) (F : CSx) : Prop where
  ps : PSs X s (tSt (dc X dra) W F)
theorem wkS {X : Cx} {s : Stmt} {t t' : TS} (h : PS X s t) (i : ∀ De σ H, t' De σ H → t De σ H) : PS X s t' := ⟨fun pins s σ H De I hw => h.run pins s σ H De I (i De σ H hw)⟩
theorem wkSs {X : Cx} {s : List Stmt} {t t' : TS} (h : PSs X s t) (i : ∀ De σ H, t' De σ H → t De σ H) : PSs X s t' := ⟨fun pins s σ H De I hw => h.run pins s σ H De I (i De σ H hw)⟩

section
variable {c : DC} {en : En} {O O' O1 : Addr → Prop} {lf fp fq fx : List Addr} {ρ : Rho} {dr dr' : Dr} {σ : L2.St} {H H' H1 H2 : Hp} {v : V} {d : D} {W : WX} {De : Ends}
theorem Grow.refl : Grow c O H O H := ⟨fun _ _ e _ => e, fun _ h => .inl h, fun _ h => h⟩
theorem Grow.trans (a : Grow c O H O1 H1) (b : Grow c O1 H1 O' H') : Grow c O H O' H' := ⟨fun x o e n => b.keep x o (a.keep x o e n) fun z => (a.new x z).elim n (fun k => by rw [k] at e; cases e),
  fun x z => (b.new x z).elim (a.new x) fun k => by
    cases q : H x with
    | none => exact .inr rfl
    | some o => exact absurd k (a.trk x (by rw [q]; exact fun z => nomatch z)), fun x h => b.trk x (a.trk x h)⟩
theorem Ext.grow (e : Ext c H H') (o : ∀ p, c.dra = some p → O p.1) : Grow c O H O H' := ⟨fun a ob q n => e.keep a ob q fun p hp z => n (by rw [z]; exact o p hp), fun _ h => .inl h, e.trk⟩
theorem Ext.growO (e : Ext c H H') (o : ∀ p, c.dra = some p → O p.1) (fr : ∀ a ∈ fp, H a = none) : Grow c O H (orO O fp) H' := ⟨fun a ob q n => e.keep a ob q fun p hp z => n (by rw [z]; exact o p hp), fun a h => h.elim .inl fun m => .inr (fr a m), e.trk⟩
theorem Rp.grow (r : Rp c O H v d []) (g : Grow c O H O' H') : Rp c O' H' v d [] := Rp.mono d r (fun a o e z => g.keep a o e (z.elim id fun k => nomatch k)) fun a o e n z => (g.new a z).elim n fun k => by rw [k] at e; cases e
theorem Rps.grow {vs : List V} {ds : List D} (r : Rps c O H vs ds []) (g : Grow c O H O' H') : Rps c O' H' vs ds [] := Rps.mono ds r (fun a o e z => g.keep a o e (z.elim id fun k => nomatch k)) fun a o e n z => (g.new a z).elim n fun k => by rw [k] at e; cases e
theorem WpS.later {r : SR} (w : WpS r c en O H De W) (g : Grow c O H O' H') : WpS r c en O' H' De W := by
  cases r with
  | st => exact w
  | nx _ _ => exact fun σ' H2 O2 S g2 => w σ' H2 O2 S (g.trans g2)
  | rt _ _ => exact w
  | bk _ _ => exact fun σ' H2 O2 S g2 => w σ' H2 O2 S (g.trans g2)
  | ct _ _ => exact fun σ' H2 O2 S g2 => w σ' H2 O2 S (g.trans g2)
  | ex _ _ _ => exact fun cls od σ' H2 O2 S g2 => w cls od σ' H2 O2 S (g.trans g2)

/-- a value is put into a slot; its own things come out of the hand -/
theorem StOk.set {i : Nat} (S : StOk c en O (fq ++ lf) ρ dr σ H) (r : Rp c O H v d fq) : StOk c en O lf (ρ.set i (some d)) dr (σ.set i (some v)) H := by
  obtain ⟨fps, h1, h2, h3, h4⟩ := S.slots
  have hsub : ∀ a, a ∈ lf ++ (fps.set i fq).flatten → a ∈ (fq ++ lf) ++ fps.flatten := fun a ha => by
    rcases List.mem_append.mp ha with ha | ha
    · exact List.mem_append_left _ (List.mem_append_right _ ha)
    · obtain ⟨l, hl, hm⟩ := List.mem_flatten.mp ha
      rcases List.mem_or_eq_of_mem_set hl with hl | rfl
      · exact List.mem_append_right _ (List.mem_flatten.mpr ⟨l, hl, hm⟩)
      · exact List.mem_append_left _ (List.mem_append_left _ hm)
  refine ⟨⟨fps.set i fq, by rw [List.length_set, List.length_set, h1], ?_, fun a ha => h3 a (hsub a ha), fun j e hj => ?_⟩, by rw [List.length_set, List.length_set, S.len], S.trk, S.sub, S.ext, S.drw, S.odr, S.edr, S.oe, S.ed2⟩
  · by_cases hi : i < fps.length
    · have e1 : fps = fps.take i ++ fps[i] :: fps.drop (i + 1) := by rw [List.getElem_cons_drop, List.take_append_drop]
      have e2 : fps.set i fq = fps.take i ++ fq :: fps.drop (i + 1) := List.set_eq_take_append_cons_drop.trans (if_pos hi)
      have f1 : fps.flatten = (fps.take i).flatten ++ (fps[i] ++ (fps.drop (i + 1)).flatten) := by
        conv => lhs; rw [e1]
        rw [List.flatten_append, List.flatten_cons]
      have f2 : (fps.set i fq).flatten = (fps.take i).flatten ++ (fq ++ (fps.drop (i + 1)).flatten) := by rw [e2, List.flatten_append, List.flatten_cons]
      rw [f2]
      rw [f1] at h2
      have hp : (lf ++ ((fps.take i).flatten ++ (fq ++ (fps.drop (i + 1)).flatten))).Perm (fq ++ lf ++ ((fps.take i).flatten ++ (fps.drop (i + 1)).flatten)) := by
        have p1 : ((fps.take i).flatten ++ (fq ++ (fps.drop (i + 1)).flatten)).Perm (fq ++ ((fps.take i).flatten ++ (fps.drop (i + 1)).flatten)) := by
          rw [← List.append_assoc, ← List.append_assoc]
          exact List.Perm.append_right _ List.perm_append_comm
        have p2 := List.Perm.append_left lf p1
        refine p2.trans ?_
        rw [← List.append_assoc]
        exact List.Perm.append_right _ List.perm_append_comm
      refine hp.nodup_iff.mpr (h2.sublist ?_)
      refine List.Sublist.append_left (List.Sublist.append_left ?_ _) _
      exact List.sublist_append_right ..
    · rw [List.set_eq_of_length_le (by omega)]
      refine h2.sublist ?_
      rw [List.append_assoc]
      exact List.sublist_append_right ..
  · by_cases hij : i = j
    · subst hij
      by_cases hi : i < ρ.length
      · rw [List.getElem?_set_self hi] at hj
        cases hj
        exact ⟨v, fq, by rw [List.getElem?_set_self (by rw [← S.len]; exact hi)], by rw [List.getElem?_set_self (by rw [h1]; exact hi)], r⟩
      · rw [List.getElem?_eq_none (by rw [List.length_set]; omega)] at hj; cases hj
    · rw [List.getElem?_set_ne hij] at hj
      obtain ⟨u, fp, e1, e2, r'⟩ := h4 j e hj
      exact ⟨u, fp, by rw [List.getElem?_set_ne hij]; exact e1, by rw [List.getElem?_set_ne hij]; exact e2, r'⟩
theorem StOk.set0 {i : Nat} (S : StOk c en O lf ρ dr σ H) (r : Rp c O H v d []) : StOk c en O lf (ρ.set i (some d)) dr (σ.set i (some v)) H := StOk.set (fq := []) S r
end

section
variable {X : Cx} {dra : Option (Addr × Addr)} {W : WX} {e a b d : Expr} {es : List Expr} {F G F1 F2 F3 : CEx} {A : CAx} {T : CTx} {S1 S2 : CSx} {pos p : Pos} {s : Stmt} {ss ss2 : List Stmt}
/-! ### blocks -/
def cSkip : CSx := fun ρ dr => .nx ρ dr
def cSeq (S1 S2 : CSx) : CSx := fun ρ dr => match S1 ρ dr with
  | .nx ρ' dr' => S2 ρ' dr'
  | r => r
theorem bss_nil : BSs X dra W [] cSkip := ⟨wkSs pss_nil fun De σ H ⟨en, O, ρ, dr, S, w⟩ => w σ H O S .refl⟩
theorem bss_one (h : BS X dra W s S1) : BSs X dra W [s] S1 := ⟨pss_one h.ps⟩
theorem bss_cons (h : BS X dra W s S1) (h2 : BSs X dra W ss S2) : BSs X dra W (s :: ss) (cSeq S1 S2) := ⟨wkSs (pss_cons h.ps h2.ps) fun De σ H ⟨en, O, ρ, dr, S, w⟩ => by
  refine ⟨en, O, ρ, dr, S, ?_⟩
  unfold cSeq at w
  cases e : S1 ρ dr with
  | nx ρ' dr' =>
    rw [e] at w
    exact fun σ' H' O' S' g => ⟨en, O', ρ', dr', S', WpS.later w g⟩
  | st => rw [e] at w; exact w
  | rt _ _ => rw [e] at w; exact w
  | bk _ _ => rw [e] at w; exact w
  | ct _ _ => rw [e] at w; exact w
  | ex _ _ _ => rw [e] at w; exact w⟩
def cBk : CSx := fun ρ dr => .bk ρ dr
def cCt : CSx := fun ρ dr => .ct ρ dr
theorem bs_pass : BS X dra W (.Pass pos) cSkip := ⟨wkS ps_pass fun De σ H ⟨en, O, ρ, dr, S, w⟩ => w σ H O S .refl⟩
theorem bs_break : BS X dra W (.Break pos) cBk := ⟨wkS ps_break fun De σ H ⟨en, O, ρ, dr, S, w⟩ => w σ H O S .refl⟩
theorem bs_cont : BS X dra W (.Continue pos) cCt := ⟨wkS ps_continue fun De σ H ⟨en, O, ρ, dr, S, w⟩ => w σ H O S .refl⟩
/-- given away ahead of a statement -/
def cFz (i : Nat) : CSx := fun ρ dr => match ρ[i]? with
  | some (some d) => .nx (ρ.set i (some d.fz)) dr
  | _ => .st

/-! ### name = value -/
def R.stm (r : R D) (ρ : Rho) (f : D → Dr → SR) : SR := match r with
  | .st => .st
  | .ok d dr => f d dr
  | .ex e dr => .ex e ρ dr
/-- nobody's own from then on; one's own -/
def cSet (i : Nat) (F : CEx) : CSx := fun ρ dr => (F ρ dr).stm ρ fun d dr => .nx (ρ.set i (some d.fz)) dr
def cSetO (i : Nat) (F : CEx) : CSx := fun ρ dr => (F ρ dr).stm ρ fun d dr => .nx (ρ.set i (some d)) dr
theorem WpS.stm {r : R D} {ρ : Rho} {f : D → Dr → SR} {c : DC} {en : En} {O : Addr → Prop} {H : Hp} {De : Ends} {dr : Dr} {σ : L2.St} (S : StOk c en O [] ρ dr σ H) (w : WpS (r.stm ρ f) c en O H De W) : Wp r (fun d dr => WpS (f d dr) c en O H De W) (ExW c W σ H) := by
  cases r with
  | st => exact w
  | ok d dr => exact w
  | ex e dr' => exact fun cls od H' x dw ex => w cls od σ H' O (S.step x dw) (x.grow S.odr) ex
theorem imp_set {c : DC} {i : Nat} {De : Ends} {σ : L2.St} {H : Hp} (h : tSt c W (cSet i F) De σ H) : tE c W F σ H fun x H1 => De.nx (σ.set i (some x)) H1 := by
  obtain ⟨en, O, ρ, dr, S, w⟩ := h
  refine ⟨en, O, [], ρ, dr, S, (WpS.stm S w).mono (fun d dr' k v H' fp x dw r nd fr => ?_) fun _ _ k => k⟩
  exact k (σ.set i (some v)) H' O ((S.step x dw).set0 (r.orl.fz d fun a ha z => S.trk a z (fr a ha))) (x.grow S.odr)
theorem imp_setO {c : DC} {i : Nat} {De : Ends} {σ : L2.St} {H : Hp} (h : tSt c W (cSetO i F) De σ H) : tE c W F σ H fun x H1 => De.nx (σ.set i (some x)) H1 := by
  obtain ⟨en, O, ρ, dr, S, w⟩ := h
  refine ⟨en, O, [], ρ, dr, S, (WpS.stm S w).mono (fun d dr' k v H' fp x dw r nd fr => ?_) fun _ _ k => k⟩
  exact k (σ.set i (some v)) H' (orO O fp) ((S.hold x dw nd fr (r.trk d)).set r) (x.growO S.odr fr)
theorem bs_set {i : Nat} {x : Str} {p' : Pos} (hN : X.N.Nodup) (he : EE X dra W e F) (hi : X.N[i]? = some x := by rfl) (hx : Loc X.env.scope x := by first | exact Or.inl rfl | exact Or.inr rfl) (hs : swapsWith e (some (.Name x p')) pos.line X.env = pure false := by rfl)
    (hf : X.fn x = true ∨ X.env.scope.names.lookup x = some .local := by first | exact .inl rfl | exact .inr rfl) : BS X dra W (.Assign [.Name x p'] e pos) (cSet i F) :=
  ⟨wkS (ps_set hN hi hx he.pe hs hf) fun De σ H h => imp_set h⟩
theorem bs_setO {i : Nat} {x : Str} {p' : Pos} (hN : X.N.Nodup) (he : EE X dra W e F) (hi : X.N[i]? = some x := by rfl) (hx : Loc X.env.scope x := by first | exact Or.inl rfl | exact Or.inr rfl) (hs : swapsWith e (some (.Name x p')) pos.line X.env = pure false := by rfl)
    (hf : X.fn x = true ∨ X.env.scope.names.lookup x = some .local := by first | exact .inl rfl | exact .inr rfl) : BS X dra W (.Assign [.Name x p'] e pos) (cSetO i F) :=
  ⟨wkS (ps_set hN hi hx he.pe hs hf) fun De σ H h => imp_setO h⟩

/-! ### return, if -/
def cRet (F : CEx) : CSx := fun ρ dr => (F ρ dr).stm ρ fun d dr => .rt d dr
def cIfS (T : CTx) (S1 S2 : CSx) : CSx := fun ρ dr => match T ρ dr with
  | .st => .st
  | .ok b dr' => if b = true then S1 ρ dr' else S2 ρ dr'
  | .ex e dr' => .ex e ρ dr'
theorem bs_ret (he : BE X dra W e F) : BS X dra W (.Return (some e) pos) (cRet F) := ⟨wkS (ps_ret he.pe) fun De σ H ⟨en, O, ρ, dr, S, w⟩ => by
  refine ⟨en, O, [], ρ, dr, S, (WpS.stm S w).mono (fun d dr' k v H' fp x dw r nd fr => ?_) fun _ _ k => k⟩
  exact k v H' fp (S.ext.trans x) dw (r.anti fun a z => z.elim (fun z => .inl (S.sub a z)) .inr) nd fr⟩
def cRetN : CSx := fun _ dr => .rt .non dr
theorem bs_retN : BS X dra W (.Return none pos) cRetN := ⟨wkS ps_retN fun De σ H ⟨en, O, ρ, dr, S, w⟩ => w .non H [] S.ext S.drw .non List.nodup_nil fun _ z => nomatch z⟩
theorem bs_if (ht : BT X dra W e T) (h1 : BSs X dra W ss S1) (h2 : BSs X dra W ss2 S2) : BS X dra W (.If e ss ss2 pos) (cIfS T S1 S2) := ⟨wkS (ps_if ht.pt h1.ps h2.ps) fun De σ H ⟨en, O, ρ, dr, S, w⟩ => by
  refine ⟨en, O, [], ρ, dr, S, ?_⟩
  unfold cIfS at w
  cases e : T ρ dr with
  | st => rw [e] at w; exact w
  | ok b dr' =>
    rw [e] at w
    intro H' x dw
    have S' := S.step x dw
    cases b with
    | true => exact ⟨en, O, ρ, dr', S', WpS.later (show WpS (S1 ρ dr') _ _ _ _ _ _ from w) (x.grow S.odr)⟩
    | false => exact ⟨en, O, ρ, dr', S', WpS.later (show WpS (S2 ρ dr') _ _ _ _ _ _ from w) (x.grow S.odr)⟩
  | ex e' dr' =>
    rw [e] at w
    exact fun cls od H' x dw ex => w cls od σ H' O (S.step x dw) (x.grow S.odr) ex⟩
def cDrop (F : CEx) : CSx := fun ρ dr => (F ρ dr).stm ρ fun _ dr => .nx ρ dr
theorem bs_expr (he : BE X dra W e F) (hs : swapsWith e none pos.line X.env = pure false := by rfl) : BS X dra W (.Expr e pos) (cDrop F) := ⟨wkS (ps_expr he.pe hs) fun De σ H ⟨en, O, ρ, dr, S, w⟩ => by
  refine ⟨en, O, [], ρ, dr, S, (WpS.stm S w).mono (fun d dr' k v H' fp x dw r nd fr => ?_) fun _ _ k => k⟩
  exact k σ H' O (S.step x dw) (x.grow S.odr)⟩
/-- given away, then the statement -/
theorem StOk.give {c : DC} {en : En} {O : Addr → Prop} {ρ : Rho} {dr : Dr} {σ : L2.St} {H : Hp} {i : Nat} {d : D} (S : StOk c en O [] ρ dr σ H) (hi : ρ[i]? = some (some d)) :
    ∃ O', StOk c en O' [] (ρ.set i (some d.fz)) dr σ H ∧ (∀ a, O' a → O a) := by
  obtain ⟨fps, h1, h2, h3, h4⟩ := S.slots
  obtain ⟨v, fp, e1, e2, r⟩ := h4 i d hi
  have hlt : i < ρ.length := (List.getElem?_eq_some_iff.mp hi).1
  have inO : ∀ a ∈ fp, a ∈ [] ++ fps.flatten := fun a ha => List.mem_append_right _ (List.mem_flatten.mpr ⟨fp, List.mem_of_getElem? e2, ha⟩)
  have r' : Rp c (fun a => O a ∧ a ∉ fp) H v d.fz [] := (r.anti fun a h => h.1).fz d fun a ha z => z.2 ha
  have hsub : List.Sublist (fps.set i []).flatten fps.flatten := by
    by_cases hi2 : i < fps.length
    · have e1 : fps = fps.take i ++ fps[i] :: fps.drop (i + 1) := by rw [List.getElem_cons_drop, List.take_append_drop]
      have e2 : fps.set i [] = fps.take i ++ [] :: fps.drop (i + 1) := List.set_eq_take_append_cons_drop.trans (if_pos hi2)
      conv => rhs; rw [e1]
      rw [e2, List.flatten_append, List.flatten_append, List.flatten_cons, List.flatten_cons]
      exact List.Sublist.append_left (List.sublist_append_right ..) _
    · rw [List.set_eq_of_length_le (by omega)]; exact List.Sublist.refl _
  have ndA : ∀ a ∈ (fps.set i []).flatten, a ∉ fp := fun a ha hm => by
    have hi2 : i < fps.length := by rw [h1]; exact hlt
    have e1 : fps = fps.take i ++ fps[i] :: fps.drop (i + 1) := by rw [List.getElem_cons_drop, List.take_append_drop]
    have e3 : fps[i] = fp := by
      have := List.getElem?_eq_getElem hi2
      rw [e2] at this
      exact (Option.some.inj this).symm
    have e4 : fps.set i [] = fps.take i ++ [] :: fps.drop (i + 1) := List.set_eq_take_append_cons_drop.trans (if_pos hi2)
    rw [e4, List.flatten_append, List.flatten_cons, List.nil_append] at ha
    rw [List.nil_append, e1, e3, List.flatten_append, List.flatten_cons] at h2
    have h5 := List.nodup_append.mp h2
    rcases List.mem_append.mp ha with ha | ha
    · exact h5.2.2 a ha a (List.mem_append_left _ hm) rfl
    · exact (List.nodup_append.mp h5.2.1).2.2 a hm a ha rfl
  refine ⟨fun a => O a ∧ a ∉ fp, ⟨⟨fps.set i [], by rw [List.length_set, List.length_set, h1], ?_, fun a ha => ?_, fun j e hj => ?_⟩, by rw [List.length_set, S.len], fun a ha => S.trk a ha.1, fun a ha => ⟨S.sub a ha, fun m => S.oe a ha (h3 _ (inO _ m)).2⟩, S.ext, S.drw, fun p hp => ⟨S.odr p hp, fun m => S.edr p hp (h3 _ (inO _ m)).2⟩, S.edr, S.oe, S.ed2⟩, fun a h => h.1⟩
  · rw [List.nil_append] at h2 ⊢
    exact h2.sublist hsub
  · rw [List.nil_append] at ha
    have := h3 a (List.mem_append_right _ (hsub.subset ha))
    exact ⟨⟨this.1, ndA a ha⟩, this.2⟩
  · by_cases hij : i = j
    · subst hij
      rw [List.getElem?_set_self hlt] at hj
      cases hj
      exact ⟨v, [], e1, by rw [List.getElem?_set_self (by rw [h1]; exact hlt)], r'⟩
    · rw [List.getElem?_set_ne hij] at hj
      obtain ⟨u, fq, g1, g2, g3⟩ := h4 j e hj
      exact ⟨u, fq, g1, by rw [List.getElem?_set_ne hij]; exact g2, g3.anti fun a h => h.1⟩
theorem bs_fz {i : Nat} (h : BS X dra W s S1) : BS X dra W s (cSeq (cFz i) S1) := ⟨wkS h.ps fun De σ H ⟨en, O, ρ, dr, S, w⟩ => by
  unfold cSeq cFz at w
  cases e : ρ[i]? with
  | none => rw [e] at w; exact w.elim
  | some o =>
    cases o with
    | none => rw [e] at w; exact w.elim
    | some d =>
      rw [e] at w
      obtain ⟨O', S', hO⟩ := S.give e
      exact ⟨en, O', _, dr, S', WpS.later (show WpS (S1 _ dr) _ _ _ _ _ _ from w) ⟨fun _ _ e _ => e, fun a h => .inl (hO a h), fun _ h => h⟩⟩⟩
end
end DL
/-! DL9 -/
/-! DL9: lists changed in place. -/
namespace DL
open PySem PySem.Spec PyProof.Rows L2

theorem nd_swap {α : Type} {fx lf A B o g : List α} (h : (fx ++ lf ++ (A ++ (o ++ B))).Nodup) (hg : g.Nodup) (hs : ∀ b ∈ g, b ∈ o ∨ b ∈ fx) : (lf ++ (A ++ (g ++ B))).Nodup := by
  simp only [List.nodup_append, List.mem_append] at h ⊢
  obtain ⟨⟨h1, h2, h3⟩, ⟨h4, ⟨h5, h6, h7⟩, h8⟩, h9⟩ := h
  refine ⟨h2, ⟨h4, ⟨hg, h6, ?_⟩, ?_⟩, ?_⟩
  · intro a ha b hb e
    subst e
    rcases hs a ha with z | z
    · exact h7 a z a hb rfl
    · exact h9 a (.inl z) a (.inr (.inr hb)) rfl
  · intro a ha b hb e
    subst e
    rcases hb with hb | hb
    · rcases hs a hb with z | z
      · exact h8 a ha a (.inl z) rfl
      · exact h9 a (.inl z) a (.inl ha) rfl
    · exact h8 a ha a (.inr hb) rfl
  · intro a ha b hb e
    subst e
    rcases hb with hb | hb | hb
    · exact h9 a (.inr ha) a (.inl hb) rfl
    · rcases hs a hb with z | z
      · exact h9 a (.inr ha) a (.inr (.inl z)) rfl
      · exact h3 a z a ha rfl
    · exact h9 a (.inr ha) a (.inr (.inr hb)) rfl

section
variable {c : DC} {en : En} {O : Addr → Prop} {lf fx : List Addr} {ρ : Rho} {dr : Dr} {σ : L2.St} {H : Hp} {i : Nat} {d d' : D}
/-- the place of a slot among the others -/
theorem flat_at {fps : List (List Addr)} {fp g : List Addr} (h : fps[i]? = some fp) : ∃ A B, fps.flatten = A ++ (fp ++ B) ∧ (fps.set i g).flatten = A ++ (g ++ B) ∧ ∀ (j : Nat) fq, j ≠ i → fps[j]? = some fq → ∀ a ∈ fq, a ∈ A ++ B := by
  have hi : i < fps.length := (List.getElem?_eq_some_iff.mp h).1
  have e3 : fps[i] = fp := (List.getElem?_eq_some_iff.mp h).2
  have e1 : fps = fps.take i ++ fps[i] :: fps.drop (i + 1) := by rw [List.getElem_cons_drop, List.take_append_drop]
  refine ⟨(fps.take i).flatten, (fps.drop (i + 1)).flatten, ?_, ?_, fun j fq hj hq a ha => ?_⟩
  · conv => lhs; rw [e1]
    rw [List.flatten_append, List.flatten_cons, e3]
  · rw [List.set_eq_take_append_cons_drop, if_pos hi, List.flatten_append, List.flatten_cons]
  · obtain ⟨hj2, e4⟩ := List.getElem?_eq_some_iff.mp hq
    rcases Nat.lt_or_gt_of_ne hj with z | z
    · refine List.mem_append_left _ (List.mem_flatten.mpr ⟨fq, ?_, ha⟩)
      rw [← e4]
      exact List.mem_take_iff_getElem.mpr ⟨j, by omega, by simp⟩
    · refine List.mem_append_right _ (List.mem_flatten.mpr ⟨fq, ?_, ha⟩)
      rw [← e4]
      exact List.mem_drop_iff_getElem.mpr ⟨j - (i + 1), by omega, by congr 1; omega⟩
/-- one's own thing in slot i is changed at the place a -/
theorem StOk.chg (S : StOk c en O (fx ++ lf) ρ dr σ H) (hi : ρ[i]? = some (some d)) :
    ∃ v fp, σ[i]? = some (some v) ∧ Rp c O H v d fp ∧ (fx ++ lf ++ fp).Nodup ∧ (∀ a ∈ fp, O a ∧ en.He a = none) ∧ (∀ a ∈ fx, O a ∧ en.He a = none) ∧ ∀ a o fp', a ∈ fp → Rp c O (upd H a o) v d' fp' → fp'.Nodup → (∀ b ∈ fp', b ∈ fp ∨ b ∈ fx) →
      StOk c en O lf (ρ.set i (some d')) dr σ (upd H a o) ∧ Grow c O H O (upd H a o) := by
  obtain ⟨fps, h1, h2, h3, h4⟩ := S.slots
  obtain ⟨v, fp, e1, e2, r⟩ := h4 i d hi
  have hlt : i < ρ.length := (List.getElem?_eq_some_iff.mp hi).1
  have inF : ∀ a ∈ fp, a ∈ (fx ++ lf) ++ fps.flatten := fun a ha => List.mem_append_right _ (List.mem_flatten.mpr ⟨fp, List.mem_of_getElem? e2, ha⟩)
  refine ⟨v, fp, e1, r, h2.sublist ?_, fun a ha => h3 a (inF a ha), fun a ha => h3 a (List.mem_append_left _ (List.mem_append_left _ ha)), fun a o fp' ha r' nd' sb => ?_⟩
  · exact List.Sublist.append_left (List.sublist_flatten_of_mem (List.mem_of_getElem? e2)) _
  · obtain ⟨A, B, f1, f2, f3⟩ := flat_at (g := fp') e2
    have Oa := (h3 a (inF a ha)).1
    have nEa := (h3 a (inF a ha)).2
    refine ⟨⟨⟨fps.set i fp', by rw [List.length_set, List.length_set, h1], ?_, fun b hb => ?_, fun j e hj => ?_⟩, by rw [List.length_set, S.len], fun b hb => ?_, S.sub, ⟨fun b ob q n => ?_, fun b q => ?_⟩, ?_, S.odr, S.edr, S.oe, S.ed2⟩, ⟨fun b ob q n => ?_, fun b z => .inl z, fun b q => ?_⟩⟩
    · rw [f2]
      rw [f1] at h2
      exact nd_swap h2 nd' sb
    · rw [f2] at hb
      refine h3 b ?_
      rw [f1]
      rcases List.mem_append.mp hb with hb | hb
      · exact List.mem_append_left _ (List.mem_append_right _ hb)
      · rcases List.mem_append.mp hb with hb | hb
        · exact List.mem_append_right _ (List.mem_append_left _ hb)
        · rcases List.mem_append.mp hb with hb | hb
          · rcases sb b hb with z | z
            · exact List.mem_append_right _ (List.mem_append_right _ (List.mem_append_left _ z))
            · exact List.mem_append_left _ (List.mem_append_left _ z)
          · exact List.mem_append_right _ (List.mem_append_right _ (List.mem_append_right _ hb))
    · by_cases hij : i = j
      · subst hij
        rw [List.getElem?_set_self hlt] at hj
        cases hj
        exact ⟨v, fp', e1, by rw [List.getElem?_set_self (by rw [h1]; exact hlt)], r'⟩
      · rw [List.getElem?_set_ne hij] at hj
        obtain ⟨u, fq, g1, g2, g3⟩ := h4 j e hj
        refine ⟨u, fq, g1, by rw [List.getElem?_set_ne hij]; exact g2, Rp.mono e g3 (fun b ob q z => ?_) fun _ _ _ n => n⟩
        have hba : b ≠ a := by
          rintro rfl
          rcases z with z | z
          · exact z Oa
          · rw [f1] at h2
            have m := f3 j fq (fun z => hij z.symm) g2 b z
            have h5 := (List.nodup_append.mp h2).2.1
            rcases List.mem_append.mp m with m | m
            · exact (List.nodup_append.mp h5).2.2 b m b (List.mem_append_left _ ha) rfl
            · exact (List.nodup_append.mp (List.nodup_append.mp h5).2.1).2.2 b ha b m rfl
        rw [upd_ne hba]; exact q
    · by_cases hba : b = a
      · subst hba; rw [upd_same]; exact fun z => nomatch z
      · rw [upd_ne hba]; exact S.trk b hb
    · have hba : b ≠ a := by
        rintro rfl
        rw [nEa] at q; cases q
      rw [upd_ne hba]
      exact S.ext.keep b ob q n
    · by_cases hba : b = a
      · subst hba; rw [upd_same]; exact fun z => nomatch z
      · rw [upd_ne hba]; exact S.ext.trk b q
    · have dw := S.drw
      cases dr with
      | none => trivial
      | some s =>
        obtain ⟨p, hp, k1, k2, n⟩ := dw
        refine ⟨p, hp, ?_, ?_, n⟩
        · rw [upd_ne]
          · exact k1
          · rintro rfl
            exact S.edr p hp nEa
        · rw [upd_ne]
          · exact k2
          · rintro rfl
            exact S.ed2 p hp nEa
    · have hba : b ≠ a := by
        rintro rfl
        exact n Oa
      rw [upd_ne hba]; exact q
    · by_cases hba : b = a
      · subst hba; rw [upd_same]; exact fun z => nomatch z
      · rw [upd_ne hba]; exact q
/-- another place is written -/
theorem Rp.updO {o : HO} {a : Addr} {v : V} {fp : List Addr} (r : Rp c O H v d fp) (oa : O a) (n : a ∉ fp) : Rp c O (upd H a o) v d fp := Rp.mono d r (fun b ob q z => by
  have : b ≠ a := by
    rintro rfl
    exact z.elim (fun k => k oa) n
  rw [upd_ne this]; exact q) fun _ _ _ k => k
theorem Rps.updO {o : HO} {a : Addr} {vs : List V} {ds : List D} {fp : List Addr} (r : Rps c O H vs ds fp) (oa : O a) (n : a ∉ fp) : Rps c O (upd H a o) vs ds fp := Rps.mono ds r (fun b ob q z => by
  have : b ≠ a := by
    rintro rfl
    exact z.elim (fun k => k oa) n
  rw [upd_ne this]; exact q) fun _ _ _ k => k
/-- an item is put in the place of another -/
theorem Rps.set {v : V} {fv : List Addr} (rv : Rp c O H v d fv) : ∀ {ds : List D} {vs : List V} {fq : List Addr} (j : Nat), Rps c O H vs ds fq → (fv ++ fq).Nodup → ∃ fq', Rps c O H (vs.set j v) (ds.set j d) fq' ∧ fq'.Nodup ∧ ∀ b ∈ fq', b ∈ fq ∨ b ∈ fv
  | [], _, _, j, r, nd => by
    cases r
    exact ⟨[], .nil, List.nodup_nil, fun _ h => nomatch h⟩
  | e :: ds, _, _, 0, r, nd => by
    cases r with
    | cons r t =>
      rename_i f1 vs1 f2
      refine ⟨fv ++ f2, .cons rv t, nd.sublist (List.Sublist.append_left (List.sublist_append_right ..) _), fun b hb => ?_⟩
      rcases List.mem_append.mp hb with h | h
      · exact .inr h
      · exact .inl (List.mem_append_right _ h)
  | e :: ds, _, _, j + 1, r, nd => by
    cases r with
    | cons r t =>
      rename_i f1 vs1 f2
      obtain ⟨fq', r', nd', sb⟩ := Rps.set rv j t (nd.sublist (List.Sublist.append_left (List.sublist_append_right ..) _))
      refine ⟨f1 ++ fq', .cons r r', ?_, fun b hb => ?_⟩
      · rw [List.nodup_append] at nd ⊢
        obtain ⟨n1, n2, n3⟩ := nd
        rw [List.nodup_append] at n2
        refine ⟨n2.1, nd', fun a ha b hb e => ?_⟩
        subst e
        rcases sb a hb with z | z
        · exact n2.2.2 a ha a z rfl
        · exact n3 a z a (List.mem_append_left _ ha) rfl
      · rcases List.mem_append.mp hb with h | h
        · exact .inl (List.mem_append_left _ h)
        · rcases sb b h with z | z
          · exact .inl (List.mem_append_right _ z)
          · exact .inr z
/-- one's own list within a list is changed -/
theorem Rps.inner {b : Addr} {us' : List V} {es es' : List D} {fb fb' : List Addr} (ob : O b) (r' : Rps c O (upd H b (.lst us')) us' es' fb') (nd' : (b :: fb').Nodup) : ∀ {ds : List D} {vs : List V} {fq : List Addr} (j : Nat), Rps c O H vs ds fq → ds[j]? = some (.lst true es) → vs[j]? = some (.ref b) → fq.Nodup →
    (∀ a ∈ fb', a ∈ fb ∨ a ∈ fx) → (∀ us, H b = some (.lst us) → ∀ f, Rps c O H us es f → f = fb) → (∀ a ∈ fx, a ∉ fq) → ∃ fq', Rps c O (upd H b (.lst us')) vs (ds.set j (.lst true es')) fq' ∧ fq'.Nodup ∧ ∀ a ∈ fq', a ∈ fq ∨ a ∈ fx
  | [], _, _, j, r, h, _, _, _, _, _ => by simp at h
  | e :: ds, _, _, 0, r, h, hv, nd, sb, un, nx => by
    cases r with
    | cons r t =>
      rename_i v1 f1 vs1 f2
      have h : e = .lst true es := by simpa using h
      subst h
      have hv : v1 = .ref b := by simpa using hv
      subst hv
      cases r with
      | own e1 r1 =>
        rename_i us f3
        have e0 := un us e1 f3 r1
        subst e0
        have nb : b ∉ f2 := fun m => (List.nodup_append.mp nd).2.2 b List.mem_cons_self b m rfl
        refine ⟨(b :: fb') ++ f2, .cons (.own upd_same r') (t.updO ob nb), ?_, fun a ha => ?_⟩
        · rw [List.nodup_append] at nd ⊢
          refine ⟨nd', nd.2.1, fun a ha x hx e => ?_⟩
          subst e
          rcases List.mem_cons.mp ha with z | z
          · subst z; exact nb hx
          · rcases sb a z with z | z
            · exact nd.2.2 a (List.mem_cons_of_mem _ z) a hx rfl
            · exact nx a z (List.mem_append_right _ hx)
        · rcases List.mem_append.mp ha with z | z
          · rcases List.mem_cons.mp z with z | z
            · subst z; exact .inl (List.mem_append_left _ List.mem_cons_self)
            · rcases sb a z with z | z
              · exact .inl (List.mem_append_left _ (List.mem_cons_of_mem _ z))
              · exact .inr z
          · exact .inl (List.mem_append_right _ z)
  | e :: ds, _, _, j + 1, r, h, hv, nd, sb, un, nx => by
    cases r with
    | cons r t =>
      rename_i v1 f1 vs1 f2
      have hb2 : b ∈ f2 := by
        obtain ⟨v2, f4, g1, g2, g3⟩ := t.get (i := j) (d := .lst true es) (by simpa using h)
        have : v2 = .ref b := by
          have hv : vs1[j]? = some (.ref b) := by simpa using hv
          rw [g1] at hv; exact Option.some.inj hv
        subst this
        cases g2 with
        | own _ _ => exact g3.subset List.mem_cons_self
      have nb : b ∉ f1 := fun m => (List.nodup_append.mp nd).2.2 b m b hb2 rfl
      obtain ⟨fq', r2, nd2, sb2⟩ := Rps.inner ob r' nd' j t (by simpa using h) (by simpa using hv) (List.nodup_append.mp nd).2.1 sb un fun a ha m => nx a ha (List.mem_append_right _ m)
      refine ⟨f1 ++ fq', .cons (r.updO ob nb) r2, ?_, fun a ha => ?_⟩
      · rw [List.nodup_append] at nd ⊢
        refine ⟨nd.1, nd2, fun a ha x hx e => ?_⟩
        subst e
        rcases sb2 a hx with z | z
        · exact nd.2.2 a ha a z rfl
        · exact nx a z (List.mem_append_left _ ha)
      · rcases List.mem_append.mp ha with z | z
        · exact .inl (List.mem_append_left _ z)
        · rcases sb2 a z with z | z
          · exact .inl (List.mem_append_right _ z)
          · exact .inr z
end

section
variable {X : Cx} {dra : Option (Addr × Addr)} {W : WX} {e a b d : Expr} {F G J K : CEx} {pos p : Pos} {s : Stmt}
/-- a slot's own list as it stands -/
theorem own_at {c : DC} {O : Addr → Prop} {H : Hp} {v : V} {xs : List D} {fp : List Addr} (r : Rp c O H v (.lst true xs) fp) : ∃ a vs fq, v = .ref a ∧ fp = a :: fq ∧ H a = some (.lst vs) ∧ Rps c O H vs xs fq := by
  cases r with
  | own e r => exact ⟨_, _, _, rfl, rfl, e, r⟩
/-- y.append(e) -/
def cApp (i : Nat) (F : CEx) : CSx := fun ρ dr => match ρ[i]? with
  | some (some (.lst true xs)) => (F ρ dr).stm ρ fun d dr => if xs.length < sizeLine then .nx (ρ.set i (some (.lst true (xs ++ [d])))) dr else .st
  | _ => .st
theorem imp_app {c : DC} {i : Nat} {De : Ends} {σ : L2.St} {H : Hp} (h : tSt c W (cApp i F) De σ H) : tVar i σ H fun x H1 => tyV c.K "list" x H1 ∧ tE c W F σ H1 fun y H2 => rAppend x [y] H2 fun _ H3 => De.nx σ H3 := by
  obtain ⟨en, O, ρ, dr, S, w⟩ := h
  unfold cApp at w
  split at w
  · rename_i xs hi
    obtain ⟨v0, fp0, e0, r0, _, _, _, _⟩ := S.chg (d' := .non) (fx := []) (lf := []) hi
    obtain ⟨a, vs0, fq0, rfl, rfl, h0, s0⟩ := own_at r0
    refine ⟨.ref a, e0, .inl ⟨rfl, _, .inl (.inl h0)⟩, en, O, [], ρ, dr, S, (WpS.stm S w).mono (fun d dr' k u H1 fx x dw r nd fr => ?_) fun _ _ k => k⟩
    have S' := S.hold x dw nd fr (r.trk d)
    obtain ⟨v, fp, e1, r1, nd1, o1, o2, k1⟩ := S'.chg (d' := .lst true (xs ++ [d])) hi
    rw [e0] at e1
    cases e1
    obtain ⟨a', vs, fq, e2, rfl, h1, s1⟩ := own_at r1
    cases e2
    by_cases hz : xs.length < sizeLine
    · rw [if_pos hz] at k
      refine ⟨a, vs, u, rfl, rfl, h1, by rw [s1.len]; exact hz, ?_⟩
      rw [List.append_nil] at nd1
      have nda := List.nodup_append.mp nd1
      have na : a ∉ fx := fun m => nda.2.2 a m a List.mem_cons_self rfl
      have nq : a ∉ fq := (List.nodup_cons.mp nda.2.1).1
      have oa := (o1 a List.mem_cons_self).1
      obtain ⟨S2, g2⟩ := k1 a (.lst (vs ++ [u])) (a :: (fq ++ fx)) List.mem_cons_self (.own upd_same ((s1.updO oa nq).append (by
        have := (r.updO (o := .lst (vs ++ [u])) oa na)
        have q : Rps c (orO O fx) (upd H1 a (.lst (vs ++ [u]))) [u] [d] (fx ++ []) := .cons this .nil
        rw [List.append_nil] at q
        exact q))) (by
        refine List.nodup_cons.mpr ⟨fun m => (List.mem_append.mp m).elim nq na, ?_⟩
        rw [List.nodup_append]
        exact ⟨(List.nodup_cons.mp nda.2.1).2, nda.1, fun x hx y hy e => nda.2.2 y hy x (List.mem_cons_of_mem _ hx) e.symm⟩) (fun b hb => by
        rcases List.mem_cons.mp hb with z | z
        · exact .inl (z ▸ List.mem_cons_self)
        · rcases List.mem_append.mp z with z | z
          · exact .inl (List.mem_cons_of_mem _ z)
          · exact .inr z)
      exact k σ _ (orO O fx) S2 ((x.growO S.odr fr).trans g2)
    · rw [if_neg hz] at k; exact k.elim
  · exact w.elim
theorem bs_app {i : Nat} {y : Str} {p1 apos cpos : Pos} (he : EE X dra W e F) (hN : X.N[i]? = some y := by rfl) (hv : Vis X.env.scope y := by first | exact Or.inl rfl | exact Or.inr (Or.inl rfl) | exact Or.inr (Or.inr rfl)) (hd : (y == ("__debug__" : Str)) = false := by decide)
    (hcd : (y == ("__classdict__" : Str)) = false := by decide) (hbase : attributeBase (.Name y p1) "append" X.env (eval (.Name y p1) X.env) = eval (.Name y p1) X.env := by rfl)
    (hfew : ((backTo cpos (starEach [e] X.env)).all (fun x => !x.1) && (backToKw cpos (keywordEach [] X.env)).all (fun x => x.1.isSome) && decide (([e] : List Expr).length + ([] : List Keyword).length + (if ([] : List Keyword).isEmpty then 0 else 1) < 30)) = true := by rfl)
    (hline : (apos.endLine == cpos.line) = true := by rfl) (hs : starEach [e] X.env = (false, eval e X.env) :: starEach [] X.env := by rfl) (hsw : swapsWith (.Call (.Attribute (.Name y p1) "append" apos) [e] [] cpos) none pos.line X.env = pure false := by rfl) :
    BS X dra W (.Expr (.Call (.Attribute (.Name y p1) "append" apos) [e] [] cpos) pos) (cApp i F) :=
  ⟨wkS (ps_expr (pe_bm PySem.F.plainAttrs_list PySem.F.slot_list_append PySem.F.type_list_append mt_append (pv i hN hv hd hcd) (pa_cons he.pe pa_nil hs) hbase hfew hline hs) hsw) fun De σ H h => imp_app h⟩

def setK (i : Nat) (ρ : Rho) (xs : List D) (d : D) : D → Dr → SR
  | .int k, dr => match ixN xs.length k with
    | some j => .nx (ρ.set i (some (.lst true (xs.set j d)))) dr
    | none => .st
  | _, _ => .st
/-- y[j] = e -/
def cSetIx (i : Nat) (F J : CEx) : CSx := fun ρ dr => (F ρ dr).stm ρ fun d dr => match ρ[i]? with
  | some (some (.lst true xs)) => (J ρ dr).stm ρ (setK i ρ xs d)
  | _ => .st
theorem imp_setIx {c : DC} {i : Nat} {De : Ends} {σ : L2.St} {H : Hp} (h : tSt c W (cSetIx i F J) De σ H) : tE c W F σ H fun x H1 => tVar i σ H1 fun o H2 => tB c W J σ H2 fun k H3 => rSetL o k x H3 fun H4 => De.nx σ H4 := by
  obtain ⟨en, O, ρ, dr, S, w⟩ := h
  refine ⟨en, O, [], ρ, dr, S, (WpS.stm S w).mono (fun d dr' w1 u H1 fx x dw r nd fr => ?_) fun _ _ k => k⟩
  have S' := S.hold x dw nd fr (r.trk d)
  have g1 := x.growO S.odr fr
  split at w1
  · rename_i xs hi
    obtain ⟨v0, fp0, e0, r0, _, _, _, _⟩ := S'.chg (d' := .non) hi
    obtain ⟨a, vs0, fq0, rfl, rfl, h0, s0⟩ := own_at r0
    refine ⟨.ref a, e0, en, orO O fx, fx ++ [], ρ, dr', S', ?_⟩
    have w2 : WpS ((J ρ dr').stm ρ (setK i ρ xs d)) c en O H De W := w1
    cases eJ : J ρ dr' with
    | st => rw [eJ] at w2; exact w2
    | ex e2 dr2 =>
      rw [eJ] at w2
      exact fun cls od H2 x2 dw2 ex => w2 cls od σ H2 (orO O fx) (by
        have := S'.step x2 dw2
        obtain ⟨fps, h1, h2, h3, h4⟩ := this.slots
        exact ⟨⟨fps, h1, h2.sublist (by rw [List.nil_append]; exact List.sublist_append_right ..), fun b hb => h3 b (List.mem_append_right _ (by simpa using hb)), h4⟩, this.len, this.trk, this.sub, this.ext, this.drw, this.odr, this.edr, this.oe, this.ed2⟩) (g1.trans (x2.grow fun p hp => .inl (S.odr p hp))) ex
    | ok dj dr2 =>
      rw [eJ] at w2
      intro vj H2 fj x2 dw2 rj ndj frj
      have w2 : WpS (setK i ρ xs d dj dr2) c en O H De W := w2
      cases dj with
      | int k =>
        cases rj
        cases ej : ixN xs.length k with
        | none => simp only [setK, ej] at w2; exact w2.elim
        | some j =>
          simp only [setK, ej] at w2
          have S2 := S'.step x2 dw2
          obtain ⟨v, fp, e1, r1, nd1, o1, o2, k1⟩ := S2.chg (d' := .lst true (xs.set j d)) hi
          rw [e0] at e1
          cases e1
          obtain ⟨a', vs, fq, e2, rfl, h1, s1⟩ := own_at r1
          cases e2
          rw [List.append_nil] at nd1
          have nda := List.nodup_append.mp nd1
          have na : a ∉ fx := fun m => nda.2.2 a m a List.mem_cons_self rfl
          have nq : a ∉ fq := (List.nodup_cons.mp nda.2.1).1
          have oa := (o1 a List.mem_cons_self).1
          have ru : Rp c (orO O fx) H2 u d fx := r.ext x2 (fun p hp => .inl (S.odr p hp)) fun p hp m => S.edr p hp (o2 _ m).2
          obtain ⟨fq', s2, nd2, sb2⟩ := Rps.set ru j s1 (by
            rw [List.nodup_append]
            exact ⟨nda.1, (List.nodup_cons.mp nda.2.1).2, fun x hx y hy e => nda.2.2 x hx y (List.mem_cons_of_mem _ hy) e⟩)
          have na' : a ∉ fq' := fun m => (sb2 a m).elim nq na
          refine ⟨a, vs, k, j, rfl, rfl, h1, by rw [s1.len]; exact ej, ?_⟩
          obtain ⟨S3, g3⟩ := k1 a (.lst (vs.set j u)) (a :: fq') List.mem_cons_self (.own upd_same (s2.updO oa na')) (List.nodup_cons.mpr ⟨na', nd2⟩) (fun b hb => by
            rcases List.mem_cons.mp hb with z | z
            · exact .inl (z ▸ List.mem_cons_self)
            · exact (sb2 b z).imp (List.mem_cons_of_mem _) id)
          exact w2 σ _ (orO O fx) S3 ((g1.trans (x2.grow fun p hp => .inl (S.odr p hp))).trans g3)
      | _ => exact w2.elim
  · exact w1.elim
theorem bs_setIx {i : Nat} {y : Str} {p1 p2 : Pos} (he : EE X dra W e F) (hj : BE X dra W a J) (hN : X.N[i]? = some y := by rfl) (hv : Vis X.env.scope y := by first | exact Or.inl rfl | exact Or.inr (Or.inl rfl) | exact Or.inr (Or.inr rfl)) (hd : (y == ("__debug__" : Str)) = false := by decide)
    (hcd : (y == ("__classdict__" : Str)) = false := by decide)
    (ha : ∀ v, assign (.Subscript (.Name y p1) a p2) X.env v = (do
      let ov ← holding [v] (eval (.Name y p1) X.env)
      let iv ← holding [v, ov] (eval a X.env)
      standAt p2
      holding [v, ov, iv] (setItem ov iv v)
      release [v, ov, iv] []) := by intro _; rfl)
    (hs : swapsWithSole [.Subscript (.Name y p1) a p2] e pos.line X.env = pure false := by rfl) (hw : swappedStores [.Subscript (.Name y p1) a p2] e X.env = pure none := by rfl)
    (h1 : (assignEach [.Subscript (.Name y p1) a p2] X.env).map (·.2) = [assign (.Subscript (.Name y p1) a p2) X.env] := by rfl) :
    BS X dra W (.Assign [.Subscript (.Name y p1) a p2] e pos) (cSetIx i F J) :=
  ⟨wkS (ps_asg he.pe (pg_sub (pv i hN hv hd hcd) hj.pe set_list ha) hs hw h1) fun De σ H h => imp_setIx h⟩
end
end DL
/-! DL10 -/
/-! DL10: targets, what is walked, loops. -/
namespace DL
open PySem PySem.Spec PyProof.Rows L2

/-! ### targets -/
abbrev CGx := Rho → D → Option Rho
abbrev CGs := Rho → List D → Option Rho
/-- only these slots are other ones -/
def Off (ts : List Nat) (σ σ' : L2.St) : Prop := σ'.length = σ.length ∧ ∀ i, i ∉ ts → σ'[i]? = σ[i]?
def tgG (c : DC) (ts : List Nat) (G : CGx) : TG := fun v σ H Q => ∃ en O lf ρ dr d ρ', StOk c en O lf ρ dr σ H ∧ Rp c O H v d [] ∧ G ρ d = some ρ' ∧ ∀ σ', StOk c en O lf ρ' dr σ' H → Off ts σ σ' → Q σ' H
def tgS (c : DC) (ts : List Nat) (G : CGs) : TGs := fun vs σ H Q => ∃ en O lf ρ dr ds ρ', StOk c en O lf ρ dr σ H ∧ Rps c O H vs ds [] ∧ G ρ ds = some ρ' ∧ ∀ σ', StOk c en O lf ρ' dr σ' H → Off ts σ σ' → Q σ' H
structure BG (X : Cx) (dra : Option (Addr × Addr)) (tg : Expr) (ts : List Nat) (G : CGx) : Prop where
  pg : PG X tg (tgG (dc X dra) ts G)
structure BGs (X : Cx) (dra : Option (Addr × Addr)) (es : List Expr) (ts : List Nat) (G : CGs) : Prop where
  pg : PGs X es (tgS (dc X dra) ts G)
theorem wkG {X : Cx} {e : Expr} {t t' : TG} (h : PG X e t) (i : ∀ v σ H Q, t' v σ H Q → t v σ H Q) : PG X e t' := ⟨fun pins s σ H v u Q I r hw => h.run pins s σ H v u Q I r (i v σ H Q hw)⟩
theorem wkGs {X : Cx} {e : List Expr} {t t' : TGs} (h : PGs X e t) (i : ∀ v σ H Q, t' v σ H Q → t v σ H Q) : PGs X e t' := ⟨fun pins s σ H v u Q I r hw => h.run pins s σ H v u Q I r (i v σ H Q hw)⟩
def gNm (i : Nat) : CGx := fun ρ d => some (ρ.set i (some d))
def gsNil : CGs := fun ρ ds => match ds with
  | [] => some ρ
  | _ => none
def gsCons (G : CGx) (K : CGs) : CGs := fun ρ ds => match ds with
  | d :: ds => (G ρ d).bind fun ρ1 => K ρ1 ds
  | [] => none
def gTp (n : Nat) (K : CGs) : CGx := fun ρ d => match d with
  | .tup ds => if ds.length = n then K ρ ds else none
  | .lst false ds => if ds.length = n then K ρ ds else none
  | _ => none
section
variable {X : Cx} {dra : Option (Addr × Addr)} {W : WX} {pos : Pos}
theorem bg_name {i : Nat} {x : Str} (hN : X.N.Nodup) (hi : X.N[i]? = some x := by rfl) (hx : Loc X.env.scope x := by first | exact Or.inl rfl | exact Or.inr rfl) (hf : X.fn x = true ∨ X.env.scope.names.lookup x = some .local := by first | exact .inl rfl | exact .inr rfl) : BG X dra (.Name x pos) [i] (gNm i) :=
  ⟨wkG (pg_name hN hi hx hf) fun v σ H Q ⟨en, O, lf, ρ, dr, d, ρ', S, r, e, k⟩ => by
    cases e
    exact k _ (S.set0 r) ⟨List.length_set .., fun j hj => List.getElem?_set_ne fun z => hj (by rw [z]; exact List.mem_cons_self)⟩⟩
theorem bgs_nil : BGs X dra [] [] gsNil := ⟨wkGs pgs_nil fun vs σ H Q ⟨en, O, lf, ρ, dr, ds, ρ', S, r, e, k⟩ => by
  cases ds with
  | nil =>
    cases e
    have : vs = [] := List.length_eq_zero_iff.mp r.len
    exact ⟨this, k _ S ⟨rfl, fun _ _ => rfl⟩⟩
  | cons _ _ => cases e⟩
theorem bgs_cons {e : Expr} {es : List Expr} {G : CGx} {K : CGs} {t1 t2 : List Nat} (h1 : BG X dra e t1 G) (h2 : BGs X dra es t2 K)
    (hs : (assignEach (e :: es) X.env).map (·.2) = assign e X.env :: (assignEach es X.env).map (·.2) := by rfl) : BGs X dra (e :: es) (t1 ++ t2) (gsCons G K) :=
  ⟨wkGs (pgs_cons h1.pg h2.pg hs) fun vs σ H Q ⟨en, O, lf, ρ, dr, ds, ρ', S, r, e, k⟩ => by
    cases ds with
    | nil => cases e
    | cons d ds =>
      cases vs with
      | nil => cases r
      | cons v vs =>
        have e : (G ρ d).bind (fun ρ1 => K ρ1 ds) = some ρ' := e
        obtain ⟨ρ1, e1, e2⟩ := Option.bind_eq_some_iff.mp e
        obtain ⟨f1, f2, ef, r1, r2⟩ := r.uncons
        have := List.append_eq_nil_iff.mp ef.symm
        obtain ⟨rfl, rfl⟩ := this
        exact ⟨v, vs, rfl, en, O, lf, ρ, dr, d, ρ1, S, r1, e1, fun σ' S' o1 => ⟨en, O, lf, ρ1, dr, ds, ρ', S', r2, e2, fun σ2 S2 o2 => k σ2 S2 ⟨o2.1.trans o1.1, fun i hi => (o2.2 i fun z => hi (List.mem_append_right _ z)).trans (o1.2 i fun z => hi (List.mem_append_left _ z))⟩⟩⟩⟩
/-- (a, b, ..) = a tuple or a list of that length -/
theorem pg_tl {es : List Expr} {k : Nat} {t : TGs} {n : Nat} (hc : X.calm = true) (h : PGs X es t)
    (hn : (assignEach es X.env).length = n) (hst : (assignEach es X.env).findIdx? (·.1) = none) : PG X (.Tuple es k pos) (fun v σ H Q => gTup X.K n t v σ H Q ∨ gLst X.K n t v σ H Q) :=
  ⟨fun pins s σ H v u Q I r hw => hw.elim ((pg_tup hc h hn hst).run pins s σ H v u Q I r) ((pg_lst hc h hn hst).run pins s σ H v u Q I r)⟩
theorem bg_tup {es : List Expr} {k : Nat} {K : CGs} {n : Nat} {ts : List Nat} (hc : X.calm = true) (h : BGs X dra es ts K)
    (hn : (assignEach es X.env).length = n := by rfl) (hst : (assignEach es X.env).findIdx? (·.1) = none := by rfl) : BG X dra (.Tuple es k pos) ts (gTp n K) :=
  ⟨wkG (pg_tl hc h.pg hn hst) fun v σ H Q ⟨en, O, lf, ρ, dr, d, ρ', S, r, e, k⟩ => by
    unfold gTp at e
    split at e
    · rename_i ds
      split at e
      · rename_i hl
        obtain ⟨a, vs, rfl, hq, rs, _⟩ := rp_sqt r
        exact .inl ⟨a, vs, rfl, hq, rs.len.trans hl, en, O, lf, ρ, dr, ds, ρ', S, rs, e, k⟩
      · cases e
    · rename_i ds
      split at e
      · rename_i hl
        cases r with
        | lst e1 n1 rs => exact .inr ⟨_, _, rfl, .of e1, rs.len.trans hl, en, O, lf, ρ, dr, ds, ρ', S, rs, e, k⟩
      · cases e
    · cases e⟩
/-- target = value -/
def cAsg (G : CGx) (F : CEx) : CSx := fun ρ dr => (F ρ dr).stm ρ fun d dr => match G ρ d.fz with
  | some ρ' => .nx ρ' dr
  | none => .st
theorem bs_asg {tg e : Expr} {F : CEx} {G : CGx} {ts : List Nat} (he : EE X dra W e F) (hg : BG X dra tg ts G) (hs : swapsWithSole [tg] e pos.line X.env = pure false := by rfl) (hw : swappedStores [tg] e X.env = pure none := by rfl)
    (h1 : (assignEach [tg] X.env).map (·.2) = [assign tg X.env] := by rfl) : BS X dra W (.Assign [tg] e pos) (cAsg G F) :=
  ⟨wkS (ps_asg he.pe hg.pg hs hw h1) fun De σ H ⟨en, O, ρ, dr, S, w⟩ => by
    refine ⟨en, O, [], ρ, dr, S, (WpS.stm S w).mono (fun d dr' k v H' fp x dw r nd fr => ?_) fun _ _ k => k⟩
    cases eg : G ρ d.fz with
    | none => simp only [eg] at k; exact k.elim
    | some ρ' =>
      simp only [eg] at k
      exact ⟨en, O, [], ρ, dr', d.fz, ρ', S.step x dw, r.orl.fz d fun a ha z => S.trk a z (fr a ha), eg, fun σ' S' _ => k σ' H' O S' (x.grow S.odr)⟩⟩
end

/-! ### what is walked -/
abbrev CI := Rho → Dr → R (List D)
def IsIt (c : DC) (O : Addr → Prop) (H : Hp) (J : It) (xs : List D) : Prop :=
  ∀ (O' : Addr → Prop) (H' : Hp), Grow c O H O' H' → (∀ a, O' a → H' a ≠ none) → ∀ i : Nat,
    (∀ d, xs[i]? = some d → J.go i H' ∧ ∀ x H3, J.yld i H' x H3 → Same H' H3 ∧ Rp c O' H3 x d []) ∧ (xs.length ≤ i → J.stop i H')
def OkI (c : DC) (O : Addr → Prop) (H : Hp) (R : It → Hp → Prop) : List D → Dr → Prop := fun xs dr => ∀ J H', Ext c H H' → DrOk c dr H' → IsIt c O H' J xs → R J H'
def tI (c : DC) (W : WX) (F : CI) : TI := fun σ H R => ∃ en O lf ρ dr, StOk c en O lf ρ dr σ H ∧ Wp (F ρ dr) (OkI c O H R) (ExW c W σ H)
structure BI (X : Cx) (dra : Option (Addr × Addr)) (W : WX) (tg it : Expr) (F : CI) : Prop where
  pi : PI X tg it (tI (dc X dra) W F)
theorem wkI {X : Cx} {tg it : Expr} {t t' : TI} (h : PI X tg it t) (i : ∀ σ H R, t' σ H R → t σ H R) : PI X tg it t' := ⟨fun pins s σ H R I hw => h.run pins s σ H R I (i σ H R hw)⟩
section
variable {X : Cx} {dra : Option (Addr × Addr)} {W : WX} {tg e a b : Expr} {F G : CEx} {pos p : Pos}
theorem pi_any {tl : TE} (hl : PE X e tl) : PI X tg e (fun σ H R => tl σ H fun x H1 => (∃ a, x = .ref a ∧ (∃ xs, SqL X.K H1 a xs) ∧ R (Itl X.K a) H1) ∨ (∃ a, x = .ref a ∧ (∃ xs, SqT X.K H1 a xs) ∧ R (Itt X.K a) H1) ∨ (∃ t, x = .str t ∧ R (Its t) H1)) := by
  refine ⟨fun pins s σ H R I h => ?_⟩
  refine thn (hl.run pins s σ H _ I h) fun v s1 ⟨x, H1, I1, r1, q1⟩ => ?_
  rcases q1 with ⟨a, e, ⟨xs, hq⟩, q⟩ | ⟨a, e, ⟨xs, hq⟩, q⟩ | ⟨t, ex, q⟩
  · subst e
    cases r1
    obtain ⟨its, rv, p, hz⟩ := I1.list hq
    refine wpAny_pyIter_list p.isList ?_
    refine ⟨s1.heap.objs.size, [s1.heap.objs.size], _, _, H1, rfl, I1.kept (t' := s1.toks) fun b o e => Heap.get?_push_of_some _ e, turn_list a _, ⟨_, Heap.get?_push_size _ rfl, rfl, rfl⟩, fun b hb => ?_, q⟩
    have e : b = s1.heap.objs.size := by simpa using hb
    subst e
    exact I1.fpOk (Nat.le_refl _) (I1.hok.fresh (Nat.le_refl _))
  · subst e
    cases r1
    obtain ⟨its, rv, p, hz⟩ := I1.tuple hq
    refine wpAny_pyIter_tuple (show s1.heap.IsTuple a its.toArray from p) ?_
    refine ⟨s1.heap.objs.size, [s1.heap.objs.size], _, _, H1, rfl, I1.kept (t' := s1.toks) fun b o e => Heap.get?_push_of_some _ e, turn_tuple a _, ⟨_, Heap.get?_push_size _ rfl, rfl, rfl⟩, fun b hb => ?_, q⟩
    have e : b = s1.heap.objs.size := by simpa using hb
    subst e
    exact I1.fpOk (Nat.le_refl _) (I1.hok.fresh (Nat.le_refl _))
  · subst ex
    obtain ⟨u, rfl⟩ := r1
    cases ha : t.cps.all (· < 128)
    · exact wpAny_pyIter_wide ha (pi_one (tk := s1.toks) I1 _ (turn_str _ t u "str_iterator" (.inr rfl)) ⟨_, Heap.get?_push_size _ rfl, rfl, rfl⟩ q)
    · exact wpAny_pyIter_ascii ha (pi_one (tk := s1.toks) I1 _ (turn_str _ t u "str_ascii_iterator" (.inl rfl)) ⟨_, Heap.get?_push_size _ rfl, rfl, rfl⟩ q)
def iAny (F : CEx) : CI := fun ρ dr => (F ρ dr).bind fun d dr => match d with
  | .lst _ xs => .ok (D.fzs xs) dr
  | .tup xs => .ok xs dr
  | .str t => .ok (t.cps.toList.map fun c => .str ⟨#[c]⟩) dr
  | _ => .st
theorem Grow.not {c : DC} {O O' : Addr → Prop} {H H' : Hp} (g : Grow c O H O' H') {a : Addr} {o : HO} (h : H a = some o) (n : ¬ O a) : H' a = some o ∧ ¬ O' a :=
  ⟨g.keep a o h n, fun z => (g.new a z).elim n fun k => by rw [k] at h; cases h⟩
theorem Rps.at0 {c : DC} {O : Addr → Prop} {H : Hp} {ds : List D} {vs : List V} (r : Rps c O H vs ds []) {i : Nat} {d : D} (e : ds[i]? = some d) : ∃ v, vs[i]? = some v ∧ Rp c O H v d [] := by
  obtain ⟨v, fq, e1, r1, s⟩ := r.get e
  have : fq = [] := List.sublist_nil.mp s
  subst this
  exact ⟨v, e1, r1⟩
theorem isIt_list {c : DC} {O : Addr → Prop} {H : Hp} {a : Addr} {ds : List D} {vs : List V} (h : H a = some (.lst vs)) (n : ¬ O a) (r : Rps c O H vs ds []) : IsIt c O H (Itl c.K a) ds := fun O' H' g tr i => by
  obtain ⟨h', n'⟩ := g.not h n
  have r' := r.grow g
  refine ⟨fun d hd => ?_, fun hi => ⟨vs, .of h', by rw [r'.len]; exact hi⟩⟩
  obtain ⟨v, e1, r1⟩ := r'.at0 hd
  refine ⟨⟨vs, v, .of h', e1⟩, fun x H3 y => ?_⟩
  obtain ⟨rfl, y⟩ := y
  have := y vs (.of h')
  rw [e1] at this
  cases this
  exact ⟨fun _ _ e => e, r1⟩
theorem isIt_tup {c : DC} {O : Addr → Prop} {H : Hp} {a : Addr} {ds : List D} (r : Rp c O H (.ref a) (.tup ds) []) : IsIt c O H (Itt c.K a) ds := fun O' H' g tr i => by
  have r' := r.grow g
  obtain ⟨a', vs, e, hq, rs, _⟩ := rp_sqt r'
  cases e
  refine ⟨fun d hd => ?_, fun hi => ⟨vs, hq, by rw [rs.len]; exact hi⟩⟩
  obtain ⟨v, e1, r1⟩ := rs.at0 hd
  refine ⟨⟨vs, v, hq, e1⟩, fun x H3 y => ?_⟩
  obtain ⟨rfl, y⟩ := y
  have := y vs hq
  rw [e1] at this
  cases this
  exact ⟨fun _ _ e => e, r1⟩
theorem isIt_str {c : DC} {O : Addr → Prop} {H : Hp} {t : Str} : IsIt c O H (Its t) (t.cps.toList.map fun c => .str ⟨#[c]⟩) := fun O' H' g tr i => by
  refine ⟨fun d hd => ?_, fun hi => by simpa [Its] using hi⟩
  rw [List.getElem?_map] at hd
  obtain ⟨ch, e1, e2⟩ := Option.map_eq_some_iff.mp hd
  have e1 : t.cps[i]? = some ch := by rw [← Array.getElem?_toList]; exact e1
  refine ⟨(Array.getElem?_eq_some_iff.mp e1).1, fun x H3 y => ?_⟩
  obtain ⟨rfl, ch', e3, rfl⟩ := y
  rw [e1] at e3
  cases e3
  subst e2
  exact ⟨fun _ _ e => e, .str _⟩
theorem bi_any (he : EE X dra W e F) : BI X dra W tg e (iAny F) := ⟨wkI (pi_any he.pe) fun σ H R ⟨en, O, lf, ρ, dr, S, w⟩ => by
  refine ⟨en, O, lf, ρ, dr, S, (Wp.bind w).mono (fun d dr' k v H' fp x dw r nd fr => ?_) fun _ _ k => k⟩
  have rz := r.orl.fz d fun a ha z => S.trk a z (fr a ha)
  cases d with
  | lst b xs =>
    cases rz with
    | lst e1 n1 rs =>
      exact .inl ⟨_, rfl, ⟨_, .of e1⟩, k _ H' x dw (isIt_list e1 n1 rs)⟩
  | tup xs =>
    obtain ⟨a, vs, rfl, hq, _⟩ := rp_sqt rz
    exact .inr (.inl ⟨a, rfl, ⟨vs, hq⟩, k _ H' x dw (isIt_tup rz)⟩)
  | str t =>
    cases rz
    exact .inr (.inr ⟨t, rfl, k _ H' x dw isIt_str⟩)
  | _ => exact k.elim⟩
/-! ranges -/
def iRg1 (F : CEx) : CI := fun ρ dr => (F ρ dr).bind fun d dr => match d with
  | .int n => if -(2 ^ 62) ≤ n ∧ n < 2 ^ 62 then .ok (rgD 0 n) dr else .st
  | _ => .st
def iRg2 (F G : CEx) : CI := fun ρ dr => (F ρ dr).bind fun d dr => (G ρ dr).bind fun e dr => match d, e with
  | .int n, .int m => if -(2 ^ 62) ≤ n ∧ n < 2 ^ 62 ∧ -(2 ^ 62) ≤ m ∧ m < 2 ^ 62 then .ok (rgD n m) dr else .st
  | _, _ => .st
theorem isIt_rg {c : DC} {O : Addr → Prop} {H : Hp} (a b : Int) : IsIt c O H (Itr a (b - a).toNat) (rgD a b) := fun O' H' g tr i => by
  refine ⟨fun d hd => ?_, fun hi => by simpa [Itr, rgD] using hi⟩
  rw [rgD, List.getElem?_map] at hd
  obtain ⟨j, e1, e2⟩ := Option.map_eq_some_iff.mp hd
  obtain ⟨hj, e3⟩ := List.getElem?_eq_some_iff.mp e1
  rw [List.getElem_range] at e3
  subst e3
  refine ⟨by simpa [Itr] using hj, fun x H3 y => ?_⟩
  obtain ⟨rfl, rfl⟩ := y
  subst e2
  exact ⟨fun _ _ e => e, .int _⟩
theorem bi_rg1 (hm : X.mg "range" = none) (ha : BE X dra W a F) (hg : Gl X "range" := by rfl) (hs : starEach [a] X.env = [(false, eval a X.env)] := by rfl) : BI X dra W tg (.Call (.Name "range" p) [a] [] pos) (iRg1 F) :=
  ⟨wkI (pi_range1 hg hm (pa_cons ha.pe pa_nil (by rw [hs]; rfl)) hs) fun σ H R ⟨en, O, lf, ρ, dr, S, w⟩ => by
    refine ⟨en, O, lf, ρ, dr, S, (Wp.bind w).mono (fun d dr' k v H' fp x dw r nd fr => ?_) fun _ _ k => k⟩
    cases d with
    | int n =>
      cases r
      by_cases hz : -(2 ^ 62) ≤ n ∧ n < 2 ^ 62
      · have k : Wp (if -(2 ^ 62) ≤ n ∧ n < 2 ^ 62 then DL.R.ok (rgD 0 n) dr' else .st) _ _ := k
        rw [if_pos hz] at k
        have := k (Itr 0 n.toNat) H' x dw (by have := isIt_rg (c := dc X dra) (O := O) (H := H') 0 n; rw [Int.sub_zero] at this; exact this)
        exact ⟨n, rfl, hz.1, hz.2, this⟩
      · have k : Wp (if -(2 ^ 62) ≤ n ∧ n < 2 ^ 62 then DL.R.ok (rgD 0 n) dr' else .st) _ _ := k
        rw [if_neg hz] at k
        exact k.elim
    | _ => exact k.elim⟩
theorem bi_rg2 (hm : X.mg "range" = none) (ha : BE X dra W a F) (hb : BE X dra W b G) (hg : Gl X "range" := by rfl) (hs : starEach [a, b] X.env = [(false, eval a X.env), (false, eval b X.env)] := by rfl) (hs2 : starEach [b] X.env = [(false, eval b X.env)] := by rfl) : BI X dra W tg (.Call (.Name "range" p) [a, b] [] pos) (iRg2 F G) :=
  ⟨wkI (pi_range2 hg hm (pa_cons ha.pe (pa_cons hb.pe pa_nil (by rw [hs2]; rfl)) (by rw [hs, hs2])) hs hs2) fun σ H R ⟨en, O, lf, ρ, dr, S, w⟩ => by
    refine ⟨en, O, lf, ρ, dr, S, (Wp.bind w).mono (fun d dr' k v H' fp x dw r nd fr => ?_) fun _ _ k => k⟩
    refine ⟨en, O, lf, ρ, dr', S.step x dw, (Wp.bind k).mono (fun d2 dr2 k2 v2 H2 fp2 x2 dw2 r2 nd2 fr2 => ?_) fun _ _ k => k.later x⟩
    cases d with
    | int n =>
      cases d2 with
      | int m =>
        cases r
        cases r2
        have k2 : Wp (if -(2 ^ 62) ≤ n ∧ n < 2 ^ 62 ∧ -(2 ^ 62) ≤ m ∧ m < 2 ^ 62 then DL.R.ok (rgD n m) dr2 else .st) (OkI (dc X dra) O H R) (ExW (dc X dra) W σ H) := k2
        by_cases hz : -(2 ^ 62) ≤ n ∧ n < 2 ^ 62 ∧ -(2 ^ 62) ≤ m ∧ m < 2 ^ 62
        · rw [if_pos hz] at k2
          exact ⟨n, m, rfl, hz, k2 _ H2 (x.trans x2) dw2 (isIt_rg n m)⟩
        · rw [if_neg hz] at k2
          exact k2.elim
      | _ => exact k2.elim
    | _ => exact k2.elim⟩
/-! zip of two lists, of two tuples -/
def iZipD (A : CAx) : CI := fun ρ dr => (A ρ dr).bind fun ds dr => match ds with
  | [.lst _ xs, .lst _ ys] => .ok ((D.fzs xs).zipWith (fun x y => .tup [x, y]) (D.fzs ys)) dr
  | [.tup xs, .tup ys] => .ok (xs.zipWith (fun x y => .tup [x, y]) ys) dr
  | _ => .st
theorem Grow.new1 {c : DC} {O O' : Addr → Prop} {H H' : Hp} {a : Addr} {o : HO} (tr : ∀ a, O' a → H' a ≠ none) (h : H' a = none) : Same H' (upd H' a o) ∧ ¬ O' a := ⟨same_upd h, fun z => tr a z h⟩
theorem isIt_zip {c : DC} {O : Addr → Prop} {H : Hp} {a b : Addr} {ds es : List D} {vs us : List V} (h1 : H a = some (.lst vs)) (n1 : ¬ O a) (r1 : Rps c O H vs ds []) (h2 : H b = some (.lst us)) (n2 : ¬ O b) (r2 : Rps c O H us es []) : IsIt c O H (Itz c.K a b) (ds.zipWith (fun x y => .tup [x, y]) es) := fun O' H' g tr i => by
  obtain ⟨h1', n1'⟩ := g.not h1 n1
  obtain ⟨h2', n2'⟩ := g.not h2 n2
  have r1' := r1.grow g
  have r2' := r2.grow g
  refine ⟨fun d hd => ?_, fun hi => ⟨vs, us, .of h1', .of h2', ?_⟩⟩
  · obtain ⟨d1, d2, e1, e2, e3⟩ := List.getElem?_zipWith_eq_some.mp hd
    obtain ⟨v1, q1, s1⟩ := r1'.at0 e1
    obtain ⟨v2, q2, s2⟩ := r2'.at0 e2
    refine ⟨⟨vs, us, v1, v2, .of h1', .of h2', q1, q2⟩, fun x H3 y => ?_⟩
    obtain ⟨T, x1, x2, rfl, hT, rfl, y1, y2⟩ := y
    have y1 := y1 vs (.of h1')
    have y2 := y2 us (.of h2')
    rw [q1] at y1; cases y1
    rw [q2] at y2; cases y2
    subst e3
    have sm := same_upd (o := HO.tup [v1, v2]) hT
    exact ⟨sm, .tup upd_same (fun z => tr T z hT) (.cons (fp := []) (fq := []) (s1.same sm) (.cons (fp := []) (fq := []) (s2.same sm) .nil))⟩
  · rw [List.length_zipWith] at hi
    rw [r1'.len, r2'.len]
    omega
theorem isIt_zipT {c : DC} {O : Addr → Prop} {H : Hp} {a b : Addr} {ds es : List D} (r1 : Rp c O H (.ref a) (.tup ds) []) (r2 : Rp c O H (.ref b) (.tup es) []) : IsIt c O H (RZ.ItzT c.K a b) (ds.zipWith (fun x y => .tup [x, y]) es) := fun O' H' g tr i => by
  obtain ⟨a', vs, e, h1', r1', _⟩ := rp_sqt (r1.grow g)
  cases e
  obtain ⟨b', us, e, h2', r2', _⟩ := rp_sqt (r2.grow g)
  cases e
  refine ⟨fun d hd => ?_, fun hi => ⟨vs, us, h1', h2', ?_⟩⟩
  · obtain ⟨d1, d2, e1, e2, e3⟩ := List.getElem?_zipWith_eq_some.mp hd
    obtain ⟨v1, q1, s1⟩ := r1'.at0 e1
    obtain ⟨v2, q2, s2⟩ := r2'.at0 e2
    refine ⟨⟨vs, us, v1, v2, h1', h2', q1, q2⟩, fun x H3 y => ?_⟩
    obtain ⟨T, x1, x2, rfl, hT, rfl, y1, y2⟩ := y
    have y1 := y1 vs h1'
    have y2 := y2 us h2'
    rw [q1] at y1; cases y1
    rw [q2] at y2; cases y2
    subst e3
    have sm := same_upd (o := HO.tup [v1, v2]) hT
    exact ⟨sm, .tup upd_same (fun z => tr T z hT) (.cons (fp := []) (fq := []) (s1.same sm) (.cons (fp := []) (fq := []) (s2.same sm) .nil))⟩
  · rw [List.length_zipWith] at hi
    rw [r1'.len, r2'.len]
    omega
theorem Rp.lstF {c : DC} {O : Addr → Prop} {H : Hp} {v : V} {b : Bool} {xs : List D} {fp : List Addr} (r : Rp c O H v (.lst b xs) fp) (n : ∀ a ∈ fp, ¬ O a) : ∃ a vs, v = .ref a ∧ H a = some (.lst vs) ∧ ¬ O a ∧ Rps c O H vs (D.fzs xs) [] := by
  have := r.fz _ n
  cases this with
  | lst e1 n1 rs => exact ⟨_, _, rfl, e1, n1, rs⟩
theorem Rps.two {c : DC} {O : Addr → Prop} {H : Hp} {vs : List V} {d e : D} {fp : List Addr} (r : Rps c O H vs [d, e] fp) : ∃ v u f1 f2, vs = [v, u] ∧ fp = f1 ++ f2 ∧ Rp c O H v d f1 ∧ Rp c O H u e f2 := by
  cases r with
  | cons r1 t =>
    rename_i v f1 vs1 f2
    cases vs1 with
    | nil => have := t.len; simp at this
    | cons u vs2 =>
      obtain ⟨g1, g2, rfl, r2, t2⟩ := t.uncons
      have e2 : vs2 = [] := List.length_eq_zero_iff.mp t2.len
      subst e2
      have e3 : g2 = [] := by
        cases g2 with
        | nil => rfl
        | cons _ _ => exact nomatch t2
      subst e3
      exact ⟨v, u, f1, g1, rfl, by rw [List.append_nil], r1, r2⟩
theorem bi_zip {elts : List Expr} {kk : Nat} {tpos : Pos} {A : CAx} (hm : X.mg "zip" = none) (ha : EA X dra W [a, b] A) (hg : Gl X "zip" := by rfl)
    (hs : starEach [a, b] X.env = (false, eval a X.env) :: starEach [b] X.env := by rfl) (hpl : (backTo pos (starEach [b] X.env)).any (·.1) = false := by rfl) :
    BI X dra W (.Tuple elts kk tpos) (.Call (.Name "zip" p) [a, b] [] pos) (iZipD A) :=
  ⟨wkI (RZ.pi_zipA hg hm ha.pa hs hpl) fun σ H R ⟨en, O, lf, ρ, dr, S, w⟩ => by
    refine ⟨en, O, lf, ρ, dr, S, (Wp.bind w).mono (fun ds dr' k vs H' fp x dw r nd fr => ?_) fun _ _ k => k⟩
    have nO : ∀ a ∈ fp, ¬ O a := fun a ha z => S.trk a z (fr a ha)
    split at k
    · rename_i b1 xs b2 ys
      obtain ⟨v, u, f1, f2, rfl, rfl, r1, r2⟩ := r.two
      obtain ⟨a1, vs1, rfl, h1, n1, q1⟩ := r1.orl.lstF fun a ha => nO a (List.mem_append_left _ ha)
      obtain ⟨a2, vs2, rfl, h2, n2, q2⟩ := r2.orl.lstF fun a ha => nO a (List.mem_append_right _ ha)
      exact ⟨a1, a2, vs1, vs2, rfl, .inl ⟨.of h1, .of h2, k _ H' x dw (isIt_zip h1 n1 q1 h2 n2 q2)⟩⟩
    · rename_i xs ys
      obtain ⟨v, u, f1, f2, rfl, rfl, r1, r2⟩ := r.two
      have z1 := r1.frz _ rfl
      have z2 := r2.frz _ rfl
      subst z1
      subst z2
      obtain ⟨a1, vs1, rfl, h1, _, _⟩ := rp_sqt r1
      obtain ⟨a2, vs2, rfl, h2, _, _⟩ := rp_sqt r2
      exact ⟨a1, a2, vs1, vs2, rfl, .inr ⟨h1, h2, k _ H' x dw (isIt_zipT r1.orl r2.orl)⟩⟩
    · exact k.elim⟩
end

/-! ### for -/
def forG (G : CGx) (B : CSx) : List D → CSx
  | [], ρ, dr => .nx ρ dr
  | d :: ds, ρ, dr => match G ρ d with
    | none => .st
    | some ρ1 => match B ρ1 dr with
      | .nx ρ2 dr2 => forG G B ds ρ2 dr2
      | .ct ρ2 dr2 => forG G B ds ρ2 dr2
      | .bk ρ2 dr2 => .nx ρ2 dr2
      | r => r
def cFor (I : CI) (G : CGx) (B : CSx) : CSx := fun ρ dr => match I ρ dr with
  | .st => .st
  | .ok xs dr => forG G B xs ρ dr
  | .ex e dr => .ex e ρ dr
def whG (T : CTx) (B : CSx) : Nat → CSx
  | 0, _, _ => .st
  | n + 1, ρ, dr => match T ρ dr with
    | .st => .st
    | .ex e dr => .ex e ρ dr
    | .ok false dr => .nx ρ dr
    | .ok true dr => match B ρ dr with
      | .nx ρ2 dr2 => whG T B n ρ2 dr2
      | .ct ρ2 dr2 => whG T B n ρ2 dr2
      | .bk ρ2 dr2 => .nx ρ2 dr2
      | r => r
/-- n: how many turns at most -/
def cWhile (n : Rho → Nat) (T : CTx) (B : CSx) : CSx := fun ρ dr => whG T B (n ρ) ρ dr
section
variable {X : Cx} {dra : Option (Addr × Addr)} {W : WX} {tg it e : Expr} {I : CI} {G : CGx} {B : CSx} {T : CTx} {body : List Stmt} {pos : Pos}
theorem bs_for (hp : PassesOwn (model X.prog X.w) X.A X.env X.xe) (hc : X.calm = true) {ts : List Nat} (hi : BI X dra W tg it I) (hg : BG X dra tg ts G) (hb : BSs X dra W body B) (hs : ∀ x, foldedSetIterable it X.env x = pure x := by intro _; rfl) : BS X dra W (.For tg it body [] pos) (cFor I G B) :=
  ⟨wkS (ps_for hp hc hi.pi hg.pg hb.ps hs) fun De σ H ⟨en, O, ρ, dr, S, w⟩ => by
    refine ⟨en, O, [], ρ, dr, S, ?_⟩
    unfold cFor at w
    cases eI : I ρ dr with
    | st => rw [eI] at w; exact w.elim
    | ex e dr' =>
      rw [eI] at w
      exact fun cls od H' x dw ex => w cls od σ H' O (S.step x dw) (x.grow S.odr) ex
    | ok xs dr' =>
      rw [eI] at w
      have w : WpS (forG G B xs ρ dr') (dc X dra) en O H De W := w
      intro J H1 x dw ij
      refine ⟨fun i m σ H2 => m = xs.length - i ∧ i ≤ xs.length ∧ ∃ O2 ρ2 dr2, StOk (dc X dra) en O2 [] ρ2 dr2 σ H2 ∧ Grow (dc X dra) O H1 O2 H2 ∧ WpS (forG G B (xs.drop i) ρ2 dr2) (dc X dra) en O2 H2 De W, ⟨xs.length, rfl, Nat.zero_le _, O, ρ, dr', S.step x dw, .refl, by rw [List.drop_zero]; exact w.later (x.grow S.odr)⟩, ?_⟩
      rintro i m σ2 H2 ⟨rfl, hi2, O2, ρ2, dr2, S2, g2, w2⟩
      obtain ⟨i1, i2⟩ := ij O2 H2 g2 S2.trk i
      by_cases hlt : i < xs.length
      · rw [List.drop_eq_getElem_cons hlt] at w2
        obtain ⟨go, yl⟩ := i1 _ (List.getElem?_eq_getElem hlt)
        refine .inr ⟨go, fun σ3 H3 => ∃ O3 ρ3 dr3, StOk (dc X dra) en O3 [] ρ3 dr3 σ3 H3 ∧ Grow (dc X dra) O H1 O3 H3 ∧ WpS (forG G B (xs.drop (i + 1)) ρ3 dr3) (dc X dra) en O3 H3 De W, fun σ3 H3 n3 => ⟨_, by omega, rfl, hlt, n3⟩, fun v H3 y => ?_⟩
        obtain ⟨sm, rv⟩ := yl v H3 y
        unfold forG at w2
        cases eG : G ρ2 xs[i] with
        | none => rw [eG] at w2; exact w2.elim
        | some ρ3 =>
          rw [eG] at w2
          have x3 : Ext (dc X dra) H2 H3 := .of_same sm
          have g3 : Grow (dc X dra) O2 H2 O2 H3 := x3.grow S2.odr
          refine ⟨en, O2, [], ρ2, dr2, xs[i], ρ3, S2.step x3 (S2.drw.same sm), rv, eG, fun σ' S' _ => ⟨en, O2, ρ3, dr2, S', ?_⟩⟩
          have w2 : WpS (match B ρ3 dr2 with
            | .nx ρ2 dr2 => forG G B (xs.drop (i + 1)) ρ2 dr2
            | .ct ρ2 dr2 => forG G B (xs.drop (i + 1)) ρ2 dr2
            | .bk ρ2 dr2 => .nx ρ2 dr2
            | r => r) (dc X dra) en O2 H2 De W := w2
          cases eB : B ρ3 dr2 with
          | st => rw [eB] at w2; exact w2
          | nx ρ4 dr4 =>
            rw [eB] at w2
            exact fun σ4 H4 O4 S4 g4 => ⟨O4, ρ4, dr4, S4, (g2.trans g3).trans g4, WpS.later w2 (g3.trans g4)⟩
          | ct ρ4 dr4 =>
            rw [eB] at w2
            exact fun σ4 H4 O4 S4 g4 => ⟨O4, ρ4, dr4, S4, (g2.trans g3).trans g4, WpS.later w2 (g3.trans g4)⟩
          | bk ρ4 dr4 =>
            rw [eB] at w2
            exact fun σ4 H4 O4 S4 g4 => w2 σ4 H4 O4 S4 (g3.trans g4)
          | rt d4 dr4 => rw [eB] at w2; exact w2
          | ex e4 ρ4 dr4 =>
            rw [eB] at w2
            exact fun cls od σ4 H4 O4 S4 g4 => w2 cls od σ4 H4 O4 S4 (g3.trans g4)
      · have e : i = xs.length := by omega
        rw [List.drop_eq_nil_of_le (by omega)] at w2
        exact .inl ⟨i2 (by omega), w2 σ2 H2 O2 S2 .refl⟩⟩
theorem bs_while (n : Rho → Nat) (hp : PassesOwn (model X.prog X.w) X.A X.env X.xe) (ht : BT X dra W e T) (hb : BSs X dra W body B) : BS X dra W (.While e body [] pos) (cWhile n T B) :=
  ⟨wkS (ps_while hp ht.pt hb.ps) fun De σ H ⟨en, O, ρ, dr, S, w⟩ => by
    refine ⟨fun m σ2 H2 => ∃ O2 ρ2 dr2, StOk (dc X dra) en O2 [] ρ2 dr2 σ2 H2 ∧ WpS (whG T B m ρ2 dr2) (dc X dra) en O2 H2 De W, ⟨n ρ, O, ρ, dr, S, w⟩, ?_⟩
    rintro m σ2 H2 ⟨O2, ρ2, dr2, S2, w2⟩
    refine ⟨en, O2, [], ρ2, dr2, S2, ?_⟩
    cases m with
    | zero => exact w2.elim
    | succ m =>
      unfold whG at w2
      cases eT : T ρ2 dr2 with
      | st => rw [eT] at w2; exact w2
      | ex e dr' =>
        rw [eT] at w2
        exact fun cls od H' x dw ex => w2 cls od σ2 H' O2 (S2.step x dw) (x.grow S2.odr) ex
      | ok b dr' =>
        intro H3 x dw
        have S3 := S2.step x dw
        have g3 := x.grow S2.odr
        rw [eT] at w2
        cases b with
        | false => exact w2 σ2 H3 O2 S3 g3
        | true =>
          rw [if_pos rfl]
          refine ⟨fun σ4 H4 => ∃ O4 ρ4 dr4, StOk (dc X dra) en O4 [] ρ4 dr4 σ4 H4 ∧ WpS (whG T B m ρ4 dr4) (dc X dra) en O4 H4 De W, fun σ4 H4 n4 => ⟨m, Nat.lt_succ_self _, n4⟩, en, O2, ρ2, dr', S3, ?_⟩
          have w2 : WpS (match B ρ2 dr' with
            | .nx ρ2 dr2 => whG T B m ρ2 dr2
            | .ct ρ2 dr2 => whG T B m ρ2 dr2
            | .bk ρ2 dr2 => .nx ρ2 dr2
            | r => r) (dc X dra) en O2 H2 De W := w2
          cases eB : B ρ2 dr' with
          | st => rw [eB] at w2; exact w2
          | nx ρ4 dr4 =>
            rw [eB] at w2
            exact fun σ4 H4 O4 S4 g4 => ⟨O4, ρ4, dr4, S4, WpS.later w2 (g3.trans g4)⟩
          | ct ρ4 dr4 =>
            rw [eB] at w2
            exact fun σ4 H4 O4 S4 g4 => ⟨O4, ρ4, dr4, S4, WpS.later w2 (g3.trans g4)⟩
          | bk ρ4 dr4 =>
            rw [eB] at w2
            exact fun σ4 H4 O4 S4 g4 => w2 σ4 H4 O4 S4 (g3.trans g4)
          | rt d4 dr4 => rw [eB] at w2; exact w2
          | ex e4 ρ4 dr4 =>
            rw [eB] at w2
            exact fun cls od σ4 H4 O4 S4 g4 => w2 cls od σ4 H4 O4 S4 (g3.trans g4)⟩
end
end DL
/-! DL11 -/
/-! DL11: lists told by a clause. -/
namespace DL
open PySem PySem.Spec PyProof.Rows L2

def wipeD (ρ : Rho) : List Nat → Rho
  | [] => ρ
  | v :: vs => (wipeD ρ vs).set v none
section
variable {c : DC} {en : En} {O : Addr → Prop} {lf fx : List Addr} {ρ : Rho} {dr : Dr} {σ : L2.St} {H : Hp}
theorem StOk.wipe1 (S : StOk c en O lf ρ dr σ H) (i : Nat) : StOk c en O lf (ρ.set i none) dr (σ.set i none) H := by
  obtain ⟨fps, h1, h2, h3, h4⟩ := S.slots
  refine ⟨⟨fps, by rw [List.length_set, h1], h2, h3, fun j d hj => ?_⟩, by rw [List.length_set, List.length_set, S.len], S.trk, S.sub, S.ext, S.drw, S.odr, S.edr, S.oe, S.ed2⟩
  by_cases hij : i = j
  · subst hij
    by_cases hi : i < ρ.length
    · rw [List.getElem?_set_self hi] at hj; cases hj
    · rw [List.getElem?_eq_none (by rw [List.length_set]; omega)] at hj; cases hj
  · rw [List.getElem?_set_ne hij] at hj
    rw [List.getElem?_set_ne hij]
    exact h4 j d hj
theorem StOk.wipe (S : StOk c en O lf ρ dr σ H) : ∀ vs, StOk c en O lf (wipeD ρ vs) dr (L2.wipe σ vs) H
  | [] => S
  | v :: vs => (StOk.wipe S vs).wipe1 v
theorem wipe_ext {σ σ' : L2.St} : ∀ {vs : List Nat}, (∀ i, i ∉ vs → σ'[i]? = σ[i]?) → σ'.length = σ.length → L2.wipe σ' vs = L2.wipe σ vs := by
  intro vs h hl
  refine List.ext_getElem? fun i => ?_
  by_cases hi : i ∈ vs
  · have key : ∀ (τ : L2.St) (vs : List Nat), i ∈ vs → (L2.wipe τ vs)[i]? = if i < τ.length then some none else none := by
      intro τ vs
      induction vs with
      | nil => intro h; cases h
      | cons v vs ih =>
        intro h
        unfold L2.wipe
        by_cases e : v = i
        · subst e
          by_cases hlt : v < τ.length
          · rw [List.getElem?_set_self (by rw [L2.wipe_length]; exact hlt), if_pos hlt]
          · rw [if_neg hlt, List.getElem?_eq_none]
            rw [List.length_set, L2.wipe_length]; omega
        · rw [List.getElem?_set_ne e]
          exact ih ((List.mem_cons.mp h).resolve_left fun z => e z.symm)
    rw [key σ' vs hi, key σ vs hi, hl]
  · rw [L2.wipe_out hi, L2.wipe_out hi]
    exact h i hi
/-- a thing in hand is changed -/
theorem StOk.poke (S : StOk c en O (fx ++ lf) ρ dr σ H) {a : Addr} {o : HO} {fy : List Addr} (ha : a ∈ fx) (nd : fy.Nodup) (sb : ∀ b ∈ fy, b ∈ fx) : StOk c en O (fy ++ lf) ρ dr σ (upd H a o) := by
  obtain ⟨fps, h1, h2, h3, h4⟩ := S.slots
  have ha2 := h3 a (List.mem_append_left _ (List.mem_append_left _ ha))
  have nEa := ha2.2
  refine ⟨⟨fps, h1, ?_, fun b hb => h3 b ?_, fun j e hj => ?_⟩, S.len, fun b hb => ?_, S.sub, ⟨fun b ob q n => ?_, fun b q => ?_⟩, ?_, S.odr, S.edr, S.oe, S.ed2⟩
  · simp only [List.nodup_append, List.mem_append] at h2 ⊢
    obtain ⟨⟨n1, n2, n3⟩, n4, n5⟩ := h2
    exact ⟨⟨nd, n2, fun x hx y hy => n3 x (sb x hx) y hy⟩, n4, fun x hx y hy => n5 x (hx.imp (sb x) id) y hy⟩
  · rcases List.mem_append.mp hb with hb | hb
    · rcases List.mem_append.mp hb with hb | hb
      · exact List.mem_append_left _ (List.mem_append_left _ (sb b hb))
      · exact List.mem_append_left _ (List.mem_append_right _ hb)
    · exact List.mem_append_right _ hb
  · obtain ⟨u, fq, g1, g2, g3⟩ := h4 j e hj
    refine ⟨u, fq, g1, g2, g3.updO ha2.1 fun m => ?_⟩
    exact (List.nodup_append.mp h2).2.2 a (List.mem_append_left _ ha) a (List.mem_flatten.mpr ⟨fq, List.mem_of_getElem? g2, m⟩) rfl
  · by_cases hba : b = a
    · subst hba; rw [upd_same]; exact fun z => nomatch z
    · rw [upd_ne hba]; exact S.trk b hb
  · have hba : b ≠ a := by
      rintro rfl
      rw [nEa] at q; cases q
    rw [upd_ne hba]
    exact S.ext.keep b ob q n
  · by_cases hba : b = a
    · subst hba; rw [upd_same]; exact fun z => nomatch z
    · rw [upd_ne hba]; exact S.ext.trk b q
  · have dw := S.drw
    cases dr with
    | none => trivial
    | some s =>
      obtain ⟨p, hp, k1, k2, n⟩ := dw
      refine ⟨p, hp, ?_, ?_, n⟩
      · rw [upd_ne]
        · exact k1
        · rintro rfl
          exact S.edr p hp nEa
      · rw [upd_ne]
        · exact k2
        · rintro rfl
          exact S.ed2 p hp nEa
theorem orO_or {A B C : List Addr} (h : ∀ a, (a ∈ A ∨ a ∈ B) ↔ a ∈ C) : orO (orO O A) B = orO O C := funext fun a => propext ⟨fun z => z.elim (fun z => z.imp id fun m => (h a).mp (.inl m)) fun m => .inr ((h a).mp (.inr m)), fun z => z.elim (fun o => .inl (.inl o)) fun m => ((h a).mpr m).elim (fun q => .inl (.inr q)) .inr⟩
theorem StOk.shed (S : StOk c en O (fx ++ lf) ρ dr σ H) : StOk c en O lf ρ dr σ H := by
  obtain ⟨fps, h1, h2, h3, h4⟩ := S.slots
  refine ⟨⟨fps, h1, ?_, fun b hb => h3 b ?_, h4⟩, S.len, S.trk, S.sub, S.ext, S.drw, S.odr, S.edr, S.oe, S.ed2⟩
  · rw [List.append_assoc] at h2
    exact (List.nodup_append.mp h2).2.1
  · rw [List.append_assoc]
    exact List.mem_append_right _ hb
end

/-! ### tests -/
def cYes : CTx := fun _ dr => .ok true dr
structure BTs (X : Cx) (dra : Option (Addr × Addr)) (W : WX) (es : List Expr) (T : CTx) : Prop where
  pt : PTs X es (tT (dc X dra) W T)
section
variable {X : Cx} {dra : Option (Addr × Addr)} {W : WX}
theorem bts_nil : BTs X dra W [] cYes := ⟨⟨fun pins s σ H Q I ⟨en, O, lf, ρ, dr, S, w⟩ => pts_nil.run pins s σ H Q I (show Q true H from w H Ext.refl S.drw)⟩⟩
theorem bts_one {e : Expr} {T : CTx} (h : BT X dra W e T) : BTs X dra W [e] T := ⟨pts_one h.pt⟩
end

/-! ### [elt for target in iter if test] -/
def W0 : WX := fun _ _ _ _ => False
/-- nothing is let out of the block -/
def noEx {α : Type} (r : R α) : R α := match r with
  | .ex _ _ => .st
  | r => r
theorem Wp.noEx {α : Type} {r : R α} {ok : α → Dr → Prop} {ex ex' : Exn → Dr → Prop} (h : Wp (noEx r) ok ex) : Wp r ok ex' := by
  cases r with
  | st => exact h
  | ok a d => exact h
  | ex e d => exact h.elim
def lcA (G : CGx) (T : CTx) (F : CEx) (ρ : Rho) : List D → List D → Dr → R (List D)
  | [], acc, dr => .ok acc dr
  | x :: xs, acc, dr => match G ρ x with
    | none => .st
    | some ρ1 => (noEx (T ρ1 dr)).bind fun b dr => if b = true then (noEx (F ρ1 dr)).bind fun d dr => (if acc.length < sizeLine then lcA G T F ρ xs (acc ++ [d]) dr else .st) else lcA G T F ρ xs acc dr
def rLst (acc : List D) (dr : Dr) : R D := .ok (.lst true acc) dr
def cLc (vs : List Nat) (I : CI) (G : CGx) (T : CTx) (F : CEx) : CEx := fun ρ dr => (I ρ dr).bind fun xs dr => (lcA G T F (wipeD ρ vs) xs [] dr).bind rLst
/-- what is true of the list under way at L -/
structure Lci (c : DC) (en : En) (O : Addr → Prop) (lf : List Addr) (ρ : Rho) (dr : Dr) (σ : L2.St) (H1 H : Hp) (L : Addr) (acc : List D) (fq : List Addr) (vs : List V) : Prop where
  st : StOk c en (orO O (L :: fq)) ((L :: fq) ++ lf) ρ dr σ H
  hL : H L = some (.lst vs)
  rs : Rps c (orO O (L :: fq)) H vs acc fq
  nd : (L :: fq).Nodup
  fr : ∀ a ∈ L :: fq, H1 a = none
  ext : Ext c H1 H
section
variable {c : DC} {en : En} {O : Addr → Prop} {lf fq : List Addr} {vs : List V} {ρ : Rho} {dr dr' : Dr} {σ : L2.St} {H1 H H' : Hp} {L : Addr} {acc : List D}
theorem Lci.start (S : StOk c en O lf ρ dr σ H1) (hD : H1 L = none) : Lci c en O lf ρ dr σ H1 (upd H1 L (.lst [])) L [] [] [] := by
  have sm := same_upd (o := HO.lst []) hD
  refine ⟨S.hold (.of_same sm) (S.drw.same sm) (by simp) (fun a ha => ?_) (fun a ha => ?_), upd_same, .nil, by simp, fun a ha => ?_, .of_same sm⟩
  · rw [List.mem_singleton.mp ha]; exact hD
  · rw [List.mem_singleton.mp ha, upd_same]; exact fun z => nomatch z
  · rw [List.mem_singleton.mp ha]; exact hD
theorem Lci.out (l : Lci c en O lf ρ dr σ H1 H L acc fq vs) : ∀ p, c.dra = some p → p.1 ∉ L :: fq := fun p hp m => l.st.edr p hp (by
  obtain ⟨fps, _, _, h3, _⟩ := l.st.slots
  exact (h3 _ (List.mem_append_left _ (List.mem_append_left _ m))).2)
theorem Lci.step (l : Lci c en O lf ρ dr σ H1 H L acc fq vs) (x : Ext c H H') (dw : DrOk c dr' H') : Lci c en O lf ρ dr' σ H1 H' L acc fq vs :=
  ⟨l.st.step x dw, x.keep _ _ l.hL fun p hp z => l.out p hp (z ▸ List.mem_cons_self), l.rs.ext x l.st.odr fun p hp m => l.out p hp (List.mem_cons_of_mem _ m), l.nd, l.fr, l.ext.trans x⟩
/-- an item more -/
theorem Lci.app {d : D} {u : V} {fy : List Addr} (l : Lci c en O lf ρ dr σ H1 H L acc fq vs) (x : Ext c H H') (dw : DrOk c dr' H') (r : Rp c (orO (orO O (L :: fq)) fy) H' u d fy) (nd : fy.Nodup) (fr : ∀ a ∈ fy, H a = none) :
    H' L = some (.lst vs) ∧ vs.length = acc.length ∧ Lci c en O lf ρ dr' σ H1 (upd H' L (.lst (vs ++ [u]))) L (acc ++ [d]) (fq ++ fy) (vs ++ [u]) := by
  have l2 := l.step x dw
  have nL : L ∉ fq := (List.nodup_cons.mp l.nd).1
  have nfy : ∀ a ∈ fy, a ∉ L :: fq := fun a ha m => l.st.trk a (.inr m) (fr a ha)
  have nLy : L ∉ fy := fun m => nfy L m List.mem_cons_self
  have e1 : orO (orO O (L :: fq)) fy = orO O (L :: (fq ++ fy)) := orO_or fun a => by simp only [List.mem_cons, List.mem_append]; exact or_assoc
  have S1 := l.st.hold x dw nd fr (r.trk d)
  rw [e1] at S1 r
  rw [← List.append_assoc] at S1
  have ndn : (L :: (fq ++ fy)).Nodup := by
    refine List.nodup_cons.mpr ⟨fun m => (List.mem_append.mp m).elim nL nLy, ?_⟩
    rw [List.nodup_append]
    exact ⟨(List.nodup_cons.mp l.nd).2, nd, fun a ha b hb e => nfy b hb (e ▸ List.mem_cons_of_mem _ ha)⟩
  have S2 := S1.poke (o := .lst (vs ++ [u])) (fy := L :: (fq ++ fy)) (a := L) (List.mem_append_right _ List.mem_cons_self) ndn (fun b hb => by
    rcases List.mem_cons.mp hb with z | z
    · exact List.mem_append_right _ (z ▸ List.mem_cons_self)
    · exact (List.mem_append.mp z).elim (fun z => List.mem_append_right _ (List.mem_cons_of_mem _ z)) fun z => List.mem_append_left _ z)
  have oL : orO O (L :: (fq ++ fy)) L := .inr List.mem_cons_self
  have fre : ∀ a ∈ L :: (fq ++ fy), H1 a = none := fun a ha => by
    rcases List.mem_cons.mp ha with z | z
    · exact l.fr a (z ▸ List.mem_cons_self)
    · exact (List.mem_append.mp z).elim (fun z => l.fr a (List.mem_cons_of_mem _ z)) fun z => l.ext.un (fr a z)
  have rs0 : Rps c (orO O (L :: (fq ++ fy))) H' vs acc fq := Rps.mono acc l.rs (fun a o q z => x.keep a o q fun p hp e => z.elim (fun k => k (by rw [e]; exact l.st.odr p hp)) fun k => l.out p hp (List.mem_cons_of_mem _ (e ▸ k))) fun a o q n z => z.elim (fun z => n (.inl z)) fun m => by
    rcases List.mem_cons.mp m with m | m
    · exact n (.inr (m ▸ List.mem_cons_self))
    · rcases List.mem_append.mp m with m | m
      · exact n (.inr (List.mem_cons_of_mem _ m))
      · rw [fr a m] at q; cases q
  have xx := l.ext.trans x
  refine ⟨l2.hL, l2.rs.len, S2, upd_same, (rs0.updO oL nL).append (by
    have q : Rps c (orO O (L :: (fq ++ fy))) (upd H' L (.lst (vs ++ [u]))) [u] [d] (fy ++ []) := .cons (r.updO oL nLy) .nil
    rw [List.append_nil] at q
    exact q), ndn, fre, ⟨fun b ob q n => ?_, fun b q => ?_⟩⟩
  · have hb : b ≠ L := by
      rintro rfl
      rw [l.fr b List.mem_cons_self] at q; cases q
    rw [upd_ne hb]
    exact xx.keep b ob q n
  · by_cases hb : b = L
    · subst hb; rw [upd_same]; exact fun z => nomatch z
    · rw [upd_ne hb]; exact xx.trk b q
theorem Lci.fin (l : Lci c en O lf ρ dr σ H1 H L acc fq vs) : Rp c (orO O (L :: fq)) H (.ref L) (.lst true acc) (L :: fq) ∧ (L :: fq).Nodup ∧ (∀ a ∈ L :: fq, H1 a = none) ∧ Ext c H1 H ∧ DrOk c dr H :=
  ⟨.own l.hL l.rs, l.nd, l.fr, l.ext, l.st.drw⟩
end
section
variable {X : Cx} {dra : Option (Addr × Addr)} {W : WX} {elt tg iter : Expr} {ifs : List Expr} {scope : Scope} {own : List (Str × Nat)} {pos : Pos} {I : CI} {G : CGx} {T : CTx} {F : CEx} {ts : List Nat}
/-- in the block of a clause, whatever its own things are -/
abbrev InBlk (X : Cx) (scope : Scope) (P : Cx → Prop) : Prop := ∀ (s : Shared) (H : Hp) (C : Addr) (cl : List (Str × Addr)) (fp : List Addr), P (X.blk s H scope (compEnvC scope cl C X.env) fp)
theorem imp_lc {σ : L2.St} {H : Hp} {Q : VK} {vs : List Nat} (hts : ∀ i ∈ ts, i ∈ vs) (h : tE (dc X dra) W (cLc vs I G T F) σ H Q) : tLc (tI (dc X dra) W I) (tgG (dc X dra) ts G) (tT (dc X dra) W0 T) (tE (dc X dra) W0 F) vs σ H Q := by
  obtain ⟨en, O, lf, ρ, dr, S, w⟩ := h
  refine ⟨en, O, lf, ρ, dr, S, (Wp.bind w).mono (fun xs dr1 w1 J H1 x1 dw1 ij => ?_) fun _ _ k => k⟩
  intro L hL
  have S1 := (S.step x1 dw1).wipe vs
  have w1 : Wp (lcA G T F (wipeD ρ vs) xs [] dr1) (fun acc dr => OkE (dc X dra) O H Q (.lst true acc) dr) (ExW (dc X dra) W σ H) := Wp.bind w1
  refine ⟨fun i m H2 => m = xs.length - i ∧ i ≤ xs.length ∧ ∃ acc fq us dr2, Lci (dc X dra) en O lf (wipeD ρ vs) dr2 (L2.wipe σ vs) H1 H2 L acc fq us ∧ Wp (lcA G T F (wipeD ρ vs) (xs.drop i) acc dr2) (fun acc dr => OkE (dc X dra) O H Q (.lst true acc) dr) (ExW (dc X dra) W σ H), ⟨xs.length, rfl, Nat.zero_le _, [], [], [], dr1, .start S1 hL, w1⟩, ?_⟩
  rintro i m H2 ⟨rfl, hi2, acc, fq, us, dr2, l, w2⟩
  have g2 : Grow (dc X dra) O H1 (orO O (L :: fq)) H2 := l.ext.growO S.odr l.fr
  obtain ⟨i1, i2⟩ := ij _ H2 g2 l.st.trk i
  by_cases hlt : i < xs.length
  · rw [List.drop_eq_getElem_cons hlt] at w2
    obtain ⟨go, yl⟩ := i1 _ (List.getElem?_eq_getElem hlt)
    refine .inr ⟨go, fun H3 => ∃ acc fq us dr2, Lci (dc X dra) en O lf (wipeD ρ vs) dr2 (L2.wipe σ vs) H1 H3 L acc fq us ∧ Wp (lcA G T F (wipeD ρ vs) (xs.drop (i + 1)) acc dr2) (fun acc dr => OkE (dc X dra) O H Q (.lst true acc) dr) (ExW (dc X dra) W σ H), fun H3 n3 => ⟨_, by omega, rfl, hlt, n3⟩, fun v H3 y => ?_⟩
    obtain ⟨sm, rv⟩ := yl v H3 y
    unfold lcA at w2
    cases eG : G (wipeD ρ vs) xs[i] with
    | none => rw [eG] at w2; exact w2.elim
    | some ρ1 =>
      rw [eG] at w2
      have l3 := l.step (.of_same sm) (l.st.drw.same sm)
      refine ⟨en, orO O (L :: fq), (L :: fq) ++ lf, wipeD ρ vs, dr2, xs[i], ρ1, l3.st, rv, eG, fun σ1 S3 off => ⟨?_, ?_⟩⟩
      · have e : ∀ j, j ∉ vs → σ1[j]? = σ[j]? := fun j hj => (off.2 j fun z => hj (hts j z)).trans (L2.wipe_out hj)
        exact wipe_ext e (off.1.trans (L2.wipe_length σ vs))
      · refine ⟨en, orO O (L :: fq), (L :: fq) ++ lf, ρ1, dr2, S3, (Wp.noEx (Wp.bind w2)).mono (fun b dr4 w4 H4 x4 dw4 => ?_) fun _ _ k => k⟩
        have l4 := l3.step x4 dw4
        cases b with
        | false => exact (show ∃ acc fq us dr2, Lci (dc X dra) en O lf (wipeD ρ vs) dr2 (L2.wipe σ vs) H1 H4 L acc fq us ∧ Wp (lcA G T F (wipeD ρ vs) (xs.drop (i + 1)) acc dr2) (fun acc dr => OkE (dc X dra) O H Q (.lst true acc) dr) (ExW (dc X dra) W σ H) from ⟨acc, fq, us, dr4, l4, w4⟩)
        | true =>
          show tE (dc X dra) W0 F σ1 H4 _
          have w4 : Wp ((noEx (F ρ1 dr4)).bind fun d dr => if acc.length < sizeLine then lcA G T F (wipeD ρ vs) (xs.drop (i + 1)) (acc ++ [d]) dr else .st) (fun acc dr => OkE (dc X dra) O H Q (.lst true acc) dr) (ExW (dc X dra) W σ H) := w4
          refine ⟨en, orO O (L :: fq), (L :: fq) ++ lf, ρ1, dr4, S3.step x4 dw4, (Wp.noEx (Wp.bind w4)).mono (fun d dr5 w5 u H5 fy x5 dw5 r5 nd5 fr5 => ?_) fun _ _ k => k⟩
          obtain ⟨q1, q2, l5⟩ := l4.app x5 dw5 r5 nd5 fr5
          by_cases hz : acc.length < sizeLine
          · rw [if_pos hz] at w5
            exact ⟨us, q1, by rw [q2]; exact hz, acc ++ [d], fq ++ fy, us ++ [u], dr5, l5, w5⟩
          · rw [if_neg hz] at w5; exact w5.elim
  · have e : i = xs.length := by omega
    rw [List.drop_eq_nil_of_le (by omega)] at w2
    obtain ⟨r, nd, fr, e, dw⟩ := l.fin
    have w2 : OkE (dc X dra) O H Q (.lst true acc) dr2 := w2
    exact .inl ⟨i2 (by omega), w2 (.ref L) H2 (L :: fq) (x1.trans e) dw r nd fun a ha => x1.un (fr a ha)⟩
theorem ee_lc (hc : X.calm = true) (hN : X.N.Nodup) (hi : BI X dra W tg iter I) (hok : blkC X.N X.env.scope scope own = true) (hg : InBlk X scope fun Y => BG Y dra tg ts G) (ht : InBlk X scope fun Y => BTs Y dra W0 ifs T) (he : InBlk X scope fun Y => EE Y dra W0 elt F) (hts : ∀ i ∈ ts, i ∈ own.map (·.2)) (hs : ∀ x, foldedSetIterable iter X.env x = pure x := by intro _; rfl) :
    EE X dra W (.ListComp elt [⟨tg, iter, ifs, 0⟩] scope pos) (cLc (own.map (·.2)) I G T F) :=
  ⟨wkE (pe_lc hc hN hi.pi (blkOk_by hok) (fun s H C cl fp => (hg s H C cl fp).pg) (fun s H C cl fp => (ht s H C cl fp).pt) (fun s H C cl fp => (he s H C cl fp).pe) hs) fun σ H Q h => imp_lc hts h⟩
/-- name = [..] on one line -/
theorem bs_setLc {i : Nat} {y : Str} {py : Pos} {spos : Pos} (hc : X.calm = true) (hN : X.N.Nodup) (hsw : swapsWith (.ListComp elt [⟨tg, iter, ifs, 0⟩] scope pos) (some (.Name y py)) spos.line X.env = pure true) (hi : BI X dra W tg iter I) (hok : blkC X.N X.env.scope scope own = true) (hg : InBlk X scope fun Y => BG Y dra tg ts G) (ht : InBlk X scope fun Y => BTs Y dra W0 ifs T) (he : InBlk X scope fun Y => EE Y dra W0 elt F) (hts : ∀ i ∈ ts, i ∈ own.map (·.2))
    (hy : X.N[i]? = some y := by rfl) (hyl : X.env.scope.names.lookup y = some .local := by rfl) (hs : ∀ x, foldedSetIterable iter X.env x = pure x := by intro _; rfl) :
    BS X dra W (.Assign [.Name y py] (.ListComp elt [⟨tg, iter, ifs, 0⟩] scope pos) spos) (cSet i (cLc (own.map (·.2)) I G T F)) :=
  ⟨wkS (ps_setLc hc hN hy hyl hsw hi.pi (blkOk_by hok) (fun s H C cl fp => (hg s H C cl fp).pg) (fun s H C cl fp => (ht s H C cl fp).pt) (fun s H C cl fp => (he s H C cl fp).pe) hs) fun De σ H h => imp_lc hts (imp_set h)⟩
theorem bs_setLcO {i : Nat} {y : Str} {py : Pos} {spos : Pos} (hc : X.calm = true) (hN : X.N.Nodup) (hsw : swapsWith (.ListComp elt [⟨tg, iter, ifs, 0⟩] scope pos) (some (.Name y py)) spos.line X.env = pure true) (hi : BI X dra W tg iter I) (hok : blkC X.N X.env.scope scope own = true) (hg : InBlk X scope fun Y => BG Y dra tg ts G) (ht : InBlk X scope fun Y => BTs Y dra W0 ifs T) (he : InBlk X scope fun Y => EE Y dra W0 elt F) (hts : ∀ i ∈ ts, i ∈ own.map (·.2))
    (hy : X.N[i]? = some y := by rfl) (hyl : X.env.scope.names.lookup y = some .local := by rfl) (hs : ∀ x, foldedSetIterable iter X.env x = pure x := by intro _; rfl) :
    BS X dra W (.Assign [.Name y py] (.ListComp elt [⟨tg, iter, ifs, 0⟩] scope pos) spos) (cSetO i (cLc (own.map (·.2)) I G T F)) :=
  ⟨wkS (ps_setLc hc hN hy hyl hsw hi.pi (blkOk_by hok) (fun s H C cl fp => (hg s H C cl fp).pg) (fun s H C cl fp => (ht s H C cl fp).pt) (fun s H C cl fp => (he s H C cl fp).pe) hs) fun De σ H h => imp_lc hts (imp_setO h)⟩
/-! ### two clauses -/
def lcB (vs1 : List Nat) (G : CGx) (T : CTx) (I1 : CI) (G1 : CGx) (T1 : CTx) (F : CEx) (ρ : Rho) : List D → List D → Dr → R (List D)
  | [], acc, dr => .ok acc dr
  | x :: xs, acc, dr => match G ρ x with
    | none => .st
    | some ρ1 => (noEx (T ρ1 dr)).bind fun b dr => if b = true then (noEx (I1 ρ1 dr)).bind fun ys dr => (lcA G1 T1 F (wipeD ρ1 vs1) ys acc dr).bind fun acc dr => lcB vs1 G T I1 G1 T1 F ρ xs acc dr else lcB vs1 G T I1 G1 T1 F ρ xs acc dr
def cLc2 (vs vs1 : List Nat) (I : CI) (G : CGx) (T : CTx) (I1 : CI) (G1 : CGx) (T1 : CTx) (F : CEx) : CEx := fun ρ dr => (I ρ dr).bind fun xs dr => (lcB vs1 G T I1 G1 T1 F (wipeD ρ vs) xs [] dr).bind rLst
variable {tg1 iter1 : Expr} {ifs1 : List Expr} {I1 : CI} {G1 : CGx} {T1 : CTx} {ts1 : List Nat}
theorem imp_lc2 {σ : L2.St} {H : Hp} {Q : VK} {vs vs1 : List Nat} (hts : ∀ i ∈ ts, i ∈ vs) (hts1 : ∀ i ∈ ts1, i ∈ vs1) (h : tE (dc X dra) W (cLc2 vs vs1 I G T I1 G1 T1 F) σ H Q) :
    tLc2 (tI (dc X dra) W I) (tgG (dc X dra) ts G) (tT (dc X dra) W0 T) (tI (dc X dra) W0 I1) (tgG (dc X dra) ts1 G1) (tT (dc X dra) W0 T1) (tE (dc X dra) W0 F) vs vs1 σ H Q := by
  obtain ⟨en, O, lf, ρ, dr, S, w⟩ := h
  refine ⟨en, O, lf, ρ, dr, S, (Wp.bind w).mono (fun xs dr1 w1 J H1 x1 dw1 ij => ?_) fun _ _ k => k⟩
  intro L hL
  have S1 := (S.step x1 dw1).wipe vs
  have w1 : Wp (lcB vs1 G T I1 G1 T1 F (wipeD ρ vs) xs [] dr1) (fun acc dr => OkE (dc X dra) O H Q (.lst true acc) dr) (ExW (dc X dra) W σ H) := Wp.bind w1
  refine ⟨fun i m H2 => m = xs.length - i ∧ i ≤ xs.length ∧ ∃ acc fq us dr2, Lci (dc X dra) en O lf (wipeD ρ vs) dr2 (L2.wipe σ vs) H1 H2 L acc fq us ∧ Wp (lcB vs1 G T I1 G1 T1 F (wipeD ρ vs) (xs.drop i) acc dr2) (fun acc dr => OkE (dc X dra) O H Q (.lst true acc) dr) (ExW (dc X dra) W σ H), ⟨xs.length, rfl, Nat.zero_le _, [], [], [], dr1, .start S1 hL, w1⟩, ?_⟩
  rintro i m H2 ⟨rfl, hi2, acc, fq, us, dr2, l, w2⟩
  have g2 : Grow (dc X dra) O H1 (orO O (L :: fq)) H2 := l.ext.growO S.odr l.fr
  obtain ⟨i1, i2⟩ := ij _ H2 g2 l.st.trk i
  by_cases hlt : i < xs.length
  · rw [List.drop_eq_getElem_cons hlt] at w2
    obtain ⟨go, yl⟩ := i1 _ (List.getElem?_eq_getElem hlt)
    refine .inr ⟨go, fun H3 => ∃ acc fq us dr2, Lci (dc X dra) en O lf (wipeD ρ vs) dr2 (L2.wipe σ vs) H1 H3 L acc fq us ∧ Wp (lcB vs1 G T I1 G1 T1 F (wipeD ρ vs) (xs.drop (i + 1)) acc dr2) (fun acc dr => OkE (dc X dra) O H Q (.lst true acc) dr) (ExW (dc X dra) W σ H), fun H3 n3 => ⟨_, by omega, rfl, hlt, n3⟩, fun v H3 y => ?_⟩
    obtain ⟨sm, rv⟩ := yl v H3 y
    unfold lcB at w2
    cases eG : G (wipeD ρ vs) xs[i] with
    | none => rw [eG] at w2; exact w2.elim
    | some ρ1 =>
      rw [eG] at w2
      have l3 := l.step (.of_same sm) (l.st.drw.same sm)
      refine ⟨en, orO O (L :: fq), (L :: fq) ++ lf, wipeD ρ vs, dr2, xs[i], ρ1, l3.st, rv, eG, fun σ1 S3 off => ⟨?_, ?_⟩⟩
      · have e : ∀ j, j ∉ vs → σ1[j]? = σ[j]? := fun j hj => (off.2 j fun z => hj (hts j z)).trans (L2.wipe_out hj)
        exact wipe_ext e (off.1.trans (L2.wipe_length σ vs))
      · refine ⟨en, orO O (L :: fq), (L :: fq) ++ lf, ρ1, dr2, S3, (Wp.noEx (Wp.bind w2)).mono (fun b dr4 w4 H4 x4 dw4 => ?_) fun _ _ k => k⟩
        have l4 := l3.step x4 dw4
        cases b with
        | false => exact (show ∃ acc fq us dr2, Lci (dc X dra) en O lf (wipeD ρ vs) dr2 (L2.wipe σ vs) H1 H4 L acc fq us ∧ Wp (lcB vs1 G T I1 G1 T1 F (wipeD ρ vs) (xs.drop (i + 1)) acc dr2) (fun acc dr => OkE (dc X dra) O H Q (.lst true acc) dr) (ExW (dc X dra) W σ H) from ⟨acc, fq, us, dr4, l4, w4⟩)
        | true =>
          show tI (dc X dra) W0 I1 σ1 H4 _
          have w4 : Wp ((noEx (I1 ρ1 dr4)).bind fun ys dr => (lcA G1 T1 F (wipeD ρ1 vs1) ys acc dr).bind fun acc dr => lcB vs1 G T I1 G1 T1 F (wipeD ρ vs) (xs.drop (i + 1)) acc dr) (fun acc dr => OkE (dc X dra) O H Q (.lst true acc) dr) (ExW (dc X dra) W σ H) := w4
          refine ⟨en, orO O (L :: fq), (L :: fq) ++ lf, ρ1, dr4, S3.step x4 dw4, (Wp.noEx (Wp.bind w4)).mono (fun ys dr5 w5 J1 H5 x5 dw5 ij1 => ?_) fun _ _ k => k⟩
          have l5 := l4.step x5 dw5
          have S5 : StOk (dc X dra) en (orO O (L :: fq)) ((L :: fq) ++ lf) (wipeD ρ1 vs1) dr5 (L2.wipe σ1 vs1) H5 := ((S3.step x4 dw4).step x5 dw5).wipe vs1
          have l5' : Lci (dc X dra) en O lf (wipeD ρ1 vs1) dr5 (L2.wipe σ1 vs1) H1 H5 L acc fq us := ⟨S5, l5.hL, l5.rs, l5.nd, l5.fr, l5.ext⟩
          have w5 := Wp.bind w5
          obtain ⟨fqs, hfqs⟩ : ∃ f, f = fq := ⟨_, rfl⟩
          refine ⟨fun j k H6 => k = ys.length - j ∧ j ≤ ys.length ∧ ∃ acc fq us dr6, Lci (dc X dra) en O lf (wipeD ρ vs) dr6 (L2.wipe σ vs) H1 H6 L acc fq us ∧ Lci (dc X dra) en O lf (wipeD ρ1 vs1) dr6 (L2.wipe σ1 vs1) H1 H6 L acc fq us ∧ Grow (dc X dra) (orO O (L :: fqs)) H5 (orO O (L :: fq)) H6 ∧ Wp (lcA G1 T1 F (wipeD ρ1 vs1) (ys.drop j) acc dr6) (fun acc dr => Wp (lcB vs1 G T I1 G1 T1 F (wipeD ρ vs) (xs.drop (i + 1)) acc dr) (fun acc dr => OkE (dc X dra) O H Q (.lst true acc) dr) (ExW (dc X dra) W σ H)) (ExW (dc X dra) W σ H), ⟨ys.length, rfl, Nat.zero_le _, acc, fq, us, dr5, l5, l5', hfqs ▸ .refl, w5⟩, ?_⟩
          rintro j k H6 ⟨rfl, hj2, acc6, fq6, us6, dr6, l6, m6, g6, w6⟩
          subst hfqs
          obtain ⟨j1, j2⟩ := ij1 _ H6 g6 l6.st.trk j
          by_cases hlt1 : j < ys.length
          · rw [List.drop_eq_getElem_cons hlt1] at w6
            obtain ⟨go1, yl1⟩ := j1 _ (List.getElem?_eq_getElem hlt1)
            refine .inr ⟨go1, fun H7 => ∃ acc fq us dr6, Lci (dc X dra) en O lf (wipeD ρ vs) dr6 (L2.wipe σ vs) H1 H7 L acc fq us ∧ Lci (dc X dra) en O lf (wipeD ρ1 vs1) dr6 (L2.wipe σ1 vs1) H1 H7 L acc fq us ∧ Grow (dc X dra) (orO O (L :: fqs)) H5 (orO O (L :: fq)) H7 ∧ Wp (lcA G1 T1 F (wipeD ρ1 vs1) (ys.drop (j + 1)) acc dr6) (fun acc dr => Wp (lcB vs1 G T I1 G1 T1 F (wipeD ρ vs) (xs.drop (i + 1)) acc dr) (fun acc dr => OkE (dc X dra) O H Q (.lst true acc) dr) (ExW (dc X dra) W σ H)) (ExW (dc X dra) W σ H), fun H7 n7 => ⟨_, by omega, rfl, hlt1, n7⟩, fun v7 H7 y7 => ?_⟩
            obtain ⟨sm7, rv7⟩ := yl1 v7 H7 y7
            unfold lcA at w6
            cases eG1 : G1 (wipeD ρ1 vs1) ys[j] with
            | none => rw [eG1] at w6; exact w6.elim
            | some ρ7 =>
              rw [eG1] at w6
              have x7 : Ext (dc X dra) H6 H7 := .of_same sm7
              have l7 := l6.step x7 (l6.st.drw.same sm7)
              have m7 := m6.step x7 (l6.st.drw.same sm7)
              refine ⟨en, orO O (L :: fq6), (L :: fq6) ++ lf, wipeD ρ1 vs1, dr6, ys[j], ρ7, m7.st, rv7, eG1, fun σ7 S7 off7 => ⟨?_, ?_⟩⟩
              · have e : ∀ j, j ∉ vs1 → σ7[j]? = σ1[j]? := fun j hj => (off7.2 j fun z => hj (hts1 j z)).trans (L2.wipe_out hj)
                exact wipe_ext e (off7.1.trans (L2.wipe_length σ1 vs1))
              · refine ⟨en, orO O (L :: fq6), (L :: fq6) ++ lf, ρ7, dr6, S7, (Wp.noEx (Wp.bind w6)).mono (fun b dr8 w8 H8 x8 dw8 => ?_) fun _ _ k => k⟩
                have l8 := l7.step x8 dw8
                have m8 := m7.step x8 dw8
                have g8 : Grow (dc X dra) (orO O (L :: fqs)) H5 (orO O (L :: fq6)) H8 := (g6.trans (x7.grow l6.st.odr)).trans (x8.grow l6.st.odr)
                cases b with
                | false => exact (show ∃ acc fq us dr6, Lci (dc X dra) en O lf (wipeD ρ vs) dr6 (L2.wipe σ vs) H1 H8 L acc fq us ∧ Lci (dc X dra) en O lf (wipeD ρ1 vs1) dr6 (L2.wipe σ1 vs1) H1 H8 L acc fq us ∧ Grow (dc X dra) (orO O (L :: fqs)) H5 (orO O (L :: fq)) H8 ∧ Wp (lcA G1 T1 F (wipeD ρ1 vs1) (ys.drop (j + 1)) acc dr6) (fun acc dr => Wp (lcB vs1 G T I1 G1 T1 F (wipeD ρ vs) (xs.drop (i + 1)) acc dr) (fun acc dr => OkE (dc X dra) O H Q (.lst true acc) dr) (ExW (dc X dra) W σ H)) (ExW (dc X dra) W σ H) from ⟨acc6, fq6, us6, dr8, l8, m8, g8, w8⟩)
                | true =>
                  show tE (dc X dra) W0 F σ7 H8 _
                  have w8 : Wp ((noEx (F ρ7 dr8)).bind fun d dr => if acc6.length < sizeLine then lcA G1 T1 F (wipeD ρ1 vs1) (ys.drop (j + 1)) (acc6 ++ [d]) dr else .st) (fun acc dr => Wp (lcB vs1 G T I1 G1 T1 F (wipeD ρ vs) (xs.drop (i + 1)) acc dr) (fun acc dr => OkE (dc X dra) O H Q (.lst true acc) dr) (ExW (dc X dra) W σ H)) (ExW (dc X dra) W σ H) := w8
                  refine ⟨en, orO O (L :: fq6), (L :: fq6) ++ lf, ρ7, dr8, S7.step x8 dw8, (Wp.noEx (Wp.bind w8)).mono (fun d dr9 w9 u H9 fy x9 dw9 r9 nd9 fr9 => ?_) fun _ _ k => k⟩
                  obtain ⟨q1, q2, l9⟩ := l8.app x9 dw9 r9 nd9 fr9
                  obtain ⟨_, _, m9⟩ := m8.app x9 dw9 r9 nd9 fr9
                  by_cases hz : acc6.length < sizeLine
                  · rw [if_pos hz] at w9
                    refine ⟨us6, q1, by rw [q2]; exact hz, acc6 ++ [d], fq6 ++ fy, us6 ++ [u], dr9, l9, m9, g8.trans ⟨fun a o q n => ?_, fun a z => ?_, fun a q => ?_⟩, w9⟩
                    · have hb : a ≠ L := by
                        rintro rfl
                        exact n (.inr List.mem_cons_self)
                      rw [upd_ne hb]
                      exact x9.keep a o q fun p hp e => n (e ▸ l6.st.odr p hp)
                    · rcases z with z | z
                      · exact .inl (.inl z)
                      · rcases List.mem_cons.mp z with z | z
                        · exact .inl (.inr (z ▸ List.mem_cons_self))
                        · rcases List.mem_append.mp z with z | z
                          · exact .inl (.inr (List.mem_cons_of_mem _ z))
                          · exact .inr (fr9 a z)
                    · by_cases hb : a = L
                      · subst hb; rw [upd_same]; exact fun z => nomatch z
                      · rw [upd_ne hb]; exact x9.trk a q
                  · rw [if_neg hz] at w9; exact w9.elim
          · have e : j = ys.length := by omega
            rw [List.drop_eq_nil_of_le (by omega)] at w6
            exact .inl ⟨j2 (by omega), acc6, fq6, us6, dr6, l6, w6⟩
  · have e : i = xs.length := by omega
    rw [List.drop_eq_nil_of_le (by omega)] at w2
    obtain ⟨r, nd, fr, e, dw⟩ := l.fin
    have w2 : OkE (dc X dra) O H Q (.lst true acc) dr2 := w2
    exact .inl ⟨i2 (by omega), w2 (.ref L) H2 (L :: fq) (x1.trans e) dw r nd fun a ha => x1.un (fr a ha)⟩
theorem ee_lc2 {vs1 : List Nat} (hc : X.calm = true) (hN : X.N.Nodup) (hi : BI X dra W tg iter I) (hok : blkC X.N X.env.scope scope own = true) (hv : ∀ i ∈ vs1, i ∈ own.map (·.2)) (hg : InBlk X scope fun Y => BG Y dra tg ts G) (ht : InBlk X scope fun Y => BTs Y dra W0 ifs T)
    (hi1 : InBlk X scope fun Y => BI Y dra W0 tg1 iter1 I1) (hg1 : InBlk X scope fun Y => BG Y dra tg1 ts1 G1) (ht1 : InBlk X scope fun Y => BTs Y dra W0 ifs1 T1) (he : InBlk X scope fun Y => EE Y dra W0 elt F) (hts : ∀ i ∈ ts, i ∈ own.map (·.2)) (hts1 : ∀ i ∈ ts1, i ∈ vs1) (hs : ∀ x, foldedSetIterable iter X.env x = pure x := by intro _; rfl) (hs1 : ∀ env x, foldedSetIterable iter1 env x = pure x := by intro _ _; rfl) :
    EE X dra W (.ListComp elt [⟨tg, iter, ifs, 0⟩, ⟨tg1, iter1, ifs1, 0⟩] scope pos) (cLc2 (own.map (·.2)) vs1 I G T I1 G1 T1 F) :=
  ⟨wkE (pe_lc2 hc hN hi.pi (blkOk_by hok) hv (fun s H C cl fp => (hg s H C cl fp).pg) (fun s H C cl fp => (ht s H C cl fp).pt) (fun s H C cl fp => (hi1 s H C cl fp).pi) (fun s H C cl fp => (hg1 s H C cl fp).pg) (fun s H C cl fp => (ht1 s H C cl fp).pt) (fun s H C cl fp => (he s H C cl fp).pe) hs hs1) fun σ H Q h => imp_lc2 hts hts1 h⟩
theorem bs_setLc2 {vs1 : List Nat} {i : Nat} {y : Str} {py : Pos} {spos : Pos} (hc : X.calm = true) (hN : X.N.Nodup) (hsw : swapsWith (.ListComp elt [⟨tg, iter, ifs, 0⟩, ⟨tg1, iter1, ifs1, 0⟩] scope pos) (some (.Name y py)) spos.line X.env = pure true) (hi : BI X dra W tg iter I) (hok : blkC X.N X.env.scope scope own = true) (hv : ∀ i ∈ vs1, i ∈ own.map (·.2)) (hg : InBlk X scope fun Y => BG Y dra tg ts G) (ht : InBlk X scope fun Y => BTs Y dra W0 ifs T)
    (hi1 : InBlk X scope fun Y => BI Y dra W0 tg1 iter1 I1) (hg1 : InBlk X scope fun Y => BG Y dra tg1 ts1 G1) (ht1 : InBlk X scope fun Y => BTs Y dra W0 ifs1 T1) (he : InBlk X scope fun Y => EE Y dra W0 elt F) (hts : ∀ i ∈ ts, i ∈ own.map (·.2)) (hts1 : ∀ i ∈ ts1, i ∈ vs1)
    (hy : X.N[i]? = some y := by rfl) (hyl : X.env.scope.names.lookup y = some .local := by rfl) (hs : ∀ x, foldedSetIterable iter X.env x = pure x := by intro _; rfl) (hs1 : ∀ env x, foldedSetIterable iter1 env x = pure x := by intro _ _; rfl) :
    BS X dra W (.Assign [.Name y py] (.ListComp elt [⟨tg, iter, ifs, 0⟩, ⟨tg1, iter1, ifs1, 0⟩] scope pos) spos) (cSet i (cLc2 (own.map (·.2)) vs1 I G T I1 G1 T1 F)) :=
  ⟨wkS (ps_setLc2 hc hN hy hyl hsw hi.pi (blkOk_by hok) hv (fun s H C cl fp => (hg s H C cl fp).pg) (fun s H C cl fp => (ht s H C cl fp).pt) (fun s H C cl fp => (hi1 s H C cl fp).pi) (fun s H C cl fp => (hg1 s H C cl fp).pg) (fun s H C cl fp => (ht1 s H C cl fp).pt) (fun s H C cl fp => (he s H C cl fp).pe) hs hs1) fun De σ H h => imp_lc2 hts hts1 (imp_set h)⟩
end
end DL
/-! DL12 -/
/-! DL12: defs, calls, errors. -/
namespace DL
open PySem PySem.Spec PyProof.Rows L2

abbrev CF := List D → Dr → R D
/-- the promise of a def of n parameters that comes to F -/
def spD (K : PySem.W.Frag) (mg : Str → Option Value) (n : Nat) (F : CF) : Sp := fun vs H Q E => vs.length = n ∧
  ∃ (dra : Option (Addr × Addr)) (O : Addr → Prop) (ds : List D) (dr : Dr), (∀ a, O a → H a ≠ none) ∧ (∀ p, dra = some p → O p.1 ∧ H p.2 ≠ none) ∧ DrOk ⟨K, mg, dra⟩ dr H ∧ Rps ⟨K, mg, dra⟩ O H vs ds [] ∧
    Wp (F ds dr) (OkE ⟨K, mg, dra⟩ O H Q) (fun e dr' => ∀ cls od H', Ext ⟨K, mg, dra⟩ H H' → DrOk ⟨K, mg, dra⟩ dr' H' → ExOk ⟨K, mg, dra⟩ e cls od H' → E cls od H')
/-- a body with n slots -/
def fnD (n : Nat) (S : CSx) : CF := fun ds dr => match S (ds.map some ++ List.replicate (n - ds.length) none) dr with
  | .nx _ dr => .ok .non dr
  | .rt d dr => .ok d dr
  | .ex e _ dr => .ex e dr
  | _ => .st
structure HasFn (P : Program) (w : World) (K : PySem.W.Frag) (mg : Str → Option Value) (base : Heap) (k : Nat) (x : Str) (n : Nat) (F : CF) : Prop where
  ex : ∃ (f : Addr) (fd : FuncData) (ps : List Str), FnOk P w K mg base (L2.CX P w) k f fd ps (spD K mg n F) ∧ mg x = some (.ref f) ∧ PySem.W.keepIn K (.ref f) = true ∧ Binds K fd ps []
theorem HasFn.mono {P : Program} {w : World} {K : PySem.W.Frag} {mg : Str → Option Value} {base : Heap} {j k : Nat} {x : Str} {n : Nat} {F : CF} (h : HasFn P w K mg base j x n F) (hk : j ≤ k) : HasFn P w K mg base k x n F := by
  obtain ⟨f, fd, ps, F1, h1, h2, h3⟩ := h.ex
  exact ⟨f, fd, ps, F1.mono hk, h1, h2, h3⟩
theorem rps_start {c : DC} {O : Addr → Prop} {H : Hp} {vs : List V} {ds : List D} (r : Rps c O H vs ds []) (n : Nat) (i : Nat) (d : D) (h : (ds.map some ++ List.replicate (n - ds.length) none)[i]? = some (some d)) :
    ∃ v, (vs.map some ++ List.replicate (n - vs.length) none)[i]? = some (some v) ∧ Rp c O H v d [] := by
  by_cases hi : i < ds.length
  · rw [List.getElem?_append_left (by simpa using hi), List.getElem?_map] at h
    obtain ⟨d', e1, e2⟩ := Option.map_eq_some_iff.mp h
    cases e2
    obtain ⟨v, e3, r1⟩ := r.at0 e1
    refine ⟨v, ?_, r1⟩
    rw [List.getElem?_append_left (by rw [List.length_map, r.len]; exact hi), List.getElem?_map, e3]
    rfl
  · rw [List.getElem?_append_right (by simpa using hi)] at h
    have := List.mem_of_getElem? h
    have := List.eq_of_mem_replicate this
    cases this
/-- a def whose body reads so -/
theorem has_fn {P : Program} {w : World} {K : PySem.W.Frag} {mg : Str → Option Value} {base : Heap} {x qual : Str} {st : Stmt} {f : Addr} {fd : FuncData} {N ps : List Str} {k n : Nat} {B : CSx} (Fu : Fun K x qual st f fd) (gF : mg x = some (.ref f)) (bF : Binds K fd ps []) (S : FnScope N ps (defScope st)) (hn : ps.length = n) 
    (hb : ∀ (dra : Option (Addr × Addr)) (cdv : Value) (A : Around) (outer : List Env) (s : Shared) (H : Hp) (E : XK), Room k (A.deeper (envOfC qual (defScope st) s.heap.objs.size f cdv)) →
      BSs (cxOf (L2.CX P w) P w K mg base N qual (defScope st) f cdv A outer s H E) dra (fun cls d _ H => E cls d H) (defBody st) B) : HasFn P w K mg base (k + 1) x n (fnD N.length B) := by
  refine ⟨f, fd, ps, Fu.okX S (fun vs H Q E h => h.1.trans hn.symm) (fun cdv A outer s H vs Q E hr h => ?_), gF, Fu.kp, bF⟩
  obtain ⟨hl, dra, O, ds, dr, tr, hp, dw, r, w1⟩ := h
  refine ⟨_, (hb dra cdv A outer s H E hr).ps, ⟨H, O⟩, O, ds.map some ++ List.replicate (N.length - ds.length) none, dr, ?_, ?_⟩
  · refine ⟨⟨List.replicate (ds.map some ++ List.replicate (N.length - ds.length) none).length [], by rw [List.length_replicate], ?_, fun a ha => ?_, fun i d hi => ?_⟩, ?_, tr, fun _ h => h, Ext.refl, dw, fun p e => (hp p e).1, fun p e => tr _ (hp p e).1, tr, fun p e => (hp p e).2⟩
    · have : (List.replicate (ds.map some ++ List.replicate (N.length - ds.length) (none : Option D)).length ([] : List Addr)).flatten = [] := by simp
      rw [this]; exact List.nodup_nil
    · exfalso
      simp at ha
    · obtain ⟨v, e, r1⟩ := rps_start r N.length i d hi
      refine ⟨v, [], e, ?_, r1⟩
      rw [List.getElem?_replicate, if_pos (List.getElem?_eq_some_iff.mp hi).1]
    · unfold L2.start
      rw [List.length_append, List.length_append, List.length_map, List.length_map, List.length_replicate, List.length_replicate, r.len]
  · unfold fnD at w1
    cases eB : B (ds.map some ++ List.replicate (N.length - ds.length) none) dr with
    | st => rw [eB] at w1; exact w1
    | nx ρ' dr' =>
      rw [eB] at w1
      have w1 : OkE ⟨K, mg, dra⟩ O H Q .non dr' := w1
      exact fun σ' H' O' S' g => w1 .non H' [] S'.ext S'.drw .non List.nodup_nil fun _ z => nomatch z
    | rt d dr' =>
      rw [eB] at w1
      have w1 : OkE ⟨K, mg, dra⟩ O H Q d dr' := w1
      exact fun v H' fp x dw r nd fr => w1 v H' fp x dw r nd fr
    | bk ρ' dr' => rw [eB] at w1; exact w1.elim
    | ct ρ' dr' => rw [eB] at w1; exact w1.elim
    | ex e ρ' dr' =>
      rw [eB] at w1
      exact fun cls od σ' H' O' S' g ex => w1 cls od H' S'.ext S'.drw ex
theorem Rps.fzs {c : DC} {O : Addr → Prop} {H : Hp} {vs : List V} {ds : List D} {fp : List Addr} (r : Rps c O H vs ds fp) (n : ∀ a ∈ fp, ¬ O a) : Rps c O H vs (D.fzs ds) [] := Rps.fz ds r n
/-! ### calls -/
def cCall (F : CF) (A : CAx) : CEx := fun ρ dr => (A ρ dr).bind fun ds dr => F (D.fzs ds) dr
section
variable {X : Cx} {dra : Option (Addr × Addr)} {W : WX} {e fe : Expr} {es : List Expr} {A : CAx} {F : CF} {x : Str} {n k : Nat} {p pos : Pos}
theorem imp_call {σ : L2.St} {H : Hp} {Q : VK} (hl : es.length = n) (hA : ∀ ρ dr ds dr', A ρ dr = .ok ds dr' → ds.length = n) (h : tE (dc X dra) W (cCall F A) σ H Q) : tCallS (spD X.K X.mg n F) (WE W) (tA (dc X dra) W A) σ H Q := by
  obtain ⟨en, O, lf, ρ, dr, S, w⟩ := h
  refine ⟨en, O, lf, ρ, dr, S, ?_⟩
  have w := Wp.bind w
  cases eA : A ρ dr with
  | st => rw [eA] at w; exact w
  | ex e dr' => rw [eA] at w; exact w
  | ok ds dr' =>
    rw [eA] at w
    intro vs H' fp x dw r nd fr
    have w : Wp (F (D.fzs ds) dr') (OkE (dc X dra) O H Q) (ExW (dc X dra) W σ H) := w
    refine ⟨r.len.trans (hA _ _ _ _ eA), dra, O, D.fzs ds, dr', fun a ha => x.trk a (S.trk a ha), fun p e => ⟨S.odr p e, x.trk _ (S.ext.trk _ (S.ed2 p e))⟩, dw, r.orl.fzs fun a ha z => S.trk a z (fr a ha), w.mono (fun _ _ k => k.later x) fun e dr2 k cls od H2 x2 dw2 ex => k cls od H2 (x.trans x2) dw2 ex⟩
end
/-- it gives as many as are asked -/
def ALen (n : Nat) (A : CAx) : Prop := ∀ ρ dr ds dr', A ρ dr = .ok ds dr' → ds.length = n
theorem alen_nil : ALen 0 cNil := fun ρ dr ds dr' h => by
  cases h; rfl
theorem alen_cons {n : Nat} {F : CEx} {A : CAx} (h : ALen n A) : ALen (n + 1) (cCons F A) := fun ρ dr ds dr' e => by
  unfold cCons at e
  cases e1 : F ρ dr with
  | st => rw [e1] at e; cases e
  | ex _ _ => rw [e1] at e; cases e
  | ok d dr1 =>
    rw [e1] at e
    have e : (A ρ dr1).bind (fun xs dr => R.ok (d :: xs) dr) = .ok ds dr' := e
    cases e2 : A ρ dr1 with
    | st => rw [e2] at e; cases e
    | ex _ _ => rw [e2] at e; cases e
    | ok xs dr2 =>
      rw [e2] at e
      cases e
      rw [List.length_cons, h _ _ _ _ e2]
section
variable {X : Cx} {dra : Option (Addr × Addr)} {W : WX} {e fe : Expr} {es : List Expr} {A : CAx} {F : CF} {x : Str} {n k : Nat} {p pos : Pos}
theorem ee_call (hF : HasFn X.prog X.w X.K X.mg X.base k x n F) (hr : Room k X.A) (tk : Takes X W) (ha : EA X dra W (e :: es) A) (hl : (e :: es).length = n) (hA : ALen n A) (hg : Gl X x := by rfl) (hdb : (x == ("__debug__" : Str)) = false := by decide)
    (he : starEach (e :: es) X.env = (false, eval e X.env) :: starEach es X.env := by rfl) (hpl : (backTo pos (starEach es X.env)).any (·.1) = false := by rfl) : EE X dra W (.Call (.Name x p) (e :: es) [] pos) (cCall F A) := by
  obtain ⟨f, fd, ps, F1, h1, h2, h3⟩ := hF.ex
  exact ⟨wkE (pe_callS F1 hr hg h1 h2 h3 (fun σ => passAt tk σ) ha.pa hdb he hpl) fun σ H Q h => imp_call hl hA h⟩
end
end DL
/-! DL13 -/
/-! DL13: op=, stores within a list's list, stores side by side, xs[::-1]. -/
namespace DL
open PySem PySem.Spec PyProof.Rows L2

section
variable {X : Cx}
theorem ip_of {op : Operator} {r : R2} (h : ∀ (pins : List (Addr × Obj)) (s : Shared) (σ : L2.St) (H : Hp) (x y : V) (v u : Value) (Q : VK), Inv X pins σ H s → RelV x v → RelV y u → r x y H Q → wpAny (model X.prog X.w) X.A (inplaceOp op v u) (EP X pins σ Q) X.xe s) : PIp X op r := h
theorem ip_mulW : PIp X .Mult (rI CMulW fun i j => .int (i * j)) := by
  intro pins s σ H x y v u Q I r1 r2 h
  obtain ⟨i, j, e1, e2, hc, q⟩ := h
  subst e1; subst e2
  obtain ⟨t, rfl⟩ := r1
  obtain ⟨t', rfl⟩ := r2
  exact imul_int ⟨.int _, H, I.tok _, ⟨_, rfl⟩, q⟩ hc.ok
theorem ip_addI : PIp X .Add (rI0 fun i j => .int (i + j)) := by
  intro pins s σ H x y v u Q I r1 r2 h
  obtain ⟨i, j, e1, e2, q⟩ := h
  subst e1; subst e2
  obtain ⟨t, rfl⟩ := r1
  obtain ⟨t', rfl⟩ := r2
  exact iadd_int ⟨.int _, H, I.tok _, ⟨_, rfl⟩, q⟩
theorem ip_subI : PIp X .Sub (rI0 fun i j => .int (i - j)) := by
  intro pins s σ H x y v u Q I r1 r2 h
  obtain ⟨i, j, e1, e2, q⟩ := h
  subst e1; subst e2
  obtain ⟨t, rfl⟩ := r1
  obtain ⟨t', rfl⟩ := r2
  exact isub_int ⟨.int _, H, I.tok _, ⟨_, rfl⟩, q⟩
end
section
variable {X : Cx} {dra : Option (Addr × Addr)} {W : WX} {e a b d : Expr} {F G J K : CEx} {pos p : Pos}
/-- name op= e -/
theorem imp_aug {σ : L2.St} {H : Hp} {De : Ends} {i : Nat} {r : R2} {g : D → D → Option D} (hg : OpD X dra r g) (h : tSt (dc X dra) W (cSet i (cBin g (cVar i) F)) De σ H) : tAug i (tE (dc X dra) W F) r De σ H := by
  obtain ⟨en, O, ρ, dr, S, w⟩ := h
  have w := Wp.bind (WpS.stm S w)
  unfold cVar at w
  cases hi : ρ[i]? with
  | none => simp only [hi] at w; exact w.elim
  | some o =>
    cases o with
    | none => simp only [hi] at w; exact w.elim
    | some d1 =>
      simp only [hi] at w
      obtain ⟨fps, h1, h2, h3, h4⟩ := id S.slots
      obtain ⟨v1, fp, e1, e2, r1⟩ := h4 i d1 hi
      have w : Wp ((F ρ dr).bind fun y dr => R.opt (g d1 y) dr) (fun d dr' => WpS (.nx (ρ.set i (some d.fz)) dr') (dc X dra) en O H De W) (ExW (dc X dra) W σ H) := w
      refine ⟨v1, e1, en, O, [], ρ, dr, S, (Wp.bind w).mono (fun d2 dr2 w2 v2 H2 fq x2 dw2 r2 nd2 fr2 => ?_) fun _ _ k => k⟩
      obtain ⟨z, ez, k⟩ := w2.opt
      have k : WpS (.nx (ρ.set i (some z.fz)) dr2) (dc X dra) en O H De W := k
      have S2 := S.step x2 dw2
      have r1' : Rp (dc X dra) O H2 v1 d1 fp := r1.ext x2 S.odr fun p hp hm => S.edr p hp (h3 _ (List.mem_append_right _ (List.mem_flatten.mpr ⟨fp, List.mem_of_getElem? e2, hm⟩))).2
      refine hg O H2 v1 v2 d1 d2 z fp fq dr2 _ r1' r2.orl ez S2.trk dw2 fun v H' fz x dw r nd fr => ?_
      exact k (σ.set i (some v)) H' O ((S2.step x dw).set0 (r.orl.fz _ fun a ha zz => S2.trk a zz (fr a ha))) ((x2.trans x).grow S.odr)
theorem bs_aug {op : Operator} {r : R2} {g : D → D → Option D} {i : Nat} {x : Str} {p' : Pos} (hN : X.N.Nodup) (ho : PIp X op r) (hg : OpD X dra r g) (he : EE X dra W e F) (hi : X.N[i]? = some x := by rfl) (hx : Loc X.env.scope x := by first | exact Or.inl rfl | exact Or.inr rfl)
    (hf : X.fn x = true ∨ X.env.scope.names.lookup x = some .local := by first | exact .inl rfl | exact .inr rfl) : BS X dra W (.AugAssign (.Name x p') op e pos) (cSet i (cBin g (cVar i) F)) :=
  ⟨wkS (ps_aug hN hi hx he.pe ho hf) fun De σ H h => imp_aug hg h⟩

/-! ### a, b = x, y -/
def cPar2 (i j : Nat) (A : CAx) : CSx := fun ρ dr => match A ρ dr with
  | .ok [d1, d2] dr => .nx ((ρ.set i (some d1)).set j (some d2)) dr
  | .ex e dr => .ex e ρ dr
  | _ => .st
def cPar3 (i j l : Nat) (A : CAx) : CSx := fun ρ dr => match A ρ dr with
  | .ok [d1, d2, d3] dr => .nx (((ρ.set i (some d1)).set j (some d2)).set l (some d3)) dr
  | .ex e dr => .ex e ρ dr
  | _ => .st
theorem Rps.three {c : DC} {O : Addr → Prop} {H : Hp} {vs : List V} {d e f : D} {fp : List Addr} (r : Rps c O H vs [d, e, f] fp) : ∃ v u w f1 f2 f3, vs = [v, u, w] ∧ fp = f1 ++ (f2 ++ f3) ∧ Rp c O H v d f1 ∧ Rp c O H u e f2 ∧ Rp c O H w f f3 := by
  cases r with
  | cons r1 t =>
    rename_i v f1 vs1 f2
    obtain ⟨u, w, g1, g2, rfl, rfl, r2, r3⟩ := t.two
    exact ⟨v, u, w, f1, g1, g2, rfl, rfl, r1, r2, r3⟩
theorem StOk.set1 {c : DC} {en : En} {O : Addr → Prop} {fq : List Addr} {ρ : Rho} {dr : Dr} {σ : L2.St} {H : Hp} {v : V} {d : D} {i : Nat} (S : StOk c en O fq ρ dr σ H) (r : Rp c O H v d fq) : StOk c en O [] (ρ.set i (some d)) dr (σ.set i (some v)) H :=
  StOk.set (lf := []) (by rw [List.append_nil]; exact S) r
theorem imp_par2 {σ : L2.St} {H : Hp} {De : Ends} {i j : Nat} {A : CAx} (h : tSt (dc X dra) W (cPar2 i j A) De σ H) : tPar i j (tA (dc X dra) W A) De σ H := by
  obtain ⟨en, O, ρ, dr, S, w⟩ := h
  refine ⟨en, O, [], ρ, dr, S, ?_⟩
  unfold cPar2 at w
  cases eA : A ρ dr with
  | st => rw [eA] at w; exact w
  | ex e dr' => rw [eA] at w; exact fun cls od H' x dw ex => w cls od σ H' O (S.step x dw) (x.grow S.odr) ex
  | ok ds dr' =>
    rw [eA] at w
    intro vs H' fp x dw r nd fr
    match ds, w, r with
    | [d1, d2], w, r =>
      obtain ⟨v, u, f1, f2, rfl, rfl, r1, r2⟩ := r.two
      refine ⟨v, u, rfl, ?_⟩
      have S1 := S.hold x dw nd fr fun a ha => (List.mem_append.mp ha).elim (r1.trk d1 a) (r2.trk d2 a)
      rw [List.append_nil] at S1
      have S2 := S1.set (i := i) r1
      have S3 := S2.set1 (i := j) r2
      exact w _ H' _ S3 (x.growO S.odr fr)
    | [], w, r => exact w.elim
    | [_], w, r => exact w.elim
    | _ :: _ :: _ :: _, w, r => exact w.elim
theorem imp_par3 {σ : L2.St} {H : Hp} {De : Ends} {i j l : Nat} {A : CAx} (h : tSt (dc X dra) W (cPar3 i j l A) De σ H) : tPar3 i j l (tA (dc X dra) W A) De σ H := by
  obtain ⟨en, O, ρ, dr, S, w⟩ := h
  refine ⟨en, O, [], ρ, dr, S, ?_⟩
  unfold cPar3 at w
  cases eA : A ρ dr with
  | st => rw [eA] at w; exact w
  | ex e dr' => rw [eA] at w; exact fun cls od H' x dw ex => w cls od σ H' O (S.step x dw) (x.grow S.odr) ex
  | ok ds dr' =>
    rw [eA] at w
    intro vs H' fp x dw r nd fr
    match ds, w, r with
    | [d1, d2, d3], w, r =>
      obtain ⟨v, u, q, f1, f2, f3, rfl, rfl, r1, r2, r3⟩ := r.three
      refine ⟨v, u, q, rfl, ?_⟩
      have S1 := S.hold x dw nd fr fun a ha => (List.mem_append.mp ha).elim (r1.trk d1 a) fun ha => (List.mem_append.mp ha).elim (r2.trk d2 a) (r3.trk d3 a)
      rw [List.append_nil] at S1
      have S2 := S1.set (i := i) r1
      have S3 := S2.set (i := j) r2
      have S4 := S3.set1 (i := l) r3
      exact w _ H' _ S4 (x.growO S.odr fr)
    | [], w, r => exact w.elim
    | [_], w, r => exact w.elim
    | [_, _], w, r => exact w.elim
    | _ :: _ :: _ :: _ :: _, w, r => exact w.elim
theorem bs_par2 {i j : Nat} {x y : Str} {A : CAx} {px py pt : Pos} {kt k2 pt2} (hc : X.calm = true) (hN : X.N.Nodup) (hA : EA X dra W [a, b] A)
    (hw : swappedStores [.Tuple [.Name x px, .Name y py] kt pt] (.Tuple [a, b] k2 pt2) X.env = pure (some [x, y]))
    (hi : X.N[i]? = some x := by rfl) (hj : X.N[j]? = some y := by rfl) (hij : i ≠ j := by decide)
    (hx : X.env.scope.names.lookup x = some .local := by rfl) (hy : X.env.scope.names.lookup y = some .local := by rfl)
    (hs : swapsWithSole [.Tuple [.Name x px, .Name y py] kt pt] (.Tuple [a, b] k2 pt2) pos.line X.env = pure false := by rfl) :
    BS X dra W (.Assign [.Tuple [.Name x px, .Name y py] kt pt] (.Tuple [a, b] k2 pt2) pos) (cPar2 i j A) :=
  ⟨wkS (ps_par hc hN hi hj hij hx hy hA.pa hw hs) fun De σ H h => imp_par2 h⟩
theorem bs_par3 {i j l : Nat} {x y z : Str} {A : CAx} {px py pz pt : Pos} {kt k2 pt2} (hc : X.calm = true) (hN : X.N.Nodup) (hA : EA X dra W [a, b, d] A)
    (hw : swappedStores [.Tuple [.Name x px, .Name y py, .Name z pz] kt pt] (.Tuple [a, b, d] k2 pt2) X.env = pure (some [x, y, z]))
    (hi : X.N[i]? = some x := by rfl) (hj : X.N[j]? = some y := by rfl) (hl : X.N[l]? = some z := by rfl) (hij : i ≠ j := by decide) (hil : i ≠ l := by decide) (hjl : j ≠ l := by decide)
    (hx : X.env.scope.names.lookup x = some .local := by rfl) (hy : X.env.scope.names.lookup y = some .local := by rfl) (hz : X.env.scope.names.lookup z = some .local := by rfl)
    (hs : swapsWithSole [.Tuple [.Name x px, .Name y py, .Name z pz] kt pt] (.Tuple [a, b, d] k2 pt2) pos.line X.env = pure false := by rfl) :
    BS X dra W (.Assign [.Tuple [.Name x px, .Name y py, .Name z pz] kt pt] (.Tuple [a, b, d] k2 pt2) pos) (cPar3 i j l A) :=
  ⟨wkS (ps_par3 hc hN hi hj hl hij hil hjl hx hy hz hA.pa hw hs) fun De σ H h => imp_par3 h⟩
end

/-! ### xs[::-1] -/
theorem rev_adjust (n : Nat) : Builtin.Slice.sliceAdjust none none (-1) (n : Int) = ((n : Int) - 1, -1) := by
  unfold Builtin.Slice.sliceAdjust
  simp
theorem rev_places (n : Nat) : Builtin.Slice.slicePlaces ((n : Int) - 1) (-1) (-1) = n := by
  unfold Builtin.Slice.slicePlaces
  have h1 : ¬ ((-1 : Int) > 0) := by omega
  simp only [h1, if_false]
  split <;> simp <;> omega
section
variable {prog : Program} {w : World} {A : Around} {E : Value → Shared → Prop} {s : Shared}
theorem sliceApplied_rev {sl : Addr} {vs : Value} {n : Nat} {Q : Int × Int × Nat → Shared → Prop} (hs : s.heap.IsSliceOf sl .none .none vs) (ps : IsPart vs (some (-1)))
    (h : Q ((n : Int) - 1, -1, n) s) : wpAny (model prog w) A (Builtin.Slice.sliceApplied (.ref sl) (pure (n : Int))) Q E s := by
  obtain ⟨os, hos, hcs, hds⟩ := id hs
  unfold Builtin.Slice.sliceApplied Builtin.Slice.sliceFields
  refine wpAny_bind (wpAny_bind (wpAny_field hos hds (x := .none) rfl (wpAny_bind (wpAny_field hos hds (x := .none) rfl (wpAny_bind (wpAny_field hos hds (x := vs) rfl (wpAny_pure ?_)))))))
  refine wpAny_bind (HT.slicePart_ ps ?_)
  show wpAny _ _ (if ((-1 : Int) == 0) = true then _ else _) _ _ s
  rw [if_neg (by decide)]
  refine wpAny_bind (slicePart_none (wpAny_bind (slicePart_none (wpAny_bind (wpAny_pure ?_)))))
  show wpAny _ _ (match Builtin.Slice.sliceAdjust none none (-1) (n : Int) with | (lo, hi) => pure (lo, (-1 : Int), Builtin.Slice.slicePlaces lo hi (-1))) _ _ s
  rw [rev_adjust n]
  show wpAny _ _ (pure ((n : Int) - 1, (-1 : Int), Builtin.Slice.slicePlaces ((n : Int) - 1) (-1) (-1))) _ _ s
  rw [rev_places]
  exact wpAny_pure h
theorem fm_congr {α β : Type} {f g : α → Option β} : ∀ {l : List α}, (∀ x ∈ l, f x = g x) → l.filterMap f = l.filterMap g
  | [], _ => rfl
  | x :: l, h => by
    rw [List.filterMap_cons, List.filterMap_cons, h x List.mem_cons_self, fm_congr fun y hy => h y (List.mem_cons_of_mem _ hy)]
theorem pick_rev (xs : Array Value) : ((List.range xs.size).filterMap fun (m : Nat) => xs[((xs.size : Int) - 1 + (m : Int) * (-1)).toNat]?).toArray = xs.toList.reverse.toArray := by
  have h : ((List.range xs.size).filterMap fun (m : Nat) => xs[((xs.size : Int) - 1 + (m : Int) * (-1)).toNat]?) = ((List.range xs.size).map fun k => xs.size - 1 - k).filterMap (xs[·]?) := by
    rw [List.filterMap_map]
    refine fm_congr fun m hm => ?_
    have := List.mem_range.mp hm
    have e : ((xs.size : Int) - 1 + (m : Int) * (-1)).toNat = xs.size - 1 - m := by omega
    show xs[((xs.size : Int) - 1 + (m : Int) * (-1)).toNat]? = xs[xs.size - 1 - m]?
    rw [e]
  rw [h, PySem.W.krv_range, List.filterMap_reverse, PySem.W.krv_all]
theorem getItem_tuple_rev {t sl : Addr} {items : Array Value} {vs : Value} {Q : Value → Shared → Prop} (ht : IsTup s.heap t items) (hs : s.heap.IsSliceOf sl .none .none vs) (ps : IsPart vs (some (-1)))
    (h : Q (.ref s.heap.objs.size) { s with heap := s.heap.push { cls := .type "tuple", data := .seq items.toList.reverse.toArray } }) (hsz : items.size ≤ sizeLine) : wpAny (model prog w) A (getItem (.ref t) (.ref sl)) Q E s := by
  have htake : sizeOk (.seq items.toList.reverse.toArray) := by
    show items.toList.reverse.toArray.size ≤ sizeLine
    rw [List.size_toArray, List.length_reverse, Array.length_toList]
    exact hsz
  obtain ⟨os, hos, hcs, hds⟩ := id hs
  have hTs : s.TypeIs (.ref sl) "slice" := ⟨os, hos, hcs⟩
  unfold getItem
  try with_reducible refine wpAny_holding ?_
  first | refine wpAny_bind (wpAny_pure ?_) | skip
  refine wpAny_bind (wpAny_sequenceKey ht.typeIs (by decide) ?_)
  refine wpAny_bind (wpAny_callSpecial?_slot (name := Str.ofString "__getitem__") ht.typeIs PyProof.Rows.slot_tuple_getitem
    (wpAny_call_entry PyProof.Rows.slot_tuple_getitem ht.typeIs entry_tuple_getitem ?_ (args_tuple_getitem _ _)))
  show wpAny _ _ (Builtin.Tuple.tupleItemsOf (.ref t) >>= _) _ _ s
  refine wpAny_bind (tupleItemsOf_ ht ?_)
  refine wpAny_bind (wpAny_typeOf hTs ?_)
  rw [if_pos (by decide)]
  refine wpAny_bind (sliceApplied_rev hs ps ?_)
  have hno : ¬ ((((items.size : Int) - 1) == 0 && (-1 : Int) == 1 && items.size == items.size) = true) := by
    intro q
    rw [Bool.and_eq_true, Bool.and_eq_true] at q
    exact absurd q.1.2 (by decide)
  show wpAny _ _ (if (((items.size : Int) - 1) == 0 && (-1 : Int) == 1 && items.size == items.size) = true then _ else _) _ _ s
  rw [if_neg hno, pick_rev]
  first
    | exact wpAny_bind (m := Builtin.Tuple.tupleExact _) (wpAny_newObj_type (wpAny_pure ⟨_, rfl, wpAny_pure h⟩) htake)
    | exact wpAny_bind (m := Builtin.Tuple.tupleExact _) (wpAny_newObj_type (wpAny_bind (wpAny_pure (wpAny_pure ⟨_, rfl, wpAny_pure h⟩))) htake)
    | exact wpAny_bind (wpAny_bind (m := Builtin.Tuple.tupleExact _) (wpAny_newObj_type (wpAny_pure (wpAny_pure ⟨_, rfl, wpAny_pure h⟩)) htake))
    | exact wpAny_bind (wpAny_bind (m := Builtin.Tuple.tupleExact _) (wpAny_newObj_type (wpAny_pure ⟨_, rfl, wpAny_pure h⟩) htake))
end
section
variable {X : Cx} {dra : Option (Addr × Addr)} {W : WX} {e : Expr} {F : CEx}
theorem pe_revA {te : TE} {k : Nat} {p1 p2 p3 pos : Pos} (he : PE X e te) : PE X (.Subscript e (.Slice none none (some (.UnaryOp .USub (.Constant (.int 1) k p1) p2)) p3) pos) (fun σ H Q => te σ H fun x H1 =>
    (∃ a xs, x = .ref a ∧ SqL X.K H1 a xs ∧ ∀ p, H1 p = none → Q (.ref p) (upd H1 p (.lst xs.reverse))) ∨ (∃ a xs, x = .ref a ∧ SqT X.K H1 a xs ∧ ∀ p, H1 p = none → Q (.ref p) (upd H1 p (.tup xs.reverse)))) := by
  refine ⟨fun pins s σ H Q I h => ?_⟩
  refine Subscript_ (thn (he.run pins s σ H _ I h) fun v s1 ⟨x, H1, I1, r1, q1⟩ => ?_)
  have hst : PO X (some (.UnaryOp .USub (.Constant (.int 1) k p1) p2)) (tPart (tUn (rU fun i => .int (-i)) (tC (.int 1)))) := po_some (pe_un un_neg pe_int)
  refine wpAny_Slice (thn (po_none.run pins s1 σ H1 (fun o H2 => o = none ∧ H2 = H1) I1 ⟨rfl, rfl⟩) fun vl s2 ⟨l, H2, I2, pl, el, e2⟩ => ?_)
  subst el e2
  refine thn (po_none.run pins s2 σ H2 (fun o H3 => o = none ∧ H3 = H2) I2 ⟨rfl, rfl⟩) fun vu s3 ⟨u, H3, I3, pu, eu, e3⟩ => ?_
  subst eu e3
  refine thn (hst.run pins s3 σ H3 (fun o H4 => o = some (-1) ∧ H4 = H3) I3 ⟨1, rfl, -1, rfl, rfl, rfl⟩) fun vs s4 ⟨o, H4, I4, ps, eo, e4⟩ => ?_
  subst eo e4
  have I5 : Inv X pins σ H4 { s4 with heap := s4.heap.push { cls := .type "slice", data := .fields #[vl, vu, vs] } } := I4.kept (t' := s4.toks) fun b ob q => Heap.get?_push_of_some _ q
  rcases q1 with ⟨a, xs, ex, hx, q⟩ | ⟨a, xs, ex, hx, q⟩
  · subst ex
    cases r1
    obtain ⟨its, r, ht, hz⟩ := I5.list hx
    have hlen := r.length
    show wpAny (model X.prog X.w) X.A (subscriptTail e (.Slice none none (some (.UnaryOp .USub (.Constant (.int 1) k p1) p2)) p3) (.ref a) (.ref s4.heap.objs.size)) (EP X pins σ Q) X.xe { s4 with heap := s4.heap.push { cls := .type "slice", data := .fields #[vl, vu, vs] } }
    refine tail_any (ops := [.ref a, .ref s4.heap.objs.size]) ht.isList.typeIs (PySem.slot_list_getitem.lookup) ?_ (by with_unfolding_all rfl)
    refine wpAny_getItem_list_slice ht.isList (Heap.IsSliceOf.new _ vl vu vs) pl pu ps (by decide) ?_ (by rw [List.size_toArray]; omega)
    rw [PySem.W.krv_pick]
    refine ⟨.ref _, _, I5.laid (t' := s4.toks) (o := .lst xs.reverse) (fun b ob q => Heap.get?_push_of_some _ q) (Nat.le_refl _) ?_, rfl, q _ (I5.hok.fresh (Nat.le_refl _))⟩
    exact ⟨by rw [List.length_reverse]; exact hz, _, 0, r.reverse, Heap.get?_push_size _ rfl⟩
  · subst ex
    cases r1
    obtain ⟨its, r, ht, hz⟩ := I5.tuple hx
    have hlen := r.length
    cases pl
    cases pu
    show wpAny (model X.prog X.w) X.A (subscriptTail e (.Slice none none (some (.UnaryOp .USub (.Constant (.int 1) k p1) p2)) p3) (.ref a) (.ref s4.heap.objs.size)) (EP X pins σ Q) X.xe { s4 with heap := s4.heap.push { cls := .type "slice", data := .fields #[.none, .none, vs] } }
    refine tail_any (ops := [.ref a, .ref s4.heap.objs.size]) ht.typeIs (PyProof.Rows.slot_tuple_getitem.lookup) ?_ (by with_unfolding_all rfl)
    refine getItem_tuple_rev ht (Heap.IsSliceOf.new _ .none .none vs) ps ?_ (by rw [List.size_toArray]; omega)
    refine ⟨.ref _, _, I5.laid (t' := s4.toks) (o := .tup xs.reverse) (fun b ob q => Heap.get?_push_of_some _ q) (Nat.le_refl _) ?_, rfl, q _ (I5.hok.fresh (Nat.le_refl _))⟩
    refine ⟨by rw [List.length_reverse]; exact hz, its.reverse, r.reverse, ?_⟩
    exact ⟨_, Heap.get?_push_size _ rfl, rfl, 0, by simp⟩
def gRev : D → Option D
  | .tup xs => some (.tup xs.reverse)
  | .lst false xs => some (.lst true xs.reverse)
  | _ => none
def cRev (F : CEx) : CEx := fun ρ dr => (F ρ dr).bind fun d dr => R.opt (gRev (match d with
  | .lst _ xs => .lst false (D.fzs xs)
  | d => d)) dr
theorem Rps.reverse {c : DC} {O : Addr → Prop} {H : Hp} : ∀ {vs : List V} {ds : List D}, Rps c O H vs ds [] → Rps c O H vs.reverse ds.reverse []
  | [], ds, r => by
    have := r.len
    have : ds = [] := List.length_eq_zero_iff.mp this.symm
    subst this
    exact .nil
  | v :: vs, [], r => nomatch r.len
  | v :: vs, d :: ds, r => by
    obtain ⟨f1, f2, e, r1, r2⟩ := r.uncons
    obtain ⟨rfl, rfl⟩ := List.append_eq_nil_iff.mp e.symm
    rw [List.reverse_cons, List.reverse_cons]
    exact (Rps.reverse r2).append (.cons (fp := []) (fq := []) r1 .nil)
theorem ee_rev {k : Nat} {p1 p2 p3 pos : Pos} (he : EE X dra W e F) : EE X dra W (.Subscript e (.Slice none none (some (.UnaryOp .USub (.Constant (.int 1) k p1) p2)) p3) pos) (cRev F) :=
  ⟨wkE (pe_revA he.pe) fun σ H Q ⟨en, O, lf, ρ, dr, S, w⟩ => by
    refine ⟨en, O, lf, ρ, dr, S, (Wp.bind w).mono (fun d dr' k v H' fp x dw r nd fr => ?_) fun _ _ k => k⟩
    obtain ⟨z, ez, k⟩ := k.opt
    have k : OkE (dc X dra) O H Q z dr' := k
    have k := k.later x
    have rz := r.orl.fz d fun a ha z => S.trk a z (fr a ha)
    have trk : ∀ a, O a → H' a ≠ none := fun a ha => x.trk a (S.trk a ha)
    cases d with
    | lst b xs =>
      cases ez
      cases rz with
      | lst e1 n1 rs => exact .inl ⟨_, _, rfl, .of e1, fun p hp => k.newL dw hp rs.reverse⟩
    | tup xs =>
      cases ez
      obtain ⟨a, vs, rfl, hq, rs, _⟩ := rp_sqt rz
      exact .inr ⟨a, vs, rfl, hq, fun p hp => k.newT dw trk hp rs.reverse⟩
    | _ => cases ez⟩
end
end DL
/-! DL14 -/
/-! DL14: y[j] op= e, y[j][k] op= e, y[j][k] = e. -/
namespace DL
open PySem PySem.Spec PyProof.Rows L2

section
variable {c : DC} {O : Addr → Prop} {H : Hp}
mutual
theorem Rp.uq : ∀ (d : D) {v : V} {f g : List Addr}, Rp c O H v d f → Rp c O H v d g → f = g
  | .lst b ds, _, _, _, h, k => by
    cases h with
    | lst e n r => cases k with
      | lst _ _ _ => rfl
    | own e r => cases k with
      | own e' r' =>
        rw [e] at e'; cases e'
        rw [Rps.uq ds r r']
  | .tup ds, _, _, _, h, k => (h.frz _ rfl).trans (k.frz _ rfl).symm
  | .non, _, _, _, h, k => (h.frz _ rfl).trans (k.frz _ rfl).symm
  | .bl _, _, _, _, h, k => (h.frz _ rfl).trans (k.frz _ rfl).symm
  | .int _, _, _, _, h, k => (h.frz _ rfl).trans (k.frz _ rfl).symm
  | .str _, _, _, _, h, k => (h.frz _ rfl).trans (k.frz _ rfl).symm
  | .fn _, _, _, _, h, k => (h.frz _ rfl).trans (k.frz _ rfl).symm
  | .dr, _, _, _, h, k => (h.frz _ rfl).trans (k.frz _ rfl).symm
theorem Rps.uq : ∀ (ds : List D) {vs : List V} {f g : List Addr}, Rps c O H vs ds f → Rps c O H vs ds g → f = g
  | [], _, _, _, h, k => by cases h; cases k; rfl
  | d :: ds, _, _, _, h, k => by
    cases h with
    | cons r t => cases k with
      | cons r' t' => rw [Rp.uq d r r', Rps.uq ds t t']
end
end
section
variable {X : Cx}
theorem get_list : PGet X (rIxL X.K) := by
  intro pins s σ H o i ov iv Q I ro ri h
  obtain ⟨p, xs, k, z, rfl, rfl, hq, he, q⟩ := h
  cases ro
  obtain ⟨t, rfl⟩ := ri
  obtain ⟨its, r, pl, hz⟩ := I.list hq
  obtain ⟨j, h1, h2, h3, h4, h5⟩ := atI_get he
  obtain ⟨w, ew, rw'⟩ := r.get h2
  have hl := r.length
  have hn := line63
  have fin : EP X pins σ Q w s := ⟨z, H, I, rw', q⟩
  by_cases h0 : 0 ≤ k
  · have hj : k.toNat = j := by
      rw [seqIndex_of h0 h5] at h1
      exact Option.some.inj h1
    exact wpAny_getItem_list pl.isList h0 (by omega) (by rw [hj]; simpa using ew) fin
  · have hj : (k + (its.toArray.size : Int)).toNat = j := by
      rw [seqIndex_neg (by omega) h4] at h1
      rw [List.size_toArray, ← hl]
      exact Option.some.inj h1
    exact wpAny_getItem_list_neg pl.isList (by omega) (by rw [List.size_toArray] <;> omega) (by omega) (by rw [hj]; simpa using ew) fin
end
def ixD (xs : List D) : D → Option Nat
  | .int k => ixN xs.length k
  | _ => none
theorem ixD_of {c : DC} {O : Addr → Prop} {H : Hp} {xs : List D} {d : D} {j : Nat} {v : V} {fp : List Addr} (h : ixD xs d = some j) (r : Rp c O H v d fp) : ∃ k, v = .int k ∧ ixN xs.length k = some j := by
  cases d with
  | int k => cases r; exact ⟨k, rfl, h⟩
  | _ => cases h
theorem ixN_at {α : Type} {xs : List α} {k : Int} {j : Nat} {x : α} (h : ixN xs.length k = some j) (e : xs[j]? = some x) : atI xs k = some x := by
  unfold atI
  rw [h]
  exact e
section
variable {X : Cx} {dra : Option (Addr × Addr)} {W : WX} {e a b d : Expr} {F G J J1 J2 K : CEx} {pos p : Pos} {g : D → D → Option D} {r : R2} {i : Nat}
/-- what y[j] op= e does with its items -/
def aug1 (i : Nat) (ρ : Rho) (xs : List D) (j : Nat) (z : D) (dr : Dr) : SR := .nx (ρ.set i (some (.lst true (xs.set j z)))) dr
def ownAt (ρ : Rho) (i : Nat) : Option (List D) := match ρ[i]? with
  | some (some (.lst true xs)) => some xs
  | _ => none
def inAt (xs : List D) (j : Nat) : Option (List D) := match xs[j]? with
  | some (.lst true ys) => some ys
  | _ => none
theorem ownAt_of {ρ : Rho} {i : Nat} {xs : List D} (h : ownAt ρ i = some xs) : ρ[i]? = some (some (.lst true xs)) := by
  unfold ownAt at h
  split at h
  · rename_i e; cases h; exact e
  · cases h
theorem inAt_of {xs : List D} {j : Nat} {ys : List D} (h : inAt xs j = some ys) : xs[j]? = some (.lst true ys) := by
  unfold inAt at h
  split at h
  · rename_i e; cases h; exact e
  · cases h
def SR.opt {α : Type} (o : Option α) (f : α → SR) : SR := match o with
  | some a => f a
  | none => .st
theorem WpS.opt {α : Type} {o : Option α} {f : α → SR} {c : DC} {en : En} {O : Addr → Prop} {H : Hp} {De : Ends} (w : WpS (SR.opt o f) c en O H De W) : ∃ a, o = some a ∧ WpS (f a) c en O H De W := by
  cases o with
  | none => exact w.elim
  | some a => exact ⟨a, rfl, w⟩
def cAug1 (i : Nat) (J : CEx) (g : D → D → Option D) (F : CEx) : CSx := fun ρ dr => SR.opt (ownAt ρ i) fun xs => (J ρ dr).stm ρ fun k dr => SR.opt (ixD xs k) fun j => SR.opt xs[j]? fun d1 => (F ρ dr).stm ρ fun d2 dr => SR.opt (g d1 d2) fun z => aug1 i ρ xs j z.fz dr
def cAug2 (i : Nat) (J1 J2 : CEx) (g : D → D → Option D) (F : CEx) : CSx := fun ρ dr => SR.opt (ownAt ρ i) fun xs => (J1 ρ dr).stm ρ fun k dr => SR.opt (ixD xs k) fun j => SR.opt (inAt xs j) fun ys =>
  (J2 ρ dr).stm ρ fun k2 dr => SR.opt (ixD ys k2) fun j2 => SR.opt ys[j2]? fun d1 => (F ρ dr).stm ρ fun d2 dr => SR.opt (g d1 d2) fun z => aug1 i ρ xs j (.lst true (ys.set j2 z.fz)) dr
theorem StOk.shed0 {c : DC} {en : En} {O : Addr → Prop} {lf : List Addr} {ρ : Rho} {dr : Dr} {σ : L2.St} {H : Hp} (S : StOk c en O lf ρ dr σ H) : StOk c en O [] ρ dr σ H := StOk.shed (fx := lf) (by rw [List.append_nil]; exact S)
/-- a value ahead of the rest of a statement, some steps on -/
theorem WpS.stm' {r : R D} {ρ : Rho} {f : D → Dr → SR} {c : DC} {en : En} {O O0 : Addr → Prop} {lf : List Addr} {H0 H1 : Hp} {De : Ends} {dr : Dr} {σ : L2.St} (S : StOk c en O lf ρ dr σ H1) (g : Grow c O0 H0 O H1) (w : WpS (r.stm ρ f) c en O0 H0 De W) : Wp r (fun d dr => WpS (f d dr) c en O0 H0 De W) (ExW c W σ H1) := by
  cases r with
  | st => exact w
  | ok d dr' => exact w
  | ex e dr' => exact fun cls od H' x dw ex => w cls od σ H' O (S.shed0.step x dw) (g.trans (x.grow S.odr)) ex
/-- one's own list in a slot -/
theorem StOk.own {c : DC} {en : En} {O : Addr → Prop} {lf : List Addr} {ρ : Rho} {dr : Dr} {σ : L2.St} {H : Hp} {xs : List D} (S : StOk c en O lf ρ dr σ H) (hi : ρ[i]? = some (some (.lst true xs))) :
    ∃ a vs fq, σ[i]? = some (some (.ref a)) ∧ H a = some (.lst vs) ∧ Rps c O H vs xs fq ∧ (a :: fq).Nodup ∧ (∀ b ∈ a :: fq, O b ∧ en.He b = none) := by
  obtain ⟨v, fp, e1, r, nd, o1, _, _⟩ := StOk.chg (fx := []) (lf := lf) (d' := .non) S hi
  obtain ⟨a, vs, fq, rfl, rfl, h, s⟩ := own_at r
  exact ⟨a, vs, fq, e1, h, s, (List.nodup_append.mp nd).2.1, o1⟩
theorem imp_aug1 {σ : L2.St} {H : Hp} {De : Ends} (hg : OpD X dra r g) (h : tSt (dc X dra) W (cAug1 i J g F) De σ H) : tAugS (tVar i) (tB (dc X dra) W J) (tE (dc X dra) W F) (rIxL X.K) r rSetL De σ H := by
  obtain ⟨en, O, ρ, dr, S, w⟩ := h
  obtain ⟨xs, hx, w⟩ := w.opt
  have hi := ownAt_of hx
  obtain ⟨a, vs0, fq0, e0, h0, s0, nd0, o0⟩ := S.own hi
  refine ⟨.ref a, e0, en, O, [], ρ, dr, S, (WpS.stm' S .refl w).mono (fun dk dr1 w1 vk H1 fk x1 dw1 rk ndk frk => ?_) fun _ _ k => k⟩
  obtain ⟨j, hj, w1⟩ := w1.opt
  obtain ⟨d1, hd, w1⟩ := w1.opt
  obtain ⟨k, rfl, hk⟩ := ixD_of hj rk
  have S1 := S.step x1 dw1
  have g1 : Grow (dc X dra) O H O H1 := x1.grow S.odr
  obtain ⟨a1, vs1, fq1, e1, h1, s1, nd1, o1⟩ := S1.own hi
  rw [e0] at e1
  cases e1
  obtain ⟨u1, fu, eu, ru, sbu⟩ := s1.get hd
  refine ⟨a, vs1, k, u1, rfl, rfl, .of h1, ixN_at (by rw [s1.len]; exact hk) eu, en, O, [], ρ, dr1, S1, (WpS.stm' S1 g1 w1).mono (fun d2 dr2 w2 v2 H2 f2 x2 dw2 r2 nd2 fr2 => ?_) fun _ _ k => k⟩
  obtain ⟨z, hz, w2⟩ := w2.opt
  have S2 := S1.step x2 dw2
  have nodr : ∀ p, (dc X dra).dra = some p → p.1 ∉ a :: fq1 := fun p hp m => S.edr p hp (o1 _ m).2
  have ru2 : Rp (dc X dra) O H2 u1 d1 fu := ru.ext x2 S.odr fun p hp m => nodr p hp (List.mem_cons_of_mem _ (sbu.subset m))
  refine hg O H2 u1 v2 d1 d2 z fu f2 dr2 _ ru2 r2.orl hz S2.trk dw2 fun v3 H3 f3 x3 dw3 r3 nd3 fr3 => ?_
  have S3 := S2.step x3 dw3
  have r3' := r3.orl.fz z fun b hb zz => S2.trk b zz (fr3 b hb)
  obtain ⟨v, fp, q1, q2, q3, q4, _, q5⟩ := StOk.chg (fx := []) (lf := []) (d' := .lst true (xs.set j z.fz)) S3 hi
  rw [e0] at q1
  cases q1
  obtain ⟨a', vs3, fq3, qe, rfl, h3, s3⟩ := own_at q2
  cases qe
  obtain ⟨fq', s4, nd4, sb4⟩ := Rps.set r3' j s3 (List.nodup_cons.mp (List.nodup_append.mp q3).2.1).2
  have nq : a ∉ fq3 := (List.nodup_cons.mp (List.nodup_append.mp q3).2.1).1
  have na' : a ∉ fq' := fun m => (sb4 a m).elim nq fun z => nomatch z
  refine ⟨a, vs3, k, j, rfl, rfl, h3, by rw [s3.len]; exact hk, ?_⟩
  obtain ⟨S4, g4⟩ := q5 a (.lst (vs3.set j v3)) (a :: fq') List.mem_cons_self (.own upd_same (s4.updO (q4 a List.mem_cons_self).1 na')) (List.nodup_cons.mpr ⟨na', nd4⟩) (fun b hb => by
    rcases List.mem_cons.mp hb with z | z
    · exact .inl (z ▸ List.mem_cons_self)
    · exact .inl ((sb4 b z).elim (List.mem_cons_of_mem _) fun z => nomatch z))
  exact w2 σ _ O S4 (((g1.trans (x2.grow S.odr)).trans (x3.grow S.odr)).trans g4)
/-- y[j] op= e -/
theorem bs_aug1 {op : Operator} {y : Str} {p1 p2 : Pos} (ho : PIp X op r) (hg : OpD X dra r g) (hj : BE X dra W a J) (he : EE X dra W e F) (hN : X.N[i]? = some y := by rfl) (hv : Vis X.env.scope y := by first | exact Or.inl rfl | exact Or.inr (Or.inl rfl) | exact Or.inr (Or.inr rfl)) (hd : (y == ("__debug__" : Str)) = false := by decide)
    (hcd : (y == ("__classdict__" : Str)) = false := by decide)
    (ha : ∀ ov iv new, augStore a ov iv new = (do holding [new, ov, iv] (setItem ov iv new); release [new, ov, iv] []; pure .next) := by intros; rfl) : BS X dra W (.AugAssign (.Subscript (.Name y p1) a p2) op e pos) (cAug1 i J g F) :=
  ⟨wkS (ps_augS (pv i hN hv hd hcd) hj.pe get_list he.pe ho set_list ha) fun De σ H h => imp_aug1 hg h⟩
theorem imp_aug2 {σ : L2.St} {H : Hp} {De : Ends} (hg : OpD X dra r g) (h : tSt (dc X dra) W (cAug2 i J1 J2 g F) De σ H) : tAugS (tOp (rIx X.K) (tVar i) (tB (dc X dra) W J1)) (tB (dc X dra) W J2) (tE (dc X dra) W F) (rIxL X.K) r rSetL De σ H := by
  obtain ⟨en, O, ρ, dr, S, w⟩ := h
  obtain ⟨xs, hx, w⟩ := w.opt
  have hi := ownAt_of hx
  obtain ⟨a, vs0, fq0, e0, h0, s0, nd0, o0⟩ := S.own hi
  refine ⟨.ref a, e0, en, O, [], ρ, dr, S, (WpS.stm' S .refl w).mono (fun dk dr1 w1 vk H1 fk x1 dw1 rk ndk frk => ?_) fun _ _ k => k⟩
  obtain ⟨j, hj, w1⟩ := w1.opt
  obtain ⟨ys, hy, w1⟩ := w1.opt
  have hyj := inAt_of hy
  obtain ⟨k, rfl, hk⟩ := ixD_of hj rk
  have S1 := S.step x1 dw1
  have g1 : Grow (dc X dra) O H O H1 := x1.grow S.odr
  obtain ⟨a1, vs1, fq1, e1, h1, s1, nd1, o1⟩ := S1.own hi
  rw [e0] at e1
  cases e1
  obtain ⟨vb, fb, eb, rb, sbb⟩ := s1.get hyj
  obtain ⟨b, us1, fb1, rfl, rfl, hb1, sb1⟩ := own_at rb
  refine .inl ⟨a, vs1, k, .ref b, rfl, rfl, .of h1, ixN_at (by rw [s1.len]; exact hk) eb, en, O, [], ρ, dr1, S1, (WpS.stm' S1 g1 w1).mono (fun dk2 drk wk vk2 Hk fk2 xk dwk rk2 ndk2 frk2 => ?_) fun _ _ k => k⟩
  obtain ⟨j2, hj2, wk⟩ := wk.opt
  obtain ⟨d1, hd, wk⟩ := wk.opt
  obtain ⟨k2, rfl, hk2⟩ := ixD_of hj2 rk2
  have Sk := S1.step xk dwk
  have gk : Grow (dc X dra) O H O Hk := g1.trans (xk.grow S.odr)
  have nodr : ∀ p, (dc X dra).dra = some p → p.1 ∉ a :: fq1 := fun p hp m => S.edr p hp (o1 _ m).2
  have hbk : Hk b = some (.lst us1) := xk.keep _ _ hb1 fun p hp z => nodr p hp (List.mem_cons_of_mem _ (sbb.subset (z ▸ List.mem_cons_self)))
  have sbk : Rps (dc X dra) O Hk us1 ys fb1 := sb1.ext xk S.odr fun p hp m => nodr p hp (List.mem_cons_of_mem _ (sbb.subset (List.mem_cons_of_mem _ m)))
  obtain ⟨u1, fu, eu, ru, sbu⟩ := sbk.get hd
  refine ⟨b, us1, k2, u1, rfl, rfl, .of hbk, ixN_at (by rw [sbk.len]; exact hk2) eu, en, O, [], ρ, drk, Sk, (WpS.stm' Sk gk wk).mono (fun d2 dr2 w2 v2 H2 f2 x2 dw2 r2 nd2 fr2 => ?_) fun _ _ k => k⟩
  obtain ⟨z, hz, w2⟩ := w2.opt
  have S2 := Sk.step x2 dw2
  have ru2 : Rp (dc X dra) O H2 u1 d1 fu := ru.ext x2 S.odr fun p hp m => nodr p hp (List.mem_cons_of_mem _ (sbb.subset (List.mem_cons_of_mem _ (sbu.subset m))))
  refine hg O H2 u1 v2 d1 d2 z fu f2 dr2 _ ru2 r2.orl hz S2.trk dw2 fun v3 H3 f3 x3 dw3 r3 nd3 fr3 => ?_
  have S3 := S2.step x3 dw3
  have r3' := r3.orl.fz z fun b hb zz => S2.trk b zz (fr3 b hb)
  obtain ⟨v, fp, q1, q2, q3, q4, _, q5⟩ := StOk.chg (fx := []) (lf := []) (d' := .lst true (xs.set j (.lst true (ys.set j2 z.fz)))) S3 hi
  rw [e0] at q1
  cases q1
  obtain ⟨a', vs3, fq3, qe, rfl, h3, s3⟩ := own_at q2
  cases qe
  have nd3 : (a :: fq3).Nodup := (List.nodup_append.mp q3).2.1
  have xx : Ext (dc X dra) H1 H3 := (xk.trans x2).trans x3
  have h13 : H3 a = some (.lst vs1) := xx.keep _ _ h1 fun p hp z => nodr p hp (z ▸ List.mem_cons_self)
  rw [h13] at h3
  cases h3
  have s13 : Rps (dc X dra) O H3 vs1 xs fq1 := s1.ext xx S.odr fun p hp m => nodr p hp (List.mem_cons_of_mem _ m)
  have eqf : fq1 = fq3 := Rps.uq xs s13 s3
  subst eqf
  have hb3 : H3 b = some (.lst us1) := xx.keep _ _ hb1 fun p hp z => nodr p hp (List.mem_cons_of_mem _ (sbb.subset (z ▸ List.mem_cons_self)))
  have sb3 : Rps (dc X dra) O H3 us1 ys fb1 := sb1.ext xx S.odr fun p hp m => nodr p hp (List.mem_cons_of_mem _ (sbb.subset (List.mem_cons_of_mem _ m)))
  have bq : b ∈ fq1 := sbb.subset List.mem_cons_self
  have ob : O b := (q4 b (List.mem_cons_of_mem _ bq)).1
  have ndb : (b :: fb1).Nodup := (List.nodup_cons.mp nd3).2.sublist sbb
  obtain ⟨fb', s4, nd4, sb4⟩ := Rps.set r3' j2 sb3 (by simpa using (List.nodup_cons.mp ndb).2)
  have nb' : b ∉ fb' := fun m => (sb4 b m).elim (List.nodup_cons.mp ndb).1 fun z => nomatch z
  refine ⟨b, us1, k2, j2, rfl, rfl, hb3, by rw [sb3.len]; exact hk2, ?_⟩
  obtain ⟨fq', s5, nd5, sb5⟩ := Rps.inner (fx := []) (us' := us1.set j2 v3) (es' := ys.set j2 z.fz) (fb := fb1) ob (s4.updO ob nb') (List.nodup_cons.mpr ⟨nb', nd4⟩) j s3 hyj eb (List.nodup_cons.mp nd3).2 sb4 (fun us hus f rf => by
    rw [hb3] at hus
    cases hus
    exact Rps.uq ys rf sb3) fun a ha => nomatch ha
  have na : a ∉ fq1 := (List.nodup_cons.mp nd3).1
  have hab : a ≠ b := fun z => na (z ▸ bq)
  obtain ⟨S4, g4⟩ := q5 b (.lst (us1.set j2 v3)) (a :: fq') (List.mem_cons_of_mem _ bq) (.own (by rw [upd_ne hab]; exact h13) s5) (List.nodup_cons.mpr ⟨fun m => (sb5 a m).elim na (fun z => nomatch z), nd5⟩) (fun c hc => by
    rcases List.mem_cons.mp hc with z | z
    · exact .inl (z ▸ List.mem_cons_self)
    · exact .inl ((sb5 c z).elim (List.mem_cons_of_mem _) fun z => nomatch z))
  exact w2 σ _ O S4 (((gk.trans (x2.grow S.odr)).trans (x3.grow S.odr)).trans g4)
/-- y[j][k] op= e -/
theorem bs_aug2 {op : Operator} {y : Str} {p1 p2 p3 : Pos} (ho : PIp X op r) (hg : OpD X dra r g) (hj : BE X dra W a J1) (hj2 : BE X dra W b J2) (he : EE X dra W e F) (hN : X.N[i]? = some y := by rfl) (hv : Vis X.env.scope y := by first | exact Or.inl rfl | exact Or.inr (Or.inl rfl) | exact Or.inr (Or.inr rfl)) (hs : PlainIx a := by intro _ _; rfl) (hd : (y == ("__debug__" : Str)) = false := by decide)
    (hcd : (y == ("__classdict__" : Str)) = false := by decide)
    (ha : ∀ ov iv new, augStore b ov iv new = (do holding [new, ov, iv] (setItem ov iv new); release [new, ov, iv] []; pure .next) := by intros; rfl) : BS X dra W (.AugAssign (.Subscript (.Subscript (.Name y p1) a p2) b p3) op e pos) (cAug2 i J1 J2 g F) :=
  ⟨wkS (ps_augS (pe_ix ix_seq (pv i hN hv hd hcd) hj.pe hs) hj2.pe get_list he.pe ho set_list ha) fun De σ H h => imp_aug2 hg h⟩
end
end DL
/-! DL15 -/
/-! DL15: errors, callees that are values, things of the module. -/
namespace DL
open PySem PySem.Spec PyProof.Rows L2

/-! ### raise X('..') -/
structure HasExc (K : PySem.W.Frag) (mg : Str → Option Value) (x : Str) : Prop where
  ex : ∃ (C : Addr) (B newId initId : String) (bmB : List Value), ExcBaseFacts B newId initId bmB ∧ PySem.W.excIn K C bmB newId = true ∧ mg x = some (.ref C) ∧ PySem.W.keepIn K (.ref C) = true ∧
    PySem.W.subIn K (.ref C) (.type "BaseException") = some true ∧ PySem.W.typeIn K (.ref C) = some (.type "type")
def cRaise (x : Str) : CSx := fun ρ dr => .ex ⟨x, none⟩ ρ dr
section
variable {X : Cx} {dra : Option (Addr × Addr)} {W : WX} {e fe : Expr} {es : List Expr} {pos : Pos}
theorem bs_raise {x m : Str} {j : Nat} {p p2 pos2 : Pos} (hx : HasExc X.K X.mg x) (hc : X.calm = true) (tk : Takes X W) (hg : Gl X x := by rfl) (hdb : (x == ("__debug__" : Str)) = false := by decide) : BS X dra W (.Raise (some (.Call (.Name x p) [.Constant (.str m) j p2] [] pos)) none pos2) (cRaise x) := by
  obtain ⟨C, B, nw, ini, bmB, F, h1, h2, h3, h4, h5⟩ := hx.ex
  exact ⟨wkS (ps_raise hc tk (pmk_own F h1 h2 h3 (raises_own h4 h5) hg hdb)) fun De σ H ⟨en, O, ρ, dr, S, w⟩ => w (.ref C) none σ H O S .refl ⟨C, rfl, h2, rfl⟩⟩

/-! ### try .. except X -/
def noExS (r : SR) : SR := match r with
  | .ex _ _ _ => .st
  | r => r
theorem WpS.noEx {r : SR} {c : DC} {en : En} {O : Addr → Prop} {H : Hp} {De : Ends} {W W' : WX} (w : WpS (noExS r) c en O H De W) : WpS r c en O H De W' := by
  cases r with
  | ex _ _ _ => exact w.elim
  | st => exact w
  | nx _ _ => exact w
  | rt _ _ => exact w
  | bk _ _ => exact w
  | ct _ _ => exact w
/-- mt: does the clause take an error of that class -/
def cTry (mt : Str → Option Bool) (B S : CSx) : CSx := fun ρ dr => match B ρ dr with
  | .ex e ρ' dr' => (match mt e.cls with
    | some true => noExS (S ρ' dr')
    | some false => .ex e ρ' dr'
    | none => .st)
  | r => r
theorem bs_try {x : Str} {c : Value} {body suite : List Stmt} {b₀ : Stmt} {np pos' : Pos} {mt : Str → Option Bool} {B S : CSx} (hc : Names X x c) (tk : Takes X W)
    (hm : ∀ y b C, mt y = some b → X.mg y = some (.ref C) → PySem.W.exmOne X.K (.ref C) c = some b)
    (hb : ∀ (W' : WX) (pn : List (Addr × Obj)) (xe : Value → Shared → Prop), Takes (X.tr pn xe) W' → PassesOwn (model X.prog X.w) X.A X.env xe → BSs (X.tr pn xe) dra W' body B)
    (hsu : ∀ (a : Addr) (pn : List (Addr × Obj)), BSs (X.suite a pn) dra W0 (b₀ :: suite) S) (hs : X.stack = X.env :: X.outer := by rfl) (hf : X.env.frame = some X.env.locals := by rfl) :
    BS X dra W (.Try body [.ExceptHandler (some (.Name x np)) none (b₀ :: suite) pos'] [] [] pos) (cTry mt B S) := by
  refine ⟨wkS (ps_try_only (tb := fun W' => tSt (dc X dra) W' B) (ts := fun _ _ _ => tSt (dc X dra) W0 S) (Wout := W) hs hf hc tk (fun W' pn xe t po => (hb W' pn xe t po).ps) fun a oe cls d pn _ _ => (hsu a ((a, oe) :: pn)).ps) fun De σ H ⟨en, O, ρ, dr, SS, w⟩ => ?_⟩
  refine ⟨en, O, ρ, dr, SS, ?_⟩
  unfold cTry at w
  cases eB : B ρ dr with
  | st => rw [eB] at w; exact w
  | nx _ _ => rw [eB] at w; exact w
  | rt _ _ => rw [eB] at w; exact w
  | bk _ _ => rw [eB] at w; exact w
  | ct _ _ => rw [eB] at w; exact w
  | ex e ρ' dr' =>
    rw [eB] at w
    intro cls od σ' H' O' S' g ex
    obtain ⟨C, rfl, hC, hod⟩ := id ex
    cases em : mt e.cls with
    | none => simp only [em] at w; exact w.elim
    | some b =>
      refine ⟨b, hm _ _ _ em hC, fun hb a ha => ?_, fun hb => ?_⟩
      · subst hb
        simp only [em] at w
        exact ⟨en, O', ρ', dr', S', WpS.later (WpS.noEx (W' := W0) w) g⟩
      · subst hb
        simp only [em] at w
        exact w (.ref C) od σ' H' O' S' g ex

/-! ### names of defs, callees that are values -/
theorem ee_fn {k n : Nat} {x : Str} {F : CF} (hF : HasFn X.prog X.w X.K X.mg X.base k x n F) (hg : Gl X x := by rfl) (hd : (x == ("__debug__" : Str)) = false := by decide) : EE X dra W (.Name x pos) (cK (.fn x)) := by
  obtain ⟨f, fd, ps, F1, h1, h2, h3⟩ := hF.ex
  exact ee_glob (v := .ref f) h1 rfl (fun c _ hm O H => .fn (by rw [hm]; exact h1)) hg hd
abbrev Tbl := List (Str × CF)
structure HasT (X : Cx) (k n : Nat) (T : Tbl) : Prop where
  all : ∀ q ∈ T, HasFn X.prog X.w X.K X.mg X.base k q.1 n q.2
theorem HasT.nil {k n : Nat} : HasT X k n [] := ⟨fun _ h => nomatch h⟩
theorem HasT.cons {k n : Nat} {x : Str} {F : CF} {T : Tbl} (h : HasFn X.prog X.w X.K X.mg X.base k x n F) (t : HasT X k n T) : HasT X k n ((x, F) :: T) := ⟨fun q hq => (List.mem_cons.mp hq).elim (fun z => z ▸ h) (t.all q)⟩
def fnOf (T : Tbl) : D → Option CF
  | .fn x => T.lookup x
  | _ => none
def cCallE (T : Tbl) (Fe : CEx) (A : CAx) : CEx := fun ρ dr => (Fe ρ dr).bind fun d dr => match fnOf T d with
  | some F => (A ρ dr).bind fun ds dr => F (D.fzs ds) dr
  | none => .st
theorem lookup_mem {T : Tbl} {x : Str} {F : CF} (h : T.lookup x = some F) : (x, F) ∈ T := by
  induction T with
  | nil => cases h
  | cons q T ih =>
    obtain ⟨y, G⟩ := q
    rw [List.lookup_cons] at h
    cases hb : x == y with
    | true =>
      rw [hb] at h
      cases h
      have : x = y := by simpa using hb
      rw [this]
      exact List.mem_cons_self
    | false =>
      rw [hb] at h
      exact List.mem_cons_of_mem _ (ih h)
theorem pe_callE {tf : TE} {t : TA} {k : Nat} {E : L2.St → XK} (hf : PE X fe tf) (hr : Room k X.A) (hx : ∀ σ, PassesAt (L2.CX X.prog X.w) X σ (E σ)) (ha : PA X (e :: es) t)
    (ht : eval (.Call fe (e :: es) [] pos) X.env = (do callWith pos (← eval fe X.env) [] (backTo pos (starEach (e :: es) X.env)) (backToKw pos (keywordEach [] X.env))) := by rfl)
    (he : starEach (e :: es) X.env = (false, eval e X.env) :: starEach es X.env := by rfl) (hpl : (backTo pos (starEach es X.env)).any (·.1) = false := by rfl) :
    PE X (.Call fe (e :: es) [] pos) (fun σ H Q => tf σ H fun y H1 => ∃ f, y = .ref f ∧ PySem.W.keepIn X.K (.ref f) = true ∧ t σ H1 fun vs H2 => ∃ fd ps sp, FnOk X.prog X.w X.K X.mg X.base (L2.CX X.prog X.w) k f fd ps sp ∧ Binds X.K fd ps [] ∧ sp vs H2 Q (E σ)) := by
  refine ⟨fun pins s σ H Q I h => ?_⟩
  refine Call_ (thn (hf.run pins s σ H _ I h) fun u s1 ⟨y, H1, I1, ry, f, ey, hk, q⟩ => ?_) ht
  subst ey
  obtain rfl : u = Value.ref f := ry
  refine PySem.W.callWith_K (h₀ := X.base) I1.ok.mod.kin hk (thn (ha.run pos pins s1 σ H1 _ I1 q) fun us s2 ⟨vs, H2, I2, r, fd, ps, sp, F1, hb, q2⟩ => ⟨I2.kIn, ?_⟩) he hpl
  exact run_fnS F1 hr hb (hx σ) I2 r q2
theorem imp_callE {A : CAx} {Fe : CEx} {T : Tbl} {k n : Nat} {σ : L2.St} {H : Hp} {Q : VK} (hT : HasT X k n T) (hA : ALen n A) (h : tE (dc X dra) W (cCallE T Fe A) σ H Q) :
    tB (dc X dra) W Fe σ H fun y H1 => ∃ f, y = .ref f ∧ PySem.W.keepIn X.K (.ref f) = true ∧ tA (dc X dra) W A σ H1 fun vs H2 => ∃ fd ps sp, FnOk X.prog X.w X.K X.mg X.base (L2.CX X.prog X.w) k f fd ps sp ∧ Binds X.K fd ps [] ∧ sp vs H2 Q (WE W σ) := by
  obtain ⟨en, O, lf, ρ, dr, S, w⟩ := h
  refine ⟨en, O, lf, ρ, dr, S, (Wp.bind w).mono (fun d1 dr1 w1 u H1 fp x1 dw1 r1 nd1 fr1 => ?_) fun _ _ k => k⟩
  cases eF : fnOf T d1 with
  | none => simp only [eF] at w1; exact w1.elim
  | some F =>
    simp only [eF] at w1
    cases d1 with
    | fn x =>
      have hF := hT.all _ (lookup_mem (show T.lookup x = some F from eF))
      obtain ⟨f, fd, ps, F1, h1, h2, h3⟩ := hF.ex
      cases r1 with
      | fn e1 =>
        have h1 : X.mg x = some (.ref f) := h1
        have e1 : X.mg x = some (.ref _) := e1
        rw [h1] at e1
        cases e1
        refine ⟨f, rfl, h2, en, O, lf, ρ, dr1, S.step x1 dw1, ?_⟩
        have w1 := Wp.bind w1
        cases eA : A ρ dr1 with
        | st => rw [eA] at w1; exact w1
        | ex e dr2 => rw [eA] at w1; exact ExW.later w1 x1
        | ok ds dr2 =>
          rw [eA] at w1
          intro vs H2 fq x2 dw2 r2 nd2 fr2
          have w1 : Wp (F (D.fzs ds) dr2) (OkE (dc X dra) O H Q) (ExW (dc X dra) W σ H) := w1
          have x := x1.trans x2
          refine ⟨fd, ps, _, F1, h3, r2.len.trans (hA _ _ _ _ eA), dra, O, D.fzs ds, dr2, fun a ha => x.trk a (S.trk a ha), fun p e => ⟨S.odr p e, x.trk _ (S.ext.trk _ (S.ed2 p e))⟩, dw2, r2.orl.fzs fun a ha z => S.trk a z (x1.un (fr2 a ha)), w1.mono (fun _ _ k => k.later x) fun e dr2 k cls od H2 x2 dw2 ex => k cls od H2 (x.trans x2) dw2 ex⟩
    | _ => cases eF
theorem ee_callE {A : CAx} {Fe : CEx} {T : Tbl} {k n : Nat} (hT : HasT X k n T) (hr : Room k X.A) (tk : Takes X W) (hf : BE X dra W fe Fe) (ha : EA X dra W (e :: es) A) (hA : ALen n A)
    (ht : eval (.Call fe (e :: es) [] pos) X.env = (do callWith pos (← eval fe X.env) [] (backTo pos (starEach (e :: es) X.env)) (backToKw pos (keywordEach [] X.env))) := by rfl)
    (he : starEach (e :: es) X.env = (false, eval e X.env) :: starEach es X.env := by rfl) (hpl : (backTo pos (starEach es X.env)).any (·.1) = false := by rfl) : EE X dra W (.Call fe (e :: es) [] pos) (cCallE T Fe A) :=
  ⟨wkE (pe_callE hf.pe hr (fun σ => passAt tk σ) ha.pa ht he hpl) fun σ H Q h => imp_callE hT hA h⟩
/-! ### a module's constants -/
theorem kt_of {K : PySem.W.Frag} {a : Addr} {o : Obj} {its : Array Value} {n : Nat} {vs : List V} (h : K.lookup a = some o) (hc : o.cls = .type "tuple") (hd : o.data = .seq its n) (hz : its.size ≤ sizeLine) (r : Vals vs its.toList) : KT K a vs := ⟨o, its, n, h, hc, hd, hz, r⟩
end
end DL
/-! DL16 -/
/-! DL16: short forms for the terms that are printed. -/
namespace DL
open PySem PySem.Spec PyProof.Rows L2

def gSub : D → D → Option D := gI (fun _ _ => true) (· - ·)
def gFd : D → D → Option D := gI cDiv Int.fdiv
def gMod : D → D → Option D := gI cNz Int.fmod
def gPw : D → D → Option D := gI cPow fun i j => i ^ j.toNat
def gAddI : D → D → Option D := gI (fun _ _ => true) (· + ·)
def gMulI : D → D → Option D := gI cMul (· * ·)
section
variable {X : Cx} {dra : Option (Addr × Addr)} {W : WX} {e a b d : Expr} {F G F1 F2 F3 : CEx} {pos p : Pos} {es : List Expr} {T T' : CTx}
theorem eAdd (ha : BE X dra W a F1) (hb : BE X dra W b F2) : EE X dra W (.BinOp a .Add b pos) (cBin gAdd F1 F2) := ee_bin op_addA opd_add ha hb
theorem eSub (ha : BE X dra W a F1) (hb : BE X dra W b F2) : EE X dra W (.BinOp a .Sub b pos) (cBin gSub F1 F2) := ee_bin op_sub opd_sub ha hb
theorem eMul (ha : BE X dra W a F1) (hb : BE X dra W b F2) : EE X dra W (.BinOp a .Mult b pos) (cBin gMul F1 F2) := ee_bin op_mulA opd_mul ha hb
theorem eFd (ha : BE X dra W a F1) (hb : BE X dra W b F2) : EE X dra W (.BinOp a .FloorDiv b pos) (cBin gFd F1 F2) := ee_bin op_fdivA opd_fdiv ha hb
theorem eMod (ha : BE X dra W a F1) (hb : BE X dra W b F2) : EE X dra W (.BinOp a .Mod b pos) (cBin gMod F1 F2) := ee_bin op_modN opd_mod ha hb
theorem eEq (hu : X.A.units + 64 < cLine) (ha : BE X dra W a F1) (hb : BE X dra W b F2) : EE X dra W (.Compare a [.Eq] [b] pos) (cBin gEq F1 F2) := ee_cmp (op_eqD hu) opd_eq ha hb (nomark _)
theorem eNe (hu : X.A.units + 64 < cLine) (ha : BE X dra W a F1) (hb : BE X dra W b F2) : EE X dra W (.Compare a [.NotEq] [b] pos) (cBin gNe F1 F2) := ee_cmp (op_neD hu) opd_ne ha hb (nomark _)
theorem eLt (ha : BE X dra W a F1) (hb : BE X dra W b F2) : EE X dra W (.Compare a [.Lt] [b] pos) (cBin gLt F1 F2) := ee_cmp op_ltA opd_cs ha hb (nomark _)
theorem eLe (ha : BE X dra W a F1) (hb : BE X dra W b F2) : EE X dra W (.Compare a [.LtE] [b] pos) (cBin gLe F1 F2) := ee_cmp op_leA opd_cs ha hb (nomark _)
theorem eGt (ha : BE X dra W a F1) (hb : BE X dra W b F2) : EE X dra W (.Compare a [.Gt] [b] pos) (cBin gGt F1 F2) := ee_cmp op_gtA opd_cs ha hb (nomark _)
theorem eGe (ha : BE X dra W a F1) (hb : BE X dra W b F2) : EE X dra W (.Compare a [.GtE] [b] pos) (cBin gGe F1 F2) := ee_cmp op_geA opd_cs ha hb (nomark _)
theorem tEq (hu : X.A.units + 64 < cLine) (ha : BE X dra W a F1) (hb : BE X dra W b F2) : BT X dra W (.Compare a [.Eq] [b] pos) (cTst (cBin gEq F1 F2)) := bt_cmp (op_eqD hu) opd_eq ha hb (nomark _)
theorem tNe (hu : X.A.units + 64 < cLine) (ha : BE X dra W a F1) (hb : BE X dra W b F2) : BT X dra W (.Compare a [.NotEq] [b] pos) (cTst (cBin gNe F1 F2)) := bt_cmp (op_neD hu) opd_ne ha hb (nomark _)
theorem tLt (ha : BE X dra W a F1) (hb : BE X dra W b F2) : BT X dra W (.Compare a [.Lt] [b] pos) (cTst (cBin gLt F1 F2)) := bt_cmp op_ltA opd_cs ha hb (nomark _)
theorem tLe (ha : BE X dra W a F1) (hb : BE X dra W b F2) : BT X dra W (.Compare a [.LtE] [b] pos) (cTst (cBin gLe F1 F2)) := bt_cmp op_leA opd_cs ha hb (nomark _)
theorem tGt (ha : BE X dra W a F1) (hb : BE X dra W b F2) : BT X dra W (.Compare a [.Gt] [b] pos) (cTst (cBin gGt F1 F2)) := bt_cmp op_gtA opd_cs ha hb (nomark _)
theorem tGe (ha : BE X dra W a F1) (hb : BE X dra W b F2) : BT X dra W (.Compare a [.GtE] [b] pos) (cTst (cBin gGe F1 F2)) := bt_cmp op_geA opd_cs ha hb (nomark _)
theorem eIn (hu : X.A.units + 65 < cLine) (ha : BE X dra W a F1) (hb : BE X dra W b F2) (hm : behindInMarks .In b = false := by rfl) : EE X dra W (.Compare a [.In] [b] pos) (cBin (gIn false) F1 F2) := ee_cmp (op_inA hu) opd_in ha hb hm
theorem eNin (hu : X.A.units + 65 < cLine) (ha : BE X dra W a F1) (hb : BE X dra W b F2) (hm : behindInMarks .NotIn b = false := by rfl) : EE X dra W (.Compare a [.NotIn] [b] pos) (cBin (gIn true) F1 F2) := ee_cmp (op_notInA hu) opd_in ha hb hm
theorem tIn (hu : X.A.units + 65 < cLine) (ha : BE X dra W a F1) (hb : BE X dra W b F2) (hm : behindInMarks .In b = false := by rfl) : BT X dra W (.Compare a [.In] [b] pos) (cTst (cBin (gIn false) F1 F2)) := bt_cmp (op_inA hu) opd_in ha hb hm
theorem tNin (hu : X.A.units + 65 < cLine) (ha : BE X dra W a F1) (hb : BE X dra W b F2) (hm : behindInMarks .NotIn b = false := by rfl) : BT X dra W (.Compare a [.NotIn] [b] pos) (cTst (cBin (gIn true) F1 F2)) := bt_cmp (op_notInA hu) opd_in ha hb hm
theorem Room.u65 {k : Nat} {A : Around} (r : Room k A) : A.units + 65 < cLine := by have := r.un; omega
/-! chains: a op b op c -/
structure Op2 (X : Cx) (dra : Option (Addr × Addr)) (op : CmpOp) (g : D → D → Option D) : Prop where
  ex : ∃ r, OpR X (compareOp op) r ∧ OpD X dra r g
theorem o2Lt : Op2 X dra .Lt gLt := ⟨_, op_ltA, opd_cs⟩
theorem o2Le : Op2 X dra .LtE gLe := ⟨_, op_leA, opd_cs⟩
theorem o2Gt : Op2 X dra .Gt gGt := ⟨_, op_gtA, opd_cs⟩
theorem o2Ge : Op2 X dra .GtE gGe := ⟨_, op_geA, opd_cs⟩
theorem o2Eq (hu : X.A.units + 64 < cLine) : Op2 X dra .Eq gEq := ⟨_, op_eqD hu, opd_eq⟩
theorem o2Ne (hu : X.A.units + 64 < cLine) : Op2 X dra .NotEq gNe := ⟨_, op_neD hu, opd_ne⟩
theorem eChain {op op' : CmpOp} {g g' : D → D → Option D} (h : Op2 X dra op g) (h' : Op2 X dra op' g') (ha : BE X dra W a F1) (hb : BE X dra W b F2) (hc : BE X dra W d F3) (hm : lastMarks [op, op'] [b, d] = false := by with_unfolding_all rfl) : EE X dra W (.Compare a [op, op'] [b, d] pos) (cChain g g' F1 F2 F3) := by
  obtain ⟨r, h1, h2⟩ := h.ex
  obtain ⟨r', h3, h4⟩ := h'.ex
  exact ee_chain h1 h3 h2 h4 ha hb hc hm
theorem tChain {op op' : CmpOp} {g g' : D → D → Option D} (h : Op2 X dra op g) (h' : Op2 X dra op' g') (ha : BE X dra W a F1) (hb : BE X dra W b F2) (hc : BE X dra W d F3) (hm : lastMarks [op, op'] [b, d] = false := by with_unfolding_all rfl) : BT X dra W (.Compare a [op, op'] [b, d] pos) (cTst (cChain g g' F1 F2 F3)) := by
  obtain ⟨r, h1, h2⟩ := h.ex
  obtain ⟨r', h3, h4⟩ := h'.ex
  exact bt_chain h1 h3 h2 h4 ha hb hc hm
/-! is None -/
theorem eIsN {j p2} (ha : BE X dra W a F1) : EE X dra W (.Compare a [.Is] [.Constant .none j p2] pos) (cBin (gIsN false) F1 (cK .non)) := ee_cmp op_isN opd_isN ha ee_non.be (nomark _)
theorem eNotN {j p2} (ha : BE X dra W a F1) : EE X dra W (.Compare a [.IsNot] [.Constant .none j p2] pos) (cBin (gIsN true) F1 (cK .non)) := ee_cmp op_notN opd_notN ha ee_non.be (nomark _)
theorem tIsN {j p2} (ha : BE X dra W a F1) : BT X dra W (.Compare a [.Is] [.Constant .none j p2] pos) (cTst (cBin (gIsN false) F1 (cK .non))) := bt_cmp op_isN opd_isN ha ee_non.be (nomark _)
theorem tNotN {j p2} (ha : BE X dra W a F1) : BT X dra W (.Compare a [.IsNot] [.Constant .none j p2] pos) (cTst (cBin (gIsN true) F1 (cK .non))) := bt_cmp op_notN opd_notN ha ee_non.be (nomark _)
/-! op= -/
structure Ip2 (X : Cx) (dra : Option (Addr × Addr)) (op : Operator) (g : D → D → Option D) : Prop where
  ex : ∃ r, PIp X op r ∧ OpD X dra r g
theorem i2Add : Ip2 X dra .Add gAddI := ⟨_, ip_addI, opd_add0⟩
theorem i2Sub : Ip2 X dra .Sub gSub := ⟨_, ip_subI, opd_sub⟩
theorem i2Mul : Ip2 X dra .Mult gMulI := ⟨_, ip_mulW, opd_mulI⟩
theorem sAug {op : Operator} {g : D → D → Option D} {i : Nat} {x : Str} {p' : Pos} (hN : X.N.Nodup) (h : Ip2 X dra op g) (he : EE X dra W e F) (hi : X.N[i]? = some x := by rfl) (hx : Loc X.env.scope x := by first | exact Or.inl rfl | exact Or.inr rfl)
    (hf : X.fn x = true ∨ X.env.scope.names.lookup x = some .local := by first | exact .inl rfl | exact .inr rfl) : BS X dra W (.AugAssign (.Name x p') op e pos) (cSet i (cBin g (cVar i) F)) := by
  obtain ⟨r, h1, h2⟩ := h.ex
  exact bs_aug hN h1 h2 he hi hx hf
theorem sAug1 {op : Operator} {g : D → D → Option D} {i : Nat} {J : CEx} {y : Str} {p1 p2 : Pos} (h : Ip2 X dra op g) (hj : BE X dra W a J) (he : EE X dra W e F) (hN : X.N[i]? = some y := by rfl) (hv : Vis X.env.scope y := by first | exact Or.inl rfl | exact Or.inr (Or.inl rfl) | exact Or.inr (Or.inr rfl)) (hd : (y == ("__debug__" : Str)) = false := by decide)
    (hcd : (y == ("__classdict__" : Str)) = false := by decide)
    (ha : ∀ ov iv new, augStore a ov iv new = (do holding [new, ov, iv] (setItem ov iv new); release [new, ov, iv] []; pure .next) := by intros; rfl) : BS X dra W (.AugAssign (.Subscript (.Name y p1) a p2) op e pos) (cAug1 i J g F) := by
  obtain ⟨r, h1, h2⟩ := h.ex
  exact bs_aug1 h1 h2 hj he hN hv hd hcd ha
theorem sAug2 {op : Operator} {g : D → D → Option D} {i : Nat} {J1 J2 : CEx} {y : Str} {p1 p2 p3 : Pos} (h : Ip2 X dra op g) (hj : BE X dra W a J1) (hj2 : BE X dra W b J2) (he : EE X dra W e F) (hN : X.N[i]? = some y := by rfl) (hv : Vis X.env.scope y := by first | exact Or.inl rfl | exact Or.inr (Or.inl rfl) | exact Or.inr (Or.inr rfl)) (hs : PlainIx a := by intro _ _; rfl) (hd : (y == ("__debug__" : Str)) = false := by decide)
    (hcd : (y == ("__classdict__" : Str)) = false := by decide)
    (ha : ∀ ov iv new, augStore b ov iv new = (do holding [new, ov, iv] (setItem ov iv new); release [new, ov, iv] []; pure .next) := by intros; rfl) : BS X dra W (.AugAssign (.Subscript (.Subscript (.Name y p1) a p2) b p3) op e pos) (cAug2 i J1 J2 g F) := by
  obtain ⟨r, h1, h2⟩ := h.ex
  exact bs_aug2 h1 h2 hj hj2 he hN hv hs hd hcd ha
/-! builtins -/
theorem eAbs (hm : X.mg "abs" = none) (ha : BE X dra W a F) (hg : Gl X "abs" := by rfl) (hs : starEach [a] X.env = (false, eval a X.env) :: starEach [] X.env := by rfl) : EE X dra W (.Call (.Name "abs" p) [a] [] pos) (cB gAbs (cCons F cNil)) := ee_b1 (id := "abs") call_abs cd_abs hm (by decide +kernel) ha hg (by decide) (by decide) hs
theorem eInt (hm : X.mg "int" = none) (ha : BE X dra W a F) (hg : Gl X "int" := by rfl) (hs : starEach [a] X.env = (false, eval a X.env) :: starEach [] X.env := by rfl) : EE X dra W (.Call (.Name "int" p) [a] [] pos) (cB gInt (cCons F cNil)) := ee_ty call_int1 cd_int hm (by decide +kernel) (ba_cons ha ba_nil hs) hg (he := hs)
theorem eSum (hc : X.calm = true) (hm : X.mg "sum" = none) (ha : BE X dra W a F) (hg : Gl X "sum" := by rfl) (hs : starEach [a] X.env = (false, eval a X.env) :: starEach [] X.env := by rfl) : EE X dra W (.Call (.Name "sum" p) [a] [] pos) (cB gSum (cCons F cNil)) := ee_b1 (id := "sum") (cr_sum hc) cd_sum hm (by decide +kernel) ha hg (by decide) (by decide) hs
theorem eAll (hc : X.calm = true) (hm : X.mg "all" = none) (ha : BE X dra W a F) (hg : Gl X "all" := by rfl) (hs : starEach [a] X.env = (false, eval a X.env) :: starEach [] X.env := by rfl) : EE X dra W (.Call (.Name "all" p) [a] [] pos) (cB gAll (cCons F cNil)) := ee_b1 (id := "all") (cr_all hc) cd_all hm (by decide +kernel) ha hg (by decide) (by decide) hs
theorem eAny (hc : X.calm = true) (hm : X.mg "any" = none) (ha : BE X dra W a F) (hg : Gl X "any" := by rfl) (hs : starEach [a] X.env = (false, eval a X.env) :: starEach [] X.env := by rfl) : EE X dra W (.Call (.Name "any" p) [a] [] pos) (cB gAny (cCons F cNil)) := ee_b1 (id := "any") (cr_any hc) cd_any hm (by decide +kernel) ha hg (by decide) (by decide) hs
/-! names of the module -/
theorem eGint {x : Str} {i : Int} (h : ∃ t, X.mg x = some (.int i t)) (hg : Gl X x := by rfl) (hd : (x == ("__debug__" : Str)) = false := by decide) : EE X dra W (.Name x pos) (cK (.int i)) := by
  obtain ⟨t, h⟩ := h
  exact ee_glob (v := .int i) h ⟨t, rfl⟩ (fun _ _ _ _ _ => .int i) hg hd
/-- x is a tuple of the module -/
structure ConT (K : PySem.W.Frag) (mg : Str → Option Value) (x : Str) (ds : List D) : Prop where
  ex : ∃ (a : Addr) (vs : List V), mg x = some (.ref a) ∧ KT K a vs ∧ ∀ c O H, Rps c O H vs ds []
theorem eGtup {x : Str} {ds : List D} (h : ConT X.K X.mg x ds) (hg : Gl X x := by rfl) (hd : (x == ("__debug__" : Str)) = false := by decide) : EE X dra W (.Name x pos) (cK (.tup ds)) := by
  obtain ⟨a, vs, h1, h2, h3⟩ := h.ex
  exact ee_glob (v := .ref a) h1 rfl (fun c hK _ O H => .tupK (by rw [hK]; exact h2) (h3 c O H)) hg hd
theorem conT_ints {K : PySem.W.Frag} {mg : Str → Option Value} {x : Str} {a : Addr} (ns : List Int) (h : mg x = some (.ref a)) (k : KT K a (ns.map V.int)) : ConT K mg x (ns.map D.int) := ⟨a, _, h, k, fun _ _ _ => rps_ints ns⟩
end
/-- a def of the text as it stands -/
structure DefAt (K : PySem.W.Frag) (mg : Str → Option Value) (x : Str) (st : Stmt) (ps : List Str) : Prop where
  ex : ∃ (f : Addr) (fd : FuncData), Fun K x x st f fd ∧ mg x = some (.ref f) ∧ Binds K fd ps []
theorem has_at {P : Program} {w : World} {K : PySem.W.Frag} {mg : Str → Option Value} {base : Heap} {x : Str} {st : Stmt} {N ps : List Str} {k : Nat} {B : CSx} (d : DefAt K mg x st ps) (S : FnScope N ps (defScope st))
    (hb : ∀ (f : Addr) (dra : Option (Addr × Addr)) (cdv : Value) (A : Around) (outer : List Env) (s : Shared) (H : Hp) (E : XK), Room k (A.deeper (envOfC x (defScope st) s.heap.objs.size f cdv)) →
      BSs (cxOf (L2.CX P w) P w K mg base N x (defScope st) f cdv A outer s H E) dra (fun cls d _ H => E cls d H) (defBody st) B) : HasFn P w K mg base (k + 1) x ps.length (fnD N.length B) := by
  obtain ⟨f, fd, F, g, b⟩ := d.ex
  exact has_fn F g b S rfl (hb f)
/-! ### a, b, .. = x, y, .. where a tuple is made -/
def setN {α : Type} : List (Option α) → List Nat → List α → List (Option α)
  | l, i :: is, d :: ds => setN (l.set i (some d)) is ds
  | l, _, _ => l
def cParN (is : List Nat) (A : CAx) : CSx := fun ρ dr => match A ρ dr with
  | .ok ds dr => if ds.length = is.length ∧ ds.length ≤ sizeLine then .nx (setN ρ is ds) dr else .st
  | .ex e dr => .ex e ρ dr
  | .st => .st
theorem StOk.setN {c : DC} {en : En} {O : Addr → Prop} {dr : Dr} {H : Hp} {lf : List Addr} : ∀ {is : List Nat} {ds : List D} {vs : List V} {fp : List Addr} {ρ : Rho} {σ : L2.St}, StOk c en O (fp ++ lf) ρ dr σ H → Rps c O H vs ds fp → StOk c en O lf (DL.setN ρ is ds) dr (DL.setN σ is vs) H
  | [], ds, vs, fp, ρ, σ, S, r => by
    have e1 : DL.setN ρ [] ds = ρ := by cases ds <;> rfl
    have e2 : DL.setN σ [] vs = σ := by cases vs <;> rfl
    rw [e1, e2]
    exact S.shed
  | i :: is, [], vs, fp, ρ, σ, S, r => by
    have e : vs = [] := List.length_eq_zero_iff.mp r.len
    subst e
    exact S.shed
  | i :: is, d :: ds, [], fp, ρ, σ, S, r => nomatch r.len
  | i :: is, d :: ds, v :: vs, fp, ρ, σ, S, r => by
    obtain ⟨f1, f2, rfl, r1, r2⟩ := r.uncons
    rw [List.append_assoc] at S
    exact StOk.setN (is := is) (S.set r1) r2
inductive NmS (X : Cx) : List Expr → List Nat → TGs → Prop
  | nil : NmS X [] [] gNil
  | cons {i : Nat} {x : Str} {p : Pos} {es : List Expr} {is : List Nat} {t : TGs} (hN : X.N.Nodup) (r : NmS X es is t) (hi : X.N[i]? = some x := by rfl) (hx : Loc X.env.scope x := by first | exact Or.inl rfl | exact Or.inr rfl) (hf : X.fn x = true ∨ X.env.scope.names.lookup x = some .local := by first | exact .inl rfl | exact .inr rfl)
      (hs : (assignEach (.Name x p :: es) X.env).map (·.2) = assign (.Name x p) X.env :: (assignEach es X.env).map (·.2) := by rfl) : NmS X (.Name x p :: es) (i :: is) (gCons (gName i) t)
theorem NmS.pgs {X : Cx} {es : List Expr} {is : List Nat} {t : TGs} (h : NmS X es is t) : PGs X es t := by
  induction h with
  | nil => exact pgs_nil
  | cons hN r hi hx hf hs ih => exact pgs_cons (pg_name hN hi hx hf) ih hs
theorem NmS.go {X : Cx} {es : List Expr} {is : List Nat} {t : TGs} (h : NmS X es is t) : ∀ {vs : List V} {σ : L2.St} {H : Hp} {Q : L2.St → Hp → Prop}, vs.length = is.length → Q (DL.setN σ is vs) H → t vs σ H Q := by
  induction h with
  | nil =>
    intro vs σ H Q hl q
    have e : vs = [] := List.length_eq_zero_iff.mp hl
    subst e
    exact ⟨rfl, q⟩
  | cons hN r hi hx hf hs ih =>
    intro vs σ H Q hl q
    cases vs with
    | nil => cases hl
    | cons v vs => exact ⟨v, vs, rfl, ih (by simpa using hl) q⟩
theorem bs_parN {X : Cx} {dra : Option (Addr × Addr)} {W : WX} {es vs : List Expr} {is : List Nat} {t : TGs} {A : CAx} {pos pt pt2 : Pos} {kt k2} (hc : X.calm = true) (hn : NmS X es is t) (ha : EA X dra W vs A) (hw : swappedStores [.Tuple es kt pt] (.Tuple vs k2 pt2) X.env = pure none := by rfl)
    (hs : swapsWithSole [.Tuple es kt pt] (.Tuple vs k2 pt2) pos.line X.env = pure false := by rfl) (h1 : (assignEach [.Tuple es kt pt] X.env).map (·.2) = [assign (.Tuple es kt pt) X.env] := by rfl)
    (hl : (assignEach es X.env).length = is.length := by rfl) (hst : (assignEach es X.env).findIdx? (·.1) = none := by rfl) : BS X dra W (.Assign [.Tuple es kt pt] (.Tuple vs k2 pt2) pos) (cParN is A) :=
  ⟨wkS (ps_asg (pe_tup ha.pa) (pg_tup hc hn.pgs hl hst) hs hw h1) fun De σ H ⟨en, O, ρ, dr, S, w⟩ => by
    refine ⟨en, O, [], ρ, dr, S, ?_⟩
    unfold cParN at w
    cases eA : A ρ dr with
    | st => rw [eA] at w; exact w
    | ex e dr' => rw [eA] at w; exact fun cls od H' x dw ex => w cls od σ H' O (S.step x dw) (x.grow S.odr) ex
    | ok ds dr' =>
      rw [eA] at w
      intro us H' fp x dw r nd fr
      by_cases hz : ds.length = is.length ∧ ds.length ≤ sizeLine
      · have w : WpS (if ds.length = is.length ∧ ds.length ≤ sizeLine then .nx (DL.setN ρ is ds) dr' else .st) (dc X dra) en O H De W := w
        rw [if_pos hz] at w
        refine ⟨by rw [r.len]; exact hz.2, fun p hp => ⟨p, us, rfl, .of upd_same, r.len.trans hz.1, hn.go (r.len.trans hz.1) ?_⟩⟩
        have sm := same_upd (o := HO.tup us) hp
        have S1 := (S.hold x dw nd fr (r.trk ds)).step (.of_same sm) (dw.same sm)
        exact w _ _ _ (S1.setN (r.same sm)) ((x.trans (.of_same sm)).growO S.odr fr)
      · have w : WpS (if ds.length = is.length ∧ ds.length ≤ sizeLine then .nx (DL.setN ρ is ds) dr' else .st) (dc X dra) en O H De W := w
        rw [if_neg hz] at w
        exact w.elim⟩
/-- except x: what it takes -/
structure HasClause (K : PySem.W.Frag) (mg : Str → Option Value) (x : Str) (mt : Str → Option Bool) : Prop where
  ex : ∃ c, mg x = some c ∧ ∀ y b C, mt y = some b → mg y = some (.ref C) → PySem.W.exmOne K (.ref C) c = some b
theorem sTry {X : Cx} {dra : Option (Addr × Addr)} {W : WX} {x : Str} {body suite : List Stmt} {b₀ : Stmt} {np pos pos' : Pos} {mt : Str → Option Bool} {B S : CSx} (h : HasClause X.K X.mg x mt) (tk : Takes X W)
    (hb : ∀ (W' : WX) (pn : List (Addr × Obj)) (xe : Value → Shared → Prop), Takes (X.tr pn xe) W' → PassesOwn (model X.prog X.w) X.A X.env xe → BSs (X.tr pn xe) dra W' body B)
    (hsu : ∀ (a : Addr) (pn : List (Addr × Obj)), BSs (X.suite a pn) dra W0 (b₀ :: suite) S) (hg : Gl X x := by rfl) (hdb : (x == ("__debug__" : Str)) = false := by decide) (hs : X.stack = X.env :: X.outer := by rfl) (hf : X.env.frame = some X.env.locals := by rfl) :
    BS X dra W (.Try body [.ExceptHandler (some (.Name x np)) none (b₀ :: suite) pos'] [] [] pos) (cTry mt B S) := by
  obtain ⟨c, h1, h2⟩ := h.ex
  exact bs_try ⟨hg, hdb, .inl h1⟩ tk h2 hb hsu hs hf
end DL
/-! DL17 -/
/-! DL17: the draws of a law. -/
namespace DL
open PySem PySem.Spec PyProof.Rows L2

def Dw.filled (s : Dw) : Dw := if s.left = 0 ∧ s.p < s.cells.length then { s with q := (s.cells[s.p.toNat]?).getD 0, left := 60, p := s.p + 1 } else s
def Dw.next (s : Dw) : Dw := { s with cnt := s.cnt + 1, seed := (s.seed * 48271 + (s.cnt + 1) * (s.cnt + 1) * 69621 + 11).fmod 2147483647 }
/-- what is drawn, what is left -/
def takeD (m : Int) (s : Dw) : Int × Dw :=
  if 0 < s.filled.left then (s.filled.q.fmod m, { s.filled with q := s.filled.q.fdiv m, left := if 0 < s.filled.q.fdiv m then s.filled.left - 1 else 0 })
  else ((s.filled.next.seed.fdiv 13).fmod m, s.filled.next)
def okT (m : Int) (s : Dw) : Bool := decide (0 ≤ s.p) && decide (m ≠ 0) && decide (m.natAbs.log2 < 9000) && decide (s.seed.natAbs < 2 ^ 100) && decide ((s.cnt + 1).natAbs < 2 ^ 100) && decide (s.cells.length ≤ 1000)
def f_take : CF := fun ds dr => match ds, dr with
  | [.dr, .int m], some s => if okT m s = true then .ok (.int (takeD m s).1) (some (takeD m s).2) else .st
  | _, _ => .st
def dl (q : Addr) (s : Dw) : List V := [.ref q, .int s.p, .int s.q, .int s.left, .int s.seed, .int s.cnt]
section
variable {K : PySem.W.Frag} {σ : L2.St} {H : Hp} {p q : Addr} {s : Dw} {Q : VK} {xs : List V} {v : V}
theorem rd (k : Int) (h0 : σ[0]? = some (some (.ref p))) (hp : H p = some (.lst xs)) (hk : atI xs k = some v) (h : Q v H) : tOp (rIxL K) (tVar 0) (tC (.int k)) σ H Q := ⟨.ref p, h0, p, xs, k, v, rfl, rfl, .of hp, hk, h⟩
theorem wr {R : L2.St → Hp → Prop} (k : Int) {j : Nat} (h0 : σ[0]? = some (some (.ref p))) (hp : H p = some (.lst xs)) (hk : ixN xs.length k = some j) (h : R σ (upd H p (.lst (xs.set j v)))) : L2.gSub (tVar 0) (tC (.int k)) rSetL v σ H R := ⟨.ref p, h0, p, xs, k, j, rfl, rfl, hp, hk, h⟩
end
/-- the list of draws as it stands -/
structure DA (H0 H : Hp) (p q : Addr) (s : Dw) : Prop where
  hp : H p = some (.lst (dl q s))
  hq : H q = some (.lst (s.cells.map V.int))
  ne : q ≠ p
  ext : ∀ a o, H0 a = some o → a ≠ p → H a = some o
  trk : ∀ a, H0 a ≠ none → H a ≠ none
section
variable {H0 H : Hp} {p q t : Addr} {s s' : Dw}
theorem DA.put (d : DA H0 H p q s) (xs : List V) (e : xs = dl q s') (c : s'.cells = s.cells) : DA H0 (upd H p (.lst xs)) p q s' := by
  subst e
  refine ⟨upd_same, by rw [upd_ne d.ne, c]; exact d.hq, d.ne, fun a o h n => by rw [upd_ne n]; exact d.ext a o h n, fun a h => ?_⟩
  by_cases e : a = p
  · subst e; rw [upd_same]; exact fun z => nomatch z
  · rw [upd_ne e]; exact d.trk a h
theorem DA.new (d : DA H0 H p q s) {o : HO} (h : H t = none) : DA H0 (upd H t o) p q s := by
  have n1 : p ≠ t := fun e => by rw [← e, d.hp] at h; cases h
  have n2 : q ≠ t := fun e => by rw [← e, d.hq] at h; cases h
  have g : ∀ a, H a ≠ none → a ≠ t := fun a ha e => ha (e ▸ h)
  refine ⟨by rw [upd_ne n1]; exact d.hp, by rw [upd_ne n2]; exact d.hq, d.ne, fun a o' e n => ?_, fun a e => ?_⟩
  · have k := d.ext a o' e n
    rw [upd_ne (g a (by rw [k]; exact fun z => nomatch z))]; exact k
  · rw [upd_ne (g a (d.trk a e))]; exact d.trk a e
end
theorem dl_at (q : Addr) (s : Dw) : atI (dl q s) 0 = some (.ref q) ∧ atI (dl q s) 1 = some (.int s.p) ∧ atI (dl q s) 2 = some (.int s.q) ∧ atI (dl q s) 3 = some (.int s.left) ∧ atI (dl q s) 4 = some (.int s.seed) ∧ atI (dl q s) 5 = some (.int s.cnt) := ⟨rfl, rfl, rfl, rfl, rfl, rfl⟩
/-! ### _law_take -/
def NT : List Str := ["draw", "many", "found"]
section
variable {P : Program} {w : World} {K : PySem.W.Frag} {mg : Str → Option Value} {base : Heap}
abbrev tIx (K : PySem.W.Frag) (k : Int) : TE := tOp (rIxL K) (tVar 0) (tC (.int k))
abbrev gAt (k : Int) : TG := L2.gSub (tVar 0) (tC (.int k)) rSetL
abbrev rFd : R2 := rI (fun _ j => j ≠ 0 ∧ j.natAbs.log2 < 9000) fun i j => .int (i.fdiv j)
abbrev rMd : R2 := rI (fun _ j => j ≠ 0) fun i j => .int (i.fmod j)
abbrev rMw : R2 := rI CMulW fun i j => .int (i * j)
abbrev rAd : R2 := rI0 fun i j => .int (i + j)
abbrev rSu : R2 := rI0 fun i j => .int (i - j)
abbrev rLtI : R2 := rI0 fun i j => .bl (decide (i < j))
abbrev rGtI : R2 := rI0 fun i j => .bl (decide (j < i))
abbrev rInt1 : List V → Hp → VK → Prop := fun xs H Q => (∃ i, xs = [.int i] ∧ Q (.int i) H) ∨ ∃ k, xs = [.bl k] ∧ Q (.int (if k then 1 else 0)) H
abbrev rLen1 (K : PySem.W.Frag) : List V → Hp → VK → Prop := fun xs H Q => ∃ x n, xs = [x] ∧ LenV K x H n ∧ Q (.int n) H
/-- if draw[3] == 0 and draw[1] < len(draw[0]): .. -/
def tTk1 (K : PySem.W.Frag) : TS := tIfS (tAnd (tTest (tOp rEq (tIx K 3) (tC (.int 0)))) (tTest (tOp rLtI (tIx K 1) (tCB (rLen1 K) (tCons (tIx K 0) tNil)))))
  (tAsg (tTup (tCons (tOp (rIxL K) (tIx K 0) (tIx K 1)) (tCons (tC (.int 60)) (tCons (tOp rAd (tIx K 1) (tC (.int 1))) tNil)))) (gTup K 3 (gCons (gAt 2) (gCons (gAt 3) (gCons (gAt 1) gNil))))) tNext
def tTk2 (K : PySem.W.Frag) : TS := tIfS (tTest (tOp rGtI (tIx K 3) (tC (.int 0))))
  (tSeq (tAsg (tOp rMd (tCB rInt1 (tCons (tIx K 2) tNil)) (tVar 1)) (gName 2)) (tSeq (tAsg (tOp rFd (tIx K 2) (tVar 1)) (gAt 2))
    (tSeq (tAsg (tIf (tTest (tOp rGtI (tIx K 2) (tC (.int 0)))) (tOp rSu (tIx K 3) (tC (.int 1))) (tC (.int 0))) (gAt 3)) (tRet (tVar 2))))) tNext
def tTk3 (K : PySem.W.Frag) : TS := tAsg (tOp rAd (tIx K 5) (tC (.int 1))) (gAt 5)
def tTk4 (K : PySem.W.Frag) : TS := tAsg (tOp rMd (tCB rInt1 (tCons (tOp rAd (tOp rAd (tOp rMw (tIx K 4) (tC (.int 48271))) (tOp rMw (tOp rMw (tIx K 5) (tIx K 5)) (tC (.int 69621)))) (tC (.int 11))) tNil)) (tC (.int 2147483647))) (gAt 4)
def tTk5 (K : PySem.W.Frag) : TS := tRet (tOp rMd (tCB rInt1 (tCons (tOp rFd (tIx K 4) (tC (.int 13))) tNil)) (tVar 1))
def tTake (K : PySem.W.Frag) : TS := tSeq (tTk1 K) (tSeq (tTk2 K) (tSeq (tTk3 K) (tSeq (tTk4 K) (tTk5 K))))
section
variable {H0 H : Hp} {p q : Addr} {s : Dw} {σ : L2.St} {D : Ends}
theorem tk1 (h0 : σ[0]? = some (some (.ref p))) (d : DA H0 H p q s) (hp0 : 0 ≤ s.p) (hl : s.cells.length ≤ 1000) (k : ∀ H', DA H0 H' p q s.filled → D.nx σ H') : tTk1 K D σ H := by
  obtain ⟨e0, e1, e2, e3, e4, e5⟩ := dl_at q s
  refine rd 3 h0 d.hp e3 ⟨rfl, _, rfl, ?_⟩
  by_cases c1 : s.left = 0
  · rw [c1]
    refine rd 1 h0 d.hp e1 (rd 0 h0 d.hp e0 ⟨_, s.cells.length, rfl, .inl ⟨_, .of d.hq, by rw [List.length_map]⟩, _, _, rfl, rfl, _, rfl, ?_⟩)
    by_cases c2 : s.p < s.cells.length
    · rw [decide_eq_true c2]
      dsimp only
      rw [if_pos rfl]
      have hlt : s.p.toNat < s.cells.length := by omega
      have hcell : atI (s.cells.map V.int) ((s.p.toNat : Nat) : Int) = some (.int ((s.cells[s.p.toNat]?).getD 0)) := atI_nat (by
        rw [List.getElem?_map, List.getElem?_eq_getElem hlt]
        rfl)
      have ep : ((s.p.toNat : Nat) : Int) = s.p := Int.toNat_of_nonneg hp0
      rw [ep] at hcell
      refine rd 0 h0 d.hp e0 (rd 1 h0 d.hp e1 ⟨q, _, s.p, _, rfl, rfl, .of d.hq, hcell, rd 1 h0 d.hp e1 ⟨_, _, rfl, rfl, (by show 3 ≤ sizeLine; decide), fun t ht => ?_⟩⟩)
      have d1 := d.new (o := .tup [.int ((s.cells[s.p.toNat]?).getD 0), .int 60, .int (s.p + 1)]) ht
      refine ⟨t, _, rfl, .of upd_same, rfl, _, _, rfl, wr 2 h0 d1.hp rfl ⟨_, _, rfl, ?_⟩⟩
      have d2 := d1.put (s' := { s with q := (s.cells[s.p.toNat]?).getD 0 }) _ rfl rfl
      refine wr 3 h0 d2.hp rfl ⟨_, _, rfl, ?_⟩
      have d3 := d2.put (s' := { s with q := (s.cells[s.p.toNat]?).getD 0, left := 60 }) _ rfl rfl
      refine wr 1 h0 d3.hp rfl ⟨rfl, ?_⟩
      have d4 := d3.put (s' := { s with q := (s.cells[s.p.toNat]?).getD 0, left := 60, p := s.p + 1 }) _ rfl rfl
      refine k _ ?_
      unfold Dw.filled
      rw [if_pos ⟨c1, c2⟩]
      exact d4
    · rw [decide_eq_false c2]
      dsimp only
      rw [if_neg Bool.false_ne_true]
      refine k _ ?_
      unfold Dw.filled
      rw [if_neg fun z => c2 z.2]
      exact d
  · have : decide (V.int s.left = V.int 0) = false := by simpa using c1
    rw [this]
    dsimp only
    rw [if_neg Bool.false_ne_true]
    refine k _ ?_
    unfold Dw.filled
    rw [if_neg fun z => c1 z.1]
    exact d
theorem tk2 (m : Int) (h0 : σ[0]? = some (some (.ref p))) (h1 : σ[1]? = some (some (.int m))) (hl : σ.length = 3) (d : DA H0 H p q s) (hm : m ≠ 0 ∧ m.natAbs.log2 < 9000) (kr : 0 < s.left → ∀ H', DA H0 H' p q { s with q := s.q.fdiv m, left := if 0 < s.q.fdiv m then s.left - 1 else 0 } → D.rt (.int (s.q.fmod m)) H')
    (k : ¬ 0 < s.left → D.nx σ H) : tTk2 K D σ H := by
  obtain ⟨e0, e1, e2, e3, e4, e5⟩ := dl_at q s
  refine rd 3 h0 d.hp e3 ⟨_, _, rfl, rfl, _, rfl, ?_⟩
  by_cases c1 : 0 < s.left
  · rw [decide_eq_true c1]
    dsimp only
    rw [if_pos rfl]
    refine rd 2 h0 d.hp e2 (.inl ⟨_, rfl, _, h1, _, _, rfl, rfl, hm.1, ?_⟩)
    have h0' : (σ.set 2 (some (.int (s.q.fmod m))))[0]? = some (some (.ref p)) := by rw [List.getElem?_set_ne (by decide)]; exact h0
    have h1' : (σ.set 2 (some (.int (s.q.fmod m))))[1]? = some (some (.int m)) := by rw [List.getElem?_set_ne (by decide)]; exact h1
    have h2' : (σ.set 2 (some (.int (s.q.fmod m))))[2]? = some (some (.int (s.q.fmod m))) := List.getElem?_set_self (by omega)
    refine rd 2 h0' d.hp e2 ⟨_, h1', _, _, rfl, rfl, hm, wr 2 h0' d.hp rfl ?_⟩
    have d2 := d.put (s' := { s with q := s.q.fdiv m }) _ rfl rfl
    obtain ⟨f0, f1, f2, f3, f4, f5⟩ := dl_at q { s with q := s.q.fdiv m }
    refine rd 2 h0' d2.hp f2 ⟨_, _, rfl, rfl, _, rfl, ?_⟩
    by_cases c2 : 0 < s.q.fdiv m
    · rw [decide_eq_true c2]
      dsimp only
      rw [if_pos rfl]
      refine rd 3 h0' d2.hp f3 ⟨_, _, rfl, rfl, wr 3 h0' d2.hp rfl ⟨_, h2', kr c1 _ ?_⟩⟩
      rw [if_pos c2]
      exact d2.put (s' := { s with q := s.q.fdiv m, left := s.left - 1 }) _ rfl rfl
    · rw [decide_eq_false c2]
      dsimp only
      rw [if_neg Bool.false_ne_true]
      refine wr 3 h0' d2.hp rfl ⟨_, h2', kr c1 _ ?_⟩
      rw [if_neg c2]
      exact d2.put (s' := { s with q := s.q.fdiv m, left := 0 }) _ rfl rfl
  · rw [decide_eq_false c1]
    dsimp only
    rw [if_neg Bool.false_ne_true]
    exact k c1
theorem tk345 (m : Int) (h0 : σ[0]? = some (some (.ref p))) (h1 : σ[1]? = some (some (.int m))) (d : DA H0 H p q s) (hm : m ≠ 0) (hs : s.seed.natAbs < 2 ^ 100) (hc : (s.cnt + 1).natAbs < 2 ^ 100) (k : ∀ H', DA H0 H' p q s.next → D.rt (.int ((s.next.seed.fdiv 13).fmod m)) H') :
    tSeq (tTk3 K) (tSeq (tTk4 K) (tTk5 K)) D σ H := by
  obtain ⟨e0, e1, e2, e3, e4, e5⟩ := dl_at q s
  refine rd 5 h0 d.hp e5 ⟨_, _, rfl, rfl, wr 5 h0 d.hp rfl ?_⟩
  have d2 := d.put (s' := { s with cnt := s.cnt + 1 }) _ rfl rfl
  obtain ⟨f0, f1, f2, f3, f4, f5⟩ := dl_at q { s with cnt := s.cnt + 1 }
  have w1 : CMulW s.seed 48271 := wide_mul hs (b := 20) (by decide) (by decide) (by decide) (by decide)
  have w2 : CMulW (s.cnt + 1) (s.cnt + 1) := wide_mul hc hc (by decide) (by decide) (by decide)
  have w3 : CMulW ((s.cnt + 1) * (s.cnt + 1)) 69621 := wide_mul (a := 200) (b := 20) (by
    rw [Int.natAbs_mul, show (2 : Nat) ^ 200 = 2 ^ 100 * 2 ^ 100 from by rw [← Nat.pow_add]]
    exact Nat.mul_lt_mul'' hc hc) (by decide) (by decide) (by decide) (by decide)
  refine rd 4 h0 d2.hp f4 ⟨_, _, rfl, rfl, w1, rd 5 h0 d2.hp f5 (rd 5 h0 d2.hp f5 ⟨_, _, rfl, rfl, w2, _, _, rfl, rfl, w3, _, _, rfl, rfl, _, _, rfl, rfl, .inl ⟨_, rfl, _, _, rfl, rfl, (show (2147483647 : Int) ≠ 0 by decide), wr 4 h0 d2.hp rfl ?_⟩⟩)⟩
  have d3 := d2.put (s' := s.next) _ rfl rfl
  obtain ⟨g0, g1, g2, g3, g4, g5⟩ := dl_at q s.next
  exact rd 4 h0 d3.hp g4 ⟨_, _, rfl, rfl, ⟨by decide, by decide⟩, .inl ⟨_, rfl, _, h1, _, _, rfl, rfl, hm, k _ d3⟩⟩
theorem pure_take {vs : List V} {Q : VK} {E : XK} {mg : Str → Option Value} (h : spD K mg 2 f_take vs H Q E) : tTake K { nx := fun _ H' => Q .non H', rt := Q } (L2.start ["draw", "many", "found"] vs) H := by
  obtain ⟨hl, dra, O, ds, dr, tr, hp, dw, r, w1⟩ := h
  unfold f_take at w1
  split at w1
  · rename_i m s
    by_cases ok : okT m s = true
    · rw [if_pos ok] at w1
      obtain ⟨v, u, f1, f2, rfl, ef, r1, r2⟩ := r.two
      cases r2
      cases r1 with
      | dr e1 =>
        rename_i pp
        have e1 : dra = some pp := e1
        obtain ⟨p', e2, k1, k2, k3⟩ := dw
        have e2 : dra = some p' := e2
        rw [e1] at e2
        cases e2
        unfold okT at ok
        simp only [Bool.and_eq_true, decide_eq_true_eq] at ok
        obtain ⟨⟨⟨⟨⟨o1, o2⟩, o3⟩, o4⟩, o5⟩, o6⟩ := ok
        have d0 : DA H H pp.1 pp.2 s := ⟨k1, k2, k3, fun _ _ e _ => e, fun _ e => e⟩
        have fin : ∀ (i : Int) (s' : Dw) H', DA H H' pp.1 pp.2 s' → takeD m s = (i, s') → Q (.int i) H' := fun i s' H' d e => by
          have w1 : OkE ⟨K, mg, dra⟩ O H Q (.int (takeD m s).1) (some (takeD m s).2) := w1
          rw [e] at w1
          exact w1 _ H' [] ⟨fun a o h n => d.ext a o h (n pp e1), d.trk⟩ ⟨pp, e1, d.hp, d.hq, d.ne⟩ (.int i) List.nodup_nil fun _ z => nomatch z
        have hf : s.filled.seed = s.seed ∧ s.filled.cnt = s.cnt ∧ s.filled.cells = s.cells := by
          unfold Dw.filled
          split <;> exact ⟨rfl, rfl, rfl⟩
        refine tk1 (s := s) rfl d0 o1 o6 fun H1 d1 => ?_
        refine tk2 m rfl rfl rfl d1 ⟨o2, o3⟩ (fun c H2 d2 => fin _ _ H2 d2 ?_) fun c => ?_
        · unfold takeD
          rw [if_pos c]
        · refine tk345 m rfl rfl d1 o2 (by rw [hf.1]; exact o4) (by rw [hf.2.1]; exact o5) fun H2 d2 => fin _ _ H2 d2 ?_
          unfold takeD
          rw [if_neg c]
    · rw [if_neg ok] at w1; exact w1.elim
  · exact w1.elim
end
end
end DL
/-! DL18 -/
/-! DL18: the draws are laid, the law itself. -/
namespace DL
open PySem PySem.Spec PyProof.Rows L2

def absI (i : Int) : Int := if i < 0 then -i else i
def seedS (s c : Int) : Int := (s * 48271 + c).fmod 2147483629 + 1
def drawOf (ns : List Int) : Dw := ⟨ns.map absI, 0, 0, 0, ns.foldl seedS 7, 0⟩
def spDraw (K : PySem.W.Frag) : Sp := fun vs H Q _ => ∃ (a : Addr) (ns : List Int), vs = [.ref a] ∧ SqL K H a (ns.map V.int) ∧ ns.length ≤ 63 ∧
  ∀ (H' : Hp) (p q : Addr), Same H H' → H p = none → H q = none → q ≠ p → H' p = some (.lst (dl q (drawOf ns))) → H' q = some (.lst ((drawOf ns).cells.map V.int)) → Q (.ref p) H'
theorem seedS_ok (s c : Int) : 0 ≤ seedS s c ∧ seedS s c < 2 ^ 31 := by
  unfold seedS
  have h1 := Int.fmod_nonneg_of_pos (s * 48271 + c) (b := 2147483629) (by decide)
  have h2 := Int.fmod_lt_of_pos (s * 48271 + c) (b := 2147483629) (by decide)
  omega
theorem seed_ok : ∀ (ns : List Int) (s : Int), 0 ≤ s ∧ s < 2 ^ 31 → 0 ≤ ns.foldl seedS s ∧ ns.foldl seedS s < 2 ^ 31
  | [], _, h => h
  | c :: ns, s, _ => seed_ok ns _ (seedS_ok s c)
theorem cut63 (xs : List V) (h : xs.length ≤ 63) : cutV xs none (some 63) = xs := by
  unfold cutV
  rw [HT.sIx_none, show HT.sIx xs.length xs.length (some 63) = min 63 xs.length from HT.sIx_nat xs.length xs.length 63, List.drop_zero, Nat.min_eq_right h, Nat.sub_zero, List.take_length]
def ND : List Str := ["script", "seed", "cell"]
def tSl63 (K : PySem.W.Frag) : TE := L2.tSl (rSlL K) (tVar 0) tNoPart (tPart (tC (.int 63)))
def tDraw (K : PySem.W.Frag) : TS := tSeq (tAsg (tC (.int 7)) (gName 1)) (tSeq (tFor (iList K (tSl63 K)) (gName 2) (tAsg (tOp rAd (tOp rMd (tCB rInt1 (tCons (tOp rAd (tOp rMw (tVar 1) (tC (.int 48271))) (tVar 2)) tNil)) (tC (.int 2147483629))) (tC (.int 1))) (gName 1)))
  (tRet (tLst (tCons (tLc (iList K (tSl63 K)) (gName 2) tYes (tCB (fun xs H Q => ∃ i, xs = [.int i] ∧ Q (.int (if i < 0 then -i else i)) H) (tCons (tCB rInt1 (tCons (tVar 2) tNil)) tNil)) [2]) (tCons (tC (.int 0)) (tCons (tC (.int 0)) (tCons (tC (.int 0)) (tCons (tVar 1) (tCons (tC (.int 0)) tNil)))))))))
section
variable {K : PySem.W.Frag} {H : Hp}
theorem take_foldl {α β : Type} (f : β → α → β) (b : β) {l : List α} {i : Nat} {x : α} (h : l[i]? = some x) : (l.take (i + 1)).foldl f b = f ((l.take i).foldl f b) x := by
  have : l.take (i + 1) = l.take i ++ [x] := by
    rw [List.take_succ, h]
    rfl
  rw [this, List.foldl_append]
  rfl
theorem pure_draw {vs : List V} {Q : VK} {E : XK} (h : spDraw K vs H Q E) : tDraw K { nx := fun _ H' => Q .non H', rt := Q } (L2.start ND vs) H := by
  obtain ⟨a, ns, rfl, hS, hl, k⟩ := h
  have hl' : (ns.map V.int).length ≤ 63 := by rw [List.length_map]; exact hl
  have cut := cut63 (ns.map V.int) hl'
  refine ⟨.ref a, rfl, 63, rfl, a, ns.map V.int, rfl, hS, fun c nc => ?_⟩
  rw [cut]
  have s1 : Same H (upd H c (.lst (ns.map V.int))) := same_upd nc
  refine ⟨c, rfl, ⟨_, .of upd_same⟩, for_list (K := K) (a := c) (xs := ns.map V.int) (fun i σ H' => ∃ v : Option V, σ = [some (.ref a), some (.int ((ns.take i).foldl seedS 7)), v] ∧ Same (upd H c (.lst (ns.map V.int))) H') ⟨none, rfl, .refl _⟩ (fun i σ H' _ ⟨_, _, sm⟩ => .of (sm _ _ upd_same)) ?_ ?_⟩
  · rintro i y σ H' hi ⟨v, rfl, sm⟩
    rw [List.getElem?_map] at hi
    obtain ⟨z, hz, rfl⟩ := Option.map_eq_some_iff.mp hi
    have w : CMulW ((ns.take i).foldl seedS 7) 48271 := by
      have := seed_ok (ns.take i) 7 (by decide)
      exact wide_mul (a := 31) (b := 20) (by omega) (by decide) (by decide) (by decide) (by decide)
    refine ⟨_, rfl, _, _, rfl, rfl, w, _, rfl, _, _, rfl, rfl, .inl ⟨_, rfl, _, _, rfl, rfl, (show (2147483629 : Int) ≠ 0 by decide), _, _, rfl, rfl, some (.int z), ?_, sm⟩⟩
    rw [take_foldl _ _ hz]
    rfl
  · rintro σ H1 ⟨v, rfl, sm⟩
    rw [List.length_map, List.take_length]
    have sH : Same H H1 := s1.trans sm
    refine ⟨.ref a, rfl, 63, rfl, a, ns.map V.int, rfl, sH.seq hS, fun c2 nc2 => ?_⟩
    rw [cut]
    have s2 : Same H1 (upd H1 c2 (.lst (ns.map V.int))) := same_upd nc2
    refine ⟨c2, rfl, ⟨_, .of upd_same⟩, fun q nq => ?_⟩
    have hqc : c2 ≠ q := fun e => by rw [e, upd_same] at nq; cases nq
    have s3 : Same (upd H1 c2 (.lst (ns.map V.int))) (upd (upd H1 c2 (.lst (ns.map V.int))) q (.lst [])) := same_upd nq
    refine lc_list (K := K) (a := c2) (xs := ns.map V.int) (fun i H' => H' = upd (upd H1 c2 (.lst (ns.map V.int))) q (.lst ((ns.take i).map fun i => V.int (absI i)))) rfl (fun i H' _ e => by
      rw [e]
      exact .of (by rw [upd_ne hqc, upd_same])) ?_ ?_
    · rintro i y H' hi rfl
      rw [List.getElem?_map] at hi
      obtain ⟨z, hz, rfl⟩ := Option.map_eq_some_iff.mp hi
      refine ⟨rfl, ⟨_, rfl, .inl ⟨_, rfl, _, rfl, _, upd_same, ?_, ?_⟩⟩⟩
      · rw [List.length_map, List.length_take]
        have := sizeLine_eq
        omega
      · rw [List.take_succ, hz, upd_upd]
        simp [absI]
    · rintro H2 rfl
      rw [List.length_map, List.take_length]
      refine ⟨_, rfl, (by show 6 ≤ sizeLine; decide), fun p np => ?_⟩
      have nqp : q ≠ p := fun e => by rw [← e, upd_same] at np; cases np
      have nH : ∀ b, (upd (upd H1 c2 (.lst (ns.map V.int))) q (.lst (ns.map fun i => V.int (absI i)))) b = none → H b = none := fun b e => by
        have nb : b ≠ q := fun z => by rw [z, upd_same] at e; cases e
        rw [upd_ne nb] at e
        exact sH.free (s2.free e)
      refine k _ p q ?_ (nH p np) (sH.free (s2.free nq)) nqp upd_same ?_
      · refine fun b o e => ?_
        have nb : b ≠ p := fun z => by rw [z, nH p np] at e; cases e
        have nb2 : b ≠ q := fun z => by rw [z, sH.free (s2.free nq)] at e; cases e
        rw [upd_ne nb, upd_ne nb2]
        exact s2 _ _ (sH _ _ e)
      · rw [upd_ne nqp, upd_same]
        simp [drawOf]
end
/-! ### the law -/
structure HasDraw (P : Program) (w : World) (K : PySem.W.Frag) (mg : Str → Option Value) (base : Heap) (k : Nat) : Prop where
  ex : ∃ (f : Addr) (fd : FuncData) (ps : List Str), FnOk P w K mg base (L2.CX P w) k f fd ps (spDraw K) ∧ mg "_law_draw" = some (.ref f) ∧ PySem.W.keepIn K (.ref f) = true ∧ Binds K fd ps []
/-- what is known at the rest of a law's body: i the slot of the draws -/
def rho0 (n i : Nat) : Rho := (List.replicate n none).set i (some .dr)
def spLaw (K : PySem.W.Frag) (n i : Nat) (R : CSx) : Sp := fun vs H Q _ => ∃ (a : Addr) (ns : List Int) (dr' : Dr), vs = [.ref a] ∧ SqL K H a (ns.map V.int) ∧ ns.length ≤ 63 ∧ R (rho0 n i) (some (drawOf ns)) = .rt (.bl true) dr' ∧ ∀ H', Q (.bl true) H'
section
variable {P : Program} {w : World} {K : PySem.W.Frag} {mg : Str → Option Value} {base : Heap}
theorem law_body {X : Cx} {W : WX} {rest : List Stmt} {R : CSx} {i n : Nat} {y x : Str} {p1 p2 p3 cp ap : Pos} (hX : X.N.length = n) (hN : X.N.Nodup) (hi0 : 0 < i) (hin : i < n) (hD : HasDraw X.prog X.w X.K X.mg X.base k) (hr : Room k X.A) (tk : Takes X W)
    (hi : X.N[i]? = some y) (hx : Loc X.env.scope y) (hf : X.fn y = true ∨ X.env.scope.names.lookup y = some .local) (h0 : X.N[0]? = some x) (hv : Vis X.env.scope x) (hxd : (x == ("__debug__" : Str)) = false) (hxc : (x == ("__classdict__" : Str)) = false)
    (hg : Gl X "_law_draw") (hs : starEach [.Name x ap] X.env = (false, eval (.Name x ap) X.env) :: starEach [] X.env) (hpl : (backTo cp (starEach [] X.env)).any (·.1) = false)
    (hsw : swapsWith (.Call (.Name "_law_draw" p2) [.Name x ap] [] cp) (some (.Name y p1)) p3.line X.env = pure false)
    (hb : ∀ dra, BSs X dra W rest R) : ∃ t, PSs X (.Assign [.Name y p1] (.Call (.Name "_law_draw" p2) [.Name x ap] [] cp) p3 :: rest) t ∧ ∀ (De : Ends) (vs : List V) (H : Hp) (E : XK), vs.length = 1 → spLaw X.K n i R vs H De.rt E → t De (L2.start X.N vs) H := by
  obtain ⟨f, fd, ps, F, g1, g2, g3⟩ := hD.ex
  refine ⟨_, pss_cons (ps_set (i := i) hN hi hx (pe_callS F hr hg g1 g2 g3 (fun σ => passAt tk σ) (pa_cons (pv 0 h0 hv hxd hxc) pa_nil hs) (by decide) hs hpl) hsw hf) (u := fun De σ H => ∃ dra, tSt (dc X dra) W R De σ H) ⟨fun pins s σ H De I ⟨dra, hw⟩ => (hb dra).ps.run pins s σ H De I hw⟩, fun De vs H E hl h => ?_⟩
  obtain ⟨a, ns, dr', rfl, hS, hn, hR, k⟩ := h
  refine ⟨.ref a, rfl, a, ns, rfl, hS, hn, fun H' p q sm hp hq hqp hH hQ => ?_⟩
  have hs0 : (L2.start X.N [V.ref a]).length = n := by
    unfold L2.start
    simp only [List.length_append, List.length_map, List.length_replicate, List.length_cons, List.length_nil]
    omega
  refine ⟨some (p, q), ⟨H', fun a => a = p⟩, fun a => a = p, rho0 n i, some (drawOf ns), ⟨⟨List.replicate n [], ?_, ?_, fun b hb => ?_, fun j d hj => ?_⟩, ?_, fun b hb => ?_, fun _ h => h, .refl, ⟨(p, q), rfl, hH, hQ, hqp⟩, fun p' e => ?_, fun p' e => ?_, fun b hb => ?_, fun p' e => ?_⟩, ?_⟩
  · unfold rho0
    rw [List.length_set, List.length_replicate, List.length_replicate]
  · simp
  · simp at hb
  · unfold rho0 at hj
    by_cases hji : i = j
    · subst hji
      rw [List.getElem?_set_self (by rw [List.length_replicate]; exact hin)] at hj
      cases hj
      refine ⟨.ref p, [], by rw [List.getElem?_set_self (by rw [hs0]; exact hin)], ?_, .dr (p := (p, q)) rfl⟩
      rw [List.getElem?_replicate, if_pos hin]
    · rw [List.getElem?_set_ne hji, List.getElem?_replicate] at hj
      split at hj <;> cases hj
  · unfold rho0
    rw [List.length_set, List.length_replicate, List.length_set, hs0]
  · have hb : b = p := hb
    subst hb; rw [hH]; exact fun z => nomatch z
  · cases e; rfl
  · cases e
    show H' p ≠ none
    rw [hH]; exact fun z => nomatch z
  · have hb : b = p := hb
    subst hb
    show H' b ≠ none
    rw [hH]; exact fun z => nomatch z
  · cases e
    show H' q ≠ none
    rw [hQ]; exact fun z => nomatch z
  · rw [hR]
    exact fun v H2 fp x dw r nd fr => by
      cases r
      exact k H2
theorem law_fn {st : Stmt} {f : Addr} {fd : FuncData} {N : List Str} {k i : Nat} {R : CSx} (Fu : Fun K "law" "law" st f fd) (S : FnScope N ["script"] (defScope st))
    (hb : ∀ (f : Addr) (cdv : Value) (A : Around) (outer : List Env) (s : Shared) (H : Hp) (E : XK), Room k (A.deeper (envOfC "law" (defScope st) s.heap.objs.size f cdv)) →
      ∃ t, PSs (cxOf (L2.CX P w) P w K mg base N "law" (defScope st) f cdv A outer s H E) (defBody st) t ∧ ∀ (De : Ends) (vs : List V) (H : Hp) (E : XK), vs.length = 1 → spLaw K N.length i R vs H De.rt E → t De (L2.start N vs) H) : FnOk P w K mg base (L2.CX P w) (k + 1) f fd ["script"] (spLaw K N.length i R) := by
  refine Fu.okX S (fun vs H Q E h => ?_) (fun cdv A outer s H vs Q E hr h => ?_)
  · obtain ⟨a, ns, dr', rfl, _⟩ := h; rfl
  · obtain ⟨t, h1, h2⟩ := hb f cdv A outer s H E hr
    exact ⟨t, h1, h2 _ vs H E (by obtain ⟨a, ns, dr', rfl, _⟩ := h; rfl) h⟩
end
end DL
/-! DL19 -/
/-! DL19: what the top has written, from the facts of the written part. -/
namespace DL
open PySem PySem.Spec PyProof.Rows L2
section
variable {K : PySem.W.Frag} {h : Heap} {mg : Str → Option Value}
theorem mkDef {x : Str} {st : Stmt} {ps : List Str} {f : Addr} {oc : Value} {od an : Option Addr} {osl : Array (Option Value)} {kV doc pm cdv ct : Value} (X : K.In h) (G : h.Ns mainGlobals mg) (a : PySem.W.nsIn K mainGlobals x = some (some (.ref f)))
    (l : K.lookup f = some ⟨oc, od, .func (PySem.W.fnOf x x (defArgs st) (defBody st) (defScope st) .none kV doc pm an cdv ct), osl⟩) (c : PySem.W.codeIn K cdv x = true) (k : PySem.W.keepIn K (.ref f) = true)
    (b : ∀ (kV doc pm : Value) (an : Option Addr) (cdv ct : Value) (us : List Value), us.length = ps.length → bindArgs (PySem.W.fnOf x x (defArgs st) (defBody st) (defScope st) .none kV doc pm an cdv ct) ⟨us, []⟩ = pure (ps.zip us)) : DefAt K mg x st ps :=
  ⟨f, _, fun_mk l c k, PySem.W.mg_of X G a, (fun_mk l c k).binds b⟩
theorem mkLaw {st : Stmt} {f : Addr} {oc : Value} {od an : Option Addr} {osl : Array (Option Value)} {kV doc pm cdv ct : Value} (X : K.In h) (G : h.Ns mainGlobals mg) (a : PySem.W.nsIn K mainGlobals "law" = some (some (.ref f)))
    (l : K.lookup f = some ⟨oc, od, .func (PySem.W.fnOf "law" "law" (defArgs st) (defBody st) (defScope st) .none kV doc pm an cdv ct), osl⟩) (c : PySem.W.codeIn K cdv "law" = true) (k : PySem.W.keepIn K (.ref f) = true)
    (b : ∀ (kV doc pm : Value) (an : Option Addr) (cdv ct : Value) (s : Shared) (u : Value), BindsTo s (PySem.W.fnOf "law" "law" (defArgs st) (defBody st) (defScope st) .none kV doc pm an cdv ct) ⟨[u], []⟩ [("script", u)]) :
    ∃ f fd, Fun K "law" "law" st f fd ∧ mg "law" = some (.ref f) ∧ ∀ (s : Shared) (u : Value), BindsTo s fd ⟨[u], []⟩ [("script", u)] :=
  ⟨f, _, fun_mk l c k, PySem.W.mg_of X G a, fun s u => b _ _ _ _ _ _ s u⟩
theorem mkExc {x : Str} {C : Addr} {B newId initId : String} {bmB : List Value} (X : K.In h) (G : h.Ns mainGlobals mg) (F : ExcBaseFacts B newId initId bmB) (a : PySem.W.nsIn K mainGlobals x = some (some (.ref C))) (e : PySem.W.excIn K C bmB newId = true) (k : PySem.W.keepIn K (.ref C) = true)
    (s : PySem.W.subIn K (.ref C) (.type "BaseException") = some true) (t : PySem.W.typeIn K (.ref C) = some (.type "type")) : HasExc K mg x := ⟨C, B, newId, initId, bmB, F, e, PySem.W.mg_of X G a, k, s, t⟩
theorem mkTup {x : Str} {a : Addr} {o : Obj} {its : Array Value} {n : Nat} (ns : List Int) (X : K.In h) (G : h.Ns mainGlobals mg) (q : PySem.W.nsIn K mainGlobals x = some (some (.ref a))) (l : K.lookup a = some o) (c : o.cls = .type "tuple") (d : o.data = .seq its n) (z : its.size ≤ sizeLine) (v : Vals (ns.map V.int) its.toList) : ConT K mg x (ns.map D.int) :=
  conT_ints ns (PySem.W.mg_of X G q) ⟨o, its, n, l, c, d, z, v⟩
theorem mkInt {x : Str} {i : Int} {t : Tok} (X : K.In h) (G : h.Ns mainGlobals mg) (q : PySem.W.nsIn K mainGlobals x = some (some (.int i t))) : ∃ t, mg x = some (.int i t) := ⟨t, PySem.W.mg_of X G q⟩
theorem mkNone {x : Str} (X : K.In h) (G : h.Ns mainGlobals mg) (q : PySem.W.nsIn K mainGlobals x = some none) : mg x = none := PySem.W.mg_none_of X G q
theorem mkClause1 {x : Str} {C : Addr} (X : K.In h) (G : h.Ns mainGlobals mg) (a : PySem.W.nsIn K mainGlobals x = some (some (.ref C))) (s : PySem.W.subIn K (.ref C) (.type "BaseException") = some true) (d : PySem.W.hasDictIn K C = true) (t : PySem.W.typeIn K (.ref C) = some (.type "type"))
    (ss : PySem.W.subIn K (.ref C) (.ref C) = some true) : HasClause K mg x (fun y => if y = x then some true else none) := by
  refine ⟨.ref C, PySem.W.mg_of X G a, fun y b C' e1 e2 => ?_⟩
  by_cases hy : y = x
  · rw [if_pos hy] at e1
    cases e1
    rw [hy, PySem.W.mg_of X G a] at e2
    cases e2
    exact PySem.W.exm_ref s d t ss
  · rw [if_neg hy] at e1
    cases e1
variable {Z : Prop}
theorem wDef (x : Str) (st : Stmt) (ps : List Str) {f : Addr} {oc : Value} {od an : Option Addr} {osl : Array (Option Value)} {kV doc pm cdv ct : Value} (X : K.In h) (G : h.Ns mainGlobals mg) (a : PySem.W.nsIn K mainGlobals x = some (some (.ref f)))
    (l : K.lookup f = some ⟨oc, od, .func (PySem.W.fnOf x x (defArgs st) (defBody st) (defScope st) .none kV doc pm an cdv ct), osl⟩) (c : PySem.W.codeIn K cdv x = true) (k : PySem.W.keepIn K (.ref f) = true)
    (b : ∀ (kV doc pm : Value) (an : Option Addr) (cdv ct : Value) (us : List Value), us.length = ps.length → bindArgs (PySem.W.fnOf x x (defArgs st) (defBody st) (defScope st) .none kV doc pm an cdv ct) ⟨us, []⟩ = pure (ps.zip us)) (z : DefAt K mg x st ps → Z) : Z := z (mkDef X G a l c k b)
theorem wExc (x : Str) {C : Addr} {B newId initId : String} {bmB : List Value} (X : K.In h) (G : h.Ns mainGlobals mg) (F : ExcBaseFacts B newId initId bmB) (a : PySem.W.nsIn K mainGlobals x = some (some (.ref C))) (e : PySem.W.excIn K C bmB newId = true) (k : PySem.W.keepIn K (.ref C) = true)
    (s : PySem.W.subIn K (.ref C) (.type "BaseException") = some true) (t : PySem.W.typeIn K (.ref C) = some (.type "type")) (z : HasExc K mg x → Z) : Z := z (mkExc X G F a e k s t)
theorem wTup (x : Str) (ns : List Int) {a : Addr} {o : Obj} {its : Array Value} {n : Nat} (X : K.In h) (G : h.Ns mainGlobals mg) (q : PySem.W.nsIn K mainGlobals x = some (some (.ref a))) (l : K.lookup a = some o) (c : o.cls = .type "tuple") (d : o.data = .seq its n) (s : its.size ≤ sizeLine) (v : Vals (ns.map V.int) its.toList) (z : ConT K mg x (ns.map D.int) → Z) : Z :=
  z (mkTup ns X G q l c d s v)
theorem wInt (x : Str) (i : Int) {t : Tok} (X : K.In h) (G : h.Ns mainGlobals mg) (q : PySem.W.nsIn K mainGlobals x = some (some (.int i t))) (z : (∃ t, mg x = some (.int i t)) → Z) : Z := z ⟨t, PySem.W.mg_of X G q⟩
theorem wNone (x : Str) (X : K.In h) (G : h.Ns mainGlobals mg) (q : PySem.W.nsIn K mainGlobals x = some none) (z : mg x = none → Z) : Z := z (PySem.W.mg_none_of X G q)
theorem wClause1 (x : Str) {C : Addr} (X : K.In h) (G : h.Ns mainGlobals mg) (a : PySem.W.nsIn K mainGlobals x = some (some (.ref C))) (s : PySem.W.subIn K (.ref C) (.type "BaseException") = some true) (d : PySem.W.hasDictIn K C = true) (t : PySem.W.typeIn K (.ref C) = some (.type "type"))
    (ss : PySem.W.subIn K (.ref C) (.ref C) = some true) (z : HasClause K mg x (fun y => if y = x then some true else none) → Z) : Z := z (mkClause1 X G a s d t ss)
theorem wLaw (st : Stmt) {f : Addr} {oc : Value} {od an : Option Addr} {osl : Array (Option Value)} {kV doc pm cdv ct : Value} (X : K.In h) (G : h.Ns mainGlobals mg) (a : PySem.W.nsIn K mainGlobals "law" = some (some (.ref f)))
    (l : K.lookup f = some ⟨oc, od, .func (PySem.W.fnOf "law" "law" (defArgs st) (defBody st) (defScope st) .none kV doc pm an cdv ct), osl⟩) (c : PySem.W.codeIn K cdv "law" = true) (k : PySem.W.keepIn K (.ref f) = true)
    (b : ∀ (kV doc pm : Value) (an : Option Addr) (cdv ct : Value) (s : Shared) (u : Value), BindsTo s (PySem.W.fnOf "law" "law" (defArgs st) (defBody st) (defScope st) .none kV doc pm an cdv ct) ⟨[u], []⟩ [("script", u)])
    (z : ∀ fa fd, mg "law" = some (.ref fa) → Fun K "law" "law" st fa fd → (∀ (s : Shared) (u : Value), BindsTo s fd ⟨[u], []⟩ [("script", u)]) → Z) : Z :=
  z f _ (PySem.W.mg_of X G a) (fun_mk l c k) fun s u => b _ _ _ _ _ _ s u
end
theorem sp_law_of {K : PySem.W.Frag} {n i : Nat} {R : CSx} {H : Hp} {a : Addr} {ns : List Int} (hl : ns.length ≤ 63) (hS : SqL K H a (ns.map V.int)) (h : ∃ dr', R (rho0 n i) (some (drawOf ns)) = .rt (.bl true) dr') : spLaw K n i R [.ref a] H (fun v _ => v = .bl true) fun _ _ _ => False := by
  obtain ⟨dr', h⟩ := h
  exact ⟨a, ns, dr', rfl, hS, hl, h, fun _ => rfl⟩
theorem cx_out {P : Program} {w : World} {H : Hp} {s : Shared} {e : Value} {s' : Shared} (h : L2.CX P w [] H s (fun _ _ _ => False) e s') : False := by
  obtain ⟨_, _, _, _, _, _, _, _, _, _, _, _, z⟩ := h
  exact z
end DL
/-! MB1 -/
/-! MB1: what the mirrors come to: the combinators, step by step. -/
namespace DL
open PySem PySem.Spec PyProof.Rows L2
/-- turns of a loop while slot i is not nought -/
def fuelAbs (i : Nat) (ρ : Rho) : Nat := match ρ[i]? with
  | some (some (.int b)) => b.natAbs + 1
  | _ => 1
section
variable {α β : Type} {a : α} {dr : Dr} {e : Exn} {f : α → Dr → R β} {ρ : Rho} {d d1 d2 : D} {i j k : Nat} {F G F1 F2 F3 : CEx} {A : CAx} {T T1 T2 : CTx} {S S1 S2 : CSx} {g g' : D → D → Option D} {h : List D → Option D} {fs : D → Dr → SR}
@[simp] theorem bind_ok : (R.ok a dr).bind f = f a dr := by rfl
@[simp] theorem bind_ex : (R.ex (α := α) e dr).bind f = .ex e dr := by rfl
@[simp] theorem bind_st : (R.st (α := α)).bind f = .st := by rfl
@[simp] theorem stm_ok : (R.ok d dr).stm ρ fs = fs d dr := by rfl
@[simp] theorem stm_ex : (R.ex (α := D) e dr).stm ρ fs = .ex e ρ dr := by rfl
@[simp] theorem stm_st : (R.st (α := D)).stm ρ fs = .st := by rfl
@[simp] theorem ropt_some : R.opt (some a) dr = .ok a dr := by rfl
@[simp] theorem ropt_none : R.opt (none : Option α) dr = .st := by rfl
@[simp] theorem sopt_some {f : α → SR} : SR.opt (some a) f = f a := by rfl
@[simp] theorem sopt_none {f : α → SR} : SR.opt none f = .st := by rfl
@[simp] theorem noEx_ok : noEx (R.ok a dr) = .ok a dr := by rfl
@[simp] theorem noEx_st : noEx (R.st (α := α)) = .st := by rfl
@[simp] theorem noEx_ex : noEx (R.ex (α := α) e dr) = .st := by rfl
@[simp] theorem e_var : cVar i ρ dr = match ρ[i]? with
  | some (some d) => .ok d dr
  | _ => .st := by rfl
@[simp] theorem e_k : cK d ρ dr = .ok d dr := by rfl
@[simp] theorem e_frz : cFrz F ρ dr = (F ρ dr).bind fun d dr => if d.frz = true then .ok d dr else .st := by rfl
@[simp] theorem e_bin : cBin g F1 F2 ρ dr = (F1 ρ dr).bind fun x dr => (F2 ρ dr).bind fun y dr => R.opt (g x y) dr := by rfl
@[simp] theorem e_tst : cTst F ρ dr = (F ρ dr).bind fun d dr => match d with
  | .bl k => .ok k dr
  | _ => .st := by rfl
@[simp] theorem e_tru : cTru F ρ dr = (F ρ dr).bind fun d dr => R.opt d.tru dr := by rfl
@[simp] theorem e_and : cAnd T1 T2 ρ dr = (T1 ρ dr).bind fun b dr => if b = true then T2 ρ dr else .ok false dr := by rfl
@[simp] theorem e_or : cOr T1 T2 ρ dr = (T1 ρ dr).bind fun b dr => if b = true then .ok true dr else T2 ρ dr := by rfl
@[simp] theorem e_notT : cNotT T ρ dr = (T ρ dr).bind fun b dr => .ok (!b) dr := by rfl
@[simp] theorem e_not : cNot F ρ dr = (F ρ dr).bind fun d dr => R.opt (d.tru.map fun k => .bl (!k)) dr := by rfl
@[simp] theorem e_if : cIf T F G ρ dr = (T ρ dr).bind fun b dr => if b = true then F ρ dr else G ρ dr := by rfl
@[simp] theorem e_andV : cAndV F G ρ dr = (F ρ dr).bind fun d dr => match d with
  | .bl k => if k = true then G ρ dr else .ok (.bl false) dr
  | _ => .st := by rfl
@[simp] theorem e_orV : cOrV F G ρ dr = (F ρ dr).bind fun d dr => match d with
  | .bl k => if k = true then .ok (.bl true) dr else G ρ dr
  | _ => .st := by rfl
@[simp] theorem e_chain : cChain g g' F1 F2 F3 ρ dr = (F1 ρ dr).bind fun x dr => (F2 ρ dr).bind fun y dr => match g x y with
  | some (.bl k) => if k = true then (F3 ρ dr).bind fun z dr => R.opt (g' y z) dr else .ok (.bl false) dr
  | _ => .st := by rfl
@[simp] theorem e_neg : cNeg F ρ dr = (F ρ dr).bind fun d dr => match d with
  | .int i => .ok (.int (-i)) dr
  | _ => .st := by rfl
@[simp] theorem e_nil : cNil ρ dr = .ok [] dr := by rfl
@[simp] theorem e_cons : cCons F A ρ dr = (F ρ dr).bind fun x dr => (A ρ dr).bind fun xs dr => .ok (x :: xs) dr := by rfl
@[simp] theorem e_tup : cTup A ρ dr = (A ρ dr).bind fun ds dr => if ds.length ≤ sizeLine then .ok (.tup (D.fzs ds)) dr else .st := by rfl
@[simp] theorem e_lst : cLst A ρ dr = (A ρ dr).bind fun ds dr => if ds.length ≤ sizeLine then .ok (.lst true ds) dr else .st := by rfl
@[simp] theorem e_b : cB h A ρ dr = (A ρ dr).bind fun ds dr => R.opt (h ds) dr := by rfl
@[simp] theorem e_isi {t : String} : cIsi t F ρ dr = (F ρ dr).bind fun d dr => R.opt ((d.isi t).map .bl) dr := by rfl
@[simp] theorem e_call {C : CF} : cCall C A ρ dr = (A ρ dr).bind fun ds dr => C (D.fzs ds) dr := by rfl
@[simp] theorem e_rev : cRev F ρ dr = (F ρ dr).bind fun d dr => R.opt (gRev (match d with
  | .lst _ xs => .lst false (D.fzs xs)
  | d => d)) dr := by rfl
@[simp] theorem e_rg1 : cRg1 F ρ dr = (F ρ dr).bind fun d dr => match d with
  | .int n => .ok ((0 : Int), n) dr
  | _ => .st := by rfl
@[simp] theorem e_lrg {Z : Rho → Dr → R (Int × Int)} : cLstRg Z ρ dr = (Z ρ dr).bind fun ab dr => if okRg ab.1 ab.2 = true then .ok (.lst true (rgD ab.1 ab.2)) dr else .st := by rfl
@[simp] theorem s_seq : cSeq S1 S2 ρ dr = match S1 ρ dr with
  | .nx ρ' dr' => S2 ρ' dr'
  | r => r := by rfl
@[simp] theorem s_skip : cSkip ρ dr = .nx ρ dr := by rfl
@[simp] theorem s_fz : cFz i ρ dr = match ρ[i]? with
  | some (some d) => .nx (ρ.set i (some d.fz)) dr
  | _ => .st := by rfl
@[simp] theorem s_set : cSet i F ρ dr = (F ρ dr).stm ρ fun d dr => .nx (ρ.set i (some d.fz)) dr := by rfl
@[simp] theorem s_setO : cSetO i F ρ dr = (F ρ dr).stm ρ fun d dr => .nx (ρ.set i (some d)) dr := by rfl
@[simp] theorem s_ret : cRet F ρ dr = (F ρ dr).stm ρ fun d dr => .rt d dr := by rfl
@[simp] theorem s_retN : cRetN ρ dr = .rt .non dr := by rfl
@[simp] theorem s_raise {x : Str} : cRaise x ρ dr = .ex ⟨x, none⟩ ρ dr := by rfl
@[simp] theorem s_drop : cDrop F ρ dr = (F ρ dr).stm ρ fun _ dr => .nx ρ dr := by rfl
@[simp] theorem s_if : cIfS T S1 S2 ρ dr = match T ρ dr with
  | .st => .st
  | .ok b dr' => if b = true then S1 ρ dr' else S2 ρ dr'
  | .ex e dr' => .ex e ρ dr' := by rfl
@[simp] theorem s_par2 : cPar2 i j A ρ dr = match A ρ dr with
  | .ok [d1, d2] dr => .nx ((ρ.set i (some d1)).set j (some d2)) dr
  | .ex e dr => .ex e ρ dr
  | _ => .st := by rfl
@[simp] theorem s_par3 : cPar3 i j k A ρ dr = match A ρ dr with
  | .ok [d1, d2, d3] dr => .nx (((ρ.set i (some d1)).set j (some d2)).set k (some d3)) dr
  | .ex e dr => .ex e ρ dr
  | _ => .st := by rfl
@[simp] theorem s_app : cApp i F ρ dr = match ρ[i]? with
  | some (some (.lst true xs)) => (F ρ dr).stm ρ fun d dr => if xs.length < sizeLine then .nx (ρ.set i (some (.lst true (xs ++ [d])))) dr else .st
  | _ => .st := by rfl
@[simp] theorem s_asg {C : CGx} : cAsg C F ρ dr = (F ρ dr).stm ρ fun d dr => match C ρ d.fz with
  | some ρ' => .nx ρ' dr
  | none => .st := by rfl
@[simp] theorem g_nm : gNm i ρ d = some (ρ.set i (some d)) := by rfl
@[simp] theorem fz_int {i : Int} : (D.int i).fz = .int i := by rfl
@[simp] theorem fz_bl {b : Bool} : (D.bl b).fz = .bl b := by rfl
@[simp] theorem fz_str {x : Str} : (D.str x).fz = .str x := by rfl
@[simp] theorem fz_non : D.non.fz = .non := by rfl
@[simp] theorem fz_dr : D.dr.fz = .dr := by rfl
@[simp] theorem fz_tup {xs : List D} : (D.tup xs).fz = .tup xs := by rfl
@[simp] theorem fz_lst {o : Bool} {xs : List D} : (D.lst o xs).fz = .lst false (D.fzs xs) := by rfl
@[simp] theorem fzs_nil : D.fzs [] = [] := by rfl
@[simp] theorem fzs_cons {x : D} {xs : List D} : D.fzs (x :: xs) = x.fz :: D.fzs xs := by rfl
@[simp] theorem frz_int {i : Int} : (D.int i).frz = true := by rfl
@[simp] theorem frz_bl {b : Bool} : (D.bl b).frz = true := by rfl
@[simp] theorem frz_str {x : Str} : (D.str x).frz = true := by rfl
@[simp] theorem frz_non : D.non.frz = true := by rfl
@[simp] theorem frz_dr : D.dr.frz = true := by rfl
@[simp] theorem frz_tup {xs : List D} : (D.tup xs).frz = true := by rfl
@[simp] theorem frz_lst {o : Bool} {xs : List D} : (D.lst o xs).frz = !o := by rfl
@[simp] theorem tru_bl {b : Bool} : (D.bl b).tru = some b := by rfl
@[simp] theorem tru_int {i : Int} : (D.int i).tru = some (i != 0) := by rfl
@[simp] theorem tru_tup {xs : List D} : (D.tup xs).tru = some (!xs.isEmpty) := by rfl
/-! operators on numbers -/
variable {a b : Int}
@[simp] theorem gadd_int : gAdd (.int a) (.int b) = some (.int (a + b)) := by rfl
@[simp] theorem gaddI_int : gAddI (.int a) (.int b) = some (.int (a + b)) := by rfl
@[simp] theorem gsub_int : gSub (.int a) (.int b) = some (.int (a - b)) := by rfl
theorem gmul_int (h : a.natAbs.log2 + b.natAbs.log2 < 1000000) : gMul (.int a) (.int b) = some (.int (a * b)) := if_pos (decide_eq_true h)
theorem gmulI_int (h : a.natAbs.log2 + b.natAbs.log2 < 1000000) : gMulI (.int a) (.int b) = some (.int (a * b)) := if_pos (decide_eq_true h)
theorem gfd_int (h : b ≠ 0) (h2 : b.natAbs.log2 < 9000) : gFd (.int a) (.int b) = some (.int (a.fdiv b)) := if_pos (by unfold cDiv; rw [decide_eq_true h, decide_eq_true h2]; rfl)
theorem gmod_int (h : b ≠ 0) : gMod (.int a) (.int b) = some (.int (a.fmod b)) := if_pos (decide_eq_true h)
@[simp] theorem glt_int : gLt (.int a) (.int b) = some (.bl (decide (a < b))) := by rfl
@[simp] theorem gle_int : gLe (.int a) (.int b) = some (.bl (decide (a ≤ b))) := by rfl
@[simp] theorem ggt_int : gGt (.int a) (.int b) = some (.bl (decide (b < a))) := by rfl
@[simp] theorem gge_int : gGe (.int a) (.int b) = some (.bl (decide (b ≤ a))) := by rfl
@[simp] theorem geq_int : gEq (.int a) (.int b) = some (.bl (a == b)) := by rfl
@[simp] theorem gne_int : gNe (.int a) (.int b) = some (.bl (!(a == b))) := by rfl
@[simp] theorem ne_str {x y : Str} : (D.str x).eqv (.str y) = (x == y) := by rfl
@[simp] theorem gabs_int : gAbs [.int a] = some (.int (if a < 0 then -a else a)) := by rfl
@[simp] theorem gint_int : gInt [.int a] = some (.int a) := by rfl
@[simp] theorem gint_bl {b : Bool} : gInt [.bl b] = some (.int (if b then 1 else 0)) := by rfl
end
/-! ### fnD -/
theorem fnD_rt {n : Nat} {S : CSx} {ds : List D} {dr dr' : Dr} {d : D} (h : S (ds.map some ++ List.replicate (n - ds.length) none) dr = .rt d dr') : fnD n S ds dr = .ok d dr' := by
  unfold fnD; rw [h]
theorem fnD_nx {n : Nat} {S : CSx} {ds : List D} {dr dr' : Dr} {ρ : Rho} (h : S (ds.map some ++ List.replicate (n - ds.length) none) dr = .nx ρ dr') : fnD n S ds dr = .ok .non dr' := by
  unfold fnD; rw [h]
theorem fnD_ex {n : Nat} {S : CSx} {ds : List D} {dr dr' : Dr} {ρ : Rho} {e : Exn} (h : S (ds.map some ++ List.replicate (n - ds.length) none) dr = .ex e ρ dr') : fnD n S ds dr = .ex e dr' := by
  unfold fnD; rw [h]
@[simp] theorem line_val : sizeLine = 16777216 := sizeLine_eq
/-! ### numbers -/
/-- the greatest common divisor, by turns: st lays the two numbers -/
theorem gcd_loop {T : CTx} {B : CSx} {st : Int → Int → Rho} (hT : ∀ (a b : Nat) dr, T (st a b) dr = .ok (decide (b ≠ 0)) dr) (hB : ∀ (a b : Nat) dr, b ≠ 0 → B (st a b) dr = .nx (st b ((a % b : Nat) : Int)) dr) :
    ∀ (n a b : Nat) (dr : Dr), b < n → whG T B n (st a b) dr = .nx (st (Nat.gcd a b) 0) dr
  | 0, _, _, _, h => absurd h (Nat.not_lt_zero _)
  | n + 1, a, b, dr, h => by
    unfold whG
    rw [hT]
    by_cases hb : b = 0
    · subst hb
      simp
    · have : decide (b ≠ 0) = true := decide_eq_true hb
      rw [this]
      simp only [hB a b dr hb]
      rw [gcd_loop hT hB n b (a % b) dr (by have := Nat.mod_lt a (Nat.pos_of_ne_zero hb); omega), Nat.gcd_comm b, ← Nat.gcd_rec b a, Nat.gcd_comm]
theorem gmod_nat {a b : Nat} (h : b ≠ 0) : gMod (.int a) (.int b) = some (.int ((a % b : Nat) : Int)) := by
  rw [gmod_int (by omega), Int.fmod_eq_emod_of_nonneg _ (by omega)]
  simp
theorem abs_nat (a : Int) : (if a < 0 then -a else a) = ((a.natAbs : Nat) : Int) := by split <;> omega
@[simp] theorem beq_nat0 (b : Nat) : ((b : Int) == 0) = decide (b = 0) := by
  rw [Bool.eq_iff_iff]; simp
def qD (q : Rat) : D := .tup [.int q.num, .int (q.den : Int)]
/-- n // (sign · gcd), d // (sign · gcd) are the fraction's own -/
theorem fdiv_gcd (n d : Int) (hd : d ≠ 0) : n.fdiv (d.sign * (Int.gcd n d : Int)) = (Rat.divInt n d).num ∧ d.fdiv (d.sign * (Int.gcd n d : Int)) = ((Rat.divInt n d).den : Int) := by
  have hg : Int.gcd n d ≠ 0 := fun z => hd (Int.gcd_eq_zero_iff.mp z).2
  have h1 : ((Int.gcd n d : Nat) : Int) ∣ n := Int.gcd_dvd_left ..
  have h2 : ((Int.gcd n d : Nat) : Int) ∣ d := Int.gcd_dvd_right ..
  rw [Rat.num_divInt, Rat.den_divInt, if_neg hd, Int.gcd_comm d n]
  generalize Int.gcd n d = g at *
  obtain ⟨k, rfl⟩ := h1
  obtain ⟨l, rfl⟩ := h2
  have g0 : (g : Int) ≠ 0 := by omega
  have l0 : l ≠ 0 := fun z => hd (by rw [z, Int.mul_zero])
  have sg : ((g : Int) * l).sign = l.sign := by rw [Int.sign_mul, Int.sign_eq_one_of_pos (by omega), Int.one_mul]
  rw [sg]
  rcases Int.lt_or_gt_of_ne l0 with z | z
  · rw [Int.sign_eq_neg_one_of_neg z]
    constructor
    · rw [show (-1 : Int) * g = -(g : Int) from by omega, show (g : Int) * k = -(g : Int) * (-k) from by grind, Int.mul_fdiv_cancel_left _ (by omega), show (-1 : Int) * (-(g : Int) * -k) = (g : Int) * (-k) from by grind, Int.mul_ediv_cancel_left _ g0]
    · rw [show (-1 : Int) * g = -(g : Int) from by omega, show (g : Int) * l = -(g : Int) * (-l) from by grind, Int.mul_fdiv_cancel_left _ (by omega), Int.natAbs_mul, Int.natAbs_neg, Int.natAbs_neg, Int.natAbs_natCast, Nat.mul_div_cancel_left _ (by omega)]
      omega
  · rw [Int.sign_eq_one_of_pos z]
    constructor
    · rw [Int.one_mul, Int.mul_fdiv_cancel_left _ g0, Int.one_mul, Int.mul_ediv_cancel_left _ g0]
    · rw [Int.one_mul, Int.mul_fdiv_cancel_left _ g0, Int.natAbs_mul, Int.natAbs_natCast, Nat.mul_div_cancel_left _ (by omega)]
      omega
@[simp] theorem ix_0 {x : D} {xs : List D} : gIx (.tup (x :: xs)) (.int 0) = some x := show atI (x :: xs) ((0 : Nat) : Int) = some x from atI_nat rfl
@[simp] theorem ix_1 {x y : D} {xs : List D} : gIx (.tup (x :: y :: xs)) (.int 1) = some y := show atI (x :: y :: xs) ((1 : Nat) : Int) = some y from atI_nat rfl
/-- at most N bits -/
structure Sm (N : Nat) (q : Rat) : Prop where
  n : q.num.natAbs < 2 ^ N
  d : q.den < 2 ^ N
theorem Sm.mono {N M : Nat} {q : Rat} (h : Sm N q) (k : N ≤ M) : Sm M q := ⟨Nat.lt_of_lt_of_le h.n (Nat.pow_le_pow_right (by decide) k), Nat.lt_of_lt_of_le h.d (Nat.pow_le_pow_right (by decide) k)⟩
theorem Sm.pos {N : Nat} {q : Rat} (h : Sm N q) : 0 < N := by
  rcases Nat.eq_zero_or_pos N with z | z
  · subst z
    have := h.d
    have := q.den_pos
    omega
  · exact z
theorem lg {x N : Nat} (h : x < 2 ^ N) (h0 : 0 < N) : x.log2 < N := PySem.Flt.log2_lt_of h0 h
theorem mulBits {a b : Int} {N M : Nat} (ha : a.natAbs < 2 ^ N) (hb : b.natAbs < 2 ^ M) : (a * b).natAbs < 2 ^ (N + M) := by
  rw [Int.natAbs_mul, Nat.pow_add]
  exact Nat.mul_lt_mul'' ha hb
theorem addBits {a b : Int} {N : Nat} (ha : a.natAbs < 2 ^ N) (hb : b.natAbs < 2 ^ N) : (a + b).natAbs < 2 ^ (N + 1) := by
  have := Int.natAbs_add_le a b
  rw [Nat.pow_succ]
  omega
theorem divInt_sm {n d : Int} {N : Nat} (hn : n.natAbs < 2 ^ N) (hd : d.natAbs < 2 ^ N) (h0 : d ≠ 0) : Sm N (Rat.divInt n d) := by
  refine ⟨?_, ?_⟩
  · rw [Rat.num_divInt]
    refine Nat.lt_of_le_of_lt ?_ hn
    refine Nat.le_trans (Int.natAbs_ediv_le_natAbs _ _) ?_
    rw [Int.natAbs_mul, Int.natAbs_sign, if_neg h0, Nat.one_mul]
    exact Nat.le_refl _
  · rw [Rat.den_divInt, if_neg h0]
    exact Nat.lt_of_le_of_lt (Nat.div_le_self _ _) hd
theorem add_divInt (a b : Rat) : a + b = Rat.divInt (a.num * b.den + b.num * a.den) (a.den * b.den : Int) := by
  rw [Rat.add_def', ← Rat.divInt_ofNat]
  simp
theorem mul_divInt (a b : Rat) : a * b = Rat.divInt (a.num * b.num) (a.den * b.den : Int) := by
  rw [Rat.mul_def', ← Rat.divInt_ofNat]
  simp
theorem Sm.den {N : Nat} {q : Rat} (h : Sm N q) : ((q.den : Int)).natAbs < 2 ^ N := by simpa using h.d
theorem den_ne (q : Rat) : (q.den : Int) ≠ 0 := by have := q.den_pos; omega
theorem denmul_ne (a b : Rat) : ((a.den : Int) * b.den) ≠ 0 := Int.mul_ne_zero (den_ne a) (den_ne b)
theorem Sm.add {N M : Nat} {a b : Rat} (h : Sm N a) (k : Sm M b) : Sm (N + M + 1) (a + b) := by
  rw [add_divInt]
  refine divInt_sm (addBits (mulBits h.n k.den) (by rw [Nat.add_comm N M]; exact mulBits k.n h.den)) ?_ (denmul_ne a b)
  exact Nat.lt_trans (mulBits h.den k.den) (Nat.pow_lt_pow_right (by decide) (Nat.lt_succ_self _))
theorem Sm.mul {N M : Nat} {a b : Rat} (h : Sm N a) (k : Sm M b) : Sm (N + M) (a * b) := by
  rw [mul_divInt]
  exact divInt_sm (mulBits h.n k.n) (mulBits h.den k.den) (denmul_ne a b)
theorem Sm.neg {N : Nat} {a : Rat} (h : Sm N a) : Sm N (-a) := ⟨by rw [Rat.neg_num, Int.natAbs_neg]; exact h.n, by rw [Rat.neg_den]; exact h.d⟩
theorem sm0 : Sm 1 0 := ⟨by decide, by decide⟩
theorem sm1 : Sm 1 1 := ⟨by decide, by decide⟩
theorem qD_0 : qD 0 = .tup [.int 0, .int 1] := rfl
theorem qD_1 : qD 1 = .tup [.int 1, .int 1] := rfl
theorem gcd_bits {n d : Int} {N : Nat} (hd : d.natAbs < 2 ^ N) (h0 : d ≠ 0) : Int.gcd n d < 2 ^ N := by
  have : Int.gcd n d ∣ d.natAbs := by
    have := Int.gcd_dvd_right (a := n) (b := d)
    exact Int.ofNat_dvd_left.mp this
  exact Nat.lt_of_le_of_lt (Nat.le_of_dvd (by omega) this) hd
/-- the two divisions of a fraction's lowering -/
theorem low_div {n d : Int} {N : Nat} (h0 : d ≠ 0) (hd : d.natAbs < 2 ^ N) (hN : N ≤ 9000) : gFd (.int n) (.int (d.sign * (Int.gcd n d : Int))) = some (.int (Rat.divInt n d).num) ∧ gFd (.int d) (.int (d.sign * (Int.gcd n d : Int))) = some (.int ((Rat.divInt n d).den : Int)) := by
  have g0 : Int.gcd n d ≠ 0 := fun z => h0 (Int.gcd_eq_zero_iff.mp z).2
  have e : (d.sign * (Int.gcd n d : Int)).natAbs = Int.gcd n d := by rw [Int.natAbs_mul, Int.natAbs_sign, if_neg h0, Nat.one_mul, Int.natAbs_natCast]
  have ne : d.sign * (Int.gcd n d : Int) ≠ 0 := fun z => g0 (by rw [← e, z]; rfl)
  have hl : (d.sign * (Int.gcd n d : Int)).natAbs.log2 < 9000 := by
    rw [e]
    have h1 := gcd_bits (n := n) hd h0
    rcases Nat.eq_zero_or_pos N with z | z
    · subst z
      omega
    · exact Nat.lt_of_lt_of_le (lg h1 z) hN
  rw [gfd_int ne hl, gfd_int ne hl, (fdiv_gcd n d h0).1, (fdiv_gcd n d h0).2]
  exact ⟨rfl, rfl⟩
end DL
/-! MB2 -/
/-! MB2: loops and clauses over data that are laid out of other data. -/
namespace DL
open PySem PySem.Spec PyProof.Rows L2

section
variable {ι σ : Type} {G : CGx} {T : CTx} {F : CEx} {B : CSx} {ρ : Rho} {I : CI}
/-- a clause: e lays an item, p is its test, f what is told of it -/
theorem lcA_map {e f : ι → D} {p : ι → Bool} {dr : Dr} : ∀ {ys : List ι} {acc : List D}, (∀ y ∈ ys, ∃ ρ1, G ρ (e y) = some ρ1 ∧ T ρ1 dr = .ok (p y) dr ∧ (p y = true → F ρ1 dr = .ok (f y) dr)) → acc.length + ys.length ≤ sizeLine → lcA G T F ρ (ys.map e) acc dr = .ok (acc ++ (ys.filter p).map f) dr
  | [], acc, _, _ => by simp [lcA]
  | y :: ys, acc, h, hl => by
    obtain ⟨ρ1, h1, h2, h3⟩ := h y List.mem_cons_self
    have hr : ∀ z ∈ ys, _ := fun z hz => h z (List.mem_cons_of_mem _ hz)
    rw [List.length_cons] at hl
    rw [List.map_cons, lcA, h1]
    simp only [h2, noEx_ok, bind_ok]
    by_cases hp : p y = true
    · rw [if_pos hp, h3 hp]
      simp only [noEx_ok, bind_ok]
      rw [if_pos (show acc.length < sizeLine by omega), lcA_map (p := p) hr (by rw [List.length_append, List.length_singleton]; omega), List.filter_cons_of_pos hp, List.map_cons, List.append_assoc]
      rfl
    · rw [if_neg hp, lcA_map (p := p) hr (by omega), List.filter_cons_of_neg hp]
/-- without a test -/
theorem lcA_all {e f : ι → D} {dr : Dr} {ys : List ι} (h : ∀ y ∈ ys, ∃ ρ1, G ρ (e y) = some ρ1 ∧ F ρ1 dr = .ok (f y) dr) (hl : ys.length ≤ sizeLine) : lcA G cYes F ρ (ys.map e) [] dr = .ok (ys.map f) dr := by
  have := lcA_map (G := G) (T := cYes) (F := F) (ρ := ρ) (e := e) (f := f) (p := fun _ => true) (dr := dr) (ys := ys) (acc := []) (fun y hy => by
    obtain ⟨ρ1, h1, h2⟩ := h y hy
    exact ⟨ρ1, h1, rfl, fun _ => h2⟩) (by rw [List.length_nil]; omega)
  rw [this, List.nil_append, List.filter_eq_self.mpr fun _ _ => rfl]
/-- a loop: st lays the state, R what is true of it and of the items left -/
theorem forG_rel {st : σ → Rho} {dr : σ → Dr} {R : σ → List D → Prop} (h : ∀ s x xs, R s (x :: xs) → ∃ ρ1 s', G (st s) x = some ρ1 ∧ (B ρ1 (dr s) = .nx (st s') (dr s') ∨ B ρ1 (dr s) = .ct (st s') (dr s')) ∧ R s' xs) :
    ∀ {xs : List D} {s : σ}, R s xs → ∃ s', forG G B xs (st s) (dr s) = .nx (st s') (dr s') ∧ R s' []
  | [], s, r => ⟨s, rfl, r⟩
  | x :: xs, s, r => by
    obtain ⟨ρ1, s', h1, h2, h3⟩ := h s x xs r
    obtain ⟨s2, h4, h5⟩ := forG_rel h h3
    refine ⟨s2, ?_, h5⟩
    rw [forG, h1]
    rcases h2 with h2 | h2
    · simp only [h2]; exact h4
    · simp only [h2]; exact h4
/-- a loop that folds -/
theorem forG_fold {st : σ → Rho} {e : ι → D} {step : σ → ι → σ} {dr : Dr} {P : List ι → σ → Prop} (h : ∀ s y ys, P (y :: ys) s → P ys (step s y) ∧ ∃ ρ1, G (st s) (e y) = some ρ1 ∧ B ρ1 dr = .nx (st (step s y)) dr) : ∀ {ys : List ι} {s : σ}, P ys s → forG G B (ys.map e) (st s) dr = .nx (st (ys.foldl step s)) dr ∧ P [] (ys.foldl step s)
  | [], s, r => ⟨rfl, r⟩
  | y :: ys, s, r => by
    obtain ⟨h1, ρ1, h2, h3⟩ := h s y ys r
    obtain ⟨h4, h5⟩ := forG_fold h h1
    refine ⟨?_, h5⟩
    rw [List.map_cons, forG, h2]
    simp only [h3]
    exact h4
end
theorem e_lc {vs : List Nat} {I : CI} {G : CGx} {T : CTx} {F : CEx} {ρ : Rho} {dr : Dr} : cLc vs I G T F ρ dr = (I ρ dr).bind fun xs dr => (lcA G T F (wipeD ρ vs) xs [] dr).bind rLst := by rfl
@[simp] theorem rLst_eq {acc : List D} {dr : Dr} : rLst acc dr = .ok (.lst true acc) dr := by rfl
theorem s_for {I : CI} {G : CGx} {B : CSx} {ρ : Rho} {dr : Dr} : cFor I G B ρ dr = match I ρ dr with
  | .st => .st
  | .ok xs dr => forG G B xs ρ dr
  | .ex e dr => .ex e ρ dr := by rfl
@[simp] theorem i_any {F : CEx} {ρ : Rho} {dr : Dr} : iAny F ρ dr = (F ρ dr).bind fun d dr => match d with
  | .lst _ xs => .ok (D.fzs xs) dr
  | .tup xs => .ok xs dr
  | .str t => .ok (t.cps.toList.map fun c => .str ⟨#[c]⟩) dr
  | _ => .st := by rfl
theorem i_rg1 {F : CEx} {ρ : Rho} {dr : Dr} : iRg1 F ρ dr = (F ρ dr).bind fun d dr => match d with
  | .int n => if -(2 ^ 62) ≤ n ∧ n < 2 ^ 62 then .ok (rgD 0 n) dr else .st
  | _ => .st := by rfl
theorem i_rg2 {F G : CEx} {ρ : Rho} {dr : Dr} : iRg2 F G ρ dr = (F ρ dr).bind fun d dr => (G ρ dr).bind fun e dr => match d, e with
  | .int n, .int m => if -(2 ^ 62) ≤ n ∧ n < 2 ^ 62 ∧ -(2 ^ 62) ≤ m ∧ m < 2 ^ 62 then .ok (rgD n m) dr else .st
  | _, _ => .st := by rfl
theorem rgD_nat (n : Nat) : rgD 0 n = (List.range n).map fun (k : Nat) => D.int (k : Int) := by
  unfold rgD
  rw [Int.sub_zero, Int.toNat_natCast]
  exact List.map_congr_left fun k _ => by rw [Int.zero_add]
theorem rgD_from (a n : Nat) : rgD a n = (List.range (n - a)).map fun (k : Nat) => D.int ((a + k : Nat) : Int) := by
  unfold rgD
  rw [show ((n : Int) - (a : Int)).toNat = n - a by omega]
  exact List.map_congr_left fun k _ => by simp
theorem i_rg1N {F : CEx} {ρ : Rho} {dr dr' : Dr} {n : Nat} (h : F ρ dr = .ok (.int (n : Int)) dr') (hn : n ≤ 100000) : iRg1 F ρ dr = .ok ((List.range n).map fun (k : Nat) => D.int (k : Int)) dr' := by
  have c : -(2 ^ 62) ≤ (n : Int) ∧ (n : Int) < 2 ^ 62 := ⟨by omega, by omega⟩
  rw [i_rg1, h, ← rgD_nat, bind_ok]
  show (if -(2 ^ 62) ≤ (n : Int) ∧ (n : Int) < 2 ^ 62 then DL.R.ok (rgD 0 n) dr' else .st) = _
  rw [if_pos c]
theorem i_rg2N {F G : CEx} {ρ : Rho} {dr dr1 dr2 : Dr} {a n : Nat} (h : F ρ dr = .ok (.int (a : Int)) dr1) (h2 : G ρ dr1 = .ok (.int (n : Int)) dr2) (hn : n ≤ 100000) (ha : a ≤ 100000) : iRg2 F G ρ dr = .ok ((List.range (n - a)).map fun (k : Nat) => D.int ((a + k : Nat) : Int)) dr2 := by
  have c : -(2 ^ 62) ≤ (a : Int) ∧ (a : Int) < 2 ^ 62 ∧ -(2 ^ 62) ≤ (n : Int) ∧ (n : Int) < 2 ^ 62 := ⟨by omega, by omega, by omega, by omega⟩
  rw [i_rg2, h, bind_ok, h2, ← rgD_from, bind_ok]
  show (if -(2 ^ 62) ≤ (a : Int) ∧ (a : Int) < 2 ^ 62 ∧ -(2 ^ 62) ≤ (n : Int) ∧ (n : Int) < 2 ^ 62 then DL.R.ok (rgD a n) dr2 else .st) = _
  rw [if_pos c]
@[simp] theorem wipeD_nil (ρ : Rho) : wipeD ρ [] = ρ := by rfl
@[simp] theorem wipeD_cons (ρ : Rho) (v : Nat) (vs : List Nat) : wipeD ρ (v :: vs) = (wipeD ρ vs).set v none := by rfl
theorem fzs_qD {ι : Type} (l : List ι) (q : ι → Rat) : D.fzs (l.map fun i => qD (q i)) = l.map fun i => qD (q i) := by
  induction l with
  | nil => rfl
  | cons x l ih => rw [List.map_cons, fzs_cons, ih]; rfl
theorem fzs_tup {ι : Type} (l : List ι) (q : ι → List D) : D.fzs (l.map fun i => D.tup (q i)) = l.map fun i => D.tup (q i) := by
  induction l with
  | nil => rfl
  | cons x l ih => rw [List.map_cons, fzs_cons, ih]; rfl
theorem fzs_intm {ι : Type} (l : List ι) (q : ι → Int) : D.fzs (l.map fun i => D.int (q i)) = l.map fun i => D.int (q i) := by
  induction l with
  | nil => rfl
  | cons x l ih => rw [List.map_cons, fzs_cons, ih]; rfl
@[simp] theorem frz_qD (q : Rat) : (qD q).frz = true := by rfl
@[simp] theorem fz_qD (q : Rat) : (qD q).fz = qD q := by rfl
/-- a row, a table over a list of places -/
def rowL {ι : Type} (I : List ι) (r : ι → Rat) : D := .tup (I.map fun i => qD (r i))
def tabL {ι κ : Type} (I : List ι) (J : List κ) (A : ι → κ → Rat) : D := .tup (I.map fun i => rowL J (A i))
@[simp] theorem frz_row {ι : Type} (I : List ι) (r : ι → Rat) : (rowL I r).frz = true := by rfl
@[simp] theorem fz_row {ι : Type} (I : List ι) (r : ι → Rat) : (rowL I r).fz = rowL I r := by rfl
@[simp] theorem frz_tab {ι κ : Type} (I : List ι) (J : List κ) (A : ι → κ → Rat) : (tabL I J A).frz = true := by rfl
@[simp] theorem fz_tab {ι κ : Type} (I : List ι) (J : List κ) (A : ι → κ → Rat) : (tabL I J A).fz = tabL I J A := by rfl
theorem all_frz {ι : Type} (l : List ι) (q : ι → D) (h : ∀ i, (q i).frz = true) : (l.map q).all D.frz = true := by
  rw [List.all_eq_true]
  intro d hd
  obtain ⟨i, _, rfl⟩ := List.mem_map.mp hd
  exact h i
theorem fzs_frz {ι : Type} (l : List ι) (q : ι → D) (h : ∀ i, (q i).fz = q i) : D.fzs (l.map q) = l.map q := by
  induction l with
  | nil => rfl
  | cons x l ih => rw [List.map_cons, fzs_cons, ih, h]
theorem gTuple_lst {ι : Type} {o : Bool} (l : List ι) (q : ι → D) (h : ∀ i, (q i).frz = true) : gTuple [.lst o (l.map q)] = some (.tup (l.map q)) := by
  show (if (l.map q).all D.frz = true then some (D.tup (l.map q)) else none) = _
  rw [if_pos (all_frz l q h)]
theorem zip_maps {ι κ : Type} (f g : ι → D) (l : List ι) : (l.map f).zipWith (fun x y => D.tup [x, y]) (l.map g) = l.map fun i => .tup [f i, g i] := by
  induction l with
  | nil => rfl
  | cons x l ih => simp [ih]
/-- sums over places -/
def sumL {ι : Type} (I : List ι) (f : ι → Rat) : Rat := (I.map f).sum
theorem sumL_nil {ι : Type} (f : ι → Rat) : sumL [] f = 0 := rfl
theorem sumL_cons {ι : Type} (i : ι) (I : List ι) (f : ι → Rat) : sumL (i :: I) f = f i + sumL I f := by
  unfold sumL; rw [List.map_cons, List.sum_cons]
theorem seq_nx {S1 S2 : CSx} {ρ ρ' : Rho} {dr dr' : Dr} (h : S1 ρ dr = .nx ρ' dr') : cSeq S1 S2 ρ dr = S2 ρ' dr' := by rw [s_seq, h]
theorem if_t {T : CTx} {S1 S2 : CSx} {ρ : Rho} {dr dr' : Dr} (h : T ρ dr = .ok true dr') : cIfS T S1 S2 ρ dr = S1 ρ dr' := by
  unfold cIfS; rw [h]; rfl
theorem if_f {T : CTx} {S1 S2 : CSx} {ρ : Rho} {dr dr' : Dr} (h : T ρ dr = .ok false dr') : cIfS T S1 S2 ρ dr = S2 ρ dr' := by
  unfold cIfS; rw [h]; rfl
theorem set_nx {i : Nat} {F : CEx} {ρ : Rho} {dr dr' : Dr} {d : D} (h : F ρ dr = .ok d dr') : cSet i F ρ dr = .nx (ρ.set i (some d.fz)) dr' := by rw [s_set, h]; rfl
/-! step by step -/
theorem bin_ok {g : D → D → Option D} {F1 F2 : CEx} {ρ : Rho} {dr dr1 dr2 : Dr} {x y z : D} (h1 : F1 ρ dr = .ok x dr1) (h2 : F2 ρ dr1 = .ok y dr2) (h3 : g x y = some z) : cBin g F1 F2 ρ dr = .ok z dr2 := by
  rw [e_bin, h1, bind_ok, h2, bind_ok, h3, ropt_some]
theorem var_ok {i : Nat} {ρ : Rho} {dr : Dr} {d : D} (h : ρ[i]? = some (some d)) : cVar i ρ dr = .ok d dr := by
  rw [e_var, h]
theorem frz_ok {F : CEx} {ρ : Rho} {dr dr1 : Dr} {d : D} (h : F ρ dr = .ok d dr1) (k : d.frz = true) : cFrz F ρ dr = .ok d dr1 := by
  rw [e_frz, h, bind_ok, if_pos k]
theorem cons_ok {F : CEx} {A : CAx} {ρ : Rho} {dr dr1 dr2 : Dr} {d : D} {ds : List D} (h : F ρ dr = .ok d dr1) (k : A ρ dr1 = .ok ds dr2) : cCons F A ρ dr = .ok (d :: ds) dr2 := by
  rw [e_cons, h, bind_ok, k, bind_ok]
theorem call_ok {C : CF} {A : CAx} {ρ : Rho} {dr dr1 : Dr} {ds : List D} {r : R D} (h : A ρ dr = .ok ds dr1) (k : C (D.fzs ds) dr1 = r) : cCall C A ρ dr = r := by
  rw [e_call, h, bind_ok, k]
theorem b_ok {g : List D → Option D} {A : CAx} {ρ : Rho} {dr dr1 : Dr} {ds : List D} {z : D} (h : A ρ dr = .ok ds dr1) (k : g ds = some z) : cB g A ρ dr = .ok z dr1 := by
  rw [e_b, h, bind_ok, k, ropt_some]
theorem ret_ok {F : CEx} {ρ : Rho} {dr dr1 : Dr} {d : D} (h : F ρ dr = .ok d dr1) : cRet F ρ dr = .rt d dr1 := by
  rw [s_ret, h, stm_ok]
theorem setO_nx {i : Nat} {F : CEx} {ρ : Rho} {dr dr' : Dr} {d : D} (h : F ρ dr = .ok d dr') : cSetO i F ρ dr = .nx (ρ.set i (some d)) dr' := by rw [s_setO, h]; rfl
theorem for_ok {I : CI} {G : CGx} {B : CSx} {ρ : Rho} {dr dr1 : Dr} {xs : List D} {r : SR} (h : I ρ dr = .ok xs dr1) (k : forG G B xs ρ dr1 = r) : cFor I G B ρ dr = r := by
  rw [s_for, h]; exact k
end DL
/-! MB3 -/
/-! MB3: draws, one by one. -/
namespace DL
open PySem PySem.Spec PyProof.Rows L2

/-- fit for more draws; c: how many were drawn without a number of the script, at most -/
structure Good (c : Nat) (s : Dw) : Prop where
  p : 0 ≤ s.p
  n : s.cells.length ≤ 1000
  sd : 0 ≤ s.seed ∧ s.seed < 2 ^ 31
  c0 : 0 ≤ s.cnt
  c1 : s.cnt ≤ c
theorem Good.mono {c d : Nat} {s : Dw} (h : Good c s) (k : c ≤ d) : Good d s := ⟨h.p, h.n, h.sd, h.c0, by have := h.c1; omega⟩
theorem good_0 {ns : List Int} (h : ns.length ≤ 63) : Good 0 (drawOf ns) := ⟨Int.le_refl _, by show (ns.map absI).length ≤ 1000; rw [List.length_map]; omega, seed_ok ns 7 (by decide), Int.le_refl _, Int.le_refl _⟩
theorem e_take {c : Nat} {s : Dw} (h : Good c s) (hc : c ≤ 2 ^ 40) {m : Nat} (m0 : 0 < m) (m1 : m ≤ 2 ^ 40) : ∃ (r : Nat) (s' : Dw), f_take [.dr, .int (m : Int)] (some s) = .ok (.int (r : Int)) (some s') ∧ r < m ∧ Good (c + 1) s' := by
  have hm : (m : Int) ≠ 0 := by omega
  have hl : ((m : Int)).natAbs.log2 < 9000 := by
    rw [Int.natAbs_natCast]
    exact Nat.lt_trans (lg (N := 41) (Nat.lt_of_le_of_lt m1 (by decide)) (by decide)) (by decide)
  have ok : okT (m : Int) s = true := by
    unfold okT
    have h1 := h.p
    have h2 := h.sd
    have h3 := h.c0
    have h4 := h.c1
    have b1 : s.seed.natAbs < 2 ^ 100 := by omega
    have b2 : (s.cnt + 1).natAbs < 2 ^ 100 := by omega
    rw [decide_eq_true h1, decide_eq_true hm, decide_eq_true hl, decide_eq_true b1, decide_eq_true b2, decide_eq_true h.n]
    rfl
  have pos : (0 : Int) < (m : Int) := by omega
  have res : ∀ x : Int, 0 ≤ x.fmod m ∧ x.fmod m < m := fun x => ⟨Int.fmod_nonneg_of_pos x pos, Int.fmod_lt_of_pos x pos⟩
  have gf : Good c s.filled := by
    unfold Dw.filled
    split
    · exact ⟨by have := h.p; show 0 ≤ s.p + 1; omega, h.n, h.sd, h.c0, h.c1⟩
    · exact h
  have fin : 0 ≤ (takeD m s).1 ∧ (takeD m s).1 < m ∧ Good (c + 1) (takeD m s).2 := by
    unfold takeD
    split
    · exact ⟨(res _).1, (res _).2, ⟨gf.p, gf.n, gf.sd, gf.c0, by have := gf.c1; show s.filled.cnt ≤ ((c + 1 : Nat) : Int); omega⟩⟩
    · refine ⟨(res _).1, (res _).2, ⟨gf.p, gf.n, ?_, ?_, ?_⟩⟩
      · show 0 ≤ (_ : Int).fmod 2147483647 ∧ (_ : Int).fmod 2147483647 < 2 ^ 31
        exact ⟨Int.fmod_nonneg_of_pos _ (by decide), by have := Int.fmod_lt_of_pos (s.filled.seed * 48271 + (s.filled.cnt + 1) * (s.filled.cnt + 1) * 69621 + 11) (b := 2147483647) (by decide); omega⟩
      · have := gf.c0; show 0 ≤ s.filled.cnt + 1; omega
      · have := gf.c1; show s.filled.cnt + 1 ≤ ((c + 1 : Nat) : Int); omega
  refine ⟨(takeD m s).1.toNat, (takeD m s).2, ?_, by have := fin.1; have := fin.2.1; omega, fin.2.2⟩
  rw [Int.toNat_of_nonneg fin.1]
  exact if_pos ok
/-- a clause that draws: k draws an item -/
theorem lcA_drawn {ι : Type} {G : CGx} {F : CEx} {ρ : Rho} {e : ι → D} {P : D → Prop} {k b : Nat} : ∀ {ys : List ι} {acc : List D} {c : Nat} {s : Dw}, (∀ y ∈ ys, ∀ c s, Good c s → c ≤ b → ∃ ρ1, G ρ (e y) = some ρ1 ∧ ∃ d s', F ρ1 (some s) = .ok d (some s') ∧ P d ∧ Good (c + k) s') → Good c s → c + k * ys.length ≤ b → acc.length + ys.length ≤ sizeLine →
    ∃ ds s', lcA G cYes F ρ (ys.map e) acc (some s) = .ok (acc ++ ds) (some s') ∧ ds.length = ys.length ∧ (∀ d ∈ ds, P d) ∧ Good (c + k * ys.length) s'
  | [], acc, c, s, _, h, _, _ => ⟨[], s, by simp [lcA], rfl, (fun _ z => nomatch z), by simpa using h⟩
  | y :: ys, acc, c, s, H, h, hk, hl => by
    rw [List.length_cons, Nat.mul_add] at hk
    rw [List.length_cons] at hl
    obtain ⟨ρ1, h1, d, s1, h2, h3, h4⟩ := H y List.mem_cons_self c s h (by omega)
    obtain ⟨ds, s2, h5, h6, h7, h8⟩ := lcA_drawn (acc := acc ++ [d]) (c := c + k) (s := s1) (fun z hz => H z (List.mem_cons_of_mem _ hz)) h4 (by omega) (by rw [List.length_append, List.length_singleton]; omega)
    refine ⟨d :: ds, s2, ?_, by rw [List.length_cons, List.length_cons, h6], fun x hx => ?_, ?_⟩
    · rw [List.map_cons, lcA, h1]
      show ((noEx (cYes ρ1 (some s))).bind _) = _
      have : cYes ρ1 (some s) = .ok true (some s) := rfl
      rw [this]
      simp only [noEx_ok, bind_ok, if_true, h2]
      rw [if_pos (show acc.length < sizeLine by omega), h5, List.append_assoc]
      rfl
    · rcases List.mem_cons.mp hx with z | z
      · rw [z]; exact h3
      · exact h7 x z
    · rw [List.length_cons, Nat.mul_add, Nat.mul_one]
      exact h8.mono (by omega)
/-- a list of fractions, laid -/
theorem rats_of {P : Rat → Prop} : ∀ {ds : List D}, (∀ d ∈ ds, ∃ q, d = qD q ∧ P q) → ∃ r : Nat → Rat, ds = (List.range ds.length).map (fun k => qD (r k)) ∧ ∀ k, k < ds.length → P (r k)
  | [], _ => ⟨fun _ => 0, rfl, fun k h => absurd h (Nat.not_lt_zero k)⟩
  | d :: ds, h => by
    obtain ⟨q, e, hq⟩ := h d List.mem_cons_self
    obtain ⟨r, e2, h2⟩ := rats_of (ds := ds) fun x hx => h x (List.mem_cons_of_mem _ hx)
    refine ⟨fun k => match k with
      | 0 => q
      | k + 1 => r k, ?_, fun k hk => ?_⟩
    · rw [List.length_cons, List.range_succ_eq_map, List.map_cons, List.map_map, e]
      conv => lhs; rw [e2]
      rfl
    · cases k with
      | zero => exact hq
      | succ k => exact h2 k (by simpa using hk)
theorem fun_of {α : Type} {P : α → Prop} {f : α → D} (a0 : α) : ∀ {ds : List D}, (∀ d ∈ ds, ∃ a, d = f a ∧ P a) → ∃ r : Nat → α, ds = (List.range ds.length).map (fun k => f (r k)) ∧ ∀ k, k < ds.length → P (r k)
  | [], _ => ⟨fun _ => a0, rfl, fun k h => absurd h (Nat.not_lt_zero k)⟩
  | d :: ds, h => by
    obtain ⟨q, e, hq⟩ := h d List.mem_cons_self
    obtain ⟨r, e2, h2⟩ := fun_of a0 (ds := ds) fun x hx => h x (List.mem_cons_of_mem _ hx)
    refine ⟨fun k => match k with
      | 0 => q
      | k + 1 => r k, ?_, fun k hk => ?_⟩
    · rw [List.length_cons, List.range_succ_eq_map, List.map_cons, List.map_map, e]
      conv => lhs; rw [e2]
      rfl
    · cases k with
      | zero => exact hq
      | succ k => exact h2 k (by simpa using hk)
end DL
/-! MB4 -/
/-! MB4: rules forwards: what is wanted of what an expression, a statement, a def comes to. -/
namespace DL
open PySem PySem.Spec PyProof.Rows L2
def EW {α : Type} (r : R α) (P : α → Dr → Prop) (X : Exn → Dr → Prop) : Prop := match r with
  | .ok a dr => P a dr
  | .ex e dr => X e dr
  | .st => False
def SW (r : SR) (Q : SR → Prop) : Prop := Q r
def noX : Exn → Dr → Prop := fun _ _ => False
def SQ (Q : SR → Prop) (P : Rho → Dr → Prop) : SR → Prop
  | .nx ρ dr => P ρ dr
  | .rt d dr => Q (.rt d dr)
  | .bk ρ dr => Q (.bk ρ dr)
  | .ct ρ dr => Q (.ct ρ dr)
  | .ex e ρ dr => Q (.ex e ρ dr)
  | .st => False
/-- what a body comes to, for its def -/
def FQ (P : D → Dr → Prop) (X : Exn → Dr → Prop) : SR → Prop
  | .nx _ dr => P .non dr
  | .rt d dr => P d dr
  | .ex e _ dr => X e dr
  | _ => False
/-- a turn of a loop -/
def LQ (Q : SR → Prop) (P : Rho → Dr → Prop) : SR → Prop
  | .nx ρ dr => P ρ dr
  | .ct ρ dr => P ρ dr
  | .bk ρ dr => Q (.nx ρ dr)
  | .rt d dr => Q (.rt d dr)
  | .ex e ρ dr => Q (.ex e ρ dr)
  | .st => False
def OW (o : Option D) (dr : Dr) (P : D → Dr → Prop) : Prop := ∃ z, o = some z ∧ P z dr
def IfW (b : Bool) (A B : Prop) : Prop := if b = true then A else B
def FzD (d : D) (P : D → Prop) : Prop := P d.fz
def FzL (ds : List D) (P : List D → Prop) : Prop := P (D.fzs ds)
def StW (i : Nat) (d : D) (ρ : Rho) (P : Rho → Prop) : Prop := P (ρ.set i (some d))
def TB : D → (Bool → Prop) → Prop
  | .bl b, P => P b
  | _, _ => False
def TrW (d : D) (P : Bool → Prop) : Prop := ∃ b, d.tru = some b ∧ P b
def ItW : D → (List D → Prop) → Prop
  | .tup xs, P => P xs
  | .lst _ xs, P => P (D.fzs xs)
  | .str t, P => P (t.cps.toList.map fun c => .str ⟨#[c]⟩)
  | _, _ => False
def IntW : D → (Int → Prop) → Prop
  | .int i, P => P i
  | _, _ => False
def P2 (ds : List D) (P : D → D → Prop) : Prop := match ds with
  | [a, b] => P a b
  | _ => False
def P3 (ds : List D) (P : D → D → D → Prop) : Prop := match ds with
  | [a, b, c] => P a b c
  | _ => False
def TgW (G : CGx) (ρ : Rho) (d : D) (P : Rho → Prop) : Prop := ∃ ρ1, G ρ d = some ρ1 ∧ P ρ1
def WpW (ρ : Rho) (vs : List Nat) (P : Rho → Prop) : Prop := P (wipeD ρ vs)
def NthW (o : Option (Option D)) (P : List D → Prop) : Prop := match o with
  | some (some (.lst true xs)) => P xs
  | _ => False
section
variable {α β : Type} {a : α} {b b' : Bool} {dr dr' : Dr} {e : Exn} {ρ ρ' : Rho} {d d1 d2 d3 : D} {i j k : Nat} {F G F1 F2 F3 : CEx} {A : CAx} {T T1 T2 : CTx} {S S1 S2 B : CSx} {g g' : D → D → Option D} {h : List D → Option D} {P : D → Dr → Prop} {PA : List D → Dr → Prop} {PT : Bool → Dr → Prop} {X : Exn → Dr → Prop} {U : SR → Prop} {C : CGx}
theorem sq_nx {P : Rho → Dr → Prop} (h : P ρ dr) : SQ U P (.nx ρ dr) := h
theorem sq_rt {P : Rho → Dr → Prop} (h : U (.rt d dr)) : SQ U P (.rt d dr) := h
theorem sq_ex {P : Rho → Dr → Prop} (h : U (.ex e ρ dr)) : SQ U P (.ex e ρ dr) := h
theorem sq_bk {P : Rho → Dr → Prop} (h : U (.bk ρ dr)) : SQ U P (.bk ρ dr) := h
theorem sq_ct {P : Rho → Dr → Prop} (h : U (.ct ρ dr)) : SQ U P (.ct ρ dr) := h
theorem fq_rt (h : P d dr) : FQ P X (.rt d dr) := h
theorem fq_nx (h : P .non dr) : FQ P X (.nx ρ dr) := h
theorem fq_ex (h : X e dr) : FQ P X (.ex e ρ dr) := h
theorem lq_nx {P : Rho → Dr → Prop} (h : P ρ dr) : LQ U P (.nx ρ dr) := h
theorem lq_ct {P : Rho → Dr → Prop} (h : P ρ dr) : LQ U P (.ct ρ dr) := h
theorem lq_bk {P : Rho → Dr → Prop} (h : U (.nx ρ dr)) : LQ U P (.bk ρ dr) := h
theorem lq_rt {P : Rho → Dr → Prop} (h : U (.rt d dr)) : LQ U P (.rt d dr) := h
theorem lq_ex {P : Rho → Dr → Prop} (h : U (.ex e ρ dr)) : LQ U P (.ex e ρ dr) := h
theorem wpw {vs : List Nat} {P : Rho → Prop} (h : wipeD ρ vs = ρ') (k : P ρ') : WpW ρ vs P := by
  subst h; exact k
theorem tgw {ρ1 : Rho} {P : Rho → Prop} (h : C ρ d = some ρ1) (k : P ρ1) : TgW C ρ d P := ⟨ρ1, h, k⟩
theorem ew_ok {P : α → Dr → Prop} (k : P a dr) : EW (.ok a dr) P X := k
theorem ew_eq {r : R α} {P : α → Dr → Prop} (h : r = .ok a dr) (k : P a dr) : EW r P X := by
  rw [h]; exact k
theorem ew_eqx {r : R α} {P : α → Dr → Prop} (h : r = .ex e dr) (k : X e dr) : EW r P X := by
  rw [h]; exact k
theorem ew_of {r : R α} (h : EW r (fun x d => R.ok x d = R.ok a dr) noX) : r = .ok a dr := by
  cases r with
  | st => exact h.elim
  | ok x d => exact h
  | ex e d => exact (show False from h).elim
theorem ew_ofx {r : R α} (h : EW r (fun _ _ => False) (fun x d => R.ex (α := α) x d = R.ex e dr)) : r = .ex e dr := by
  cases r with
  | st => exact h.elim
  | ok x d => exact (show False from h).elim
  | ex e d => exact h
theorem ew_ex {r : R α} {P : α → Dr → Prop} (h : EW r P noX) : ∃ a dr, r = .ok a dr ∧ P a dr := by
  cases r with
  | st => exact h.elim
  | ok x d => exact ⟨x, d, rfl, h⟩
  | ex e d => exact (show False from h).elim
theorem sw_eq {r r' : SR} (h : r = r') (k : U r') : SW r U := by
  rw [h]; exact k
theorem ew_mono {r : R α} {P P' : α → Dr → Prop} {X X' : Exn → Dr → Prop} (h : EW r P X) (m : ∀ a dr, P a dr → P' a dr) (mx : ∀ e dr, X e dr → X' e dr) : EW r P' X' := by
  cases r with
  | st => exact h
  | ok a dr => exact m a dr h
  | ex e dr => exact mx e dr h
theorem ew_m {r : R α} {P P' : α → Dr → Prop} (m : ∀ a dr, P a dr → P' a dr) (h : EW r P X) : EW r P' X := ew_mono h m fun _ _ k => k
theorem ew_bind {r : R α} {f : α → Dr → R β} {P : β → Dr → Prop} (h : EW r (fun a dr => EW (f a dr) P X) X) : EW (r.bind f) P X := by
  cases r with
  | st => exact h
  | ok a dr => exact h
  | ex e dr => exact h
theorem gEW {r : R α} {P : α → Dr → Prop} (h : EW r P X) : EW r P X := h
theorem gSW {r : SR} (h : SW r U) : SW r U := h
theorem gOW {o : Option D} (h : OW o dr P) : OW o dr P := h
theorem gO2 {x y : D} (h : OW (g x y) dr P) : OW (g x y) dr P := h
theorem gO1 {l : List D → Option D} {xs : List D} (h : OW (l xs) dr P) : OW (l xs) dr P := h
theorem gO1a {l : List D → Option D} {x : D} (h : OW (l [x]) dr P) : OW (l [x]) dr P := h
theorem gAnd {p q : Prop} (h : p ∧ q) : p ∧ q := h
theorem gIf {p q : Prop} (h : IfW b p q) : IfW b p q := h
theorem gIx' {x y : D} (h : OW (gIx x y) dr P) : OW (gIx x y) dr P := h
theorem gLen' {x : D} (h : OW (gLen [x]) dr P) : OW (gLen [x]) dr P := h
theorem ow {o : Option D} {z : D} (h : o = some z) (k : P z dr) : OW o dr P := ⟨z, h, k⟩
theorem ew_opt {o : Option D} (h : OW o dr P) : EW (R.opt o dr) P X := by
  obtain ⟨z, rfl, k⟩ := h
  exact k
theorem ew_var (h : ρ[i]? = some (some d)) (k : P d dr) : EW (cVar i ρ dr) P X := by
  unfold cVar; rw [h]; exact k
theorem ew_k (k : P d dr) : EW (cK d ρ dr) P X := k
theorem ew_frz (h : EW (F ρ dr) (fun d dr => d.frz = true ∧ P d dr) X) : EW (cFrz F ρ dr) P X := by
  refine ew_bind (ew_m (fun d dr k => ?_) h)
  rw [if_pos k.1]; exact k.2
theorem ew_bin (h : EW (F1 ρ dr) (fun x dr => EW (F2 ρ dr) (fun y dr => OW (g x y) dr P) X) X) : EW (cBin g F1 F2 ρ dr) P X :=
  ew_bind (ew_m (fun x dr k => ew_bind (ew_m (fun y dr k => ew_opt k) k)) h)
theorem tb_bl {P : Bool → Prop} (h : P b) : TB (.bl b) P := h
theorem trw {P : Bool → Prop} (h : d.tru = some b) (k : P b) : TrW d P := ⟨b, h, k⟩
theorem ew_tst (h : EW (F ρ dr) (fun d dr => TB d fun b => PT b dr) X) : EW (cTst F ρ dr) PT X := by
  refine ew_bind (ew_m (fun d dr k => ?_) h)
  cases d <;> first | exact k.elim | exact k
theorem ew_tru (h : EW (F ρ dr) (fun d dr => TrW d fun b => PT b dr) X) : EW (cTru F ρ dr) PT X := by
  refine ew_bind (ew_m (fun d dr k => ?_) h)
  obtain ⟨b, e, k⟩ := k
  rw [e]; exact k
theorem ifw {X Y : Prop} (h1 : b = true → X) (h2 : b = false → Y) : IfW b X Y := by
  unfold IfW
  cases b
  · exact h2 rfl
  · exact h1 rfl
theorem ifw_t {X Y : Prop} (h : X) : IfW true X Y := h
theorem ifw_f {X Y : Prop} (h : Y) : IfW false X Y := h
theorem ifw_d {X Y p : Prop} [Decidable p] (h1 : p → X) (h2 : ¬ p → Y) : IfW (decide p) X Y := ifw (fun h => h1 (of_decide_eq_true h)) fun h => h2 (of_decide_eq_false h)
theorem ifw_n {X Y : Prop} (h : IfW b Y X) : IfW (!b) X Y := by
  cases b <;> exact h
theorem ifw_b {X Y : Prop} {x y : Int} (h1 : x = y → X) (h2 : x ≠ y → Y) : IfW (x == y) X Y := ifw (fun h => h1 (by simpa using h)) fun h => h2 (by simpa using h)
theorem ew_ifw {r r' : R α} {P : α → Dr → Prop} (h : IfW b (EW r P X) (EW r' P X)) : EW (if b = true then r else r') P X := by
  unfold IfW at h
  split <;> rename_i z
  · rw [if_pos z] at h; exact h
  · rw [if_neg z] at h; exact h
theorem ew_and (h : EW (T1 ρ dr) (fun b dr => IfW b (EW (T2 ρ dr) PT X) (PT false dr)) X) : EW (cAnd T1 T2 ρ dr) PT X := ew_bind (ew_m (fun b dr k => ew_ifw k) h)
theorem ew_or (h : EW (T1 ρ dr) (fun b dr => IfW b (PT true dr) (EW (T2 ρ dr) PT X)) X) : EW (cOr T1 T2 ρ dr) PT X := ew_bind (ew_m (fun b dr k => ew_ifw k) h)
theorem ew_notT (h : EW (T ρ dr) (fun b dr => PT (!b) dr) X) : EW (cNotT T ρ dr) PT X := ew_bind h
theorem ew_yes (h : PT true dr) : EW (cYes ρ dr) PT X := h
theorem ew_not (h : EW (F ρ dr) (fun d dr => TrW d fun b => P (.bl (!b)) dr) X) : EW (cNot F ρ dr) P X := by
  refine ew_bind (ew_m (fun d dr k => ?_) h)
  obtain ⟨b, e, k⟩ := k
  rw [e]; exact k
theorem ew_if (h : EW (T ρ dr) (fun b dr => IfW b (EW (F ρ dr) P X) (EW (G ρ dr) P X)) X) : EW (cIf T F G ρ dr) P X := ew_bind (ew_m (fun b dr k => ew_ifw k) h)
theorem ew_andV (h : EW (F ρ dr) (fun d dr => TB d fun b => IfW b (EW (G ρ dr) P X) (P (.bl false) dr)) X) : EW (cAndV F G ρ dr) P X := by
  refine ew_bind (ew_m (fun d dr k => ?_) h)
  cases d <;> first | exact k.elim | exact ew_ifw k
theorem ew_orV (h : EW (F ρ dr) (fun d dr => TB d fun b => IfW b (P (.bl true) dr) (EW (G ρ dr) P X)) X) : EW (cOrV F G ρ dr) P X := by
  refine ew_bind (ew_m (fun d dr k => ?_) h)
  cases d <;> first | exact k.elim | exact ew_ifw k
theorem ew_chain (h : EW (F1 ρ dr) (fun x dr => EW (F2 ρ dr) (fun y dr => OW (g x y) dr fun d dr => TB d fun b => IfW b (EW (F3 ρ dr) (fun z dr => OW (g' y z) dr P) X) (P (.bl false) dr)) X) X) : EW (cChain g g' F1 F2 F3 ρ dr) P X := by
  refine ew_bind (ew_m (fun x dr k => ew_bind (ew_m (fun y dr k => ?_) k)) h)
  obtain ⟨z, e, k⟩ := k
  rw [e]
  cases z <;> first | exact k.elim | skip
  rename_i b
  have k : IfW b (EW (F3 ρ dr) (fun z dr => OW (g' y z) dr P) X) (P (.bl false) dr) := k
  cases b with
  | true => exact ew_bind (ew_m (fun y dr k => ew_opt k) k)
  | false => exact k
theorem int_w {P : Int → Prop} {i : Int} (h : P i) : IntW (.int i) P := h
theorem ew_neg (h : EW (F ρ dr) (fun d dr => IntW d fun i => P (.int (-i)) dr) X) : EW (cNeg F ρ dr) P X := by
  refine ew_bind (ew_m (fun d dr k => ?_) h)
  cases d <;> first | exact k.elim | exact k
theorem ew_nil (h : PA [] dr) : EW (cNil ρ dr) PA X := h
theorem ew_cons (h : EW (F ρ dr) (fun x dr => EW (A ρ dr) (fun xs dr => PA (x :: xs) dr) X) X) : EW (cCons F A ρ dr) PA X := ew_bind (ew_m (fun x dr k => ew_bind k) h)
theorem fzl {ds ds' : List D} {P : List D → Prop} (h : D.fzs ds = ds') (k : P ds') : FzL ds P := by
  subst h; exact k
theorem fzd {P : D → Prop} (h : d.fz = d1) (k : P d1) : FzD d P := by
  subst h; exact k
theorem stw {P : Rho → Prop} (h : ρ.set i (some d) = ρ') (k : P ρ') : StW i d ρ P := by
  subst h; exact k
theorem ew_tup (h : EW (A ρ dr) (fun ds dr => ds.length ≤ sizeLine ∧ FzL ds fun ds => P (.tup ds) dr) X) : EW (cTup A ρ dr) P X := by
  refine ew_bind (ew_m (fun d dr k => ?_) h)
  rw [if_pos k.1]; exact k.2
theorem ew_lst (h : EW (A ρ dr) (fun ds dr => ds.length ≤ sizeLine ∧ P (.lst true ds) dr) X) : EW (cLst A ρ dr) P X := by
  refine ew_bind (ew_m (fun d dr k => ?_) h)
  rw [if_pos k.1]; exact k.2
theorem ew_b (k : EW (A ρ dr) (fun ds dr => OW (h ds) dr P) X) : EW (cB h A ρ dr) P X := ew_bind (ew_m (fun d dr k => ew_opt k) k)
theorem ew_isi {t : String} (h : EW (F ρ dr) (fun d dr => OW ((d.isi t).map .bl) dr P) X) : EW (cIsi t F ρ dr) P X := ew_bind (ew_m (fun d dr k => ew_opt k) h)
theorem ew_call {K : CF} (h : EW (A ρ dr) (fun ds dr => FzL ds fun ds => EW (K ds dr) P X) X) : EW (cCall K A ρ dr) P X := ew_bind (ew_m (fun d dr k => k) h)
def CallW (V : Tbl) (d : D) (Q : CF → Prop) : Prop := ∃ K, fnOf V d = some K ∧ Q K
theorem callw {V : Tbl} {K : CF} {Q : CF → Prop} (h : fnOf V d = some K) (k : Q K) : CallW V d Q := ⟨K, h, k⟩
theorem ew_callE {V : Tbl} (h : EW (F ρ dr) (fun d dr => CallW V d fun K => EW (A ρ dr) (fun ds dr => FzL ds fun ds => EW (K ds dr) P X) X) X) : EW (cCallE V F A ρ dr) P X := by
  refine ew_bind (ew_m (fun d dr k => ?_) h)
  obtain ⟨K, e, k⟩ := k
  rw [e]
  exact ew_bind (ew_m (fun d dr k => k) k)
def unO : D → D
  | .lst _ xs => .lst false (D.fzs xs)
  | d => d
theorem ew_rev (h : EW (F ρ dr) (fun d dr => OW (gRev (unO d)) dr P) X) : EW (cRev F ρ dr) P X := by
  refine ew_bind (ew_m (fun d dr k => ?_) h)
  cases d <;> exact ew_opt k
theorem ow_isi {t : String} (h : d.isi t = some b) (k : P (.bl b) dr) : OW ((d.isi t).map .bl) dr P := ⟨.bl b, by rw [h]; rfl, k⟩
theorem isi_non_int : D.isi "int" .non = some false := by rfl
theorem isi_non_bool : D.isi "bool" .non = some false := by rfl
theorem isi_non_str : D.isi "str" .non = some false := by rfl
theorem isi_non_tuple : D.isi "tuple" .non = some false := by rfl
theorem isi_non_list : D.isi "list" .non = some false := by rfl
theorem isi_bl_int {z : Bool} : D.isi "int" (.bl z) = some true := by rfl
theorem isi_bl_bool {z : Bool} : D.isi "bool" (.bl z) = some true := by rfl
theorem isi_bl_str {z : Bool} : D.isi "str" (.bl z) = some false := by rfl
theorem isi_bl_tuple {z : Bool} : D.isi "tuple" (.bl z) = some false := by rfl
theorem isi_bl_list {z : Bool} : D.isi "list" (.bl z) = some false := by rfl
theorem isi_int_int {z : Int} : D.isi "int" (.int z) = some true := by rfl
theorem isi_int_bool {z : Int} : D.isi "bool" (.int z) = some false := by rfl
theorem isi_int_str {z : Int} : D.isi "str" (.int z) = some false := by rfl
theorem isi_int_tuple {z : Int} : D.isi "tuple" (.int z) = some false := by rfl
theorem isi_int_list {z : Int} : D.isi "list" (.int z) = some false := by rfl
theorem isi_str_int {z : Str} : D.isi "int" (.str z) = some false := by rfl
theorem isi_str_bool {z : Str} : D.isi "bool" (.str z) = some false := by rfl
theorem isi_str_str {z : Str} : D.isi "str" (.str z) = some true := by rfl
theorem isi_str_tuple {z : Str} : D.isi "tuple" (.str z) = some false := by rfl
theorem isi_str_list {z : Str} : D.isi "list" (.str z) = some false := by rfl
theorem isi_tup_int {z : List D} : D.isi "int" (.tup z) = some false := by rfl
theorem isi_tup_bool {z : List D} : D.isi "bool" (.tup z) = some false := by rfl
theorem isi_tup_str {z : List D} : D.isi "str" (.tup z) = some false := by rfl
theorem isi_tup_tuple {z : List D} : D.isi "tuple" (.tup z) = some true := by rfl
theorem isi_tup_list {z : List D} : D.isi "list" (.tup z) = some false := by rfl
theorem isi_lst_int {o : Bool} {z : List D} : D.isi "int" (.lst o z) = some false := by rfl
theorem isi_lst_bool {o : Bool} {z : List D} : D.isi "bool" (.lst o z) = some false := by rfl
theorem isi_lst_str {o : Bool} {z : List D} : D.isi "str" (.lst o z) = some false := by rfl
theorem isi_lst_tuple {o : Bool} {z : List D} : D.isi "tuple" (.lst o z) = some false := by rfl
theorem isi_lst_list {o : Bool} {z : List D} : D.isi "list" (.lst o z) = some true := by rfl
theorem isi_qD_tuple {q : Rat} : D.isi "tuple" (qD q) = some true := by rfl
theorem isi_row_tuple {ι : Type} {I : List ι} {r : ι → Rat} : D.isi "tuple" (rowL I r) = some true := by rfl
theorem isi_tab_tuple {ι κ : Type} {I : List ι} {J : List κ} {A : ι → κ → Rat} : D.isi "tuple" (tabL I J A) = some true := by rfl
/-! slices -/
theorem ew_nopart {PO : Option Int → Dr → Prop} (h : PO none dr) : EW (cNoPart ρ dr) PO X := h
theorem ew_part {PO : Option Int → Dr → Prop} (h : EW (F ρ dr) (fun d dr => IntW d fun i => PO (some i) dr) X) : EW (cPart F ρ dr) PO X := by
  refine ew_bind (ew_m (fun d dr k => ?_) h)
  cases d <;> first | exact k.elim | exact k
theorem ew_sl {L V : COx} (h : EW (F ρ dr) (fun x dr => EW (L ρ dr) (fun l dr => EW (V ρ dr) (fun u dr => OW (gSl x l u) dr P) X) X) X) : EW (cSl F L V ρ dr) P X :=
  ew_bind (ew_m (fun x dr k => ew_bind (ew_m (fun l dr k => ew_bind (ew_m (fun u dr k => ew_opt k) k)) k)) h)
/-! what is walked -/
theorem it_tup {xs : List D} {P : List D → Prop} (k : P xs) : ItW (.tup xs) P := k
theorem it_tab {ι κ : Type} {I : List ι} {J : List κ} {A : ι → κ → Rat} {P : List D → Prop} (k : P (I.map fun i => rowL J (A i))) : ItW (tabL I J A) P := k
theorem it_row {κ : Type} {J : List κ} {A : κ → Rat} {P : List D → Prop} (k : P (J.map fun i => qD (A i))) : ItW (rowL J A) P := k
theorem it_lst {o : Bool} {xs ys : List D} {P : List D → Prop} (h : D.fzs xs = ys) (k : P ys) : ItW (.lst o xs) P := by
  subst h; exact k
theorem iw_any (h : EW (F ρ dr) (fun d dr => ItW d fun xs => PA xs dr) X) : EW (iAny F ρ dr) PA X := by
  refine ew_bind (ew_m (fun d dr k => ?_) h)
  cases d <;> first | exact k.elim | exact k
def rgLine : Nat := 100000
def RgW : D → (Nat → Prop) → Prop
  | .int i, P => ∃ n : Nat, i = (n : Int) ∧ n ≤ rgLine ∧ P n
  | _, _ => False
theorem rgw {P : Nat → Prop} {i : Int} {n : Nat} (h : i = (n : Int)) (hn : n ≤ 100000) (k : P n) : RgW (.int i) P := ⟨n, h, hn, k⟩
theorem rgw_inv {P : Nat → Prop} {i : Int} (h : RgW (.int i) P) : ∃ n : Nat, i = (n : Int) ∧ n ≤ rgLine ∧ P n := h
theorem rgLine_le {n : Nat} (h : n ≤ rgLine) : n ≤ 100000 := h
theorem iw_rg1 (h : EW (F ρ dr) (fun d dr => RgW d fun n => PA ((List.range n).map fun k : Nat => D.int (k : Int)) dr) X) : EW (iRg1 F ρ dr) PA X := by
  refine ew_bind (ew_m (fun d dr kk => ?_) h)
  cases d with
  | int i =>
    obtain ⟨n, en, hn, k2⟩ := rgw_inv kk
    subst en
    have hn := rgLine_le hn
    have c : -(2 ^ 62) ≤ (n : Int) ∧ (n : Int) < 2 ^ 62 := ⟨by omega, by omega⟩
    rw [← rgD_nat] at k2
    show EW (if -(2 ^ 62) ≤ (n : Int) ∧ (n : Int) < 2 ^ 62 then DL.R.ok (rgD 0 n) dr else .st) PA X
    rw [if_pos c]; exact k2
  | _ => exact (show False from kk).elim
theorem rgw_d {P : Nat → Prop} {d : D} (h : RgW d P) : ∃ n : Nat, d = .int (n : Int) ∧ n ≤ rgLine ∧ P n := by
  cases d with
  | int i =>
    refine (rgw_inv h).elim fun n hh => ⟨n, ?_, hh.2⟩
    rw [hh.1]
  | _ => exact (show False from h).elim
theorem iw_rg2 (h : EW (F ρ dr) (fun d dr => EW (G ρ dr) (fun e dr => RgW d fun a => RgW e fun n => PA ((List.range (n - a)).map fun k : Nat => D.int ((a + k : Nat) : Int)) dr) X) X) : EW (iRg2 F G ρ dr) PA X := by
  cases q1 : F ρ dr with
  | st => rw [q1] at h; exact (show False from h).elim
  | ex x dr1 =>
    rw [q1] at h
    have : iRg2 F G ρ dr = .ex x dr1 := by rw [i_rg2, q1]; rfl
    exact ew_eqx this h
  | ok d dr1 =>
    rw [q1] at h
    have h : EW (G ρ dr1) (fun e dr => RgW d fun a => RgW e fun n => PA ((List.range (n - a)).map fun k : Nat => D.int ((a + k : Nat) : Int)) dr) X := h
    cases q2 : G ρ dr1 with
    | st => rw [q2] at h; exact (show False from h).elim
    | ex x dr2 =>
      rw [q2] at h
      have : iRg2 F G ρ dr = .ex x dr2 := by rw [i_rg2, q1, bind_ok, q2]; rfl
      exact ew_eqx this h
    | ok e dr2 =>
      rw [q2] at h
      have h : RgW d fun a => RgW e fun n => PA ((List.range (n - a)).map fun k : Nat => D.int ((a + k : Nat) : Int)) dr2 := h
      refine (rgw_d h).elim fun a ha => (rgw_d ha.2.2).elim fun n hn => ?_
      refine ew_eq (i_rg2N (a := a) (n := n) (by rw [q1, ha.1]) (by rw [q2, hn.1]) (rgLine_le hn.2.1) (rgLine_le ha.2.1)) hn.2.2
def ZpW (ds : List D) (P : List D → Prop) : Prop := match ds with
  | [x, y] => ItW x fun xs => ItW y fun ys => (match x, y with
    | .lst _ _, .lst _ _ => True
    | .tup _, .tup _ => True
    | _, _ => False) ∧ P (xs.zipWith (fun x y => .tup [x, y]) ys)
  | _ => False
theorem iw_zip (h : EW (A ρ dr) (fun ds dr => ZpW ds fun xs => PA xs dr) X) : EW (iZipD A ρ dr) PA X := by
  refine ew_bind (ew_m (fun ds dr k => ?_) h)
  match ds, k with
  | [], k => exact k.elim
  | [_], k => exact k.elim
  | _ :: _ :: _ :: _, k => exact k.elim
  | [x, y], k =>
    cases x <;> first | exact k.elim | skip
    · cases y <;> first | exact k.elim | exact k.1.elim
    · cases y <;> first | exact k.elim | exact k.2 | exact k.1.elim
    · cases y <;> first | exact k.elim | exact k.2 | exact k.1.elim
theorem zpw_tt {ι : Type} {l : List ι} {f g : ι → D} {P : List D → Prop} (k : P (l.map fun i => .tup [f i, g i])) : ZpW [.tup (l.map f), .tup (l.map g)] P := by
  refine ⟨trivial, ?_⟩
  rw [zip_maps (κ := ι)]; exact k
theorem zpw_ll {ι : Type} {l : List ι} {o o' : Bool} {f g : ι → D} {P : List D → Prop} (hf : D.fzs (l.map f) = l.map f) (hg : D.fzs (l.map g) = l.map g) (k : P (l.map fun i => .tup [f i, g i])) : ZpW [.lst o (l.map f), .lst o' (l.map g)] P := by
  refine ⟨trivial, ?_⟩
  rw [hf, hg, zip_maps (κ := ι)]; exact k
/-! lists told -/
def LcW (vs : List Nat) (G : CGx) (T : CTx) (F : CEx) (ρ : Rho) (xs : List D) (dr : Dr) (P : D → Dr → Prop) (X : Exn → Dr → Prop) : Prop := EW (lcA G T F (wipeD ρ vs) xs [] dr) (fun acc dr => P (.lst true acc) dr) X
theorem ew_lc {vs : List Nat} {I : CI} (h : EW (I ρ dr) (fun xs dr => LcW vs C T F ρ xs dr P X) X) : EW (cLc vs I C T F ρ dr) P X :=
  ew_bind (ew_m (fun xs dr k => ew_bind (ew_m (fun acc dr k => k) k)) h)
theorem lcw_all {ι : Type} (e f : ι → D) (ys : List ι) {xs : List D} {vs : List Nat} {G : CGx} (hx : xs = ys.map e) (hl : ys.length ≤ sizeLine) (hw : wipeD ρ vs = ρ') (h : ∀ y, y ∈ ys → TgW G ρ' (e y) fun ρ1 => EW (F ρ1 dr) (fun a d => R.ok a d = R.ok (f y) dr) noX) (k : P (.lst true (ys.map f)) dr) : LcW vs G cYes F ρ xs dr P X := by
  subst hx; subst hw
  unfold LcW
  rw [lcA_all (fun y hy => by
    obtain ⟨ρ1, h1, h2⟩ := h y hy
    exact ⟨ρ1, h1, ew_of h2⟩) hl]
  exact k
theorem lcw_map {ι : Type} (e f : ι → D) (p : ι → Bool) (ys : List ι) {xs : List D} {vs : List Nat} {G : CGx} (hx : xs = ys.map e) (hl : ys.length ≤ sizeLine) (hw : wipeD ρ vs = ρ') (h : ∀ y, y ∈ ys → TgW G ρ' (e y) fun ρ1 => EW (T ρ1 dr) (fun a d => R.ok a d = R.ok (p y) dr) noX ∧ (p y = true → EW (F ρ1 dr) (fun a d => R.ok a d = R.ok (f y) dr) noX)) (k : P (.lst true ((ys.filter p).map f)) dr) : LcW vs G T F ρ xs dr P X := by
  subst hx; subst hw
  unfold LcW
  rw [lcA_map (fun y hy => by
    obtain ⟨ρ1, h1, h2, h3⟩ := h y hy
    exact ⟨ρ1, h1, ew_of h2, fun z => ew_of (h3 z)⟩) (by rw [List.length_nil]; omega), List.nil_append]
  exact k
/-- draws within -/
theorem lcw_drawn {ι : Type} (e : ι → D) (V : D → Prop) (ys : List ι) {xs : List D} {vs : List Nat} {G : CGx} {s : Dw} {c k b : Nat} (hx : xs = ys.map e) (g : Good c s) (hb : c + k * ys.length ≤ b) (hl : ys.length ≤ sizeLine) (hw : wipeD ρ vs = ρ') (h : ∀ y, y ∈ ys → ∀ c s, Good c s → c ≤ b → TgW G ρ' (e y) fun ρ1 => EW (F ρ1 (some s)) (fun d dr => ∃ s', dr = some s' ∧ V d ∧ Good (c + k) s') noX) (kk : ∀ ds s', ds.length = ys.length → (∀ d ∈ ds, V d) → Good (c + k * ys.length) s' → P (.lst true ds) (some s')) : LcW vs G cYes F ρ xs (some s) P X := by
  subst hx; subst hw
  unfold LcW
  obtain ⟨ds, s', e1, h1, h2, h3⟩ := lcA_drawn (acc := []) (fun y hy c s g hc => by
    obtain ⟨ρ1, q1, q2⟩ := h y hy c s g hc
    obtain ⟨d, dr, q3, s', rfl, q4, q5⟩ := ew_ex q2
    exact ⟨ρ1, q1, d, s', q3, q4, q5⟩) g hb (by rw [List.length_nil]; omega)
  rw [e1, List.nil_append]
  exact kk ds s' h1 h2 h3
/-! two clauses -/
def Lc2W (vs vs1 : List Nat) (G : CGx) (T : CTx) (I1 : CI) (G1 : CGx) (T1 : CTx) (F : CEx) (ρ : Rho) (xs : List D) (dr : Dr) (P : D → Dr → Prop) (X : Exn → Dr → Prop) : Prop := EW (lcB vs1 G T I1 G1 T1 F (wipeD ρ vs) xs [] dr) (fun acc dr => P (.lst true acc) dr) X
theorem ew_lc2 {vs vs1 : List Nat} {I I1 : CI} {G1 : CGx} (h : EW (I ρ dr) (fun xs dr => Lc2W vs vs1 C T I1 G1 T1 F ρ xs dr P X) X) : EW (cLc2 vs vs1 I C T I1 G1 T1 F ρ dr) P X :=
  ew_bind (ew_m (fun xs dr k => ew_bind (ew_m (fun acc dr k => k) k)) h)
theorem lcB_all {ι κ : Type} {e : ι → D} {l : ι → List κ} {e1 f : ι → κ → D} {vs1 : List Nat} {G G1 : CGx} {I1 : CI} {N : Nat} (hN : N ≤ sizeLine) : ∀ {ys : List ι} {acc : List D}, (∀ y, y ∈ ys → TgW G ρ (e y) fun ρ1 => EW (I1 ρ1 dr) (fun zs d => d = dr ∧ zs = (l y).map (e1 y) ∧ ∀ z, z ∈ l y → WpW ρ1 vs1 fun ρ1 => TgW G1 ρ1 (e1 y z) fun ρ2 => EW (F ρ2 dr) (fun a d => R.ok a d = R.ok (f y z) dr) noX) noX) → acc.length + (ys.flatMap l).length ≤ N → lcB vs1 G cYes I1 G1 cYes F ρ (ys.map e) acc dr = .ok (acc ++ ys.flatMap fun y => (l y).map (f y)) dr
  | [], acc, _, _ => by simp [lcB]
  | y :: ys, acc, h, hl => by
    obtain ⟨ρ1, h1, h2⟩ := h y List.mem_cons_self
    obtain ⟨zs, d, q1, hd, hz, h3⟩ := ew_ex h2
    rw [hd, hz] at q1
    rw [List.flatMap_cons, List.length_append] at hl
    have e0 : cYes ρ1 dr = .ok true dr := rfl
    rw [List.map_cons, lcB, h1]
    simp only [e0, noEx_ok, bind_ok, if_true, q1]
    have := lcA_map (T := cYes) (G := G1) (F := F) (ρ := wipeD ρ1 vs1) (e := e1 y) (f := f y) (p := fun _ => true) (dr := dr) (ys := l y) (acc := acc) (fun z hz => by
      obtain ⟨ρ2, k1, k2⟩ := h3 z hz
      exact ⟨ρ2, k1, rfl, fun _ => ew_of k2⟩) (by omega)
    rw [List.filter_eq_self.mpr fun _ _ => rfl] at this
    rw [this, bind_ok, lcB_all hN (fun z hz => h z (List.mem_cons_of_mem _ hz)) (by rw [List.length_append, List.length_map]; omega), List.flatMap_cons, List.append_assoc]
theorem lc2w_all {ι κ : Type} (e : ι → D) (l : ι → List κ) (e1 f : ι → κ → D) (ys : List ι) {xs : List D} {vs vs1 : List Nat} {G G1 : CGx} {I1 : CI} (hx : xs = ys.map e) (hl : (ys.flatMap l).length ≤ sizeLine) (hw : wipeD ρ vs = ρ') (h : ∀ y, y ∈ ys → TgW G ρ' (e y) fun ρ1 => EW (I1 ρ1 dr) (fun zs d => d = dr ∧ zs = (l y).map (e1 y) ∧ ∀ z, z ∈ l y → WpW ρ1 vs1 fun ρ1 => TgW G1 ρ1 (e1 y z) fun ρ2 => EW (F ρ2 dr) (fun a d => R.ok a d = R.ok (f y z) dr) noX) noX) (k : P (.lst true (ys.flatMap fun y => (l y).map (f y))) dr) : Lc2W vs vs1 G cYes I1 G1 cYes F ρ xs dr P X := by
  subst hx; subst hw
  unfold Lc2W
  rw [lcB_all (Nat.le_refl _) h (by rw [List.length_nil]; omega), List.nil_append]
  exact k
/-! statements -/
theorem sw_seq (h : SW (S1 ρ dr) (SQ U fun ρ dr => SW (S2 ρ dr) U)) : SW (cSeq S1 S2 ρ dr) U := by
  unfold cSeq
  cases e : S1 ρ dr with
  | _ => rw [e] at h; first | exact h | exact (show False from h).elim
theorem xq_stm {r : R D} {f : D → Dr → SR} (h : EW r (fun d dr => SW (f d dr) U) fun e dr => U (.ex e ρ dr)) : SW (r.stm ρ f) U := by
  cases r with
  | st => exact h.elim
  | ok a dr => exact h
  | ex e dr => exact h
theorem sw_skip (h : U (.nx ρ dr)) : SW (cSkip ρ dr) U := h
theorem sw_bk (h : U (.bk ρ dr)) : SW (cBk ρ dr) U := h
theorem sw_ct (h : U (.ct ρ dr)) : SW (cCt ρ dr) U := h
theorem sw_fz (h : ρ[i]? = some (some d)) (k : FzD d fun d => StW i d ρ fun ρ => U (.nx ρ dr)) : SW (cFz i ρ dr) U := by
  unfold cFz; rw [h]; exact k
theorem sw_set (h : EW (F ρ dr) (fun d dr => FzD d fun d => StW i d ρ fun ρ => U (.nx ρ dr)) (fun e dr => U (.ex e ρ dr))) : SW (cSet i F ρ dr) U := xq_stm (ew_m (fun d dr k => k) h)
theorem sw_setO (h : EW (F ρ dr) (fun d dr => StW i d ρ fun ρ => U (.nx ρ dr)) (fun e dr => U (.ex e ρ dr))) : SW (cSetO i F ρ dr) U := xq_stm (ew_m (fun d dr k => k) h)
theorem sw_ret (h : EW (F ρ dr) (fun d dr => U (.rt d dr)) (fun e dr => U (.ex e ρ dr))) : SW (cRet F ρ dr) U := xq_stm (ew_m (fun d dr k => k) h)
theorem sw_retN (h : U (.rt .non dr)) : SW (cRetN ρ dr) U := h
theorem sw_raise {x : Str} (h : U (.ex ⟨x, none⟩ ρ dr)) : SW (cRaise x ρ dr) U := h
theorem sw_drop (h : EW (F ρ dr) (fun _ dr => U (.nx ρ dr)) (fun e dr => U (.ex e ρ dr))) : SW (cDrop F ρ dr) U := xq_stm (ew_m (fun d dr k => k) h)
theorem sw_if (h : EW (T ρ dr) (fun b dr => IfW b (SW (S1 ρ dr) U) (SW (S2 ρ dr) U)) (fun e dr => U (.ex e ρ dr))) : SW (cIfS T S1 S2 ρ dr) U := by
  unfold cIfS
  cases e : T ρ dr with
  | st => rw [e] at h; exact h.elim
  | ex x d => rw [e] at h; exact h
  | ok b d =>
    rw [e] at h
    have h : IfW b (SW (S1 ρ d) U) (SW (S2 ρ d) U) := h
    cases b <;> exact h
theorem p2 {P : D → D → Prop} (h : P d1 d2) : P2 [d1, d2] P := h
theorem p3 {P : D → D → D → Prop} (h : P d1 d2 d3) : P3 [d1, d2, d3] P := h
theorem sw_par2 (h : EW (A ρ dr) (fun ds dr => P2 ds fun x y => StW i x ρ fun ρ => StW j y ρ fun ρ => U (.nx ρ dr)) (fun e dr => U (.ex e ρ dr))) : SW (cPar2 i j A ρ dr) U := by
  unfold cPar2
  cases e : A ρ dr with
  | st => rw [e] at h; exact h.elim
  | ex x d => rw [e] at h; exact h
  | ok ds d =>
    rw [e] at h
    match ds, h with
    | [], h => exact h.elim
    | [_], h => exact h.elim
    | [_, _], h => exact h
    | _ :: _ :: _ :: _, h => exact h.elim
theorem sw_par3 (h : EW (A ρ dr) (fun ds dr => P3 ds fun x y z => StW i x ρ fun ρ => StW j y ρ fun ρ => StW k z ρ fun ρ => U (.nx ρ dr)) (fun e dr => U (.ex e ρ dr))) : SW (cPar3 i j k A ρ dr) U := by
  unfold cPar3
  cases e : A ρ dr with
  | st => rw [e] at h; exact h.elim
  | ex x d => rw [e] at h; exact h
  | ok ds d =>
    rw [e] at h
    match ds, h with
    | [], h => exact h.elim
    | [_], h => exact h.elim
    | [_, _], h => exact h.elim
    | [_, _, _], h => exact h
    | _ :: _ :: _ :: _ :: _, h => exact h.elim
def SetW : Rho → List Nat → List D → (Rho → Prop) → Prop
  | ρ, i :: is, d :: ds, P => StW i d ρ fun ρ => SetW ρ is ds P
  | ρ, [], [], P => P ρ
  | _, _, _, _ => False
theorem setw_cons {is : List Nat} {ds : List D} {P : Rho → Prop} (h : StW i d ρ fun ρ => SetW ρ is ds P) : SetW ρ (i :: is) (d :: ds) P := h
theorem setw_nil {P : Rho → Prop} (h : P ρ) : SetW ρ [] [] P := h
theorem setw_len : ∀ {is : List Nat} {ds : List D} {ρ : Rho} {P : Rho → Prop}, SetW ρ is ds P → ds.length = is.length ∧ P (setN ρ is ds)
  | [], [], _, _, h => ⟨rfl, h⟩
  | [], _ :: _, _, _, h => h.elim
  | _ :: _, [], _, _, h => h.elim
  | i :: is, d :: ds, ρ, P, h => by
    have h : SetW (ρ.set i (some d)) is ds P := h
    obtain ⟨h1, h2⟩ := setw_len h
    exact ⟨by rw [List.length_cons, List.length_cons, h1], h2⟩
theorem sw_parN {is : List Nat} (hl : is.length ≤ sizeLine) (h : EW (A ρ dr) (fun ds dr => SetW ρ is ds fun ρ => U (.nx ρ dr)) (fun e dr => U (.ex e ρ dr))) : SW (cParN is A ρ dr) U := by
  unfold cParN
  cases e : A ρ dr with
  | st => rw [e] at h; exact h.elim
  | ex x d => rw [e] at h; exact h
  | ok ds d =>
    rw [e] at h
    obtain ⟨h1, h2⟩ := setw_len (show SetW ρ is ds fun ρ => U (.nx ρ d) from h)
    show U (if ds.length = is.length ∧ ds.length ≤ sizeLine then SR.nx (setN ρ is ds) d else SR.st)
    rw [if_pos ⟨h1, by rw [h1]; exact hl⟩]
    exact h2
theorem sw_app {xs : List D} (h : ρ[i]? = some (some (.lst true xs))) (k : EW (F ρ dr) (fun d dr => xs.length < sizeLine ∧ StW i (.lst true (xs ++ [d])) ρ fun ρ => U (.nx ρ dr)) (fun e dr => U (.ex e ρ dr))) : SW (cApp i F ρ dr) U := by
  unfold cApp; rw [h]
  refine xq_stm (ew_m (fun d dr k => ?_) k)
  rw [if_pos k.1]; exact k.2
theorem sw_asg (h : EW (F ρ dr) (fun d dr => FzD d fun d => TgW C ρ d fun ρ' => U (.nx ρ' dr)) (fun e dr => U (.ex e ρ dr))) : SW (cAsg C F ρ dr) U := by
  refine xq_stm (ew_m (fun d dr k => ?_) h)
  obtain ⟨ρ', e, k⟩ := k
  show SW (match C ρ d.fz with
    | some ρ' => SR.nx ρ' dr
    | none => SR.st) U
  rw [e]; exact k
theorem sw_setIx {xs : List D} {J : CEx} (h : ρ[i]? = some (some (.lst true xs))) (k : EW (F ρ dr) (fun d dr => EW (J ρ dr) (fun n dr => IntW n fun n => ∃ j, ixN xs.length n = some j ∧ StW i (.lst true (xs.set j d)) ρ fun ρ => U (.nx ρ dr)) (fun e dr => U (.ex e ρ dr))) (fun e dr => U (.ex e ρ dr))) : SW (cSetIx i F J ρ dr) U := by
  refine xq_stm (ew_m (fun d dr k => ?_) k)
  rw [h]
  refine xq_stm (ew_m (fun n dr k => ?_) k)
  cases n <;> first | exact k.elim | skip
  obtain ⟨j, e, k⟩ := k
  show SW (match ixN xs.length _ with
    | some j => SR.nx (ρ.set i (some (.lst true (xs.set j d)))) dr
    | none => SR.st) U
  rw [e]; exact k
/-! targets -/
theorem g_nm' (h : ρ.set i (some d) = ρ') : gNm i ρ d = some ρ' := by
  subst h; rfl
theorem gs_nil : gsNil ρ [] = some ρ := rfl
theorem gs_cons {G : CGx} {K : CGs} {ds : List D} {ρ1 ρ2 : Rho} (h : G ρ d = some ρ1) (k : K ρ1 ds = some ρ2) : gsCons G K ρ (d :: ds) = some ρ2 := by
  show (G ρ d).bind _ = _
  rw [h]; exact k
theorem g_tp {n : Nat} {K : CGs} {ds : List D} (hl : ds.length = n) (h : K ρ ds = some ρ') : gTp n K ρ (.tup ds) = some ρ' := by
  show (if ds.length = n then K ρ ds else none) = _
  rw [if_pos hl]; exact h
theorem g_tpl {n : Nat} {K : CGs} {ds : List D} (hl : ds.length = n) (h : K ρ ds = some ρ') : gTp n K ρ (.lst false ds) = some ρ' := by
  show (if ds.length = n then K ρ ds else none) = _
  rw [if_pos hl]; exact h
/-! loops -/
theorem forG_w {ι : Type} {e : ι → D} {G : CGx} {Inv : List ι → Rho → Dr → Prop} (hs : ∀ y zs ρ dr, Inv (y :: zs) ρ dr → TgW G ρ (e y) fun ρ1 => SW (B ρ1 dr) (LQ U (Inv zs))) (hk : ∀ ρ dr, Inv [] ρ dr → U (.nx ρ dr)) : ∀ {ys : List ι} {ρ : Rho} {dr : Dr}, Inv ys ρ dr → SW (forG G B (ys.map e) ρ dr) U
  | [], ρ, dr, h => hk ρ dr h
  | y :: ys, ρ, dr, h => by
    obtain ⟨ρ1, h1, h2⟩ := hs y ys ρ dr h
    rw [List.map_cons, forG, h1]
    simp only
    cases q : B ρ1 dr with
    | st => rw [q] at h2; exact h2.elim
    | nx ρ2 dr2 => rw [q] at h2; exact forG_w hs hk h2
    | ct ρ2 dr2 => rw [q] at h2; exact forG_w hs hk h2
    | bk ρ2 dr2 => rw [q] at h2; exact h2
    | rt d dr2 => rw [q] at h2; exact h2
    | ex x ρ2 dr2 => rw [q] at h2; exact h2
theorem sw_for {ι : Type} (e : ι → D) (ys : List ι) {I : CI} {G : CGx} (Inv : List ι → Rho → Dr → Prop) (hi : EW (I ρ dr) (fun xs dr => xs = ys.map e ∧ Inv ys ρ dr) (fun e dr => U (.ex e ρ dr))) (hs : ∀ y zs ρ dr, Inv (y :: zs) ρ dr → TgW G ρ (e y) fun ρ1 => SW (B ρ1 dr) (LQ U (Inv zs))) (hk : ∀ ρ dr, Inv [] ρ dr → U (.nx ρ dr)) : SW (cFor I G B ρ dr) U := by
  unfold cFor
  cases q : I ρ dr with
  | st => rw [q] at hi; exact hi.elim
  | ex x d => rw [q] at hi; exact hi
  | ok xs dr2 =>
    rw [q] at hi
    obtain ⟨rfl, h0⟩ := (show xs = ys.map e ∧ Inv ys ρ dr2 from hi)
    exact forG_w hs hk h0
theorem whG_w {Inv : Nat → Rho → Dr → Prop} (hs : ∀ m ρ dr, Inv m ρ dr → EW (T ρ dr) (fun b dr => IfW b (SW (B ρ dr) (LQ U fun ρ dr => ∃ m', m' < m ∧ Inv m' ρ dr)) (U (.nx ρ dr))) (fun e dr => U (.ex e ρ dr))) : ∀ {n m : Nat} {ρ : Rho} {dr : Dr}, m < n → Inv m ρ dr → SW (whG T B n ρ dr) U
  | 0, m, _, _, h, _ => absurd h (Nat.not_lt_zero _)
  | n + 1, m, ρ, dr, hm, h => by
    have q := hs m ρ dr h
    unfold whG
    cases e : T ρ dr with
    | st => rw [e] at q; exact q.elim
    | ex x d => rw [e] at q; exact q
    | ok b d =>
      rw [e] at q
      have q : IfW b (SW (B ρ d) (LQ U fun ρ dr => ∃ m', m' < m ∧ Inv m' ρ dr)) (U (.nx ρ d)) := q
      cases b with
      | false => exact q
      | true =>
        have q : SW (B ρ d) (LQ U fun ρ dr => ∃ m', m' < m ∧ Inv m' ρ dr) := q
        simp only
        cases z : B ρ d with
        | st => rw [z] at q; exact q.elim
        | nx ρ2 dr2 =>
          rw [z] at q
          obtain ⟨m', h1, h2⟩ := (show ∃ m', m' < m ∧ Inv m' ρ2 dr2 from q)
          exact whG_w hs (by omega) h2
        | ct ρ2 dr2 =>
          rw [z] at q
          obtain ⟨m', h1, h2⟩ := (show ∃ m', m' < m ∧ Inv m' ρ2 dr2 from q)
          exact whG_w hs (by omega) h2
        | bk ρ2 dr2 => rw [z] at q; exact q
        | rt d dr2 => rw [z] at q; exact q
        | ex x ρ2 dr2 => rw [z] at q; exact q
theorem sw_while {fu : Rho → Nat} (m : Nat) (Inv : Nat → Rho → Dr → Prop) (h0 : Inv m ρ dr) (hm : m < fu ρ) (hs : ∀ m ρ dr, Inv m ρ dr → EW (T ρ dr) (fun b dr => IfW b (SW (B ρ dr) (LQ U fun ρ dr => ∃ m', m' < m ∧ Inv m' ρ dr)) (U (.nx ρ dr))) (fun e dr => U (.ex e ρ dr))) : SW (cWhile fu T B ρ dr) U := whG_w hs hm h0
/-! try -/
def TQ (mt : Str → Option Bool) (S : CSx) (U : SR → Prop) : SR → Prop
  | .nx ρ dr => U (.nx ρ dr)
  | .rt d dr => U (.rt d dr)
  | .bk ρ dr => U (.bk ρ dr)
  | .ct ρ dr => U (.ct ρ dr)
  | .ex e ρ dr => match mt e.cls with
    | some true => SW (S ρ dr) fun r => U r ∧ ∀ e ρ dr, r ≠ .ex e ρ dr
    | some false => U (.ex e ρ dr)
    | none => False
  | .st => False
theorem sw_try {mt : Str → Option Bool} (h : SW (B ρ dr) (TQ mt S U)) : SW (cTry mt B S ρ dr) U := by
  unfold cTry
  cases q : B ρ dr with
  | ex x ρ2 dr2 =>
    rw [q] at h
    simp only
    cases z : mt x.cls with
    | none =>
      have h : (match mt x.cls with
        | some true => SW (S ρ2 dr2) fun r => U r ∧ ∀ e ρ dr, r ≠ .ex e ρ dr
        | some false => U (.ex x ρ2 dr2)
        | none => False) := h
      rw [z] at h; exact h.elim
    | some b =>
      have h : (match mt x.cls with
        | some true => SW (S ρ2 dr2) fun r => U r ∧ ∀ e ρ dr, r ≠ .ex e ρ dr
        | some false => U (.ex x ρ2 dr2)
        | none => False) := h
      rw [z] at h
      cases b with
      | false => exact h
      | true =>
        have h : U (S ρ2 dr2) ∧ ∀ e ρ dr, S ρ2 dr2 ≠ .ex e ρ dr := h
        show U (noExS (S ρ2 dr2))
        unfold noExS
        cases w : S ρ2 dr2 with
        | ex e ρ dr => exact absurd w (h.2 e ρ dr)
        | _ => rw [w] at h; exact h.1
  | st => rw [q] at h; exact h.elim
  | _ => rw [q] at h; exact h
theorem tq_rt {mt : Str → Option Bool} (h : U (.rt d dr)) : TQ mt S U (.rt d dr) := h
theorem tq_nx {mt : Str → Option Bool} (h : U (.nx ρ dr)) : TQ mt S U (.nx ρ dr) := h
theorem tq_ex {mt : Str → Option Bool} (z : mt e.cls = some true) (h : SW (S ρ dr) fun r => U r ∧ ∀ e ρ dr, r ≠ .ex e ρ dr) : TQ mt S U (.ex e ρ dr) := by
  show (match mt e.cls with
    | some true => SW (S ρ dr) fun r => U r ∧ ∀ e ρ dr, r ≠ .ex e ρ dr
    | some false => U (.ex e ρ dr)
    | none => False)
  rw [z]; exact h
theorem fw {n : Nat} {ds : List D} (h : ds.map some ++ List.replicate (n - ds.length) none = ρ) (k : SW (S ρ dr) (FQ P X)) : EW (fnD n S ds dr) P X := by
  unfold fnD
  rw [h]
  cases q : S ρ dr with
  | _ => rw [q] at k; first | exact k | exact k.elim
theorem fw1 {n : Nat} {a : D} (k : SW (S (some a :: List.replicate n none) dr) (FQ P X)) : EW (fnD (n + 1) S [a] dr) P X := fw (n := n + 1) (ds := [a]) rfl k
theorem fw2 {n : Nat} {a b : D} (k : SW (S (some a :: some b :: List.replicate n none) dr) (FQ P X)) : EW (fnD (n + 2) S [a, b] dr) P X := fw (n := n + 2) (ds := [a, b]) rfl k
theorem fw3 {n : Nat} {a b c : D} (k : SW (S (some a :: some b :: some c :: List.replicate n none) dr) (FQ P X)) : EW (fnD (n + 3) S [a, b, c] dr) P X := fw (n := n + 3) (ds := [a, b, c]) rfl k
theorem fw4 {n : Nat} {a b c d : D} (k : SW (S (some a :: some b :: some c :: some d :: List.replicate n none) dr) (FQ P X)) : EW (fnD (n + 4) S [a, b, c, d] dr) P X := fw (n := n + 4) (ds := [a, b, c, d]) rfl k
/-! small things, put together -/
theorem len_ok {γ : Type} {ds : List γ} (h : ds.length ≤ 1000) : ds.length ≤ sizeLine := by rw [sizeLine_eq]; omega
theorem len_lt {γ : Type} {ds : List γ} (h : ds.length ≤ 1000) : ds.length < sizeLine := by rw [sizeLine_eq]; omega
theorem fzs_c {x x' : D} {xs xs' : List D} (h : x.fz = x') (t : D.fzs xs = xs') : D.fzs (x :: xs) = x' :: xs' := by rw [fzs_cons, h, t]
theorem fz_lstm {ι : Type} {o : Bool} {l : List ι} {f : ι → D} (h : ∀ i, (f i).fz = f i) : (D.lst o (l.map f)).fz = .lst false (l.map f) := by rw [fz_lst, fzs_frz _ _ h]
theorem fz_lst' {o : Bool} {xs xs' : List D} (h : D.fzs xs = xs') : (D.lst o xs).fz = .lst false xs' := by rw [fz_lst, h]
theorem wipe_nil : wipeD ρ [] = ρ := rfl
theorem wipe_c {v : Nat} {vs : List Nat} {ρ1 ρ2 : Rho} (h : wipeD ρ vs = ρ1) (q : ρ1.set v none = ρ2) : wipeD ρ (v :: vs) = ρ2 := by rw [wipeD_cons, h, q]
theorem set_s {γ : Type} {a x : γ} {l l' : List γ} {n : Nat} (h : l.set n x = l') : (a :: l).set (n + 1) x = a :: l' := by rw [List.set_cons_succ, h]
end
end DL
/-! MB5 -/
/-! MB5: operators on rows, tables, lists that are laid over places. -/
namespace DL
open PySem PySem.Spec PyProof.Rows L2
section
variable {ι κ : Type} {dr : Dr} {P : D → Dr → Prop} {X : Exn → Dr → Prop} {I : List ι} {J : List κ} {A : ι → κ → Rat} {r : κ → Rat} {n k : Nat} {o : Bool} {F : CEx} {ρ : Rho} {l : List ι} {f : ι → D}
theorem ew_lrg1 (h : EW (F ρ dr) (fun d dr => RgW d fun n => P (.lst true ((List.range n).map fun k : Nat => .int (k : Int))) dr) X) : EW (cLstRg (cRg1 F) ρ dr) P X := by
  refine ew_bind (r := cRg1 F ρ dr) (ew_bind (ew_m (fun d dr q => ?_) h))
  refine (rgw_d q).elim fun n hn => ?_
  rw [hn.1]
  have hn2 := rgLine_le hn.2.1
  have c : okRg 0 (n : Int) = true := by
    unfold okRg
    simp only [Bool.and_eq_true, decide_eq_true_eq]
    omega
  have k2 := hn.2.2
  rw [← rgD_nat] at k2
  refine ew_ok ?_
  simp only [c, if_true]
  exact k2
theorem rgw_n {Q : Nat → Prop} {n : Nat} (hn : n ≤ 100000) (k : Q n) : RgW (.int (n : Int)) Q := ⟨n, rfl, by unfold rgLine; exact hn, k⟩
theorem ow_lentab (h : P (.int (I.length : Int)) dr) : OW (gLen [tabL I J A]) dr P := ⟨_, by
  show some (D.int ((I.map fun i => rowL J (A i)).length : Int)) = _
  rw [List.length_map], h⟩
theorem ow_lentabR {A : Nat → κ → Rat} (h : P (.int (n : Int)) dr) : OW (gLen [tabL (List.range n) J A]) dr P := ow_lentab (by rw [List.length_range]; exact h)
theorem ow_lenrow (h : P (.int (J.length : Int)) dr) : OW (gLen [rowL J r]) dr P := ⟨_, by
  show some (D.int ((J.map fun i => qD (r i)).length : Int)) = _
  rw [List.length_map], h⟩
theorem ow_lenrowR {r : Nat → Rat} (h : P (.int (n : Int)) dr) : OW (gLen [rowL (List.range n) r]) dr P := ow_lenrow (by rw [List.length_range]; exact h)
theorem ow_lentup (h : P (.int (l.length : Int)) dr) : OW (gLen [.tup (l.map f)]) dr P := ⟨_, by
  show some (D.int ((l.map f).length : Int)) = _
  rw [List.length_map], h⟩
theorem ow_lenT {xs : List D} (h : P (.int (xs.length : Int)) dr) : OW (gLen [.tup xs]) dr P := ⟨_, rfl, h⟩
theorem ow_lenL {xs : List D} (h : P (.int (xs.length : Int)) dr) : OW (gLen [.lst o xs]) dr P := ⟨_, rfl, h⟩
theorem ow_lenlst (h : P (.int (l.length : Int)) dr) : OW (gLen [.lst o (l.map f)]) dr P := ⟨_, by
  show some (D.int ((l.map f).length : Int)) = _
  rw [List.length_map], h⟩
theorem ow_lenlstR {f : Nat → D} (h : P (.int (n : Int)) dr) : OW (gLen [.lst o ((List.range n).map f)]) dr P := ow_lenlst (by rw [List.length_range]; exact h)
theorem ow_tuple (hq : ∀ i, (f i).frz = true) (h : P (.tup (l.map f)) dr) : OW (gTuple [.lst o (l.map f)]) dr P := ⟨_, gTuple_lst l f hq, h⟩
theorem ow_list (hq : ∀ i, (f i).frz = true) (h : P (.lst true (l.map f)) dr) : OW (gList [.lst o (l.map f)]) dr P := ⟨_, by
  show (if (l.map f).all D.frz = true then some (D.lst true (l.map f)) else none) = _
  rw [if_pos (all_frz l f hq)], h⟩
theorem ow_listT {xs : List D} (h : P (.lst true xs) dr) : OW (gList [.tup xs]) dr P := ⟨_, rfl, h⟩
theorem at_map {f : Nat → D} (h : k < n) : atI ((List.range n).map f) (k : Int) = some (f k) := by
  refine atI_nat ?_
  rw [List.getElem?_map, List.getElem?_range h]
  rfl
theorem ow_ixtab {A : Nat → κ → Rat} (h : k < n) (q : P (rowL J (A k)) dr) : OW (gIx (tabL (List.range n) J A) (.int (k : Int))) dr P := ⟨_, at_map (f := fun i => rowL J (A i)) h, q⟩
theorem ow_ixrow {r : Nat → Rat} (h : k < n) (q : P (qD (r k)) dr) : OW (gIx (rowL (List.range n) r) (.int (k : Int))) dr P := ⟨_, at_map (f := fun i => qD (r i)) h, q⟩
theorem ow_ixlst {f : Nat → D} (h : k < n) (q : P (f k) dr) : OW (gIx (.lst o ((List.range n).map f)) (.int (k : Int))) dr P := ⟨_, at_map h, q⟩
theorem ow_ixtup {f : Nat → D} (h : k < n) (q : P (f k) dr) : OW (gIx (.tup ((List.range n).map f)) (.int (k : Int))) dr P := ⟨_, at_map h, q⟩
theorem ow_num {q : Rat} (h : P (.int q.num) dr) : OW (gIx (qD q) (.int 0)) dr P := ⟨_, rfl, h⟩
theorem ow_den {q : Rat} (h : P (.int (q.den : Int)) dr) : OW (gIx (qD q) (.int 1)) dr P := ⟨_, rfl, h⟩
theorem ow_mul {a b : Int} (c : a.natAbs.log2 + b.natAbs.log2 < 1000000) (h : P (.int (a * b)) dr) : OW (gMul (.int a) (.int b)) dr P := ⟨_, gmul_int c, h⟩
theorem ow_mulI {a b : Int} (c : a.natAbs.log2 + b.natAbs.log2 < 1000000) (h : P (.int (a * b)) dr) : OW (gMulI (.int a) (.int b)) dr P := ⟨_, gmulI_int c, h⟩
theorem ow_tst {z : D} {oo : Option D} (e : oo = some z) (h : P z dr) : OW oo dr P := ⟨z, e, h⟩
theorem len_map_le {γ δ : Type} {l : List γ} {f : γ → δ} (h : l.length ≤ 1000) : (l.map f).length ≤ sizeLine := by rw [List.length_map]; exact len_ok h
theorem map_app1 {γ δ : Type} {f : γ → δ} {s : List γ} {x : γ} : s.map f ++ [f x] = (s ++ [x]).map f := by rw [List.map_append]; rfl
theorem zpw_rr {g : κ → Rat} {Q : List D → Prop} (k : Q (J.map fun j => .tup [qD (r j), qD (g j)])) : ZpW [rowL J r, rowL J g] Q := zpw_tt k
theorem lgle {x N : Nat} (h : x < 2 ^ N) : x.log2 ≤ N := by
  rcases Nat.eq_zero_or_pos N with z | z
  · subst z
    have : x = 0 := by omega
    subst this
    decide
  · exact Nat.le_of_lt (lg h z)
theorem rng_mid {n y : Nat} {ws zt : List Nat} (h : List.range n = ws ++ y :: zt) : ws = List.range y ∧ y < n ∧ ws.length = y := by
  have l := congrArg List.length h
  rw [List.length_range, List.length_append, List.length_cons] at l
  have e1 : (List.range n)[ws.length]? = some y := by rw [h, List.getElem?_append_right (Nat.le_refl _), Nat.sub_self]; rfl
  rw [List.getElem?_range (by omega)] at e1
  have e1 : ws.length = y := Option.some.inj e1
  refine ⟨?_, by omega, e1⟩
  have e2 : (List.range n).take ws.length = ws := by rw [h, List.take_left]
  rw [← e2, List.take_range, e1, Nat.min_eq_left (by omega)]
theorem rng_set {f : Nat → D} {v : D} {j : Nat} : ((List.range n).map f).set j v = (List.range n).map fun i => if i = j then v else f i := by
  refine List.ext_getElem (by simp) fun i h1 h2 => ?_
  rw [List.getElem_set]
  simp only [List.getElem_map, List.getElem_range]
  by_cases h : j = i
  · rw [if_pos h, if_pos h.symm]
  · rw [if_neg h, if_neg fun z => h z.symm]
/-! values of any kind -/
mutual
/-- no def, no draws, no list of one's own -/
def _root_.DL.D.cl : D → Bool
  | .fn _ => false
  | .dr => false
  | .tup xs => D.cls xs
  | .lst o xs => !o && D.cls xs
  | _ => true
def _root_.DL.D.cls : List D → Bool
  | [] => true
  | x :: xs => D.cl x && D.cls xs
end
theorem cls_mem : ∀ {xs : List D}, D.cls xs = true → ∀ x ∈ xs, x.cl = true
  | [], _, _, h => nomatch h
  | x :: xs, h, y, hy => by
    have h : (D.cl x && D.cls xs) = true := h
    rw [Bool.and_eq_true] at h
    rcases List.mem_cons.mp hy with z | z
    · rw [z]; exact h.1
    · exact cls_mem h.2 y z
mutual
theorem fz_cl : ∀ (d : D), d.cl = true → d.fz = d
  | .lst o xs, h => by
    have h : (!o && D.cls xs) = true := h
    rw [Bool.and_eq_true] at h
    rw [fz_lst, fzs_cl xs h.2]
    cases o
    · rfl
    · exact absurd h.1 (by decide)
  | .tup _, _ => rfl
  | .non, _ => rfl
  | .bl _, _ => rfl
  | .int _, _ => rfl
  | .str _, _ => rfl
  | .fn _, _ => rfl
  | .dr, _ => rfl
theorem fzs_cl : ∀ (xs : List D), D.cls xs = true → D.fzs xs = xs
  | [], _ => rfl
  | x :: xs, h => by
    have h : (D.cl x && D.cls xs) = true := h
    rw [Bool.and_eq_true] at h
    rw [fzs_cons, fz_cl x h.1, fzs_cl xs h.2]
end
theorem frz_cl {d : D} (h : d.cl = true) : d.frz = true := by
  cases d with
  | lst o xs =>
    have h : (!o && D.cls xs) = true := h
    rw [Bool.and_eq_true] at h
    exact h.1
  | _ => rfl
def _root_.DL.D.isW : D → Bool
  | .int _ => true
  | _ => false
def _root_.DL.D.isQ : D → Bool
  | .tup [.int a, .int b] => decide (0 < b) && (Int.gcd a b == 1)
  | _ => false
def isRow (n : Int) : D → Bool
  | .tup xs => ((xs.length : Int) == n) && xs.all D.isQ
  | _ => false
def isSq (n : Int) : D → Bool
  | .tup xs => ((xs.length : Int) == n) && xs.all (isRow n)
  | _ => false
def isTab : D → Bool
  | .tup xs => decide (0 < (xs.length : Int)) && decide ((xs.length : Int) ≤ 4) && isSq xs.length (.tup xs)
  | _ => false
def isEqn : D → Bool
  | .tup (x :: xs) => decide (1 < ((x :: xs).length : Int)) && decide (((x :: xs).length : Int) ≤ 21) && isRow (x :: xs).length (.tup (x :: xs)) && x.eqv (.tup [.int 1, .int 1])
  | _ => false
theorem isQ_qD (q : Rat) : (qD q).isQ = true := by
  show (decide (0 < (q.den : Int)) && (Int.gcd q.num q.den == 1)) = true
  have h1 := q.den_pos
  have h2 := q.reduced
  rw [Bool.and_eq_true]
  refine ⟨decide_eq_true (by omega), ?_⟩
  have : Int.gcd q.num q.den = 1 := h2
  rw [this]; rfl
theorem isRow_row (J : List κ) (r : κ → Rat) {n : Int} (h : (J.length : Int) = n) : isRow n (rowL J r) = true := by
  show (((J.map fun i => qD (r i)).length : Int) == n && (J.map fun i => qD (r i)).all D.isQ) = true
  rw [List.length_map, h, Bool.and_eq_true]
  refine ⟨by simp, ?_⟩
  rw [List.all_eq_true]
  intro x hx
  obtain ⟨j, _, rfl⟩ := List.mem_map.mp hx
  exact isQ_qD _
theorem isTab_tab (A : ι → κ → Rat) (h : I.length = J.length) (h0 : 0 < I.length) (h4 : I.length ≤ 4) : isTab (tabL I J A) = true := by
  show (decide (0 < ((I.map fun i => rowL J (A i)).length : Int)) && decide (((I.map fun i => rowL J (A i)).length : Int) ≤ 4) && (((I.map fun i => rowL J (A i)).length : Int) == ((I.map fun i => rowL J (A i)).length : Int) && (I.map fun i => rowL J (A i)).all (isRow (I.map fun i => rowL J (A i)).length))) = true
  rw [List.length_map]
  simp only [Bool.and_eq_true, decide_eq_true_eq, beq_self_eq_true, true_and]
  refine ⟨⟨by omega, by omega⟩, ?_⟩
  rw [List.all_eq_true]
  intro x hx
  obtain ⟨j, _, rfl⟩ := List.mem_map.mp hx
  exact isRow_row _ _ (by rw [h])
theorem cl_qD (q : Rat) : (qD q).cl = true := rfl
theorem cls_map {f : ι → D} (h : ∀ i, (f i).cl = true) : ∀ (l : List ι), D.cls (l.map f) = true
  | [] => rfl
  | x :: l => by
    show (D.cl (f x) && D.cls (l.map f)) = true
    rw [h x, cls_map h l]; rfl
theorem cl_row (J : List κ) (r : κ → Rat) : (rowL J r).cl = true := cls_map (fun _ => rfl) J
theorem cl_tab (I : List ι) (J : List κ) (A : ι → κ → Rat) : (tabL I J A).cl = true := cls_map (fun i => cl_row J (A i)) I
/-! all([..]) -/
theorem bls_map (f : ι → Bool) : ∀ (l : List ι), bls? (l.map fun i => .bl (f i)) = some (l.map f)
  | [] => rfl
  | x :: l => by
    show ((D.bl (f x)).bl?).bind _ = _
    show (bls? (l.map fun i => .bl (f i))).map (fun is => f x :: is) = _
    rw [bls_map f l]; rfl
theorem ow_all {f : ι → Bool} (h : P (.bl (l.all f)) dr) : OW (gAll [.lst o (l.map fun i => .bl (f i))]) dr P := ⟨_, by
  show (bls? (l.map fun i => .bl (f i))).map (fun ns => D.bl (ns.all fun b => b)) = some (.bl (l.all f))
  rw [bls_map, Option.map_some, List.all_map]; rfl, h⟩
theorem ints_map (f : ι → Int) : ∀ (l : List ι), ints? (l.map fun i => .int (f i)) = some (l.map f)
  | [] => rfl
  | x :: l => by
    show (ints? (l.map fun i => .int (f i))).map (fun is => f x :: is) = _
    rw [ints_map f l]; rfl
theorem ow_sum {f : ι → Int} (h : P (.int (l.map f).sum) dr) : OW (gSum [.lst o (l.map fun i => .int (f i))]) dr P := ⟨_, by
  show (ints? (l.map fun i => .int (f i))).map (fun ns => D.int ns.sum) = some (.int (l.map f).sum)
  rw [ints_map]; rfl, h⟩
theorem ow_ixlst0 {f : Nat → D} (h : 0 < n) (q : P (f 0) dr) : OW (gIx (.lst o ((List.range n).map f)) (.int 0)) dr P := ⟨_, at_map (k := 0) h, q⟩
theorem ow_ixtup0 {f : Nat → D} (h : 0 < n) (q : P (f 0) dr) : OW (gIx (.tup ((List.range n).map f)) (.int 0)) dr P := ⟨_, at_map (k := 0) h, q⟩
theorem sum_filter (f : ι → Int) (p : ι → Bool) (h : ∀ i, p i = false → f i = 0) : ∀ (l : List ι), ((l.filter p).map f).sum = (l.map f).sum
  | [] => rfl
  | x :: l => by
    by_cases c : p x = true
    · rw [List.filter_cons_of_pos c, List.map_cons, List.sum_cons, List.map_cons, List.sum_cons, sum_filter f p h l]
    · rw [List.filter_cons_of_neg c, List.map_cons, List.sum_cons, sum_filter f p h l, h x (by simpa using c), Int.zero_add]
theorem ow_any {f : ι → Bool} (h : P (.bl (l.any f)) dr) : OW (gAny [.lst o (l.map fun i => .bl (f i))]) dr P := ⟨_, by
  show (bls? (l.map fun i => .bl (f i))).map (fun ns => D.bl (ns.any fun b => b)) = some (.bl (l.any f))
  rw [bls_map, Option.map_some, List.any_map]; rfl, h⟩
/-- a table of integers, lists of a list -/
def lstZ {ι κ : Type} (o : Bool) (I : List ι) (J : List κ) (W : ι → κ → Int) : D := .lst o (I.map fun i => .lst o (J.map fun j => .int (W i j)))
theorem fz_lstZ {ι κ : Type} (o : Bool) (I : List ι) (J : List κ) (W : ι → κ → Int) : (lstZ o I J W).fz = lstZ false I J W := by
  unfold lstZ
  rw [fz_lst, fzs_map, List.map_map]
  congr 1
  refine List.map_congr_left fun i _ => ?_
  show (D.lst o (J.map fun j => .int (W i j))).fz = _
  rw [fz_lst, fzs_intm]
theorem cl_lstZ {ι κ : Type} (I : List ι) (J : List κ) (W : ι → κ → Int) : (lstZ false I J W).cl = true := cls_map (f := fun i => D.lst false (J.map fun j => .int (W i j))) (fun i => (show (!false && D.cls (J.map fun j => D.int (W i j))) = true from by rw [cls_map (f := fun j => D.int (W i j)) (fun _ => rfl) J]; rfl)) I
theorem ow_lenZ {n : Nat} {J : List Nat} {W : Nat → Nat → Int} (h : P (.int (n : Int)) dr) : OW (gLen [lstZ o (List.range n) J W]) dr P := ow_lenlstR h
theorem ow_ixZ {n : Nat} {J : List Nat} {W : Nat → Nat → Int} (h : k < n) (q : P (.lst o (J.map fun j => .int (W k j))) dr) : OW (gIx (lstZ o (List.range n) J W) (.int (k : Int))) dr P := ow_ixlst (f := fun i => .lst o (J.map fun j => .int (W i j))) h q
theorem lstZ_congr {n : Nat} {o : Bool} {W V : Nat → Nat → Int} (h : ∀ i j, i < n → j < n → W i j = V i j) : lstZ o (List.range n) (List.range n) W = lstZ o (List.range n) (List.range n) V := by
  unfold lstZ
  congr 1
  refine List.map_congr_left fun i hi => ?_
  congr 1
  refine List.map_congr_left fun j hj => ?_
  rw [h i j (List.mem_range.mp hi) (List.mem_range.mp hj)]
def updZ (W : Nat → Nat → Int) (p q : Nat) (t : Int) (i j : Nat) : Int := if i = p ∧ j = q then W i j + t else W i j
theorem ixD_rng {n : Nat} {f : Nat → D} {p : Nat} (h : p < n) : ixD ((List.range n).map f) (.int (p : Int)) = some p := by
  show ixN ((List.range n).map f).length (p : Int) = some p
  unfold ixN
  rw [List.length_map, List.length_range, if_pos (by omega), if_pos (by omega)]
  rfl
/-- y[p][q] += t -/
theorem sw_aug2Z {n p q i : Nat} {W : Nat → Nat → Int} {t : Int} {ρ : Rho} {dr : Dr} {J1 J2 F : CEx} {U : SR → Prop} (h : ρ[i]? = some (some (lstZ true (List.range n) (List.range n) W))) (hp : p < n) (hq : q < n)
    (h1 : J1 ρ dr = .ok (.int (p : Int)) dr) (h2 : J2 ρ dr = .ok (.int (q : Int)) dr) (h3 : F ρ dr = .ok (.int t) dr) (k : StW i (lstZ true (List.range n) (List.range n) (updZ W p q t)) ρ fun ρ => U (.nx ρ dr)) : SW (cAug2 i J1 J2 gAddI F ρ dr) U := by
  have e0 : ownAt ρ i = some ((List.range n).map fun i => D.lst true ((List.range n).map fun j => .int (W i j))) := by
    unfold ownAt; rw [h]; rfl
  have e1 : ixD ((List.range n).map fun i => D.lst true ((List.range n).map fun j => .int (W i j))) (.int (p : Int)) = some p := ixD_rng hp
  have e2 : inAt ((List.range n).map fun i => D.lst true ((List.range n).map fun j => .int (W i j))) p = some ((List.range n).map fun j => .int (W p j)) := by
    unfold inAt
    rw [List.getElem?_map, List.getElem?_range hp]; rfl
  have e3 : ixD ((List.range n).map fun j => D.int (W p j)) (.int (q : Int)) = some q := ixD_rng hq
  have e4 : ((List.range n).map fun j => D.int (W p j))[q]? = some (.int (W p q)) := by
    rw [List.getElem?_map, List.getElem?_range hq]; rfl
  refine sw_eq (r' := .nx (ρ.set i (some (lstZ true (List.range n) (List.range n) (updZ W p q t)))) dr) ?_ k
  unfold cAug2
  rw [e0]
  simp only [sopt_some, h1, stm_ok, e1, e2, h2, e3, e4, h3, gaddI_int, fz_int]
  unfold aug1
  rw [rng_set, rng_set]
  have : ((List.range n).map fun i => if i = p then D.lst true ((List.range n).map fun i => if i = q then D.int (W p q + t) else D.int (W p i)) else D.lst true ((List.range n).map fun j => .int (W i j))) = (List.range n).map fun i => D.lst true ((List.range n).map fun j => .int (updZ W p q t i j)) := ?_
  · rw [this]; rfl
  refine List.map_congr_left fun a ha => ?_
  unfold updZ
  by_cases ea : a = p
  · subst ea
    rw [if_pos rfl]
    congr 1
    refine List.map_congr_left fun b hb => ?_
    by_cases eb : b = q
    · subst eb
      rw [if_pos rfl, if_pos ⟨rfl, rfl⟩]
    · rw [if_neg eb, if_neg fun z => eb z.2]
  · rw [if_neg ea]
    congr 1
    refine List.map_congr_left fun b hb => ?_
    rw [if_neg fun z => ea z.1]
/-- [x] * k -/
theorem rep_rng {γ : Type} (x : γ) : ∀ k : Nat, (List.replicate k [x]).flatten = (List.range k).map fun _ => x
  | 0 => rfl
  | k + 1 => by rw [List.replicate_succ', List.flatten_append, rep_rng x k, List.range_succ, List.map_append]; rfl
theorem ow_rep {x : D} {k : Nat} (hx : x.frz = true) (hk : k ≤ 1000) (h : P (.lst true ((List.range k).map fun _ => x)) dr) : OW (gMul (.lst o [x]) (.int (k : Int))) dr P := ⟨_, by
  have c : (decide (-(2 ^ 63) ≤ (k : Int)) && decide ((k : Int) < 2 ^ 63) && decide (([x] : List D).length * (k : Int).toNat ≤ sizeLine) && [x].all D.frz) = true := by
    rw [sizeLine_eq]
    simp [hx]
    omega
  simp only [gMul]
  rw [if_pos c, Int.toNat_natCast, rep_rng x k], h⟩
/-- y[j] = e -/
theorem sw_setIxR {i n j : Nat} {f : Nat → D} {ρ : Rho} {dr : Dr} {F J : CEx} {U : SR → Prop} (h : ρ[i]? = some (some (.lst true ((List.range n).map f)))) (hj : j < n)
    (k : EW (F ρ dr) (fun d dr => EW (J ρ dr) (fun z dr => z = .int (j : Int) ∧ StW i (.lst true ((List.range n).map fun m => if m = j then d else f m)) ρ fun ρ => U (.nx ρ dr)) (fun e dr => U (.ex e ρ dr))) (fun e dr => U (.ex e ρ dr))) : SW (cSetIx i F J ρ dr) U := by
  refine sw_setIx h (ew_m (fun d dr kk => ew_m (fun z dr k2 => ?_) kk) k)
  obtain ⟨rfl, k3⟩ := k2
  refine ⟨j, ixD_rng (f := f) hj, ?_⟩
  rw [rng_set]
  exact k3
theorem rng_rev {n : Nat} {f : Nat → D} : ((List.range (n + 1)).map f).reverse = (List.range (n + 1)).map fun k => f (n - k) := by
  refine List.ext_getElem (by simp) fun i h1 h2 => ?_
  rw [List.getElem_reverse]
  simp only [List.getElem_map, List.getElem_range, List.length_map, List.length_range]
  congr 1
theorem gRev_rng {n : Nat} {f : Nat → D} : gRev (.lst false ((List.range (n + 1)).map f)) = some (.lst true ((List.range (n + 1)).map fun k => f (n - k))) := by
  show some (D.lst true ((List.range (n + 1)).map f).reverse) = _
  rw [rng_rev]
/-! fractions over one lower number -/
structure Fr (D B : Nat) (q : Rat) : Prop where
  z : ∃ z : Int, z.natAbs ≤ B ∧ q * (D : Rat) = (z : Rat)
theorem Fr.mono {D B C : Nat} {q : Rat} (h : Fr D B q) (k : B ≤ C) : Fr D C q := by
  obtain ⟨z, h1, h2⟩ := h.z
  exact ⟨z, Nat.le_trans h1 k, h2⟩
theorem Fr.add {D B C : Nat} {q r : Rat} (h : Fr D B q) (k : Fr D C r) : Fr D (B + C) (q + r) := by
  obtain ⟨z, h1, h2⟩ := h.z
  obtain ⟨y, h3, h4⟩ := k.z
  refine ⟨z + y, by have := Int.natAbs_add_le z y; omega, ?_⟩
  rw [Rat.add_mul, h2, h4, Rat.intCast_add]
theorem Fr.neg {D B : Nat} {q : Rat} (h : Fr D B q) : Fr D B (-q) := by
  obtain ⟨z, h1, h2⟩ := h.z
  refine ⟨-z, by rw [Int.natAbs_neg]; exact h1, ?_⟩
  rw [Rat.neg_mul, h2, Rat.intCast_neg]
theorem Fr.mul {D E B C : Nat} {q r : Rat} (h : Fr D B q) (k : Fr E C r) : Fr (D * E) (B * C) (q * r) := by
  obtain ⟨z, h1, h2⟩ := h.z
  obtain ⟨y, h3, h4⟩ := k.z
  refine ⟨z * y, by rw [Int.natAbs_mul]; exact Nat.mul_le_mul h1 h3, ?_⟩
  rw [Rat.intCast_mul, ← h2, ← h4, Rat.natCast_mul]
  grind
theorem Fr.zero {D : Nat} (B : Nat) : Fr D B 0 := ⟨0, Nat.zero_le _, by rw [Rat.zero_mul]; rfl⟩
theorem Fr.eq {D B : Nat} {q : Rat} (h : Fr D B q) (h0 : 0 < D) : ∃ z : Int, z.natAbs ≤ B ∧ q = Rat.divInt z D := by
  obtain ⟨z, h1, h2⟩ := h.z
  refine ⟨z, h1, ?_⟩
  have hd : (D : Rat) ≠ 0 := by
    intro c
    have : (D : Rat) = ((0 : Nat) : Rat) := c
    have := Rat.natCast_inj.mp this
    omega
  rw [Rat.divInt_eq_div]
  have : ((D : Int) : Rat) = (D : Rat) := Rat.intCast_natCast D
  rw [this, ← h2]
  grind
theorem Fr.sm {D B N : Nat} {q : Rat} (h : Fr D B q) (h0 : 0 < D) (hD : D < 2 ^ N) (hB : B < 2 ^ N) : Sm N q := by
  obtain ⟨z, h1, rfl⟩ := h.eq h0
  exact divInt_sm (Nat.lt_of_le_of_lt h1 hB) (by rw [Int.natAbs_natCast]; exact hD) (by omega)
/-- a list of fractions -/
def lstQ (o : Bool) (n : Nat) (p : Nat → Rat) : D := .lst o ((List.range n).map fun k => qD (p k))
theorem fz_lstQ (o : Bool) (n : Nat) (p : Nat → Rat) : (lstQ o n p).fz = lstQ false n p := by
  unfold lstQ
  rw [fz_lst, fzs_qD]
theorem it_lstQ {o : Bool} {n : Nat} {p : Nat → Rat} {Q : List D → Prop} (k : Q ((List.range n).map fun k => qD (p k))) : ItW (lstQ o n p) Q := it_lst (fzs_qD _ _) k
theorem ow_lenQ {n : Nat} {p : Nat → Rat} (h : P (.int (n : Int)) dr) : OW (gLen [lstQ o n p]) dr P := ow_lenlstR h
theorem ow_ixQ {n : Nat} {p : Nat → Rat} (h : k < n) (q : P (qD (p k)) dr) : OW (gIx (lstQ o n p) (.int (k : Int))) dr P := ow_ixlst (f := fun k => qD (p k)) h q
theorem ow_tupQ {n : Nat} {p : Nat → Rat} (q : P (rowL (List.range n) p) dr) : OW (gTuple [lstQ o n p]) dr P := ow_tuple (f := fun k => qD (p k)) (fun _ => rfl) q
theorem isi_lstQ {n : Nat} {p : Nat → Rat} : D.isi "tuple" (lstQ o n p) = some false := rfl
theorem cl_lstQ (n : Nat) (p : Nat → Rat) : (lstQ false n p).cl = true := (show (!false && D.cls ((List.range n).map fun k => qD (p k))) = true from by rw [cls_map (f := fun k => qD (p k)) (fun _ => rfl)]; rfl)
theorem ow_revQ {n : Nat} {p : Nat → Rat} (q : P (lstQ true (n + 1) fun k => p (n - k)) dr) : OW (gRev (unO (lstQ o (n + 1) p))) dr P := ⟨_, by
  show gRev (.lst false (D.fzs ((List.range (n + 1)).map fun k => qD (p k)))) = some (lstQ true (n + 1) fun k => p (n - k))
  rw [fzs_qD, gRev_rng]
  rfl, q⟩
theorem ow_revR {n : Nat} {p : Nat → Rat} (q : P (rowL (List.range (n + 1)) fun k => p (n - k)) dr) : OW (gRev (unO (rowL (List.range (n + 1)) p))) dr P := ⟨_, by
  show some (D.tup ((List.range (n + 1)).map fun k => qD (p k)).reverse) = some (rowL (List.range (n + 1)) fun k => p (n - k))
  rw [rng_rev]
  rfl, q⟩
theorem ow_ixT {xs : List D} {i : Int} {z : D} (h : atI xs i = some z) (q : P z dr) : OW (gIx (.tup xs) (.int i)) dr P := ⟨z, h, q⟩
theorem ow_ixL {xs : List D} {i : Int} {z : D} (h : atI xs i = some z) (q : P z dr) : OW (gIx (.lst o xs) (.int i)) dr P := ⟨z, h, q⟩
end
end DL
/-! MQ1 -/
set_option maxHeartbeats 4000000
/-! MQ1: tables of fractions: products, traces, powers; the equation by Faddeev and Leverrier. -/
namespace DL
section
variable {ι κ : Type}
theorem sumL_congr {I : List ι} {f g : ι → Rat} (h : ∀ i ∈ I, f i = g i) : sumL I f = sumL I g := by
  unfold sumL
  rw [List.map_congr_left h]
theorem sumL_add (I : List ι) (f g : ι → Rat) : sumL I (fun i => f i + g i) = sumL I f + sumL I g := by
  induction I with
  | nil => rw [sumL_nil, sumL_nil, sumL_nil, Rat.add_zero]
  | cons x I ih => rw [sumL_cons, sumL_cons, sumL_cons, ih]; grind
theorem sumL_mul (I : List ι) (c : Rat) (f : ι → Rat) : sumL I (fun i => c * f i) = c * sumL I f := by
  induction I with
  | nil => rw [sumL_nil, sumL_nil, Rat.mul_zero]
  | cons x I ih => rw [sumL_cons, sumL_cons, ih]; grind
theorem sumL_mulr (I : List ι) (c : Rat) (f : ι → Rat) : sumL I (fun i => f i * c) = sumL I f * c := by
  rw [Rat.mul_comm, ← sumL_mul]
  exact sumL_congr fun i _ => Rat.mul_comm _ _
theorem sumL_zero (I : List ι) : sumL I (fun _ => 0) = 0 := by
  induction I with
  | nil => rfl
  | cons x I ih => rw [sumL_cons, ih, Rat.add_zero]
theorem sumL_comm (I : List ι) (J : List κ) (f : ι → κ → Rat) : sumL I (fun i => sumL J fun j => f i j) = sumL J fun j => sumL I fun i => f i j := by
  induction I with
  | nil => rw [sumL_nil]; exact (sumL_zero J).symm
  | cons x I ih =>
    rw [sumL_cons, ih, ← sumL_add]
    exact sumL_congr fun j _ => (sumL_cons x I fun i => f i j).symm
theorem sumL_one (n k : Nat) (h : k < n) (f : Nat → Rat) : sumL (List.range n) (fun i => if i = k then f i else 0) = f k := by
  induction n with
  | zero => omega
  | succ n ih =>
    unfold sumL at ih ⊢
    rw [List.range_succ, List.map_append, List.sum_append, List.map_singleton, List.sum_singleton]
    by_cases c : k = n
    · subst c
      rw [if_pos rfl]
      have : ((List.range k).map fun i => if i = k then f i else 0) = (List.range k).map fun _ => 0 := List.map_congr_left fun i hi => if_neg (by have := List.mem_range.mp hi; omega)
      rw [this]
      have := sumL_zero (List.range k)
      unfold sumL at this
      rw [this, Rat.zero_add]
    · rw [if_neg (by omega), ih (by omega), Rat.add_zero]
end
abbrev Mq := Nat → Nat → Rat
/-- equal where it counts -/
def EqM (n : Nat) (X Y : Mq) : Prop := ∀ i j, i < n → j < n → X i j = Y i j
def mulQ (n : Nat) (X Y : Mq) : Mq := fun i l => sumL (List.range n) fun j => X i j * Y j l
def trQ (n : Nat) (X : Mq) : Rat := sumL (List.range n) fun p => X p p
def idQ : Mq := fun i j => if i = j then 1 else 0
theorem EqM.refl {n : Nat} (X : Mq) : EqM n X X := fun _ _ _ _ => rfl
theorem EqM.symm {n : Nat} {X Y : Mq} (h : EqM n X Y) : EqM n Y X := fun i j hi hj => (h i j hi hj).symm
theorem EqM.trans {n : Nat} {X Y Z : Mq} (h : EqM n X Y) (k : EqM n Y Z) : EqM n X Z := fun i j hi hj => (h i j hi hj).trans (k i j hi hj)
theorem mulQ_congr {n : Nat} {X X' Y Y' : Mq} (h : EqM n X X') (k : EqM n Y Y') : EqM n (mulQ n X Y) (mulQ n X' Y') := fun i l hi hl => sumL_congr fun j hj => by rw [h i j hi (List.mem_range.mp hj), k j l (List.mem_range.mp hj) hl]
theorem trQ_congr {n : Nat} {X Y : Mq} (h : EqM n X Y) : trQ n X = trQ n Y := sumL_congr fun p hp => h p p (List.mem_range.mp hp) (List.mem_range.mp hp)
theorem mulQ_assoc (n : Nat) (X Y Z : Mq) : mulQ n (mulQ n X Y) Z = mulQ n X (mulQ n Y Z) := by
  funext i l
  show sumL (List.range n) (fun j => sumL (List.range n) (fun k => X i k * Y k j) * Z j l) = sumL (List.range n) fun k => X i k * sumL (List.range n) fun j => Y k j * Z j l
  have e1 : (fun j => sumL (List.range n) (fun k => X i k * Y k j) * Z j l) = fun j => sumL (List.range n) fun k => X i k * Y k j * Z j l := by
    funext j; rw [sumL_mulr]
  have e2 : (fun k => X i k * sumL (List.range n) fun j => Y k j * Z j l) = fun k => sumL (List.range n) fun j => X i k * Y k j * Z j l := by
    funext k
    rw [← sumL_mul]
    exact sumL_congr fun j _ => by grind
  rw [e1, e2, sumL_comm]
theorem tr_comm (n : Nat) (X Y : Mq) : trQ n (mulQ n X Y) = trQ n (mulQ n Y X) := by
  show sumL (List.range n) (fun p => sumL (List.range n) fun j => X p j * Y j p) = sumL (List.range n) fun p => sumL (List.range n) fun j => Y p j * X j p
  rw [sumL_comm]
  exact sumL_congr fun j _ => sumL_congr fun p _ => Rat.mul_comm _ _
theorem mulQ_id (n : Nat) (X : Mq) : EqM n (mulQ n X idQ) X := fun i l hi hl => by
  show sumL (List.range n) (fun j => X i j * if j = l then 1 else 0) = X i l
  rw [← sumL_one n l hl fun j => X i j]
  exact sumL_congr fun j _ => by split <;> grind
theorem id_mulQ (n : Nat) (X : Mq) : EqM n (mulQ n idQ X) X := fun i l hi hl => by
  show sumL (List.range n) (fun j => (if i = j then 1 else 0) * X j l) = X i l
  rw [← sumL_one n i hi fun j => X j l]
  exact sumL_congr fun j _ => by
    by_cases c : i = j
    · rw [if_pos c, if_pos c.symm, Rat.one_mul]
    · rw [if_neg c, if_neg fun z => c z.symm, Rat.zero_mul]
/-- powers -/
def pwM (n : Nat) (X : Mq) : Nat → Mq
  | 0 => idQ
  | k + 1 => mulQ n X (pwM n X k)
theorem pwM_congr {n : Nat} {X Y : Mq} (h : EqM n X Y) : ∀ k, EqM n (pwM n X k) (pwM n Y k)
  | 0 => .refl _
  | k + 1 => mulQ_congr h (pwM_congr h k)
theorem pwM_r (n : Nat) (X : Mq) : ∀ k, EqM n (pwM n X (k + 1)) (mulQ n (pwM n X k) X)
  | 0 => (mulQ_id n X).trans (id_mulQ n X).symm
  | k + 1 => by
    have h := mulQ_congr (EqM.refl X) (pwM_r n X k)
    rw [← mulQ_assoc] at h
    exact h
/-- (X Y)^(k+1) = X (Y X)^k Y -/
theorem pwM_swap (n : Nat) (X Y : Mq) : ∀ k, EqM n (pwM n (mulQ n X Y) (k + 1)) (mulQ n X (mulQ n (pwM n (mulQ n Y X) k) Y))
  | 0 => by
    refine (mulQ_id n _).trans ?_
    exact mulQ_congr (.refl _) (id_mulQ n Y).symm
  | k + 1 => by
    have h := mulQ_congr (EqM.refl (mulQ n X Y)) (pwM_swap n X Y k)
    refine EqM.trans h ?_
    rw [mulQ_assoc, ← mulQ_assoc n Y X]
    rw [← mulQ_assoc n (mulQ n Y X)]
    exact .refl _
theorem tr_swap (n : Nat) (X Y : Mq) (k : Nat) : trQ n (pwM n (mulQ n X Y) (k + 1)) = trQ n (pwM n (mulQ n Y X) (k + 1)) := by
  rw [trQ_congr (pwM_swap n X Y k), tr_comm, mulQ_assoc, trQ_congr (pwM_r n (mulQ n Y X) k)]
def tpQ (X : Mq) : Mq := fun i j => X j i
theorem tp_mul (n : Nat) (X Y : Mq) : tpQ (mulQ n X Y) = mulQ n (tpQ Y) (tpQ X) := by
  funext i l
  exact sumL_congr fun j _ => Rat.mul_comm _ _
theorem pwM_tp (n : Nat) (X : Mq) : ∀ k, EqM n (pwM n (tpQ X) k) (tpQ (pwM n X k))
  | 0 => fun i j _ _ => by
    show (if i = j then (1 : Rat) else 0) = if j = i then 1 else 0
    by_cases c : i = j
    · rw [if_pos c, if_pos c.symm]
    · rw [if_neg c, if_neg fun z => c z.symm]
  | k + 1 => by
    have h := mulQ_congr (EqM.refl (tpQ X)) (pwM_tp n X k)
    rw [← tp_mul] at h
    exact h.trans fun i j hi hj => (pwM_r n X k j i hj hi).symm
theorem tr_tp (n : Nat) (X : Mq) (k : Nat) : trQ n (pwM n (tpQ X) k) = trQ n (pwM n X k) := by
  rw [trQ_congr (pwM_tp n X k)]; rfl
/-- Faddeev and Leverrier -/
def flQ (n : Nat) (X : Mq) : Nat → Mq × Rat
  | 0 => (idQ, 1)
  | k + 1 => (fun i j => mulQ n X (flQ n X k).1 i j + if i = j then -(trQ n (mulQ n X (flQ n X k).1)) / ((k + 1 : Nat) : Rat) else 0, -(trQ n (mulQ n X (flQ n X k).1)) / ((k + 1 : Nat) : Rat))
theorem flQ_congr {n : Nat} {X Y : Mq} (h : EqM n X Y) : ∀ k, EqM n (flQ n X k).1 (flQ n Y k).1 ∧ (flQ n X k).2 = (flQ n Y k).2
  | 0 => ⟨.refl _, rfl⟩
  | k + 1 => by
    have m := mulQ_congr h (flQ_congr h k).1
    have t : -(trQ n (mulQ n X (flQ n X k).1)) / ((k + 1 : Nat) : Rat) = -(trQ n (mulQ n Y (flQ n Y k).1)) / ((k + 1 : Nat) : Rat) := by rw [trQ_congr m]
    refine ⟨fun i j hi hj => ?_, t⟩
    show mulQ n X (flQ n X k).1 i j + (if i = j then _ else 0) = mulQ n Y (flQ n Y k).1 i j + (if i = j then _ else 0)
    rw [m i j hi hj, t]
/-- M_k as a sum of powers -/
theorem flQ_sum (n : Nat) (X : Mq) : ∀ k, EqM n (flQ n X k).1 fun i j => sumL (List.range (k + 1)) fun a => (flQ n X a).2 * pwM n X (k - a) i j
  | 0 => fun i j _ _ => by
    show idQ i j = sumL [0] fun a => (flQ n X a).2 * pwM n X (0 - a) i j
    rw [sumL_cons, sumL_nil, Rat.add_zero]
    show idQ i j = 1 * idQ i j
    rw [Rat.one_mul]
  | k + 1 => fun i j hi hj => by
    have ih := flQ_sum n X k
    show mulQ n X (flQ n X k).1 i j + (if i = j then (flQ n X (k + 1)).2 else 0) = _
    rw [mulQ_congr (EqM.refl X) ih i j hi hj]
    have e : sumL (List.range (k + 1 + 1)) (fun a => (flQ n X a).2 * pwM n X (k + 1 - a) i j) = sumL (List.range (k + 1)) (fun a => (flQ n X a).2 * pwM n X (k + 1 - a) i j) + (flQ n X (k + 1)).2 * idQ i j := by
      unfold sumL
      rw [List.range_succ (n := k + 1), List.map_append, List.sum_append, List.map_singleton, List.sum_singleton, Nat.sub_self]
      rfl
    show _ = sumL (List.range (k + 1 + 1)) (fun a => (flQ n X a).2 * pwM n X (k + 1 - a) i j)
    rw [e]
    congr 1
    · show sumL (List.range n) (fun l => X i l * sumL (List.range (k + 1)) fun a => (flQ n X a).2 * pwM n X (k - a) l j) = _
      have e1 : (fun l => X i l * sumL (List.range (k + 1)) fun a => (flQ n X a).2 * pwM n X (k - a) l j) = fun l => sumL (List.range (k + 1)) fun a => (flQ n X a).2 * (X i l * pwM n X (k - a) l j) := by
        funext l
        rw [← sumL_mul]
        exact sumL_congr fun a _ => by grind
      rw [e1, sumL_comm]
      refine sumL_congr fun a ha => ?_
      rw [sumL_mul]
      have : k + 1 - a = (k - a) + 1 := by have := List.mem_range.mp ha; omega
      rw [this]
      rfl
    · unfold idQ
      split <;> grind
theorem newton (n : Nat) (X : Mq) (k : Nat) : (flQ n X (k + 1)).2 = -(sumL (List.range (k + 1)) fun a => (flQ n X a).2 * trQ n (pwM n X (k + 1 - a))) / ((k + 1 : Nat) : Rat) := by
  show -(trQ n (mulQ n X (flQ n X k).1)) / ((k + 1 : Nat) : Rat) = _
  congr 2
  rw [trQ_congr (mulQ_congr (EqM.refl X) (flQ_sum n X k))]
  show sumL (List.range n) (fun p => sumL (List.range n) fun l => X p l * sumL (List.range (k + 1)) fun a => (flQ n X a).2 * pwM n X (k - a) l p) = _
  have e1 : (fun p => sumL (List.range n) fun l => X p l * sumL (List.range (k + 1)) fun a => (flQ n X a).2 * pwM n X (k - a) l p) = fun p => sumL (List.range (k + 1)) fun a => (flQ n X a).2 * pwM n X (k + 1 - a) p p := by
    funext p
    have e2 : (fun l => X p l * sumL (List.range (k + 1)) fun a => (flQ n X a).2 * pwM n X (k - a) l p) = fun l => sumL (List.range (k + 1)) fun a => (flQ n X a).2 * (X p l * pwM n X (k - a) l p) := by
      funext l
      rw [← sumL_mul]
      exact sumL_congr fun a _ => by grind
    rw [e2, sumL_comm]
    refine sumL_congr fun a ha => ?_
    rw [sumL_mul]
    have : k + 1 - a = (k - a) + 1 := by have := List.mem_range.mp ha; omega
    rw [this]
    rfl
  rw [e1, sumL_comm]
  refine sumL_congr fun a _ => ?_
  rw [sumL_mul]
  rfl
theorem flQ_of_tr {n : Nat} {X Y : Mq} (h : ∀ k, trQ n (pwM n X (k + 1)) = trQ n (pwM n Y (k + 1))) : ∀ k, (flQ n X k).2 = (flQ n Y k).2 := by
  intro k
  induction k using Nat.strongRecOn with
  | _ k ih =>
    cases k with
    | zero => rfl
    | succ k =>
      rw [newton, newton]
      congr 2
      refine sumL_congr fun a ha => ?_
      have ha := List.mem_range.mp ha
      have : k + 1 - a = (k - a) + 1 := by omega
      rw [ih a ha, this, h]
theorem fl_swap (n : Nat) (X Y : Mq) (k : Nat) : (flQ n (mulQ n X Y) k).2 = (flQ n (mulQ n Y X) k).2 := flQ_of_tr (fun k => tr_swap n X Y k) k
theorem fl_tp (n : Nat) (X : Mq) (k : Nat) : (flQ n (tpQ X) k).2 = (flQ n X k).2 := flQ_of_tr (fun k => tr_tp n X (k + 1)) k
/-- by a factor -/
theorem fl_scal (n : Nat) (b : Rat) (X : Mq) : ∀ k, EqM n (flQ n (fun i j => b * X i j) k).1 (fun i j => b ^ k * (flQ n X k).1 i j) ∧ (flQ n (fun i j => b * X i j) k).2 = b ^ k * (flQ n X k).2
  | 0 => ⟨fun i j _ _ => by show idQ i j = b ^ 0 * idQ i j; rw [Rat.pow_zero, Rat.one_mul], by show (1 : Rat) = b ^ 0 * 1; rw [Rat.pow_zero, Rat.one_mul]⟩
  | k + 1 => by
    obtain ⟨h1, h2⟩ := fl_scal n b X k
    have m : EqM n (mulQ n (fun i j => b * X i j) (flQ n (fun i j => b * X i j) k).1) (fun i j => b ^ (k + 1) * mulQ n X (flQ n X k).1 i j) := by
      refine (mulQ_congr (.refl _) h1).trans fun i j _ _ => ?_
      show sumL (List.range n) (fun l => b * X i l * (b ^ k * (flQ n X k).1 l j)) = b ^ (k + 1) * sumL (List.range n) fun l => X i l * (flQ n X k).1 l j
      rw [← sumL_mul]
      exact sumL_congr fun l _ => by rw [Rat.pow_succ]; grind
    have t : trQ n (mulQ n (fun i j => b * X i j) (flQ n (fun i j => b * X i j) k).1) = b ^ (k + 1) * trQ n (mulQ n X (flQ n X k).1) := by
      rw [trQ_congr m]
      exact sumL_mul _ _ _
    have t2 : (flQ n (fun i j => b * X i j) (k + 1)).2 = b ^ (k + 1) * (flQ n X (k + 1)).2 := by
      show -(trQ n (mulQ n (fun i j => b * X i j) (flQ n (fun i j => b * X i j) k).1)) / ((k + 1 : Nat) : Rat) = b ^ (k + 1) * (-(trQ n (mulQ n X (flQ n X k).1)) / ((k + 1 : Nat) : Rat))
      rw [t]
      grind
    refine ⟨fun i j hi hj => ?_, t2⟩
    show mulQ n (fun i j => b * X i j) (flQ n (fun i j => b * X i j) k).1 i j + (if i = j then (flQ n (fun i j => b * X i j) (k + 1)).2 else 0) = b ^ (k + 1) * (mulQ n X (flQ n X k).1 i j + if i = j then (flQ n X (k + 1)).2 else 0)
    rw [m i j hi hj, t2]
    split <;> grind
end DL
/-! G35 -/
set_option maxHeartbeats 4000000
namespace K35
open PySem PySem.Spec PyProof.Rows L2 DL
def top (i : Nat) : Stmt := PySem.Challenge.pw_tablesswitched_k35_whole_equations_of_ta.main.body.getD i (.Pass ⟨0, 0, 0, 0⟩)
abbrev s_is_whole : Stmt := top 6
abbrev s_common : Stmt := top 7
abbrev s_lowest : Stmt := top 8
abbrev s_is_ratio : Stmt := top 9
abbrev s_plus : Stmt := top 10
abbrev s_times : Stmt := top 11
abbrev s_least_common : Stmt := top 13
abbrev s_has_shape : Stmt := top 16
abbrev s_is_row : Stmt := top 17
abbrev s_is_square : Stmt := top 18
abbrev s_is_table : Stmt := top 19
abbrev s_check_table : Stmt := top 20
abbrev s_whole_table : Stmt := top 23
abbrev s_whole_product : Stmt := top 24
abbrev s_equation_of : Stmt := top 25
abbrev s_equation : Stmt := top 26
abbrev s_pair_power : Stmt := top 27
abbrev s_paired : Stmt := top 28
abbrev s_is_equation : Stmt := top 29
abbrev s_check_equation : Stmt := top 30
abbrev s_check_point : Stmt := top 31
abbrev s_value_at : Stmt := top 32
abbrev s__law_draw : Stmt := top 34
abbrev s__law_take : Stmt := top 35
abbrev s__law_low : Stmt := top 36
abbrev s__law_plus : Stmt := top 37
abbrev s__law_times : Stmt := top 38
abbrev s__law_sum : Stmt := top 39
abbrev s__law_dot : Stmt := top 40
abbrev s__law_led : Stmt := top 41
abbrev s__law_columns : Stmt := top 42
abbrev s__law_product : Stmt := top 43
abbrev s__law_number : Stmt := top 44
abbrev s__law_row : Stmt := top 45
abbrev s__law_table : Stmt := top 46
abbrev s__law_products : Stmt := top 47
abbrev s__law_ask : Stmt := top 48
abbrev s__law_orders : Stmt := top 49
abbrev s__law_times_all : Stmt := top 50
abbrev s__law_due : Stmt := top 51
abbrev s__law_power : Stmt := top 52
abbrev s_law : Stmt := top 53
def mt_Malformed (x : Str) : Option Bool := if x = "Malformed" then some true else none
abbrev f__law_take : CF := f_take
/-! ### mirrors -/
def m_is_whole : CSx :=
  (cRet (cAndV (cIsi "int" (cVar 0)) (cNot (cIsi "bool" (cVar 0)))))
def f_is_whole : CF := fnD 1 m_is_whole
def m_common : CSx :=
  (cSeq (cPar2 0 1 (cCons (cB gAbs (cCons (cVar 0) cNil)) (cCons (cB gAbs (cCons (cVar 1) cNil)) cNil)))
  (cSeq (cWhile (fuelAbs 1) (cTst (cBin gNe (cVar 1) (cK (.int 0)))) (cPar2 0 1 (cCons (cFrz (cVar 1)) (cCons (cBin gMod (cVar 0) (cVar 1)) cNil))))
  (cRet (cVar 0))))
def f_common : CF := fnD 2 m_common
def m_lowest : CSx :=
  (cSeq (cSet 2 (cCall f_common (cCons (cFrz (cVar 0)) (cCons (cFrz (cVar 1)) cNil))))
  (cSeq (cIfS (cTst (cBin gLt (cVar 1) (cK (.int 0)))) (cSet 2 (cNeg (cVar 2))) cSkip)
  (cRet (cTup (cCons (cBin gFd (cVar 0) (cVar 2)) (cCons (cBin gFd (cVar 1) (cVar 2)) cNil))))))
def f_lowest : CF := fnD 3 m_lowest
def m_is_ratio : CSx :=
  (cSeq (cIfS (cOr (cNotT (cTru (cIsi "tuple" (cVar 0)))) (cOr (cTst (cBin gNe (cB gLen (cCons (cVar 0) cNil)) (cK (.int 2)))) (cOr (cNotT (cTru (cCall f_is_whole (cCons (cFrz (cBin gIx (cVar 0) (cK (.int 0)))) cNil)))) (cNotT (cTru (cCall f_is_whole (cCons (cFrz (cBin gIx (cVar 0) (cK (.int 1)))) cNil))))))) (cRet (cK (.bl false))) cSkip)
  (cRet (cAndV (cBin gGt (cBin gIx (cVar 0) (cK (.int 1))) (cK (.int 0))) (cBin gEq (cCall f_common (cCons (cFrz (cBin gIx (cVar 0) (cK (.int 0)))) (cCons (cFrz (cBin gIx (cVar 0) (cK (.int 1)))) cNil))) (cK (.int 1))))))
def f_is_ratio : CF := fnD 1 m_is_ratio
def m_plus : CSx :=
  (cRet (cCall f_lowest (cCons (cBin gAdd (cBin gMul (cBin gIx (cVar 0) (cK (.int 0))) (cBin gIx (cVar 1) (cK (.int 1)))) (cBin gMul (cBin gIx (cVar 1) (cK (.int 0))) (cBin gIx (cVar 0) (cK (.int 1))))) (cCons (cBin gMul (cBin gIx (cVar 0) (cK (.int 1))) (cBin gIx (cVar 1) (cK (.int 1)))) cNil))))
def f_plus : CF := fnD 2 m_plus
def m_times : CSx :=
  (cRet (cCall f_lowest (cCons (cBin gMul (cBin gIx (cVar 0) (cK (.int 0))) (cBin gIx (cVar 1) (cK (.int 0)))) (cCons (cBin gMul (cBin gIx (cVar 0) (cK (.int 1))) (cBin gIx (cVar 1) (cK (.int 1)))) cNil))))
def f_times : CF := fnD 2 m_times
def m_least_common : CSx :=
  (cSeq (cSet 1 (cK (.int 1)))
  (cSeq (cFor (iAny (cFrz (cVar 0))) (gNm 2) (cSet 1 (cBin gMulI (cVar 1) (cFrz (cBin gIx (cCall f_lowest (cCons (cFrz (cVar 2)) (cCons (cFrz (cVar 1)) cNil))) (cK (.int 0)))))))
  (cRet (cVar 1))))
def f_least_common : CF := fnD 3 m_least_common
def m_has_shape : CSx :=
  (cRet (cAndV (cIsi "tuple" (cVar 0)) (cBin gEq (cB gLen (cCons (cVar 0) cNil)) (cVar 1))))
def f_has_shape : CF := fnD 2 m_has_shape
def m_is_row : CSx :=
  (cRet (cAndV (cCall f_has_shape (cCons (cFrz (cVar 1)) (cCons (cFrz (cVar 0)) cNil))) (cB gAll (cCons (cLc [2] (iAny (cFrz (cVar 1))) (gNm 2) cYes (cCall f_is_ratio (cCons (cFrz (cVar 2)) cNil))) cNil))))
def f_is_row : CF := fnD 3 m_is_row
def m_is_square : CSx :=
  (cRet (cAndV (cCall f_has_shape (cCons (cFrz (cVar 1)) (cCons (cFrz (cVar 0)) cNil))) (cB gAll (cCons (cLc [2] (iAny (cFrz (cVar 1))) (gNm 2) cYes (cCall f_is_row (cCons (cFrz (cVar 0)) (cCons (cFrz (cVar 2)) cNil)))) cNil))))
def f_is_square : CF := fnD 3 m_is_square
def m_is_table : CSx :=
  (cRet (cAndV (cIsi "tuple" (cVar 0)) (cAndV (cChain gLt gLe (cK (.int 0)) (cB gLen (cCons (cVar 0) cNil)) (cK (.int 4))) (cCall f_is_square (cCons (cB gLen (cCons (cVar 0) cNil)) (cCons (cFrz (cVar 0)) cNil))))))
def f_is_table : CF := fnD 1 m_is_table
def m_check_table : CSx :=
  (cIfS (cNotT (cTru (cCall f_is_table (cCons (cFrz (cVar 0)) cNil)))) (cRaise "Malformed") cSkip)
def f_check_table : CF := fnD 1 m_check_table
def m_whole_table : CSx :=
  (cSeq (cSet 1 (cCall f_least_common (cCons (cLc2 [2, 3] [3] (iAny (cFrz (cVar 0))) (gNm 2) cYes (iAny (cFrz (cVar 2))) (gNm 3) cYes (cFrz (cBin gIx (cVar 3) (cK (.int 1))))) cNil)))
  (cRet (cTup (cCons (cLc [2] (iAny (cFrz (cVar 0))) (gNm 2) cYes (cLc [3] (iAny (cFrz (cVar 2))) (gNm 3) cYes (cBin gMul (cBin gIx (cVar 3) (cK (.int 0))) (cBin gFd (cVar 1) (cBin gIx (cVar 3) (cK (.int 1))))))) (cCons (cFrz (cVar 1)) cNil)))))
def f_whole_table : CF := fnD 4 m_whole_table
def m_whole_product : CSx :=
  (cSeq (cSet 2 (cLc [3] (iRg1 (cB gLen (cCons (cBin gIx (cVar 1) (cK (.int 0))) cNil))) (gNm 3) cYes (cLc [4] (iAny (cFrz (cVar 1))) (gNm 4) cYes (cFrz (cBin gIx (cVar 4) (cVar 3))))))
  (cRet (cLc [4] (iAny (cFrz (cVar 0))) (gNm 4) cYes (cLc [5] (iAny (cFrz (cVar 2))) (gNm 5) cYes (cB gSum (cCons (cLc [6, 7] (iZipD (cCons (cFrz (cVar 4)) (cCons (cFrz (cVar 5)) cNil))) (gTp 2 (gsCons (gNm 6) (gsCons (gNm 7) gsNil))) (cTst (cBin gNe (cVar 6) (cK (.int 0)))) (cBin gMul (cVar 6) (cVar 7))) cNil))))))
def f_whole_product : CF := fnD 8 m_whole_product
def m_equation_of : CSx :=
  (cSeq (cAsg (gTp 2 (gsCons (gNm 3) (gsCons (gNm 4) gsNil))) (cCall f_whole_table (cCons (cFrz (cVar 0)) cNil)))
  (cSeq (cParN [5, 6, 7] (cCons (cB gLen (cCons (cVar 3) cNil)) (cCons (cLst (cCons (cK (.tup [(.int 1), (.int 1)])) cNil)) (cCons (cK (.int 1)) cNil))))
  (cSeq (cSetO 1 (cLc [10] (iRg1 (cVar 5)) (gNm 10) cYes (cLc [11] (iRg1 (cVar 5)) (gNm 11) cYes (cB gInt (cCons (cBin gEq (cVar 10) (cVar 11)) cNil)))))
  (cSeq (cFor (iRg2 (cK (.int 1)) (cBin gAdd (cVar 5) (cK (.int 1)))) (gNm 2) (cSeq (cSeq (cFz 1) (cSetO 1 (cCall f_whole_product (cCons (cFrz (cVar 3)) (cCons (cFrz (cVar 1)) cNil)))))
  (cSeq (cSet 8 (cBin gFd (cNeg (cB gSum (cCons (cLc [9] (iRg1 (cVar 5)) (gNm 9) cYes (cFrz (cBin gIx (cBin gIx (cVar 1) (cVar 9)) (cVar 9)))) cNil))) (cVar 2)))
  (cSeq (cFor (iRg1 (cVar 5)) (gNm 9) (cAug2 1 (cVar 9) (cVar 9) gAddI (cFrz (cVar 8))))
  (cSeq (cSet 7 (cBin gMulI (cVar 7) (cFrz (cVar 4))))
  (cApp 6 (cCall f_lowest (cCons (cFrz (cVar 8)) (cCons (cFrz (cVar 7)) cNil)))))))))
  (cRet (cB gTuple (cCons (cVar 6) cNil)))))))
def f_equation_of : CF := fnD 12 m_equation_of
def m_equation : CSx :=
  (cSeq (cDrop (cCall f_check_table (cCons (cFrz (cVar 0)) cNil)))
  (cRet (cCall f_equation_of (cCons (cFrz (cVar 0)) cNil))))
def f_equation : CF := fnD 1 m_equation
def m_pair_power : CSx :=
  (cSeq (cParN [3, 4] (cCons (cB gLen (cCons (cVar 0) cNil)) (cCons (cLstRg (cRg1 (cB gLen (cCons (cVar 0) cNil)))) cNil)))
  (cSeq (cSeq (cFz 4) (cSet 1 (cLc2 [5, 6] [6] (iAny (cFrz (cVar 4))) (gNm 5) cYes (iRg2 (cVar 5) (cVar 3)) (gNm 6) cYes (cTup (cCons (cFrz (cVar 5)) (cCons (cFrz (cVar 6)) cNil))))))
  (cSeq (cSetO 2 (cLst cNil))
  (cSeq (cFor (iAny (cFrz (cVar 1))) (gTp 2 (gsCons (gNm 5) (gsCons (gNm 6) gsNil))) (cSeq (cSetO 7 (cLst cNil))
  (cSeq (cFor (iAny (cFrz (cVar 1))) (gTp 2 (gsCons (gNm 8) (gsCons (gNm 9) gsNil))) (cSeq (cSet 10 (cCall f_times (cCons (cFrz (cBin gIx (cBin gIx (cVar 0) (cVar 5)) (cVar 8))) (cCons (cFrz (cBin gIx (cBin gIx (cVar 0) (cVar 6)) (cVar 9))) cNil))))
  (cApp 7 (cIf (cTst (cBin gEq (cVar 8) (cVar 9))) (cFrz (cVar 10)) (cCall f_plus (cCons (cFrz (cVar 10)) (cCons (cCall f_times (cCons (cFrz (cBin gIx (cBin gIx (cVar 0) (cVar 5)) (cVar 9))) (cCons (cFrz (cBin gIx (cBin gIx (cVar 0) (cVar 6)) (cVar 8))) cNil))) cNil)))))))
  (cApp 2 (cB gTuple (cCons (cVar 7) cNil))))))
  (cRet (cB gTuple (cCons (cVar 2) cNil)))))))
def f_pair_power : CF := fnD 11 m_pair_power
def m_paired : CSx :=
  (cSeq (cDrop (cCall f_check_table (cCons (cFrz (cVar 0)) cNil)))
  (cRet (cCall f_pair_power (cCons (cFrz (cVar 0)) cNil))))
def f_paired : CF := fnD 1 m_paired
def m_is_equation : CSx :=
  (cSeq (cIfS (cOr (cNotT (cTru (cIsi "tuple" (cVar 0)))) (cNotT (cTst (cChain gLt gLe (cK (.int 1)) (cB gLen (cCons (cVar 0) cNil)) (cBin gAdd (cK (.int 20)) (cK (.int 1))))))) (cRet (cK (.bl false))) cSkip)
  (cRet (cAndV (cCall f_is_row (cCons (cB gLen (cCons (cVar 0) cNil)) (cCons (cFrz (cVar 0)) cNil))) (cBin gEq (cBin gIx (cVar 0) (cK (.int 0))) (cK (.tup [(.int 1), (.int 1)]))))))
def f_is_equation : CF := fnD 1 m_is_equation
def m_check_equation : CSx :=
  (cIfS (cNotT (cTru (cCall f_is_equation (cCons (cFrz (cVar 0)) cNil)))) (cRaise "Malformed") cSkip)
def f_check_equation : CF := fnD 1 m_check_equation
def m_check_point : CSx :=
  (cIfS (cNotT (cTru (cCall f_is_ratio (cCons (cFrz (cVar 0)) cNil)))) (cRaise "Malformed") cSkip)
def f_check_point : CF := fnD 1 m_check_point
def m_value_at : CSx :=
  (cSeq (cDrop (cCall f_check_equation (cCons (cFrz (cVar 0)) cNil)))
  (cSeq (cDrop (cCall f_check_point (cCons (cFrz (cVar 1)) cNil)))
  (cSeq (cSet 2 (cK (.tup [(.int 0), (.int 1)])))
  (cSeq (cFor (iAny (cFrz (cVar 0))) (gNm 3) (cSet 2 (cCall f_plus (cCons (cCall f_times (cCons (cFrz (cVar 2)) (cCons (cFrz (cVar 1)) cNil))) (cCons (cFrz (cVar 3)) cNil)))))
  (cRet (cVar 2))))))
def f_value_at : CF := fnD 4 m_value_at
def m__law_low : CSx :=
  (cSeq (cPar2 2 3 (cCons (cB gAbs (cCons (cVar 0) cNil)) (cCons (cB gAbs (cCons (cVar 1) cNil)) cNil)))
  (cSeq (cWhile (fuelAbs 3) (cTst (cBin gNe (cVar 3) (cK (.int 0)))) (cPar2 2 3 (cCons (cFrz (cVar 3)) (cCons (cBin gMod (cVar 2) (cVar 3)) cNil))))
  (cSeq (cSet 2 (cIf (cTst (cBin gGt (cVar 1) (cK (.int 0)))) (cFrz (cVar 2)) (cBin gSub (cK (.int 0)) (cVar 2))))
  (cRet (cTup (cCons (cBin gFd (cVar 0) (cVar 2)) (cCons (cBin gFd (cVar 1) (cVar 2)) cNil)))))))
def f__law_low : CF := fnD 4 m__law_low
def m__law_plus : CSx :=
  (cRet (cCall f__law_low (cCons (cBin gAdd (cBin gMul (cBin gIx (cVar 0) (cK (.int 0))) (cBin gIx (cVar 1) (cK (.int 1)))) (cBin gMul (cBin gIx (cVar 1) (cK (.int 0))) (cBin gIx (cVar 0) (cK (.int 1))))) (cCons (cBin gMul (cBin gIx (cVar 0) (cK (.int 1))) (cBin gIx (cVar 1) (cK (.int 1)))) cNil))))
def f__law_plus : CF := fnD 2 m__law_plus
def m__law_times : CSx :=
  (cRet (cCall f__law_low (cCons (cBin gMul (cBin gIx (cVar 0) (cK (.int 0))) (cBin gIx (cVar 1) (cK (.int 0)))) (cCons (cBin gMul (cBin gIx (cVar 0) (cK (.int 1))) (cBin gIx (cVar 1) (cK (.int 1)))) cNil))))
def f__law_times : CF := fnD 2 m__law_times
def m__law_sum : CSx :=
  (cSeq (cSet 1 (cTup (cCons (cK (.int 0)) (cCons (cK (.int 1)) cNil))))
  (cSeq (cFor (iAny (cFrz (cVar 0))) (gNm 2) (cSet 1 (cCall f__law_plus (cCons (cFrz (cVar 1)) (cCons (cFrz (cVar 2)) cNil)))))
  (cRet (cVar 1))))
def f__law_sum : CF := fnD 3 m__law_sum
def m__law_dot : CSx :=
  (cRet (cCall f__law_sum (cCons (cLc [2, 3] (iZipD (cCons (cFrz (cVar 0)) (cCons (cFrz (cVar 1)) cNil))) (gTp 2 (gsCons (gNm 2) (gsCons (gNm 3) gsNil))) cYes (cCall f__law_times (cCons (cFrz (cVar 2)) (cCons (cFrz (cVar 3)) cNil)))) cNil)))
def f__law_dot : CF := fnD 4 m__law_dot
def m__law_led : CSx :=
  (cRet (cB gTuple (cCons (cLc [2] (iAny (cFrz (cVar 0))) (gNm 2) cYes (cCall f__law_dot (cCons (cFrz (cVar 2)) (cCons (cFrz (cVar 1)) cNil)))) cNil)))
def f__law_led : CF := fnD 3 m__law_led
def m__law_columns : CSx :=
  (cRet (cB gTuple (cCons (cLc [1] (iRg1 (cB gLen (cCons (cBin gIx (cVar 0) (cK (.int 0))) cNil))) (gNm 1) cYes (cB gTuple (cCons (cLc [2] (iAny (cFrz (cVar 0))) (gNm 2) cYes (cFrz (cBin gIx (cVar 2) (cVar 1)))) cNil))) cNil)))
def f__law_columns : CF := fnD 3 m__law_columns
def m__law_product : CSx :=
  (cSeq (cSet 2 (cCall f__law_columns (cCons (cFrz (cVar 1)) cNil)))
  (cRet (cB gTuple (cCons (cLc [3] (iAny (cFrz (cVar 0))) (gNm 3) cYes (cB gTuple (cCons (cLc [4] (iAny (cFrz (cVar 2))) (gNm 4) cYes (cCall f__law_dot (cCons (cFrz (cVar 3)) (cCons (cFrz (cVar 4)) cNil)))) cNil))) cNil))))
def f__law_product : CF := fnD 5 m__law_product
def m__law_number : CSx :=
  (cRet (cIf (cTst (cBin gGt (cCall f__law_take (cCons (cFrz (cVar 0)) (cCons (cK (.int 4)) cNil))) (cK (.int 0)))) (cCall f__law_low (cCons (cBin gSub (cCall f__law_take (cCons (cFrz (cVar 0)) (cCons (cK (.int 7)) cNil))) (cK (.int 3))) (cCons (cFrz (cBin gIx (cLst (cCons (cK (.int 1)) (cCons (cK (.int 1)) (cCons (cK (.int 1)) (cCons (cK (.int 2)) (cCons (cK (.int 3)) cNil)))))) (cCall f__law_take (cCons (cFrz (cVar 0)) (cCons (cK (.int 5)) cNil))))) cNil))) (cTup (cCons (cK (.int 0)) (cCons (cK (.int 1)) cNil)))))
def f__law_number : CF := fnD 1 m__law_number
def m__law_row : CSx :=
  (cRet (cB gTuple (cCons (cLc [2] (iRg1 (cVar 1)) (gNm 2) cYes (cCall f__law_number (cCons (cFrz (cVar 0)) cNil))) cNil)))
def f__law_row : CF := fnD 3 m__law_row
def m__law_table : CSx :=
  (cSeq (cSet 2 (cCall f__law_take (cCons (cFrz (cVar 0)) (cCons (cK (.int 7)) cNil))))
  (cSeq (cSet 3 (cLc [5] (iRg1 (cVar 1)) (gNm 5) cYes (cB gList (cCons (cCall f__law_row (cCons (cFrz (cVar 0)) (cCons (cFrz (cVar 1)) cNil))) cNil))))
  (cSeq (cIfS (cTst (cBin gEq (cVar 2) (cK (.int 1)))) (cSet 3 (cLc [6] (iRg1 (cVar 1)) (gNm 6) cYes (cLc [8] (iRg1 (cVar 1)) (gNm 8) cYes (cIf (cTst (cBin gGt (cVar 8) (cVar 6))) (cFrz (cBin gIx (cBin gIx (cVar 3) (cVar 6)) (cVar 8))) (cTup (cCons (cK (.int 0)) (cCons (cK (.int 1)) cNil))))))) cSkip)
  (cSeq (cIfS (cTst (cBin gEq (cVar 2) (cK (.int 2)))) (cSet 3 (cLc [6] (iRg1 (cVar 1)) (gNm 6) cYes (cLc [8] (iRg1 (cVar 1)) (gNm 8) cYes (cIf (cTst (cBin gGe (cVar 8) (cVar 6))) (cFrz (cBin gIx (cBin gIx (cVar 3) (cVar 6)) (cVar 8))) (cTup (cCons (cK (.int 0)) (cCons (cK (.int 1)) cNil))))))) cSkip)
  (cSeq (cIfS (cTst (cBin gEq (cVar 2) (cK (.int 3)))) (cSeq (cSet 4 (cLc [5] (iRg1 (cVar 1)) (gNm 5) cYes (cCall f__law_take (cCons (cFrz (cVar 0)) (cCons (cFrz (cVar 1)) cNil)))))
  (cSet 3 (cLc [6] (iRg1 (cVar 1)) (gNm 6) cYes (cLc [8] (iRg1 (cVar 1)) (gNm 8) cYes (cIf (cTst (cBin gEq (cVar 8) (cBin gIx (cVar 4) (cVar 6)))) (cFrz (cBin gIx (cBin gIx (cVar 3) (cVar 6)) (cVar 8))) (cTup (cCons (cK (.int 0)) (cCons (cK (.int 1)) cNil)))))))) cSkip)
  (cSeq (cIfS (cAnd (cTst (cBin gEq (cVar 2) (cK (.int 4)))) (cTst (cBin gEq (cCall f__law_take (cCons (cFrz (cVar 0)) (cCons (cK (.int 3)) cNil))) (cK (.int 0))))) (cSet 3 (cLc [5] (iRg1 (cVar 1)) (gNm 5) cYes (cBin gMul (cLst (cCons (cTup (cCons (cK (.int 0)) (cCons (cK (.int 1)) cNil))) cNil)) (cVar 1)))) cSkip)
  (cRet (cB gTuple (cCons (cLc [7] (iAny (cFrz (cVar 3))) (gNm 7) cYes (cB gTuple (cCons (cVar 7) cNil))) cNil)))))))))
def f__law_table : CF := fnD 9 m__law_table
def m__law_products : CSx :=
  (cSeq (cSet 1 (cLst cNil))
  (cSeq (cFor (iRg1 (cB gLen (cCons (cVar 0) cNil))) (gNm 2) (cSet 1 (cBin gAdd (cVar 1) (cLc [3] (iRg2 (cVar 2) (cB gLen (cCons (cVar 0) cNil))) (gNm 3) cYes (cCall f__law_times (cCons (cFrz (cBin gIx (cVar 0) (cVar 2))) (cCons (cFrz (cBin gIx (cVar 0) (cVar 3))) cNil)))))))
  (cRet (cB gTuple (cCons (cVar 1) cNil)))))
def f__law_products : CF := fnD 4 m__law_products
def m__law_ask : CSx :=
  (cTry mt_Malformed (cRet (cIf (cTst (cBin gEq (cVar 0) (cK (.int 2)))) (cCall f_value_at (cCons (cFrz (cVar 1)) (cCons (cFrz (cVar 2)) cNil))) (cCallE [("equation", f_equation), ("paired", f_paired)] (cBin gIx (cLst (cCons (cK (.fn "equation")) (cCons (cK (.fn "paired")) cNil))) (cVar 0)) (cCons (cFrz (cVar 1)) cNil)))) (cRet (cK (.str "bad"))))
def f__law_ask : CF := fnD 3 m__law_ask
def m__law_orders : CSx :=
  (cSeq (cSet 1 (cLst (cCons (cTup (cCons (cTup cNil) (cCons (cK (.int 1)) cNil))) cNil)))
  (cSeq (cFor (iRg1 (cVar 0)) (gNm 2) (cSeq (cSetO 3 (cLst cNil))
  (cSeq (cFor (iAny (cB gList (cCons (cVar 1) cNil))) (gTp 2 (gsCons (gNm 4) (gsCons (gNm 5) gsNil))) (cFor (iRg1 (cVar 0)) (gNm 6) (cIfS (cTst (cBin (gIn true) (cVar 6) (cVar 4))) (cSeq (cSet 7 (cB gLen (cCons (cLc [8] (iAny (cFrz (cVar 4))) (gNm 8) (cTst (cBin gGt (cVar 8) (cVar 6))) (cFrz (cVar 8))) cNil)))
  (cApp 3 (cTup (cCons (cBin gAdd (cVar 4) (cTup (cCons (cFrz (cVar 6)) cNil))) (cCons (cBin gMul (cVar 5) (cBin gSub (cK (.int 1)) (cBin gMul (cK (.int 2)) (cBin gMod (cVar 7) (cK (.int 2)))))) cNil))))) cSkip)))
  (cSeq (cFz 3) (cSet 1 (cFrz (cVar 3)))))))
  (cRet (cVar 1))))
def f__law_orders : CF := fnD 9 m__law_orders
def m__law_times_all : CSx :=
  (cSeq (cSetO 2 (cBin gMul (cLst (cCons (cTup (cCons (cK (.int 0)) (cCons (cK (.int 1)) cNil))) cNil)) (cBin gSub (cBin gAdd (cB gLen (cCons (cVar 0) cNil)) (cB gLen (cCons (cVar 1) cNil))) (cK (.int 1)))))
  (cSeq (cFor (iRg1 (cB gLen (cCons (cVar 0) cNil))) (gNm 3) (cFor (iRg1 (cB gLen (cCons (cVar 1) cNil))) (gNm 4) (cSetIx 2 (cCall f__law_plus (cCons (cFrz (cBin gIx (cVar 2) (cBin gAdd (cVar 3) (cVar 4)))) (cCons (cCall f__law_times (cCons (cFrz (cBin gIx (cVar 0) (cVar 3))) (cCons (cFrz (cBin gIx (cVar 1) (cVar 4))) cNil))) cNil))) (cBin gAdd (cVar 3) (cVar 4)))))
  (cRet (cVar 2))))
def f__law_times_all : CF := fnD 5 m__law_times_all
def m__law_due : CSx :=
  (cSeq (cSet 1 (cB gLen (cCons (cVar 0) cNil)))
  (cSeq (cSet 2 (cBin gMul (cLst (cCons (cTup (cCons (cK (.int 0)) (cCons (cK (.int 1)) cNil))) cNil)) (cBin gAdd (cVar 1) (cK (.int 1)))))
  (cSeq (cFor (iAny (cCall f__law_orders (cCons (cFrz (cVar 1)) cNil))) (gTp 2 (gsCons (gNm 3) (gsCons (gNm 4) gsNil))) (cSeq (cSet 5 (cLst (cCons (cTup (cCons (cFrz (cVar 4)) (cCons (cK (.int 1)) cNil))) cNil)))
  (cSeq (cFor (iRg1 (cVar 1)) (gNm 6) (cSeq (cSet 7 (cFrz (cBin gIx (cBin gIx (cVar 0) (cVar 6)) (cBin gIx (cVar 3) (cVar 6)))))
  (cSet 5 (cCall f__law_times_all (cCons (cFrz (cVar 5)) (cCons (cIf (cTst (cBin gEq (cBin gIx (cVar 3) (cVar 6)) (cVar 6))) (cLst (cCons (cTup (cCons (cBin gSub (cK (.int 0)) (cBin gIx (cVar 7) (cK (.int 0)))) (cCons (cFrz (cBin gIx (cVar 7) (cK (.int 1)))) cNil))) (cCons (cTup (cCons (cK (.int 1)) (cCons (cK (.int 1)) cNil))) cNil))) (cLst (cCons (cTup (cCons (cBin gSub (cK (.int 0)) (cBin gIx (cVar 7) (cK (.int 0)))) (cCons (cFrz (cBin gIx (cVar 7) (cK (.int 1)))) cNil))) cNil))) cNil))))))
  (cSet 2 (cLc [6] (iRg1 (cBin gAdd (cVar 1) (cK (.int 1)))) (gNm 6) cYes (cCall f__law_plus (cCons (cFrz (cBin gIx (cVar 2) (cVar 6))) (cCons (cIf (cTst (cBin gLt (cVar 6) (cB gLen (cCons (cVar 5) cNil)))) (cFrz (cBin gIx (cVar 5) (cVar 6))) (cTup (cCons (cK (.int 0)) (cCons (cK (.int 1)) cNil)))) cNil))))))))
  (cRet (cB gTuple (cCons (cRev (cFrz (cVar 2))) cNil))))))
def f__law_due : CF := fnD 8 m__law_due
def m__law_power : CSx :=
  (cSeq (cParN [3, 4] (cCons (cTup (cCons (cK (.int 0)) (cCons (cK (.int 1)) cNil))) (cCons (cTup (cCons (cK (.int 1)) (cCons (cK (.int 1)) cNil))) cNil)))
  (cSeq (cFor (iAny (cRev (cFrz (cVar 0)))) (gNm 2) (cPar2 3 4 (cCons (cCall f__law_plus (cCons (cFrz (cVar 3)) (cCons (cCall f__law_times (cCons (cFrz (cVar 2)) (cCons (cFrz (cVar 4)) cNil))) cNil))) (cCons (cCall f__law_times (cCons (cFrz (cVar 4)) (cCons (cFrz (cVar 1)) cNil))) cNil))))
  (cRet (cVar 3))))
def f__law_power : CF := fnD 5 m__law_power
def m_law : CSx :=
  (cSeq (cFor (iRg1 (cK (.int 3))) (gNm 2) (cSeq (cSet 6 (cBin gAdd (cK (.int 1)) (cCall f__law_take (cCons (cFrz (cVar 1)) (cCons (cK (.int 4)) cNil)))))
  (cSeq (cPar2 8 9 (cCons (cCall f__law_table (cCons (cFrz (cVar 1)) (cCons (cFrz (cVar 6)) cNil))) (cCons (cCall f__law_table (cCons (cFrz (cVar 1)) (cCons (cFrz (cVar 6)) cNil))) cNil)))
  (cSeq (cParN [10, 11] (cCons (cCall f__law_ask (cCons (cK (.int 0)) (cCons (cFrz (cVar 8)) (cCons (cK .non) cNil)))) (cCons (cCall f__law_ask (cCons (cK (.int 1)) (cCons (cFrz (cVar 8)) (cCons (cK .non) cNil)))) cNil)))
  (cSeq (cIfS (cOr (cTst (cBin gNe (cVar 10) (cCall f__law_due (cCons (cFrz (cVar 8)) cNil)))) (cTst (cBin gNe (cCall f__law_ask (cCons (cK (.int 0)) (cCons (cCall f__law_columns (cCons (cFrz (cVar 8)) cNil)) (cCons (cK .non) cNil)))) (cVar 10)))) (cRet (cK (.bl false))) cSkip)
  (cSeq (cIfS (cTst (cBin gNe (cCall f__law_ask (cCons (cK (.int 0)) (cCons (cCall f__law_product (cCons (cFrz (cVar 8)) (cCons (cFrz (cVar 9)) cNil))) (cCons (cK .non) cNil)))) (cCall f__law_ask (cCons (cK (.int 0)) (cCons (cCall f__law_product (cCons (cFrz (cVar 9)) (cCons (cFrz (cVar 8)) cNil))) (cCons (cK .non) cNil)))))) (cRet (cK (.bl false))) cSkip)
  (cSeq (cFor (iRg1 (cK (.int 3))) (gNm 7) (cSeq (cPar2 13 14 (cCons (cCall f__law_row (cCons (cFrz (cVar 1)) (cCons (cFrz (cVar 6)) cNil))) (cCons (cCall f__law_low (cCons (cBin gSub (cCall f__law_take (cCons (cFrz (cVar 1)) (cCons (cK (.int 41)) cNil))) (cK (.int 20))) (cCons (cBin gAdd (cK (.int 1)) (cCall f__law_take (cCons (cFrz (cVar 1)) (cCons (cK (.int 6)) cNil)))) cNil))) cNil)))
  (cIfS (cOr (cTst (cBin gNe (cCall f__law_led (cCons (cFrz (cVar 11)) (cCons (cCall f__law_products (cCons (cFrz (cVar 13)) cNil)) cNil))) (cCall f__law_products (cCons (cCall f__law_led (cCons (cFrz (cVar 8)) (cCons (cFrz (cVar 13)) cNil))) cNil)))) (cTst (cBin gNe (cCall f__law_ask (cCons (cK (.int 2)) (cCons (cFrz (cVar 10)) (cCons (cFrz (cVar 14)) cNil)))) (cCall f__law_power (cCons (cFrz (cVar 10)) (cCons (cFrz (cVar 14)) cNil)))))) (cRet (cK (.bl false))) cSkip)))
  (cIfS (cOr (cTst (cBin gNe (cB gLen (cCons (cVar 11) cNil)) (cBin gFd (cBin gMul (cVar 6) (cBin gAdd (cVar 6) (cK (.int 1)))) (cK (.int 2))))) (cTst (cBin gNe (cCall f__law_product (cCons (cCall f__law_ask (cCons (cK (.int 1)) (cCons (cFrz (cVar 9)) (cCons (cK .non) cNil)))) (cCons (cFrz (cVar 11)) cNil))) (cCall f__law_ask (cCons (cK (.int 1)) (cCons (cCall f__law_product (cCons (cFrz (cVar 9)) (cCons (cFrz (cVar 8)) cNil))) (cCons (cK .non) cNil))))))) (cRet (cK (.bl false))) cSkip))))))))
  (cSeq (cSet 3 (cB gTuple (cCons (cBin gAdd (cLst (cCons (cTup (cCons (cK (.int 1)) (cCons (cK (.int 1)) cNil))) cNil)) (cLc [15] (iRg1 (cK (.int 20))) (gNm 15) cYes (cCall f__law_number (cCons (cFrz (cVar 1)) cNil)))) cNil)))
  (cSeq (cIfS (cTst (cBin gNe (cCall f__law_ask (cCons (cK (.int 2)) (cCons (cFrz (cVar 3)) (cCons (cTup (cCons (cK (.int 2)) (cCons (cK (.int 3)) cNil))) cNil)))) (cCall f__law_power (cCons (cFrz (cVar 3)) (cCons (cTup (cCons (cK (.int 2)) (cCons (cK (.int 3)) cNil))) cNil))))) (cRet (cK (.bl false))) cSkip)
  (cSeq (cSet 4 (cLst (cCons (cK .non) (cCons (cTup cNil) (cCons (cSl (cVar 8) cNoPart (cPart (cNeg (cK (.int 1))))) (cCons (cBin gAdd (cVar 8) (cSl (cVar 8) cNoPart (cPart (cK (.int 1))))) (cCons (cB gList (cCons (cVar 8) cNil)) (cCons (cBin gAdd (cSl (cVar 8) cNoPart (cPart (cNeg (cK (.int 1))))) (cTup (cCons (cB gList (cCons (cBin gIx (cVar 8) (cNeg (cK (.int 1)))) cNil)) cNil))) (cCons (cBin gMul (cTup (cCons (cBin gMul (cTup (cCons (cK (.str "a")) cNil)) (cVar 6)) cNil)) (cVar 6)) (cCons (cBin gMul (cTup (cCons (cBin gMul (cTup (cCons (cK (.int 1)) cNil)) (cVar 6)) cNil)) (cVar 6)) cNil))))))))))
  (cSeq (cSet 4 (cBin gAdd (cVar 4) (cLst (cCons (cBin gMul (cTup (cCons (cBin gMul (cTup (cCons (cTup (cCons (cK (.int 2)) (cCons (cK (.int 2)) cNil))) cNil)) (cVar 6)) cNil)) (cVar 6)) (cCons (cBin gMul (cTup (cCons (cBin gMul (cTup (cCons (cTup (cCons (cK (.int 1)) (cCons (cK (.int 1)) cNil))) cNil)) (cK (.int 5))) cNil)) (cK (.int 5))) (cCons (cBin gMul (cTup (cCons (cBin gMul (cTup (cCons (cTup (cCons (cK (.bl true)) (cCons (cK (.int 1)) cNil))) cNil)) (cVar 6)) cNil)) (cVar 6)) cNil))))))
  (cSeq (cSet 5 (cLc [12] (iAny (cFrz (cVar 4))) (gNm 12) (cOr (cTst (cBin gNe (cCall f__law_ask (cCons (cK (.int 0)) (cCons (cFrz (cVar 12)) (cCons (cK .non) cNil)))) (cK (.str "bad")))) (cTst (cBin gNe (cCall f__law_ask (cCons (cK (.int 1)) (cCons (cFrz (cVar 12)) (cCons (cK .non) cNil)))) (cK (.str "bad"))))) (cFrz (cVar 12))))
  (cSeq (cSet 4 (cLst (cCons (cK .non) (cCons (cTup cNil) (cCons (cTup (cCons (cTup (cCons (cK (.int 1)) (cCons (cK (.int 1)) cNil))) cNil)) (cCons (cTup (cCons (cTup (cCons (cK (.int 2)) (cCons (cK (.int 1)) cNil))) (cCons (cTup (cCons (cK (.int 1)) (cCons (cK (.int 1)) cNil))) cNil))) (cCons (cBin gMul (cTup (cCons (cTup (cCons (cK (.int 1)) (cCons (cK (.int 1)) cNil))) cNil)) (cK (.int 22))) (cCons (cLst (cCons (cTup (cCons (cK (.int 1)) (cCons (cK (.int 1)) cNil))) (cCons (cTup (cCons (cK (.int 1)) (cCons (cK (.int 1)) cNil))) cNil))) (cCons (cTup (cCons (cTup (cCons (cK (.int 1)) (cCons (cK (.int 1)) cNil))) (cCons (cK (.int 1)) cNil))) (cCons (cTup (cCons (cTup (cCons (cK (.int 1)) (cCons (cK (.int 1)) cNil))) (cCons (cTup (cCons (cK (.int 2)) (cCons (cK (.int 4)) cNil))) cNil))) (cCons (cTup (cCons (cTup (cCons (cK (.int 1)) (cCons (cK (.int 1)) cNil))) (cCons (cTup (cCons (cK (.int 1)) (cCons (cK (.int 0)) cNil))) cNil))) cNil)))))))))))
  (cSeq (cSet 5 (cBin gAdd (cVar 5) (cLc [12] (iAny (cFrz (cVar 4))) (gNm 12) (cTst (cBin gNe (cCall f__law_ask (cCons (cK (.int 2)) (cCons (cFrz (cVar 12)) (cCons (cTup (cCons (cK (.int 1)) (cCons (cK (.int 1)) cNil))) cNil)))) (cK (.str "bad")))) (cFrz (cVar 12)))))
  (cRet (cAndV (cBin gEq (cVar 5) (cLst cNil)) (cBin gEq (cLc [14] (iAny (cLst (cCons (cK (.int 1)) (cCons (cK .non) (cCons (cTup (cCons (cK (.int 2)) (cCons (cK (.int 2)) cNil))) (cCons (cTup (cCons (cK (.int 1)) (cCons (cK (.int 0)) cNil))) (cCons (cTup (cCons (cK (.int 1)) (cCons (cBin gSub (cK (.int 0)) (cK (.int 1))) cNil))) (cCons (cK (.bl true)) cNil)))))))) (gNm 14) cYes (cCall f__law_ask (cCons (cK (.int 2)) (cCons (cFrz (cVar 10)) (cCons (cFrz (cVar 14)) cNil))))) (cBin gMul (cLst (cCons (cK (.str "bad")) cNil)) (cK (.int 6))))))))))))))
/-! ### what the top has written -/
structure Txt (K : PySem.W.Frag) (mg : Str → Option Value) : Prop where
  d_is_whole : DefAt K mg "is_whole" s_is_whole ["value"]
  d_common : DefAt K mg "common" s_common ["a", "b"]
  d_lowest : DefAt K mg "lowest" s_lowest ["n", "d"]
  d_is_ratio : DefAt K mg "is_ratio" s_is_ratio ["value"]
  d_plus : DefAt K mg "plus" s_plus ["a", "b"]
  d_times : DefAt K mg "times" s_times ["a", "b"]
  d_least_common : DefAt K mg "least_common" s_least_common ["numbers"]
  d_has_shape : DefAt K mg "has_shape" s_has_shape ["value", "size"]
  d_is_row : DefAt K mg "is_row" s_is_row ["size", "value"]
  d_is_square : DefAt K mg "is_square" s_is_square ["size", "value"]
  d_is_table : DefAt K mg "is_table" s_is_table ["value"]
  d_check_table : DefAt K mg "check_table" s_check_table ["value"]
  d_whole_table : DefAt K mg "whole_table" s_whole_table ["table"]
  d_whole_product : DefAt K mg "whole_product" s_whole_product ["one", "two"]
  d_equation_of : DefAt K mg "equation_of" s_equation_of ["table"]
  d_equation : DefAt K mg "equation" s_equation ["table"]
  d_pair_power : DefAt K mg "pair_power" s_pair_power ["table"]
  d_paired : DefAt K mg "paired" s_paired ["table"]
  d_is_equation : DefAt K mg "is_equation" s_is_equation ["value"]
  d_check_equation : DefAt K mg "check_equation" s_check_equation ["value"]
  d_check_point : DefAt K mg "check_point" s_check_point ["value"]
  d_value_at : DefAt K mg "value_at" s_value_at ["told", "point"]
  d__law_draw : DefAt K mg "_law_draw" s__law_draw ["script"]
  d__law_take : DefAt K mg "_law_take" s__law_take ["draw", "many"]
  d__law_low : DefAt K mg "_law_low" s__law_low ["n", "d"]
  d__law_plus : DefAt K mg "_law_plus" s__law_plus ["a", "b"]
  d__law_times : DefAt K mg "_law_times" s__law_times ["a", "b"]
  d__law_sum : DefAt K mg "_law_sum" s__law_sum ["items"]
  d__law_dot : DefAt K mg "_law_dot" s__law_dot ["one", "two"]
  d__law_led : DefAt K mg "_law_led" s__law_led ["table", "row"]
  d__law_columns : DefAt K mg "_law_columns" s__law_columns ["table"]
  d__law_product : DefAt K mg "_law_product" s__law_product ["one", "two"]
  d__law_number : DefAt K mg "_law_number" s__law_number ["draw"]
  d__law_row : DefAt K mg "_law_row" s__law_row ["draw", "size"]
  d__law_table : DefAt K mg "_law_table" s__law_table ["draw", "size"]
  d__law_products : DefAt K mg "_law_products" s__law_products ["row"]
  d__law_ask : DefAt K mg "_law_ask" s__law_ask ["which", "one", "two"]
  d__law_orders : DefAt K mg "_law_orders" s__law_orders ["many"]
  d__law_times_all : DefAt K mg "_law_times_all" s__law_times_all ["one", "two"]
  d__law_due : DefAt K mg "_law_due" s__law_due ["table"]
  d__law_power : DefAt K mg "_law_power" s__law_power ["told", "point"]
  b_abs : mg "abs" = none
  b_all : mg "all" = none
  b_bool : mg "bool" = none
  b_int : mg "int" = none
  b_isinstance : mg "isinstance" = none
  b_len : mg "len" = none
  b_list : mg "list" = none
  b_range : mg "range" = none
  b_sum : mg "sum" = none
  b_tuple : mg "tuple" = none
  b_zip : mg "zip" = none
  c_MOST_DEGREE : ∃ t, mg "MOST_DEGREE" = some (.int 20 t)
  c_MOST_SIZE : ∃ t, mg "MOST_SIZE" = some (.int 4 t)
  c_ONE : ConT K mg "ONE" [(.int 1), (.int 1)]
  c_ZERO : ConT K mg "ZERO" [(.int 0), (.int 1)]
  e_Malformed : HasExc K mg "Malformed"
  x_Malformed : HasClause K mg "Malformed" mt_Malformed
/-! ### the defs -/
section
variable {P : Program} {w : World} {K : PySem.W.Frag} {mg : Str → Option Value} {base : Heap}
theorem sc__law_take : FnScope ["draw", "many", "found"] ["draw", "many"] (defScope s__law_take) := ⟨rfl, rfl, rfl, by decide +kernel, rfl, by decide +kernel, by decide +kernel⟩
theorem h__law_take (T : Txt K mg) : HasFn P w K mg base 1 "_law_take" 2 f__law_take := by
  obtain ⟨f, fd, F, g, b⟩ := T.d__law_take.ex
  refine ⟨f, fd, ["draw", "many"], F.okX sc__law_take (fun vs H Q E h => h.1) (fun cdv A outer s H vs Q E hr h => ?_), g, F.kp, b⟩
  refine ⟨tTake K, pss_cons (ps_if (pw_and (pt_cmpR op_eq (pe_ix ix_list (pv 0) pe_int (by intro _ _; rfl)) pe_int (nomark _)) (pw_and1 (pt_cmpR op_lt (pe_ix ix_list (pv 0) pe_int (by intro _ _; rfl)) (pe_callB call_len (by rfl) T.b_len PySem.boot_len (pa_cons (pe_ix ix_list (pv 0) pe_int (by intro _ _; rfl)) pa_nil)) (nomark _)))).pt
      (pss_one (ps_asg (pe_tup (pa_cons (pe_ix ix_list (pe_ix ix_list (pv 0) pe_int (by intro _ _; rfl)) (pe_ix ix_list (pv 0) pe_int (by intro _ _; rfl)) (by intro _ _; rfl)) (pa_cons pe_int (pa_cons (pe_op op_add (pe_ix ix_list (pv 0) pe_int (by intro _ _; rfl)) pe_int) pa_nil))))
        (pg_tup (n := 3) rfl (pgs_cons (pg_sub (pv 0) pe_int set_list) (pgs_cons (pg_sub (pv 0) pe_int set_list) (pgs_cons (pg_sub (pv 0) pe_int set_list) pgs_nil)))))) pss_nil)
    (pss_cons (ps_if (pt_cmpR op_gt (pe_ix ix_list (pv 0) pe_int (by intro _ _; rfl)) pe_int (nomark _))
        (pss_cons (ps_set (i := 2) sc__law_take.nd rfl (.inl rfl) (pe_op op_modN (pe_callTy call_int1 (by rfl) T.b_int (by decide +kernel) (pa_cons (pe_ix ix_list (pv 0) pe_int (by intro _ _; rfl)) pa_nil)) (pv 1)))
        (pss_cons (ps_asg (pe_op op_fdivA (pe_ix ix_list (pv 0) pe_int (by intro _ _; rfl)) (pv 1)) (pg_sub (pv 0) pe_int set_list))
        (pss_cons (ps_asg (pe_ifExp (pt_cmpR op_gt (pe_ix ix_list (pv 0) pe_int (by intro _ _; rfl)) pe_int (nomark _)) (pe_op op_sub (pe_ix ix_list (pv 0) pe_int (by intro _ _; rfl)) pe_int) pe_int) (pg_sub (pv 0) pe_int set_list))
        (pss_one (ps_ret (pv 2)))))) pss_nil)
    (pss_cons (ps_asg (pe_op op_add (pe_ix ix_list (pv 0) pe_int (by intro _ _; rfl)) pe_int) (pg_sub (pv 0) pe_int set_list))
    (pss_cons (ps_asg (pe_op op_modN (pe_callTy call_int1 (by rfl) T.b_int (by decide +kernel) (pa_cons (pe_op op_add (pe_op op_add (pe_op op_mulW (pe_ix ix_list (pv 0) pe_int (by intro _ _; rfl)) pe_int) (pe_op op_mulW (pe_op op_mulW (pe_ix ix_list (pv 0) pe_int (by intro _ _; rfl)) (pe_ix ix_list (pv 0) pe_int (by intro _ _; rfl))) pe_int)) pe_int) pa_nil)) pe_int) (pg_sub (pv 0) pe_int set_list))
    (pss_one (ps_ret (pe_op op_modN (pe_callTy call_int1 (by rfl) T.b_int (by decide +kernel) (pa_cons (pe_op op_fdivA (pe_ix ix_list (pv 0) pe_int (by intro _ _; rfl)) pe_int) pa_nil)) (pv 1))))))), pure_take h⟩
theorem sc__law_draw : FnScope ND ["script"] (defScope s__law_draw) := ⟨rfl, rfl, rfl, by decide +kernel, rfl, by decide +kernel, by decide +kernel⟩
theorem h_draw (T : Txt K mg) : HasDraw P w K mg base 1 := by
  obtain ⟨f, fd, F, g, b⟩ := T.d__law_draw.ex
  refine ⟨f, fd, ["script"], F.okX sc__law_draw (fun vs H Q E h => by obtain ⟨a, ns, rfl, _⟩ := h; rfl) (fun cdv A outer s H vs Q E hr h => ?_), g, F.kp, b⟩
  refine ⟨tDraw K, pss_cons (ps_set (i := 1) sc__law_draw.nd rfl (.inl rfl) pe_int) (pss_cons (ps_for PassesOwn.leaving rfl (pi_list (pe_slice sl_list (pv 0) po_none (po_some pe_int))) (pg_name (i := 2) sc__law_draw.nd rfl (.inl rfl))
      (pss_one (ps_set (i := 1) sc__law_draw.nd rfl (.inl rfl) (pe_op op_add (pe_op op_modN (pe_callTy call_int1 (by rfl) T.b_int (by decide +kernel) (pa_cons (pe_op op_add (pe_op op_mulW (pv 1) pe_int) (pv 2)) pa_nil)) pe_int) pe_int))))
    (pss_one (ps_ret (pe_lst (pa_cons (pe_lc (own := [("cell", 2)]) rfl sc__law_draw.nd (pi_list (pe_slice sl_list (pv 0) po_none (po_some pe_int))) (blkOk_by (by kernel_rfl)) (fun _ _ _ _ _ => pg_name (i := 2) sc__law_draw.nd rfl (Or.inl rfl)) (fun _ _ _ _ _ => pts_nil) (fun _ _ _ _ _ => pe_callB call_abs (by rfl) T.b_abs (by decide +kernel) (pa_cons (pe_callTy call_int1 (by rfl) T.b_int (by decide +kernel) (pa_cons (pv 2) pa_nil)) pa_nil)))
      (pa_cons pe_int (pa_cons pe_int (pa_cons pe_int (pa_cons (pv 1) (pa_cons pe_int pa_nil)))))))))), pure_draw h⟩
theorem sc_is_whole : FnScope ["value"] ["value"] (defScope s_is_whole) := ⟨rfl, rfl, rfl, by decide +kernel, rfl, by decide +kernel, by decide +kernel⟩
theorem h_is_whole (T : Txt K mg) : HasFn P w K mg base 1 "is_whole" 1 f_is_whole := has_at (N := ["value"]) (ps := ["value"]) T.d_is_whole sc_is_whole fun f dra cdv A outer s H E hr => (by exact
  (bss_one (bs_ret (EE.be (ee_and (EE.be (ee_isi isi_int T.b_isinstance T.b_int (by decide +kernel) (be_var 0))) (ee_one (ee_not (EE.be (ee_isi isi_bool T.b_isinstance T.b_bool (by decide +kernel) (be_var 0))))))))))
theorem sc_common : FnScope ["a", "b"] ["a", "b"] (defScope s_common) := ⟨rfl, rfl, rfl, by decide +kernel, rfl, by decide +kernel, by decide +kernel⟩
theorem h_common (T : Txt K mg) : HasFn P w K mg base 1 "common" 2 f_common := has_at (N := ["a", "b"]) (ps := ["a", "b"]) T.d_common sc_common fun f dra cdv A outer s H E hr => (by exact
  (bss_cons (bs_par2 (i := 0) (j := 1) rfl sc_common.nd (ea_cons (eAbs T.b_abs (be_var 0)) (ea_cons (eAbs T.b_abs (be_var 1)) ea_nil)) rfl)
  (bss_cons (bs_while (fuelAbs 1) PassesOwn.leaving (tNe (Room.units hr) (be_var 1) (EE.be ee_int)) (bss_one (bs_par2 (i := 0) (j := 1) rfl sc_common.nd (ea_cons (BE.ee (be_var 1)) (ea_cons (eMod (be_var 0) (be_var 1)) ea_nil)) rfl)))
  (bss_one (bs_ret (be_var 0))))))
theorem sc_lowest : FnScope ["n", "d", "g"] ["n", "d"] (defScope s_lowest) := ⟨rfl, rfl, rfl, by decide +kernel, rfl, by decide +kernel, by decide +kernel⟩
theorem h_lowest (T : Txt K mg) : HasFn P w K mg base 2 "lowest" 2 f_lowest := has_at (N := ["n", "d", "g"]) (ps := ["n", "d"]) T.d_lowest sc_lowest fun f dra cdv A outer s H E hr => (by exact
  (bss_cons (bs_set (i := 2) sc_lowest.nd (ee_call (h_common T) (hr.mono (by decide)) (takes_of rfl rfl rfl rfl) (ea_cons (BE.ee (be_var 0)) (ea_cons (BE.ee (be_var 1)) ea_nil)) rfl (alen_cons (alen_cons alen_nil))))
  (bss_cons (bs_if (tLt (be_var 1) (EE.be ee_int)) (bss_one (bs_set (i := 2) sc_lowest.nd (ee_neg (be_var 2)))) bss_nil)
  (bss_one (bs_ret (EE.be (ee_tup (ea_cons (eFd (be_var 0) (be_var 2)) (ea_cons (eFd (be_var 1) (be_var 2)) ea_nil)))))))))
theorem sc_is_ratio : FnScope ["value"] ["value"] (defScope s_is_ratio) := ⟨rfl, rfl, rfl, by decide +kernel, rfl, by decide +kernel, by decide +kernel⟩
theorem h_is_ratio (T : Txt K mg) : HasFn P w K mg base 2 "is_ratio" 1 f_is_ratio := has_at (N := ["value"]) (ps := ["value"]) T.d_is_ratio sc_is_ratio fun f dra cdv A outer s H E hr => (by exact
  (bss_cons (bs_if (BW.bt (bw_or (bt_not (bt_tru (EE.be (ee_isi isi_tuple T.b_isinstance T.b_tuple (by decide +kernel) (be_var 0))))) (bw_or (tNe (Room.units hr) (EE.be (ee_len T.b_len (be_var 0))) (EE.be ee_int)) (bw_or (bt_not (bt_tru (EE.be (ee_call (h_is_whole T) (hr.mono (by decide)) (takes_of rfl rfl rfl rfl) (ea_cons (BE.ee (be_ix (be_var 0) (EE.be ee_int))) ea_nil) rfl (alen_cons alen_nil))))) (bw_or1 (bt_not (bt_tru (EE.be (ee_call (h_is_whole T) (hr.mono (by decide)) (takes_of rfl rfl rfl rfl) (ea_cons (BE.ee (be_ix (be_var 0) (EE.be ee_int))) ea_nil) rfl (alen_cons alen_nil)))))))))) (bss_one (bs_ret (EE.be ee_bl))) bss_nil)
  (bss_one (bs_ret (EE.be (ee_and (EE.be (eGt (be_ix (be_var 0) (EE.be ee_int)) (EE.be ee_int))) (ee_one (eEq (Room.units hr) (EE.be (ee_call (h_common T) (hr.mono (by decide)) (takes_of rfl rfl rfl rfl) (ea_cons (BE.ee (be_ix (be_var 0) (EE.be ee_int))) (ea_cons (BE.ee (be_ix (be_var 0) (EE.be ee_int))) ea_nil)) rfl (alen_cons (alen_cons alen_nil)))) (EE.be ee_int)))))))))
theorem sc_plus : FnScope ["a", "b"] ["a", "b"] (defScope s_plus) := ⟨rfl, rfl, rfl, by decide +kernel, rfl, by decide +kernel, by decide +kernel⟩
theorem h_plus (T : Txt K mg) : HasFn P w K mg base 3 "plus" 2 f_plus := has_at (N := ["a", "b"]) (ps := ["a", "b"]) T.d_plus sc_plus fun f dra cdv A outer s H E hr => (by exact
  (bss_one (bs_ret (EE.be (ee_call (h_lowest T) (hr.mono (by decide)) (takes_of rfl rfl rfl rfl) (ea_cons (eAdd (EE.be (eMul (be_ix (be_var 0) (EE.be ee_int)) (be_ix (be_var 1) (EE.be ee_int)))) (EE.be (eMul (be_ix (be_var 1) (EE.be ee_int)) (be_ix (be_var 0) (EE.be ee_int))))) (ea_cons (eMul (be_ix (be_var 0) (EE.be ee_int)) (be_ix (be_var 1) (EE.be ee_int))) ea_nil)) rfl (alen_cons (alen_cons alen_nil)))))))
theorem sc_times : FnScope ["a", "b"] ["a", "b"] (defScope s_times) := ⟨rfl, rfl, rfl, by decide +kernel, rfl, by decide +kernel, by decide +kernel⟩
theorem h_times (T : Txt K mg) : HasFn P w K mg base 3 "times" 2 f_times := has_at (N := ["a", "b"]) (ps := ["a", "b"]) T.d_times sc_times fun f dra cdv A outer s H E hr => (by exact
  (bss_one (bs_ret (EE.be (ee_call (h_lowest T) (hr.mono (by decide)) (takes_of rfl rfl rfl rfl) (ea_cons (eMul (be_ix (be_var 0) (EE.be ee_int)) (be_ix (be_var 1) (EE.be ee_int))) (ea_cons (eMul (be_ix (be_var 0) (EE.be ee_int)) (be_ix (be_var 1) (EE.be ee_int))) ea_nil)) rfl (alen_cons (alen_cons alen_nil)))))))
theorem sc_least_common : FnScope ["numbers", "found", "number"] ["numbers"] (defScope s_least_common) := ⟨rfl, rfl, rfl, by decide +kernel, rfl, by decide +kernel, by decide +kernel⟩
theorem h_least_common (T : Txt K mg) : HasFn P w K mg base 3 "least_common" 1 f_least_common := has_at (N := ["numbers", "found", "number"]) (ps := ["numbers"]) T.d_least_common sc_least_common fun f dra cdv A outer s H E hr => (by exact
  (bss_cons (bs_set (i := 1) sc_least_common.nd ee_int)
  (bss_cons (bs_for PassesOwn.leaving rfl (bi_any (BE.ee (be_var 0))) (bg_name (i := 2) sc_least_common.nd) (bss_one (sAug (i := 1) sc_least_common.nd i2Mul (BE.ee (be_ix (EE.be (ee_call (h_lowest T) (hr.mono (by decide)) (takes_of rfl rfl rfl rfl) (ea_cons (BE.ee (be_var 2)) (ea_cons (BE.ee (be_var 1)) ea_nil)) rfl (alen_cons (alen_cons alen_nil)))) (EE.be ee_int))))))
  (bss_one (bs_ret (be_var 1))))))
theorem sc_has_shape : FnScope ["value", "size"] ["value", "size"] (defScope s_has_shape) := ⟨rfl, rfl, rfl, by decide +kernel, rfl, by decide +kernel, by decide +kernel⟩
theorem h_has_shape (T : Txt K mg) : HasFn P w K mg base 1 "has_shape" 2 f_has_shape := has_at (N := ["value", "size"]) (ps := ["value", "size"]) T.d_has_shape sc_has_shape fun f dra cdv A outer s H E hr => (by exact
  (bss_one (bs_ret (EE.be (ee_and (EE.be (ee_isi isi_tuple T.b_isinstance T.b_tuple (by decide +kernel) (be_var 0))) (ee_one (eEq (Room.units hr) (EE.be (ee_len T.b_len (be_var 0))) (be_var 1))))))))
theorem sc_is_row : FnScope ["size", "value", "item"] ["size", "value"] (defScope s_is_row) := ⟨rfl, rfl, rfl, by decide +kernel, rfl, by decide +kernel, by decide +kernel⟩
theorem h_is_row (T : Txt K mg) : HasFn P w K mg base 3 "is_row" 2 f_is_row := has_at (N := ["size", "value", "item"]) (ps := ["size", "value"]) T.d_is_row sc_is_row fun f dra cdv A outer s H E hr => (by exact
  (bss_one (bs_ret (EE.be (ee_and (EE.be (ee_call (h_has_shape T) (hr.mono (by decide)) (takes_of rfl rfl rfl rfl) (ea_cons (BE.ee (be_var 1)) (ea_cons (BE.ee (be_var 0)) ea_nil)) rfl (alen_cons (alen_cons alen_nil)))) (ee_one (eAll rfl T.b_all (EE.be (ee_lc (own := [("item", 2)]) rfl sc_is_row.nd (bi_any (BE.ee (be_var 1))) (by kernel_rfl) (fun _ _ _ _ _ => (bg_name (i := 2) sc_is_row.nd)) (fun _ _ _ _ _ => bts_nil) (fun _ _ _ _ _ => (ee_call (h_is_ratio T) (hr.mono (by decide)) takes0 (ea_cons (BE.ee (be_var 2)) ea_nil) rfl (alen_cons alen_nil))) (by decide))))))))))
theorem sc_is_square : FnScope ["size", "value", "row"] ["size", "value"] (defScope s_is_square) := ⟨rfl, rfl, rfl, by decide +kernel, rfl, by decide +kernel, by decide +kernel⟩
theorem h_is_square (T : Txt K mg) : HasFn P w K mg base 4 "is_square" 2 f_is_square := has_at (N := ["size", "value", "row"]) (ps := ["size", "value"]) T.d_is_square sc_is_square fun f dra cdv A outer s H E hr => (by exact
  (bss_one (bs_ret (EE.be (ee_and (EE.be (ee_call (h_has_shape T) (hr.mono (by decide)) (takes_of rfl rfl rfl rfl) (ea_cons (BE.ee (be_var 1)) (ea_cons (BE.ee (be_var 0)) ea_nil)) rfl (alen_cons (alen_cons alen_nil)))) (ee_one (eAll rfl T.b_all (EE.be (ee_lc (own := [("row", 2)]) rfl sc_is_square.nd (bi_any (BE.ee (be_var 1))) (by kernel_rfl) (fun _ _ _ _ _ => (bg_name (i := 2) sc_is_square.nd)) (fun _ _ _ _ _ => bts_nil) (fun _ _ _ _ _ => (ee_call (h_is_row T) (hr.mono (by decide)) takes0 (ea_cons (BE.ee (be_var 0)) (ea_cons (BE.ee (be_var 2)) ea_nil)) rfl (alen_cons (alen_cons alen_nil)))) (by decide))))))))))
theorem sc_is_table : FnScope ["value"] ["value"] (defScope s_is_table) := ⟨rfl, rfl, rfl, by decide +kernel, rfl, by decide +kernel, by decide +kernel⟩
theorem h_is_table (T : Txt K mg) : HasFn P w K mg base 5 "is_table" 1 f_is_table := has_at (N := ["value"]) (ps := ["value"]) T.d_is_table sc_is_table fun f dra cdv A outer s H E hr => (by exact
  (bss_one (bs_ret (EE.be (ee_and (EE.be (ee_isi isi_tuple T.b_isinstance T.b_tuple (by decide +kernel) (be_var 0))) (ee_and (EE.be (eChain o2Lt o2Le (EE.be ee_int) (EE.be (ee_len T.b_len (be_var 0))) (EE.be (eGint T.c_MOST_SIZE)))) (ee_one (ee_call (h_is_square T) (hr.mono (by decide)) (takes_of rfl rfl rfl rfl) (ea_cons (ee_len T.b_len (be_var 0)) (ea_cons (BE.ee (be_var 0)) ea_nil)) rfl (alen_cons (alen_cons alen_nil))))))))))
theorem sc_check_table : FnScope ["value"] ["value"] (defScope s_check_table) := ⟨rfl, rfl, rfl, by decide +kernel, rfl, by decide +kernel, by decide +kernel⟩
theorem h_check_table (T : Txt K mg) : HasFn P w K mg base 6 "check_table" 1 f_check_table := has_at (N := ["value"]) (ps := ["value"]) T.d_check_table sc_check_table fun f dra cdv A outer s H E hr => (by exact
  (bss_one (bs_if (bt_not (bt_tru (EE.be (ee_call (h_is_table T) (hr.mono (by decide)) (takes_of rfl rfl rfl rfl) (ea_cons (BE.ee (be_var 0)) ea_nil) rfl (alen_cons alen_nil))))) (bss_one (bs_raise T.e_Malformed rfl (takes_of rfl rfl rfl rfl))) bss_nil)))
theorem sc_whole_table : FnScope ["table", "by", "row", "item"] ["table"] (defScope s_whole_table) := ⟨rfl, rfl, rfl, by decide +kernel, rfl, by decide +kernel, by decide +kernel⟩
theorem h_whole_table (T : Txt K mg) : HasFn P w K mg base 4 "whole_table" 1 f_whole_table := has_at (N := ["table", "by", "row", "item"]) (ps := ["table"]) T.d_whole_table sc_whole_table fun f dra cdv A outer s H E hr => (by exact
  (bss_cons (bs_set (i := 1) sc_whole_table.nd (ee_call (h_least_common T) (hr.mono (by decide)) (takes_of rfl rfl rfl rfl) (ea_cons (ee_lc2 (own := [("row", 2), ("item", 3)]) (vs1 := [3]) rfl sc_whole_table.nd (bi_any (BE.ee (be_var 0))) (by kernel_rfl) (by decide) (fun _ _ _ _ _ => (bg_name (i := 2) sc_whole_table.nd)) (fun _ _ _ _ _ => bts_nil) (fun _ _ _ _ _ => (bi_any (BE.ee (be_var 2)))) (fun _ _ _ _ _ => (bg_name (i := 3) sc_whole_table.nd)) (fun _ _ _ _ _ => bts_nil) (fun _ _ _ _ _ => (BE.ee (be_ix (be_var 3) (EE.be ee_int)))) (by decide) (by decide)) ea_nil) rfl (alen_cons alen_nil)))
  (bss_one (bs_ret (EE.be (ee_tup (ea_cons (ee_lc (own := [("row", 2)]) rfl sc_whole_table.nd (bi_any (BE.ee (be_var 0))) (by kernel_rfl) (fun _ _ _ _ _ => (bg_name (i := 2) sc_whole_table.nd)) (fun _ _ _ _ _ => bts_nil) (fun _ _ _ _ _ => (ee_lc (own := [("item", 3)]) rfl sc_whole_table.nd (bi_any (BE.ee (be_var 2))) (by kernel_rfl) (fun _ _ _ _ _ => (bg_name (i := 3) sc_whole_table.nd)) (fun _ _ _ _ _ => bts_nil) (fun _ _ _ _ _ => (eMul (be_ix (be_var 3) (EE.be ee_int)) (EE.be (eFd (be_var 1) (be_ix (be_var 3) (EE.be ee_int)))))) (by decide))) (by decide)) (ea_cons (BE.ee (be_var 1)) ea_nil))))))))
theorem sc_whole_product : FnScope ["one", "two", "columns", "k", "row", "column", "a", "b"] ["one", "two"] (defScope s_whole_product) := ⟨rfl, rfl, rfl, by decide +kernel, rfl, by decide +kernel, by decide +kernel⟩
theorem h_whole_product (T : Txt K mg) : HasFn P w K mg base 1 "whole_product" 2 f_whole_product := has_at (N := ["one", "two", "columns", "k", "row", "column", "a", "b"]) (ps := ["one", "two"]) T.d_whole_product sc_whole_product fun f dra cdv A outer s H E hr => (by exact
  (bss_cons (bs_set (i := 2) sc_whole_product.nd (ee_lc (own := [("k", 3)]) rfl sc_whole_product.nd (bi_rg1 T.b_range (EE.be (ee_len T.b_len (be_ix (be_var 1) (EE.be ee_int))))) (by kernel_rfl) (fun _ _ _ _ _ => (bg_name (i := 3) sc_whole_product.nd)) (fun _ _ _ _ _ => bts_nil) (fun _ _ _ _ _ => (ee_lc (own := [("row", 4)]) rfl sc_whole_product.nd (bi_any (BE.ee (be_var 1))) (by kernel_rfl) (fun _ _ _ _ _ => (bg_name (i := 4) sc_whole_product.nd)) (fun _ _ _ _ _ => bts_nil) (fun _ _ _ _ _ => (BE.ee (be_ix (be_var 4) (be_var 3)))) (by decide))) (by decide)))
  (bss_one (bs_ret (EE.be (ee_lc (own := [("row", 4)]) rfl sc_whole_product.nd (bi_any (BE.ee (be_var 0))) (by kernel_rfl) (fun _ _ _ _ _ => (bg_name (i := 4) sc_whole_product.nd)) (fun _ _ _ _ _ => bts_nil) (fun _ _ _ _ _ => (ee_lc (own := [("column", 5)]) rfl sc_whole_product.nd (bi_any (BE.ee (be_var 2))) (by kernel_rfl) (fun _ _ _ _ _ => (bg_name (i := 5) sc_whole_product.nd)) (fun _ _ _ _ _ => bts_nil) (fun _ _ _ _ _ => (eSum rfl T.b_sum (EE.be (ee_lc (own := [("a", 6), ("b", 7)]) rfl sc_whole_product.nd (bi_zip T.b_zip (ea_cons (BE.ee (be_var 4)) (ea_cons (BE.ee (be_var 5)) ea_nil))) (by kernel_rfl) (fun _ _ _ _ _ => (bg_tup rfl (bgs_cons (bg_name (i := 6) sc_whole_product.nd) (bgs_cons (bg_name (i := 7) sc_whole_product.nd) bgs_nil)))) (fun _ _ _ _ _ => (bts_one (tNe (Room.units hr) (be_var 6) (EE.be ee_int)))) (fun _ _ _ _ _ => (eMul (be_var 6) (be_var 7))) (by decide))))) (by decide))) (by decide)))))))
theorem sc_equation_of : FnScope ["table", "now", "step", "rows", "by", "size", "found", "under", "told", "place", "one", "two"] ["table"] (defScope s_equation_of) := ⟨rfl, rfl, rfl, by decide +kernel, rfl, by decide +kernel, by decide +kernel⟩
theorem h_equation_of (T : Txt K mg) : HasFn P w K mg base 5 "equation_of" 1 f_equation_of := has_at (N := ["table", "now", "step", "rows", "by", "size", "found", "under", "told", "place", "one", "two"]) (ps := ["table"]) T.d_equation_of sc_equation_of fun f dra cdv A outer s H E hr => (by exact
  (bss_cons (bs_asg (ee_call (h_whole_table T) (hr.mono (by decide)) (takes_of rfl rfl rfl rfl) (ea_cons (BE.ee (be_var 0)) ea_nil) rfl (alen_cons alen_nil)) (bg_tup rfl (bgs_cons (bg_name (i := 3) sc_equation_of.nd) (bgs_cons (bg_name (i := 4) sc_equation_of.nd) bgs_nil))))
  (bss_cons (bs_parN rfl (NmS.cons (i := 5) sc_equation_of.nd (NmS.cons (i := 6) sc_equation_of.nd (NmS.cons (i := 7) sc_equation_of.nd NmS.nil))) (ea_cons (ee_len T.b_len (be_var 3)) (ea_cons (ee_lst (ea_cons (eGtup T.c_ONE) ea_nil)) (ea_cons ee_int ea_nil))))
  (bss_cons (bs_setO (i := 1) sc_equation_of.nd (ee_lc (own := [("one", 10)]) rfl sc_equation_of.nd (bi_rg1 T.b_range (be_var 5)) (by kernel_rfl) (fun _ _ _ _ _ => (bg_name (i := 10) sc_equation_of.nd)) (fun _ _ _ _ _ => bts_nil) (fun _ _ _ _ _ => (ee_lc (own := [("two", 11)]) rfl sc_equation_of.nd (bi_rg1 T.b_range (be_var 5)) (by kernel_rfl) (fun _ _ _ _ _ => (bg_name (i := 11) sc_equation_of.nd)) (fun _ _ _ _ _ => bts_nil) (fun _ _ _ _ _ => (eInt T.b_int (EE.be (eEq (Room.units hr) (be_var 10) (be_var 11))))) (by decide))) (by decide)))
  (bss_cons (bs_for PassesOwn.leaving rfl (bi_rg2 T.b_range (EE.be ee_int) (EE.be (eAdd (be_var 5) (EE.be ee_int)))) (bg_name (i := 2) sc_equation_of.nd) (bss_cons (bs_fz (i := 1) (bs_setO (i := 1) sc_equation_of.nd (ee_call (h_whole_product T) (hr.mono (by decide)) (takes_of rfl rfl rfl rfl) (ea_cons (BE.ee (be_var 3)) (ea_cons (BE.ee (be_var 1)) ea_nil)) rfl (alen_cons (alen_cons alen_nil)))))
  (bss_cons (bs_set (i := 8) sc_equation_of.nd (eFd (EE.be (ee_neg (EE.be (eSum rfl T.b_sum (EE.be (ee_lc (own := [("place", 9)]) rfl sc_equation_of.nd (bi_rg1 T.b_range (be_var 5)) (by kernel_rfl) (fun _ _ _ _ _ => (bg_name (i := 9) sc_equation_of.nd)) (fun _ _ _ _ _ => bts_nil) (fun _ _ _ _ _ => (BE.ee (be_ix (be_ix (be_var 1) (be_var 9)) (be_var 9)))) (by decide))))))) (be_var 2)))
  (bss_cons (bs_for PassesOwn.leaving rfl (bi_rg1 T.b_range (be_var 5)) (bg_name (i := 9) sc_equation_of.nd) (bss_one (sAug2 (i := 1) i2Add (be_var 9) (be_var 9) (BE.ee (be_var 8)))))
  (bss_cons (sAug (i := 7) sc_equation_of.nd i2Mul (BE.ee (be_var 4)))
  (bss_one (bs_app (i := 6) (ee_call (h_lowest T) (hr.mono (by decide)) (takes_of rfl rfl rfl rfl) (ea_cons (BE.ee (be_var 8)) (ea_cons (BE.ee (be_var 7)) ea_nil)) rfl (alen_cons (alen_cons alen_nil))))))))))
  (bss_one (bs_ret (EE.be (ee_tuple T.b_tuple (be_var 6))))))))))
theorem sc_equation : FnScope ["table"] ["table"] (defScope s_equation) := ⟨rfl, rfl, rfl, by decide +kernel, rfl, by decide +kernel, by decide +kernel⟩
theorem h_equation (T : Txt K mg) : HasFn P w K mg base 7 "equation" 1 f_equation := has_at (N := ["table"]) (ps := ["table"]) T.d_equation sc_equation fun f dra cdv A outer s H E hr => (by exact
  (bss_cons (bs_expr (EE.be (ee_call (h_check_table T) (hr.mono (by decide)) (takes_of rfl rfl rfl rfl) (ea_cons (BE.ee (be_var 0)) ea_nil) rfl (alen_cons alen_nil))))
  (bss_one (bs_ret (EE.be (ee_call (h_equation_of T) (hr.mono (by decide)) (takes_of rfl rfl rfl rfl) (ea_cons (BE.ee (be_var 0)) ea_nil) rfl (alen_cons alen_nil)))))))
theorem sc_pair_power : FnScope ["table", "pairs", "found", "size", "every", "one", "two", "row", "first", "second", "part"] ["table"] (defScope s_pair_power) := ⟨rfl, rfl, rfl, by decide +kernel, rfl, by decide +kernel, by decide +kernel⟩
theorem h_pair_power (T : Txt K mg) : HasFn P w K mg base 4 "pair_power" 1 f_pair_power := has_at (N := ["table", "pairs", "found", "size", "every", "one", "two", "row", "first", "second", "part"]) (ps := ["table"]) T.d_pair_power sc_pair_power fun f dra cdv A outer s H E hr => (by exact
  (bss_cons (bs_parN rfl (NmS.cons (i := 3) sc_pair_power.nd (NmS.cons (i := 4) sc_pair_power.nd NmS.nil)) (ea_cons (ee_len T.b_len (be_var 0)) (ea_cons (ee_listRg rfl T.b_list (brg1 T.b_range (EE.be (ee_len T.b_len (be_var 0))))) ea_nil)))
  (bss_cons (bs_fz (i := 4) (bs_setLc2 (i := 1) (own := [("one", 5), ("two", 6)]) (vs1 := [6]) rfl sc_pair_power.nd (sw_true rfl rfl rfl (by kernel_rfl)) (bi_any (BE.ee (be_var 4))) (by kernel_rfl) (by decide) (fun _ _ _ _ _ => (bg_name (i := 5) sc_pair_power.nd)) (fun _ _ _ _ _ => bts_nil) (fun _ _ _ _ _ => (bi_rg2 T.b_range (be_var 5) (be_var 3))) (fun _ _ _ _ _ => (bg_name (i := 6) sc_pair_power.nd)) (fun _ _ _ _ _ => bts_nil) (fun _ _ _ _ _ => (ee_tup (ea_cons (BE.ee (be_var 5)) (ea_cons (BE.ee (be_var 6)) ea_nil)))) (by decide) (by decide)))
  (bss_cons (bs_setO (i := 2) sc_pair_power.nd (ee_lst ea_nil))
  (bss_cons (bs_for PassesOwn.leaving rfl (bi_any (BE.ee (be_var 1))) (bg_tup rfl (bgs_cons (bg_name (i := 5) sc_pair_power.nd) (bgs_cons (bg_name (i := 6) sc_pair_power.nd) bgs_nil))) (bss_cons (bs_setO (i := 7) sc_pair_power.nd (ee_lst ea_nil))
  (bss_cons (bs_for PassesOwn.leaving rfl (bi_any (BE.ee (be_var 1))) (bg_tup rfl (bgs_cons (bg_name (i := 8) sc_pair_power.nd) (bgs_cons (bg_name (i := 9) sc_pair_power.nd) bgs_nil))) (bss_cons (bs_set (i := 10) sc_pair_power.nd (ee_call (h_times T) (hr.mono (by decide)) (takes_of rfl rfl rfl rfl) (ea_cons (BE.ee (be_ix (be_ix (be_var 0) (be_var 5)) (be_var 8))) (ea_cons (BE.ee (be_ix (be_ix (be_var 0) (be_var 6)) (be_var 9))) ea_nil)) rfl (alen_cons (alen_cons alen_nil))))
  (bss_one (bs_app (i := 7) (ee_if (tEq (Room.units hr) (be_var 8) (be_var 9)) (BE.ee (be_var 10)) (ee_call (h_plus T) (hr.mono (by decide)) (takes_of rfl rfl rfl rfl) (ea_cons (BE.ee (be_var 10)) (ea_cons (ee_call (h_times T) (hr.mono (by decide)) (takes_of rfl rfl rfl rfl) (ea_cons (BE.ee (be_ix (be_ix (be_var 0) (be_var 5)) (be_var 9))) (ea_cons (BE.ee (be_ix (be_ix (be_var 0) (be_var 6)) (be_var 8))) ea_nil)) rfl (alen_cons (alen_cons alen_nil))) ea_nil)) rfl (alen_cons (alen_cons alen_nil))))))))
  (bss_one (bs_app (i := 2) (ee_tuple T.b_tuple (be_var 7)))))))
  (bss_one (bs_ret (EE.be (ee_tuple T.b_tuple (be_var 2))))))))))
theorem sc_paired : FnScope ["table"] ["table"] (defScope s_paired) := ⟨rfl, rfl, rfl, by decide +kernel, rfl, by decide +kernel, by decide +kernel⟩
theorem h_paired (T : Txt K mg) : HasFn P w K mg base 7 "paired" 1 f_paired := has_at (N := ["table"]) (ps := ["table"]) T.d_paired sc_paired fun f dra cdv A outer s H E hr => (by exact
  (bss_cons (bs_expr (EE.be (ee_call (h_check_table T) (hr.mono (by decide)) (takes_of rfl rfl rfl rfl) (ea_cons (BE.ee (be_var 0)) ea_nil) rfl (alen_cons alen_nil))))
  (bss_one (bs_ret (EE.be (ee_call (h_pair_power T) (hr.mono (by decide)) (takes_of rfl rfl rfl rfl) (ea_cons (BE.ee (be_var 0)) ea_nil) rfl (alen_cons alen_nil)))))))
theorem sc_is_equation : FnScope ["value"] ["value"] (defScope s_is_equation) := ⟨rfl, rfl, rfl, by decide +kernel, rfl, by decide +kernel, by decide +kernel⟩
theorem h_is_equation (T : Txt K mg) : HasFn P w K mg base 4 "is_equation" 1 f_is_equation := has_at (N := ["value"]) (ps := ["value"]) T.d_is_equation sc_is_equation fun f dra cdv A outer s H E hr => (by exact
  (bss_cons (bs_if (BW.bt (bw_or (bt_not (bt_tru (EE.be (ee_isi isi_tuple T.b_isinstance T.b_tuple (by decide +kernel) (be_var 0))))) (bw_or1 (bt_not (tChain o2Lt o2Le (EE.be ee_int) (EE.be (ee_len T.b_len (be_var 0))) (EE.be (eAdd (EE.be (eGint T.c_MOST_DEGREE)) (EE.be ee_int)))))))) (bss_one (bs_ret (EE.be ee_bl))) bss_nil)
  (bss_one (bs_ret (EE.be (ee_and (EE.be (ee_call (h_is_row T) (hr.mono (by decide)) (takes_of rfl rfl rfl rfl) (ea_cons (ee_len T.b_len (be_var 0)) (ea_cons (BE.ee (be_var 0)) ea_nil)) rfl (alen_cons (alen_cons alen_nil)))) (ee_one (eEq (Room.units hr) (be_ix (be_var 0) (EE.be ee_int)) (EE.be (eGtup T.c_ONE))))))))))
theorem sc_check_equation : FnScope ["value"] ["value"] (defScope s_check_equation) := ⟨rfl, rfl, rfl, by decide +kernel, rfl, by decide +kernel, by decide +kernel⟩
theorem h_check_equation (T : Txt K mg) : HasFn P w K mg base 5 "check_equation" 1 f_check_equation := has_at (N := ["value"]) (ps := ["value"]) T.d_check_equation sc_check_equation fun f dra cdv A outer s H E hr => (by exact
  (bss_one (bs_if (bt_not (bt_tru (EE.be (ee_call (h_is_equation T) (hr.mono (by decide)) (takes_of rfl rfl rfl rfl) (ea_cons (BE.ee (be_var 0)) ea_nil) rfl (alen_cons alen_nil))))) (bss_one (bs_raise T.e_Malformed rfl (takes_of rfl rfl rfl rfl))) bss_nil)))
theorem sc_check_point : FnScope ["value"] ["value"] (defScope s_check_point) := ⟨rfl, rfl, rfl, by decide +kernel, rfl, by decide +kernel, by decide +kernel⟩
theorem h_check_point (T : Txt K mg) : HasFn P w K mg base 3 "check_point" 1 f_check_point := has_at (N := ["value"]) (ps := ["value"]) T.d_check_point sc_check_point fun f dra cdv A outer s H E hr => (by exact
  (bss_one (bs_if (bt_not (bt_tru (EE.be (ee_call (h_is_ratio T) (hr.mono (by decide)) (takes_of rfl rfl rfl rfl) (ea_cons (BE.ee (be_var 0)) ea_nil) rfl (alen_cons alen_nil))))) (bss_one (bs_raise T.e_Malformed rfl (takes_of rfl rfl rfl rfl))) bss_nil)))
theorem sc_value_at : FnScope ["told", "point", "found", "item"] ["told", "point"] (defScope s_value_at) := ⟨rfl, rfl, rfl, by decide +kernel, rfl, by decide +kernel, by decide +kernel⟩
theorem h_value_at (T : Txt K mg) : HasFn P w K mg base 6 "value_at" 2 f_value_at := has_at (N := ["told", "point", "found", "item"]) (ps := ["told", "point"]) T.d_value_at sc_value_at fun f dra cdv A outer s H E hr => (by exact
  (bss_cons (bs_expr (EE.be (ee_call (h_check_equation T) (hr.mono (by decide)) (takes_of rfl rfl rfl rfl) (ea_cons (BE.ee (be_var 0)) ea_nil) rfl (alen_cons alen_nil))))
  (bss_cons (bs_expr (EE.be (ee_call (h_check_point T) (hr.mono (by decide)) (takes_of rfl rfl rfl rfl) (ea_cons (BE.ee (be_var 1)) ea_nil) rfl (alen_cons alen_nil))))
  (bss_cons (bs_set (i := 2) sc_value_at.nd (eGtup T.c_ZERO))
  (bss_cons (bs_for PassesOwn.leaving rfl (bi_any (BE.ee (be_var 0))) (bg_name (i := 3) sc_value_at.nd) (bss_one (bs_set (i := 2) sc_value_at.nd (ee_call (h_plus T) (hr.mono (by decide)) (takes_of rfl rfl rfl rfl) (ea_cons (ee_call (h_times T) (hr.mono (by decide)) (takes_of rfl rfl rfl rfl) (ea_cons (BE.ee (be_var 2)) (ea_cons (BE.ee (be_var 1)) ea_nil)) rfl (alen_cons (alen_cons alen_nil))) (ea_cons (BE.ee (be_var 3)) ea_nil)) rfl (alen_cons (alen_cons alen_nil))))))
  (bss_one (bs_ret (be_var 2))))))))
theorem sc__law_low : FnScope ["n", "d", "a", "b"] ["n", "d"] (defScope s__law_low) := ⟨rfl, rfl, rfl, by decide +kernel, rfl, by decide +kernel, by decide +kernel⟩
theorem h__law_low (T : Txt K mg) : HasFn P w K mg base 1 "_law_low" 2 f__law_low := has_at (N := ["n", "d", "a", "b"]) (ps := ["n", "d"]) T.d__law_low sc__law_low fun f dra cdv A outer s H E hr => (by exact
  (bss_cons (bs_par2 (i := 2) (j := 3) rfl sc__law_low.nd (ea_cons (eAbs T.b_abs (be_var 0)) (ea_cons (eAbs T.b_abs (be_var 1)) ea_nil)) rfl)
  (bss_cons (bs_while (fuelAbs 3) PassesOwn.leaving (tNe (Room.units hr) (be_var 3) (EE.be ee_int)) (bss_one (bs_par2 (i := 2) (j := 3) rfl sc__law_low.nd (ea_cons (BE.ee (be_var 3)) (ea_cons (eMod (be_var 2) (be_var 3)) ea_nil)) rfl)))
  (bss_cons (bs_set (i := 2) sc__law_low.nd (ee_if (tGt (be_var 1) (EE.be ee_int)) (BE.ee (be_var 2)) (eSub (EE.be ee_int) (be_var 2))))
  (bss_one (bs_ret (EE.be (ee_tup (ea_cons (eFd (be_var 0) (be_var 2)) (ea_cons (eFd (be_var 1) (be_var 2)) ea_nil))))))))))
theorem sc__law_plus : FnScope ["a", "b"] ["a", "b"] (defScope s__law_plus) := ⟨rfl, rfl, rfl, by decide +kernel, rfl, by decide +kernel, by decide +kernel⟩
theorem h__law_plus (T : Txt K mg) : HasFn P w K mg base 2 "_law_plus" 2 f__law_plus := has_at (N := ["a", "b"]) (ps := ["a", "b"]) T.d__law_plus sc__law_plus fun f dra cdv A outer s H E hr => (by exact
  (bss_one (bs_ret (EE.be (ee_call (h__law_low T) (hr.mono (by decide)) (takes_of rfl rfl rfl rfl) (ea_cons (eAdd (EE.be (eMul (be_ix (be_var 0) (EE.be ee_int)) (be_ix (be_var 1) (EE.be ee_int)))) (EE.be (eMul (be_ix (be_var 1) (EE.be ee_int)) (be_ix (be_var 0) (EE.be ee_int))))) (ea_cons (eMul (be_ix (be_var 0) (EE.be ee_int)) (be_ix (be_var 1) (EE.be ee_int))) ea_nil)) rfl (alen_cons (alen_cons alen_nil)))))))
theorem sc__law_times : FnScope ["a", "b"] ["a", "b"] (defScope s__law_times) := ⟨rfl, rfl, rfl, by decide +kernel, rfl, by decide +kernel, by decide +kernel⟩
theorem h__law_times (T : Txt K mg) : HasFn P w K mg base 2 "_law_times" 2 f__law_times := has_at (N := ["a", "b"]) (ps := ["a", "b"]) T.d__law_times sc__law_times fun f dra cdv A outer s H E hr => (by exact
  (bss_one (bs_ret (EE.be (ee_call (h__law_low T) (hr.mono (by decide)) (takes_of rfl rfl rfl rfl) (ea_cons (eMul (be_ix (be_var 0) (EE.be ee_int)) (be_ix (be_var 1) (EE.be ee_int))) (ea_cons (eMul (be_ix (be_var 0) (EE.be ee_int)) (be_ix (be_var 1) (EE.be ee_int))) ea_nil)) rfl (alen_cons (alen_cons alen_nil)))))))
theorem sc__law_sum : FnScope ["items", "found", "item"] ["items"] (defScope s__law_sum) := ⟨rfl, rfl, rfl, by decide +kernel, rfl, by decide +kernel, by decide +kernel⟩
theorem h__law_sum (T : Txt K mg) : HasFn P w K mg base 3 "_law_sum" 1 f__law_sum := has_at (N := ["items", "found", "item"]) (ps := ["items"]) T.d__law_sum sc__law_sum fun f dra cdv A outer s H E hr => (by exact
  (bss_cons (bs_set (i := 1) sc__law_sum.nd (ee_tup (ea_cons ee_int (ea_cons ee_int ea_nil))))
  (bss_cons (bs_for PassesOwn.leaving rfl (bi_any (BE.ee (be_var 0))) (bg_name (i := 2) sc__law_sum.nd) (bss_one (bs_set (i := 1) sc__law_sum.nd (ee_call (h__law_plus T) (hr.mono (by decide)) (takes_of rfl rfl rfl rfl) (ea_cons (BE.ee (be_var 1)) (ea_cons (BE.ee (be_var 2)) ea_nil)) rfl (alen_cons (alen_cons alen_nil))))))
  (bss_one (bs_ret (be_var 1))))))
theorem sc__law_dot : FnScope ["one", "two", "a", "b"] ["one", "two"] (defScope s__law_dot) := ⟨rfl, rfl, rfl, by decide +kernel, rfl, by decide +kernel, by decide +kernel⟩
theorem h__law_dot (T : Txt K mg) : HasFn P w K mg base 4 "_law_dot" 2 f__law_dot := has_at (N := ["one", "two", "a", "b"]) (ps := ["one", "two"]) T.d__law_dot sc__law_dot fun f dra cdv A outer s H E hr => (by exact
  (bss_one (bs_ret (EE.be (ee_call (h__law_sum T) (hr.mono (by decide)) (takes_of rfl rfl rfl rfl) (ea_cons (ee_lc (own := [("a", 2), ("b", 3)]) rfl sc__law_dot.nd (bi_zip T.b_zip (ea_cons (BE.ee (be_var 0)) (ea_cons (BE.ee (be_var 1)) ea_nil))) (by kernel_rfl) (fun _ _ _ _ _ => (bg_tup rfl (bgs_cons (bg_name (i := 2) sc__law_dot.nd) (bgs_cons (bg_name (i := 3) sc__law_dot.nd) bgs_nil)))) (fun _ _ _ _ _ => bts_nil) (fun _ _ _ _ _ => (ee_call (h__law_times T) (hr.mono (by decide)) takes0 (ea_cons (BE.ee (be_var 2)) (ea_cons (BE.ee (be_var 3)) ea_nil)) rfl (alen_cons (alen_cons alen_nil)))) (by decide)) ea_nil) rfl (alen_cons alen_nil))))))
theorem sc__law_led : FnScope ["table", "row", "line"] ["table", "row"] (defScope s__law_led) := ⟨rfl, rfl, rfl, by decide +kernel, rfl, by decide +kernel, by decide +kernel⟩
theorem h__law_led (T : Txt K mg) : HasFn P w K mg base 5 "_law_led" 2 f__law_led := has_at (N := ["table", "row", "line"]) (ps := ["table", "row"]) T.d__law_led sc__law_led fun f dra cdv A outer s H E hr => (by exact
  (bss_one (bs_ret (EE.be (ee_tuple T.b_tuple (EE.be (ee_lc (own := [("line", 2)]) rfl sc__law_led.nd (bi_any (BE.ee (be_var 0))) (by kernel_rfl) (fun _ _ _ _ _ => (bg_name (i := 2) sc__law_led.nd)) (fun _ _ _ _ _ => bts_nil) (fun _ _ _ _ _ => (ee_call (h__law_dot T) (hr.mono (by decide)) takes0 (ea_cons (BE.ee (be_var 2)) (ea_cons (BE.ee (be_var 1)) ea_nil)) rfl (alen_cons (alen_cons alen_nil)))) (by decide))))))))
theorem sc__law_columns : FnScope ["table", "k", "line"] ["table"] (defScope s__law_columns) := ⟨rfl, rfl, rfl, by decide +kernel, rfl, by decide +kernel, by decide +kernel⟩
theorem h__law_columns (T : Txt K mg) : HasFn P w K mg base 1 "_law_columns" 1 f__law_columns := has_at (N := ["table", "k", "line"]) (ps := ["table"]) T.d__law_columns sc__law_columns fun f dra cdv A outer s H E hr => (by exact
  (bss_one (bs_ret (EE.be (ee_tuple T.b_tuple (EE.be (ee_lc (own := [("k", 1)]) rfl sc__law_columns.nd (bi_rg1 T.b_range (EE.be (ee_len T.b_len (be_ix (be_var 0) (EE.be ee_int))))) (by kernel_rfl) (fun _ _ _ _ _ => (bg_name (i := 1) sc__law_columns.nd)) (fun _ _ _ _ _ => bts_nil) (fun _ _ _ _ _ => (ee_tuple T.b_tuple (EE.be (ee_lc (own := [("line", 2)]) rfl sc__law_columns.nd (bi_any (BE.ee (be_var 0))) (by kernel_rfl) (fun _ _ _ _ _ => (bg_name (i := 2) sc__law_columns.nd)) (fun _ _ _ _ _ => bts_nil) (fun _ _ _ _ _ => (BE.ee (be_ix (be_var 2) (be_var 1)))) (by decide))))) (by decide))))))))
theorem sc__law_product : FnScope ["one", "two", "columns", "line", "column"] ["one", "two"] (defScope s__law_product) := ⟨rfl, rfl, rfl, by decide +kernel, rfl, by decide +kernel, by decide +kernel⟩
theorem h__law_product (T : Txt K mg) : HasFn P w K mg base 5 "_law_product" 2 f__law_product := has_at (N := ["one", "two", "columns", "line", "column"]) (ps := ["one", "two"]) T.d__law_product sc__law_product fun f dra cdv A outer s H E hr => (by exact
  (bss_cons (bs_set (i := 2) sc__law_product.nd (ee_call (h__law_columns T) (hr.mono (by decide)) (takes_of rfl rfl rfl rfl) (ea_cons (BE.ee (be_var 1)) ea_nil) rfl (alen_cons alen_nil)))
  (bss_one (bs_ret (EE.be (ee_tuple T.b_tuple (EE.be (ee_lc (own := [("line", 3)]) rfl sc__law_product.nd (bi_any (BE.ee (be_var 0))) (by kernel_rfl) (fun _ _ _ _ _ => (bg_name (i := 3) sc__law_product.nd)) (fun _ _ _ _ _ => bts_nil) (fun _ _ _ _ _ => (ee_tuple T.b_tuple (EE.be (ee_lc (own := [("column", 4)]) rfl sc__law_product.nd (bi_any (BE.ee (be_var 2))) (by kernel_rfl) (fun _ _ _ _ _ => (bg_name (i := 4) sc__law_product.nd)) (fun _ _ _ _ _ => bts_nil) (fun _ _ _ _ _ => (ee_call (h__law_dot T) (hr.mono (by decide)) takes0 (ea_cons (BE.ee (be_var 3)) (ea_cons (BE.ee (be_var 4)) ea_nil)) rfl (alen_cons (alen_cons alen_nil)))) (by decide))))) (by decide)))))))))
theorem sc__law_number : FnScope ["draw"] ["draw"] (defScope s__law_number) := ⟨rfl, rfl, rfl, by decide +kernel, rfl, by decide +kernel, by decide +kernel⟩
theorem h__law_number (T : Txt K mg) : HasFn P w K mg base 2 "_law_number" 1 f__law_number := has_at (N := ["draw"]) (ps := ["draw"]) T.d__law_number sc__law_number fun f dra cdv A outer s H E hr => (by exact
  (bss_one (bs_ret (EE.be (ee_if (tGt (EE.be (ee_call (h__law_take T) (hr.mono (by decide)) (takes_of rfl rfl rfl rfl) (ea_cons (BE.ee (be_var 0)) (ea_cons ee_int ea_nil)) rfl (alen_cons (alen_cons alen_nil)))) (EE.be ee_int)) (ee_call (h__law_low T) (hr.mono (by decide)) (takes_of rfl rfl rfl rfl) (ea_cons (eSub (EE.be (ee_call (h__law_take T) (hr.mono (by decide)) (takes_of rfl rfl rfl rfl) (ea_cons (BE.ee (be_var 0)) (ea_cons ee_int ea_nil)) rfl (alen_cons (alen_cons alen_nil)))) (EE.be ee_int)) (ea_cons (BE.ee (be_ix (EE.be (ee_lst (ea_cons ee_int (ea_cons ee_int (ea_cons ee_int (ea_cons ee_int (ea_cons ee_int ea_nil))))))) (EE.be (ee_call (h__law_take T) (hr.mono (by decide)) (takes_of rfl rfl rfl rfl) (ea_cons (BE.ee (be_var 0)) (ea_cons ee_int ea_nil)) rfl (alen_cons (alen_cons alen_nil)))))) ea_nil)) rfl (alen_cons (alen_cons alen_nil))) (ee_tup (ea_cons ee_int (ea_cons ee_int ea_nil))))))))
theorem sc__law_row : FnScope ["draw", "size", "k"] ["draw", "size"] (defScope s__law_row) := ⟨rfl, rfl, rfl, by decide +kernel, rfl, by decide +kernel, by decide +kernel⟩
theorem h__law_row (T : Txt K mg) : HasFn P w K mg base 3 "_law_row" 2 f__law_row := has_at (N := ["draw", "size", "k"]) (ps := ["draw", "size"]) T.d__law_row sc__law_row fun f dra cdv A outer s H E hr => (by exact
  (bss_one (bs_ret (EE.be (ee_tuple T.b_tuple (EE.be (ee_lc (own := [("k", 2)]) rfl sc__law_row.nd (bi_rg1 T.b_range (be_var 1)) (by kernel_rfl) (fun _ _ _ _ _ => (bg_name (i := 2) sc__law_row.nd)) (fun _ _ _ _ _ => bts_nil) (fun _ _ _ _ _ => (ee_call (h__law_number T) (hr.mono (by decide)) takes0 (ea_cons (BE.ee (be_var 0)) ea_nil) rfl (alen_cons alen_nil))) (by decide))))))))
theorem sc__law_table : FnScope ["draw", "size", "kind", "rows", "at", "k", "one", "line", "two"] ["draw", "size"] (defScope s__law_table) := ⟨rfl, rfl, rfl, by decide +kernel, rfl, by decide +kernel, by decide +kernel⟩
theorem h__law_table (T : Txt K mg) : HasFn P w K mg base 4 "_law_table" 2 f__law_table := has_at (N := ["draw", "size", "kind", "rows", "at", "k", "one", "line", "two"]) (ps := ["draw", "size"]) T.d__law_table sc__law_table fun f dra cdv A outer s H E hr => (by exact
  (bss_cons (bs_set (i := 2) sc__law_table.nd (ee_call (h__law_take T) (hr.mono (by decide)) (takes_of rfl rfl rfl rfl) (ea_cons (BE.ee (be_var 0)) (ea_cons ee_int ea_nil)) rfl (alen_cons (alen_cons alen_nil))))
  (bss_cons (bs_set (i := 3) sc__law_table.nd (ee_lc (own := [("k", 5)]) rfl sc__law_table.nd (bi_rg1 T.b_range (be_var 1)) (by kernel_rfl) (fun _ _ _ _ _ => (bg_name (i := 5) sc__law_table.nd)) (fun _ _ _ _ _ => bts_nil) (fun _ _ _ _ _ => (ee_list T.b_list (EE.be (ee_call (h__law_row T) (hr.mono (by decide)) takes0 (ea_cons (BE.ee (be_var 0)) (ea_cons (BE.ee (be_var 1)) ea_nil)) rfl (alen_cons (alen_cons alen_nil)))))) (by decide)))
  (bss_cons (bs_if (tEq (Room.units hr) (be_var 2) (EE.be ee_int)) (bss_one (bs_set (i := 3) sc__law_table.nd (ee_lc (own := [("one", 6)]) rfl sc__law_table.nd (bi_rg1 T.b_range (be_var 1)) (by kernel_rfl) (fun _ _ _ _ _ => (bg_name (i := 6) sc__law_table.nd)) (fun _ _ _ _ _ => bts_nil) (fun _ _ _ _ _ => (ee_lc (own := [("two", 8)]) rfl sc__law_table.nd (bi_rg1 T.b_range (be_var 1)) (by kernel_rfl) (fun _ _ _ _ _ => (bg_name (i := 8) sc__law_table.nd)) (fun _ _ _ _ _ => bts_nil) (fun _ _ _ _ _ => (ee_if (tGt (be_var 8) (be_var 6)) (BE.ee (be_ix (be_ix (be_var 3) (be_var 6)) (be_var 8))) (ee_tup (ea_cons ee_int (ea_cons ee_int ea_nil))))) (by decide))) (by decide)))) bss_nil)
  (bss_cons (bs_if (tEq (Room.units hr) (be_var 2) (EE.be ee_int)) (bss_one (bs_set (i := 3) sc__law_table.nd (ee_lc (own := [("one", 6)]) rfl sc__law_table.nd (bi_rg1 T.b_range (be_var 1)) (by kernel_rfl) (fun _ _ _ _ _ => (bg_name (i := 6) sc__law_table.nd)) (fun _ _ _ _ _ => bts_nil) (fun _ _ _ _ _ => (ee_lc (own := [("two", 8)]) rfl sc__law_table.nd (bi_rg1 T.b_range (be_var 1)) (by kernel_rfl) (fun _ _ _ _ _ => (bg_name (i := 8) sc__law_table.nd)) (fun _ _ _ _ _ => bts_nil) (fun _ _ _ _ _ => (ee_if (tGe (be_var 8) (be_var 6)) (BE.ee (be_ix (be_ix (be_var 3) (be_var 6)) (be_var 8))) (ee_tup (ea_cons ee_int (ea_cons ee_int ea_nil))))) (by decide))) (by decide)))) bss_nil)
  (bss_cons (bs_if (tEq (Room.units hr) (be_var 2) (EE.be ee_int)) (bss_cons (bs_set (i := 4) sc__law_table.nd (ee_lc (own := [("k", 5)]) rfl sc__law_table.nd (bi_rg1 T.b_range (be_var 1)) (by kernel_rfl) (fun _ _ _ _ _ => (bg_name (i := 5) sc__law_table.nd)) (fun _ _ _ _ _ => bts_nil) (fun _ _ _ _ _ => (ee_call (h__law_take T) (hr.mono (by decide)) takes0 (ea_cons (BE.ee (be_var 0)) (ea_cons (BE.ee (be_var 1)) ea_nil)) rfl (alen_cons (alen_cons alen_nil)))) (by decide)))
  (bss_one (bs_set (i := 3) sc__law_table.nd (ee_lc (own := [("one", 6)]) rfl sc__law_table.nd (bi_rg1 T.b_range (be_var 1)) (by kernel_rfl) (fun _ _ _ _ _ => (bg_name (i := 6) sc__law_table.nd)) (fun _ _ _ _ _ => bts_nil) (fun _ _ _ _ _ => (ee_lc (own := [("two", 8)]) rfl sc__law_table.nd (bi_rg1 T.b_range (be_var 1)) (by kernel_rfl) (fun _ _ _ _ _ => (bg_name (i := 8) sc__law_table.nd)) (fun _ _ _ _ _ => bts_nil) (fun _ _ _ _ _ => (ee_if (tEq (Room.units hr) (be_var 8) (be_ix (be_var 4) (be_var 6))) (BE.ee (be_ix (be_ix (be_var 3) (be_var 6)) (be_var 8))) (ee_tup (ea_cons ee_int (ea_cons ee_int ea_nil))))) (by decide))) (by decide))))) bss_nil)
  (bss_cons (bs_if (BW.bt (bw_and (tEq (Room.units hr) (be_var 2) (EE.be ee_int)) (bw_and1 (tEq (Room.units hr) (EE.be (ee_call (h__law_take T) (hr.mono (by decide)) (takes_of rfl rfl rfl rfl) (ea_cons (BE.ee (be_var 0)) (ea_cons ee_int ea_nil)) rfl (alen_cons (alen_cons alen_nil)))) (EE.be ee_int))))) (bss_one (bs_set (i := 3) sc__law_table.nd (ee_lc (own := [("k", 5)]) rfl sc__law_table.nd (bi_rg1 T.b_range (be_var 1)) (by kernel_rfl) (fun _ _ _ _ _ => (bg_name (i := 5) sc__law_table.nd)) (fun _ _ _ _ _ => bts_nil) (fun _ _ _ _ _ => (eMul (EE.be (ee_lst (ea_cons (ee_tup (ea_cons ee_int (ea_cons ee_int ea_nil))) ea_nil))) (be_var 1))) (by decide)))) bss_nil)
  (bss_one (bs_ret (EE.be (ee_tuple T.b_tuple (EE.be (ee_lc (own := [("line", 7)]) rfl sc__law_table.nd (bi_any (BE.ee (be_var 3))) (by kernel_rfl) (fun _ _ _ _ _ => (bg_name (i := 7) sc__law_table.nd)) (fun _ _ _ _ _ => bts_nil) (fun _ _ _ _ _ => (ee_tuple T.b_tuple (be_var 7))) (by decide))))))))))))))
theorem sc__law_products : FnScope ["row", "found", "one", "two"] ["row"] (defScope s__law_products) := ⟨rfl, rfl, rfl, by decide +kernel, rfl, by decide +kernel, by decide +kernel⟩
theorem h__law_products (T : Txt K mg) : HasFn P w K mg base 3 "_law_products" 1 f__law_products := has_at (N := ["row", "found", "one", "two"]) (ps := ["row"]) T.d__law_products sc__law_products fun f dra cdv A outer s H E hr => (by exact
  (bss_cons (bs_set (i := 1) sc__law_products.nd (ee_lst ea_nil))
  (bss_cons (bs_for PassesOwn.leaving rfl (bi_rg1 T.b_range (EE.be (ee_len T.b_len (be_var 0)))) (bg_name (i := 2) sc__law_products.nd) (bss_one (bs_set (i := 1) sc__law_products.nd (eAdd (be_var 1) (EE.be (ee_lc (own := [("two", 3)]) rfl sc__law_products.nd (bi_rg2 T.b_range (be_var 2) (EE.be (ee_len T.b_len (be_var 0)))) (by kernel_rfl) (fun _ _ _ _ _ => (bg_name (i := 3) sc__law_products.nd)) (fun _ _ _ _ _ => bts_nil) (fun _ _ _ _ _ => (ee_call (h__law_times T) (hr.mono (by decide)) takes0 (ea_cons (BE.ee (be_ix (be_var 0) (be_var 2))) (ea_cons (BE.ee (be_ix (be_var 0) (be_var 3))) ea_nil)) rfl (alen_cons (alen_cons alen_nil)))) (by decide)))))))
  (bss_one (bs_ret (EE.be (ee_tuple T.b_tuple (be_var 1))))))))
theorem sc__law_ask : FnScope ["which", "one", "two"] ["which", "one", "two"] (defScope s__law_ask) := ⟨rfl, rfl, rfl, by decide +kernel, rfl, by decide +kernel, by decide +kernel⟩
theorem h__law_ask (T : Txt K mg) : HasFn P w K mg base 8 "_law_ask" 3 f__law_ask := has_at (N := ["which", "one", "two"]) (ps := ["which", "one", "two"]) T.d__law_ask sc__law_ask fun f dra cdv A outer s H E hr => (by exact
  (bss_one (sTry T.x_Malformed (takes_of rfl rfl rfl rfl) (fun _ _ _ tk1 po1 => (bss_one (bs_ret (EE.be (ee_if (tEq (Room.units hr) (be_var 0) (EE.be ee_int)) (ee_call (h_value_at T) (hr.mono (by decide)) tk1 (ea_cons (BE.ee (be_var 1)) (ea_cons (BE.ee (be_var 2)) ea_nil)) rfl (alen_cons (alen_cons alen_nil))) (ee_callE (k := 7) (n := 1) (HasT.cons ((h_equation T).mono (by decide)) (HasT.cons ((h_paired T).mono (by decide)) HasT.nil)) (hr.mono (by decide)) tk1 (be_ix (EE.be (ee_lst (ea_cons (ee_fn (h_equation T)) (ea_cons (ee_fn (h_paired T)) ea_nil)))) (be_var 0)) (ea_cons (BE.ee (be_var 1)) ea_nil) (alen_cons alen_nil))))))) (fun _ _ => (bss_one (bs_ret (EE.be ee_str)))))))
theorem sc__law_orders : FnScope ["many", "found", "turn", "longer", "row", "sign", "place", "behind", "other"] ["many"] (defScope s__law_orders) := ⟨rfl, rfl, rfl, by decide +kernel, rfl, by decide +kernel, by decide +kernel⟩
theorem h__law_orders (T : Txt K mg) : HasFn P w K mg base 1 "_law_orders" 1 f__law_orders := has_at (N := ["many", "found", "turn", "longer", "row", "sign", "place", "behind", "other"]) (ps := ["many"]) T.d__law_orders sc__law_orders fun f dra cdv A outer s H E hr => (by exact
  (bss_cons (bs_set (i := 1) sc__law_orders.nd (ee_lst (ea_cons (ee_tup (ea_cons (ee_tup ea_nil) (ea_cons ee_int ea_nil))) ea_nil)))
  (bss_cons (bs_for PassesOwn.leaving rfl (bi_rg1 T.b_range (be_var 0)) (bg_name (i := 2) sc__law_orders.nd) (bss_cons (bs_setO (i := 3) sc__law_orders.nd (ee_lst ea_nil))
  (bss_cons (bs_for PassesOwn.leaving rfl (bi_any (ee_list T.b_list (be_var 1))) (bg_tup rfl (bgs_cons (bg_name (i := 4) sc__law_orders.nd) (bgs_cons (bg_name (i := 5) sc__law_orders.nd) bgs_nil))) (bss_one (bs_for PassesOwn.leaving rfl (bi_rg1 T.b_range (be_var 0)) (bg_name (i := 6) sc__law_orders.nd) (bss_one (bs_if (tNin (DL.Room.u65 hr) (be_var 6) (be_var 4)) (bss_cons (bs_set (i := 7) sc__law_orders.nd (ee_len T.b_len (EE.be (ee_lc (own := [("other", 8)]) rfl sc__law_orders.nd (bi_any (BE.ee (be_var 4))) (by kernel_rfl) (fun _ _ _ _ _ => (bg_name (i := 8) sc__law_orders.nd)) (fun _ _ _ _ _ => (bts_one (tGt (be_var 8) (be_var 6)))) (fun _ _ _ _ _ => (BE.ee (be_var 8))) (by decide)))))
  (bss_one (bs_app (i := 3) (ee_tup (ea_cons (eAdd (be_var 4) (EE.be (ee_tup (ea_cons (BE.ee (be_var 6)) ea_nil)))) (ea_cons (eMul (be_var 5) (EE.be (eSub (EE.be ee_int) (EE.be (eMul (EE.be ee_int) (EE.be (eMod (be_var 7) (EE.be ee_int)))))))) ea_nil)))))) bss_nil)))))
  (bss_one (bs_fz (i := 3) (bs_set (i := 1) sc__law_orders.nd (BE.ee (be_var 3))))))))
  (bss_one (bs_ret (be_var 1))))))
theorem sc__law_times_all : FnScope ["one", "two", "found", "j", "k"] ["one", "two"] (defScope s__law_times_all) := ⟨rfl, rfl, rfl, by decide +kernel, rfl, by decide +kernel, by decide +kernel⟩
theorem h__law_times_all (T : Txt K mg) : HasFn P w K mg base 3 "_law_times_all" 2 f__law_times_all := has_at (N := ["one", "two", "found", "j", "k"]) (ps := ["one", "two"]) T.d__law_times_all sc__law_times_all fun f dra cdv A outer s H E hr => (by exact
  (bss_cons (bs_setO (i := 2) sc__law_times_all.nd (eMul (EE.be (ee_lst (ea_cons (ee_tup (ea_cons ee_int (ea_cons ee_int ea_nil))) ea_nil))) (EE.be (eSub (EE.be (eAdd (EE.be (ee_len T.b_len (be_var 0))) (EE.be (ee_len T.b_len (be_var 1))))) (EE.be ee_int)))))
  (bss_cons (bs_for PassesOwn.leaving rfl (bi_rg1 T.b_range (EE.be (ee_len T.b_len (be_var 0)))) (bg_name (i := 3) sc__law_times_all.nd) (bss_one (bs_for PassesOwn.leaving rfl (bi_rg1 T.b_range (EE.be (ee_len T.b_len (be_var 1)))) (bg_name (i := 4) sc__law_times_all.nd) (bss_one (bs_setIx (i := 2) (ee_call (h__law_plus T) (hr.mono (by decide)) (takes_of rfl rfl rfl rfl) (ea_cons (BE.ee (be_ix (be_var 2) (EE.be (eAdd (be_var 3) (be_var 4))))) (ea_cons (ee_call (h__law_times T) (hr.mono (by decide)) (takes_of rfl rfl rfl rfl) (ea_cons (BE.ee (be_ix (be_var 0) (be_var 3))) (ea_cons (BE.ee (be_ix (be_var 1) (be_var 4))) ea_nil)) rfl (alen_cons (alen_cons alen_nil))) ea_nil)) rfl (alen_cons (alen_cons alen_nil))) (EE.be (eAdd (be_var 3) (be_var 4))))))))
  (bss_one (bs_ret (be_var 2))))))
theorem sc__law_due : FnScope ["table", "size", "whole", "row", "sign", "part", "k", "item"] ["table"] (defScope s__law_due) := ⟨rfl, rfl, rfl, by decide +kernel, rfl, by decide +kernel, by decide +kernel⟩
theorem h__law_due (T : Txt K mg) : HasFn P w K mg base 4 "_law_due" 1 f__law_due := has_at (N := ["table", "size", "whole", "row", "sign", "part", "k", "item"]) (ps := ["table"]) T.d__law_due sc__law_due fun f dra cdv A outer s H E hr => (by exact
  (bss_cons (bs_set (i := 1) sc__law_due.nd (ee_len T.b_len (be_var 0)))
  (bss_cons (bs_set (i := 2) sc__law_due.nd (eMul (EE.be (ee_lst (ea_cons (ee_tup (ea_cons ee_int (ea_cons ee_int ea_nil))) ea_nil))) (EE.be (eAdd (be_var 1) (EE.be ee_int)))))
  (bss_cons (bs_for PassesOwn.leaving rfl (bi_any (ee_call (h__law_orders T) (hr.mono (by decide)) (takes_of rfl rfl rfl rfl) (ea_cons (BE.ee (be_var 1)) ea_nil) rfl (alen_cons alen_nil))) (bg_tup rfl (bgs_cons (bg_name (i := 3) sc__law_due.nd) (bgs_cons (bg_name (i := 4) sc__law_due.nd) bgs_nil))) (bss_cons (bs_set (i := 5) sc__law_due.nd (ee_lst (ea_cons (ee_tup (ea_cons (BE.ee (be_var 4)) (ea_cons ee_int ea_nil))) ea_nil)))
  (bss_cons (bs_for PassesOwn.leaving rfl (bi_rg1 T.b_range (be_var 1)) (bg_name (i := 6) sc__law_due.nd) (bss_cons (bs_set (i := 7) sc__law_due.nd (BE.ee (be_ix (be_ix (be_var 0) (be_var 6)) (be_ix (be_var 3) (be_var 6)))))
  (bss_one (bs_set (i := 5) sc__law_due.nd (ee_call (h__law_times_all T) (hr.mono (by decide)) (takes_of rfl rfl rfl rfl) (ea_cons (BE.ee (be_var 5)) (ea_cons (ee_if (tEq (Room.units hr) (be_ix (be_var 3) (be_var 6)) (be_var 6)) (ee_lst (ea_cons (ee_tup (ea_cons (eSub (EE.be ee_int) (be_ix (be_var 7) (EE.be ee_int))) (ea_cons (BE.ee (be_ix (be_var 7) (EE.be ee_int))) ea_nil))) (ea_cons (ee_tup (ea_cons ee_int (ea_cons ee_int ea_nil))) ea_nil))) (ee_lst (ea_cons (ee_tup (ea_cons (eSub (EE.be ee_int) (be_ix (be_var 7) (EE.be ee_int))) (ea_cons (BE.ee (be_ix (be_var 7) (EE.be ee_int))) ea_nil))) ea_nil))) ea_nil)) rfl (alen_cons (alen_cons alen_nil)))))))
  (bss_one (bs_set (i := 2) sc__law_due.nd (ee_lc (own := [("k", 6)]) rfl sc__law_due.nd (bi_rg1 T.b_range (EE.be (eAdd (be_var 1) (EE.be ee_int)))) (by kernel_rfl) (fun _ _ _ _ _ => (bg_name (i := 6) sc__law_due.nd)) (fun _ _ _ _ _ => bts_nil) (fun _ _ _ _ _ => (ee_call (h__law_plus T) (hr.mono (by decide)) takes0 (ea_cons (BE.ee (be_ix (be_var 2) (be_var 6))) (ea_cons (ee_if (tLt (be_var 6) (EE.be (ee_len T.b_len (be_var 5)))) (BE.ee (be_ix (be_var 5) (be_var 6))) (ee_tup (ea_cons ee_int (ea_cons ee_int ea_nil)))) ea_nil)) rfl (alen_cons (alen_cons alen_nil)))) (by decide)))))))
  (bss_one (bs_ret (EE.be (ee_tuple T.b_tuple (EE.be (ee_rev (BE.ee (be_var 2))))))))))))
theorem sc__law_power : FnScope ["told", "point", "item", "found", "power"] ["told", "point"] (defScope s__law_power) := ⟨rfl, rfl, rfl, by decide +kernel, rfl, by decide +kernel, by decide +kernel⟩
theorem h__law_power (T : Txt K mg) : HasFn P w K mg base 3 "_law_power" 2 f__law_power := has_at (N := ["told", "point", "item", "found", "power"]) (ps := ["told", "point"]) T.d__law_power sc__law_power fun f dra cdv A outer s H E hr => (by exact
  (bss_cons (bs_parN rfl (NmS.cons (i := 3) sc__law_power.nd (NmS.cons (i := 4) sc__law_power.nd NmS.nil)) (ea_cons (ee_tup (ea_cons ee_int (ea_cons ee_int ea_nil))) (ea_cons (ee_tup (ea_cons ee_int (ea_cons ee_int ea_nil))) ea_nil)))
  (bss_cons (bs_for PassesOwn.leaving rfl (bi_any (ee_rev (BE.ee (be_var 0)))) (bg_name (i := 2) sc__law_power.nd) (bss_one (bs_par2 (i := 3) (j := 4) rfl sc__law_power.nd (ea_cons (ee_call (h__law_plus T) (hr.mono (by decide)) (takes_of rfl rfl rfl rfl) (ea_cons (BE.ee (be_var 3)) (ea_cons (ee_call (h__law_times T) (hr.mono (by decide)) (takes_of rfl rfl rfl rfl) (ea_cons (BE.ee (be_var 2)) (ea_cons (BE.ee (be_var 4)) ea_nil)) rfl (alen_cons (alen_cons alen_nil))) ea_nil)) rfl (alen_cons (alen_cons alen_nil))) (ea_cons (ee_call (h__law_times T) (hr.mono (by decide)) (takes_of rfl rfl rfl rfl) (ea_cons (BE.ee (be_var 4)) (ea_cons (BE.ee (be_var 1)) ea_nil)) rfl (alen_cons (alen_cons alen_nil))) ea_nil)) rfl)))
  (bss_one (bs_ret (be_var 3))))))
theorem sc_law : FnScope ["script", "draw", "turn", "long", "odd", "asked", "size", "again", "one", "two", "told", "pairs", "value", "row", "point", "k"] ["script"] (defScope s_law) := ⟨rfl, rfl, rfl, by decide +kernel, rfl, by decide +kernel, by decide +kernel⟩
theorem ok_law {f : Addr} {fd : FuncData} (T : Txt K mg) (Fu : Fun K "law" "law" s_law f fd) : FnOk P w K mg base (L2.CX P w) 10 f fd ["script"] (spLaw K 16 1 m_law) :=
  law_fn (N := ["script", "draw", "turn", "long", "odd", "asked", "size", "again", "one", "two", "told", "pairs", "value", "row", "point", "k"]) (k := 9) (i := 1) (R := m_law) Fu sc_law fun f cdv A outer s H E hr => (by exact law_body (i := 1) (n := 16) rfl sc_law.nd (by decide) (by decide) (h_draw T) (hr.mono (by decide)) (takes_of rfl rfl rfl rfl) rfl (by first | exact Or.inl rfl | exact Or.inr rfl) (.inl rfl) rfl (by first | exact Or.inl rfl | exact Or.inr (Or.inl rfl)) (by decide) (by decide) (by rfl) rfl rfl rfl fun dra =>
  (bss_cons (bs_for PassesOwn.leaving rfl (bi_rg1 T.b_range (EE.be ee_int)) (bg_name (i := 2) sc_law.nd) (bss_cons (bs_set (i := 6) sc_law.nd (eAdd (EE.be ee_int) (EE.be (ee_call (h__law_take T) (hr.mono (by decide)) (takes_of rfl rfl rfl rfl) (ea_cons (BE.ee (be_var 1)) (ea_cons ee_int ea_nil)) rfl (alen_cons (alen_cons alen_nil))))))
  (bss_cons (bs_par2 (i := 8) (j := 9) rfl sc_law.nd (ea_cons (ee_call (h__law_table T) (hr.mono (by decide)) (takes_of rfl rfl rfl rfl) (ea_cons (BE.ee (be_var 1)) (ea_cons (BE.ee (be_var 6)) ea_nil)) rfl (alen_cons (alen_cons alen_nil))) (ea_cons (ee_call (h__law_table T) (hr.mono (by decide)) (takes_of rfl rfl rfl rfl) (ea_cons (BE.ee (be_var 1)) (ea_cons (BE.ee (be_var 6)) ea_nil)) rfl (alen_cons (alen_cons alen_nil))) ea_nil)) rfl)
  (bss_cons (bs_parN rfl (NmS.cons (i := 10) sc_law.nd (NmS.cons (i := 11) sc_law.nd NmS.nil)) (ea_cons (ee_call (h__law_ask T) (hr.mono (by decide)) (takes_of rfl rfl rfl rfl) (ea_cons ee_int (ea_cons (BE.ee (be_var 8)) (ea_cons ee_non ea_nil))) rfl (alen_cons (alen_cons (alen_cons alen_nil)))) (ea_cons (ee_call (h__law_ask T) (hr.mono (by decide)) (takes_of rfl rfl rfl rfl) (ea_cons ee_int (ea_cons (BE.ee (be_var 8)) (ea_cons ee_non ea_nil))) rfl (alen_cons (alen_cons (alen_cons alen_nil)))) ea_nil)))
  (bss_cons (bs_if (BW.bt (bw_or (tNe (Room.units hr) (be_var 10) (EE.be (ee_call (h__law_due T) (hr.mono (by decide)) (takes_of rfl rfl rfl rfl) (ea_cons (BE.ee (be_var 8)) ea_nil) rfl (alen_cons alen_nil)))) (bw_or1 (tNe (Room.units hr) (EE.be (ee_call (h__law_ask T) (hr.mono (by decide)) (takes_of rfl rfl rfl rfl) (ea_cons ee_int (ea_cons (ee_call (h__law_columns T) (hr.mono (by decide)) (takes_of rfl rfl rfl rfl) (ea_cons (BE.ee (be_var 8)) ea_nil) rfl (alen_cons alen_nil)) (ea_cons ee_non ea_nil))) rfl (alen_cons (alen_cons (alen_cons alen_nil))))) (be_var 10))))) (bss_one (bs_ret (EE.be ee_bl))) bss_nil)
  (bss_cons (bs_if (tNe (Room.units hr) (EE.be (ee_call (h__law_ask T) (hr.mono (by decide)) (takes_of rfl rfl rfl rfl) (ea_cons ee_int (ea_cons (ee_call (h__law_product T) (hr.mono (by decide)) (takes_of rfl rfl rfl rfl) (ea_cons (BE.ee (be_var 8)) (ea_cons (BE.ee (be_var 9)) ea_nil)) rfl (alen_cons (alen_cons alen_nil))) (ea_cons ee_non ea_nil))) rfl (alen_cons (alen_cons (alen_cons alen_nil))))) (EE.be (ee_call (h__law_ask T) (hr.mono (by decide)) (takes_of rfl rfl rfl rfl) (ea_cons ee_int (ea_cons (ee_call (h__law_product T) (hr.mono (by decide)) (takes_of rfl rfl rfl rfl) (ea_cons (BE.ee (be_var 9)) (ea_cons (BE.ee (be_var 8)) ea_nil)) rfl (alen_cons (alen_cons alen_nil))) (ea_cons ee_non ea_nil))) rfl (alen_cons (alen_cons (alen_cons alen_nil)))))) (bss_one (bs_ret (EE.be ee_bl))) bss_nil)
  (bss_cons (bs_for PassesOwn.leaving rfl (bi_rg1 T.b_range (EE.be ee_int)) (bg_name (i := 7) sc_law.nd) (bss_cons (bs_par2 (i := 13) (j := 14) rfl sc_law.nd (ea_cons (ee_call (h__law_row T) (hr.mono (by decide)) (takes_of rfl rfl rfl rfl) (ea_cons (BE.ee (be_var 1)) (ea_cons (BE.ee (be_var 6)) ea_nil)) rfl (alen_cons (alen_cons alen_nil))) (ea_cons (ee_call (h__law_low T) (hr.mono (by decide)) (takes_of rfl rfl rfl rfl) (ea_cons (eSub (EE.be (ee_call (h__law_take T) (hr.mono (by decide)) (takes_of rfl rfl rfl rfl) (ea_cons (BE.ee (be_var 1)) (ea_cons ee_int ea_nil)) rfl (alen_cons (alen_cons alen_nil)))) (EE.be ee_int)) (ea_cons (eAdd (EE.be ee_int) (EE.be (ee_call (h__law_take T) (hr.mono (by decide)) (takes_of rfl rfl rfl rfl) (ea_cons (BE.ee (be_var 1)) (ea_cons ee_int ea_nil)) rfl (alen_cons (alen_cons alen_nil))))) ea_nil)) rfl (alen_cons (alen_cons alen_nil))) ea_nil)) rfl)
  (bss_one (bs_if (BW.bt (bw_or (tNe (Room.units hr) (EE.be (ee_call (h__law_led T) (hr.mono (by decide)) (takes_of rfl rfl rfl rfl) (ea_cons (BE.ee (be_var 11)) (ea_cons (ee_call (h__law_products T) (hr.mono (by decide)) (takes_of rfl rfl rfl rfl) (ea_cons (BE.ee (be_var 13)) ea_nil) rfl (alen_cons alen_nil)) ea_nil)) rfl (alen_cons (alen_cons alen_nil)))) (EE.be (ee_call (h__law_products T) (hr.mono (by decide)) (takes_of rfl rfl rfl rfl) (ea_cons (ee_call (h__law_led T) (hr.mono (by decide)) (takes_of rfl rfl rfl rfl) (ea_cons (BE.ee (be_var 8)) (ea_cons (BE.ee (be_var 13)) ea_nil)) rfl (alen_cons (alen_cons alen_nil))) ea_nil) rfl (alen_cons alen_nil)))) (bw_or1 (tNe (Room.units hr) (EE.be (ee_call (h__law_ask T) (hr.mono (by decide)) (takes_of rfl rfl rfl rfl) (ea_cons ee_int (ea_cons (BE.ee (be_var 10)) (ea_cons (BE.ee (be_var 14)) ea_nil))) rfl (alen_cons (alen_cons (alen_cons alen_nil))))) (EE.be (ee_call (h__law_power T) (hr.mono (by decide)) (takes_of rfl rfl rfl rfl) (ea_cons (BE.ee (be_var 10)) (ea_cons (BE.ee (be_var 14)) ea_nil)) rfl (alen_cons (alen_cons alen_nil)))))))) (bss_one (bs_ret (EE.be ee_bl))) bss_nil))))
  (bss_one (bs_if (BW.bt (bw_or (tNe (Room.units hr) (EE.be (ee_len T.b_len (be_var 11))) (EE.be (eFd (EE.be (eMul (be_var 6) (EE.be (eAdd (be_var 6) (EE.be ee_int))))) (EE.be ee_int)))) (bw_or1 (tNe (Room.units hr) (EE.be (ee_call (h__law_product T) (hr.mono (by decide)) (takes_of rfl rfl rfl rfl) (ea_cons (ee_call (h__law_ask T) (hr.mono (by decide)) (takes_of rfl rfl rfl rfl) (ea_cons ee_int (ea_cons (BE.ee (be_var 9)) (ea_cons ee_non ea_nil))) rfl (alen_cons (alen_cons (alen_cons alen_nil)))) (ea_cons (BE.ee (be_var 11)) ea_nil)) rfl (alen_cons (alen_cons alen_nil)))) (EE.be (ee_call (h__law_ask T) (hr.mono (by decide)) (takes_of rfl rfl rfl rfl) (ea_cons ee_int (ea_cons (ee_call (h__law_product T) (hr.mono (by decide)) (takes_of rfl rfl rfl rfl) (ea_cons (BE.ee (be_var 9)) (ea_cons (BE.ee (be_var 8)) ea_nil)) rfl (alen_cons (alen_cons alen_nil))) (ea_cons ee_non ea_nil))) rfl (alen_cons (alen_cons (alen_cons alen_nil))))))))) (bss_one (bs_ret (EE.be ee_bl))) bss_nil)))))))))
  (bss_cons (bs_set (i := 3) sc_law.nd (ee_tuple T.b_tuple (EE.be (eAdd (EE.be (ee_lst (ea_cons (ee_tup (ea_cons ee_int (ea_cons ee_int ea_nil))) ea_nil))) (EE.be (ee_lc (own := [("k", 15)]) rfl sc_law.nd (bi_rg1 T.b_range (EE.be ee_int)) (by kernel_rfl) (fun _ _ _ _ _ => (bg_name (i := 15) sc_law.nd)) (fun _ _ _ _ _ => bts_nil) (fun _ _ _ _ _ => (ee_call (h__law_number T) (hr.mono (by decide)) takes0 (ea_cons (BE.ee (be_var 1)) ea_nil) rfl (alen_cons alen_nil))) (by decide)))))))
  (bss_cons (bs_if (tNe (Room.units hr) (EE.be (ee_call (h__law_ask T) (hr.mono (by decide)) (takes_of rfl rfl rfl rfl) (ea_cons ee_int (ea_cons (BE.ee (be_var 3)) (ea_cons (ee_tup (ea_cons ee_int (ea_cons ee_int ea_nil))) ea_nil))) rfl (alen_cons (alen_cons (alen_cons alen_nil))))) (EE.be (ee_call (h__law_power T) (hr.mono (by decide)) (takes_of rfl rfl rfl rfl) (ea_cons (BE.ee (be_var 3)) (ea_cons (ee_tup (ea_cons ee_int (ea_cons ee_int ea_nil))) ea_nil)) rfl (alen_cons (alen_cons alen_nil))))) (bss_one (bs_ret (EE.be ee_bl))) bss_nil)
  (bss_cons (bs_set (i := 4) sc_law.nd (ee_lst (ea_cons ee_non (ea_cons (ee_tup ea_nil) (ea_cons (ee_sl (be_var 8) bo_none (bo_some (EE.be (ee_neg (EE.be ee_int))))) (ea_cons (eAdd (be_var 8) (EE.be (ee_sl (be_var 8) bo_none (bo_some (EE.be ee_int))))) (ea_cons (ee_list T.b_list (be_var 8)) (ea_cons (eAdd (EE.be (ee_sl (be_var 8) bo_none (bo_some (EE.be (ee_neg (EE.be ee_int)))))) (EE.be (ee_tup (ea_cons (ee_list T.b_list (be_ix (be_var 8) (EE.be (ee_neg (EE.be ee_int))))) ea_nil)))) (ea_cons (eMul (EE.be (ee_tup (ea_cons (eMul (EE.be (ee_tup (ea_cons ee_str ea_nil))) (be_var 6)) ea_nil))) (be_var 6)) (ea_cons (eMul (EE.be (ee_tup (ea_cons (eMul (EE.be (ee_tup (ea_cons ee_int ea_nil))) (be_var 6)) ea_nil))) (be_var 6)) ea_nil))))))))))
  (bss_cons (bs_set (i := 4) sc_law.nd (eAdd (be_var 4) (EE.be (ee_lst (ea_cons (eMul (EE.be (ee_tup (ea_cons (eMul (EE.be (ee_tup (ea_cons (ee_tup (ea_cons ee_int (ea_cons ee_int ea_nil))) ea_nil))) (be_var 6)) ea_nil))) (be_var 6)) (ea_cons (eMul (EE.be (ee_tup (ea_cons (eMul (EE.be (ee_tup (ea_cons (ee_tup (ea_cons ee_int (ea_cons ee_int ea_nil))) ea_nil))) (EE.be ee_int)) ea_nil))) (EE.be ee_int)) (ea_cons (eMul (EE.be (ee_tup (ea_cons (eMul (EE.be (ee_tup (ea_cons (ee_tup (ea_cons ee_bl (ea_cons ee_int ea_nil))) ea_nil))) (be_var 6)) ea_nil))) (be_var 6)) ea_nil)))))))
  (bss_cons (bs_setLc (i := 5) (own := [("value", 12)]) rfl sc_law.nd (sw_true rfl rfl rfl (by kernel_rfl)) (bi_any (BE.ee (be_var 4))) (by kernel_rfl) (fun _ _ _ _ _ => (bg_name (i := 12) sc_law.nd)) (fun _ _ _ _ _ => (bts_one (BW.bt (bw_or (tNe (Room.units hr) (EE.be (ee_call (h__law_ask T) (hr.mono (by decide)) takes0 (ea_cons ee_int (ea_cons (BE.ee (be_var 12)) (ea_cons ee_non ea_nil))) rfl (alen_cons (alen_cons (alen_cons alen_nil))))) (EE.be ee_str)) (bw_or1 (tNe (Room.units hr) (EE.be (ee_call (h__law_ask T) (hr.mono (by decide)) takes0 (ea_cons ee_int (ea_cons (BE.ee (be_var 12)) (ea_cons ee_non ea_nil))) rfl (alen_cons (alen_cons (alen_cons alen_nil))))) (EE.be ee_str))))))) (fun _ _ _ _ _ => (BE.ee (be_var 12))) (by decide))
  (bss_cons (bs_set (i := 4) sc_law.nd (ee_lst (ea_cons ee_non (ea_cons (ee_tup ea_nil) (ea_cons (ee_tup (ea_cons (ee_tup (ea_cons ee_int (ea_cons ee_int ea_nil))) ea_nil)) (ea_cons (ee_tup (ea_cons (ee_tup (ea_cons ee_int (ea_cons ee_int ea_nil))) (ea_cons (ee_tup (ea_cons ee_int (ea_cons ee_int ea_nil))) ea_nil))) (ea_cons (eMul (EE.be (ee_tup (ea_cons (ee_tup (ea_cons ee_int (ea_cons ee_int ea_nil))) ea_nil))) (EE.be ee_int)) (ea_cons (ee_lst (ea_cons (ee_tup (ea_cons ee_int (ea_cons ee_int ea_nil))) (ea_cons (ee_tup (ea_cons ee_int (ea_cons ee_int ea_nil))) ea_nil))) (ea_cons (ee_tup (ea_cons (ee_tup (ea_cons ee_int (ea_cons ee_int ea_nil))) (ea_cons ee_int ea_nil))) (ea_cons (ee_tup (ea_cons (ee_tup (ea_cons ee_int (ea_cons ee_int ea_nil))) (ea_cons (ee_tup (ea_cons ee_int (ea_cons ee_int ea_nil))) ea_nil))) (ea_cons (ee_tup (ea_cons (ee_tup (ea_cons ee_int (ea_cons ee_int ea_nil))) (ea_cons (ee_tup (ea_cons ee_int (ea_cons ee_int ea_nil))) ea_nil))) ea_nil)))))))))))
  (bss_cons (bs_set (i := 5) sc_law.nd (eAdd (be_var 5) (EE.be (ee_lc (own := [("value", 12)]) rfl sc_law.nd (bi_any (BE.ee (be_var 4))) (by kernel_rfl) (fun _ _ _ _ _ => (bg_name (i := 12) sc_law.nd)) (fun _ _ _ _ _ => (bts_one (tNe (Room.units hr) (EE.be (ee_call (h__law_ask T) (hr.mono (by decide)) takes0 (ea_cons ee_int (ea_cons (BE.ee (be_var 12)) (ea_cons (ee_tup (ea_cons ee_int (ea_cons ee_int ea_nil))) ea_nil))) rfl (alen_cons (alen_cons (alen_cons alen_nil))))) (EE.be ee_str)))) (fun _ _ _ _ _ => (BE.ee (be_var 12))) (by decide)))))
  (bss_one (bs_ret (EE.be (ee_and (EE.be (eEq (Room.units hr) (be_var 5) (EE.be (ee_lst ea_nil)))) (ee_one (eEq (Room.units hr) (EE.be (ee_lc (own := [("point", 14)]) rfl sc_law.nd (bi_any (ee_lst (ea_cons ee_int (ea_cons ee_non (ea_cons (ee_tup (ea_cons ee_int (ea_cons ee_int ea_nil))) (ea_cons (ee_tup (ea_cons ee_int (ea_cons ee_int ea_nil))) (ea_cons (ee_tup (ea_cons ee_int (ea_cons (eSub (EE.be ee_int) (EE.be ee_int)) ea_nil))) (ea_cons ee_bl ea_nil)))))))) (by kernel_rfl) (fun _ _ _ _ _ => (bg_name (i := 14) sc_law.nd)) (fun _ _ _ _ _ => bts_nil) (fun _ _ _ _ _ => (ee_call (h__law_ask T) (hr.mono (by decide)) takes0 (ea_cons ee_int (ea_cons (BE.ee (be_var 10)) (ea_cons (BE.ee (be_var 14)) ea_nil))) rfl (alen_cons (alen_cons (alen_cons alen_nil))))) (by decide))) (EE.be (eMul (EE.be (ee_lst (ea_cons ee_str ea_nil))) (EE.be ee_int))))))))))))))))))
end
/-! M35a -/
/-! ### numbers -/
theorem e_common (a b : Int) (dr : Dr) : f_common [.int a, .int b] dr = .ok (.int (Int.gcd a b)) dr := by
  refine fnD_rt ?_
  have loop := gcd_loop (st := fun a b => [some (.int a), some (.int b)]) (T := (cTst (cBin gNe (cVar 1) (cK (.int 0))))) (B := cPar2 0 1 (cCons (cFrz (cVar 1)) (cCons (cBin gMod (cVar 0) (cVar 1)) cNil))) (fun a b dr => by simp) (fun a b dr hb => by
    simp [gmod_nat hb]) (b.natAbs + 1) a.natAbs b.natAbs dr (Nat.lt_succ_self _)
  simp [m_common, cWhile, fuelAbs, abs_nat, loop]
  rfl
theorem e_lowest {n d : Int} {N : Nat} (h0 : d ≠ 0) (hd : d.natAbs < 2 ^ N) (hN : N ≤ 9000) (dr : Dr) : f_lowest [.int n, .int d] dr = .ok (qD (Rat.divInt n d)) dr := by
  refine fnD_rt ?_
  obtain ⟨k1, k2⟩ := low_div (n := n) h0 hd hN
  by_cases h : d < 0
  · have e : -(Int.gcd n d : Int) = d.sign * (Int.gcd n d : Int) := by rw [Int.sign_eq_neg_one_of_neg h]; omega
    simp [m_lowest, e_common, h, e, k1, k2, qD]
  · have e : (Int.gcd n d : Int) = d.sign * (Int.gcd n d : Int) := by rw [Int.sign_eq_one_of_pos (by omega)]; omega
    rw [← e] at k1 k2
    simp [m_lowest, e_common, h, k1, k2, qD]
theorem e_plus {a b : Rat} {N M : Nat} (ha : Sm N a) (hb : Sm M b) (h : N + M ≤ 9000) (dr : Dr) : f_plus [qD a, qD b] dr = .ok (qD (a + b)) dr := by
  refine fnD_rt ?_
  have l1 := lg ha.n ha.pos
  have l2 := lg ha.d ha.pos
  have l3 := lg hb.n hb.pos
  have l4 := lg hb.d hb.pos
  have lo := fun dr => e_lowest (n := a.num * b.den + b.num * a.den) (d := a.den * b.den) (denmul_ne a b) (mulBits ha.den hb.den) h dr
  rw [← add_divInt] at lo
  simp [m_plus, qD, gmul_int (show a.num.natAbs.log2 + ((b.den : Int)).natAbs.log2 < 1000000 from by rw [Int.natAbs_natCast]; omega), gmul_int (show b.num.natAbs.log2 + ((a.den : Int)).natAbs.log2 < 1000000 from by rw [Int.natAbs_natCast]; omega),
    gmul_int (show ((a.den : Int)).natAbs.log2 + ((b.den : Int)).natAbs.log2 < 1000000 from by rw [Int.natAbs_natCast, Int.natAbs_natCast]; omega), lo]
theorem e_times {a b : Rat} {N M : Nat} (ha : Sm N a) (hb : Sm M b) (h : N + M ≤ 9000) (dr : Dr) : f_times [qD a, qD b] dr = .ok (qD (a * b)) dr := by
  refine fnD_rt ?_
  have l1 := lg ha.n ha.pos
  have l2 := lg ha.d ha.pos
  have l3 := lg hb.n hb.pos
  have l4 := lg hb.d hb.pos
  have lo := fun dr => e_lowest (n := a.num * b.num) (d := a.den * b.den) (denmul_ne a b) (mulBits ha.den hb.den) h dr
  rw [← mul_divInt] at lo
  simp [m_times, qD, gmul_int (show a.num.natAbs.log2 + b.num.natAbs.log2 < 1000000 from by omega),
    gmul_int (show ((a.den : Int)).natAbs.log2 + ((b.den : Int)).natAbs.log2 < 1000000 from by rw [Int.natAbs_natCast, Int.natAbs_natCast]; omega), lo]
/-! M35b -/
/-! ### the law's own fractions -/
theorem e__law_low {n d : Int} {N : Nat} (h0 : d ≠ 0) (hd : d.natAbs < 2 ^ N) (hN : N ≤ 9000) (dr : Dr) : f__law_low [.int n, .int d] dr = .ok (qD (Rat.divInt n d)) dr := by
  refine fnD_rt ?_
  obtain ⟨k1, k2⟩ := low_div (n := n) h0 hd hN
  have loop := gcd_loop (st := fun a b => [some (.int n), some (.int d), some (.int a), some (.int b)]) (T := (cTst (cBin gNe (cVar 3) (cK (.int 0))))) (B := cPar2 2 3 (cCons (cFrz (cVar 3)) (cCons (cBin gMod (cVar 2) (cVar 3)) cNil))) (fun a b dr => by simp) (fun a b dr hb => by
    simp [gmod_nat hb]) (d.natAbs + 1) n.natAbs d.natAbs dr (Nat.lt_succ_self _)
  have loop : whG (cTst (cBin gNe (cVar 3) (cK (.int 0)))) (cPar2 2 3 (cCons (cFrz (cVar 3)) (cCons (cBin gMod (cVar 2) (cVar 3)) cNil))) (d.natAbs + 1) [some (.int n), some (.int d), some (.int (n.natAbs : Int)), some (.int (d.natAbs : Int))] dr = .nx [some (.int n), some (.int d), some (.int (Int.gcd n d : Int)), some (.int 0)] dr := loop
  by_cases h : 0 < d
  · have e : (Int.gcd n d : Int) = d.sign * (Int.gcd n d : Int) := by rw [Int.sign_eq_one_of_pos h]; omega
    rw [← e] at k1 k2
    simp [m__law_low, cWhile, fuelAbs, abs_nat, loop, h, k1, k2, qD]
  · have e : 0 - (Int.gcd n d : Int) = d.sign * (Int.gcd n d : Int) := by rw [Int.sign_eq_neg_one_of_neg (by omega)]; omega
    rw [← e] at k1 k2
    simp only [Int.zero_sub] at k1 k2
    simp [m__law_low, cWhile, fuelAbs, abs_nat, loop, h, k1, k2, qD]
theorem e__law_plus {a b : Rat} {N M : Nat} (ha : Sm N a) (hb : Sm M b) (h : N + M ≤ 9000) (dr : Dr) : f__law_plus [qD a, qD b] dr = .ok (qD (a + b)) dr := by
  refine fnD_rt ?_
  have l1 := lg ha.n ha.pos
  have l2 := lg ha.d ha.pos
  have l3 := lg hb.n hb.pos
  have l4 := lg hb.d hb.pos
  have lo := fun dr => e__law_low (n := a.num * b.den + b.num * a.den) (d := a.den * b.den) (denmul_ne a b) (mulBits ha.den hb.den) h dr
  rw [← add_divInt] at lo
  simp [m__law_plus, qD, gmul_int (show a.num.natAbs.log2 + ((b.den : Int)).natAbs.log2 < 1000000 from by rw [Int.natAbs_natCast]; omega), gmul_int (show b.num.natAbs.log2 + ((a.den : Int)).natAbs.log2 < 1000000 from by rw [Int.natAbs_natCast]; omega),
    gmul_int (show ((a.den : Int)).natAbs.log2 + ((b.den : Int)).natAbs.log2 < 1000000 from by rw [Int.natAbs_natCast, Int.natAbs_natCast]; omega), lo]
theorem e__law_times {a b : Rat} {N M : Nat} (ha : Sm N a) (hb : Sm M b) (h : N + M ≤ 9000) (dr : Dr) : f__law_times [qD a, qD b] dr = .ok (qD (a * b)) dr := by
  refine fnD_rt ?_
  have l1 := lg ha.n ha.pos
  have l2 := lg ha.d ha.pos
  have l3 := lg hb.n hb.pos
  have l4 := lg hb.d hb.pos
  have lo := fun dr => e__law_low (n := a.num * b.num) (d := a.den * b.den) (denmul_ne a b) (mulBits ha.den hb.den) h dr
  rw [← mul_divInt] at lo
  simp [m__law_times, qD, gmul_int (show a.num.natAbs.log2 + b.num.natAbs.log2 < 1000000 from by omega),
    gmul_int (show ((a.den : Int)).natAbs.log2 + ((b.den : Int)).natAbs.log2 < 1000000 from by rw [Int.natAbs_natCast, Int.natAbs_natCast]; omega), lo]
/-- a sum; b: bits of what is summed up so far -/
theorem sm_sumL {ι : Type} {N : Nat} (f : ι → Rat) : ∀ (I : List ι), (∀ i ∈ I, Sm N (f i)) → Sm (I.length * (N + 1) + 1) (sumL I f)
  | [], _ => by
    rw [sumL_nil]
    exact sm0.mono (by omega)
  | i :: I, h => by
    rw [sumL_cons]
    have h1 := h i List.mem_cons_self
    have h2 := sm_sumL f I fun j hj => h j (List.mem_cons_of_mem _ hj)
    refine (h1.add h2).mono ?_
    rw [List.length_cons, Nat.add_mul]
    omega
theorem fold_sumL {ι : Type} (f : ι → Rat) : ∀ (I : List ι) (s : Rat × Option D), (I.foldl (fun s i => (s.1 + f i, some (qD (f i)))) s).1 = s.1 + sumL I f
  | [], s => by rw [List.foldl_nil, sumL_nil, Rat.add_zero]
  | i :: I, s => by rw [List.foldl_cons, fold_sumL f I, sumL_cons, Rat.add_assoc]
theorem e__law_sum {ι : Type} {I : List ι} {f : ι → Rat} {N : Nat} (h : ∀ i ∈ I, Sm N (f i)) (hb : I.length * (N + 1) + N + 1 ≤ 9000) (dr : Dr) : f__law_sum [.lst false (I.map fun i => qD (f i))] dr = .ok (qD (sumL I f)) dr := by
  refine fnD_rt ?_
  have loop := forG_fold (ys := I) (e := fun i => qD (f i)) (G := gNm 2) (B := cSet 1 (cCall f__law_plus (cCons (cFrz (cVar 1)) (cCons (cFrz (cVar 2)) cNil)))) (dr := dr) (σ := Rat × Option D)
    (st := fun s => [some (.lst false (I.map fun i => qD (f i))), some (qD s.1), s.2]) (step := fun s i => (s.1 + f i, some (qD (f i)))) (P := fun ys s => (∀ i ∈ ys, Sm N (f i)) ∧ ys.length ≤ I.length ∧ Sm ((I.length - ys.length) * (N + 1) + 1) s.1) (fun s y ys ⟨p1, p2, p3⟩ => by
      have q1 := p1 y List.mem_cons_self
      rw [List.length_cons] at p2 p3
      have e1 : I.length - ys.length = (I.length - (ys.length + 1)) + 1 := by omega
      have b1 : (I.length - (ys.length + 1)) * (N + 1) ≤ I.length * (N + 1) := Nat.mul_le_mul_right _ (Nat.sub_le ..)
      refine ⟨⟨fun i hi => p1 i (List.mem_cons_of_mem _ hi), by omega, ?_⟩, _, rfl, ?_⟩
      · rw [e1, Nat.add_mul]
        exact (p3.add q1).mono (by omega)
      · simp [e__law_plus p3 q1 (by omega)]) (s := (0, none)) ⟨h, Nat.le_refl _, by rw [Nat.sub_self, Nat.zero_mul, Nat.zero_add]; exact sm0⟩
  have loop := loop.1
  simp only [show qD ((0 : Rat), (none : Option D)).1 = .tup [.int 0, .int 1] from rfl] at loop
  simp [m__law_sum, s_for, fzs_qD, loop, fold_sumL, Rat.zero_add]
theorem e__law_dot {ι : Type} {I : List ι} {f g : ι → Rat} {N M : Nat} (hf : ∀ i ∈ I, Sm N (f i)) (hg : ∀ i ∈ I, Sm M (g i)) (hl : I.length ≤ 1000) (hb : I.length * (N + M + 1) + (N + M) + 1 ≤ 9000) (dr : Dr) : f__law_dot [rowL I f, rowL I g] dr = .ok (qD (sumL I fun i => f i * g i)) dr := by
  refine fnD_rt ?_
  have lc := lcA_all (G := gTp 2 (gsCons (gNm 2) (gsCons (gNm 3) gsNil))) (F := cCall f__law_times (cCons (cFrz (cVar 2)) (cCons (cFrz (cVar 3)) cNil))) (ρ := [some (rowL I f), some (rowL I g), none, none]) (e := fun i => .tup [qD (f i), qD (g i)]) (f := fun i => qD (f i * g i)) (dr := dr) (ys := I) (fun i hi => by
    refine ⟨_, rfl, ?_⟩
    have : I.length ≠ 0 := by
      intro z
      rw [List.length_eq_zero_iff.mp z] at hi; cases hi
    have h1 : N + M + 1 ≤ I.length * (N + M + 1) := Nat.le_mul_of_pos_left _ (by omega)
    simp [e__law_times (hf i hi) (hg i hi) (by omega)]) (by rw [sizeLine_eq]; omega)
  have hs := e__law_sum (I := I) (f := fun i => f i * g i) (N := N + M) (fun i hi => (hf i hi).mul (hg i hi)) (by omega) dr
  simp [m__law_dot, e_lc, iZipD, rowL, zip_maps] at lc ⊢
  simp [lc, fzs_qD, hs]
/-! M35c -/
theorem range_get {ι : Type} (J : List ι) (g : Option ι → D) : (List.range J.length).map (fun k => g J[k]?) = J.map fun j => g (some j) := by
  refine List.ext_getElem (by simp) fun k h1 h2 => ?_
  simp only [List.getElem_map, List.getElem_range]
  rw [List.getElem?_eq_getElem (by simpa using h2)]
/-- an item, if there is one -/
def oD {κ : Type} (f : κ → D) (o : Option κ) : D := (o.map f).getD .non
@[simp] theorem oD_frz {κ : Type} (f : κ → D) (o : Option κ) (h : ∀ j, (f j).frz = true) : (oD f o).frz = true := by
  cases o with
  | none => rfl
  | some j => exact h j
theorem ix_row {ι : Type} (J : List ι) (r : ι → Rat) (k : Nat) (h : k < J.length) : gIx (rowL J r) (.int (k : Int)) = some (oD (fun j => qD (r j)) J[k]?) := by
  show atI (J.map fun j => qD (r j)) (k : Int) = _
  refine atI_nat ?_
  rw [List.getElem?_map, List.getElem?_eq_getElem h]
  rfl
theorem e__law_led {ι κ : Type} {I : List ι} {J : List κ} {A : ι → κ → Rat} {r : κ → Rat} {N M : Nat} (hA : ∀ i ∈ I, ∀ j ∈ J, Sm N (A i j)) (hr : ∀ j ∈ J, Sm M (r j)) (hI : I.length ≤ 1000) (hJ : J.length ≤ 1000) (hb : J.length * (N + M + 1) + (N + M) + 1 ≤ 9000) (dr : Dr) :
    f__law_led [tabL I J A, rowL J r] dr = .ok (rowL I fun i => sumL J fun j => A i j * r j) dr := by
  refine fnD_rt ?_
  have lc := lcA_all (G := gNm 2) (F := cCall f__law_dot (cCons (cFrz (cVar 2)) (cCons (cFrz (cVar 1)) cNil))) (ρ := [some (tabL I J A), some (rowL J r), none]) (e := fun i => rowL J (A i)) (f := fun i => qD (sumL J fun j => A i j * r j)) (dr := dr) (ys := I) (fun i hi => by
    refine ⟨_, rfl, ?_⟩
    simp [e__law_dot (hA i hi) hr hJ hb]) (by rw [sizeLine_eq]; omega)
  simp [m__law_led, e_lc, tabL] at lc ⊢
  have g := gTuple_lst (o := true) I (fun i => qD (sumL J fun j => A i j * r j)) fun _ => rfl
  simp [lc, g]
  rfl
@[simp] theorem len_row {ι : Type} (J : List ι) (r : ι → Rat) : gLen [rowL J r] = some (.int (J.length : Int)) := by
  show some (D.int ((J.map fun j => qD (r j)).length : Int)) = _
  rw [List.length_map]
theorem e__law_columns {ι κ : Type} {I : List ι} {J : List κ} {A : ι → κ → Rat} (h0 : I ≠ []) (hI : I.length ≤ 1000) (hJ : J.length ≤ 1000) (dr : Dr) : f__law_columns [tabL I J A] dr = .ok (tabL J I fun j i => A i j) dr := by
  refine fnD_rt ?_
  obtain ⟨i0, I', rfl⟩ : ∃ i I', I = i :: I' := by
    cases I with
    | nil => exact absurd rfl h0
    | cons i I' => exact ⟨i, I', rfl⟩
  have fz : ∀ (k : Nat) i, (oD (fun j => qD (A i j)) J[k]?).frz = true := fun k i => oD_frz _ _ fun _ => rfl
  have inner : ∀ (k : Nat) (t : Option D), k < J.length → lcA (gNm 2) cYes (cFrz (cBin gIx (cVar 2) (cVar 1))) [t, some (.int (k : Int)), none] ((i0 :: I').map fun i => rowL J (A i)) [] dr = .ok ((i0 :: I').map fun i => oD (fun j => qD (A i j)) J[k]?) dr := fun k t hk => lcA_all (fun i hi => ⟨_, rfl, by
        simp [ix_row J (A i) k hk, fz]⟩) (by rw [sizeLine_eq]; omega)
  have outer := lcA_all (G := gNm 1) (F := cB gTuple (cCons (cLc [2] (iAny (cFrz (cVar 0))) (gNm 2) cYes (cFrz (cBin gIx (cVar 2) (cVar 1)))) cNil)) (ρ := [some (tabL (i0 :: I') J A), none, none]) (e := fun k : Nat => D.int (k : Int)) (f := fun k : Nat => D.tup ((i0 :: I').map fun i => oD (fun j => qD (A i j)) J[k]?)) (dr := dr) (ys := List.range J.length) (fun k hk => ⟨_, rfl, by
        have hk := List.mem_range.mp hk
        have := inner k (some (tabL (i0 :: I') J A)) hk
        have g := gTuple_lst (o := true) (i0 :: I') (fun i => oD (fun j => qD (A i j)) J[k]?) (fz k)
        rw [List.map_cons] at this g
        simp only [tabL, List.map_cons] at this
        simp [e_lc, tabL, this, g]⟩) (by rw [sizeLine_eq, List.length_range]; omega)
  have g := range_get J fun o => D.tup ((i0 :: I').map fun i => oD (fun j => qD (A i j)) o)
  rw [g] at outer
  have g2 := gTuple_lst (o := true) J (fun j => D.tup ((i0 :: I').map fun i => oD (fun j => qD (A i j)) (some j))) fun _ => rfl
  simp only [tabL, List.map_cons] at outer g2 ⊢
  have hr := i_rg1N (F := cB gLen (cCons (cBin gIx (cVar 0) (cK (.int 0))) cNil)) (ρ := [some (D.tup (rowL J (A i0) :: List.map (fun i => rowL J (A i)) I')), none, none]) (dr := dr) (dr' := dr) (n := J.length) (by simp) (by omega)
  simp [m__law_columns, e_lc, hr, outer, g2]
  exact fun _ _ => rfl
theorem e__law_product {ι κ μ : Type} {I : List ι} {J : List κ} {L : List μ} {A : ι → κ → Rat} {B : κ → μ → Rat} {N M : Nat} (hA : ∀ i ∈ I, ∀ j ∈ J, Sm N (A i j)) (hB : ∀ j ∈ J, ∀ l ∈ L, Sm M (B j l)) (h0 : J ≠ []) (hI : I.length ≤ 1000) (hJ : J.length ≤ 1000) (hL : L.length ≤ 1000) (hb : J.length * (N + M + 1) + (N + M) + 1 ≤ 9000) (dr : Dr) :
    f__law_product [tabL I J A, tabL J L B] dr = .ok (tabL I L fun i l => sumL J fun j => A i j * B j l) dr := by
  refine fnD_rt ?_
  have hc := fun dr => e__law_columns (A := B) h0 hJ hL dr
  have inner : ∀ i ∈ I, ∀ (x y z u : Option D), lcA (gNm 4) cYes (cCall f__law_dot (cCons (cFrz (cVar 3)) (cCons (cFrz (cVar 4)) cNil))) [x, y, z, some (rowL J (A i)), none] (L.map fun l => rowL J fun j => B j l) [] dr = .ok (L.map fun l => qD (sumL J fun j => A i j * B j l)) dr := fun i hi x y z u => lcA_all (fun l hl => ⟨_, rfl, by
    simp [e__law_dot (hA i hi) (fun j hj => hB j hj l hl) hJ hb]⟩) (by rw [sizeLine_eq]; omega)
  have outer := lcA_all (G := gNm 3) (F := cB gTuple (cCons (cLc [4] (iAny (cFrz (cVar 2))) (gNm 4) cYes (cCall f__law_dot (cCons (cFrz (cVar 3)) (cCons (cFrz (cVar 4)) cNil)))) cNil)) (ρ := [some (tabL I J A), some (tabL J L B), some (tabL L J fun l j => B j l), none, none]) (e := fun i => rowL J (A i)) (f := fun i => rowL L fun l => sumL J fun j => A i j * B j l) (dr := dr) (ys := I) (fun i hi => ⟨_, rfl, by
      have h1 := inner i hi (some (tabL I J A)) (some (tabL J L B)) (some (tabL L J fun l j => B j l)) none
      have g := gTuple_lst (o := true) L (fun l => qD (sumL J fun j => A i j * B j l)) fun _ => rfl
      simp only [tabL] at h1
      simp [e_lc, tabL, h1, g]
      rfl⟩) (by rw [sizeLine_eq]; omega)
  have g := gTuple_lst (o := true) I (fun i => rowL L fun l => sumL J fun j => A i j * B j l) fun _ => rfl
  simp only [tabL] at outer hc ⊢
  simp [m__law_product, e_lc, hc, outer, g]
/-! M35d -/
theorem sm_small {n : Int} {d : Nat} (hn : n.natAbs < 4) (hd : 0 < d ∧ d < 4) : Sm 2 (Rat.divInt n d) := divInt_sm hn (by omega) (by omega)
theorem e__law_number {c : Nat} {s : Dw} (h : Good c s) (hc : c ≤ 2 ^ 30) : ∃ q s', f__law_number [.dr] (some s) = .ok (qD q) (some s') ∧ Sm 2 q ∧ Good (c + 3) s' := by
  obtain ⟨r1, s1, e1, b1, g1⟩ := e_take h (by omega) (m := 4) (by decide) (by decide)
  by_cases c0 : r1 = 0
  · subst c0
    refine ⟨0, s1, fnD_rt ?_, sm0.mono (by decide), g1.mono (by omega)⟩
    have e1 : f__law_take [.dr, .int 4] (some s) = _ := e1
    simp [m__law_number, e1, qD_0]
  · obtain ⟨r2, s2, e2, b2, g2⟩ := e_take g1 (by omega) (m := 7) (by decide) (by decide)
    obtain ⟨r3, s3, e3, b3, g3⟩ := e_take g2 (by omega) (m := 5) (by decide) (by decide)
    have e1 : f__law_take [.dr, .int 4] (some s) = _ := e1
    have e2 : f__law_take [.dr, .int 7] (some s1) = _ := e2
    have e3 : f__law_take [.dr, .int 5] (some s2) = _ := e3
    obtain ⟨d, hd, hi⟩ : ∃ d : Nat, (0 < d ∧ d < 4) ∧ gIx (.lst true [.int 1, .int 1, .int 1, .int 2, .int 3]) (.int (r3 : Int)) = some (.int (d : Int)) := by
      have : r3 = 0 ∨ r3 = 1 ∨ r3 = 2 ∨ r3 = 3 ∨ r3 = 4 := by omega
      rcases this with rfl | rfl | rfl | rfl | rfl
      · exact ⟨1, by decide, rfl⟩
      · exact ⟨1, by decide, rfl⟩
      · exact ⟨1, by decide, rfl⟩
      · exact ⟨2, by decide, rfl⟩
      · exact ⟨3, by decide, rfl⟩
    have lo := fun dr => e__law_low (n := (r2 : Int) - 3) (d := (d : Int)) (N := 2) (by omega) (by omega) (by decide) dr
    refine ⟨Rat.divInt ((r2 : Int) - 3) d, s3, fnD_rt ?_, sm_small (by omega) hd, g3⟩
    simp [m__law_number, e1, e2, e3, hi, lo, show 0 < r1 from by omega]
theorem e__law_row {c : Nat} {s : Dw} (h : Good c s) (hc : c ≤ 2 ^ 29) {n : Nat} (hn : n ≤ 1000) : ∃ (r : Nat → Rat) (s' : Dw), f__law_row [.dr, .int (n : Int)] (some s) = .ok (rowL (List.range n) r) (some s') ∧ (∀ k ∈ List.range n, Sm 2 (r k)) ∧ Good (c + 3 * n) s' := by
  obtain ⟨ds, s', e1, h1, h2, h3⟩ := lcA_drawn (G := gNm 2) (F := cCall f__law_number (cCons (cFrz (cVar 0)) cNil)) (ρ := [some .dr, some (.int (n : Int)), none]) (e := fun k : Nat => D.int (k : Int)) (P := fun d => ∃ q, d = qD q ∧ Sm 2 q) (k := 3) (b := 2 ^ 30) (ys := List.range n) (acc := []) (c := c) (s := s) (fun k hk c s g hc => ⟨_, rfl, by
    obtain ⟨q, s', e, sm, g'⟩ := e__law_number g hc
    exact ⟨qD q, s', by simp [e], ⟨q, rfl, sm⟩, g'⟩⟩) h (by rw [List.length_range]; omega) (by rw [sizeLine_eq, List.length_range, List.length_nil]; omega)
  obtain ⟨r, e2, h4⟩ := rats_of h2
  rw [List.length_range] at h1 h3
  rw [h1] at e2 h4
  refine ⟨r, s', fnD_rt ?_, fun k hk => h4 k (List.mem_range.mp hk), h3⟩
  have hr := i_rg1N (F := cVar 1) (ρ := [some .dr, some (.int (n : Int)), none]) (dr := some s) (dr' := some s) (n := n) (by simp) (by omega)
  have g := gTuple_lst (o := true) (List.range n) (fun k => qD (r k)) fun _ => rfl
  rw [e2] at e1
  simp [m__law_row, e_lc, hr, e1, g]
  rfl
/-! M35e -/
/-- a table as a list of lists, one's own or not -/
def lstT (o : Bool) (n : Nat) (A : Nat → Nat → Rat) : D := .lst o ((List.range n).map fun i => .lst o ((List.range n).map fun j => qD (A i j)))
theorem fz_lstT (o : Bool) (n : Nat) (A : Nat → Nat → Rat) : (lstT o n A).fz = lstT false n A := by
  unfold lstT
  rw [fz_lst, fzs_map, List.map_map]
  congr 1
  refine List.map_congr_left fun i _ => ?_
  show D.lst false (D.fzs _) = _
  rw [fzs_qD]
@[simp] theorem frz_lstT (n : Nat) (A : Nat → Nat → Rat) : (lstT false n A).frz = true := rfl
theorem ix_lst {ι : Type} {o : Bool} (f : Nat → D) (n k : Nat) (h : k < n) : gIx (.lst o ((List.range n).map f)) (.int (k : Int)) = some (f k) := by
  show atI ((List.range n).map f) (k : Int) = _
  refine atI_nat ?_
  rw [List.getElem?_map, List.getElem?_eq_getElem (by rw [List.length_range]; exact h)]
  simp
theorem mask {T : CTx} {p : Nat → Nat → Bool} {n : Nat} {A : Nat → Nat → Rat} {x0 x2 x4 x5 x6 x7 x8 : Option D} {dr : Dr} (hn : n ≤ 1000) (hT : ∀ i j, i < n → j < n → T [x0, some (.int (n : Int)), x2, some (lstT false n A), x4, x5, some (.int (i : Int)), x7, some (.int (j : Int))] dr = .ok (p i j) dr) :
    cLc [6] (iRg1 (cVar 1)) (gNm 6) cYes (cLc [8] (iRg1 (cVar 1)) (gNm 8) cYes (cIf T (cFrz (cBin gIx (cBin gIx (cVar 3) (cVar 6)) (cVar 8))) (cTup (cCons (cK (.int 0)) (cCons (cK (.int 1)) cNil))))) [x0, some (.int (n : Int)), x2, some (lstT false n A), x4, x5, x6, x7, x8] dr = .ok (lstT true n fun i j => if p i j then A i j else 0) dr := by
  have inner : ∀ i, i < n → lcA (gNm 8) cYes (cIf T (cFrz (cBin gIx (cBin gIx (cVar 3) (cVar 6)) (cVar 8))) (cTup (cCons (cK (.int 0)) (cCons (cK (.int 1)) cNil)))) [x0, some (.int (n : Int)), x2, some (lstT false n A), x4, x5, some (.int (i : Int)), x7, none] ((List.range n).map fun k : Nat => D.int (k : Int)) [] dr = .ok ((List.range n).map fun j => qD (if p i j then A i j else 0)) dr := fun i hi => lcA_all (fun j hj => ⟨_, rfl, by
    have hj := List.mem_range.mp hj
    have t := hT i j hi hj
    have q1 : gIx (lstT false n A) (.int (i : Int)) = some (.lst false ((List.range n).map fun j => qD (A i j))) := ix_lst (ι := Nat) _ n i hi
    have q2 : gIx (.lst false ((List.range n).map fun j => qD (A i j))) (.int (j : Int)) = some (qD (A i j)) := ix_lst (ι := Nat) _ n j hj
    cases hp : p i j with
    | true =>
      rw [hp] at t
      simp [t, q1, q2]
    | false =>
      rw [hp] at t
      simp [t, qD_0]⟩) (by rw [sizeLine_eq, List.length_range]; omega)
  have outer := lcA_all (G := gNm 6) (F := cLc [8] (iRg1 (cVar 1)) (gNm 8) cYes (cIf T (cFrz (cBin gIx (cBin gIx (cVar 3) (cVar 6)) (cVar 8))) (cTup (cCons (cK (.int 0)) (cCons (cK (.int 1)) cNil))))) (ρ := [x0, some (.int (n : Int)), x2, some (lstT false n A), x4, x5, none, x7, x8]) (e := fun k : Nat => D.int (k : Int)) (f := fun i : Nat => D.lst true ((List.range n).map fun j => qD (if p i j then A i j else 0))) (dr := dr) (ys := List.range n) (fun i hi => ⟨_, rfl, by
      have hi := List.mem_range.mp hi
      have r1 := i_rg1N (F := cVar 1) (ρ := [x0, some (.int (n : Int)), x2, some (lstT false n A), x4, x5, some (.int (i : Int)), x7, x8]) (dr := dr) (dr' := dr) (n := n) (by simp) (by omega)
      rw [e_lc]
      simp only [List.set_cons_succ, List.set_cons_zero]
      rw [r1]
      simp [inner i hi]⟩) (by rw [sizeLine_eq, List.length_range]; omega)
  have r1 := i_rg1N (F := cVar 1) (ρ := [x0, some (.int (n : Int)), x2, some (lstT false n A), x4, x5, x6, x7, x8]) (dr := dr) (dr' := dr) (n := n) (by simp) (by omega)
  rw [e_lc, r1]
  simp [outer]
  rfl
/-- the state of a table under way -/
def stT (n r : Nat) (A : Nat → Nat → Rat) (x4 : Option D) : Rho := [some .dr, some (.int (n : Int)), some (.int (r : Int)), some (lstT false n A), x4, none, none, none, none]
def SmT (n : Nat) (A : Nat → Nat → Rat) : Prop := ∀ i j, i < n → j < n → Sm 2 (A i j)
theorem SmT.mask {n : Nat} {A : Nat → Nat → Rat} (h : SmT n A) (p : Nat → Nat → Bool) : SmT n fun i j => if p i j then A i j else 0 := fun i j hi hj => by
  show Sm 2 (if p i j then A i j else 0)
  split
  · exact h i j hi hj
  · exact sm0.mono (by decide)
/-- if kind == k: rows = [[.. if .. else (0, 1) ..]] -/
theorem step_mask {T : CTx} {n r k : Nat} {A : Nat → Nat → Rat} {x4 : Option D} {dr : Dr} (hn : n ≤ 1000) (hA : SmT n A) (p : Nat → Nat → Bool) (hT : ∀ i j, i < n → j < n → T [some .dr, some (.int (n : Int)), some (.int (r : Int)), some (lstT false n A), x4, none, some (.int (i : Int)), none, some (.int (j : Int))] dr = .ok (p i j) dr) :
    ∃ A', cIfS (cTst (cBin gEq (cVar 2) (cK (.int (k : Int))))) (cSet 3 (cLc [6] (iRg1 (cVar 1)) (gNm 6) cYes (cLc [8] (iRg1 (cVar 1)) (gNm 8) cYes (cIf T (cFrz (cBin gIx (cBin gIx (cVar 3) (cVar 6)) (cVar 8))) (cTup (cCons (cK (.int 0)) (cCons (cK (.int 1)) cNil))))))) cSkip (stT n r A x4) dr = .nx (stT n r A' x4) dr ∧ SmT n A' := by
  have m := mask (T := T) (p := p) (n := n) (A := A) (x0 := some .dr) (x2 := some (.int (r : Int))) (x4 := x4) (x5 := none) (x6 := none) (x7 := none) (x8 := none) (dr := dr) hn hT
  by_cases h : r = k
  · refine ⟨_, ?_, hA.mask p⟩
    subst h
    simp [stT, m, fz_lstT]
  · refine ⟨A, ?_, hA⟩
    have : ((r : Int) == (k : Int)) = false := by simp; omega
    simp [stT, this]
theorem step3 {c n r : Nat} {s : Dw} {A : Nat → Nat → Rat} (g : Good c s) (hc : c ≤ 2 ^ 25) (hn : n ≤ 4) (hA : SmT n A) : ∃ A' x4 s', cIfS (cTst (cBin gEq (cVar 2) (cK (.int 3)))) (cSeq (cSet 4 (cLc [5] (iRg1 (cVar 1)) (gNm 5) cYes (cCall f__law_take (cCons (cFrz (cVar 0)) (cCons (cFrz (cVar 1)) cNil)))))
  (cSet 3 (cLc [6] (iRg1 (cVar 1)) (gNm 6) cYes (cLc [8] (iRg1 (cVar 1)) (gNm 8) cYes (cIf (cTst (cBin gEq (cVar 8) (cBin gIx (cVar 4) (cVar 6)))) (cFrz (cBin gIx (cBin gIx (cVar 3) (cVar 6)) (cVar 8))) (cTup (cCons (cK (.int 0)) (cCons (cK (.int 1)) cNil)))))))) cSkip (stT n r A none) (some s) = .nx (stT n r A' x4) (some s') ∧ SmT n A' ∧ Good (c + 4) s' := by
  by_cases h : r = 3
  · subst h
    rcases Nat.eq_zero_or_pos n with z | z
    · subst z
      refine ⟨fun _ _ => 0, some (.lst false []), s, ?_, fun i j hi => absurd hi (Nat.not_lt_zero i), g.mono (by omega)⟩
      have r0 := fun ρ dr => i_rg1N (F := cVar 1) (ρ := ρ) (dr := dr) (dr' := dr) (n := 0)
      rfl
    · obtain ⟨ds, s2, e2, h1, h2, g2⟩ := lcA_drawn (G := gNm 5) (F := cCall f__law_take (cCons (cFrz (cVar 0)) (cCons (cFrz (cVar 1)) cNil))) (ρ := [some .dr, some (.int (n : Int)), some (.int ((3 : Nat) : Int)), some (lstT false n A), none, none, none, none, none]) (e := fun k : Nat => D.int (k : Int)) (P := fun d => ∃ a : Nat, d = .int (a : Int) ∧ True) (k := 1) (b := 2 ^ 29) (ys := List.range n) (acc := []) (c := c) (s := s) (fun k hk c s g hc => ⟨_, rfl, by
        obtain ⟨q, s', e, sm, g'⟩ := e_take g (by omega) (m := n) z (by omega)
        have e : f__law_take [.dr, .int (n : Int)] (some s) = _ := e
        exact ⟨.int (q : Int), s', by simp [e], ⟨q, rfl, trivial⟩, g'⟩⟩) g (by rw [List.length_range]; omega) (by rw [sizeLine_eq, List.length_range, List.length_nil]; omega)
      obtain ⟨at_, e3, _⟩ := fun_of (f := fun a : Nat => D.int (a : Int)) 0 h2
      rw [List.length_range] at h1 g2
      rw [h1] at e3
      have fz4 : D.fzs ((List.range n).map fun k => D.int (at_ k : Int)) = (List.range n).map fun k => D.int (at_ k : Int) := fzs_intm _ _
      have s4 : cSet 4 (cLc [5] (iRg1 (cVar 1)) (gNm 5) cYes (cCall f__law_take (cCons (cFrz (cVar 0)) (cCons (cFrz (cVar 1)) cNil)))) (stT n 3 A none) (some s) = .nx (stT n 3 A (some (.lst false ((List.range n).map fun k => D.int (at_ k : Int))))) (some s2) := by
        have r1 := i_rg1N (F := cVar 1) (ρ := stT n 3 A none) (dr := some s) (dr' := some s) (n := n) (by simp [stT]) (by omega)
        rw [s_set, e_lc, r1]
        rw [e3, List.nil_append] at e2
        simp only [bind_ok, stT, wipeD_cons, wipeD_nil, List.set_cons_succ, List.set_cons_zero]
        rw [e2]
        simp [fz4]
      have m := mask (T := cTst (cBin gEq (cVar 8) (cBin gIx (cVar 4) (cVar 6)))) (p := fun i j => (j : Int) == (at_ i : Int)) (n := n) (A := A) (x0 := some .dr) (x2 := some (.int ((3 : Nat) : Int))) (x4 := some (.lst false ((List.range n).map fun k => D.int (at_ k : Int)))) (x5 := none) (x6 := none) (x7 := none) (x8 := none) (dr := some s2) (by omega) (fun i j hi hj => by
        have q1 : gIx (.lst false ((List.range n).map fun k => D.int (at_ k : Int))) (.int (i : Int)) = some (.int (at_ i : Int)) := ix_lst (ι := Nat) _ n i hi
        simp [q1])
      refine ⟨fun i j => if ((j : Int) == (at_ i : Int)) = true then A i j else 0, some (.lst false ((List.range n).map fun k => D.int (at_ k : Int))), s2, ?_, hA.mask fun i j => (j : Int) == (at_ i : Int), g2.mono (by omega)⟩
      have t3 : cTst (cBin gEq (cVar 2) (cK (.int 3))) (stT n 3 A none) (some s) = .ok true (some s) := by simp [stT]
      rw [if_t t3, seq_nx s4]
      have := set_nx (i := 3) m
      rw [fz_lstT] at this
      exact this
  · refine ⟨A, none, s, ?_, hA, g.mono (by omega)⟩
    have : ((r : Int) == 3) = false := by simp; omega
    simp [stT, this]
theorem step4 {c n r : Nat} {s : Dw} {A : Nat → Nat → Rat} {x4 : Option D} (g : Good c s) (hc : c ≤ 2 ^ 25) (hn : n ≤ 4) (hA : SmT n A) : ∃ A' s', cIfS (cAnd (cTst (cBin gEq (cVar 2) (cK (.int 4)))) (cTst (cBin gEq (cCall f__law_take (cCons (cFrz (cVar 0)) (cCons (cK (.int 3)) cNil))) (cK (.int 0))))) (cSet 3 (cLc [5] (iRg1 (cVar 1)) (gNm 5) cYes (cBin gMul (cLst (cCons (cTup (cCons (cK (.int 0)) (cCons (cK (.int 1)) cNil))) cNil)) (cVar 1)))) cSkip (stT n r A x4) (some s) = .nx (stT n r A' x4) (some s') ∧ SmT n A' ∧ Good (c + 1) s' := by
  by_cases h : r = 4
  · subst h
    obtain ⟨q, s', e, hq, g'⟩ := e_take g (by omega) (m := 3) (by decide) (by decide)
    have e : f__law_take [.dr, .int 3] (some s) = _ := e
    by_cases h0 : q = 0
    · subst h0
      refine ⟨fun _ _ => 0, s', ?_, fun _ _ _ _ => sm0.mono (by decide), g'⟩
      rw [if_t (dr' := some s') (by simp [stT, e])]
      have mul : gMul (.lst true [.tup [.int 0, .int 1]]) (.int (n : Int)) = some (.lst true ((List.range n).map fun _ => qD 0)) := by
        have : n = 0 ∨ n = 1 ∨ n = 2 ∨ n = 3 ∨ n = 4 := by omega
        rcases this with rfl | rfl | rfl | rfl | rfl <;> rfl
      have lc := lcA_all (G := gNm 5) (F := cBin gMul (cLst (cCons (cTup (cCons (cK (.int 0)) (cCons (cK (.int 1)) cNil))) cNil)) (cVar 1)) (ρ := stT n 4 A x4) (e := fun k : Nat => D.int (k : Int)) (f := fun _ : Nat => D.lst true ((List.range n).map fun _ => qD 0)) (dr := some s') (ys := List.range n) (fun k hk => ⟨_, rfl, by
        simp [stT, mul]⟩) (by rw [sizeLine_eq, List.length_range]; omega)
      have r1 := i_rg1N (F := cVar 1) (ρ := stT n 4 A x4) (dr := some s') (dr' := some s') (n := n) (by simp [stT]) (by omega)
      have hw : wipeD (stT n 4 A x4) [5] = stT n 4 A x4 := rfl
      have all : cLc [5] (iRg1 (cVar 1)) (gNm 5) cYes (cBin gMul (cLst (cCons (cTup (cCons (cK (.int 0)) (cCons (cK (.int 1)) cNil))) cNil)) (cVar 1)) (stT n 4 A x4) (some s') = .ok (lstT true n fun _ _ => 0) (some s') := by
        rw [e_lc, r1, bind_ok, hw, lc, bind_ok]
        rfl
      have := set_nx (i := 3) all
      rw [fz_lstT] at this
      exact this
    · refine ⟨A, s', ?_, hA, g'⟩
      have : ((q : Int) == 0) = false := by simp; omega
      rw [if_f (dr' := some s') (by simp [stT, e]; omega)]
      rfl
  · refine ⟨A, s, ?_, hA, g.mono (by omega)⟩
    have : ((r : Int) == 4) = false := by simp; omega
    rw [if_f (dr' := some s) (by simp [stT, this])]
    rfl
theorem e__law_table {c : Nat} {s : Dw} (h : Good c s) (hc : c ≤ 2 ^ 20) {n : Nat} (hn : n ≤ 4) : ∃ (A : Nat → Nat → Rat) (s' : Dw), f__law_table [.dr, .int (n : Int)] (some s) = .ok (tabL (List.range n) (List.range n) A) (some s') ∧ SmT n A ∧ Good (c + 60) s' := by
  obtain ⟨r, s1, e1, b1, g1⟩ := e_take h (by omega) (m := 7) (by decide) (by decide)
  have e1 : f__law_take [.dr, .int 7] (some s) = _ := e1
  obtain ⟨ds, s2, e2, h1, h2, g2⟩ := lcA_drawn (G := gNm 5) (F := cB gList (cCons (cCall f__law_row (cCons (cFrz (cVar 0)) (cCons (cFrz (cVar 1)) cNil))) cNil)) (ρ := [some .dr, some (.int (n : Int)), some (.int (r : Int)), none, none, none, none, none, none]) (e := fun k : Nat => D.int (k : Int)) (P := fun d => ∃ a : Nat → Rat, d = .lst true ((List.range n).map fun j => qD (a j)) ∧ ∀ j ∈ List.range n, Sm 2 (a j)) (k := 3 * n) (b := 2 ^ 29) (ys := List.range n) (acc := []) (c := c + 1) (s := s1) (fun k hk c s g hc => ⟨_, rfl, by
    obtain ⟨q, s', e, sm, g'⟩ := e__law_row g hc (n := n) (by omega)
    exact ⟨.lst true ((List.range n).map fun j => qD (q j)), s', by
      have : gList [rowL (List.range n) q] = some (.lst true ((List.range n).map fun j => qD (q j))) := by rfl
      simp [e, this], ⟨q, rfl, sm⟩, g'⟩⟩) g1 (by
        rw [List.length_range]
        have : 3 * n * n ≤ 3 * 4 * 4 := Nat.mul_le_mul (Nat.mul_le_mul_left 3 hn) hn
        omega) (by rw [sizeLine_eq, List.length_range, List.length_nil]; omega)
  obtain ⟨A, e3, h3⟩ := fun_of (fun _ => 0) h2
  rw [List.length_range] at h1 g2
  rw [h1] at e3 h3
  have hA : SmT n A := fun i j hi hj => h3 i hi j (List.mem_range.mpr hj)
  have g2 : Good (c + 49) s2 := g2.mono (by
    have : 3 * n * n ≤ 3 * 4 * 4 := Nat.mul_le_mul (Nat.mul_le_mul_left 3 hn) hn
    omega)
  have q1 : cSet 2 (cCall f__law_take (cCons (cFrz (cVar 0)) (cCons (cK (.int 7)) cNil))) [some .dr, some (.int (n : Int)), none, none, none, none, none, none, none] (some s) = .nx [some .dr, some (.int (n : Int)), some (.int (r : Int)), none, none, none, none, none, none] (some s1) := by simp [e1]
  have q2 : cSet 3 (cLc [5] (iRg1 (cVar 1)) (gNm 5) cYes (cB gList (cCons (cCall f__law_row (cCons (cFrz (cVar 0)) (cCons (cFrz (cVar 1)) cNil))) cNil))) [some .dr, some (.int (n : Int)), some (.int (r : Int)), none, none, none, none, none, none] (some s1) = .nx (stT n r A none) (some s2) := by
    have r1 := i_rg1N (F := cVar 1) (ρ := [some .dr, some (.int (n : Int)), some (.int (r : Int)), none, none, none, none, none, none]) (dr := some s1) (dr' := some s1) (n := n) (by simp) (by omega)
    rw [e3, List.nil_append] at e2
    have all : cLc [5] (iRg1 (cVar 1)) (gNm 5) cYes (cB gList (cCons (cCall f__law_row (cCons (cFrz (cVar 0)) (cCons (cFrz (cVar 1)) cNil))) cNil)) [some .dr, some (.int (n : Int)), some (.int (r : Int)), none, none, none, none, none, none] (some s1) = .ok (lstT true n A) (some s2) := by
      rw [e_lc, r1, bind_ok]
      simp only [wipeD_cons, wipeD_nil, List.set_cons_succ, List.set_cons_zero]
      rw [e2, bind_ok]
      rfl
    have := set_nx (i := 3) all
    rw [fz_lstT] at this
    exact this
  obtain ⟨A1, q3, hA1⟩ := step_mask (T := cTst (cBin gGt (cVar 8) (cVar 6))) (n := n) (r := r) (k := 1) (A := A) (x4 := none) (dr := some s2) (by omega) hA (fun i j => decide ((i : Int) < (j : Int))) (fun i j _ _ => by simp)
  obtain ⟨A2, q4, hA2⟩ := step_mask (T := cTst (cBin gGe (cVar 8) (cVar 6))) (n := n) (r := r) (k := 2) (A := A1) (x4 := none) (dr := some s2) (by omega) hA1 (fun i j => decide ((i : Int) ≤ (j : Int))) (fun i j _ _ => by simp)
  obtain ⟨A3, x4, s3, q5, hA3, g3⟩ := step3 (r := r) g2 (by omega) hn hA2
  obtain ⟨A4, s4, q6, hA4, g4⟩ := step4 (r := r) (x4 := x4) g3 (by omega) hn hA3
  refine ⟨A4, s4, fnD_rt ?_, hA4, g4.mono (by omega)⟩
  show m__law_table [some .dr, some (.int (n : Int)), none, none, none, none, none, none, none] (some s) = _
  unfold m__law_table
  rw [seq_nx q1, seq_nx q2]
  refine (seq_nx q3).trans ?_
  refine (seq_nx q4).trans ?_
  rw [seq_nx q5, seq_nx q6]
  have lc := lcA_all (G := gNm 7) (F := cB gTuple (cCons (cVar 7) cNil)) (ρ := stT n r A4 x4) (e := fun i : Nat => D.lst false ((List.range n).map fun j => qD (A4 i j))) (f := fun i : Nat => rowL (List.range n) (A4 i)) (dr := some s4) (ys := List.range n) (fun i hi => ⟨_, rfl, by
    have g := gTuple_lst (o := false) (List.range n) (fun j => qD (A4 i j)) fun _ => rfl
    simp [stT, g]
    rfl⟩) (by rw [sizeLine_eq, List.length_range]; omega)
  have g := gTuple_lst (o := true) (List.range n) (fun i => rowL (List.range n) (A4 i)) fun _ => rfl
  have hi : iAny (cFrz (cVar 3)) (stT n r A4 x4) (some s4) = .ok ((List.range n).map fun i => D.lst false ((List.range n).map fun j => qD (A4 i j))) (some s4) := by
    have : D.fzs ((List.range n).map fun i => D.lst false ((List.range n).map fun j => qD (A4 i j))) = (List.range n).map fun i => D.lst false ((List.range n).map fun j => qD (A4 i j)) := fzs_frz _ _ fun i => by rw [fz_lst, fzs_qD]
    simp [stT, lstT, this]
  have hw : wipeD (stT n r A4 x4) [7] = stT n r A4 x4 := rfl
  rw [s_ret, e_b, e_cons, e_lc, hi, bind_ok, hw, lc]
  simp [g]
  rfl
/-! M35f -/
/-- pairs of places, the first not behind the second -/
def Pr (n : Nat) : List (Nat × Nat) := (List.range n).flatMap fun i => (List.range (n - i)).map fun k => (i, i + k)
theorem add_lists (o o' : Bool) (xs ys : List D) (h : xs.length + ys.length ≤ 1000) (hx : xs.all D.frz = true) (hy : ys.all D.frz = true) : gAdd (.lst o xs) (.lst o' ys) = some (.lst true (xs ++ ys)) := by
  show (if xs.length + ys.length ≤ sizeLine && xs.all D.frz && ys.all D.frz then some (D.lst true (xs ++ ys)) else none) = _
  rw [hx, hy, sizeLine_eq, decide_eq_true (show xs.length + ys.length ≤ 16777216 by omega)]
  rfl
theorem ix_rowR (n : Nat) (r : Nat → Rat) (k : Nat) (h : k < n) : gIx (rowL (List.range n) r) (.int (k : Int)) = some (qD (r k)) := by
  rw [ix_row _ _ _ (by rw [List.length_range]; exact h), List.getElem?_range h]
  rfl
theorem e__law_products {n N : Nat} {r : Nat → Rat} (hn : n ≤ 30) (hr : ∀ k, k < n → Sm N (r k)) (hN : N + N ≤ 9000) (dr : Dr) : f__law_products [rowL (List.range n) r] dr = .ok (rowL (Pr n) fun p => r p.1 * r p.2) dr := by
  refine fnD_rt ?_
  have inner : ∀ (i : Nat) (x : Option D), i < n → cLc [3] (iRg2 (cVar 2) (cB gLen (cCons (cVar 0) cNil))) (gNm 3) cYes (cCall f__law_times (cCons (cFrz (cBin gIx (cVar 0) (cVar 2))) (cCons (cFrz (cBin gIx (cVar 0) (cVar 3))) cNil))) [some (rowL (List.range n) r), x, some (.int (i : Int)), none] dr = .ok (.lst true ((List.range (n - i)).map fun k => qD (r i * r (i + k)))) dr := fun i x hi => by
    have lc := lcA_all (G := gNm 3) (F := cCall f__law_times (cCons (cFrz (cBin gIx (cVar 0) (cVar 2))) (cCons (cFrz (cBin gIx (cVar 0) (cVar 3))) cNil))) (ρ := [some (rowL (List.range n) r), x, some (.int (i : Int)), none]) (e := fun k : Nat => D.int ((i + k : Nat) : Int)) (f := fun k => qD (r i * r (i + k))) (dr := dr) (ys := List.range (n - i)) (fun k hk => ⟨_, rfl, by
      have hk := List.mem_range.mp hk
      have q1 := ix_rowR n r i hi
      have q2 := ix_rowR n r (i + k) (by omega)
      have t := e__law_times (hr i hi) (hr (i + k) (by omega)) hN dr
      simp only [e_call, e_cons, e_frz, e_bin, e_var, e_nil, List.set_cons_succ, List.set_cons_zero, List.getElem?_cons_zero, List.getElem?_cons_succ, bind_ok, q1, q2, ropt_some, frz_qD, if_true, fzs_cons, fz_qD, fzs_nil, t]⟩) (by rw [sizeLine_eq, List.length_range]; omega)
    have r2 := i_rg2N (F := cVar 2) (G := cB gLen (cCons (cVar 0) cNil)) (ρ := [some (rowL (List.range n) r), x, some (.int (i : Int)), none]) (dr := dr) (dr1 := dr) (dr2 := dr) (a := i) (n := n) (by simp) (by simp) (by omega) (by omega)
    rw [e_lc, r2, bind_ok]
    simp only [wipeD_cons, wipeD_nil, List.set_cons_succ, List.set_cons_zero]
    rw [lc, bind_ok]
    rfl
  have go := forG_fold (σ := List (Nat × Nat) × Option D) (ys := List.range n) (e := fun i : Nat => D.int (i : Int)) (G := gNm 2) (B := cSet 1 (cBin gAdd (cVar 1) (cLc [3] (iRg2 (cVar 2) (cB gLen (cCons (cVar 0) cNil))) (gNm 3) cYes (cCall f__law_times (cCons (cFrz (cBin gIx (cVar 0) (cVar 2))) (cCons (cFrz (cBin gIx (cVar 0) (cVar 3))) cNil)))))) (dr := dr)
    (st := fun s => [some (rowL (List.range n) r), some (.lst false (s.1.map fun p => qD (r p.1 * r p.2))), s.2, none]) (step := fun s i => (s.1 ++ (List.range (n - i)).map fun k => (i, i + k), some (.int (i : Int))))
    (P := fun ys s => (∀ i ∈ ys, i < n) ∧ s.1.length + 30 * ys.length ≤ 900) (fun s i ys ⟨p1, p2⟩ => by
      have hi := p1 i List.mem_cons_self
      rw [List.length_cons] at p2
      refine ⟨⟨fun j hj => p1 j (List.mem_cons_of_mem _ hj), by rw [List.length_append, List.length_map, List.length_range]; omega⟩, _, rfl, ?_⟩
      have q := inner i (some (.lst false (s.1.map fun p => qD (r p.1 * r p.2)))) hi
      have a := add_lists false true (s.1.map fun p => qD (r p.1 * r p.2)) ((List.range (n - i)).map fun k => qD (r i * r (i + k))) (by rw [List.length_map, List.length_map, List.length_range]; omega) (all_frz _ _ fun _ => rfl) (all_frz _ _ fun _ => rfl)
      have v : cBin gAdd (cVar 1) (cLc [3] (iRg2 (cVar 2) (cB gLen (cCons (cVar 0) cNil))) (gNm 3) cYes (cCall f__law_times (cCons (cFrz (cBin gIx (cVar 0) (cVar 2))) (cCons (cFrz (cBin gIx (cVar 0) (cVar 3))) cNil)))) [some (rowL (List.range n) r), some (.lst false (s.1.map fun p => qD (r p.1 * r p.2))), some (.int (i : Int)), none] dr = .ok (.lst true ((s.1.map fun p => qD (r p.1 * r p.2)) ++ (List.range (n - i)).map fun k => qD (r i * r (i + k)))) dr := by
        exact bin_ok (var_ok rfl) q a
      have := set_nx (i := 1) v
      refine this.trans ?_
      rw [fz_lst, fzs_map, List.map_append, List.map_map, List.map_map, List.map_append, List.map_map]
      rfl) (s := ([], none)) ⟨fun i hi => List.mem_range.mp hi, by rw [List.length_range, List.length_nil]; omega⟩
  have go := go.1
  have fl : ∀ (ys : List Nat) (s : List (Nat × Nat) × Option D), (ys.foldl (fun s i => (s.1 ++ (List.range (n - i)).map fun k => (i, i + k), some (D.int (i : Int)))) s).1 = s.1 ++ ys.flatMap fun i => (List.range (n - i)).map fun k => (i, i + k) := by
    intro ys
    induction ys with
    | nil => intro s; simp
    | cons y ys ih => intro s; rw [List.foldl_cons, ih, List.flatMap_cons, List.append_assoc]
  have r1 := i_rg1N (F := cB gLen (cCons (cVar 0) cNil)) (ρ := [some (rowL (List.range n) r), some (.lst false []), none, none]) (dr := dr) (dr' := dr) (n := n) (by simp) (by omega)
  show m__law_products [some (rowL (List.range n) r), none, none, none] dr = _
  unfold m__law_products
  rw [seq_nx (set_nx (d := .lst true []) (dr' := dr) (by simp))]
  show cSeq _ _ [some (rowL (List.range n) r), some (.lst false []), none, none] dr = _
  refine (seq_nx (for_ok r1 go)).trans ?_
  have g := gTuple_lst (o := false) (Pr n) (fun p => qD (r p.1 * r p.2)) fun _ => rfl
  rw [fl, List.nil_append]
  exact ret_ok (b_ok (cons_ok (var_ok rfl) rfl) g)
/-! M35g -/
/-- the paired table -/
def Sy (A : Nat → Nat → Rat) (p q : Nat × Nat) : Rat := if q.1 = q.2 then A p.1 q.1 * A p.2 q.2 else A p.1 q.1 * A p.2 q.2 + A p.1 q.2 * A p.2 q.1
theorem pr_lt {n : Nat} {p : Nat × Nat} (h : p ∈ Pr n) : p.1 < n ∧ p.2 < n := by
  obtain ⟨i, hi, hp⟩ := List.mem_flatMap.mp h
  obtain ⟨k, hk, rfl⟩ := List.mem_map.mp hp
  have := List.mem_range.mp hi
  have := List.mem_range.mp hk
  exact ⟨by assumption, by show i + k < n; omega⟩
theorem ix_tab (n : Nat) (A : Nat → Nat → Rat) (k : Nat) (h : k < n) : gIx (tabL (List.range n) (List.range n) A) (.int (k : Int)) = some (rowL (List.range n) (A k)) := by
  show atI ((List.range n).map fun i => rowL (List.range n) (A i)) (k : Int) = _
  refine atI_nat ?_
  rw [List.getElem?_map, List.getElem?_range h]
  rfl
/-- table[i][j] -/
theorem at_tab {n i j : Nat} {A : Nat → Nat → Rat} {F1 F2 : CEx} {x : Nat} {ρ : Rho} {dr : Dr} (hi : i < n) (hj : j < n) (h0 : cVar x ρ dr = .ok (tabL (List.range n) (List.range n) A) dr) (h1 : F1 ρ dr = .ok (.int (i : Int)) dr) (h2 : F2 ρ dr = .ok (.int (j : Int)) dr) : cFrz (cBin gIx (cBin gIx (cVar x) F1) F2) ρ dr = .ok (qD (A i j)) dr :=
  frz_ok (bin_ok (bin_ok h0 h1 (ix_tab n A i hi)) h2 (ix_rowR n (A i) j hj)) rfl
theorem len_tab (n : Nat) (A : Nat → Nat → Rat) : gLen [tabL (List.range n) (List.range n) A] = some (.int (n : Int)) := by
  show some (D.int (((List.range n).map fun i => rowL (List.range n) (A i)).length : Int)) = _
  rw [List.length_map, List.length_range]
/-- an item of the paired table -/
theorem sy_item {n : Nat} {A : Nat → Nat → Rat} {ρ : Rho} {dr : Dr} {p q : Nat × Nat} {N : Nat} (hA : ∀ i j, i < n → j < n → Sm N (A i j)) (hp : p.1 < n ∧ p.2 < n) (hq : q.1 < n ∧ q.2 < n) (hN : N + N + (N + N) ≤ 9000) (h0 : ρ[0]? = some (some (tabL (List.range n) (List.range n) A))) (h5 : ρ[5]? = some (some (.int (p.1 : Int)))) (h6 : ρ[6]? = some (some (.int (p.2 : Int)))) (h8 : ρ[8]? = some (some (.int (q.1 : Int)))) (h9 : ρ[9]? = some (some (.int (q.2 : Int)))) (h10 : ρ[10]? = some (some (qD (A p.1 q.1 * A p.2 q.2)))) :
    cIf (cTst (cBin gEq (cVar 8) (cVar 9))) (cFrz (cVar 10)) (cCall f_plus (cCons (cFrz (cVar 10)) (cCons (cCall f_times (cCons (cFrz (cBin gIx (cBin gIx (cVar 0) (cVar 5)) (cVar 9))) (cCons (cFrz (cBin gIx (cBin gIx (cVar 0) (cVar 6)) (cVar 8))) cNil))) cNil))) ρ dr = .ok (qD (Sy A p q)) dr := by
  have v0 : cVar 0 ρ dr = _ := var_ok h0
  have v5 : cVar 5 ρ dr = _ := var_ok h5
  have v6 : cVar 6 ρ dr = _ := var_ok h6
  have v8 : cVar 8 ρ dr = _ := var_ok h8
  have v9 : cVar 9 ρ dr = _ := var_ok h9
  have v10 : cVar 10 ρ dr = _ := var_ok h10
  have t : cTst (cBin gEq (cVar 8) (cVar 9)) ρ dr = .ok (decide (q.1 = q.2)) dr := by
    rw [e_tst, bin_ok v8 v9 rfl, bind_ok]
    show DL.R.ok _ dr = _
    congr 1
    rw [Bool.eq_iff_iff]
    simp [D.eqv]
    omega
  rw [e_if, t, bind_ok]
  unfold Sy
  by_cases h : q.1 = q.2
  · rw [if_pos (decide_eq_true h), if_pos h]
    exact frz_ok v10 rfl
  · rw [if_neg (by simpa using h), if_neg h]
    have a1 := hA p.1 q.1 hp.1 hq.1
    have a2 := hA p.2 q.2 hp.2 hq.2
    have a3 := hA p.1 q.2 hp.1 hq.2
    have a4 := hA p.2 q.1 hp.2 hq.1
    exact call_ok (cons_ok (frz_ok v10 rfl) (cons_ok (call_ok (cons_ok (at_tab hp.1 hq.2 v0 v5 v9) (cons_ok (at_tab hp.2 hq.1 v0 v6 v8) rfl)) (e_times a3 a4 (by omega) dr)) rfl)) (e_plus (a1.mul a2) (a3.mul a4) (by omega) dr)
/-! M35i -/
set_option maxHeartbeats 4000000
local macro_rules | `(tactic| walk_at "isi") => `(tactic| first | with_reducible exact isi_non_int | with_reducible exact isi_non_bool | with_reducible exact isi_non_str | with_reducible exact isi_non_tuple | with_reducible exact isi_non_list | with_reducible exact isi_bl_int | with_reducible exact isi_bl_bool | with_reducible exact isi_bl_str | with_reducible exact isi_bl_tuple | with_reducible exact isi_bl_list | with_reducible exact isi_int_int | with_reducible exact isi_int_bool | with_reducible exact isi_int_str | with_reducible exact isi_int_tuple | with_reducible exact isi_int_list | with_reducible exact isi_str_int | with_reducible exact isi_str_bool | with_reducible exact isi_str_str | with_reducible exact isi_str_tuple | with_reducible exact isi_str_list | with_reducible exact isi_tup_int | with_reducible exact isi_tup_bool | with_reducible exact isi_tup_str | with_reducible exact isi_tup_tuple | with_reducible exact isi_tup_list | with_reducible exact isi_lst_int | with_reducible exact isi_lst_bool | with_reducible exact isi_lst_str | with_reducible exact isi_lst_tuple | with_reducible exact isi_lst_list | with_reducible exact isi_qD_tuple | with_reducible exact isi_row_tuple | with_reducible exact isi_tab_tuple)
local macro_rules | `(tactic| walk_at "set") => `(tactic| first | with_reducible exact List.set_cons_zero | ((with_reducible refine' set_s ?h1); (case h1 => walk_at "set")))
local macro_rules | `(tactic| walk_at "fz") => `(tactic| first | with_reducible assumption | with_reducible exact fzs_nil | ((with_reducible refine' fzs_c ?h1 ?h2); (case h1 => walk_at "fz"); (case h2 => walk_at "fz")) | with_reducible exact fz_int | with_reducible exact fz_qD _ | with_reducible exact fz_row _ _ | with_reducible exact fz_tab _ _ _ | with_reducible exact fz_lstZ _ _ _ _ | with_reducible exact fz_lstQ _ _ _ | with_reducible exact fz_bl | with_reducible exact fz_non | with_reducible exact fz_dr | with_reducible exact fz_str | with_reducible exact fz_tup | ((with_reducible refine' fz_lstm ?h1); (case h1 => exact fun _ => rfl)) | ((with_reducible refine' fz_lst' ?h1); (case h1 => walk_at "fz")) | assumption | ((with_reducible refine' fzs_frz _ _ ?h1); (case h1 => exact fun _ => rfl)) | with_unfolding_all exact rfl)
local macro_rules | `(tactic| walk_at "wipe") => `(tactic| first | with_reducible exact wipe_nil | ((with_reducible refine' wipe_c ?h1 ?h2); (case h1 => walk_at "wipe"); (case h2 => walk_at "set")))
local macro_rules | `(tactic| walk_at "tg") => `(tactic| first | ((with_reducible refine' g_nm' ?h1); (case h1 => walk_at "set")) | ((refine' g_tp ?h1 ?h2); (case h1 => exact rfl); (case h2 => walk_at "tg")) | with_reducible exact gs_nil | ((with_reducible refine' gs_cons ?h1 ?h2); (case h1 => walk_at "tg"); (case h2 => walk_at "tg")))
local macro_rules | `(tactic| walk_at "small") => `(tactic| first | exact len_ok (Nat.le_of_ble_eq_true rfl) | exact len_ok (by simp only [List.length_map, List.length_range, List.length_cons, List.length_nil, List.length_append]; omega) | exact len_lt (by simp only [List.length_map, List.length_range, List.length_cons, List.length_nil, List.length_append]; omega))
local macro_rules | `(tactic| walk_at "op") => `(tactic| (first | ((with_reducible refine gIx' ?_); (first | with_reducible refine ow_num ?_ | with_reducible refine ow_den ?_ | ((with_reducible refine' ow_ixtab ?h1 ?_); (case h1 => omega)) | ((with_reducible refine' ow_ixrow ?h1 ?_); (case h1 => omega)) | ((with_reducible refine' ow_ixQ ?h1 ?_); (case h1 => omega)) | ((with_reducible refine' ow_ixZ ?h1 ?_); (case h1 => omega)) | ((with_reducible refine' ow_ixlst ?h1 ?_); (case h1 => omega)) | ((with_reducible refine' ow_ixtup ?h1 ?_); (case h1 => omega)) | ((with_reducible refine' ow_ixlst0 ?h1 ?_); (case h1 => omega)) | ((with_reducible refine' ow_ixtup0 ?h1 ?_); (case h1 => omega)) | with_reducible refine ow ix_0 ?_ | with_reducible refine ow ix_1 ?_ | ((with_reducible refine' ow_ixL ?h1 ?_); (case h1 => exact rfl)) | ((with_reducible refine' ow_ixT ?h1 ?_); (case h1 => exact rfl)) | ((with_reducible refine' ow ?h1 ?_); (case h1 => with_reducible assumption)))) | ((with_reducible refine gLen' ?_); (first | with_reducible refine ow_lentabR ?_ | with_reducible refine ow_lenrowR ?_ | with_reducible refine ow_lentab ?_ | with_reducible refine ow_lenrow ?_ | with_reducible refine ow_lenQ ?_ | with_reducible refine ow_lenZ ?_ | with_reducible refine ow_lenlstR ?_ | with_reducible refine ow_lenlst ?_ | with_reducible refine ow_lentup ?_ | with_reducible refine ow_lenT ?_ | with_reducible refine ow_lenL ?_ | ((with_reducible refine' ow ?h1 ?_); (case h1 => with_reducible assumption)))) | ((with_reducible refine gO1 ?_); (first | with_reducible refine ow_tupQ ?_ | ((with_reducible refine' ow_tuple ?h1 ?_); (case h1 => exact fun _ => rfl)) | ((with_reducible refine' ow_list ?h1 ?_); (case h1 => exact fun _ => rfl)) | with_reducible refine ow_listT ?_ | with_reducible refine ow_all ?_ | with_reducible refine ow_any ?_ | with_reducible refine ow_sum ?_ | with_reducible refine ow gabs_int ?_ | with_reducible refine ow gint_int ?_ | with_reducible refine ow gint_bl ?_ | ((with_reducible refine' ow ?h1 ?_); (case h1 => with_reducible assumption)))) | ((with_reducible refine gO2 ?_); (first | with_reducible refine ow gadd_int ?_ | with_reducible refine ow gsub_int ?_ | with_reducible refine ow gaddI_int ?_ | with_reducible refine ow geq_int ?_ | with_reducible refine ow gne_int ?_ | with_reducible refine ow glt_int ?_ | with_reducible refine ow gle_int ?_ | with_reducible refine ow ggt_int ?_ | with_reducible refine ow gge_int ?_ | ((with_reducible refine' ow ?h1 ?_); (case h1 => with_reducible assumption)))) | ((with_reducible refine' ow_isi ?h1 ?_); (case h1 => walk_at "isi")) | with_reducible refine ow_revQ ?_ | with_reducible refine ow_revR ?_ | ((with_reducible refine' ow ?h1 ?_); (case h1 => with_reducible assumption))))
local macro_rules | `(tactic| walk_at "fn") => `(tactic| first | ((with_reducible refine' ew_eq ?h1 ?_); (case h1 => with_reducible assumption)) | ((with_reducible refine' ew_eqx ?h1 ?_); (case h1 => with_reducible assumption)))
local macro_rules | `(tactic| walk_at "ev1") => `(tactic| (first | ((with_reducible refine gEW ?_); (first | ((with_reducible refine' ew_var ?h1 ?_); (case h1 => exact rfl)) | with_reducible refine ew_frz ?_ | with_reducible refine ew_k ?_ | with_reducible refine ew_bin ?_ | with_reducible refine ew_call ?_ | with_reducible refine ew_callE ?_ | with_reducible refine ew_cons ?_ | with_reducible refine ew_nil ?_ | with_reducible refine ew_tst ?_ | with_reducible refine ew_tru ?_ | with_reducible refine ew_yes ?_ | with_reducible refine ew_and ?_ | with_reducible refine ew_or ?_ | with_reducible refine ew_notT ?_ | with_reducible refine ew_not ?_ | with_reducible refine ew_if ?_ | with_reducible refine ew_andV ?_ | with_reducible refine ew_orV ?_ | with_reducible refine ew_chain ?_ | with_reducible refine ew_neg ?_ | with_reducible refine ew_tup ?_ | with_reducible refine ew_lst ?_ | with_reducible refine ew_b ?_ | with_reducible refine ew_isi ?_ | with_reducible refine ew_lc ?_ | with_reducible refine ew_lc2 ?_ | with_reducible refine iw_any ?_ | with_reducible refine iw_rg1 ?_ | with_reducible refine iw_rg2 ?_ | with_reducible refine iw_zip ?_ | with_reducible refine ew_sl ?_ | with_reducible refine ew_part ?_ | with_reducible refine ew_nopart ?_ | with_reducible refine ew_rev ?_ | with_reducible refine ew_lrg1 ?_ | (walk_at "fn"))) | ((with_reducible refine gSW ?_); (first | with_reducible refine sw_seq ?_ | with_reducible refine sw_set ?_ | with_reducible refine sw_setO ?_ | with_reducible refine sw_ret ?_ | with_reducible refine sw_skip ?_ | with_reducible refine sw_if ?_ | with_reducible refine sw_drop ?_ | ((with_reducible refine' sw_fz ?h1 ?_); (case h1 => exact rfl)) | with_reducible refine sw_retN ?_ | with_reducible refine sw_raise ?_ | with_reducible refine sw_par2 ?_ | with_reducible refine sw_par3 ?_ | with_reducible refine sw_parN (by decide) ?_ | ((with_reducible refine' sw_app ?h1 ?_); (case h1 => exact rfl)) | with_reducible refine sw_asg ?_ | with_reducible refine sw_try ?_ | with_reducible refine sw_bk ?_ | with_reducible refine sw_ct ?_)) | ((with_reducible refine gOW ?_); (walk_at "op")) | ((with_reducible refine gAnd ?_); (first | with_reducible refine And.intro (by with_unfolding_all exact rfl) ?_ | with_reducible refine And.intro (by assumption) ?_ | with_reducible refine And.intro (by walk_at "small") ?_)) | ((with_reducible refine gIf ?_); (first | with_reducible refine ifw_t ?_ | with_reducible refine ifw_f ?_ | with_reducible refine ifw_n ?_)) | with_reducible refine sq_nx ?_ | with_reducible refine fq_rt ?_ | with_reducible refine lq_nx ?_ | with_reducible refine fq_nx ?_ | with_reducible refine fq_ex ?_ | with_reducible refine sq_rt ?_ | with_reducible refine sq_ex ?_ | with_reducible refine lq_rt ?_ | with_reducible refine lq_ct ?_ | with_reducible refine lq_bk ?_ | with_reducible refine lq_ex ?_ | with_reducible refine tq_rt ?_ | with_reducible refine tq_nx ?_ | ((with_reducible refine' fzl ?h1 ?_); (case h1 => walk_at "fz")) | ((with_reducible refine' fzd ?h1 ?_); (case h1 => walk_at "fz")) | ((with_reducible refine' stw ?h1 ?_); (case h1 => walk_at "set")) | ((with_reducible refine' wpw ?h1 ?_); (case h1 => walk_at "wipe")) | ((with_reducible refine' tgw ?h1 ?_); (case h1 => walk_at "tg")) | ((with_reducible refine' trw ?h1 ?_); (case h1 => exact rfl)) | with_reducible refine tb_bl ?_ | ((with_reducible refine' callw ?h1 ?_); (case h1 => exact rfl)) | ((with_reducible refine' tq_ex ?h1 ?_); (case h1 => exact rfl)) | with_reducible refine int_w ?_ | with_reducible refine it_tup ?_ | with_reducible refine it_tab ?_ | with_reducible refine it_row ?_ | with_reducible refine it_lstQ ?_ | ((with_reducible refine' it_lst ?h1 ?_); (case h1 => walk_at "fz")) | with_reducible refine p2 ?_ | with_reducible refine p3 ?_ | with_reducible refine setw_cons ?_ | with_reducible refine setw_nil ?_ | ((with_reducible refine' rgw_n ?h1 ?_); (case h1 => omega)) | with_reducible refine zpw_rr ?_ | ((with_reducible refine' zpw_ll ?h1 ?h2 ?_); (case h1 => walk_at "fz"); (case h2 => walk_at "fz"))))
local macro_rules | `(tactic| walk_at "ev") => `(tactic| repeat' walk_at "ev1")
theorem pr_len {n : Nat} (h : n ≤ 4) : (Pr n).length ≤ 20 := by
  have : n = 0 ∨ n = 1 ∨ n = 2 ∨ n = 3 ∨ n = 4 := by omega
  rcases this with rfl | rfl | rfl | rfl | rfl <;> decide
def pD (q : Nat × Nat) : D := .tup [.int (q.1 : Int), .int (q.2 : Int)]
theorem fzs_pD (l : List (Nat × Nat)) : D.fzs (l.map pD) = l.map pD := fzs_frz _ _ fun _ => rfl
theorem e_pair_power {n N : Nat} {A : Nat → Nat → Rat} (hn : n ≤ 4) (hA : ∀ i j, i < n → j < n → Sm N (A i j)) (hN : N + N + (N + N) ≤ 9000) (dr : Dr) : f_pair_power [tabL (List.range n) (List.range n) A] dr = .ok (tabL (Pr n) (Pr n) (Sy A)) dr := by
  have hl := pr_len hn
  have mem : ∀ {ws zs : List (Nat × Nat)} {y}, Pr n = ws ++ y :: zs → y.1 < n ∧ y.2 < n ∧ ws.length ≤ 20 := fun {ws zs y} h => ⟨(pr_lt (h ▸ List.mem_append_right _ List.mem_cons_self)).1, (pr_lt (h ▸ List.mem_append_right _ List.mem_cons_self)).2, by rw [h, List.length_append] at hl; omega⟩
  have hl2 : ((List.range n).flatMap fun i => List.range (n - i)).length ≤ sizeLine := by
    have : ((List.range n).flatMap fun i => List.range (n - i)).length = (Pr n).length := by
      unfold Pr; rw [List.length_flatMap, List.length_flatMap]; simp
    rw [this]
    exact len_ok (by omega)
  refine ew_of ?_
  unfold f_pair_power
  with_reducible refine fw1 ?_
  simp only [List.reduceReplicate]
  unfold m_pair_power
  walk_at "ev"
  with_reducible refine lc2w_all _ (fun i => List.range (n - i)) (fun i k => D.int ((i + k : Nat) : Int)) (fun i k => pD (i, i + k)) (List.range n) (by with_unfolding_all exact rfl) hl2 (by walk_at "wipe") (fun i hi => ?_) ?_
  · have hi := List.mem_range.mp hi
    walk_at "ev"
    intro k hk
    have hk := List.mem_range.mp hk
    walk_at "ev"
    rfl
  rw [show ((List.range n).flatMap fun y => (List.range (n - y)).map fun k => pD (y, y + k)) = (Pr n).map pD from by
    unfold Pr; rw [List.map_flatMap]
    congr 1
    funext i
    rw [List.map_map]
    rfl]
  walk_at "ev"
  with_reducible refine sw_for pD (Pr n) (fun zs ρ d => d = dr ∧ ∃ ws x3 x4 x5 x6 x7 x8 x9 x10, Pr n = ws ++ zs ∧ ρ = [some (tabL (List.range n) (List.range n) A), some (D.lst false (List.map pD (Pr n))), some (.lst true (ws.map fun p => rowL (Pr n) (Sy A p))), x3, x4, x5, x6, x7, x8, x9, x10]) ?_ ?_ ?_
  · walk_at "ev"
    exact ⟨[], _, _, _, _, _, _, _, _, rfl, rfl⟩
  · rintro p zs ρ d ⟨rfl, ws, x3, x4, x5, x6, x7, x8, x9, x10, hw, rfl⟩
    have hp := mem hw
    walk_at "ev"
    with_reducible refine sw_for pD (Pr n) (fun zt ρ d' => d' = d ∧ ∃ wt x8 x9 x10, Pr n = wt ++ zt ∧ ρ = [some (tabL (List.range n) (List.range n) A), some (D.lst false (List.map pD (Pr n))), some (.lst true (ws.map fun p => rowL (Pr n) (Sy A p))), x3, x4, some (.int (p.1 : Int)), some (.int (p.2 : Int)), some (.lst true (wt.map fun q => qD (Sy A p q))), x8, x9, x10]) ?_ ?_ ?_
    · walk_at "ev"
      exact ⟨[], _, _, _, rfl, rfl⟩
    · rintro q zt ρ d' ⟨rfl, wt, x8, x9, x10, hw2, rfl⟩
      have hq := mem hw2
      have t1 := e_times (hA p.1 q.1 hp.1 hq.1) (hA p.2 q.2 hp.2.1 hq.2.1) (by omega) d'
      walk_at "ev"
      with_reducible refine ifw_b (fun h => ?_) (fun h => ?_)
      · walk_at "ev"
        have e : (wt ++ [q]).map (fun q => qD (Sy A p q)) = wt.map (fun q => qD (Sy A p q)) ++ [qD (A p.1 q.1 * A p.2 q.2)] := by rw [List.map_append, List.map_singleton, show Sy A p q = A p.1 q.1 * A p.2 q.2 from if_pos (by omega)]
        exact ⟨wt ++ [q], _, _, _, by rw [hw2, List.append_assoc]; rfl, by rw [e]⟩
      · have t2 := e_times (hA p.1 q.2 hp.1 hq.2.1) (hA p.2 q.1 hp.2.1 hq.1) (by omega) d'
        have t3 := e_plus ((hA p.1 q.1 hp.1 hq.1).mul (hA p.2 q.2 hp.2.1 hq.2.1)) ((hA p.1 q.2 hp.1 hq.2.1).mul (hA p.2 q.1 hp.2.1 hq.1)) (by omega) d'
        walk_at "ev"
        have e : (wt ++ [q]).map (fun q => qD (Sy A p q)) = wt.map (fun q => qD (Sy A p q)) ++ [qD (A p.1 q.1 * A p.2 q.2 + A p.1 q.2 * A p.2 q.1)] := by rw [List.map_append, List.map_singleton, show Sy A p q = A p.1 q.1 * A p.2 q.2 + A p.1 q.2 * A p.2 q.1 from if_neg (by omega)]
        exact ⟨wt ++ [q], _, _, _, by rw [hw2, List.append_assoc]; rfl, by rw [e]⟩
    · rintro ρ d2 ⟨rfl, wt, x8, x9, x10, hw2, rfl⟩
      rw [List.append_nil] at hw2
      subst hw2
      walk_at "ev"
      exact ⟨ws ++ [p], _, _, _, _, _, _, _, _, by rw [hw, List.append_assoc]; rfl, by rw [List.map_append, List.map_singleton]; rfl⟩
  · rintro ρ d ⟨rfl, ws, x3, x4, x5, x6, x7, x8, x9, x10, hw, rfl⟩
    rw [List.append_nil] at hw
    subst hw
    walk_at "ev"
    rfl
/-! M35j -/
theorem e_is_whole {d : D} (h : d.cl = true) (dr : Dr) : f_is_whole [d] dr = .ok (.bl d.isW) dr := by
  cases d
  case fn => cases h
  case dr => cases h
  all_goals
    refine ew_of ?_
    unfold f_is_whole
    with_reducible refine fw1 ?_
    simp only [List.reduceReplicate]
    unfold m_is_whole
    walk_at "ev"
    rfl
theorem isQ_0 : (D.tup []).isQ = false := rfl
theorem isQ_1 (x : D) : (D.tup [x]).isQ = false := by cases x <;> rfl
theorem isQ_3 (x y z : D) (t : List D) : (D.tup (x :: y :: z :: t)).isQ = false := by cases x <;> cases y <;> rfl
theorem isQ_w {x y : D} (h : (x.isW && y.isW) = false) : (D.tup [x, y]).isQ = false := by cases x <;> cases y <;> first | rfl | cases h
theorem e_is_ratio {d : D} (h : d.cl = true) (dr : Dr) : f_is_ratio [d] dr = .ok (.bl d.isQ) dr := by
  cases d
  case fn => cases h
  case dr => cases h
  case tup xs =>
    have hx := cls_mem (xs := xs) h
    match xs, hx with
    | [], _ =>
      refine ew_of ?_
      unfold f_is_ratio
      with_reducible refine fw1 ?_
      simp only [List.reduceReplicate]
      unfold m_is_ratio
      walk_at "ev"
      with_reducible refine ifw_b (fun h => ?_) (fun h => ?_)
      · exact absurd h (by decide)
      · walk_at "ev"
        rfl
    | [x], _ =>
      refine ew_of ?_
      unfold f_is_ratio
      with_reducible refine fw1 ?_
      simp only [List.reduceReplicate]
      unfold m_is_ratio
      walk_at "ev"
      with_reducible refine ifw_b (fun h => ?_) (fun h => ?_)
      · exact absurd h (by simp)
      · walk_at "ev"
        rw [isQ_1]
    | x :: y :: z :: t, _ =>
      refine ew_of ?_
      unfold f_is_ratio
      with_reducible refine fw1 ?_
      simp only [List.reduceReplicate]
      unfold m_is_ratio
      walk_at "ev"
      with_reducible refine ifw_b (fun h => ?_) (fun h => ?_)
      · exfalso
        simp only [List.length_cons] at h
        omega
      · walk_at "ev"
        rw [isQ_3]
    | [x, y], hx =>
      have c1 := hx x List.mem_cons_self
      have c2 := hx y (List.mem_cons_of_mem _ List.mem_cons_self)
      have h1 := e_is_whole c1 dr
      have h2 := e_is_whole c2 dr
      have z1 := fz_cl x c1
      have z2 := fz_cl y c2
      have r1 := frz_cl c1
      have r2 := frz_cl c2
      refine ew_of ?_
      unfold f_is_ratio
      with_reducible refine fw1 ?_
      simp only [List.reduceReplicate]
      unfold m_is_ratio
      walk_at "ev"
      with_reducible refine ifw_b (fun h => ?_) (fun h => absurd rfl h)
      walk_at "ev"
      with_reducible refine ifw (fun h => ?_) (fun h => ?_)
      · walk_at "ev"
        with_reducible refine ifw (fun h' => ?_) (fun h' => ?_)
        · obtain ⟨a, rfl⟩ : ∃ a, x = .int a := by cases x <;> first | exact ⟨_, rfl⟩ | cases h
          obtain ⟨b, rfl⟩ : ∃ a, y = .int a := by cases y <;> first | exact ⟨_, rfl⟩ | cases h'
          have hc := e_common a b dr
          walk_at "ev"
          with_reducible refine ifw_d (fun p => ?_) (fun p => ?_)
          · walk_at "ev"
            show DL.R.ok (D.bl _) dr = .ok (.bl (decide (0 < b) && (Int.gcd a b == 1))) dr
            rw [decide_eq_true p]
            congr 2
            rw [Bool.eq_iff_iff]
            simp
            omega
          · walk_at "ev"
            show _ = DL.R.ok (D.bl (decide (0 < b) && (Int.gcd a b == 1))) dr
            rw [decide_eq_false p]
            rfl
        · walk_at "ev"
          rw [isQ_w (by rw [h']; exact Bool.and_false _)]
      · walk_at "ev"
        rw [isQ_w (by rw [h]; rfl)]
  all_goals
    refine ew_of ?_
    unfold f_is_ratio
    with_reducible refine fw1 ?_
    simp only [List.reduceReplicate]
    unfold m_is_ratio
    walk_at "ev"
    rfl
theorem e_has_shape {d : D} (h : d.cl = true) (n : Int) (dr : Dr) : f_has_shape [d, .int n] dr = .ok (.bl (match d with | .tup xs => (xs.length : Int) == n | _ => false)) dr := by
  cases d
  case fn => cases h
  case dr => cases h
  all_goals
    refine ew_of ?_
    unfold f_has_shape
    with_reducible refine fw2 ?_
    simp only [List.reduceReplicate]
    unfold m_has_shape
    walk_at "ev"
    rfl
theorem e_is_row {d : D} (h : d.cl = true) {n : Int} (hl : ∀ xs, d = .tup xs → xs.length ≤ 1000) (dr : Dr) : f_is_row [.int n, d] dr = .ok (.bl (isRow n d)) dr := by
  have hs := e_has_shape h n dr
  have z := fz_cl d h
  have r := frz_cl h
  refine ew_of ?_
  unfold f_is_row
  with_reducible refine fw2 ?_
  simp only [List.reduceReplicate]
  unfold m_is_row
  walk_at "ev"
  cases d
  case tup xs =>
    have l := hl xs rfl
    have hx := cls_mem (xs := xs) h
    with_reducible refine ifw_b (fun h => ?_) (fun h => ?_)
    · walk_at "ev"
      with_reducible refine lcw_all (fun x => x) (fun x => .bl x.isQ) xs (by simp) (len_ok l) (by walk_at "wipe") (fun x hm => ?_) ?_
      · have e := e_is_ratio (hx x hm) dr
        have z := fz_cl x (hx x hm)
        have r := frz_cl (hx x hm)
        walk_at "ev"
        rfl
      · walk_at "ev"
        show _ = DL.R.ok (D.bl (((xs.length : Int) == n) && xs.all D.isQ)) dr
        rw [h]
        simp
    · walk_at "ev"
      show _ = DL.R.ok (D.bl (((xs.length : Int) == n) && xs.all D.isQ)) dr
      simp [h]
  all_goals
    walk_at "ev"
    rfl
/-! M35k -/
/-- not too wide: tuples of tuples -/
def wide2 (d : D) : Prop := ∀ xs, d = .tup xs → xs.length ≤ 1000 ∧ ∀ x ∈ xs, ∀ ys, x = .tup ys → ys.length ≤ 1000
theorem e_is_square {d : D} (h : d.cl = true) {n : Int} (hl : wide2 d) (dr : Dr) : f_is_square [.int n, d] dr = .ok (.bl (isSq n d)) dr := by
  have hs := e_has_shape h n dr
  have z := fz_cl d h
  have r := frz_cl h
  refine ew_of ?_
  unfold f_is_square
  with_reducible refine fw2 ?_
  simp only [List.reduceReplicate]
  unfold m_is_square
  walk_at "ev"
  cases d
  case tup xs =>
    have l := (hl xs rfl).1
    have hx := cls_mem (xs := xs) h
    with_reducible refine ifw_b (fun h => ?_) (fun h => ?_)
    · walk_at "ev"
      with_reducible refine lcw_all (fun x => x) (fun x => .bl (isRow n x)) xs (by simp) (len_ok l) (by walk_at "wipe") (fun x hm => ?_) ?_
      · have e := e_is_row (hx x hm) (n := n) (fun ys hy => (hl xs rfl).2 x hm ys hy) dr
        have z := fz_cl x (hx x hm)
        have r := frz_cl (hx x hm)
        walk_at "ev"
        rfl
      · walk_at "ev"
        show _ = DL.R.ok (D.bl (((xs.length : Int) == n) && xs.all (isRow n))) dr
        rw [h]
        simp
    · walk_at "ev"
      show _ = DL.R.ok (D.bl (((xs.length : Int) == n) && xs.all (isRow n))) dr
      simp [h]
  all_goals
    walk_at "ev"
    rfl
theorem e_is_table {d : D} (h : d.cl = true) (hl : wide2 d) (dr : Dr) : f_is_table [d] dr = .ok (.bl (isTab d)) dr := by
  cases d
  case fn => cases h
  case dr => cases h
  case tup xs =>
    have hs := e_is_square h (n := xs.length) hl dr
    refine ew_of ?_
    unfold f_is_table
    with_reducible refine fw1 ?_
    simp only [List.reduceReplicate]
    unfold m_is_table
    walk_at "ev"
    with_reducible refine ifw_d (fun p => ?_) (fun p => ?_)
    · walk_at "ev"
      with_reducible refine ifw_d (fun p2 => ?_) (fun p2 => ?_)
      · walk_at "ev"
        show _ = DL.R.ok (D.bl (decide (0 < (xs.length : Int)) && decide ((xs.length : Int) ≤ 4) && isSq xs.length (.tup xs))) dr
        rw [decide_eq_true p, decide_eq_true p2]
        rfl
      · walk_at "ev"
        show _ = DL.R.ok (D.bl (decide (0 < (xs.length : Int)) && decide ((xs.length : Int) ≤ 4) && isSq xs.length (.tup xs))) dr
        rw [decide_eq_true p, decide_eq_false p2]
        rfl
    · walk_at "ev"
      show _ = DL.R.ok (D.bl (decide (0 < (xs.length : Int)) && decide ((xs.length : Int) ≤ 4) && isSq xs.length (.tup xs))) dr
      rw [decide_eq_false p]
      rfl
  all_goals
    refine ew_of ?_
    unfold f_is_table
    with_reducible refine fw1 ?_
    simp only [List.reduceReplicate]
    unfold m_is_table
    walk_at "ev"
    rfl
theorem e_check_table {d : D} (h : d.cl = true) (hl : wide2 d) (t : isTab d = true) (dr : Dr) : f_check_table [d] dr = .ok .non dr := by
  have hs := e_is_table h hl dr
  have z := fz_cl d h
  have r := frz_cl h
  rw [t] at hs
  refine ew_of ?_
  unfold f_check_table
  with_reducible refine fw1 ?_
  simp only [List.reduceReplicate]
  unfold m_check_table
  walk_at "ev"
  rfl
def mal : Exn := ⟨"Malformed", none⟩
theorem x_check_table {d : D} (h : d.cl = true) (hl : wide2 d) (t : isTab d = false) (dr : Dr) : f_check_table [d] dr = .ex mal dr := by
  have hs := e_is_table h hl dr
  have z := fz_cl d h
  have r := frz_cl h
  rw [t] at hs
  refine ew_ofx ?_
  unfold f_check_table
  with_reducible refine fw1 ?_
  simp only [List.reduceReplicate]
  unfold m_check_table
  walk_at "ev"
  rfl
theorem e_is_equation {d : D} (h : d.cl = true) (hl : ∀ xs, d = .tup xs → xs.length ≤ 1000) (hok : ∀ x xs, d = .tup (x :: xs) → isRow (x :: xs).length d = true → x.ok = true) (dr : Dr) : f_is_equation [d] dr = .ok (.bl (isEqn d)) dr := by
  cases d
  case fn => cases h
  case dr => cases h
  case tup xs =>
    have hs := e_is_row h (n := xs.length) hl dr
    cases xs with
    | nil =>
      refine ew_of ?_
      unfold f_is_equation
      with_reducible refine fw1 ?_
      simp only [List.reduceReplicate]
      unfold m_is_equation
      walk_at "ev"
      with_reducible refine ifw_d (fun p => absurd p (by simp)) (fun p => ?_)
      walk_at "ev"
      rfl
    | cons x xs =>
      have fin : ∀ b : Bool, b = (decide (1 < ((x :: xs).length : Int)) && decide (((x :: xs).length : Int) ≤ 21) && isRow (x :: xs).length (.tup (x :: xs)) && x.eqv (.tup [.int 1, .int 1])) → DL.R.ok (D.bl b) dr = DL.R.ok (D.bl (isEqn (.tup (x :: xs)))) dr := fun b h => by rw [h]; rfl
      refine ew_of ?_
      unfold f_is_equation
      with_reducible refine fw1 ?_
      simp only [List.reduceReplicate]
      unfold m_is_equation
      walk_at "ev"
      with_reducible refine ifw_d (fun p => ?_) (fun p => ?_)
      · walk_at "ev"
        with_reducible refine ifw_d (fun p2 => ?_) (fun p2 => ?_)
        · have p2 : ((x :: xs).length : Int) ≤ 21 := p2
          walk_at "ev"
          with_reducible refine ifw (fun p3 => ?_) (fun p3 => ?_)
          · have ok := hok x xs rfl p3
            have e : gEq x (.tup [.int 1, .int 1]) = some (.bl (x.eqv (.tup [.int 1, .int 1]))) := by
              unfold gEq
              rw [ok]; rfl
            walk_at "ev"
            exact fin _ (by rw [decide_eq_true p, decide_eq_true p2, p3]; rfl)
          · walk_at "ev"
            exact fin _ (by rw [decide_eq_true p, decide_eq_true p2, p3]; rfl)
        · have p2 : ¬ ((x :: xs).length : Int) ≤ 21 := p2
          walk_at "ev"
          exact fin _ (by rw [decide_eq_true p, decide_eq_false p2]; rfl)
      · walk_at "ev"
        exact fin _ (by rw [decide_eq_false p]; rfl)
  all_goals
    refine ew_of ?_
    unfold f_is_equation
    with_reducible refine fw1 ?_
    simp only [List.reduceReplicate]
    unfold m_is_equation
    walk_at "ev"
    rfl
theorem e_check_equation {d : D} (h : d.cl = true) (hl : ∀ xs, d = .tup xs → xs.length ≤ 1000) (hok : ∀ x xs, d = .tup (x :: xs) → isRow (x :: xs).length d = true → x.ok = true) (t : isEqn d = true) (dr : Dr) : f_check_equation [d] dr = .ok .non dr := by
  have hs := e_is_equation h hl hok dr
  have z := fz_cl d h
  have r := frz_cl h
  rw [t] at hs
  refine ew_of ?_
  unfold f_check_equation
  with_reducible refine fw1 ?_
  simp only [List.reduceReplicate]
  unfold m_check_equation
  walk_at "ev"
  rfl
theorem x_check_equation {d : D} (h : d.cl = true) (hl : ∀ xs, d = .tup xs → xs.length ≤ 1000) (hok : ∀ x xs, d = .tup (x :: xs) → isRow (x :: xs).length d = true → x.ok = true) (t : isEqn d = false) (dr : Dr) : f_check_equation [d] dr = .ex mal dr := by
  have hs := e_is_equation h hl hok dr
  have z := fz_cl d h
  have r := frz_cl h
  rw [t] at hs
  refine ew_ofx ?_
  unfold f_check_equation
  with_reducible refine fw1 ?_
  simp only [List.reduceReplicate]
  unfold m_check_equation
  walk_at "ev"
  rfl
theorem e_check_point {d : D} (h : d.cl = true) (t : d.isQ = true) (dr : Dr) : f_check_point [d] dr = .ok .non dr := by
  have hs := e_is_ratio h dr
  have z := fz_cl d h
  have r := frz_cl h
  rw [t] at hs
  refine ew_of ?_
  unfold f_check_point
  with_reducible refine fw1 ?_
  simp only [List.reduceReplicate]
  unfold m_check_point
  walk_at "ev"
  rfl
theorem x_check_point {d : D} (h : d.cl = true) (t : d.isQ = false) (dr : Dr) : f_check_point [d] dr = .ex mal dr := by
  have hs := e_is_ratio h dr
  have z := fz_cl d h
  have r := frz_cl h
  rw [t] at hs
  refine ew_ofx ?_
  unfold f_check_point
  with_reducible refine fw1 ?_
  simp only [List.reduceReplicate]
  unfold m_check_point
  walk_at "ev"
  rfl
/-! M35l -/
theorem lcm_step {f n : Nat} (hf : 0 < f) (hn : 0 < n) : (f : Int) * (Rat.divInt (n : Int) (f : Int)).num = ((Nat.lcm f n : Nat) : Int) := by
  rw [Rat.num_divInt, Int.sign_eq_one_of_pos (by omega), Int.one_mul]
  have : Int.gcd (f : Int) (n : Int) = Nat.gcd f n := rfl
  rw [this]
  obtain ⟨k, hk⟩ := Nat.gcd_dvd_right f n
  have g0 : 0 < Nat.gcd f n := Nat.gcd_pos_of_pos_left _ hf
  have e1 : (n : Int) / (Nat.gcd f n : Int) = (k : Int) := by
    rw [show (n : Int) = (Nat.gcd f n : Int) * (k : Int) from by rw [← Int.natCast_mul, ← hk]]
    exact Int.mul_ediv_cancel_left _ (by omega)
  rw [e1, ← Int.natCast_mul]
  congr 1
  unfold Nat.lcm
  have : f * n = Nat.gcd f n * (f * k) := by rw [Nat.mul_left_comm, ← hk]
  rw [this, Nat.mul_div_cancel_left _ g0]
def lcmL (l : List Nat) : Nat := l.foldl Nat.lcm 1
theorem lcm_foldl (M : Nat) : ∀ (l : List Nat) (f : Nat), f ∣ M → (∀ x ∈ l, x ∣ M) → l.foldl Nat.lcm f ∣ M
  | [], f, h, _ => h
  | x :: l, f, h, k => lcm_foldl M l _ (Nat.lcm_dvd h (k x List.mem_cons_self)) fun y hy => k y (List.mem_cons_of_mem _ hy)
theorem lcm_dvds : ∀ (l : List Nat) (f : Nat), f ∣ l.foldl Nat.lcm f ∧ ∀ x ∈ l, x ∣ l.foldl Nat.lcm f
  | [], f => ⟨Nat.dvd_refl _, fun _ h => nomatch h⟩
  | x :: l, f => by
    obtain ⟨h1, h2⟩ := lcm_dvds l (Nat.lcm f x)
    refine ⟨Nat.dvd_trans (Nat.dvd_lcm_left ..) h1, fun y hy => ?_⟩
    rcases List.mem_cons.mp hy with z | z
    · rw [z]; exact Nat.dvd_trans (Nat.dvd_lcm_right ..) h1
    · exact h2 y z
theorem lcm_pos' : ∀ (l : List Nat) (f : Nat), 0 < f → (∀ x ∈ l, 0 < x) → 0 < l.foldl Nat.lcm f
  | [], f, h, _ => h
  | x :: l, f, h, k => lcm_pos' l _ (Nat.lcm_pos h (k x List.mem_cons_self)) fun y hy => k y (List.mem_cons_of_mem _ hy)
theorem e_least_common {ι : Type} {K : List ι} {d : ι → Nat} {M N : Nat} (hd : ∀ i ∈ K, 0 < d i ∧ d i ∣ M) (hM : M < 2 ^ N) (h0 : 0 < M) (hN : N ≤ 9000) (dr : Dr) : f_least_common [.lst false (K.map fun i => .int (d i : Int))] dr = .ok (.int (lcmL (K.map d) : Int)) dr := by
  have bnd : ∀ x : Nat, x ∣ M → ((x : Int)).natAbs < 2 ^ N := fun x hx => by
    rw [Int.natAbs_natCast]
    exact Nat.lt_of_le_of_lt (Nat.le_of_dvd h0 hx) hM
  have N0 : 0 < N := by
    rcases Nat.eq_zero_or_pos N with z | z
    · subst z; omega
    · exact z
  refine ew_of ?_
  unfold f_least_common
  with_reducible refine fw1 ?_
  simp only [List.reduceReplicate]
  unfold m_least_common
  walk_at "ev"
  with_reducible refine sw_for (fun i => D.int (d i : Int)) K (fun zs ρ d' => d' = dr ∧ ∃ ws x2, K = ws ++ zs ∧ ρ = [some (.lst false (K.map fun i => .int (d i : Int))), some (.int (lcmL (ws.map d) : Int)), x2]) ?_ ?_ ?_
  · walk_at "ev"
    exact ⟨[], _, rfl, rfl⟩
  · rintro y zs ρ d' ⟨rfl, ws, x2, hw, rfl⟩
    have hy := hd y (hw ▸ List.mem_append_right _ List.mem_cons_self)
    have hws : ∀ x ∈ ws.map d, 0 < x ∧ x ∣ M := fun x hx => by
      obtain ⟨i, hi, rfl⟩ := List.mem_map.mp hx
      exact hd i (hw ▸ List.mem_append_left _ hi)
    have fM : lcmL (ws.map d) ∣ M := lcm_foldl M _ 1 (Nat.one_dvd _) fun x hx => (hws x hx).2
    have f0 : 0 < lcmL (ws.map d) := lcm_pos' _ 1 (by decide) fun x hx => (hws x hx).1
    have e := e_lowest (n := (d y : Int)) (d := (lcmL (ws.map d) : Int)) (by omega) (bnd _ fM) hN d'
    have st := lcm_step f0 hy.1
    have b2 : (Rat.divInt (d y : Int) (lcmL (ws.map d) : Int)).num.natAbs < 2 ^ N := (divInt_sm (bnd _ hy.2) (bnd _ fM) (by omega)).n
    walk_at "ev"
    with_reducible refine ow_mulI (by have := lg (bnd _ fM) N0; have := lg b2 N0; omega) ?_
    rw [st]
    walk_at "ev"
    have e : lcmL ((ws ++ [y]).map d) = Nat.lcm (lcmL (ws.map d)) (d y) := by
      unfold lcmL; rw [List.map_append, List.foldl_append]; rfl
    exact ⟨ws ++ [y], _, by rw [hw, List.append_assoc]; rfl, by rw [e]⟩
  · rintro ρ d' ⟨rfl, ws, x2, hw, rfl⟩
    rw [List.append_nil] at hw
    subst hw
    walk_at "ev"
    rfl
/-- the table's least common lower number -/
def byOf {ι κ : Type} (I : List ι) (J : List κ) (A : ι → κ → Rat) : Nat := lcmL ((I.flatMap fun i => J.map fun j => (i, j)).map fun p => (A p.1 p.2).den)
def whO {ι κ : Type} (I : List ι) (J : List κ) (A : ι → κ → Rat) (i : ι) (j : κ) : Int := (A i j).num * ((byOf I J A / (A i j).den : Nat) : Int)
theorem e_whole_table {ι κ : Type} {I : List ι} {J : List κ} {A : ι → κ → Rat} {M N : Nat} (hI : I.length ≤ 30) (hJ : J.length ≤ 30) (hA : ∀ i ∈ I, ∀ j ∈ J, (A i j).den ∣ M ∧ (A i j).num.natAbs < 2 ^ N) (hM : M < 2 ^ N) (h0 : 0 < M) (hN : N ≤ 9000) (dr : Dr) :
    f_whole_table [tabL I J A] dr = .ok (.tup [lstZ false I J (whO I J A), .int (byOf I J A : Int)]) dr := by
  have len : (I.flatMap fun _ => J).length ≤ sizeLine := len_ok (by
    have : ∀ I : List ι, (I.flatMap fun _ => J).length = I.length * J.length := by
      intro I
      induction I with
      | nil => simp
      | cons x I ih => rw [List.flatMap_cons, List.length_append, ih, List.length_cons, Nat.add_mul]; omega
    rw [this]
    have := Nat.mul_le_mul hI hJ
    omega)
  have mem : ∀ p ∈ (I.flatMap fun i => J.map fun j => (i, j)), p.1 ∈ I ∧ p.2 ∈ J := fun p hp => by
    obtain ⟨i, hi, hp⟩ := List.mem_flatMap.mp hp
    obtain ⟨j, hj, rfl⟩ := List.mem_map.mp hp
    exact ⟨hi, hj⟩
  have lc := e_least_common (K := I.flatMap fun i => J.map fun j => (i, j)) (d := fun p => (A p.1 p.2).den) (M := M) (N := N) (fun p hp => ⟨(A p.1 p.2).den_pos, (hA _ (mem p hp).1 _ (mem p hp).2).1⟩) hM h0 hN dr
  have bM : byOf I J A ∣ M := lcm_foldl M _ 1 (Nat.one_dvd _) fun x hx => by
    obtain ⟨p, hp, rfl⟩ := List.mem_map.mp hx
    exact (hA _ (mem p hp).1 _ (mem p hp).2).1
  have b0 : 0 < byOf I J A := lcm_pos' _ 1 (by decide) fun x hx => by
    obtain ⟨p, hp, rfl⟩ := List.mem_map.mp hx
    exact (A p.1 p.2).den_pos
  have N0 : 0 < N := by
    rcases Nat.eq_zero_or_pos N with z | z
    · subst z; omega
    · exact z
  refine ew_of ?_
  unfold f_whole_table
  with_reducible refine fw1 ?_
  simp only [List.reduceReplicate]
  unfold m_whole_table
  walk_at "ev"
  with_reducible refine lc2w_all (fun i => rowL J (A i)) (fun _ => J) (fun i j => qD (A i j)) (fun i j => .int ((A i j).den : Int)) I (by with_unfolding_all exact rfl) len (by walk_at "wipe") (fun i hi => ?_) ?_
  · walk_at "ev"
    intro j hj
    walk_at "ev"
    rfl
  rw [show (I.flatMap fun i => J.map fun j => D.int ((A i j).den : Int)) = (I.flatMap fun i => J.map fun j => (i, j)).map fun p => .int ((A p.1 p.2).den : Int) from by
    rw [List.map_flatMap]
    congr 1
    funext i
    rw [List.map_map]
    rfl]
  walk_at "ev"
  with_reducible refine lcw_all (fun i => rowL J (A i)) (fun i => .lst true (J.map fun j => .int (whO I J A i j))) I (by with_unfolding_all exact rfl) (len_ok (by omega)) (by walk_at "wipe") (fun i hi => ?_) ?_
  · walk_at "ev"
    with_reducible refine lcw_all (fun j => qD (A i j)) (fun j => .int (whO I J A i j)) J (by with_unfolding_all exact rfl) (len_ok (by omega)) (by walk_at "wipe") (fun j hj => ?_) ?_
    · have hd := (hA i hi j hj)
      have dm : (A i j).den < 2 ^ N := Nat.lt_of_le_of_lt (Nat.le_of_dvd h0 hd.1) hM
      have e : (byOf I J A : Int).fdiv ((A i j).den : Int) = ((byOf I J A / (A i j).den : Nat) : Int) := by
        rw [Int.fdiv_eq_ediv_of_nonneg _ (by omega)]; rfl
      have q := gfd_int (a := (byOf I J A : Int)) (b := ((A i j).den : Int)) (den_ne _) (by
        rw [Int.natAbs_natCast]
        have := lg dm N0
        omega)
      have q : gFd (.int (lcmL (List.map (fun p => (A p.1 p.2).den) (I.flatMap fun i => J.map fun j => (i, j))) : Int)) (.int ((A i j).den : Int)) = some (.int ((byOf I J A / (A i j).den : Nat) : Int)) := by
        rw [← e]; exact q
      have bl : (byOf I J A / (A i j).den : Nat) < 2 ^ N := Nat.lt_of_le_of_lt (Nat.div_le_self _ _) (Nat.lt_of_le_of_lt (Nat.le_of_dvd h0 bM) hM)
      walk_at "ev"
      have c : (A i j).num.natAbs.log2 + ((byOf I J A / (A i j).den : Nat) : Int).natAbs.log2 < 1000000 := by
        have := lg hd.2 N0
        have := lg bl N0
        rw [Int.natAbs_natCast]
        omega
      with_reducible refine ow_mul c ?_
      rfl
    · rfl
  · have z := fz_lstZ true I J (whO I J A)
    unfold lstZ at z
    walk_at "ev"
    rfl
/-! M35m -/
def mulZ (n : Nat) (X Y : Nat → Nat → Int) (i l : Nat) : Int := ((List.range n).map fun j => X i j * Y j l).sum
theorem e_whole_product {n N : Nat} {X Y : Nat → Nat → Int} (hn : n ≤ 30) (h0 : 0 < n) (hX : ∀ i j, i < n → j < n → (X i j).natAbs < 2 ^ N) (hY : ∀ i j, i < n → j < n → (Y i j).natAbs < 2 ^ N) (hN : N ≤ 9000) (dr : Dr) :
    f_whole_product [lstZ false (List.range n) (List.range n) X, lstZ false (List.range n) (List.range n) Y] dr = .ok (lstZ true (List.range n) (List.range n) (mulZ n X Y)) dr := by
  have fr : ∀ W : Nat → Nat → Int, D.fzs ((List.range n).map fun i => D.lst false ((List.range n).map fun j => .int (W i j))) = (List.range n).map fun i => D.lst false ((List.range n).map fun j => .int (W i j)) := fun W => fzs_frz _ _ fun i => by rw [fz_lst, fzs_intm]
  have fX := fr X
  have fY := fr Y
  refine ew_of ?_
  unfold lstZ
  unfold f_whole_product
  with_reducible refine fw2 ?_
  simp only [List.reduceReplicate]
  unfold m_whole_product
  walk_at "ev"
  with_reducible refine lcw_all (fun k : Nat => D.int (k : Int)) (fun k : Nat => D.lst true ((List.range n).map fun j => .int (Y j k))) (List.range n) (by with_unfolding_all exact rfl) (len_ok (by rw [List.length_range]; omega)) (by walk_at "wipe") (fun k hk => ?_) ?_
  · have hk := List.mem_range.mp hk
    walk_at "ev"
    with_reducible refine lcw_all (fun j => D.lst false ((List.range n).map fun k => .int (Y j k))) (fun j : Nat => D.int (Y j k)) (List.range n) (by with_unfolding_all exact rfl) (len_ok (by rw [List.length_range]; omega)) (by walk_at "wipe") (fun j hj => ?_) ?_
    · have hj := List.mem_range.mp hj
      walk_at "ev"
      rfl
    · rfl
  have fC : D.fzs ((List.range n).map fun k => D.lst true ((List.range n).map fun j => .int (Y j k))) = (List.range n).map fun k => D.lst false ((List.range n).map fun j => .int (Y j k)) := by
    rw [fzs_map, List.map_map]
    refine List.map_congr_left fun i _ => ?_
    show (D.lst true ((List.range n).map fun j => .int (Y j i))).fz = _
    rw [fz_lst, fzs_intm]
  have fC2 : D.fzs ((List.range n).map fun k => D.lst false ((List.range n).map fun j => .int (Y j k))) = (List.range n).map fun k => D.lst false ((List.range n).map fun j => .int (Y j k)) := fr fun k j => Y j k
  walk_at "ev"
  with_reducible refine lcw_all (fun i => D.lst false ((List.range n).map fun j => .int (X i j))) (fun i => .lst true ((List.range n).map fun l => .int (mulZ n X Y i l))) (List.range n) (by with_unfolding_all exact rfl) (len_ok (by rw [List.length_range]; omega)) (by walk_at "wipe") (fun i hi => ?_) ?_
  · have hi := List.mem_range.mp hi
    walk_at "ev"
    with_reducible refine lcw_all (fun l => D.lst false ((List.range n).map fun j => .int (Y j l))) (fun l => .int (mulZ n X Y i l)) (List.range n) (by with_unfolding_all exact rfl) (len_ok (by rw [List.length_range]; omega)) (by walk_at "wipe") (fun l hl => ?_) ?_
    · have hl := List.mem_range.mp hl
      walk_at "ev"
      with_reducible refine lcw_map (fun j => D.tup [D.int (X i j), D.int (Y j l)]) (fun j => .int (X i j * Y j l)) (fun j => !(X i j == 0)) (List.range n) (by with_unfolding_all exact rfl) (len_ok (by rw [List.length_range]; omega)) (by walk_at "wipe") (fun j hj => ?_) ?_
      · have hj := List.mem_range.mp hj
        have c : (X i j).natAbs.log2 + (Y j l).natAbs.log2 < 1000000 := by
          have := lgle (hX i j hi hj)
          have := lgle (hY j l hj hl)
          omega
        walk_at "ev"
        intro _
        walk_at "ev"
        with_reducible refine ow_mul c ?_
        rfl
      · walk_at "ev"
        rw [sum_filter _ _ (fun j h => by
          have : X i j = 0 := by simpa using h
          rw [this, Int.zero_mul])]
        rfl
    · rfl
  · walk_at "ev"
    rfl
/-! M35n -/
def trZ (n : Nat) (P : Nat → Nat → Int) : Int := ((List.range n).map fun p => P p p).sum
/-- Faddeev and Leverrier, in integers -/
def flS (n : Nat) (W : Nat → Nat → Int) : Nat → (Nat → Nat → Int) × Int
  | 0 => (fun i j => if i = j then 1 else 0, 1)
  | k + 1 => (fun i j => mulZ n W (flS n W k).1 i j + if i = j then (-(trZ n (mulZ n W (flS n W k).1))).fdiv ((k + 1 : Nat) : Int) else 0, (-(trZ n (mulZ n W (flS n W k).1))).fdiv ((k + 1 : Nat) : Int))
def eqC (n : Nat) (W : Nat → Nat → Int) (b : Nat) (m : Nat) : Rat := Rat.divInt (flS n W m).2 ((b ^ m : Nat) : Int)
theorem e_equation_of {n M N : Nat} {A : Nat → Nat → Rat} (hn : n ≤ 20) (h0n : 0 < n) (hA : ∀ i ∈ List.range n, ∀ j ∈ List.range n, (A i j).den ∣ M ∧ (A i j).num.natAbs < 2 ^ N) (hM : M < 2 ^ N) (h0 : 0 < M) (hN : N ≤ 9000)
    (hb : ∀ m, m ≤ n → (byOf (List.range n) (List.range n) A) ^ m < 2 ^ N) (hW : ∀ i j, i < n → j < n → (whO (List.range n) (List.range n) A i j).natAbs < 2 ^ N) (hS : ∀ m, m ≤ n → ∀ i j, i < n → j < n → ((flS n (whO (List.range n) (List.range n) A) m).1 i j).natAbs < 2 ^ N) (dr : Dr) :
    f_equation_of [tabL (List.range n) (List.range n) A] dr = .ok (rowL (List.range (n + 1)) (eqC n (whO (List.range n) (List.range n) A) (byOf (List.range n) (List.range n) A))) dr := by
  have ht := e_whole_table (I := List.range n) (J := List.range n) (A := A) (by rw [List.length_range]; omega) (by rw [List.length_range]; omega) hA hM h0 hN dr
  have b0 : 0 < byOf (List.range n) (List.range n) A := lcm_pos' _ 1 (by decide) fun x hx => by
    obtain ⟨p, hp, rfl⟩ := List.mem_map.mp hx
    exact (A p.1 p.2).den_pos
  generalize whO (List.range n) (List.range n) A = W at *
  generalize byOf (List.range n) (List.range n) A = b at *
  refine ew_of ?_
  unfold f_equation_of
  with_reducible refine fw1 ?_
  simp only [List.reduceReplicate]
  unfold m_equation_of
  walk_at "ev"
  with_reducible refine lcw_all (fun i : Nat => D.int (i : Int)) (fun i : Nat => D.lst true ((List.range n).map fun j : Nat => .int ((flS n W 0).1 i j))) (List.range n) (by with_unfolding_all exact rfl) (len_ok (by rw [List.length_range]; omega)) (by walk_at "wipe") (fun i hi => ?_) ?_
  · walk_at "ev"
    with_reducible refine lcw_all (fun j : Nat => D.int (j : Int)) (fun j : Nat => .int ((flS n W 0).1 i j)) (List.range n) (by with_unfolding_all exact rfl) (len_ok (by rw [List.length_range]; omega)) (by walk_at "wipe") (fun j hj => ?_) ?_
    · walk_at "ev"
      show DL.R.ok (D.int (if ((i : Int) == (j : Int)) = true then 1 else 0)) dr = .ok (.int (if i = j then 1 else 0)) dr
      congr 2
      by_cases h : i = j
      · rw [if_pos h, if_pos (by simp [h])]
      · rw [if_neg h, if_neg (by simp; omega)]
    · rfl
  walk_at "ev"
  with_reducible refine sw_for (fun k : Nat => D.int ((1 + k : Nat) : Int)) (List.range n) (fun zs ρ d => d = dr ∧ ∃ ws x2 x8 x9, List.range n = ws ++ zs ∧ ρ = [some (tabL (List.range n) (List.range n) A), some (lstZ true (List.range n) (List.range n) (flS n W ws.length).1), x2, some (lstZ false (List.range n) (List.range n) W), some (.int (b : Int)), some (.int (n : Int)), some (.lst true ((List.range (ws.length + 1)).map fun m => qD (eqC n W b m))), some (.int ((b ^ ws.length : Nat) : Int)), x8, x9, none, none]) ?_ ?_ ?_
  · walk_at "ev"
    with_reducible refine rgw (n := 1) (by omega) (by omega) ?_
    with_reducible refine rgw (n := n + 1) (by omega) (by omega) ?_
    refine ⟨rfl, rfl, [], none, none, none, rfl, ?_⟩
    show [_, _, _, _, _, _, some (D.lst true [D.tup [D.int 1, D.int 1]]), _, _, _, _, _] = [_, _, _, _, _, _, some (D.lst true [qD (eqC n W b 0)]), _, _, _, _, _]
    have : qD (eqC n W b 0) = D.tup [D.int 1, D.int 1] := by
      show qD (Rat.divInt 1 ((b ^ 0 : Nat) : Int)) = _
      rw [Nat.pow_zero]; rfl
    rw [this]
    rfl
  · rintro y zs ρ d ⟨rfl, ws, x2, x8, x9, hw, rfl⟩
    obtain ⟨e1, hy, e2⟩ := rng_mid hw
    rw [e2]
    have hwp := e_whole_product (X := W) (Y := (flS n W y).1) (by omega) h0n hW (hS y (by omega)) hN d
    walk_at "ev"
    with_reducible refine lcw_all (fun p : Nat => D.int (p : Int)) (fun p : Nat => .int (mulZ n W (flS n W y).1 p p)) (List.range n) (by with_unfolding_all exact rfl) (len_ok (by rw [List.length_range]; omega)) (by walk_at "wipe") (fun p hp => ?_) ?_
    · have hp := List.mem_range.mp hp
      walk_at "ev"
      rfl
    walk_at "ev"
    have fd := gfd_int (a := -(trZ n (mulZ n W (flS n W y).1))) (b := ((1 + y : Nat) : Int)) (by omega) (by
      rw [Int.natAbs_natCast]
      exact Nat.lt_of_le_of_lt (lgle (N := 10) (by omega)) (by decide))
    have e3 : (-(trZ n (mulZ n W (flS n W y).1))).fdiv ((1 + y : Nat) : Int) = (flS n W (y + 1)).2 := by rw [Nat.add_comm 1 y]; rfl
    rw [e3] at fd
    unfold trZ at fd
    with_reducible refine ow fd ?_
    walk_at "ev"
    generalize hP : mulZ n W (flS n W y).1 = P
    with_reducible refine sw_for (fun p : Nat => D.int (p : Int)) (List.range n) (fun zt ρ d' => d' = d ∧ ∃ wt x9, List.range n = wt ++ zt ∧ ρ = [some (tabL (List.range n) (List.range n) A), some (lstZ true (List.range n) (List.range n) fun i j => P i j + if i = j ∧ i < wt.length then (flS n W (y + 1)).2 else 0), some (D.int ((1 + y : Nat) : Int)), some (lstZ false (List.range n) (List.range n) W), some (.int (b : Int)), some (.int (n : Int)), some (.lst true ((List.range (y + 1)).map fun m => qD (eqC n W b m))), some (.int ((b ^ y : Nat) : Int)), some (.int (flS n W (y + 1)).2), x9, none, none]) ?_ ?_ ?_
    · walk_at "ev"
      have e := lstZ_congr (n := n) (o := true) (W := P) (V := fun i j => P i j + if i = j ∧ i < ([] : List Nat).length then (flS n W (y + 1)).2 else 0) fun i j _ _ => by simp
      exact ⟨[], _, rfl, by rw [e]⟩
    · rintro p zt ρ d' ⟨rfl, wt, x9, hw2, rfl⟩
      obtain ⟨e4, hp, e5⟩ := rng_mid hw2
      rw [e5]
      walk_at "ev"
      with_reducible refine sw_aug2Z (by with_unfolding_all exact rfl) hp hp (var_ok (by with_unfolding_all exact rfl)) (var_ok (by with_unfolding_all exact rfl)) (frz_ok (var_ok (by with_unfolding_all exact rfl)) rfl) ?_
      walk_at "ev"
      have e := lstZ_congr (n := n) (o := true) (W := updZ (fun i j => P i j + if i = j ∧ i < p then (flS n W (y + 1)).2 else 0) p p (flS n W (y + 1)).2) (V := fun i j => P i j + if i = j ∧ i < (wt ++ [p]).length then (flS n W (y + 1)).2 else 0) fun i j _ _ => by
        unfold updZ
        dsimp only
        rw [List.length_append, List.length_singleton, e5]
        by_cases c : i = p ∧ j = p
        · rw [if_pos c, if_neg (by omega), if_pos (by omega), Int.add_zero]
        · rw [if_neg c]
          by_cases c2 : i = j ∧ i < p
          · rw [if_pos c2, if_pos (by omega)]
          · rw [if_neg c2, if_neg (by omega)]
      exact ⟨wt ++ [p], _, by rw [hw2, List.append_assoc]; rfl, by rw [e]⟩
    · rintro ρ d' ⟨rfl, wt, x9, hw2, rfl⟩
      rw [List.append_nil] at hw2
      subst hw2
      rw [List.length_range]
      have b1 : b ^ y < 2 ^ N := hb y (by omega)
      have b2 : b < 2 ^ N := by have := hb 1 (by omega); rwa [Nat.pow_one] at this
      have b3 : b ^ (y + 1) < 2 ^ N := hb (y + 1) (by omega)
      have c : ((b ^ y : Nat) : Int).natAbs.log2 + ((b : Nat) : Int).natAbs.log2 < 1000000 := by
        rw [Int.natAbs_natCast, Int.natAbs_natCast]
        have := lgle b1
        have := lgle b2
        omega
      walk_at "ev"
      with_reducible refine ow_mulI c ?_
      have e6 : ((b ^ y : Nat) : Int) * (b : Int) = ((b ^ (y + 1) : Nat) : Int) := by rw [← Int.natCast_mul, Nat.pow_succ]
      rw [e6]
      have p3 : 0 < b ^ (y + 1) := Nat.pow_pos b0
      have lo := e_lowest (n := (flS n W (y + 1)).2) (d := ((b ^ (y + 1) : Nat) : Int)) (N := N) (by omega) (by rw [Int.natAbs_natCast]; exact b3) hN d'
      walk_at "ev"
      have e7 := lstZ_congr (n := n) (o := true) (W := fun i j => P i j + if i = j ∧ i < n then (flS n W (y + 1)).2 else 0) (V := (flS n W (ws ++ [y]).length).1) fun i j hi hj => by
        rw [List.length_append, List.length_singleton, e2]
        show _ = mulZ n W (flS n W y).1 i j + if i = j then (-(trZ n (mulZ n W (flS n W y).1))).fdiv ((y + 1 : Nat) : Int) else 0
        rw [hP]
        have : (flS n W (y + 1)).2 = (-(trZ n P)).fdiv ((y + 1 : Nat) : Int) := by rw [← hP]; rfl
        rw [this]
        congr 1
        by_cases c : i = j
        · rw [if_pos c, if_pos ⟨c, hi⟩]
        · rw [if_neg c, if_neg fun z => c z.1]
      have e8 : (List.range ((ws ++ [y]).length + 1)).map (fun m => qD (eqC n W b m)) = (List.range (y + 1)).map (fun m => qD (eqC n W b m)) ++ [qD (Rat.divInt (flS n W (y + 1)).2 ((b ^ (y + 1) : Nat) : Int))] := by
        rw [List.length_append, List.length_singleton, e2, List.range_succ (n := y + 1), List.map_append]
        rfl
      have e9 : b ^ (ws ++ [y]).length = b ^ (y + 1) := by rw [List.length_append, List.length_singleton, e2]
      exact ⟨ws ++ [y], _, _, _, by rw [hw, List.append_assoc]; rfl, by rw [e7, e8, e9]⟩
  · rintro ρ d ⟨rfl, ws, x2, x8, x9, hw, rfl⟩
    rw [List.append_nil] at hw
    subst hw
    rw [List.length_range]
    walk_at "ev"
    rfl
/-! M35o -/
def cvS (p q g : Nat → Rat) (j k : Nat) : Nat → Rat := fun m => if m = j + k then g m + p j * q k else g m
def cvI (p q : Nat → Rat) (g : Nat → Rat) (j : Nat) (l : List Nat) : Nat → Rat := l.foldl (fun g k => cvS p q g j k) g
def cvO (p q : Nat → Rat) (b : Nat) (l : List Nat) : Nat → Rat := l.foldl (fun g j => cvI p q g j (List.range b)) fun _ => 0
/-- the product of two sums of powers -/
def cv (p : Nat → Rat) (a : Nat) (q : Nat → Rat) (b : Nat) : Nat → Rat := cvO p q b (List.range a)
theorem cvI_snoc (p q g : Nat → Rat) (j k : Nat) (l : List Nat) : cvI p q g j (l ++ [k]) = cvS p q (cvI p q g j l) j k := by
  unfold cvI; rw [List.foldl_append]; rfl
theorem cvO_snoc (p q : Nat → Rat) (b j : Nat) (l : List Nat) : cvO p q b (l ++ [j]) = cvI p q (cvO p q b l) j (List.range b) := by
  unfold cvO; rw [List.foldl_append]; rfl
theorem fr_cvI {p q g : Nat → Rat} {j D E B C G : Nat} (hp : Fr D B (p j)) (hg : ∀ m, Fr (D * E) G (g m)) : ∀ (l : List Nat), (∀ k ∈ l, Fr E C (q k)) → ∀ m, Fr (D * E) (G + l.length * (B * C)) (cvI p q g j l m) := by
  intro l
  induction l generalizing g G with
  | nil => intro _ m; exact (hg m).mono (by simp)
  | cons k l ih =>
    intro hq m
    have h1 : ∀ m, Fr (D * E) (G + B * C) (cvS p q g j k m) := fun m => by
      unfold cvS
      by_cases c : m = j + k
      · rw [if_pos c]; exact (hg m).add (hp.mul (hq k List.mem_cons_self))
      · rw [if_neg c]; exact (hg m).mono (by omega)
    have := ih (g := cvS p q g j k) (G := G + B * C) h1 (fun k hk => hq k (List.mem_cons_of_mem _ hk)) m
    refine this.mono ?_
    rw [List.length_cons, Nat.add_mul]
    omega
theorem fr_cvO {p q : Nat → Rat} {b D E B C : Nat} (hq : ∀ k, k < b → Fr E C (q k)) : ∀ (l : List Nat), (∀ j ∈ l, Fr D B (p j)) → ∀ m, Fr (D * E) (l.length * b * (B * C)) (cvO p q b l m) := by
  intro l
  suffices h : ∀ (l : List Nat) (g : Nat → Rat) (G : Nat), (∀ j ∈ l, Fr D B (p j)) → (∀ m, Fr (D * E) G (g m)) → ∀ m, Fr (D * E) (G + l.length * b * (B * C)) (l.foldl (fun g j => cvI p q g j (List.range b)) g m) from fun hp m => (h l (fun _ => 0) 0 hp (fun _ => Fr.zero 0) m).mono (by omega)
  intro l
  induction l with
  | nil => intro g G _ hg m; exact (hg m).mono (by omega)
  | cons j l ih =>
    intro g G hp hg m
    have h1 := fr_cvI (E := E) (C := C) (q := q) (hp j List.mem_cons_self) hg (List.range b) (fun k hk => hq k (List.mem_range.mp hk))
    rw [List.length_range] at h1
    refine (ih (cvI p q g j (List.range b)) (G + b * (B * C)) (fun k hk => hp k (List.mem_cons_of_mem _ hk)) h1 m).mono ?_
    rw [List.length_cons, Nat.add_mul, Nat.add_mul, Nat.one_mul]
    omega
theorem e__law_times_all {a b K L B C N : Nat} {p q : Nat → Rat} (ha : 0 < a) (hb : 0 < b) (hab : a + b ≤ 100) (hp : ∀ j, j < a → Fr K B (p j)) (hq : ∀ k, k < b → Fr L C (q k)) (hD : 0 < K) (hE : 0 < L) (hDE : K * L < 2 ^ N) (hB : a * b * (B * C) + b * (B * C) < 2 ^ N) (hB1 : B < 2 ^ N) (hC1 : C < 2 ^ N) (hD1 : K < 2 ^ N) (hE1 : L < 2 ^ N) (hN : N ≤ 2000) (dr : Dr) :
    f__law_times_all [lstQ false a p, lstQ false b q] dr = .ok (lstQ true (a + b - 1) (cv p a q b)) dr := by
  have hDE0 : 0 < K * L := Nat.mul_pos hD hE
  refine ew_of ?_
  unfold lstQ
  unfold f__law_times_all
  with_reducible refine fw2 ?_
  simp only [List.reduceReplicate]
  unfold m__law_times_all
  walk_at "ev"
  rw [show (a : Int) + (b : Int) - 1 = ((a + b - 1 : Nat) : Int) from by omega]
  with_reducible refine ow_rep rfl (by omega) ?_
  walk_at "ev"
  with_reducible refine sw_for (fun j : Nat => D.int (j : Int)) (List.range a) (fun zs ρ d => d = dr ∧ ∃ ws x3 x4, List.range a = ws ++ zs ∧ ρ = [some (lstQ false a p), some (lstQ false b q), some (lstQ true (a + b - 1) (cvO p q b ws)), x3, x4]) ?_ ?_ ?_
  · walk_at "ev"
    exact ⟨[], none, none, rfl, rfl⟩
  · rintro j zs ρ d ⟨rfl, ws, x3, x4, hw, rfl⟩
    obtain ⟨e1, hj, e2⟩ := rng_mid hw
    have frO := fr_cvO hq ws (fun i hi => hp i (by rw [e1] at hi; have := List.mem_range.mp hi; omega))
    unfold lstQ
    walk_at "ev"
    with_reducible refine sw_for (fun k : Nat => D.int (k : Int)) (List.range b) (fun zt ρ d' => d' = d ∧ ∃ wt x4, List.range b = wt ++ zt ∧ ρ = [some (lstQ false a p), some (lstQ false b q), some (lstQ true (a + b - 1) (cvI p q (cvO p q b ws) j wt)), some (D.int (j : Int)), x4]) ?_ ?_ ?_
    · walk_at "ev"
      exact ⟨[], x4, rfl, rfl⟩
    · rintro k zt ρ d' ⟨rfl, wt, x4, hw2, rfl⟩
      obtain ⟨e3, hk, e4⟩ := rng_mid hw2
      have frI := fr_cvI (hp j hj) frO wt (fun i hi => hq i (by rw [e3] at hi; have := List.mem_range.mp hi; omega)) (j + k)
      have le1 : ws.length * b * (B * C) + wt.length * (B * C) < 2 ^ N := by
        refine Nat.lt_of_le_of_lt (Nat.add_le_add (Nat.mul_le_mul_right _ (Nat.mul_le_mul_right _ ?_)) (Nat.mul_le_mul_right _ ?_)) hB
        · omega
        · omega
      have s1 := frI.sm hDE0 hDE le1
      have s2 := (hp j hj).sm hD hD1 hB1
      have s3 := (hq k hk).sm hE hE1 hC1
      have t1 := e__law_times s2 s3 (by omega) d'
      have t2 := e__law_plus s1 (s2.mul s3) (by omega) d'
      have e5 : (j : Int) + (k : Int) = ((j + k : Nat) : Int) := by omega
      have hjk : j + k < a + b - 1 := by omega
      unfold lstQ
      walk_at "ev"
      with_reducible refine sw_setIxR (by with_unfolding_all exact rfl) hjk ?_
      walk_at "ev"
      rw [e5]
      walk_at "ev"
      have e6 : (fun m => if m = j + k then qD (cvI p q (cvO p q b ws) j wt (j + k) + p j * q k) else qD (cvI p q (cvO p q b ws) j wt m)) = fun m => qD (cvI p q (cvO p q b ws) j (wt ++ [k]) m) := by
        funext m
        rw [cvI_snoc]
        unfold cvS
        by_cases c : m = j + k
        · rw [if_pos c, if_pos c, c]
        · rw [if_neg c, if_neg c]
      rw [e6]
      exact ⟨wt ++ [k], _, by rw [hw2, List.append_assoc]; rfl, rfl⟩
    · rintro ρ d' ⟨rfl, wt, x4, hw2, rfl⟩
      rw [List.append_nil] at hw2
      subst hw2
      walk_at "ev"
      exact ⟨ws ++ [j], _, _, by rw [hw, List.append_assoc]; rfl, by rw [cvO_snoc]; rfl⟩
  · rintro ρ d ⟨rfl, ws, x3, x4, hw, rfl⟩
    rw [List.append_nil] at hw
    subst hw
    walk_at "ev"
    rfl
/-! M35p -/
/-- orders of m places, t of them told, with signs -/
def ordS (m : Nat) : Nat → List (List Nat × Int)
  | 0 => [([], 1)]
  | t + 1 => (ordS m t).flatMap fun rs => ((List.range m).filter fun p => !rs.1.contains p).map fun p => (rs.1 ++ [p], rs.2 * (1 - 2 * (((rs.1.filter fun q => decide (p < q)).length % 2 : Nat) : Int)))
def ordL (n : Nat) : List (List Nat × Int) := ordS n n
def oDr (rs : List Nat × Int) : D := .tup [.tup (rs.1.map fun k : Nat => .int (k : Int)), .int rs.2]
theorem e__law_orders {n : Nat} (h0 : 0 < n) (hn : n ≤ 4) (dr : Dr) : f__law_orders [.int (n : Int)] dr = .ok (.lst false ((ordL n).map oDr)) dr := by
  have : n = 1 ∨ n = 2 ∨ n = 3 ∨ n = 4 := by omega
  rcases this with rfl | rfl | rfl | rfl <;> kernel_rfl
/-! M35q -/
theorem qD_int (s : Int) : qD (s : Rat) = .tup [.int s, .int 1] := by
  unfold qD
  rw [Rat.num_intCast, Rat.den_intCast]; rfl
theorem qD_neg (q : Rat) : qD (-q) = .tup [.int (0 - q.num), .int (q.den : Int)] := by
  unfold qD
  rw [Rat.neg_num, Rat.neg_den, Int.zero_sub]
/-- the factor of place k -/
def fc (A : Nat → Nat → Rat) (r : List Nat) (k : Nat) : Nat → Rat := fun i => if i = 0 then -(A k (r.getD k 0)) else 1
def fl1 (r : List Nat) (k : Nat) : Nat := if r.getD k 0 = k then 2 else 1
/-- the product for an order: how long, and its numbers -/
def ptS (A : Nat → Nat → Rat) (r : List Nat) (s : Int) : Nat → Nat × (Nat → Rat)
  | 0 => (1, fun _ => (s : Rat))
  | k + 1 => ((ptS A r s k).1 + fl1 r k - 1, cv (ptS A r s k).2 (ptS A r s k).1 (fc A r k) (fl1 r k))
def whI (A : Nat → Nat → Rat) (n : Nat) (w : Nat → Rat) (rs : List Nat × Int) : Nat → Rat := fun m => w m + if m < (ptS A rs.1 rs.2 n).1 then (ptS A rs.1 rs.2 n).2 m else 0
def whS (A : Nat → Nat → Rat) (n : Nat) (l : List (List Nat × Int)) : Nat → Rat := l.foldl (whI A n) fun _ => 0
theorem whS_snoc (A : Nat → Nat → Rat) (n : Nat) (l : List (List Nat × Int)) (x : List Nat × Int) : whS A n (l ++ [x]) = whI A n (whS A n l) x := by
  unfold whS; rw [List.foldl_append]; rfl
/-- the equation by all orders -/
def due (A : Nat → Nat → Rat) (n : Nat) (k : Nat) : Rat := whS A n (ordL n) (n - k)
theorem pt_len (A : Nat → Nat → Rat) (r : List Nat) (s : Int) : ∀ k, 0 < (ptS A r s k).1 ∧ (ptS A r s k).1 ≤ k + 1
  | 0 => ⟨Nat.one_pos, Nat.le_refl 1⟩
  | k + 1 => by
    have := pt_len A r s k
    have h : fl1 r k = 2 ∨ fl1 r k = 1 := by unfold fl1; split <;> simp
    show 0 < (ptS A r s k).1 + fl1 r k - 1 ∧ (ptS A r s k).1 + fl1 r k - 1 ≤ k + 1 + 1
    omega
def bB : Nat → Nat
  | 0 => 1
  | k + 1 => (k + 1) * 2 * (bB k * 18)
theorem fr_fc {A : Nat → Nat → Rat} {n : Nat} (hA : ∀ i j, i < n → j < n → Fr 6 18 (A i j)) {r : List Nat} {k : Nat} (hk : k < n) (hr : r.getD k 0 < n) (i : Nat) : Fr 6 18 (fc A r k i) := by
  unfold fc
  split
  · exact (hA _ _ hk hr).neg
  · exact ⟨6, by decide, by rw [Rat.one_mul]; rfl⟩
theorem fr_pt {A : Nat → Nat → Rat} {n : Nat} (hA : ∀ i j, i < n → j < n → Fr 6 18 (A i j)) {r : List Nat} {s : Int} (hs : s.natAbs ≤ 1) (hr : ∀ k, k < n → r.getD k 0 < n) : ∀ k, k ≤ n → ∀ m, Fr (6 ^ k) (bB k) ((ptS A r s k).2 m)
  | 0, _, m => ⟨s, hs, by rw [Nat.pow_zero]; show (s : Rat) * ((1 : Nat) : Rat) = s; exact Rat.mul_one _⟩
  | k + 1, hk, m => by
    have h1 := fr_pt hA hs hr k (by omega)
    have l := pt_len A r s k
    have h : fl1 r k ≤ 2 := by unfold fl1; split <;> simp
    have := fr_cvO (p := (ptS A r s k).2) (q := fc A r k) (b := fl1 r k) (D := 6 ^ k) (E := 6) (B := bB k) (C := 18) (fun i _ => fr_fc hA (by omega) (hr k (by omega)) i) (List.range (ptS A r s k).1) (fun j _ => h1 j) m
    rw [List.length_range] at this
    rw [Nat.pow_succ]
    refine this.mono ?_
    exact Nat.mul_le_mul_right _ (Nat.mul_le_mul l.2 h)
theorem ord_ok {n : Nat} (h0 : 0 < n) (hn : n ≤ 4) : (ordL n).length ≤ 24 ∧ ∀ rs ∈ ordL n, rs.1.length = n ∧ (∀ j ∈ rs.1, j < n) ∧ rs.2.natAbs ≤ 1 := by
  have : n = 1 ∨ n = 2 ∨ n = 3 ∨ n = 4 := by omega
  rcases this with rfl | rfl | rfl | rfl <;> decide +kernel
theorem ix_map {f : Nat → D} {r : List Nat} {k : Nat} (h : k < r.length) : gIx (.tup (r.map f)) (.int (k : Int)) = some (f (r.getD k 0)) := by
  show atI (r.map f) (k : Int) = _
  refine atI_nat ?_
  rw [List.getElem?_map, List.getElem?_eq_getElem h, List.getD_eq_getElem?_getD, List.getElem?_eq_getElem h]
  rfl
theorem fr_whS {A : Nat → Nat → Rat} {n : Nat} (hA : ∀ i j, i < n → j < n → Fr 6 18 (A i j)) : ∀ (l : List (List Nat × Int)), (∀ x ∈ l, x.2.natAbs ≤ 1 ∧ ∀ k, k < n → x.1.getD k 0 < n) → ∀ m, Fr (6 ^ n) (l.length * bB n) (whS A n l m) := by
  suffices h : ∀ (l : List (List Nat × Int)) (w : Nat → Rat) (G : Nat), (∀ x ∈ l, x.2.natAbs ≤ 1 ∧ ∀ k, k < n → x.1.getD k 0 < n) → (∀ m, Fr (6 ^ n) G (w m)) → ∀ m, Fr (6 ^ n) (G + l.length * bB n) (l.foldl (whI A n) w m) from fun l hl m => (h l (fun _ => 0) 0 hl (fun _ => Fr.zero 0) m).mono (by omega)
  intro l
  induction l with
  | nil => intro w G _ hw m; exact (hw m).mono (by omega)
  | cons x l ih =>
    intro w G hl hw m
    have hx := hl x List.mem_cons_self
    have h1 : ∀ m, Fr (6 ^ n) (G + bB n) (whI A n w x m) := fun m => by
      unfold whI
      refine (hw m).add ?_
      split
      · exact fr_pt hA hx.1 hx.2 n (Nat.le_refl _) m
      · exact Fr.zero _
    refine (ih (whI A n w x) (G + bB n) (fun y hy => hl y (List.mem_cons_of_mem _ hy)) h1 m).mono ?_
    rw [List.length_cons, Nat.add_mul, Nat.one_mul]
    omega
theorem e__law_due {n : Nat} {A : Nat → Nat → Rat} (h0 : 0 < n) (hn : n ≤ 4) (hA : ∀ i j, i < n → j < n → Fr 6 18 (A i j)) (dr : Dr) : f__law_due [tabL (List.range n) (List.range n) A] dr = .ok (rowL (List.range (n + 1)) (due A n)) dr := by
  have ho := e__law_orders h0 hn dr
  have ok := ord_ok h0 hn
  have hz : D.fzs ((ordL n).map oDr) = (ordL n).map oDr := fzs_frz _ _ fun _ => rfl
  have sA : ∀ i j, i < n → j < n → Sm 6 (A i j) := fun i j hi hj => (hA i j hi hj).sm (by decide) (by decide) (by decide)
  refine ew_of ?_
  unfold f__law_due
  with_reducible refine fw1 ?_
  simp only [List.reduceReplicate]
  unfold m__law_due
  walk_at "ev"
  rw [show (n : Int) + 1 = ((n + 1 : Nat) : Int) from rfl]
  with_reducible refine ow_rep rfl (by omega) ?_
  walk_at "ev"
  with_reducible refine sw_for oDr (ordL n) (fun zs ρ d => d = dr ∧ ∃ ws x3 x4 x5 x6 x7, ordL n = ws ++ zs ∧ ρ = [some (tabL (List.range n) (List.range n) A), some (D.int (n : Int)), some (lstQ false (n + 1) (whS A n ws)), x3, x4, x5, x6, x7]) ?_ ?_ ?_
  · walk_at "ev"
    have e : lstQ false (n + 1) (whS A n []) = D.lst false ((List.range (n + 1)).map fun _ => D.tup [D.int 0, D.int 1]) := by
      unfold lstQ
      rfl
    exact ⟨[], none, none, none, none, none, (List.nil_append _).symm, by rw [e]⟩
  · rintro ⟨r, s⟩ zs ρ d ⟨rfl, ws, x3, x4, x5, x6, x7, hw, rfl⟩
    have hm : (r, s) ∈ ordL n := by rw [hw]; exact List.mem_append_right _ List.mem_cons_self
    obtain ⟨hr1, hr2, hr3⟩ := ok.2 (r, s) hm
    have hr1 : r.length = n := hr1
    have hr2 : ∀ j ∈ r, j < n := hr2
    have hr3 : s.natAbs ≤ 1 := hr3
    have hr4 : ∀ k, k < n → r.getD k 0 < n := fun k hk => hr2 _ (by
      rw [List.getD_eq_getElem?_getD, List.getElem?_eq_getElem (by rw [hr1]; exact hk)]
      exact List.getElem_mem _)
    have frP := fr_pt hA hr3 hr4
    have hws : ws.length < 24 := by
      have := ok.1
      rw [hw, List.length_append, List.length_cons] at this
      omega
    walk_at "ev"
    with_reducible refine sw_for (fun k : Nat => D.int (k : Int)) (List.range n) (fun zt ρ d' => d' = d ∧ ∃ wt x6 x7, List.range n = wt ++ zt ∧ ρ = [some (tabL (List.range n) (List.range n) A), some (D.int (n : Int)), some (lstQ false (n + 1) (whS A n ws)), some (.tup (r.map fun k : Nat => .int (k : Int))), some (.int s), some (lstQ false (ptS A r s wt.length).1 (ptS A r s wt.length).2), x6, x7]) ?_ ?_ ?_
    · walk_at "ev"
      have e : lstQ false (ptS A r s ([] : List Nat).length).1 (ptS A r s ([] : List Nat).length).2 = D.lst false [D.tup [D.int s, D.int 1]] := by
        show D.lst false [qD (s : Rat)] = _
        rw [qD_int]
      exact ⟨[], _, _, rfl, by rw [e]⟩
    · rintro k zt ρ d' ⟨rfl, wt, x6, x7, hw2, rfl⟩
      obtain ⟨e1, hk, e2⟩ := rng_mid hw2
      rw [e2]
      have hj := hr4 k hk
      have x1 := ix_map (f := fun k : Nat => D.int (k : Int)) (r := r) (k := k) (by rw [hr1]; exact hk)
      have la := pt_len A r s k
      have B1 : 6 ^ k * 6 < 2 ^ 100 := by
        have : k = 0 ∨ k = 1 ∨ k = 2 ∨ k = 3 := by omega
        rcases this with rfl | rfl | rfl | rfl <;> decide
      have B2 : bB k ≤ 279936 := by
        have : k = 0 ∨ k = 1 ∨ k = 2 ∨ k = 3 := by omega
        rcases this with rfl | rfl | rfl | rfl <;> decide
      have fl : fl1 r k ≤ 2 ∧ 0 < fl1 r k := by unfold fl1; split <;> simp
      have ta := e__law_times_all (a := (ptS A r s k).1) (b := fl1 r k) (K := 6 ^ k) (L := 6) (B := bB k) (C := 18) (N := 100) (p := (ptS A r s k).2) (q := fc A r k) la.1 fl.2 (by omega) (fun j _ => frP k (by omega) j) (fun i _ => fr_fc hA hk hj i) (Nat.pow_pos (by decide)) (by decide) B1 (by
        have h1 : (ptS A r s k).1 * fl1 r k * (bB k * 18) ≤ 4 * 2 * (279936 * 18) := Nat.mul_le_mul (Nat.mul_le_mul (by omega) fl.1) (Nat.mul_le_mul_right _ B2)
        have h2 : fl1 r k * (bB k * 18) ≤ 2 * (279936 * 18) := Nat.mul_le_mul fl.1 (Nat.mul_le_mul_right _ B2)
        have : 4 * 2 * (279936 * 18) + 2 * (279936 * 18) < 2 ^ 100 := by decide
        omega) (Nat.lt_of_le_of_lt B2 (by decide)) (by decide) (by omega) (by decide) (by decide) d'
      walk_at "ev"
      have e9 : lstQ false (ptS A r s (wt ++ [k]).length).1 (ptS A r s (wt ++ [k]).length).2 = lstQ false ((ptS A r s k).1 + fl1 r k - 1) (cv (ptS A r s k).2 (ptS A r s k).1 (fc A r k) (fl1 r k)) := by
        rw [List.length_append, List.length_singleton, e2]
        rfl
      with_reducible refine ifw_b (fun h => ?_) (fun h => ?_)
      · have h : r.getD k 0 = k := by omega
        have q : D.lst false [D.tup [D.int (0 - (A k (r.getD k 0)).num), D.int ((A k (r.getD k 0)).den : Int)], D.tup [D.int 1, D.int 1]] = lstQ false (fl1 r k) (fc A r k) := by
          unfold fl1
          rw [if_pos h]
          show _ = D.lst false [qD (-(A k (r.getD k 0))), qD 1]
          rw [qD_neg]; rfl
        rw [← q] at ta
        walk_at "ev"
        exact ⟨wt ++ [k], _, _, by rw [hw2, List.append_assoc]; rfl, by rw [e9]⟩
      · have h : ¬ r.getD k 0 = k := by omega
        have q : D.lst false [D.tup [D.int (0 - (A k (r.getD k 0)).num), D.int ((A k (r.getD k 0)).den : Int)]] = lstQ false (fl1 r k) (fc A r k) := by
          unfold fl1
          rw [if_neg h]
          show _ = D.lst false [qD (-(A k (r.getD k 0)))]
          rw [qD_neg]
        rw [← q] at ta
        walk_at "ev"
        exact ⟨wt ++ [k], _, _, by rw [hw2, List.append_assoc]; rfl, by rw [e9]⟩
    · rintro ρ d' ⟨rfl, wt, x6, x7, hw2, rfl⟩
      rw [List.append_nil] at hw2
      subst hw2
      rw [List.length_range]
      have la := pt_len A r s n
      have B2 : bB n ≤ 40310784 := by
        have : n = 1 ∨ n = 2 ∨ n = 3 ∨ n = 4 := by omega
        rcases this with rfl | rfl | rfl | rfl <;> decide
      have B3 : 6 ^ n < 2 ^ 100 := by
        have : n = 1 ∨ n = 2 ∨ n = 3 ∨ n = 4 := by omega
        rcases this with rfl | rfl | rfl | rfl <;> decide
      have p6 : 0 < 6 ^ n := Nat.pow_pos (by decide)
      have fw := fr_whS hA (n := n) ws (fun x hx => by
        have hx : x ∈ ordL n := by rw [hw]; exact List.mem_append_left _ hx
        obtain ⟨g1, g2, g3⟩ := ok.2 x hx
        exact ⟨g3, fun k hk => g2 _ (by
          rw [List.getD_eq_getElem?_getD, List.getElem?_eq_getElem (by rw [g1]; exact hk)]
          exact List.getElem_mem _)⟩)
      have sw : ∀ m, Sm 100 (whS A n ws m) := fun m => (fw m).sm p6 B3 (by
        have : ws.length * bB n ≤ 24 * 40310784 := Nat.mul_le_mul (by omega) B2
        have : 24 * 40310784 < 2 ^ 100 := by decide
        omega)
      have sp : ∀ m, Sm 100 ((ptS A r s n).2 m) := fun m => (frP n (Nat.le_refl _) m).sm p6 B3 (Nat.lt_of_le_of_lt B2 (by decide))
      walk_at "ev"
      with_reducible refine rgw (n := n + 1) (by omega) (by omega) ?_
      with_reducible refine lcw_all (fun m : Nat => D.int (m : Int)) (fun m : Nat => qD (whI A n (whS A n ws) (r, s) m)) (List.range (n + 1)) (by with_unfolding_all exact rfl) (len_ok (by rw [List.length_range]; omega)) (by walk_at "wipe") (fun m hm => ?_) ?_
      · have hm := List.mem_range.mp hm
        walk_at "ev"
        with_reducible refine ifw_d (fun c => ?_) (fun c => ?_)
        · have c : m < (ptS A r s n).1 := by omega
          have t := e__law_plus (sw m) (sp m) (by decide) d'
          walk_at "ev"
          show _ = DL.R.ok (qD (_ + if m < (ptS A r s n).1 then _ else _)) d'
          rw [if_pos c]
        · have c : ¬ m < (ptS A r s n).1 := by omega
          have t := e__law_plus (sw m) sm0 (by decide) d'
          rw [qD_0] at t
          walk_at "ev"
          show _ = DL.R.ok (qD (_ + if m < (ptS A r s n).1 then _ else _)) d'
          rw [if_neg c]
      · walk_at "ev"
        have e : lstQ false (n + 1) (whS A n (ws ++ [(r, s)])) = D.lst false ((List.range (n + 1)).map fun m => qD (whI A n (whS A n ws) (r, s) m)) := by
          rw [whS_snoc]; rfl
        exact ⟨ws ++ [(r, s)], _, _, _, _, _, by rw [hw, List.append_assoc]; rfl, by rw [e]⟩
  · rintro ρ d ⟨rfl, ws, x3, x4, x5, x6, x7, hw, rfl⟩
    rw [List.append_nil] at hw
    subst hw
    walk_at "ev"
    rfl
/-! M35r -/
/-- Horner -/
def hn (c : Nat → Rat) (q : Rat) : Nat → Rat
  | 0 => 0
  | k + 1 => hn c q k * q + c k
def pw (c : Nat → Rat) (q : Rat) : Nat → Rat × Rat
  | 0 => (0, 1)
  | k + 1 => ((pw c q k).1 + c k * (pw c q k).2, (pw c q k).2 * q)
theorem pw_snd (c : Nat → Rat) (q : Rat) (f : Nat → Rat) : ∀ k, (pw c q k).2 = (pw f q k).2
  | 0 => rfl
  | k + 1 => by show (pw c q k).2 * q = (pw f q k).2 * q; rw [pw_snd c q f k]
theorem pw_shift (c : Nat → Rat) (q : Rat) : ∀ m, (pw c q (m + 1)).1 = c 0 + q * (pw (fun k => c (k + 1)) q m).1
  | 0 => by show 0 + c 0 * 1 = c 0 + q * 0; grind
  | m + 1 => by
    have ih := pw_shift c q m
    have e : (pw c q (m + 1)).2 = q * (pw (fun k => c (k + 1)) q m).2 := by
      show (pw c q m).2 * q = _
      rw [pw_snd c q (fun k => c (k + 1)) m, Rat.mul_comm]
    show (pw c q (m + 1)).1 + c (m + 1) * (pw c q (m + 1)).2 = c 0 + q * ((pw (fun k => c (k + 1)) q m).1 + c (m + 1) * (pw (fun k => c (k + 1)) q m).2)
    rw [ih, e]
    grind
theorem hn_pw (c : Nat → Rat) (q : Rat) : ∀ m, (pw (fun k => c (m - k)) q (m + 1)).1 = hn c q (m + 1)
  | 0 => by show 0 + c 0 * 1 = 0 * q + c 0; grind
  | m + 1 => by
    rw [pw_shift]
    have ih := hn_pw c q m
    have e : (fun k => c (m + 1 - (k + 1))) = fun k => c (m - k) := by
      funext k
      rw [Nat.add_sub_add_right]
    rw [e, ih]
    show c (m + 1) + q * hn c q (m + 1) = hn c q (m + 1) * q + c (m + 1)
    grind
theorem sm_hn {c : Nat → Rat} {q : Rat} {N M m : Nat} (hc : ∀ k, k < m → Sm N (c k)) (hq : Sm M q) : ∀ k, k ≤ m → Sm (k * (N + M + 1) + 1) (hn c q k)
  | 0, _ => sm0.mono (by omega)
  | k + 1, h => by
    have h1 := sm_hn hc hq k (by omega)
    refine ((h1.mul hq).add (hc k (by omega))).mono ?_
    rw [Nat.add_mul]
    omega
theorem sm_pw {c : Nat → Rat} {q : Rat} {N M m : Nat} (hc : ∀ k, k < m → Sm N (c k)) (hq : Sm M q) : ∀ k, k ≤ m → Sm (k * (N + m * M + 2) + 1) (pw c q k).1 ∧ Sm (k * M + 1) (pw c q k).2
  | 0, _ => ⟨sm0.mono (by omega), sm1.mono (by omega)⟩
  | k + 1, h => by
    have h1 := sm_pw hc hq k (by omega)
    have l : k * M ≤ m * M := Nat.mul_le_mul_right _ (by omega)
    refine ⟨(h1.1.add ((hc k (by omega)).mul h1.2)).mono ?_, (h1.2.mul hq).mono ?_⟩
    · rw [Nat.add_mul]
      omega
    · rw [Nat.add_mul]
      omega
theorem isEqn_row {m : Nat} {c : Nat → Rat} (h1 : 1 < m) (h2 : m ≤ 21) (h0 : c 0 = 1) : isEqn (rowL (List.range m) c) = true := by
  obtain ⟨n, rfl⟩ : ∃ n, m = n + 1 := ⟨m - 1, by omega⟩
  have e : rowL (List.range (n + 1)) c = .tup (qD (c 0) :: (List.range n).map fun k => qD (c (k + 1))) := by
    unfold rowL
    rw [List.range_succ_eq_map, List.map_cons, List.map_map]
    rfl
  have hr : isRow ((n + 1 : Nat) : Int) (rowL (List.range (n + 1)) c) = true := isRow_row _ _ (by rw [List.length_range])
  rw [e] at hr ⊢
  show (decide (1 < ((qD (c 0) :: (List.range n).map fun k => qD (c (k + 1))).length : Int)) && decide (((qD (c 0) :: (List.range n).map fun k => qD (c (k + 1))).length : Int) ≤ 21) && isRow ((qD (c 0) :: (List.range n).map fun k => qD (c (k + 1))).length : Int) (.tup (qD (c 0) :: (List.range n).map fun k => qD (c (k + 1)))) && (qD (c 0)).eqv (.tup [.int 1, .int 1])) = true
  have l : (qD (c 0) :: (List.range n).map fun k => qD (c (k + 1))).length = n + 1 := by simp
  rw [l, hr, h0, decide_eq_true (show (1 : Int) < ((n + 1 : Nat) : Int) by omega), decide_eq_true (show ((n + 1 : Nat) : Int) ≤ 21 by omega)]
  rfl
theorem row_lists {m : Nat} {c : Nat → Rat} (hm : m ≤ 1000) : ∀ xs, rowL (List.range m) c = .tup xs → xs.length ≤ 1000 := fun xs h => by
  cases h
  rw [List.length_map, List.length_range]; exact hm
theorem row_ok {m : Nat} {c : Nat → Rat} : ∀ x xs, rowL (List.range m) c = .tup (x :: xs) → isRow (x :: xs).length (rowL (List.range m) c) = true → x.ok = true := fun x xs h _ => by
  have : x ∈ (List.range m).map fun k => qD (c k) := by
    have e : (List.range m).map (fun k => qD (c k)) = x :: xs := by
      unfold rowL at h
      injection h
    rw [e]; exact List.mem_cons_self
  obtain ⟨k, _, rfl⟩ := List.mem_map.mp this
  rfl
theorem e_value_at {m N M : Nat} {c : Nat → Rat} {q : Rat} (h1 : 1 < m) (h2 : m ≤ 21) (h0 : c 0 = 1) (hc : ∀ k, k < m → Sm N (c k)) (hq : Sm M q) (hb : m * (N + M + 1) + N + M + 1 ≤ 9000) (dr : Dr) : f_value_at [rowL (List.range m) c, qD q] dr = .ok (qD (hn c q m)) dr := by
  have k1 := e_check_equation (cl_row (List.range m) c) (row_lists (by omega)) row_ok (isEqn_row h1 h2 h0) dr
  have k2 := e_check_point (cl_qD q) (isQ_qD q) dr
  refine ew_of ?_
  unfold f_value_at
  with_reducible refine fw2 ?_
  simp only [List.reduceReplicate]
  unfold m_value_at
  walk_at "ev"
  with_reducible refine sw_for (fun k => qD (c k)) (List.range m) (fun zs ρ d => d = dr ∧ ∃ ws x3, List.range m = ws ++ zs ∧ ρ = [some (rowL (List.range m) c), some (qD q), some (qD (hn c q ws.length)), x3]) ?_ ?_ ?_
  · walk_at "ev"
    exact ⟨[], _, rfl, rfl⟩
  · rintro k zs ρ d ⟨rfl, ws, x3, hw, rfl⟩
    obtain ⟨e1, hk, e2⟩ := rng_mid hw
    rw [e2]
    have sh := sm_hn hc hq k (by omega)
    have le : k * (N + M + 1) + (N + M + 1) ≤ m * (N + M + 1) := by
      rw [← Nat.succ_mul]; exact Nat.mul_le_mul_right _ hk
    have t1 := e_times sh hq (by omega) d
    have t2 := e_plus (sh.mul hq) (hc k hk) (by omega) d
    walk_at "ev"
    have e3 : hn c q (ws ++ [k]).length = hn c q k * q + c k := by rw [List.length_append, List.length_singleton, e2]; rfl
    exact ⟨ws ++ [k], _, by rw [hw, List.append_assoc]; rfl, by rw [e3]⟩
  · rintro ρ d ⟨rfl, ws, x3, hw, rfl⟩
    rw [List.append_nil] at hw
    subst hw
    rw [List.length_range]
    walk_at "ev"
    rfl
theorem e__law_power {m N M : Nat} {c : Nat → Rat} {q : Rat} (h2 : m ≤ 20) (hc : ∀ k, k < m + 1 → Sm N (c k)) (hq : Sm M q) (hb : (m + 1) * (N + (m + 1) * M + 2) + N + (m + 1) * M + M + 3 ≤ 9000) (dr : Dr) : f__law_power [rowL (List.range (m + 1)) c, qD q] dr = .ok (qD (hn c q (m + 1))) dr := by
  have hc' : ∀ k, k < m + 1 → Sm N (c (m - k)) := fun k hk => hc _ (by omega)
  refine ew_of ?_
  unfold f__law_power
  with_reducible refine fw2 ?_
  simp only [List.reduceReplicate]
  unfold m__law_power
  walk_at "ev"
  with_reducible refine sw_for (fun k => qD (c (m - k))) (List.range (m + 1)) (fun zs ρ d => d = dr ∧ ∃ ws x2, List.range (m + 1) = ws ++ zs ∧ ρ = [some (rowL (List.range (m + 1)) c), some (qD q), x2, some (qD (pw (fun k => c (m - k)) q ws.length).1), some (qD (pw (fun k => c (m - k)) q ws.length).2)]) ?_ ?_ ?_
  · walk_at "ev"
    exact ⟨[], _, rfl, rfl⟩
  · rintro k zs ρ d ⟨rfl, ws, x3, hw, rfl⟩
    obtain ⟨e1, hk, e2⟩ := rng_mid hw
    rw [e2]
    have sp := sm_pw hc' hq k (by omega)
    have sc := hc' k hk
    have le : k * (N + (m + 1) * M + 2) + (N + (m + 1) * M + 2) ≤ (m + 1) * (N + (m + 1) * M + 2) := by
      rw [← Nat.succ_mul]; exact Nat.mul_le_mul_right _ hk
    have le2 : k * M + M ≤ (m + 1) * M := by
      rw [← Nat.succ_mul]; exact Nat.mul_le_mul_right _ hk
    have t1 := e__law_times sc sp.2 (by omega) d
    have t2 := e__law_plus sp.1 (sc.mul sp.2) (by omega) d
    have t3 := e__law_times sp.2 hq (by omega) d
    walk_at "ev"
    have e3 : pw (fun k => c (m - k)) q (ws ++ [k]).length = ((pw (fun k => c (m - k)) q k).1 + c (m - k) * (pw (fun k => c (m - k)) q k).2, (pw (fun k => c (m - k)) q k).2 * q) := by rw [List.length_append, List.length_singleton, e2]; rfl
    exact ⟨ws ++ [k], _, by rw [hw, List.append_assoc]; rfl, by rw [e3]⟩
  · rintro ρ d ⟨rfl, ws, x3, hw, rfl⟩
    rw [List.append_nil] at hw
    subst hw
    rw [List.length_range, hn_pw]
    walk_at "ev"
    rfl
/-! what a function tells, or a mark -/
theorem ask0 {d r : D} {dr : Dr} (h : f_equation [d] dr = .ok r dr) (z : d.fz = d) (y : d.frz = true) : f__law_ask [.int 0, d, .non] dr = .ok r dr := by
  refine ew_of ?_
  unfold f__law_ask
  with_reducible refine fw3 ?_
  simp only [List.reduceReplicate]
  unfold m__law_ask
  walk_at "ev"
  with_reducible refine ifw_b (fun h => absurd h (by decide)) (fun h => ?_)
  walk_at "ev"
  rfl
theorem ask1 {d r : D} {dr : Dr} (h : f_paired [d] dr = .ok r dr) (z : d.fz = d) (y : d.frz = true) : f__law_ask [.int 1, d, .non] dr = .ok r dr := by
  refine ew_of ?_
  unfold f__law_ask
  with_reducible refine fw3 ?_
  simp only [List.reduceReplicate]
  unfold m__law_ask
  walk_at "ev"
  with_reducible refine ifw_b (fun h => absurd h (by decide)) (fun h => ?_)
  walk_at "ev"
  rfl
theorem ask2 {d e r : D} {dr : Dr} (h : f_value_at [d, e] dr = .ok r dr) (z : d.fz = d) (y : d.frz = true) (z2 : e.fz = e) (y2 : e.frz = true) : f__law_ask [.int 2, d, e] dr = .ok r dr := by
  refine ew_of ?_
  unfold f__law_ask
  with_reducible refine fw3 ?_
  simp only [List.reduceReplicate]
  unfold m__law_ask
  walk_at "ev"
  with_reducible refine ifw_b (fun h => ?_) (fun h => absurd rfl h)
  walk_at "ev"
  rfl
theorem bad0 {d : D} {dr : Dr} (h : f_equation [d] dr = .ex mal dr) (z : d.fz = d) (y : d.frz = true) : f__law_ask [.int 0, d, .non] dr = .ok (.str "bad") dr := by
  refine ew_of ?_
  unfold f__law_ask
  with_reducible refine fw3 ?_
  simp only [List.reduceReplicate]
  unfold m__law_ask
  walk_at "ev"
  with_reducible refine ifw_b (fun h => absurd h (by decide)) (fun h => ?_)
  walk_at "ev"
  intro e ρ d z
  cases z
theorem bad1 {d : D} {dr : Dr} (h : f_paired [d] dr = .ex mal dr) (z : d.fz = d) (y : d.frz = true) : f__law_ask [.int 1, d, .non] dr = .ok (.str "bad") dr := by
  refine ew_of ?_
  unfold f__law_ask
  with_reducible refine fw3 ?_
  simp only [List.reduceReplicate]
  unfold m__law_ask
  walk_at "ev"
  with_reducible refine ifw_b (fun h => absurd h (by decide)) (fun h => ?_)
  walk_at "ev"
  intro e ρ d z
  cases z
theorem bad2 {d e : D} {dr : Dr} (h : f_value_at [d, e] dr = .ex mal dr) (z : d.fz = d) (y : d.frz = true) (z2 : e.fz = e) (y2 : e.frz = true) : f__law_ask [.int 2, d, e] dr = .ok (.str "bad") dr := by
  refine ew_of ?_
  unfold f__law_ask
  with_reducible refine fw3 ?_
  simp only [List.reduceReplicate]
  unfold m__law_ask
  walk_at "ev"
  with_reducible refine ifw_b (fun h => ?_) (fun h => absurd rfl h)
  walk_at "ev"
  intro e ρ d z
  cases z
theorem x_equation {d : D} (h : d.cl = true) (hl : wide2 d) (t : isTab d = false) (dr : Dr) : f_equation [d] dr = .ex mal dr := by
  have c := x_check_table h hl t dr
  have z := fz_cl d h
  have y := frz_cl h
  refine ew_ofx ?_
  unfold f_equation
  with_reducible refine fw1 ?_
  simp only [List.reduceReplicate]
  unfold m_equation
  walk_at "ev"
  rfl
theorem x_paired {d : D} (h : d.cl = true) (hl : wide2 d) (t : isTab d = false) (dr : Dr) : f_paired [d] dr = .ex mal dr := by
  have c := x_check_table h hl t dr
  have z := fz_cl d h
  have y := frz_cl h
  refine ew_ofx ?_
  unfold f_paired
  with_reducible refine fw1 ?_
  simp only [List.reduceReplicate]
  unfold m_paired
  walk_at "ev"
  rfl
theorem x_value_at {d e : D} (h : d.cl = true) (h2 : e.cl = true) (hl : ∀ xs, d = .tup xs → xs.length ≤ 1000) (hok : ∀ x xs, d = .tup (x :: xs) → isRow (x :: xs).length d = true → x.ok = true) (t : isEqn d = false) (dr : Dr) : f_value_at [d, e] dr = .ex mal dr := by
  have c := x_check_equation h hl hok t dr
  have z := fz_cl d h
  have y := frz_cl h
  refine ew_ofx ?_
  unfold f_value_at
  with_reducible refine fw2 ?_
  simp only [List.reduceReplicate]
  unfold m_value_at
  walk_at "ev"
  rfl
theorem x_value_at2 {d e : D} (h : d.cl = true) (h2 : e.cl = true) (hl : ∀ xs, d = .tup xs → xs.length ≤ 1000) (hok : ∀ x xs, d = .tup (x :: xs) → isRow (x :: xs).length d = true → x.ok = true) (t : isEqn d = true) (t2 : e.isQ = false) (dr : Dr) : f_value_at [d, e] dr = .ex mal dr := by
  have c := e_check_equation h hl hok t dr
  have c2 := x_check_point h2 t2 dr
  have z := fz_cl d h
  have y := frz_cl h
  have z2 := fz_cl e h2
  have y2 := frz_cl h2
  refine ew_ofx ?_
  unfold f_value_at
  with_reducible refine fw2 ?_
  simp only [List.reduceReplicate]
  unfold m_value_at
  walk_at "ev"
  rfl
theorem tab_wide {ι κ : Type} {I : List ι} {J : List κ} {A : ι → κ → Rat} (hI : I.length ≤ 1000) (hJ : J.length ≤ 1000) : wide2 (tabL I J A) := fun xs h => by
  have e : I.map (fun i => rowL J (A i)) = xs := by
    unfold tabL at h
    injection h
  subst e
  refine ⟨by rw [List.length_map]; exact hI, fun x hx ys hy => ?_⟩
  obtain ⟨i, _, rfl⟩ := List.mem_map.mp hx
  unfold rowL at hy
  have e : J.map (fun j => qD (A i j)) = ys := by injection hy
  subst e
  rw [List.length_map]; exact hJ
/-! M35s -/
set_option maxHeartbeats 400000000
theorem id_1 (X : Mq) : ∀ k, k ≤ 1 → (flQ 1 X k).2 = due X 1 k := by
  intro k hk
  have : k = 0 ∨ k = 1 := by omega
  rcases this with rfl | rfl
  · simp [flQ, due, whS, whI, ordL, ordS, ptS, fl1, fc, cv, cvO, cvI, cvS, List.range_succ]
    grind
  · simp [flQ, due, whS, whI, ordL, ordS, ptS, fl1, fc, cv, cvO, cvI, cvS, List.range_succ, trQ, mulQ, sumL, idQ]
    grind
theorem id_2 (X : Mq) : ∀ k, k ≤ 2 → (flQ 2 X k).2 = due X 2 k := by
  intro k hk
  have : k = 0 ∨ k = 1 ∨ k = 2 := by omega
  rcases this with rfl | rfl | rfl
  · simp [flQ, due, whS, whI, ordL, ordS, ptS, fl1, fc, cv, cvO, cvI, cvS, List.range_succ]
    grind
  · simp [flQ, due, whS, whI, ordL, ordS, ptS, fl1, fc, cv, cvO, cvI, cvS, List.range_succ, trQ, mulQ, sumL, idQ]
    grind
  · simp [flQ, due, whS, whI, ordL, ordS, ptS, fl1, fc, cv, cvO, cvI, cvS, List.range_succ, trQ, mulQ, sumL, idQ]
    grind
theorem id_3 (X : Mq) : ∀ k, k ≤ 3 → (flQ 3 X k).2 = due X 3 k := by
  intro k hk
  have : k = 0 ∨ k = 1 ∨ k = 2 ∨ k = 3 := by omega
  rcases this with rfl | rfl | rfl | rfl
  · simp [flQ, due, whS, whI, ordL, ordS, ptS, fl1, fc, cv, cvO, cvI, cvS, List.range_succ]
    grind
  · simp [flQ, due, whS, whI, ordL, ordS, ptS, fl1, fc, cv, cvO, cvI, cvS, List.range_succ, trQ, mulQ, sumL, idQ]
    grind
  · simp [flQ, due, whS, whI, ordL, ordS, ptS, fl1, fc, cv, cvO, cvI, cvS, List.range_succ, trQ, mulQ, sumL, idQ]
    grind
  · simp [flQ, due, whS, whI, ordL, ordS, ptS, fl1, fc, cv, cvO, cvI, cvS, List.range_succ, trQ, mulQ, sumL, idQ]
    grind

theorem id_40 (X : Mq) : (flQ 4 X 0).2 = due X 4 0 := by
  simp [flQ, due, whS, whI, ordL, ordS, ptS, fl1, fc, cv, cvO, cvI, cvS, List.range_succ]
  grind
theorem id_41 (X : Mq) : (flQ 4 X 1).2 = due X 4 1 := by
  simp [flQ, due, whS, whI, ordL, ordS, ptS, fl1, fc, cv, cvO, cvI, cvS, List.range_succ, trQ, mulQ, sumL, idQ]
  grind
theorem id_42 (X : Mq) : (flQ 4 X 2).2 = due X 4 2 := by
  simp [flQ, due, whS, whI, ordL, ordS, ptS, fl1, fc, cv, cvO, cvI, cvS, List.range_succ, trQ, mulQ, sumL, idQ]
  grind

theorem id_43 (X : Mq) : (flQ 4 X 3).2 = due X 4 3 := by
  simp [flQ, due, whS, whI, ordL, ordS, ptS, fl1, fc, cv, cvO, cvI, cvS, List.range_succ, trQ, mulQ, sumL, idQ]
  grind

theorem id_44p0 (X : Mq) : mulQ 4 X (flQ 4 X 3).1 0 0 = -(due X 4 4) := by
  simp [flQ, due, whS, whI, ordL, ordS, ptS, fl1, fc, cv, cvO, cvI, cvS, List.range_succ, trQ, mulQ, sumL, idQ]
  grind
theorem id_44p1 (X : Mq) : mulQ 4 X (flQ 4 X 3).1 1 1 = -(due X 4 4) := by
  simp [flQ, due, whS, whI, ordL, ordS, ptS, fl1, fc, cv, cvO, cvI, cvS, List.range_succ, trQ, mulQ, sumL, idQ]
  grind
theorem id_44p2 (X : Mq) : mulQ 4 X (flQ 4 X 3).1 2 2 = -(due X 4 4) := by
  simp [flQ, due, whS, whI, ordL, ordS, ptS, fl1, fc, cv, cvO, cvI, cvS, List.range_succ, trQ, mulQ, sumL, idQ]
  grind
theorem id_44p3 (X : Mq) : mulQ 4 X (flQ 4 X 3).1 3 3 = -(due X 4 4) := by
  simp [flQ, due, whS, whI, ordL, ordS, ptS, fl1, fc, cv, cvO, cvI, cvS, List.range_succ, trQ, mulQ, sumL, idQ]
  grind
theorem id_44 (X : Mq) : (flQ 4 X 4).2 = due X 4 4 := by
  have t : trQ 4 (mulQ 4 X (flQ 4 X 3).1) = -(due X 4 4) * 4 := by
    have e : trQ 4 (mulQ 4 X (flQ 4 X 3).1) = mulQ 4 X (flQ 4 X 3).1 0 0 + (mulQ 4 X (flQ 4 X 3).1 1 1 + (mulQ 4 X (flQ 4 X 3).1 2 2 + (mulQ 4 X (flQ 4 X 3).1 3 3 + 0))) := by
      show sumL [0, 1, 2, 3] _ = _
      rw [sumL_cons, sumL_cons, sumL_cons, sumL_cons, sumL_nil]
    rw [e, id_44p0, id_44p1, id_44p2, id_44p3]
    grind
  show -(trQ 4 (mulQ 4 X (flQ 4 X 3).1)) / ((3 + 1 : Nat) : Rat) = due X 4 4
  rw [t]
  have : ((3 + 1 : Nat) : Rat) = 4 := rfl
  rw [this]
  grind
theorem fl_due (X : Mq) {n k : Nat} (h0 : 0 < n) (hn : n ≤ 4) (hk : k ≤ n) : (flQ n X k).2 = due X n k := by
  have : n = 1 ∨ n = 2 ∨ n = 3 ∨ n = 4 := by omega
  rcases this with rfl | rfl | rfl | rfl
  · exact id_1 X k hk
  · exact id_2 X k hk
  · exact id_3 X k hk
  · have : k = 0 ∨ k = 1 ∨ k = 2 ∨ k = 3 ∨ k = 4 := by omega
    rcases this with rfl | rfl | rfl | rfl | rfl
    · exact id_40 X
    · exact id_41 X
    · exact id_42 X
    · exact id_43 X
    · exact id_44 X
/-! M35t -/
def IsZ (q : Rat) : Prop := ∃ z : Int, q = (z : Rat)
theorem IsZ.add {p q : Rat} (h : IsZ p) (k : IsZ q) : IsZ (p + q) := by
  obtain ⟨y, rfl⟩ := h
  obtain ⟨z, rfl⟩ := k
  exact ⟨y + z, (Rat.intCast_add y z).symm⟩
theorem IsZ.mul {p q : Rat} (h : IsZ p) (k : IsZ q) : IsZ (p * q) := by
  obtain ⟨y, rfl⟩ := h
  obtain ⟨z, rfl⟩ := k
  exact ⟨y * z, (Rat.intCast_mul y z).symm⟩
theorem IsZ.neg {p : Rat} (h : IsZ p) : IsZ (-p) := by
  obtain ⟨y, rfl⟩ := h
  exact ⟨-y, (Rat.intCast_neg y).symm⟩
theorem isZ0 : IsZ 0 := ⟨0, rfl⟩
theorem isZ1 : IsZ 1 := ⟨1, rfl⟩
theorem cv_Z {p q : Nat → Rat} {a b : Nat} (hp : ∀ k, IsZ (p k)) (hq : ∀ k, IsZ (q k)) : ∀ m, IsZ (cv p a q b m) := by
  have hI : ∀ (l : List Nat) (g : Nat → Rat) (j : Nat), (∀ m, IsZ (g m)) → ∀ m, IsZ (cvI p q g j l m) := by
    intro l
    induction l with
    | nil => intro g j hg m; exact hg m
    | cons k l ih =>
      intro g j hg m
      refine ih (cvS p q g j k) j (fun m => ?_) m
      unfold cvS
      split
      · exact (hg m).add ((hp j).mul (hq k))
      · exact hg m
  have hO : ∀ (l : List Nat) (g : Nat → Rat), (∀ m, IsZ (g m)) → ∀ m, IsZ (l.foldl (fun g j => cvI p q g j (List.range b)) g m) := by
    intro l
    induction l with
    | nil => intro g hg m; exact hg m
    | cons j l ih => intro g hg m; exact ih _ (hI _ _ _ hg) m
  exact hO _ _ fun _ => isZ0
theorem pt_Z {X : Mq} {n : Nat} (hX : ∀ i j, i < n → j < n → IsZ (X i j)) {r : List Nat} {s : Int} (hr : ∀ k, k < n → r.getD k 0 < n) : ∀ k, k ≤ n → ∀ m, IsZ ((ptS X r s k).2 m)
  | 0, _, m => ⟨s, rfl⟩
  | k + 1, h, m => cv_Z (pt_Z hX hr k (by omega)) (fun i => by
    unfold fc
    split
    · exact (hX _ _ (by omega) (hr k (by omega))).neg
    · exact isZ1) m
theorem due_Z {X : Mq} {n : Nat} (h0 : 0 < n) (hn : n ≤ 4) (hX : ∀ i j, i < n → j < n → IsZ (X i j)) (k : Nat) : IsZ (due X n k) := by
  have ok := (ord_ok h0 hn).2
  have h : ∀ (l : List (List Nat × Int)) (w : Nat → Rat), (∀ x ∈ l, x ∈ ordL n) → (∀ m, IsZ (w m)) → ∀ m, IsZ (l.foldl (whI X n) w m) := by
    intro l
    induction l with
    | nil => intro w _ hw m; exact hw m
    | cons x l ih =>
      intro w hl hw m
      refine ih (whI X n w x) (fun y hy => hl y (List.mem_cons_of_mem _ hy)) (fun m => ?_) m
      obtain ⟨g1, g2, g3⟩ := ok x (hl x List.mem_cons_self)
      unfold whI
      refine (hw m).add ?_
      split
      · exact pt_Z hX (fun k hk => g2 _ (by
          rw [List.getD_eq_getElem?_getD, List.getElem?_eq_getElem (by rw [g1]; exact hk)]
          exact List.getElem_mem _)) n (Nat.le_refl _) m
      · exact isZ0
  exact h _ _ (fun _ hx => hx) (fun _ => isZ0) _
theorem cast_sum (f : Nat → Int) : ∀ l : List Nat, (((l.map f).sum : Int) : Rat) = sumL l fun i => (f i : Rat)
  | [] => rfl
  | x :: l => by rw [List.map_cons, List.sum_cons, sumL_cons, Rat.intCast_add, cast_sum f l]
theorem fl_bridge {n : Nat} {W : Nat → Nat → Int} {X : Mq} (hX : EqM n X fun i j => (W i j : Rat)) (hz : ∀ k, k ≤ n → IsZ (flQ n X k).2) : ∀ k, k ≤ n → (∀ i j, i < n → j < n → ((flS n W k).1 i j : Rat) = (flQ n X k).1 i j) ∧ ((flS n W k).2 : Rat) = (flQ n X k).2
  | 0, _ => ⟨fun i j _ _ => by
      show (((if i = j then 1 else 0 : Int)) : Rat) = if i = j then 1 else 0
      split <;> rfl, rfl⟩
  | k + 1, h => by
    obtain ⟨h1, h2⟩ := fl_bridge hX hz k (by omega)
    have m : ∀ i l, i < n → l < n → ((mulZ n W (flS n W k).1 i l : Int) : Rat) = mulQ n X (flQ n X k).1 i l := fun i l hi hl => by
      show (((List.range n).map fun j => W i j * (flS n W k).1 j l).sum : Int) = sumL (List.range n) fun j => X i j * (flQ n X k).1 j l
      rw [cast_sum]
      exact sumL_congr fun j hj => by
        rw [Rat.intCast_mul, h1 j l (List.mem_range.mp hj) hl, hX i j hi (List.mem_range.mp hj)]
    have t : ((trZ n (mulZ n W (flS n W k).1) : Int) : Rat) = trQ n (mulQ n X (flQ n X k).1) := by
      unfold trZ
      rw [cast_sum]
      exact sumL_congr fun p hp => m p p (List.mem_range.mp hp) (List.mem_range.mp hp)
    have e : (((-(trZ n (mulZ n W (flS n W k).1))).fdiv ((k + 1 : Nat) : Int) : Int) : Rat) = (flQ n X (k + 1)).2 := by
      obtain ⟨z, hz⟩ := hz (k + 1) h
      have q : (flQ n X (k + 1)).2 = -(trQ n (mulQ n X (flQ n X k).1)) / ((k + 1 : Nat) : Rat) := rfl
      have nz : ((k + 1 : Nat) : Rat) ≠ 0 := by
        intro c
        have := Rat.natCast_inj.mp (show ((k + 1 : Nat) : Rat) = ((0 : Nat) : Rat) from c)
        omega
      have a : -(trZ n (mulZ n W (flS n W k).1)) = z * ((k + 1 : Nat) : Int) := by
        apply Rat.intCast_inj.mp
        rw [Rat.intCast_neg, t, Rat.intCast_mul, ← hz, q, Rat.intCast_natCast]
        grind
      rw [a, Int.mul_fdiv_cancel _ (by omega), ← hz]
    refine ⟨fun i j hi hj => ?_, e⟩
    show ((mulZ n W (flS n W k).1 i j + if i = j then (-(trZ n (mulZ n W (flS n W k).1))).fdiv ((k + 1 : Nat) : Int) else 0 : Int) : Rat) = mulQ n X (flQ n X k).1 i j + if i = j then (flQ n X (k + 1)).2 else 0
    rw [Rat.intCast_add, m i j hi hj, ← e]
    split <;> rfl
theorem Fr.parts {K B : Nat} {q : Rat} (h : Fr K B q) (h0 : 0 < K) : q.den ∣ K ∧ q.num.natAbs ≤ B := by
  obtain ⟨z, h1, rfl⟩ := h.eq h0
  rw [Rat.den_divInt, if_neg (by omega), Rat.num_divInt, Int.sign_eq_one_of_pos (by omega), Int.one_mul]
  refine ⟨?_, Nat.le_trans (Int.natAbs_ediv_le_natAbs _ _) h1⟩
  rw [Int.natAbs_natCast]
  refine Nat.div_dvd_of_dvd ?_
  have := Int.gcd_dvd_left (a := (K : Int)) (b := z)
  first | exact Int.natCast_dvd_natCast.mp this | (rw [Int.gcd_comm] at this; exact Int.natCast_dvd_natCast.mp this) | exact Int.natCast_dvd_natCast.mp (Int.gcd_dvd_right ..)
theorem sum_le (f : Nat → Int) (B : Nat) : ∀ l : List Nat, (∀ i ∈ l, (f i).natAbs ≤ B) → ((l.map f).sum).natAbs ≤ l.length * B
  | [], _ => by simp
  | x :: l, h => by
    rw [List.map_cons, List.sum_cons, List.length_cons, Nat.add_mul]
    have h1 := h x List.mem_cons_self
    have h2 := sum_le f B l fun i hi => h i (List.mem_cons_of_mem _ hi)
    have := Int.natAbs_add_le (f x) ((l.map f).sum)
    omega
theorem fdiv_le (a : Int) (k : Nat) : (a.fdiv ((k + 1 : Nat) : Int)).natAbs ≤ a.natAbs := by
  rw [Int.fdiv_eq_ediv_of_nonneg _ (by omega)]
  exact Int.natAbs_ediv_le_natAbs _ _
theorem flS_le {n w : Nat} {W : Nat → Nat → Int} (hn : n ≤ 4) (hW : ∀ i j, i < n → j < n → (W i j).natAbs ≤ w) : ∀ k i j, i < n → j < n → ((flS n W k).1 i j).natAbs ≤ (20 * w + 1) ^ k
  | 0, i, j, _, _ => by
    show (if i = j then 1 else 0 : Int).natAbs ≤ 1
    split <;> decide
  | k + 1, i, j, hi, hj => by
    have ih := flS_le hn hW k
    have m : ∀ i l, i < n → l < n → (mulZ n W (flS n W k).1 i l).natAbs ≤ 4 * (w * (20 * w + 1) ^ k) := fun i l hi hl => by
      have := sum_le (fun j => W i j * (flS n W k).1 j l) (w * (20 * w + 1) ^ k) (List.range n) fun j hj => by
        rw [Int.natAbs_mul]
        exact Nat.mul_le_mul (hW i j hi (List.mem_range.mp hj)) (ih j l (List.mem_range.mp hj) hl)
      rw [List.length_range] at this
      exact Nat.le_trans this (Nat.mul_le_mul_right _ hn)
    have t : (trZ n (mulZ n W (flS n W k).1)).natAbs ≤ 4 * (4 * (w * (20 * w + 1) ^ k)) := by
      have := sum_le (fun p => mulZ n W (flS n W k).1 p p) (4 * (w * (20 * w + 1) ^ k)) (List.range n) fun p hp => m p p (List.mem_range.mp hp) (List.mem_range.mp hp)
      rw [List.length_range] at this
      exact Nat.le_trans this (Nat.mul_le_mul_right _ hn)
    have f := fdiv_le (-(trZ n (mulZ n W (flS n W k).1))) k
    rw [Int.natAbs_neg] at f
    have m := m i j hi hj
    have p : (20 * w + 1) ^ (k + 1) = 20 * (w * (20 * w + 1) ^ k) + (20 * w + 1) ^ k := by rw [Nat.pow_succ]; grind
    rw [p]
    show (mulZ n W (flS n W k).1 i j + if i = j then (-(trZ n (mulZ n W (flS n W k).1))).fdiv ((k + 1 : Nat) : Int) else 0 : Int).natAbs ≤ _
    split
    · have := Int.natAbs_add_le (mulZ n W (flS n W k).1 i j) ((-(trZ n (mulZ n W (flS n W k).1))).fdiv ((k + 1 : Nat) : Int))
      omega
    · rw [Int.add_zero]
      omega
/-! M35u -/
theorem by_dvd {n : Nat} {A : Mq} {i j : Nat} (hi : i < n) (hj : j < n) : (A i j).den ∣ byOf (List.range n) (List.range n) A := by
  refine (lcm_dvds _ 1).2 _ (List.mem_map.mpr ⟨(i, j), List.mem_flatMap.mpr ⟨i, List.mem_range.mpr hi, List.mem_map.mpr ⟨j, List.mem_range.mpr hj, rfl⟩⟩, rfl⟩)
theorem by_M {n K : Nat} {A : Mq} (h : ∀ i j, i < n → j < n → (A i j).den ∣ K) : byOf (List.range n) (List.range n) A ∣ K := lcm_foldl K _ 1 (Nat.one_dvd _) fun x hx => by
  obtain ⟨p, hp, rfl⟩ := List.mem_map.mp hx
  obtain ⟨i, hi, hp⟩ := List.mem_flatMap.mp hp
  obtain ⟨j, hj, rfl⟩ := List.mem_map.mp hp
  exact h i j (List.mem_range.mp hi) (List.mem_range.mp hj)
theorem by_pos {n : Nat} {A : Mq} : 0 < byOf (List.range n) (List.range n) A := lcm_pos' _ 1 (by decide) fun x hx => by
  obtain ⟨p, hp, rfl⟩ := List.mem_map.mp hx
  exact (A p.1 p.2).den_pos
theorem wh_cast {n : Nat} {A : Mq} {i j : Nat} (hi : i < n) (hj : j < n) : ((whO (List.range n) (List.range n) A i j : Int) : Rat) = ((byOf (List.range n) (List.range n) A : Nat) : Rat) * A i j := by
  unfold whO
  obtain ⟨k, hk⟩ := by_dvd (A := A) hi hj
  rw [hk, Nat.mul_div_cancel_left _ (A i j).den_pos, Rat.intCast_mul, Rat.natCast_mul, Rat.intCast_natCast]
  have e : A i j = ((A i j).num : Rat) / ((A i j).den : Rat) := by
    conv => lhs; rw [← Rat.num_divInt_den (A i j)]
    rw [Rat.divInt_eq_div, Rat.intCast_natCast]
  have d0 : ((A i j).den : Rat) ≠ 0 := by
    intro c
    have := Rat.natCast_inj.mp (show ((A i j).den : Rat) = ((0 : Nat) : Rat) from c)
    have := (A i j).den_pos
    omega
  have e2 : ((A i j).den : Rat) * A i j = ((A i j).num : Rat) := by
    conv => lhs; rw [e]
    grind
  grind
theorem eqC_due {n : Nat} {A : Mq} (h0 : 0 < n) (hn : n ≤ 4) {m : Nat} (hm : m ≤ n) : eqC n (whO (List.range n) (List.range n) A) (byOf (List.range n) (List.range n) A) m = due A n m := by
  have hX : EqM n (fun i j => ((byOf (List.range n) (List.range n) A : Nat) : Rat) * A i j) fun i j => (whO (List.range n) (List.range n) A i j : Rat) := fun i j hi hj => (wh_cast hi hj).symm
  have hz : ∀ k, k ≤ n → IsZ (flQ n (fun i j => ((byOf (List.range n) (List.range n) A : Nat) : Rat) * A i j) k).2 := fun k hk => by
    rw [fl_due _ h0 hn hk]
    exact due_Z h0 hn (fun i j hi hj => ⟨_, hX i j hi hj⟩) k
  have br := (fl_bridge hX hz m hm).2
  rw [(fl_scal n _ A m).2, fl_due _ h0 hn hm] at br
  unfold eqC
  rw [← Rat.natCast_pow] at br
  rw [Rat.divInt_eq_div, br, Rat.intCast_natCast]
  have b0 := by_pos (n := n) (A := A)
  have p0 := Nat.pow_pos b0 (n := m)
  have nz2 : (((byOf (List.range n) (List.range n) A) ^ m : Nat) : Rat) ≠ 0 := by
    intro c
    have := Rat.natCast_inj.mp (show (((byOf (List.range n) (List.range n) A) ^ m : Nat) : Rat) = ((0 : Nat) : Rat) from c)
    omega
  generalize (((byOf (List.range n) (List.range n) A) ^ m : Nat) : Rat) = z at *
  grind
theorem row_congr {n : Nat} {c d : Nat → Rat} (h : ∀ k, k < n → c k = d k) : rowL (List.range n) c = rowL (List.range n) d := by
  unfold rowL
  congr 1
  exact List.map_congr_left fun k hk => by rw [h k (List.mem_range.mp hk)]
theorem e_equation {n : Nat} {A : Mq} (h0 : 0 < n) (hn : n ≤ 4) (hA : ∀ i j, i < n → j < n → Fr 36 1296 (A i j)) (dr : Dr) : f_equation [tabL (List.range n) (List.range n) A] dr = .ok (rowL (List.range (n + 1)) (due A n)) dr := by
  have pt := fun i j hi hj => Fr.parts (hA i j hi hj) (by decide)
  have b0 := by_pos (n := n) (A := A)
  have bM := by_M (n := n) (A := A) fun i j hi hj => (pt i j hi hj).1
  have b36 : byOf (List.range n) (List.range n) A ≤ 36 := Nat.le_of_dvd (by decide) bM
  have hW : ∀ i j, i < n → j < n → (whO (List.range n) (List.range n) A i j).natAbs ≤ 46656 := fun i j hi hj => by
    unfold whO
    rw [Int.natAbs_mul, Int.natAbs_natCast]
    exact Nat.mul_le_mul (pt i j hi hj).2 (Nat.le_trans (Nat.div_le_self _ _) b36)
  have eq := e_equation_of (n := n) (M := 36) (N := 100) (A := A) (by omega) h0 (fun i hi j hj => ⟨(pt i j (List.mem_range.mp hi) (List.mem_range.mp hj)).1, Nat.lt_of_le_of_lt (pt i j (List.mem_range.mp hi) (List.mem_range.mp hj)).2 (by decide)⟩) (by decide) (by decide) (by decide)
    (fun m hm => Nat.lt_of_le_of_lt (Nat.pow_le_pow_left b36 m) (Nat.lt_of_le_of_lt (Nat.pow_le_pow_right (by decide) (show m ≤ 4 by omega)) (by decide)))
    (fun i j hi hj => Nat.lt_of_le_of_lt (hW i j hi hj) (by decide))
    (fun m hm i j hi hj => Nat.lt_of_le_of_lt (flS_le hn hW m i j hi hj) (Nat.lt_of_le_of_lt (Nat.pow_le_pow_right (by decide) (show m ≤ 4 by omega)) (by decide))) dr
  rw [row_congr (c := eqC n _ _) (d := due A n) fun k hk => eqC_due h0 hn (by omega)] at eq
  have c := e_check_table (cl_tab (List.range n) (List.range n) A) (tab_wide (by rw [List.length_range]; omega) (by rw [List.length_range]; omega)) (isTab_tab A rfl (by rw [List.length_range]; omega) (by rw [List.length_range]; omega)) dr
  refine ew_of ?_
  unfold f_equation
  with_reducible refine fw1 ?_
  simp only [List.reduceReplicate]
  unfold m_equation
  walk_at "ev"
  rfl
theorem e_paired {n N : Nat} {A : Mq} (h0 : 0 < n) (hn : n ≤ 4) (hA : ∀ i j, i < n → j < n → Sm N (A i j)) (hN : N + N + (N + N) ≤ 9000) (dr : Dr) : f_paired [tabL (List.range n) (List.range n) A] dr = .ok (tabL (Pr n) (Pr n) (Sy A)) dr := by
  have eq := e_pair_power hn hA hN dr
  have c := e_check_table (cl_tab (List.range n) (List.range n) A) (tab_wide (by rw [List.length_range]; omega) (by rw [List.length_range]; omega)) (isTab_tab A rfl (by rw [List.length_range]; omega) (by rw [List.length_range]; omega)) dr
  refine ew_of ?_
  unfold f_paired
  with_reducible refine fw1 ?_
  simp only [List.reduceReplicate]
  unfold m_paired
  walk_at "ev"
  rfl
/-! M35v -/
mutual
theorem eqv_self : ∀ (d : D), d.cl = true → d.eqv d = true
  | .non, _ => rfl
  | .bl b, _ => by show (b == b) = true; exact beq_self_eq_true b
  | .int i, _ => by show (i == i) = true; exact beq_self_eq_true i
  | .str x, _ => by show (x == x) = true; exact beq_self_eq_true x
  | .tup xs, h => eqvs_self xs h
  | .lst o xs, h => by
    have h : (!o && D.cls xs) = true := h
    rw [Bool.and_eq_true] at h
    exact eqvs_self xs h.2
  | .fn _, h => by cases h
  | .dr, h => by cases h
theorem eqvs_self : ∀ (xs : List D), D.cls xs = true → D.eqvs xs xs = true
  | [], _ => rfl
  | x :: xs, h => by
    have h : (D.cl x && D.cls xs) = true := h
    rw [Bool.and_eq_true] at h
    show (D.eqv x x && D.eqvs xs xs) = true
    rw [eqv_self x h.1, eqvs_self xs h.2]; rfl
end
theorem pls_map {ι : Type} {f : ι → D} (h : ∀ i, (f i).pl = true) : ∀ l : List ι, D.pls (l.map f) = true
  | [] => rfl
  | x :: l => by
    show (D.pl (f x) && D.pls (l.map f)) = true
    rw [h x, pls_map h l]; rfl
theorem deps_map {ι : Type} {f : ι → D} {k : Nat} (h : ∀ i, (f i).dep ≤ k) : ∀ l : List ι, D.deps (l.map f) ≤ k
  | [] => Nat.zero_le _
  | x :: l => by
    show max (D.dep (f x)) (D.deps (l.map f)) ≤ k
    exact Nat.max_le.mpr ⟨h x, deps_map h l⟩
theorem ok_of {d : D} (h : d.pl = true) (k : d.dep ≤ 64) : d.ok = true := by
  unfold D.ok
  rw [h, decide_eq_true k]; rfl
theorem pl_row {κ : Type} (J : List κ) (r : κ → Rat) : (rowL J r).pl = true := pls_map (f := fun j => qD (r j)) (fun _ => rfl) J
theorem dep_row {κ : Type} (J : List κ) (r : κ → Rat) : (rowL J r).dep ≤ 2 := Nat.succ_le_succ (deps_map (f := fun j => qD (r j)) (k := 1) (fun _ => Nat.le_refl 1) J)
theorem ok_row {κ : Type} (J : List κ) (r : κ → Rat) : (rowL J r).ok = true := ok_of (pl_row J r) (Nat.le_trans (dep_row J r) (by decide))
theorem ok_tab {ι κ : Type} (I : List ι) (J : List κ) (A : ι → κ → Rat) : (tabL I J A).ok = true := ok_of (pls_map (f := fun i => rowL J (A i)) (fun i => pl_row J (A i)) I) (Nat.le_trans (Nat.succ_le_succ (deps_map (f := fun i => rowL J (A i)) (k := 2) (fun i => dep_row J (A i)) I)) (by decide))
theorem ok_qD (q : Rat) : (qD q).ok = true := rfl
theorem ne_self {d : D} (h : d.cl = true) (k : d.ok = true) : gNe d d = some (.bl false) := by
  unfold gNe
  rw [k, eqv_self d h]; rfl
theorem tab_congr {ι κ : Type} {I : List ι} {J : List κ} {A B : ι → κ → Rat} (h : ∀ i ∈ I, ∀ j ∈ J, A i j = B i j) : tabL I J A = tabL I J B := by
  unfold tabL rowL
  congr 1
  refine List.map_congr_left fun i hi => ?_
  congr 1
  exact List.map_congr_left fun j hj => by rw [h i hi j hj]
theorem rowL_congr {κ : Type} {J : List κ} {c d : κ → Rat} (h : ∀ k ∈ J, c k = d k) : rowL J c = rowL J d := by
  unfold rowL
  congr 1
  exact List.map_congr_left fun k hk => by rw [h k hk]
def sy2 (a b : Nat → Rat) (q : Nat × Nat) : Rat := if q.1 = q.2 then a q.1 * b q.2 else a q.1 * b q.2 + a q.2 * b q.1
theorem vec1 {n : Nat} (hn : n ≤ 4) (a b x : Nat → Rat) : sumL (Pr n) (fun q => sy2 a b q * (x q.1 * x q.2)) = sumL (List.range n) (fun j => a j * x j) * sumL (List.range n) fun j => b j * x j := by
  have : n = 0 ∨ n = 1 ∨ n = 2 ∨ n = 3 ∨ n = 4 := by omega
  rcases this with rfl | rfl | rfl | rfl | rfl <;> simp [Pr, sumL, sy2, List.range_succ] <;> grind
theorem vec2 {n : Nat} (hn : n ≤ 4) (a b x y : Nat → Rat) : sumL (Pr n) (fun q => sy2 a b q * (x q.1 * y q.2 + x q.2 * y q.1)) = sumL (List.range n) (fun j => a j * x j) * sumL (List.range n) (fun j => b j * y j) + sumL (List.range n) (fun j => a j * y j) * sumL (List.range n) fun j => b j * x j := by
  have : n = 0 ∨ n = 1 ∨ n = 2 ∨ n = 3 ∨ n = 4 := by omega
  rcases this with rfl | rfl | rfl | rfl | rfl <;> simp [Pr, sumL, sy2, List.range_succ] <;> grind
theorem sy_sy2 (A : Mq) (p q : Nat × Nat) : Sy A p q = sy2 (A p.1) (A p.2) q := by
  unfold Sy sy2
  split
  · rfl
  · rename_i h
    show _ = _ + A p.1 q.2 * A p.2 q.1
    rfl
theorem led_sy {n : Nat} (hn : n ≤ 4) (A : Mq) (r : Nat → Rat) (p : Nat × Nat) : sumL (Pr n) (fun q => Sy A p q * (r q.1 * r q.2)) = sumL (List.range n) (fun j => A p.1 j * r j) * sumL (List.range n) fun j => A p.2 j * r j := by
  rw [← vec1 hn]
  exact sumL_congr fun q _ => by rw [sy_sy2]
theorem mul_sy {n : Nat} (hn : n ≤ 4) (B A : Mq) (p s : Nat × Nat) : sumL (Pr n) (fun q => Sy B p q * Sy A q s) = Sy (mulQ n B A) p s := by
  unfold Sy
  by_cases h : s.1 = s.2
  · rw [if_pos h]
    have e := vec1 hn (B p.1) (B p.2) fun j => A j s.1
    rw [← h]
    show _ = sumL (List.range n) (fun j => B p.1 j * A j s.1) * sumL (List.range n) fun j => B p.2 j * A j s.1
    rw [← e]
    exact sumL_congr fun q _ => by rw [if_pos (show s.1 = s.1 from rfl)]; rfl
  · rw [if_neg h]
    have e := vec2 hn (B p.1) (B p.2) (fun j => A j s.1) fun j => A j s.2
    show _ = sumL (List.range n) (fun j => B p.1 j * A j s.1) * sumL (List.range n) (fun j => B p.2 j * A j s.2) + sumL (List.range n) (fun j => B p.1 j * A j s.2) * sumL (List.range n) fun j => B p.2 j * A j s.1
    rw [← e]
    exact sumL_congr fun q _ => by rw [if_neg h]; show _ = sy2 _ _ _ * _; congr 1; exact by grind
/-! M35w -/
section
variable {P : D → Dr → Prop} {X : Exn → Dr → Prop}
theorem w_take {c : Nat} {s : Dw} {M : Int} {m : Nat} (g : Good c s) (hM : M = (m : Int)) (hc : c ≤ 2 ^ 20) (m0 : 0 < m) (m1 : m ≤ 1000) (k : ∀ (r : Nat) s', r < m → Good (c + 1) s' → P (.int (r : Int)) (some s')) : EW (f__law_take [.dr, .int M] (some s)) P X := by
  subst hM
  have hc2 : c ≤ 2 ^ 40 := Nat.le_trans hc (Nat.pow_le_pow_right (by decide) (by decide))
  have m2 : m ≤ 2 ^ 40 := Nat.le_trans m1 (by decide)
  obtain ⟨r, s', e, h1, h2⟩ := e_take g hc2 m0 m2
  exact ew_eq e (k r s' h1 h2)
theorem w_table {c n : Nat} {s : Dw} (g : Good c s) (hc : c ≤ 2 ^ 20) (hn : n ≤ 4) (k : ∀ A s', SmT n A → Good (c + 60) s' → P (tabL (List.range n) (List.range n) A) (some s')) : EW (f__law_table [.dr, .int (n : Int)] (some s)) P X := by
  obtain ⟨A, s', e, h1, h2⟩ := e__law_table g hc hn
  exact ew_eq e (k A s' h1 h2)
theorem w_row {c n : Nat} {s : Dw} (g : Good c s) (hc : c ≤ 2 ^ 20) (hn : n ≤ 4) (k : ∀ r s', (∀ k, k < n → Sm 2 (r k)) → Good (c + 12) s' → P (rowL (List.range n) r) (some s')) : EW (f__law_row [.dr, .int (n : Int)] (some s)) P X := by
  have hc2 : c ≤ 2 ^ 29 := Nat.le_trans hc (Nat.pow_le_pow_right (by decide) (by decide))
  have hn2 : n ≤ 1000 := by omega
  have h := e__law_row g hc2 hn2
  generalize f__law_row [.dr, .int (n : Int)] (some s) = R at h ⊢
  obtain ⟨r, s', e, h1, h2⟩ := h
  exact ew_eq e (k r s' (fun k hk => h1 k (List.mem_range.mpr hk)) (h2.mono (by omega)))
end
theorem sm2_fr {q : Rat} (h : Sm 2 q) : Fr 6 18 q := by
  have h1 := h.n
  have h2 := h.d
  have d0 := q.den_pos
  have dz : (q.den : Rat) ≠ 0 := by
    intro c
    have := Rat.natCast_inj.mp (show (q.den : Rat) = ((0 : Nat) : Rat) from c)
    omega
  have e2 : q * (q.den : Rat) = (q.num : Rat) := by
    conv => lhs; lhs; rw [← Rat.num_divInt_den q]
    rw [Rat.divInt_eq_div, Rat.intCast_natCast]
    grind
  obtain ⟨k, hk, hk6⟩ : ∃ k : Nat, q.den * k = 6 ∧ k ≤ 6 := by
    have : q.den = 1 ∨ q.den = 2 ∨ q.den = 3 := by omega
    rcases this with h | h | h
    · exact ⟨6, by omega, by omega⟩
    · exact ⟨3, by omega, by omega⟩
    · exact ⟨2, by omega, by omega⟩
  refine ⟨q.num * (k : Int), ?_, ?_⟩
  · rw [Int.natAbs_mul, Int.natAbs_natCast]
    have : q.num.natAbs * k ≤ 3 * 6 := Nat.mul_le_mul (by omega) hk6
    omega
  · rw [← hk, Rat.natCast_mul, Rat.intCast_mul, ← e2, Rat.intCast_natCast]
    grind
theorem Fr.up {K B : Nat} {q : Rat} (E : Nat) (h : Fr K B q) : Fr (K * E) (B * E) q := by
  have := h.mul (show Fr E E 1 from ⟨(E : Int), by rw [Int.natAbs_natCast]; exact Nat.le_refl _, by rw [Rat.one_mul, Rat.intCast_natCast]⟩)
  rw [Rat.mul_one] at this
  exact this
theorem fr_sumL {K B : Nat} (f : Nat → Rat) : ∀ l : List Nat, (∀ i ∈ l, Fr K B (f i)) → Fr K (l.length * B) (sumL l f)
  | [], _ => (Fr.zero _)
  | x :: l, h => by
    rw [sumL_cons]
    refine ((h x List.mem_cons_self).add (fr_sumL f l fun i hi => h i (List.mem_cons_of_mem _ hi))).mono ?_
    rw [List.length_cons, Nat.add_mul]; omega
/-- what holds of a drawn table -/
structure Tb (n : Nat) (A : Mq) : Prop where
  sm : SmT n A
theorem Tb.fr {n : Nat} {A : Mq} (h : Tb n A) : ∀ i j, i < n → j < n → Fr 6 18 (A i j) := fun i j hi hj => sm2_fr (h.sm i j hi hj)
theorem Tb.fr36 {n : Nat} {A : Mq} (h : Tb n A) : ∀ i j, i < n → j < n → Fr 36 1296 (A i j) := fun i j hi hj => (Fr.up 6 (h.fr i j hi hj)).mono (by decide)
theorem Tb.mul {n : Nat} {A B : Mq} (hn : n ≤ 4) (h : Tb n A) (k : Tb n B) : ∀ i j, i < n → j < n → Fr 36 1296 (mulQ n A B i j) := fun i j hi hj => by
  have := fr_sumL (K := 36) (B := 324) (fun l => A i l * B l j) (List.range n) fun l hl => (h.fr i l hi (List.mem_range.mp hl)).mul (k.fr l j (List.mem_range.mp hl) hj)
  rw [List.length_range] at this
  exact this.mono (by have := Nat.mul_le_mul_right 324 hn; omega)
theorem Fr.sm12 {q : Rat} (h : Fr 36 1296 q) : Sm 12 q := h.sm (by decide) (by decide) (by decide)
theorem lp {n : Nat} {A B : Mq} (h0 : 0 < n) (hn : n ≤ 4) (hA : Tb n A) (hB : Tb n B) (dr : Dr) : f__law_product [tabL (List.range n) (List.range n) A, tabL (List.range n) (List.range n) B] dr = .ok (tabL (List.range n) (List.range n) (mulQ n A B)) dr := by
  have l4 : n * (2 + 2 + 1) ≤ 4 * 5 := Nat.mul_le_mul_right 5 hn
  exact e__law_product (N := 2) (M := 2) (fun i hi j hj => hA.sm i j (List.mem_range.mp hi) (List.mem_range.mp hj)) (fun i hi j hj => hB.sm i j (List.mem_range.mp hi) (List.mem_range.mp hj)) (by cases n with | zero => omega | succ n => rw [List.range_succ_eq_map]; exact fun z => nomatch z) (by rw [List.length_range]; omega) (by rw [List.length_range]; omega) (by rw [List.length_range]; omega) (by rw [List.length_range]; omega) dr
theorem due_sm {n : Nat} {A : Mq} (h0 : 0 < n) (hn : n ≤ 4) (hA : Tb n A) (k : Nat) : Sm 100 (due A n k) := by
  have ok := ord_ok h0 hn
  have fw := fr_whS hA.fr (ordL n) (fun x hx => by
    obtain ⟨g1, g2, g3⟩ := ok.2 x hx
    exact ⟨g3, fun k hk => g2 _ (by
      rw [List.getD_eq_getElem?_getD, List.getElem?_eq_getElem (by rw [g1]; exact hk)]
      exact List.getElem_mem _)⟩) (n - k)
  refine fw.sm (Nat.pow_pos (by decide)) ?_ ?_
  · have : n = 1 ∨ n = 2 ∨ n = 3 ∨ n = 4 := by omega
    rcases this with rfl | rfl | rfl | rfl <;> decide
  · have B2 : bB n ≤ 40310784 := by
      have : n = 1 ∨ n = 2 ∨ n = 3 ∨ n = 4 := by omega
      rcases this with rfl | rfl | rfl | rfl <;> decide
    have : (ordL n).length * bB n ≤ 24 * 40310784 := Nat.mul_le_mul ok.1 B2
    have : 24 * 40310784 < 2 ^ 100 := by decide
    omega
theorem due_0 {n : Nat} {A : Mq} (h0 : 0 < n) (hn : n ≤ 4) : due A n 0 = 1 := (fl_due A h0 hn (Nat.zero_le _)).symm
theorem due_swap {n : Nat} {A B : Mq} (h0 : 0 < n) (hn : n ≤ 4) {k : Nat} (hk : k ≤ n) : due (mulQ n A B) n k = due (mulQ n B A) n k := by
  rw [← fl_due _ h0 hn hk, ← fl_due _ h0 hn hk, fl_swap]
theorem due_tp {n : Nat} {A : Mq} (h0 : 0 < n) (hn : n ≤ 4) {k : Nat} (hk : k ≤ n) : due (fun i j => A j i) n k = due A n k := by
  rw [← fl_due A h0 hn hk, ← fl_tp n A k]
  exact (fl_due _ h0 hn hk).symm
/-! M35x -/
theorem sy_sm {n N : Nat} {A : Mq} (hA : ∀ i j, i < n → j < n → Sm N (A i j)) : ∀ i ∈ Pr n, ∀ j ∈ Pr n, Sm (N + N + (N + N) + 1) (Sy A i j) := fun i hi j hj => by
  have p := pr_lt hi
  have q := pr_lt hj
  unfold Sy
  split
  · exact ((hA _ _ p.1 q.1).mul (hA _ _ p.2 q.2)).mono (by omega)
  · exact ((hA _ _ p.1 q.1).mul (hA _ _ p.2 q.2)).add ((hA _ _ p.1 q.2).mul (hA _ _ p.2 q.1))
theorem pr_ne {n : Nat} (h0 : 0 < n) (hn : n ≤ 4) : Pr n ≠ [] := by
  have : n = 1 ∨ n = 2 ∨ n = 3 ∨ n = 4 := by omega
  rcases this with rfl | rfl | rfl | rfl <;> decide
/-- what is reckoned of two tables -/
structure Fs (n : Nat) (A B : Mq) (d : Dr) : Prop where
  a0 : f__law_ask [.int 0, tabL (List.range n) (List.range n) A, .non] d = .ok (rowL (List.range (n + 1)) (due A n)) d
  a1 : f__law_ask [.int 1, tabL (List.range n) (List.range n) A, .non] d = .ok (tabL (Pr n) (Pr n) (Sy A)) d
  du : f__law_due [tabL (List.range n) (List.range n) A] d = .ok (rowL (List.range (n + 1)) (due A n)) d
  co : f__law_columns [tabL (List.range n) (List.range n) A] d = .ok (tabL (List.range n) (List.range n) fun j i => A i j) d
  a2 : f__law_ask [.int 0, tabL (List.range n) (List.range n) fun j i => A i j, .non] d = .ok (rowL (List.range (n + 1)) (due A n)) d
  p1 : f__law_product [tabL (List.range n) (List.range n) A, tabL (List.range n) (List.range n) B] d = .ok (tabL (List.range n) (List.range n) (mulQ n A B)) d
  p2 : f__law_product [tabL (List.range n) (List.range n) B, tabL (List.range n) (List.range n) A] d = .ok (tabL (List.range n) (List.range n) (mulQ n B A)) d
  a3 : f__law_ask [.int 0, tabL (List.range n) (List.range n) (mulQ n A B), .non] d = .ok (rowL (List.range (n + 1)) (due (mulQ n A B) n)) d
  a4 : f__law_ask [.int 0, tabL (List.range n) (List.range n) (mulQ n B A), .non] d = .ok (rowL (List.range (n + 1)) (due (mulQ n A B) n)) d
  a5 : f__law_ask [.int 1, tabL (List.range n) (List.range n) B, .non] d = .ok (tabL (Pr n) (Pr n) (Sy B)) d
  a6 : f__law_ask [.int 1, tabL (List.range n) (List.range n) (mulQ n B A), .non] d = .ok (tabL (Pr n) (Pr n) (Sy (mulQ n B A))) d
  p3 : f__law_product [tabL (Pr n) (Pr n) (Sy B), tabL (Pr n) (Pr n) (Sy A)] d = .ok (tabL (Pr n) (Pr n) (Sy (mulQ n B A))) d
theorem fs {n : Nat} {A B : Mq} (h0 : 0 < n) (hn : n ≤ 4) (hA : Tb n A) (hB : Tb n B) (d : Dr) : Fs n A B d := by
  have ft := fun X => fz_tab (List.range n) (List.range n) X
  have rt := fun X => frz_tab (List.range n) (List.range n) X
  have le4 : (List.range n).length ≤ 1000 := by rw [List.length_range]; omega
  have lp1 : (Pr n).length ≤ 1000 := by have := pr_len hn; omega
  have ne : List.range n ≠ [] := by
    cases n with
    | zero => omega
    | succ n => rw [List.range_succ_eq_map]; exact fun z => nomatch z
  refine ⟨ask0 (e_equation h0 hn hA.fr36 d) (ft _) (rt _), ask1 (e_paired h0 hn hA.sm (by decide) d) (ft _) (rt _), e__law_due h0 hn hA.fr d, e__law_columns ne le4 le4 d, ?_, lp h0 hn hA hB d, lp h0 hn hB hA d, ask0 (e_equation h0 hn (hA.mul hn hB) d) (ft _) (rt _), ?_, ask1 (e_paired h0 hn hB.sm (by decide) d) (ft _) (rt _), ask1 (e_paired h0 hn (N := 12) (fun i j hi hj => Fr.sm12 (hB.mul hn hA i j hi hj)) (by decide) d) (ft _) (rt _), ?_⟩
  · have := ask0 (e_equation h0 hn (A := fun j i => A i j) (fun i j hi hj => hA.fr36 j i hj hi) d) (ft _) (rt _)
    rw [row_congr (c := due (fun j i => A i j) n) (d := due A n) fun k hk => due_tp h0 hn (by omega)] at this
    exact this
  · have := ask0 (e_equation h0 hn (hB.mul hn hA) d) (ft _) (rt _)
    rw [row_congr (c := due (mulQ n B A) n) (d := due (mulQ n A B) n) fun k hk => due_swap h0 hn (by omega)] at this
    exact this
  · have l := pr_len hn
    have l2 : (Pr n).length * (9 + 9 + 1) ≤ 20 * 19 := Nat.mul_le_mul_right _ l
    have := e__law_product (I := Pr n) (J := Pr n) (L := Pr n) (N := 9) (M := 9) (sy_sm hB.sm) (sy_sm hA.sm) (pr_ne h0 hn) lp1 lp1 lp1 (by omega) d
    rw [tab_congr (B := Sy (mulQ n B A)) fun i _ j _ => mul_sy hn B A i j] at this
    exact this
theorem pr_half {n : Nat} (h0 : 0 < n) (hn : n ≤ 4) : gFd (.int ((n : Int) * ((n : Int) + 1))) (.int 2) = some (.int ((Pr n).length : Int)) := by
  have : n = 1 ∨ n = 2 ∨ n = 3 ∨ n = 4 := by omega
  rcases this with rfl | rfl | rfl | rfl <;> kernel_rfl
/-- .. and of a row and a point -/
structure Fr2 (n : Nat) (A : Mq) (r : Nat → Rat) (q : Rat) (d : Dr) : Prop where
  b1 : f__law_products [rowL (List.range n) r] d = .ok (rowL (Pr n) fun p => r p.1 * r p.2) d
  b2 : f__law_led [tabL (Pr n) (Pr n) (Sy A), rowL (Pr n) fun p => r p.1 * r p.2] d = .ok (rowL (Pr n) fun p => (sumL (List.range n) fun j => A p.1 j * r j) * sumL (List.range n) fun j => A p.2 j * r j) d
  b3 : f__law_led [tabL (List.range n) (List.range n) A, rowL (List.range n) r] d = .ok (rowL (List.range n) fun i => sumL (List.range n) fun j => A i j * r j) d
  b4 : f__law_products [rowL (List.range n) fun i => sumL (List.range n) fun j => A i j * r j] d = .ok (rowL (Pr n) fun p => (sumL (List.range n) fun j => A p.1 j * r j) * sumL (List.range n) fun j => A p.2 j * r j) d
  b5 : f__law_ask [.int 2, rowL (List.range (n + 1)) (due A n), qD q] d = .ok (qD (hn (due A n) q (n + 1))) d
  b6 : f__law_power [rowL (List.range (n + 1)) (due A n), qD q] d = .ok (qD (hn (due A n) q (n + 1))) d
theorem fr2 {n : Nat} {A : Mq} {r : Nat → Rat} {q : Rat} (h0 : 0 < n) (h4 : n ≤ 4) (hA : Tb n A) (hr : ∀ k, k < n → Sm 2 (r k)) (hq : Sm 6 q) (d : Dr) : Fr2 n A r q d := by
  have le4 : (List.range n).length ≤ 1000 := by rw [List.length_range]; omega
  have lp1 : (Pr n).length ≤ 1000 := by have := pr_len h4; omega
  have l := pr_len h4
  have l2 : (Pr n).length * (9 + 4 + 1) ≤ 20 * 14 := Nat.mul_le_mul_right _ l
  have l3 : n * (2 + 2 + 1) ≤ 4 * 5 := Nat.mul_le_mul_right 5 h4
  refine ⟨e__law_products (N := 2) (by omega) hr (by decide) d, ?_, e__law_led (N := 2) (M := 2) (fun i hi j hj => hA.sm i j (List.mem_range.mp hi) (List.mem_range.mp hj)) (fun j hj => hr j (List.mem_range.mp hj)) le4 le4 (by rw [List.length_range]; omega) d, e__law_products (N := 21) (by omega) (fun k hk => ?_) (by decide) d, ask2 (e_value_at (N := 100) (M := 6) (by omega) (by omega) (due_0 h0 h4) (fun k _ => due_sm h0 h4 hA k) hq ?_ d) (fz_row _ _) (frz_row _ _) (fz_qD _) (frz_qD _), e__law_power (N := 100) (M := 6) (by omega) (fun k _ => due_sm h0 h4 hA k) hq ?_ d⟩
  · have := e__law_led (I := Pr n) (J := Pr n) (A := Sy A) (r := fun p => r p.1 * r p.2) (N := 9) (M := 4) (sy_sm hA.sm) (fun p hp => (hr _ (pr_lt hp).1).mul (hr _ (pr_lt hp).2)) lp1 lp1 (by omega) d
    rw [rowL_congr (d := fun p => (sumL (List.range n) fun j => A p.1 j * r j) * sumL (List.range n) fun j => A p.2 j * r j) fun p _ => led_sy h4 A r p] at this
    exact this
  · have := sm_sumL (N := 4) (fun j => A k j * r j) (List.range n) fun j hj => (hA.sm k j hk (List.mem_range.mp hj)).mul (hr j (List.mem_range.mp hj))
    rw [List.length_range] at this
    exact this.mono (by omega)
  · have : (n + 1) * (100 + 6 + 1) ≤ 5 * 107 := Nat.mul_le_mul_right _ (by omega)
    omega
  · have h1 : (n + 1) * 6 ≤ 5 * 6 := Nat.mul_le_mul_right _ (by omega)
    have h2 : (n + 1) * (100 + (n + 1) * 6 + 2) ≤ 5 * (100 + 5 * 6 + 2) := Nat.mul_le_mul (by omega) (by omega)
    omega
/-! M35z -/
def wideB : D → Bool
  | .tup xs => decide (xs.length ≤ 1000) && xs.all fun x => match x with
    | .tup ys => decide (ys.length ≤ 1000)
    | _ => true
  | _ => true
theorem wide2_of {d : D} (h : wideB d = true) : wide2 d := fun xs e => by
  subst e
  have h : (decide (xs.length ≤ 1000) && xs.all fun x => match x with
    | .tup ys => decide (ys.length ≤ 1000)
    | _ => true) = true := h
  rw [Bool.and_eq_true] at h
  refine ⟨of_decide_eq_true h.1, fun x hx ys hy => ?_⟩
  have := List.all_eq_true.mp h.2 x hx
  subst hy
  exact of_decide_eq_true this
theorem isTab_bad {xs : List D} {x : D} (hx : x ∈ xs) (h : isRow xs.length x = false) : isTab (.tup xs) = false := by
  have : xs.all (isRow xs.length) = false := by
    rw [Bool.eq_false_iff]
    intro c
    have := List.all_eq_true.mp c x hx
    rw [h] at this
    exact Bool.noConfusion this
  show (decide (0 < (xs.length : Int)) && decide ((xs.length : Int) ≤ 4) && (((xs.length : Int) == xs.length) && xs.all (isRow xs.length))) = false
  rw [this, Bool.and_false, Bool.and_false]
def og (o : Option D) : D := o.getD .non
structure Bad (d : D) : Prop where
  cl : d.cl = true
  w : wideB d = true
  t : isTab d = false
abbrev Tt (n : Nat) (A : Mq) : D := tabL (List.range n) (List.range n) A
def o3 (n : Nat) (A : Mq) : D := og (gSl (Tt n A) none (some (-1)))
def o4a (n : Nat) (A : Mq) : D := og (gSl (Tt n A) none (some 1))
def o4 (n : Nat) (A : Mq) : D := og (gAdd (Tt n A) (o4a n A))
def o5 (n : Nat) (A : Mq) : D := og (gList [Tt n A])
def o6r (n : Nat) (A : Mq) : D := og (gIx (Tt n A) (.int (-1)))
def o6l (n : Nat) (A : Mq) : D := og (gList [o6r n A])
def o6 (n : Nat) (A : Mq) : D := og (gAdd (o3 n A) (.tup [(o6l n A).fz]))
def sq1 (x : D) (n : Nat) : D := og (gMul (.tup [x]) (.int (n : Int)))
def sq2 (x : D) (n : Nat) : D := og (gMul (.tup [sq1 x n]) (.int (n : Int)))
theorem n1234 {n : Nat} (h0 : 0 < n) (hn : n ≤ 4) : n = 1 ∨ n = 2 ∨ n = 3 ∨ n = 4 := by omega
section
variable {n : Nat} (h0 : 0 < n) (hn : n ≤ 4) (A : Mq)
include h0 hn
theorem x3 : gSl (Tt n A) none (some (-1)) = some (o3 n A) := by rcases n1234 h0 hn with rfl | rfl | rfl | rfl <;> kernel_rfl
theorem x4a : gSl (Tt n A) none (some 1) = some (o4a n A) := by rcases n1234 h0 hn with rfl | rfl | rfl | rfl <;> kernel_rfl
theorem x4 : gAdd (Tt n A) (o4a n A) = some (o4 n A) := by rcases n1234 h0 hn with rfl | rfl | rfl | rfl <;> kernel_rfl
theorem x5 : gList [Tt n A] = some (o5 n A) := by rcases n1234 h0 hn with rfl | rfl | rfl | rfl <;> kernel_rfl
theorem x6r : gIx (Tt n A) (.int (-1)) = some (o6r n A) := by rcases n1234 h0 hn with rfl | rfl | rfl | rfl <;> kernel_rfl
theorem x6l : gList [o6r n A] = some (o6l n A) := by rcases n1234 h0 hn with rfl | rfl | rfl | rfl <;> kernel_rfl
theorem x6 : gAdd (o3 n A) (.tup [(o6l n A).fz]) = some (o6 n A) := by rcases n1234 h0 hn with rfl | rfl | rfl | rfl <;> kernel_rfl
theorem b3 : Bad (o3 n A) := by
  rcases n1234 h0 hn with rfl | rfl | rfl | rfl <;> exact ⟨by kernel_rfl, by kernel_rfl, by kernel_rfl⟩
theorem b4 : Bad (o4 n A) := by
  rcases n1234 h0 hn with rfl | rfl | rfl | rfl <;> exact ⟨by kernel_rfl, by kernel_rfl, by kernel_rfl⟩
theorem b5 : Bad (o5 n A).fz := by
  rcases n1234 h0 hn with rfl | rfl | rfl | rfl <;> exact ⟨by kernel_rfl, by kernel_rfl, by kernel_rfl⟩
theorem b6 : Bad (o6 n A) := by
  refine ⟨?_, ?_, ?_⟩
  · rcases n1234 h0 hn with rfl | rfl | rfl | rfl <;> kernel_rfl
  · rcases n1234 h0 hn with rfl | rfl | rfl | rfl <;> kernel_rfl
  · have : ∃ xs, o6 n A = .tup xs ∧ (o6l n A).fz ∈ xs ∧ isRow xs.length (o6l n A).fz = false := by
      rcases n1234 h0 hn with rfl | rfl | rfl | rfl
      · exact ⟨_, rfl, List.mem_append_right _ List.mem_cons_self, by kernel_rfl⟩
      · exact ⟨_, rfl, List.mem_append_right _ List.mem_cons_self, by kernel_rfl⟩
      · exact ⟨_, rfl, List.mem_append_right _ List.mem_cons_self, by kernel_rfl⟩
      · exact ⟨_, rfl, List.mem_append_right _ List.mem_cons_self, by kernel_rfl⟩
    obtain ⟨xs, e, m, r⟩ := this
    rw [e]
    exact isTab_bad m r
theorem xa1 : gMul (.tup [.str "a"]) (.int (n : Int)) = some (sq1 (.str "a") n) := by rcases n1234 h0 hn with rfl | rfl | rfl | rfl <;> kernel_rfl
theorem xa2 : gMul (.tup [sq1 (.str "a") n]) (.int (n : Int)) = some (sq2 (.str "a") n) := by rcases n1234 h0 hn with rfl | rfl | rfl | rfl <;> kernel_rfl
theorem xb1 : gMul (.tup [.int 1]) (.int (n : Int)) = some (sq1 (.int 1) n) := by rcases n1234 h0 hn with rfl | rfl | rfl | rfl <;> kernel_rfl
theorem xb2 : gMul (.tup [sq1 (.int 1) n]) (.int (n : Int)) = some (sq2 (.int 1) n) := by rcases n1234 h0 hn with rfl | rfl | rfl | rfl <;> kernel_rfl
theorem xc1 : gMul (.tup [.tup [.int 2, .int 2]]) (.int (n : Int)) = some (sq1 (.tup [.int 2, .int 2]) n) := by rcases n1234 h0 hn with rfl | rfl | rfl | rfl <;> kernel_rfl
theorem xc2 : gMul (.tup [sq1 (.tup [.int 2, .int 2]) n]) (.int (n : Int)) = some (sq2 (.tup [.int 2, .int 2]) n) := by rcases n1234 h0 hn with rfl | rfl | rfl | rfl <;> kernel_rfl
theorem xd1 : gMul (.tup [.tup [.bl true, .int 1]]) (.int (n : Int)) = some (sq1 (.tup [.bl true, .int 1]) n) := by rcases n1234 h0 hn with rfl | rfl | rfl | rfl <;> kernel_rfl
theorem xd2 : gMul (.tup [sq1 (.tup [.bl true, .int 1]) n]) (.int (n : Int)) = some (sq2 (.tup [.bl true, .int 1]) n) := by rcases n1234 h0 hn with rfl | rfl | rfl | rfl <;> kernel_rfl
theorem zsq (x : D) : (sq1 x n).fz = sq1 x n := by rcases n1234 h0 hn with rfl | rfl | rfl | rfl <;> kernel_rfl
theorem ba : Bad (sq2 (.str "a") n) := by rcases n1234 h0 hn with rfl | rfl | rfl | rfl <;> exact ⟨by kernel_rfl, by kernel_rfl, by kernel_rfl⟩
theorem bb : Bad (sq2 (.int 1) n) := by rcases n1234 h0 hn with rfl | rfl | rfl | rfl <;> exact ⟨by kernel_rfl, by kernel_rfl, by kernel_rfl⟩
theorem bc : Bad (sq2 (.tup [.int 2, .int 2]) n) := by rcases n1234 h0 hn with rfl | rfl | rfl | rfl <;> exact ⟨by kernel_rfl, by kernel_rfl, by kernel_rfl⟩
theorem bd : Bad (sq2 (.tup [.bl true, .int 1]) n) := by rcases n1234 h0 hn with rfl | rfl | rfl | rfl <;> exact ⟨by kernel_rfl, by kernel_rfl, by kernel_rfl⟩
end
theorem xe1 : gMul (.tup [.tup [.int 1, .int 1]]) (.int 5) = some (sq1 (.tup [.int 1, .int 1]) 5) := by kernel_rfl
theorem xe2 : gMul (.tup [sq1 (.tup [.int 1, .int 1]) 5]) (.int 5) = some (sq2 (.tup [.int 1, .int 1]) 5) := by kernel_rfl
theorem be : Bad (sq2 (.tup [.int 1, .int 1]) 5) := ⟨by kernel_rfl, by kernel_rfl, by kernel_rfl⟩
theorem bn : Bad .non := ⟨rfl, rfl, rfl⟩
theorem bt : Bad (.tup []) := ⟨rfl, rfl, rfl⟩
theorem zsq5 : (sq1 (.tup [.int 1, .int 1]) 5).fz = sq1 (.tup [.int 1, .int 1]) 5 := by kernel_rfl
theorem zsq22 : (sq1 (.tup [.int 1, .int 1]) 22).fz = sq1 (.tup [.int 1, .int 1]) 22 := by kernel_rfl
theorem xf : gMul (.tup [.tup [.int 1, .int 1]]) (.int 22) = some (sq1 (.tup [.int 1, .int 1]) 22) := by kernel_rfl
theorem ne_bad : gNe (.str "bad") (.str "bad") = some (.bl false) := by kernel_rfl
theorem bad_0 {d : D} (h : Bad d) (dr : Dr) : f__law_ask [.int 0, d, .non] dr = .ok (.str "bad") dr := bad0 (x_equation h.cl (wide2_of h.w) h.t dr) (fz_cl d h.cl) (frz_cl h.cl)
theorem bad_1 {d : D} (h : Bad d) (dr : Dr) : f__law_ask [.int 1, d, .non] dr = .ok (.str "bad") dr := bad1 (x_paired h.cl (wide2_of h.w) h.t dr) (fz_cl d h.cl) (frz_cl h.cl)
/-- no equations -/
structure Bae (d : D) : Prop where
  cl : d.cl = true
  w : wideB d = true
  ok : (match d with
    | .tup (x :: _) => x.ok
    | _ => true) = true
  t : isEqn d = false
theorem bad_2 {d e : D} (h : Bae d) (he : e.cl = true) (dr : Dr) : f__law_ask [.int 2, d, e] dr = .ok (.str "bad") dr := bad2 (x_value_at h.cl he (fun xs e => (wide2_of h.w xs e).1) (fun x xs e _ => by have := h.ok; subst e; exact this) h.t dr) (fz_cl d h.cl) (frz_cl h.cl) (fz_cl e he) (frz_cl he)
theorem bad_3 {m : Nat} {c : Nat → Rat} {e : D} (h1 : 1 < m) (h2 : m ≤ 21) (h0 : c 0 = 1) (he : e.cl = true) (t : e.isQ = false) (dr : Dr) : f__law_ask [.int 2, rowL (List.range m) c, e] dr = .ok (.str "bad") dr := bad2 (x_value_at2 (cl_row _ _) he (row_lists (by omega)) row_ok (isEqn_row h1 h2 h0) t dr) (fz_row _ _) (frz_row _ _) (fz_cl e he) (frz_cl he)
theorem six_bad : gMul (.lst true [.str "bad"]) (.int 6) = some (.lst true [.str "bad", .str "bad", .str "bad", .str "bad", .str "bad", .str "bad"]) := by kernel_rfl
def odd2 : List D := [.non, .tup [], .tup [.tup [.int 1, .int 1]], .tup [.tup [.int 2, .int 1], .tup [.int 1, .int 1]], sq1 (.tup [.int 1, .int 1]) 22, .lst false [.tup [.int 1, .int 1], .tup [.int 1, .int 1]], .tup [.tup [.int 1, .int 1], .int 1], .tup [.tup [.int 1, .int 1], .tup [.int 2, .int 4]], .tup [.tup [.int 1, .int 1], .tup [.int 1, .int 0]]]
theorem odd2_bad : ∀ y ∈ odd2, Bae y := by
  intro y hy
  unfold odd2 at hy
  simp only [List.mem_cons, List.not_mem_nil, or_false] at hy
  rcases hy with rfl | rfl | rfl | rfl | rfl | rfl | rfl | rfl | rfl <;> exact ⟨by kernel_rfl, by kernel_rfl, by kernel_rfl, by kernel_rfl⟩
def odd3 : List D := [.int 1, .non, .tup [.int 2, .int 2], .tup [.int 1, .int 0], .tup [.int 1, .int (0 - 1)], .bl true]
theorem odd3_bad : ∀ y ∈ odd3, y.cl = true ∧ y.isQ = false := by
  intro y hy
  unfold odd3 at hy
  simp only [List.mem_cons, List.not_mem_nil, or_false] at hy
  rcases hy with rfl | rfl | rfl | rfl | rfl | rfl <;> exact ⟨by kernel_rfl, by kernel_rfl⟩
theorem eq_six : gEq (.lst true [.str "bad", .str "bad", .str "bad", .str "bad", .str "bad", .str "bad"]) (.lst true [.str "bad", .str "bad", .str "bad", .str "bad", .str "bad", .str "bad"]) = some (.bl true) := by kernel_rfl
theorem eq_nil : gEq (.lst false []) (.lst true []) = some (.bl true) := by kernel_rfl
/-! M35y -/
set_option pp.maxSteps 600
def Won (r : SR) : Prop := ∃ dr', r = .rt (.bl true) dr'
theorem law_1 {s0 : Dw} (g0 : Good 0 s0) : SW (m_law [none, some .dr, none, none, none, none, none, none, none, none, none, none, none, none, none, none] (some s0)) Won := by
  unfold m_law
  walk_at "ev"
  with_reducible refine sw_for (fun k : Nat => D.int (k : Int)) (List.range 3) (fun zs ρ d => ∃ ws c s x2 x6 x7 x8 x9 x10 x11 x13 x14, List.range 3 = ws ++ zs ∧ c ≤ 300 * ws.length ∧ Good c s ∧ d = some s ∧ ρ = [none, some .dr, x2, none, none, none, x6, x7, x8, x9, x10, x11, none, x13, x14, none] ∧ (ws ≠ [] → ∃ n A, 0 < n ∧ n ≤ 4 ∧ Tb n A ∧ x6 = some (.int (n : Int)) ∧ x8 = some (tabL (List.range n) (List.range n) A) ∧ x10 = some (rowL (List.range (n + 1)) (due A n)))) ?_ ?_ ?_
  · walk_at "ev"
    with_reducible refine rgw (n := 3) (by omega) (by omega) ?_
    refine ⟨rfl, [], 0, s0, _, _, _, _, _, _, _, _, _, rfl, Nat.le_refl _, g0, rfl, rfl, fun h => absurd rfl h⟩
  · rintro t zs ρ d ⟨ws, c, s, x2, x6, x7, x8, x9, x10, x11, x13, x14, hw, hc, g, rfl, rfl, _⟩
    have hl : ws.length ≤ 2 := by
      have := congrArg List.length hw
      rw [List.length_range, List.length_append, List.length_cons] at this
      omega
    walk_at "ev"
    with_reducible refine w_take (m := 4) g (by omega) (by omega) (by omega) (by omega) (fun r s1 hr g1 => ?_)
    walk_at "ev"
    rw [show (1 : Int) + (r : Int) = ((r + 1 : Nat) : Int) from by omega]
    have h0 : 0 < r + 1 := by omega
    have h4 : r + 1 ≤ 4 := by omega
    generalize r + 1 = n at *
    walk_at "ev"
    with_reducible refine w_table g1 (by omega) h4 (fun A s2 hA g2 => ?_)
    walk_at "ev"
    with_reducible refine w_table g2 (by omega) h4 (fun B s3 hB g3 => ?_)
    have tA : Tb n A := ⟨hA⟩
    have tB : Tb n B := ⟨hB⟩
    have F := fs h0 h4 tA tB (some s3)
    have a0 := F.a0
    have a1 := F.a1
    have du := F.du
    have co := F.co
    have a2 := F.a2
    have p1 := F.p1
    have p2 := F.p2
    have a3 := F.a3
    have a4 := F.a4
    have n1 := fun c => ne_self (cl_row (List.range (n + 1)) c) (ok_row (List.range (n + 1)) c)
    have n2 := n1 (due A n)
    have n3 := n1 (due (mulQ n A B) n)
    walk_at "ev"
    clear a0 a1 du co a2 p1 p2 a3 a4
    with_reducible refine sw_for (fun k : Nat => D.int (k : Int)) (List.range 3) (fun zs ρ d => ∃ ws c' s x7 x13 x14, List.range 3 = ws ++ zs ∧ c' ≤ c + 121 + 14 * ws.length ∧ Good c' s ∧ d = some s ∧ ρ = [none, some .dr, some (.int (t : Int)), none, none, none, some (.int (n : Int)), x7, some (tabL (List.range n) (List.range n) A), some (tabL (List.range n) (List.range n) B), some (rowL (List.range (n + 1)) (due A n)), some (tabL (Pr n) (Pr n) (Sy A)), none, x13, x14, none]) ?_ ?_ ?_
    · walk_at "ev"
      with_reducible refine rgw (n := 3) (by omega) (by omega) ?_
      refine ⟨rfl, [], _, s3, _, _, _, rfl, Nat.le_refl _, g3.mono (by omega), rfl, rfl⟩
    · rintro u zt ρ d ⟨wt, c', s, x7, x13, x14, hw2, hc2, g, rfl, rfl⟩
      have hl2 : wt.length ≤ 2 := by
        have := congrArg List.length hw2
        rw [List.length_range, List.length_append, List.length_cons] at this
        omega
      walk_at "ev"
      with_reducible refine w_row g (by omega) h4 (fun rw_ s4 hr g4 => ?_)
      walk_at "ev"
      with_reducible refine w_take (m := 41) g4 (by omega) (by omega) (by omega) (by omega) (fun r1 s5 hr1 g5 => ?_)
      walk_at "ev"
      with_reducible refine w_take (m := 6) g5 (by omega) (by omega) (by omega) (by omega) (fun r2 s6 hr2 g6 => ?_)
      have lo := e__law_low (n := (r1 : Int) - 20) (d := 1 + (r2 : Int)) (N := 6) (by omega) (by omega) (by decide) (some s6)
      have sq : Sm 6 (Rat.divInt ((r1 : Int) - 20) (1 + (r2 : Int))) := divInt_sm (by omega) (by omega) (by omega)
      generalize Rat.divInt ((r1 : Int) - 20) (1 + (r2 : Int)) = q at *
      have F2 := fr2 h0 h4 tA hr sq (some s6)
      have b1 := F2.b1
      have b2 := F2.b2
      have b3 := F2.b3
      have b4 := F2.b4
      have b5 := F2.b5
      have b6 := F2.b6
      have n4 := fun c => ne_self (cl_row (Pr n) c) (ok_row (Pr n) c)
      have n5 := n4 fun p => (sumL (List.range n) fun j => A p.1 j * rw_ j) * sumL (List.range n) fun j => A p.2 j * rw_ j
      have n6 := fun q => ne_self (cl_qD q) (ok_qD q)
      have n7 := n6 (hn (due A n) q (n + 1))
      walk_at "ev"
      exact ⟨wt ++ [u], c' + 14, s6, _, _, _, by rw [hw2, List.append_assoc]; rfl, by rw [List.length_append, List.length_singleton]; omega, g6.mono (by omega), rfl, rfl⟩
    · rintro ρ d ⟨wt, c', s, x7, x13, x14, hw2, hc2, g, rfl, rfl⟩
      have hl2 : wt.length = 3 := by rw [List.append_nil] at hw2; rw [← hw2, List.length_range]
      have F := fs h0 h4 tA tB (some s)
      have a2 := F.p2
      have a5 := F.a5
      have a6 := F.a6
      have p3 := F.p3
      have hf := pr_half h0 h4
      have n8 := ne_self (cl_tab (Pr n) (Pr n) (Sy (mulQ n B A))) (ok_tab (Pr n) (Pr n) (Sy (mulQ n B A)))
      have hm := gmul_int (a := (n : Int)) (b := (n : Int) + 1) (by
        have : n = 1 ∨ n = 2 ∨ n = 3 ∨ n = 4 := by omega
        rcases this with rfl | rfl | rfl | rfl <;> decide)
      walk_at "ev"
      with_reducible refine ifw_b (fun _ => ?_) (fun h => absurd rfl h)
      walk_at "ev"
      refine ⟨ws ++ [t], c', s, _, _, _, _, _, _, _, _, _, by rw [hw, List.append_assoc]; rfl, by rw [List.length_append, List.length_singleton]; omega, g, rfl, rfl, fun _ => ⟨n, A, h0, h4, tA, rfl, rfl, rfl⟩⟩
  · rintro ρ d ⟨ws, c, s, x2, x6, x7, x8, x9, x10, x11, x13, x14, hw, hc, g, rfl, rfl, hx⟩
    rw [List.append_nil] at hw
    subst hw
    have hx := hx (by decide)
    revert hx
    rintro ⟨n, A, h0, h4, tA, rfl, rfl, rfl⟩
    walk_at "ev"
    with_reducible refine rgw (n := 20) (by omega) (by omega) ?_
    with_reducible refine lcw_drawn (fun k : Nat => D.int (k : Int)) (fun d => ∃ q, d = qD q ∧ Sm 2 q) (List.range 20) (k := 3) (b := 2000) (by with_unfolding_all exact rfl) g (by rw [List.length_range] at hc ⊢; omega) (len_ok (by rw [List.length_range]; omega)) (by walk_at "wipe") (fun k hk c' s' g' hc' => ?_) (fun ds s' hds hV g' => ?_)
    · have h := e__law_number g' (Nat.le_trans hc' (by decide))
      walk_at "ev"
      generalize f__law_number [D.dr] (some s') = R at h ⊢
      obtain ⟨q, s2, e, sm, g2⟩ := h
      exact ew_eq e ⟨s2, rfl, ⟨q, rfl, sm⟩, g2⟩
    · obtain ⟨lr, e1, e2⟩ := rats_of hV
      rw [hds, List.length_range] at e1 e2
      subst e1
      obtain ⟨lc, hlc⟩ : ∃ lc : Nat → Rat, lc = fun k => if k = 0 then 1 else lr (k - 1) := ⟨_, rfl⟩
      have eL : [D.tup [D.int 1, D.int 1]] ++ (List.range 20).map (fun k => qD (lr k)) = (List.range 21).map fun k => qD (lc k) := by
        rw [List.range_succ_eq_map (n := 20), List.map_cons, List.map_map, hlc]
        rfl
      have cL : ∀ k, k < 21 → Sm 2 (lc k) := fun k hk => by
        rw [hlc]
        show Sm 2 (if k = 0 then 1 else lr (k - 1))
        by_cases c : k = 0
        · rw [if_pos c]; exact sm1.mono (by decide)
        · rw [if_neg c]; exact e2 _ (by omega)
      have c0 : lc 0 = 1 := by rw [hlc]; rfl
      clear hlc
      have s23 : Sm 2 (Rat.divInt 2 3) := divInt_sm (by decide) (by decide) (by decide)
      have q23 : qD (Rat.divInt 2 3) = .tup [.int 2, .int 3] := by kernel_rfl
      have l1 := ask2 (e_value_at (m := 21) (c := lc) (by decide) (by decide) c0 cL s23 (by decide) (some s')) (fz_row _ _) (frz_row _ _) (fz_qD _) (frz_qD _)
      have l2 := e__law_power (m := 20) (c := lc) (by decide) cL s23 (by decide) (some s')
      have gt : gTuple [D.lst true ((List.range 21).map fun k => qD (lc k))] = some (rowL (List.range 21) lc) := gTuple_lst _ _ fun _ => rfl
      rw [q23] at l1 l2
      have n1 := ne_self (cl_qD (hn lc (Rat.divInt 2 3) 21)) (ok_qD _)
      have X3 := x3 h0 h4 A
      have X4a := x4a h0 h4 A
      have X4 := x4 h0 h4 A
      have X5 := x5 h0 h4 A
      have X6r := x6r h0 h4 A
      have X6l := x6l h0 h4 A
      have X6 := x6 h0 h4 A
      have Xa1 := xa1 h0 h4
      have Xa2 := xa2 h0 h4
      have Xb1 := xb1 h0 h4
      have Xb2 := xb2 h0 h4
      have Xc1 := xc1 h0 h4
      have Xc2 := xc2 h0 h4
      have Xd1 := xd1 h0 h4
      have Xd2 := xd2 h0 h4
      have Xe1 := xe1
      have Xe2 := xe2
      have Xf := xf
      have B3 := b3 h0 h4 A
      have B4 := b4 h0 h4 A
      have B5 := b5 h0 h4 A
      have B6 := b6 h0 h4 A
      have Ba := ba h0 h4
      have Bb := bb h0 h4
      have Bc := bc h0 h4
      have Bd := bd h0 h4
      have z3 := fz_cl _ B3.cl
      have z4 := fz_cl _ B4.cl
      have z5 := fz_cl _ B5.cl
      have z5' : (o5 n A).fz = (o5 n A).fz := rfl
      have z6 := fz_cl _ B6.cl
      have z6' : (o6l n A).fz = (o6l n A).fz := rfl
      have za := fz_cl _ Ba.cl
      have zb := fz_cl _ Bb.cl
      have zc := fz_cl _ Bc.cl
      have zd := fz_cl _ Bd.cl
      have ze := fz_cl _ be.cl
      have y1 := zsq h0 h4 (.str "a")
      have y2 := zsq h0 h4 (.int 1)
      have y3 := zsq h0 h4 (.tup [.int 2, .int 2])
      have y4 := zsq h0 h4 (.tup [.bl true, .int 1])
      have y5 := zsq5
      have y22 := zsq22
      have ad2 := add_lists false true [D.non, .tup [], o3 n A, o4 n A, (o5 n A).fz, o6 n A, sq2 (.str "a") n, sq2 (.int 1) n] [sq2 (.tup [.int 2, .int 2]) n, sq2 (.tup [.int 1, .int 1]) 5, sq2 (.tup [.bl true, .int 1]) n] (by simp) (by simp [frz_cl B3.cl, frz_cl B4.cl, frz_cl B5.cl, frz_cl B6.cl, frz_cl Ba.cl, frz_cl Bb.cl]) (by simp [frz_cl Bc.cl, frz_cl be.cl, frz_cl Bd.cl])
      have ad2 : gAdd (.lst false [D.non, .tup [], o3 n A, o4 n A, (o5 n A).fz, o6 n A, sq2 (.str "a") n, sq2 (.int 1) n]) (.lst true [sq2 (.tup [.int 2, .int 2]) n, sq2 (.tup [.int 1, .int 1]) 5, sq2 (.tup [.bl true, .int 1]) n]) = some (.lst true [D.non, .tup [], o3 n A, o4 n A, (o5 n A).fz, o6 n A, sq2 (.str "a") n, sq2 (.int 1) n, sq2 (.tup [.int 2, .int 2]) n, sq2 (.tup [.int 1, .int 1]) 5, sq2 (.tup [.bl true, .int 1]) n]) := ad2
      have allB : ∀ y ∈ [D.non, .tup [], o3 n A, o4 n A, (o5 n A).fz, o6 n A, sq2 (.str "a") n, sq2 (.int 1) n, sq2 (.tup [.int 2, .int 2]) n, sq2 (.tup [.int 1, .int 1]) 5, sq2 (.tup [.bl true, .int 1]) n], Bad y := by
        intro y hy
        simp only [List.mem_cons, List.not_mem_nil, or_false] at hy
        rcases hy with rfl | rfl | rfl | rfl | rfl | rfl | rfl | rfl | rfl | rfl | rfl
        · exact bn
        · exact bt
        · exact B3
        · exact B4
        · exact B5
        · exact B6
        · exact Ba
        · exact Bb
        · exact Bc
        · exact be
        · exact Bd
      have ad := add_lists true true [D.tup [D.int 1, D.int 1]] ((List.range 20).map fun k => qD (lr k)) (by simp) rfl (all_frz _ _ fun _ => rfl)
      walk_at "ev"
      rw [eL]
      with_reducible refine ow gt ?_
      walk_at "ev"
      clear X3 X4a X4 X5 X6r X6l X6 Xa1 Xa2 Xb1 Xb2 Xc1 Xc2 Xd1 Xd2 Xe1 Xe2 z3 z4 z5 z5' z6 z6' za zb zc zd ze y1 y2 y3 y4 y5 ad2 ad
      with_reducible refine lcw_map (fun y => y) (fun y => y) (fun _ => false) [D.non, D.tup [], o3 n A, o4 n A, (o5 n A).fz, o6 n A, sq2 (D.str (Str.ofString "a")) n, sq2 (D.int 1) n, sq2 (D.tup [D.int 2, D.int 2]) n, sq2 (D.tup [D.int 1, D.int 1]) 5, sq2 (D.tup [D.bl true, D.int 1]) n] (by rw [List.map_id']) (by walk_at "small") (by walk_at "wipe") (fun y hy => ?_) ?_
      · have By := allB y hy
        have k0 := bad_0 By (some s')
        have k1 := bad_1 By (some s')
        have kn := ne_bad
        have zy := fz_cl y By.cl
        have ry := frz_cl By.cl
        walk_at "ev"
        with_reducible refine And.intro ?_ (fun h => Bool.noConfusion h)
        walk_at "ev"
        rfl
      have fe : ∀ l : List D, (l.filter fun _ => false) = [] := fun l => by simp
      rw [fe, List.map_nil]
      have zs1 := zsq22
      walk_at "ev"
      with_reducible refine lcw_map (fun y => y) (fun y => y) (fun _ => false) odd2 (by unfold odd2; rw [List.map_id']) (len_ok (by decide)) (by walk_at "wipe") (fun y hy => ?_) ?_
      · have By := odd2_bad y hy
        have k0 := bad_2 (e := .tup [.int 1, .int 1]) By rfl (some s')
        have kn := ne_bad
        have zy := fz_cl y By.cl
        have ry := frz_cl By.cl
        walk_at "ev"
        with_reducible refine And.intro ?_ (fun h => Bool.noConfusion h)
        walk_at "ev"
        rfl
      rw [fe, List.map_nil]
      have ad3 : gAdd (.lst false []) (.lst true []) = some (.lst true []) := add_lists false true [] [] (by simp) rfl rfl
      have en := eq_nil
      have sb := six_bad
      have es := eq_six
      walk_at "ev"
      with_reducible refine lcw_all (fun y => y) (fun _ => .str "bad") odd3 (by unfold odd3; rw [List.map_id']) (len_ok (by decide)) (by walk_at "wipe") (fun y hy => ?_) ?_
      · have By := odd3_bad y hy
        have k0 := bad_3 (m := n + 1) (by omega) (by omega) (due_0 (A := A) h0 h4) By.1 By.2 (some s')
        have zy := fz_cl y By.1
        have ry := frz_cl By.1
        walk_at "ev"
        rfl
      unfold odd3
      rw [List.map_cons, List.map_cons, List.map_cons, List.map_cons, List.map_cons, List.map_cons, List.map_nil]
      walk_at "ev"
      exact ⟨_, rfl⟩
theorem law_math {ns : List Int} (hl : ns.length ≤ 63) : ∃ dr', m_law (rho0 16 1) (some (drawOf ns)) = .rt (.bl true) dr' := law_1 (good_0 hl)
end K35
/-! Z35 -/
open PySem PySem.W PyProof.Rows
set_option pp.maxSteps 300
set_option maxHeartbeats 0 in
theorem PySem.Challenge.cw_tablesswitched_k35_whole_equations_of_ta_holds : PySem.Challenge.rw_tablesswitched_k35_whole_equations_of_ta.Holds := by
  w_on; o_law; k_head; (case hw => w_witness2)
  k_fill
  refine L2.walk_ofB (l := PySem.Challenge.rw_tablesswitched_k35_whole_equations_of_ta) (n := 63) (k := 10) (x := "script") (CX := fun w => L2.CX PySem.Challenge.rw_tablesswitched_k35_whole_equations_of_ta.prog w) (sp := fun w => DL.spLaw _ 16 1 K35.m_law) rfl (by decide) rfl ⟨rfl, by decide, by decide⟩ (fun w h Y => PySem.W.kIn_of Y) ?F (fun w H a ns hl hb _ hS => DL.sp_law_of hl hS (K35.law_math hl)) (fun _ _ _ _ _ h => DL.cx_out h)
  case F =>
    intro w mg fa h KX G hmg
    refine' DL.wDef "is_whole" K35.s_is_whole ["value"] KX G ?a6 ?l6 ?c6 ?k6 ?b6 ?z6
    (case a6 => k_is); (case l6 => k_is); (case c6 => k_is); (case k6 => k_is); (case b6 => exact fun _ _ _ _ _ _ us hl => match us, hl with | [_], _ => rfl)
    intro d_is_whole
    refine' DL.wDef "common" K35.s_common ["a", "b"] KX G ?a7 ?l7 ?c7 ?k7 ?b7 ?z7
    (case a7 => k_is); (case l7 => k_is); (case c7 => k_is); (case k7 => k_is); (case b7 => exact fun _ _ _ _ _ _ us hl => match us, hl with | [_, _], _ => rfl)
    intro d_common
    refine' DL.wDef "lowest" K35.s_lowest ["n", "d"] KX G ?a8 ?l8 ?c8 ?k8 ?b8 ?z8
    (case a8 => k_is); (case l8 => k_is); (case c8 => k_is); (case k8 => k_is); (case b8 => exact fun _ _ _ _ _ _ us hl => match us, hl with | [_, _], _ => rfl)
    intro d_lowest
    refine' DL.wDef "is_ratio" K35.s_is_ratio ["value"] KX G ?a9 ?l9 ?c9 ?k9 ?b9 ?z9
    (case a9 => k_is); (case l9 => k_is); (case c9 => k_is); (case k9 => k_is); (case b9 => exact fun _ _ _ _ _ _ us hl => match us, hl with | [_], _ => rfl)
    intro d_is_ratio
    refine' DL.wDef "plus" K35.s_plus ["a", "b"] KX G ?a10 ?l10 ?c10 ?k10 ?b10 ?z10
    (case a10 => k_is); (case l10 => k_is); (case c10 => k_is); (case k10 => k_is); (case b10 => exact fun _ _ _ _ _ _ us hl => match us, hl with | [_, _], _ => rfl)
    intro d_plus
    refine' DL.wDef "times" K35.s_times ["a", "b"] KX G ?a11 ?l11 ?c11 ?k11 ?b11 ?z11
    (case a11 => k_is); (case l11 => k_is); (case c11 => k_is); (case k11 => k_is); (case b11 => exact fun _ _ _ _ _ _ us hl => match us, hl with | [_, _], _ => rfl)
    intro d_times
    refine' DL.wDef "least_common" K35.s_least_common ["numbers"] KX G ?a12 ?l12 ?c12 ?k12 ?b12 ?z12
    (case a12 => k_is); (case l12 => k_is); (case c12 => k_is); (case k12 => k_is); (case b12 => exact fun _ _ _ _ _ _ us hl => match us, hl with | [_], _ => rfl)
    intro d_least_common
    refine' DL.wDef "has_shape" K35.s_has_shape ["value", "size"] KX G ?a13 ?l13 ?c13 ?k13 ?b13 ?z13
    (case a13 => k_is); (case l13 => k_is); (case c13 => k_is); (case k13 => k_is); (case b13 => exact fun _ _ _ _ _ _ us hl => match us, hl with | [_, _], _ => rfl)
    intro d_has_shape
    refine' DL.wDef "is_row" K35.s_is_row ["size", "value"] KX G ?a14 ?l14 ?c14 ?k14 ?b14 ?z14
    (case a14 => k_is); (case l14 => k_is); (case c14 => k_is); (case k14 => k_is); (case b14 => exact fun _ _ _ _ _ _ us hl => match us, hl with | [_, _], _ => rfl)
    intro d_is_row
    refine' DL.wDef "is_square" K35.s_is_square ["size", "value"] KX G ?a15 ?l15 ?c15 ?k15 ?b15 ?z15
    (case a15 => k_is); (case l15 => k_is); (case c15 => k_is); (case k15 => k_is); (case b15 => exact fun _ _ _ _ _ _ us hl => match us, hl with | [_, _], _ => rfl)
    intro d_is_square
    refine' DL.wDef "is_table" K35.s_is_table ["value"] KX G ?a16 ?l16 ?c16 ?k16 ?b16 ?z16
    (case a16 => k_is); (case l16 => k_is); (case c16 => k_is); (case k16 => k_is); (case b16 => exact fun _ _ _ _ _ _ us hl => match us, hl with | [_], _ => rfl)
    intro d_is_table
    refine' DL.wDef "check_table" K35.s_check_table ["value"] KX G ?a17 ?l17 ?c17 ?k17 ?b17 ?z17
    (case a17 => k_is); (case l17 => k_is); (case c17 => k_is); (case k17 => k_is); (case b17 => exact fun _ _ _ _ _ _ us hl => match us, hl with | [_], _ => rfl)
    intro d_check_table
    refine' DL.wDef "whole_table" K35.s_whole_table ["table"] KX G ?a18 ?l18 ?c18 ?k18 ?b18 ?z18
    (case a18 => k_is); (case l18 => k_is); (case c18 => k_is); (case k18 => k_is); (case b18 => exact fun _ _ _ _ _ _ us hl => match us, hl with | [_], _ => rfl)
    intro d_whole_table
    refine' DL.wDef "whole_product" K35.s_whole_product ["one", "two"] KX G ?a19 ?l19 ?c19 ?k19 ?b19 ?z19
    (case a19 => k_is); (case l19 => k_is); (case c19 => k_is); (case k19 => k_is); (case b19 => exact fun _ _ _ _ _ _ us hl => match us, hl with | [_, _], _ => rfl)
    intro d_whole_product
    refine' DL.wDef "equation_of" K35.s_equation_of ["table"] KX G ?a20 ?l20 ?c20 ?k20 ?b20 ?z20
    (case a20 => k_is); (case l20 => k_is); (case c20 => k_is); (case k20 => k_is); (case b20 => exact fun _ _ _ _ _ _ us hl => match us, hl with | [_], _ => rfl)
    intro d_equation_of
    refine' DL.wDef "equation" K35.s_equation ["table"] KX G ?a21 ?l21 ?c21 ?k21 ?b21 ?z21
    (case a21 => k_is); (case l21 => k_is); (case c21 => k_is); (case k21 => k_is); (case b21 => exact fun _ _ _ _ _ _ us hl => match us, hl with | [_], _ => rfl)
    intro d_equation
    refine' DL.wDef "pair_power" K35.s_pair_power ["table"] KX G ?a22 ?l22 ?c22 ?k22 ?b22 ?z22
    (case a22 => k_is); (case l22 => k_is); (case c22 => k_is); (case k22 => k_is); (case b22 => exact fun _ _ _ _ _ _ us hl => match us, hl with | [_], _ => rfl)
    intro d_pair_power
    refine' DL.wDef "paired" K35.s_paired ["table"] KX G ?a23 ?l23 ?c23 ?k23 ?b23 ?z23
    (case a23 => k_is); (case l23 => k_is); (case c23 => k_is); (case k23 => k_is); (case b23 => exact fun _ _ _ _ _ _ us hl => match us, hl with | [_], _ => rfl)
    intro d_paired
    refine' DL.wDef "is_equation" K35.s_is_equation ["value"] KX G ?a24 ?l24 ?c24 ?k24 ?b24 ?z24
    (case a24 => k_is); (case l24 => k_is); (case c24 => k_is); (case k24 => k_is); (case b24 => exact fun _ _ _ _ _ _ us hl => match us, hl with | [_], _ => rfl)
    intro d_is_equation
    refine' DL.wDef "check_equation" K35.s_check_equation ["value"] KX G ?a25 ?l25 ?c25 ?k25 ?b25 ?z25
    (case a25 => k_is); (case l25 => k_is); (case c25 => k_is); (case k25 => k_is); (case b25 => exact fun _ _ _ _ _ _ us hl => match us, hl with | [_], _ => rfl)
    intro d_check_equation
    refine' DL.wDef "check_point" K35.s_check_point ["value"] KX G ?a26 ?l26 ?c26 ?k26 ?b26 ?z26
    (case a26 => k_is); (case l26 => k_is); (case c26 => k_is); (case k26 => k_is); (case b26 => exact fun _ _ _ _ _ _ us hl => match us, hl with | [_], _ => rfl)
    intro d_check_point
    refine' DL.wDef "value_at" K35.s_value_at ["told", "point"] KX G ?a27 ?l27 ?c27 ?k27 ?b27 ?z27
    (case a27 => k_is); (case l27 => k_is); (case c27 => k_is); (case k27 => k_is); (case b27 => exact fun _ _ _ _ _ _ us hl => match us, hl with | [_, _], _ => rfl)
    intro d_value_at
    refine' DL.wDef "_law_draw" K35.s__law_draw ["script"] KX G ?a28 ?l28 ?c28 ?k28 ?b28 ?z28
    (case a28 => k_is); (case l28 => k_is); (case c28 => k_is); (case k28 => k_is); (case b28 => exact fun _ _ _ _ _ _ us hl => match us, hl with | [_], _ => rfl)
    intro d__law_draw
    refine' DL.wDef "_law_take" K35.s__law_take ["draw", "many"] KX G ?a29 ?l29 ?c29 ?k29 ?b29 ?z29
    (case a29 => k_is); (case l29 => k_is); (case c29 => k_is); (case k29 => k_is); (case b29 => exact fun _ _ _ _ _ _ us hl => match us, hl with | [_, _], _ => rfl)
    intro d__law_take
    refine' DL.wDef "_law_low" K35.s__law_low ["n", "d"] KX G ?a30 ?l30 ?c30 ?k30 ?b30 ?z30
    (case a30 => k_is); (case l30 => k_is); (case c30 => k_is); (case k30 => k_is); (case b30 => exact fun _ _ _ _ _ _ us hl => match us, hl with | [_, _], _ => rfl)
    intro d__law_low
    refine' DL.wDef "_law_plus" K35.s__law_plus ["a", "b"] KX G ?a31 ?l31 ?c31 ?k31 ?b31 ?z31
    (case a31 => k_is); (case l31 => k_is); (case c31 => k_is); (case k31 => k_is); (case b31 => exact fun _ _ _ _ _ _ us hl => match us, hl with | [_, _], _ => rfl)
    intro d__law_plus
    refine' DL.wDef "_law_times" K35.s__law_times ["a", "b"] KX G ?a32 ?l32 ?c32 ?k32 ?b32 ?z32
    (case a32 => k_is); (case l32 => k_is); (case c32 => k_is); (case k32 => k_is); (case b32 => exact fun _ _ _ _ _ _ us hl => match us, hl with | [_, _], _ => rfl)
    intro d__law_times
    refine' DL.wDef "_law_sum" K35.s__law_sum ["items"] KX G ?a33 ?l33 ?c33 ?k33 ?b33 ?z33
    (case a33 => k_is); (case l33 => k_is); (case c33 => k_is); (case k33 => k_is); (case b33 => exact fun _ _ _ _ _ _ us hl => match us, hl with | [_], _ => rfl)
    intro d__law_sum
    refine' DL.wDef "_law_dot" K35.s__law_dot ["one", "two"] KX G ?a34 ?l34 ?c34 ?k34 ?b34 ?z34
    (case a34 => k_is); (case l34 => k_is); (case c34 => k_is); (case k34 => k_is); (case b34 => exact fun _ _ _ _ _ _ us hl => match us, hl with | [_, _], _ => rfl)
    intro d__law_dot
    refine' DL.wDef "_law_led" K35.s__law_led ["table", "row"] KX G ?a35 ?l35 ?c35 ?k35 ?b35 ?z35
    (case a35 => k_is); (case l35 => k_is); (case c35 => k_is); (case k35 => k_is); (case b35 => exact fun _ _ _ _ _ _ us hl => match us, hl with | [_, _], _ => rfl)
    intro d__law_led
    refine' DL.wDef "_law_columns" K35.s__law_columns ["table"] KX G ?a36 ?l36 ?c36 ?k36 ?b36 ?z36
    (case a36 => k_is); (case l36 => k_is); (case c36 => k_is); (case k36 => k_is); (case b36 => exact fun _ _ _ _ _ _ us hl => match us, hl with | [_], _ => rfl)
    intro d__law_columns
    refine' DL.wDef "_law_product" K35.s__law_product ["one", "two"] KX G ?a37 ?l37 ?c37 ?k37 ?b37 ?z37
    (case a37 => k_is); (case l37 => k_is); (case c37 => k_is); (case k37 => k_is); (case b37 => exact fun _ _ _ _ _ _ us hl => match us, hl with | [_, _], _ => rfl)
    intro d__law_product
    refine' DL.wDef "_law_number" K35.s__law_number ["draw"] KX G ?a38 ?l38 ?c38 ?k38 ?b38 ?z38
    (case a38 => k_is); (case l38 => k_is); (case c38 => k_is); (case k38 => k_is); (case b38 => exact fun _ _ _ _ _ _ us hl => match us, hl with | [_], _ => rfl)
    intro d__law_number
    refine' DL.wDef "_law_row" K35.s__law_row ["draw", "size"] KX G ?a39 ?l39 ?c39 ?k39 ?b39 ?z39
    (case a39 => k_is); (case l39 => k_is); (case c39 => k_is); (case k39 => k_is); (case b39 => exact fun _ _ _ _ _ _ us hl => match us, hl with | [_, _], _ => rfl)
    intro d__law_row
    refine' DL.wDef "_law_table" K35.s__law_table ["draw", "size"] KX G ?a40 ?l40 ?c40 ?k40 ?b40 ?z40
    (case a40 => k_is); (case l40 => k_is); (case c40 => k_is); (case k40 => k_is); (case b40 => exact fun _ _ _ _ _ _ us hl => match us, hl with | [_, _], _ => rfl)
    intro d__law_table
    refine' DL.wDef "_law_products" K35.s__law_products ["row"] KX G ?a41 ?l41 ?c41 ?k41 ?b41 ?z41
    (case a41 => k_is); (case l41 => k_is); (case c41 => k_is); (case k41 => k_is); (case b41 => exact fun _ _ _ _ _ _ us hl => match us, hl with | [_], _ => rfl)
    intro d__law_products
    refine' DL.wDef "_law_ask" K35.s__law_ask ["which", "one", "two"] KX G ?a42 ?l42 ?c42 ?k42 ?b42 ?z42
    (case a42 => k_is); (case l42 => k_is); (case c42 => k_is); (case k42 => k_is); (case b42 => exact fun _ _ _ _ _ _ us hl => match us, hl with | [_, _, _], _ => rfl)
    intro d__law_ask
    refine' DL.wDef "_law_orders" K35.s__law_orders ["many"] KX G ?a43 ?l43 ?c43 ?k43 ?b43 ?z43
    (case a43 => k_is); (case l43 => k_is); (case c43 => k_is); (case k43 => k_is); (case b43 => exact fun _ _ _ _ _ _ us hl => match us, hl with | [_], _ => rfl)
    intro d__law_orders
    refine' DL.wDef "_law_times_all" K35.s__law_times_all ["one", "two"] KX G ?a44 ?l44 ?c44 ?k44 ?b44 ?z44
    (case a44 => k_is); (case l44 => k_is); (case c44 => k_is); (case k44 => k_is); (case b44 => exact fun _ _ _ _ _ _ us hl => match us, hl with | [_, _], _ => rfl)
    intro d__law_times_all
    refine' DL.wDef "_law_due" K35.s__law_due ["table"] KX G ?a45 ?l45 ?c45 ?k45 ?b45 ?z45
    (case a45 => k_is); (case l45 => k_is); (case c45 => k_is); (case k45 => k_is); (case b45 => exact fun _ _ _ _ _ _ us hl => match us, hl with | [_], _ => rfl)
    intro d__law_due
    refine' DL.wDef "_law_power" K35.s__law_power ["told", "point"] KX G ?a46 ?l46 ?c46 ?k46 ?b46 ?z46
    (case a46 => k_is); (case l46 => k_is); (case c46 => k_is); (case k46 => k_is); (case b46 => exact fun _ _ _ _ _ _ us hl => match us, hl with | [_, _], _ => rfl)
    intro d__law_power
    refine' DL.wNone "abs" KX G ?q47 ?z47
    (case q47 => k_is)
    intro b_abs
    refine' DL.wNone "all" KX G ?q48 ?z48
    (case q48 => k_is)
    intro b_all
    refine' DL.wNone "bool" KX G ?q49 ?z49
    (case q49 => k_is)
    intro b_bool
    refine' DL.wNone "int" KX G ?q50 ?z50
    (case q50 => k_is)
    intro b_int
    refine' DL.wNone "isinstance" KX G ?q51 ?z51
    (case q51 => k_is)
    intro b_isinstance
    refine' DL.wNone "len" KX G ?q52 ?z52
    (case q52 => k_is)
    intro b_len
    refine' DL.wNone "list" KX G ?q53 ?z53
    (case q53 => k_is)
    intro b_list
    refine' DL.wNone "range" KX G ?q54 ?z54
    (case q54 => k_is)
    intro b_range
    refine' DL.wNone "sum" KX G ?q55 ?z55
    (case q55 => k_is)
    intro b_sum
    refine' DL.wNone "tuple" KX G ?q56 ?z56
    (case q56 => k_is)
    intro b_tuple
    refine' DL.wNone "zip" KX G ?q57 ?z57
    (case q57 => k_is)
    intro b_zip
    refine' DL.wInt "MOST_DEGREE" 20 KX G ?q58 ?z58
    (case q58 => k_is)
    intro c_MOST_DEGREE
    refine' DL.wInt "MOST_SIZE" 4 KX G ?q59 ?z59
    (case q59 => k_is)
    intro c_MOST_SIZE
    refine' DL.wTup "ONE" [1, 1] KX G ?q60 ?l60 ?c60 ?d60 ?s60 ?v60 ?z60
    (case q60 => k_is); (case l60 => k_is); (case c60 => rfl); (case d60 => rfl); (case s60 => decide); (case v60 => exact .cons ⟨_, rfl⟩ (.cons ⟨_, rfl⟩ (.nil)))
    intro c_ONE
    refine' DL.wTup "ZERO" [0, 1] KX G ?q61 ?l61 ?c61 ?d61 ?s61 ?v61 ?z61
    (case q61 => k_is); (case l61 => k_is); (case c61 => rfl); (case d61 => rfl); (case s61 => decide); (case v61 => exact .cons ⟨_, rfl⟩ (.cons ⟨_, rfl⟩ (.nil)))
    intro c_ZERO
    refine' DL.wExc "Malformed" KX G PySem.F.excBase_ValueError ?a62 ?e62 ?k62 ?s62 ?t62 ?z62
    (case a62 => k_is); (case e62 => k_exc); (case k62 => k_is); (case s62 => k_is); (case t62 => k_is)
    intro e_Malformed
    refine' DL.wClause1 "Malformed" KX G ?a63 ?s63 ?d63 ?t63 ?ss63 ?z63
    (case a63 => k_is); (case s63 => k_is); (case d63 => k_is); (case t63 => k_is); (case ss63 => first | rfl | k_is)
    intro x_Malformed
    refine' DL.wLaw K35.s_law KX G ?a64 ?l64 ?c64 ?k64 ?b64 ?z64
    (case a64 => k_is); (case l64 => k_is); (case c64 => k_is); (case k64 => k_is); (case b64 => exact fun _ _ _ _ _ _ s u => .of_eq rfl)
    intro f fd g Fu b
    have e := hmg.symm.trans g
    cases e
    exact ⟨fd, b, fun base _ _ => K35.ok_law (K35.Txt.mk d_is_whole d_common d_lowest d_is_ratio d_plus d_times d_least_common d_has_shape d_is_row d_is_square d_is_table d_check_table d_whole_table d_whole_product d_equation_of d_equation d_pair_power d_paired d_is_equation d_check_equation d_check_point d_value_at d__law_draw d__law_take d__law_low d__law_plus d__law_times d__law_sum d__law_dot d__law_led d__law_columns d__law_product d__law_number d__law_row d__law_table d__law_products d__law_ask d__law_orders d__law_times_all d__law_due d__law_power b_abs b_all b_bool b_int b_isinstance b_len b_list b_range b_sum b_tuple b_zip c_MOST_DEGREE c_MOST_SIZE c_ONE c_ZERO e_Malformed x_Malformed) Fu⟩
