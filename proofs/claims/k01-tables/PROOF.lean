import PyProof.Rows.All
import Wide.All
import OpenK.AllK
import Wide.FinOn
import HandS.ForMost
import HandS.ForExc
import HandS.TryOnly
import HandS.TryMany
import HandS.IsInst
import HandS.Wide
import HandS.TupAny
import HandS.TupMul
import HandS.Deep
import HandS.Flow
import HandS.Conv
import HandS.Style
import HandS.Iter
import HandS.Zip
import HandS.Comp
import HandS.Codes
import HandS.WordsExc
import HandS.ExcIs
import PySem.Challenge.RW_tablesswitched_k01_whole_tables
import HandS.EndBits
set_option Elab.async false
set_option linter.all false
set_option maxRecDepth 100000
/-! DL0 -/
/-! DL0: data without a heap, what stands for it, the state of a body. -/
namespace DL
open PySem PySem.Spec PyProof.Rows L2

/-- data: what a value stands for. fn: a def of the text by its name; dr: the list of draws -/
inductive D where
  | non | bl (b : Bool) | int (i : Int) | str (x : Str) | fn (x : Str) | dr
  | tup (xs : List D) | lst (o : Bool) (xs : List D)
deriving Inhabited

mutual
/-- what is one's own is given away -/
def D.fz : D → D
  | .lst _ xs => .lst false (D.fzs xs)
  | .tup xs => .tup xs
  | .non => .non | .bl b => .bl b | .int i => .int i | .str x => .str x | .fn x => .fn x | .dr => .dr
def D.fzs : List D → List D
  | [] => []
  | x :: xs => D.fz x :: D.fzs xs
end
mutual
/-- nothing of one's own within -/
def D.frz : D → Bool
  | .lst o xs => !o
  | _ => true
end
mutual
def D.eqv : D → D → Bool
  | .non, .non => true
  | .bl a, .bl b => a == b
  | .bl a, .int b => (if a then 1 else 0) == b
  | .int a, .bl b => a == (if b then 1 else 0)
  | .int a, .int b => a == b
  | .str a, .str b => a == b
  | .tup xs, .tup ys => D.eqvs xs ys
  | .lst _ xs, .lst _ ys => D.eqvs xs ys
  | _, _ => false
def D.eqvs : List D → List D → Bool
  | [], [] => true
  | x :: xs, y :: ys => D.eqv x y && D.eqvs xs ys
  | _, _ => false
end
theorem fzs_map (xs : List D) : D.fzs xs = xs.map D.fz := by
  induction xs with
  | nil => rfl
  | cons x xs ih => simp [D.fzs, ih]

/-! ### the draws -/
structure Dw where
  cells : List Int
  p : Int
  q : Int
  left : Int
  seed : Int
  cnt : Int
abbrev Dr := Option Dw
structure Exn where
  cls : Str
  fld : Option (Str × Str) := none
inductive R (α : Type) where
  | st | ok (a : α) (dr : Dr) | ex (e : Exn) (dr : Dr)
def R.bind {α β : Type} : R α → (α → Dr → R β) → R β
  | .st, _ => .st
  | .ok a d, f => f a d
  | .ex e d, _ => .ex e d
def R.opt {α : Type} : Option α → Dr → R α
  | some a, d => .ok a d
  | none, _ => .st
abbrev Rho := List (Option D)
abbrev CEx := Rho → Dr → R D
abbrev CTx := Rho → Dr → R Bool
abbrev CAx := Rho → Dr → R (List D)

/-! ### what stands for data -/
structure DC where
  K : PySem.W.Frag
  mg : Str → Option Value
  dra : Option (Addr × Addr)
/-- a tuple of the written part -/
def KT (K : PySem.W.Frag) (a : Addr) (vs : List V) : Prop :=
  ∃ (o : Obj) (its : Array Value) (n : Nat), K.lookup a = some o ∧ o.cls = .type "tuple" ∧ o.data = .seq its n ∧ its.size ≤ sizeLine ∧ Vals vs its.toList
mutual
inductive Rp (c : DC) (O : Addr → Prop) (H : Hp) : V → D → List Addr → Prop where
  | non : Rp c O H .non .non []
  | bl (b : Bool) : Rp c O H (.bl b) (.bl b) []
  | int (i : Int) : Rp c O H (.int i) (.int i) []
  | str (x : Str) : Rp c O H (.str x) (.str x) []
  | fn {x : Str} {f : Addr} : c.mg x = some (.ref f) → Rp c O H (.ref f) (.fn x) []
  | dr {p : Addr × Addr} : c.dra = some p → Rp c O H (.ref p.1) .dr []
  | tup {a : Addr} {vs : List V} {ds : List D} : H a = some (.tup vs) → ¬ O a → Rps c O H vs ds [] → Rp c O H (.ref a) (.tup ds) []
  | tupK {a : Addr} {vs : List V} {ds : List D} : KT c.K a vs → Rps c O H vs ds [] → Rp c O H (.ref a) (.tup ds) []
  | lst {a : Addr} {vs : List V} {ds : List D} : H a = some (.lst vs) → ¬ O a → Rps c O H vs ds [] → Rp c O H (.ref a) (.lst false ds) []
  | own {a : Addr} {vs : List V} {ds : List D} {fp : List Addr} : H a = some (.lst vs) → Rps c O H vs ds fp → Rp c O H (.ref a) (.lst true ds) (a :: fp)
inductive Rps (c : DC) (O : Addr → Prop) (H : Hp) : List V → List D → List Addr → Prop where
  | nil : Rps c O H [] [] []
  | cons {v : V} {d : D} {fp : List Addr} {vs : List V} {ds : List D} {fq : List Addr} : Rp c O H v d fp → Rps c O H vs ds fq → Rps c O H (v :: vs) (d :: ds) (fp ++ fq)
end

section
variable {c : DC} {O O' : Addr → Prop} {H H' : Hp}
mutual
/-- another heap, another lot of what is one's own -/
theorem Rp.mono : ∀ (d : D) {v : V} {fp : List Addr}, Rp c O H v d fp → (∀ a o, H a = some o → (¬ O a ∨ a ∈ fp) → H' a = some o) → (∀ a o, H a = some o → ¬ O a → ¬ O' a) → Rp c O' H' v d fp
  | .non, _, _, h, _, _ => by cases h; exact .non
  | .bl _, _, _, h, _, _ => by cases h; exact .bl _
  | .int _, _, _, h, _, _ => by cases h; exact .int _
  | .str _, _, _, h, _, _ => by cases h; exact .str _
  | .fn _, _, _, h, _, _ => by
    cases h with
    | fn e => exact .fn e
  | .dr, _, _, h, _, _ => by
    cases h with
    | dr e => exact .dr e
  | .tup ds, _, _, h, k, o => by
    cases h with
    | tup e n r => exact .tup (k _ _ e (.inl n)) (o _ _ e n) (Rps.mono ds r k o)
    | tupK e r => exact .tupK e (Rps.mono ds r k o)
  | .lst b ds, _, _, h, k, o => by
    cases h with
    | lst e n r => exact .lst (k _ _ e (.inl n)) (o _ _ e n) (Rps.mono ds r k o)
    | own e r => exact .own (k _ _ e (.inr List.mem_cons_self)) (Rps.mono ds r (fun a ob q z => k a ob q (z.elim .inl fun m => .inr (List.mem_cons_of_mem _ m))) o)
theorem Rps.mono : ∀ (ds : List D) {vs : List V} {fp : List Addr}, Rps c O H vs ds fp → (∀ a o, H a = some o → (¬ O a ∨ a ∈ fp) → H' a = some o) → (∀ a o, H a = some o → ¬ O a → ¬ O' a) → Rps c O' H' vs ds fp
  | [], _, _, h, _, _ => by cases h; exact .nil
  | d :: ds, _, _, h, k, o => by
    cases h with
    | cons r t => exact .cons (Rp.mono d r (fun a ob q z => k a ob q (z.elim .inl fun m => .inr (List.mem_append_left _ m))) o) (Rps.mono ds t (fun a ob q z => k a ob q (z.elim .inl fun m => .inr (List.mem_append_right _ m))) o)
end
mutual
theorem Rp.trk : ∀ (d : D) {v : V} {fp : List Addr}, Rp c O H v d fp → ∀ a ∈ fp, H a ≠ none
  | .lst b ds, _, _, h, a, ha => by
    cases h with
    | lst e n r => cases ha
    | own e r =>
      rcases List.mem_cons.mp ha with rfl | ha
      · rw [e]; exact fun z => nomatch z
      · exact Rps.trk ds r a ha
  | .tup ds, _, _, h, a, ha => by cases h <;> cases ha
  | .non, _, _, h, a, ha => by cases h; cases ha
  | .bl _, _, _, h, a, ha => by cases h; cases ha
  | .int _, _, _, h, a, ha => by cases h; cases ha
  | .str _, _, _, h, a, ha => by cases h; cases ha
  | .fn _, _, _, h, a, ha => by cases h; cases ha
  | .dr, _, _, h, a, ha => by cases h; cases ha
theorem Rps.trk : ∀ (ds : List D) {vs : List V} {fp : List Addr}, Rps c O H vs ds fp → ∀ a ∈ fp, H a ≠ none
  | [], _, _, h, a, ha => by cases h; cases ha
  | d :: ds, _, _, h, a, ha => by
    cases h with
    | cons r t =>
      rcases List.mem_append.mp ha with ha | ha
      · exact Rp.trk d r a ha
      · exact Rps.trk ds t a ha
end
mutual
/-- given away -/
theorem Rp.fz : ∀ (d : D) {v : V} {fp : List Addr}, Rp c O H v d fp → (∀ a ∈ fp, ¬ O a) → Rp c O H v d.fz []
  | .lst b ds, _, _, h, k => by
    cases h with
    | lst e n r => exact .lst e n (Rps.fz ds r fun a ha => nomatch ha)
    | own e r => exact .lst e (k _ List.mem_cons_self) (Rps.fz ds r fun a ha => k a (List.mem_cons_of_mem _ ha))
  | .tup ds, _, _, h, k => by
    cases h with
    | tup e n r => exact .tup e n r
    | tupK e r => exact .tupK e r
  | .non, _, _, h, k => by cases h; exact .non
  | .bl _, _, _, h, k => by cases h; exact .bl _
  | .int _, _, _, h, k => by cases h; exact .int _
  | .str _, _, _, h, k => by cases h; exact .str _
  | .fn _, _, _, h, k => by
    cases h with
    | fn e => exact .fn e
  | .dr, _, _, h, k => by
    cases h with
    | dr e => exact .dr e
theorem Rps.fz : ∀ (ds : List D) {vs : List V} {fp : List Addr}, Rps c O H vs ds fp → (∀ a ∈ fp, ¬ O a) → Rps c O H vs (D.fzs ds) []
  | [], _, _, h, k => by cases h; exact .nil
  | d :: ds, _, _, h, k => by
    cases h with
    | cons r t => exact .cons (Rp.fz d r fun a ha => k a (List.mem_append_left _ ha)) (Rps.fz ds t fun a ha => k a (List.mem_append_right _ ha))
end
theorem Rp.frz : ∀ (d : D) {v : V} {fp : List Addr}, Rp c O H v d fp → d.frz = true → fp = []
  | .lst b ds, _, _, h, k => by
    cases h with
    | lst e n r => rfl
    | own e r => cases k
  | .tup ds, _, _, h, k => by cases h <;> rfl
  | .non, _, _, h, k => by cases h; rfl
  | .bl _, _, _, h, k => by cases h; rfl
  | .int _, _, _, h, k => by cases h; rfl
  | .str _, _, _, h, k => by cases h; rfl
  | .fn _, _, _, h, k => by cases h; rfl
  | .dr, _, _, h, k => by cases h; rfl
theorem Rps.len : ∀ {ds : List D} {vs : List V} {fp : List Addr}, Rps c O H vs ds fp → vs.length = ds.length
  | _, _, _, .nil => rfl
  | _, _, _, .cons _ t => congrArg (· + 1) (Rps.len t)
theorem Rps.get : ∀ {ds : List D} {vs : List V} {fp : List Addr} {i : Nat} {d : D}, Rps c O H vs ds fp → ds[i]? = some d → ∃ v fq, vs[i]? = some v ∧ Rp c O H v d fq ∧ List.Sublist fq fp
  | _, _, _, _, _, .nil, e => by simp at e
  | _, _, _, 0, _, .cons r t, e => by
    simp at e; subst e
    exact ⟨_, _, rfl, r, List.sublist_append_left ..⟩
  | _, _, _, i + 1, d, .cons r t, e => by
    obtain ⟨v, fq, e1, r1, s⟩ := Rps.get (i := i) (d := d) t (by simpa using e)
    exact ⟨v, fq, by simpa using e1, r1, s.trans (List.sublist_append_right ..)⟩
theorem Rps.append : ∀ {ds es : List D} {vs us : List V} {fp fq : List Addr}, Rps c O H vs ds fp → Rps c O H us es fq → Rps c O H (vs ++ us) (ds ++ es) (fp ++ fq)
  | _, _, _, _, _, _, .nil, s => s
  | _, _, _, _, _, _, .cons r t, s => by
    rw [List.append_assoc]
    exact .cons r (Rps.append t s)
theorem Rps.noneI {ds : List D} {vs : List V} {fp : List Addr} (r : Rps c O H vs ds fp) {i : Nat} (h : ds[i]? = none) : vs[i]? = none := by
  rw [List.getElem?_eq_none_iff] at h ⊢
  rw [r.len]; exact h
end
end DL
/-! DL1 -/
/-! DL1: the state of a body, the judgements, names, constants, operators. -/
namespace DL
open PySem PySem.Spec PyProof.Rows L2

def orO (O : Addr → Prop) (fp : List Addr) : Addr → Prop := fun a => O a ∨ a ∈ fp
/-- the heap behind: all but the list of draws as it was -/
structure Ext (c : DC) (H H' : Hp) : Prop where
  keep : ∀ a o, H a = some o → (∀ p, c.dra = some p → a ≠ p.1) → H' a = some o
  trk : ∀ a, H a ≠ none → H' a ≠ none
def DrOk (c : DC) : Dr → Hp → Prop
  | none, _ => True
  | some s, H => ∃ p, c.dra = some p ∧ H p.1 = some (.lst [.ref p.2, .int s.p, .int s.q, .int s.left, .int s.seed, .int s.cnt]) ∧ H p.2 = some (.lst (s.cells.map V.int)) ∧ p.2 ≠ p.1
def ExOk (c : DC) (e : Exn) (cls : Value) (od : Option Addr) (H : Hp) : Prop :=
  ∃ C, cls = .ref C ∧ c.mg e.cls = some (.ref C) ∧ match e.fld with
    | none => od = none
    | some (f, x) => ∃ d, od = some d ∧ H d = some (.xd [(f, .str x)])
/-- the entry: its heap, what was the callers' own then -/
structure En where
  He : Hp
  Oe : Addr → Prop
structure StOk (c : DC) (en : En) (O : Addr → Prop) (lf : List Addr) (ρ : Rho) (dr : Dr) (σ : L2.St) (H : Hp) : Prop where
  slots : ∃ fps : List (List Addr), fps.length = ρ.length ∧ (lf ++ fps.flatten).Nodup ∧ (∀ a ∈ lf ++ fps.flatten, O a ∧ en.He a = none) ∧
    ∀ (i : Nat) (d : D), ρ[i]? = some (some d) → ∃ v fp, σ[i]? = some (some v) ∧ fps[i]? = some fp ∧ Rp c O H v d fp
  len : ρ.length = σ.length
  trk : ∀ a, O a → H a ≠ none
  sub : ∀ a, en.Oe a → O a
  ext : Ext c en.He H
  drw : DrOk c dr H
  odr : ∀ p, c.dra = some p → O p.1
  edr : ∀ p, c.dra = some p → en.He p.1 ≠ none
  oe : ∀ a, en.Oe a → en.He a ≠ none
  ed2 : ∀ p, c.dra = some p → en.He p.2 ≠ none

section
variable {c : DC} {en : En} {O O' : Addr → Prop} {lf fp fq : List Addr} {ρ : Rho} {dr dr' : Dr} {σ : L2.St} {H H' H1 H2 : Hp} {v : V} {d : D}
theorem Ext.refl : Ext c H H := ⟨fun _ _ e _ => e, fun _ e => e⟩
theorem Ext.trans (a : Ext c H H1) (b : Ext c H1 H2) : Ext c H H2 := ⟨fun x o e n => b.keep x o (a.keep x o e n) n, fun x e => b.trk x (a.trk x e)⟩
theorem Ext.of_same (s : Same H H') : Ext c H H' := ⟨fun a o e _ => s a o e, fun a e z => by
  cases q : H a with
  | none => exact e q
  | some o => rw [s a o q] at z; cases z⟩
theorem Ext.un (e : Ext c H H') {a : Addr} (h : H' a = none) : H a = none := by
  cases q : H a with
  | none => rfl
  | some o => exact absurd h (e.trk a (by rw [q]; exact fun z => nomatch z))
theorem DrOk.same (d : DrOk c dr H) (s : Same H H') : DrOk c dr H' := by
  cases dr with
  | none => trivial
  | some x =>
    obtain ⟨p, e, h1, h2, n⟩ := d
    exact ⟨p, e, s _ _ h1, s _ _ h2, n⟩
theorem same_upd {p : Addr} {o : HO} (h : H p = none) : Same H (upd H p o) := fun b x e => by
  rw [upd_ne (ne_of_none e h)]
  exact e
theorem Rp.anti (r : Rp c O H v d fp) (h : ∀ a, O' a → O a) : Rp c O' H v d fp := Rp.mono d r (fun _ _ e _ => e) fun a _ _ n z => n (h a z)
theorem Rps.anti {vs : List V} {ds : List D} (r : Rps c O H vs ds fp) (h : ∀ a, O' a → O a) : Rps c O' H vs ds fp := Rps.mono ds r (fun _ _ e _ => e) fun a _ _ n z => n (h a z)
theorem Rp.same (r : Rp c O H v d fp) (s : Same H H') : Rp c O H' v d fp := Rp.mono d r (fun a o e _ => s a o e) fun _ _ _ n => n
theorem Rps.same {vs : List V} {ds : List D} (r : Rps c O H vs ds fp) (s : Same H H') : Rps c O H' vs ds fp := Rps.mono ds r (fun a o e _ => s a o e) fun _ _ _ n => n
theorem Rp.ext (r : Rp c O H v d fp) (e : Ext c H H') (o : ∀ p, c.dra = some p → O p.1) (n : ∀ p, c.dra = some p → p.1 ∉ fp) : Rp c O H' v d fp :=
  Rp.mono d r (fun a ob q z => e.keep a ob q fun p hp => by
    rintro rfl
    exact z.elim (fun k => k (o p hp)) fun k => n p hp k) fun _ _ _ k => k
theorem Rps.ext {vs : List V} {ds : List D} (r : Rps c O H vs ds fp) (e : Ext c H H') (o : ∀ p, c.dra = some p → O p.1) (n : ∀ p, c.dra = some p → p.1 ∉ fp) : Rps c O H' vs ds fp :=
  Rps.mono ds r (fun a ob q z => e.keep a ob q fun p hp => by
    rintro rfl
    exact z.elim (fun k => k (o p hp)) fun k => n p hp k) fun _ _ _ k => k
theorem orO_l {a : Addr} (h : O a) : orO O fp a := .inl h
theorem orO_nil {a : Addr} (h : orO O [] a) : O a := h.elim id fun z => nomatch z
theorem Rp.orl (r : Rp c (orO O fp) H v d fq) : Rp c O H v d fq := r.anti fun _ => .inl
theorem Rps.orl {vs : List V} {ds : List D} (r : Rps c (orO O fp) H vs ds fq) : Rps c O H vs ds fq := r.anti fun _ => .inl
theorem Rp.nil_or (r : Rp c O H v d fq) : Rp c (orO O []) H v d fq := r.anti fun _ => orO_nil

/-- behind an expression -/
theorem StOk.step (S : StOk c en O lf ρ dr σ H) (e : Ext c H H') (dw : DrOk c dr' H') : StOk c en O lf ρ dr' σ H' := by
  obtain ⟨fps, h1, h2, h3, h4⟩ := S.slots
  refine ⟨⟨fps, h1, h2, h3, fun i d hi => ?_⟩, S.len, fun a ha => e.trk a (S.trk a ha), S.sub, S.ext.trans e, dw, S.odr, S.edr, S.oe, S.ed2⟩
  obtain ⟨v, fp, e1, e2, r⟩ := h4 i d hi
  refine ⟨v, fp, e1, e2, r.ext e S.odr fun p hp hm => ?_⟩
  have := (h3 p.1 (List.mem_append_right _ (List.mem_flatten.mpr ⟨fp, List.mem_of_getElem? e2, hm⟩))).2
  exact S.edr p hp this
/-- new things are held in hand -/
theorem StOk.hold (S : StOk c en O lf ρ dr σ H) (e : Ext c H H') (dw : DrOk c dr' H') (nd : fp.Nodup) (fr : ∀ a ∈ fp, H a = none) (tr : ∀ a ∈ fp, H' a ≠ none) : StOk c en (orO O fp) (fp ++ lf) ρ dr' σ H' := by
  obtain ⟨fps, h1, h2, h3, h4⟩ := S.slots
  have notIn : ∀ a ∈ fp, ¬ O a := fun a ha z => S.trk a z (fr a ha)
  refine ⟨⟨fps, h1, ?_, fun a ha => ?_, fun i d hi => ?_⟩, S.len, fun a ha => ?_, fun a ha => .inl (S.sub a ha), S.ext.trans e, dw, fun p hp => .inl (S.odr p hp), S.edr, S.oe, S.ed2⟩
  · rw [List.append_assoc, List.nodup_append]
    refine ⟨nd, h2, fun a ha b hb => ?_⟩
    rintro rfl
    exact notIn a ha (h3 a hb).1
  · rw [List.append_assoc] at ha
    rcases List.mem_append.mp ha with ha | ha
    · exact ⟨.inr ha, S.ext.un (fr a ha)⟩
    · exact ⟨.inl (h3 a ha).1, (h3 a ha).2⟩
  · obtain ⟨v, fq, e1, e2, r⟩ := h4 i d hi
    refine ⟨v, fq, e1, e2, ?_⟩
    have r2 : Rp c (orO O fp) H v d fq := Rp.mono d r (fun _ _ q _ => q) fun a o q n z => z.elim n fun m => by rw [fr a m] at q; cases q
    exact r2.ext e (fun p hp => .inl (S.odr p hp)) fun p hp hm =>
      S.edr p hp (h3 p.1 (List.mem_append_right _ (List.mem_flatten.mpr ⟨fq, List.mem_of_getElem? e2, hm⟩))).2
  · rcases ha with ha | ha
    · exact e.trk a (S.trk a ha)
    · exact tr a ha
end
end DL
/-! DL2 -/
/-! DL2: the judgements, names, constants, operators. -/
namespace DL
open PySem PySem.Spec PyProof.Rows L2

def Wp {α : Type} (r : R α) (ok : α → Dr → Prop) (ex : Exn → Dr → Prop) : Prop := match r with
  | .st => False
  | .ok a d => ok a d
  | .ex e d => ex e d
theorem Wp.bind {α β : Type} {r : R α} {f : α → Dr → R β} {ok : β → Dr → Prop} {ex : Exn → Dr → Prop} (h : Wp (r.bind f) ok ex) : Wp r (fun a d => Wp (f a d) ok ex) ex := by
  cases r <;> exact h
theorem Wp.mono {α : Type} {r : R α} {ok ok' : α → Dr → Prop} {ex ex' : Exn → Dr → Prop} (h : Wp r ok ex) (h1 : ∀ a d, ok a d → ok' a d) (h2 : ∀ e d, ex e d → ex' e d) : Wp r ok' ex' := by
  cases r with
  | st => exact h
  | ok a d => exact h1 a d h
  | ex e d => exact h2 e d h
theorem Wp.opt {α : Type} {o : Option α} {d : Dr} {ok : α → Dr → Prop} {ex : Exn → Dr → Prop} (h : Wp (R.opt o d) ok ex) : ∃ a, o = some a ∧ ok a d := by
  cases o with
  | none => exact h.elim
  | some a => exact ⟨a, rfl, h⟩

abbrev dc (X : Cx) (dra : Option (Addr × Addr)) : DC := ⟨X.K, X.mg, dra⟩
/-- what is wanted of an error -/
def ExW (c : DC) (W : WX) (σ : L2.St) (H : Hp) : Exn → Dr → Prop := fun e dr => ∀ cls od H', Ext c H H' → DrOk c dr H' → ExOk c e cls od H' → W cls od σ H'
/-- what is wanted of a value: seen (its own things may be another's), had (its own things are new) -/
def OkB (c : DC) (en : En) (O : Addr → Prop) (H : Hp) (Q : VK) : D → Dr → Prop := fun d dr => ∀ v H' fp, Ext c H H' → DrOk c dr H' → Rp c (orO O fp) H' v d fp → fp.Nodup → (∀ a ∈ fp, en.He a = none) → Q v H'
def OkE (c : DC) (O : Addr → Prop) (H : Hp) (Q : VK) : D → Dr → Prop := fun d dr => ∀ v H' fp, Ext c H H' → DrOk c dr H' → Rp c (orO O fp) H' v d fp → fp.Nodup → (∀ a ∈ fp, H a = none) → Q v H'
def tB (c : DC) (W : WX) (F : CEx) : TE := fun σ H Q => ∃ en O lf ρ dr, StOk c en O lf ρ dr σ H ∧ Wp (F ρ dr) (OkB c en O H Q) (ExW c W σ H)
def tE (c : DC) (W : WX) (F : CEx) : TE := fun σ H Q => ∃ en O lf ρ dr, StOk c en O lf ρ dr σ H ∧ Wp (F ρ dr) (OkE c O H Q) (ExW c W σ H)
def tT (c : DC) (W : WX) (F : CTx) : TT := fun σ H Q => ∃ en O lf ρ dr, StOk c en O lf ρ dr σ H ∧ Wp (F ρ dr) (fun b dr' => ∀ H', Ext c H H' → DrOk c dr' H' → Q b H') (ExW c W σ H)
structure BE (X : Cx) (dra : Option (Addr × Addr)) (W : WX) (e : Expr) (F : CEx) : Prop where
  pe : PE X e (tB (dc X dra) W F)
structure EE (X : Cx) (dra : Option (Addr × Addr)) (W : WX) (e : Expr) (F : CEx) : Prop where
  pe : PE X e (tE (dc X dra) W F)
structure BT (X : Cx) (dra : Option (Addr × Addr)) (W : WX) (e : Expr) (F : CTx) : Prop where
  pt : PT X e (tT (dc X dra) W F)
theorem wkE {X : Cx} {e : Expr} {t t' : TE} (h : PE X e t) (i : ∀ σ H Q, t' σ H Q → t σ H Q) : PE X e t' := ⟨fun pins s σ H Q I hw => h.run pins s σ H Q I (i σ H Q hw)⟩
theorem wkT {X : Cx} {e : Expr} {t t' : TT} (h : PT X e t) (i : ∀ σ H Q, t' σ H Q → t σ H Q) : PT X e t' := ⟨fun pins s σ H Q I hw => h.run pins s σ H Q I (i σ H Q hw)⟩

section
variable {c : DC} {en : En} {O O' : Addr → Prop} {lf fp fq : List Addr} {ρ : Rho} {dr dr' : Dr} {σ : L2.St} {H H' H1 H2 : Hp} {v : V} {d : D} {W : WX} {Q : VK}
theorem ExW.later {e : Exn} (h : ExW c W σ H e dr) (x : Ext c H H1) : ExW c W σ H1 e dr := fun cls od H' e' => h cls od H' (x.trans e')
theorem OkE.later (h : OkE c O H Q d dr) (x : Ext c H H1) : OkE c O H1 Q d dr := fun v H' fp e dw r nd fr => h v H' fp (x.trans e) dw r nd fun a ha => x.un (fr a ha)
theorem OkB.later (h : OkB c en O H Q d dr) (x : Ext c H H1) : OkB c en O H1 Q d dr := fun v H' fp e dw r nd fr => h v H' fp (x.trans e) dw r nd fr
theorem OkB.e (h : OkB c en O H Q d dr) (x : Ext c en.He H) : OkE c O H Q d dr := fun v H' fp e dw r nd fr => h v H' fp e dw r nd fun a ha => x.un (fr a ha)
/-- an atom -/
theorem OkE.atom (h : OkE c O H Q d dr) (dw : DrOk c dr H) (r : Rp c O H v d []) : Q v H := h v H [] Ext.refl dw r.nil_or List.nodup_nil fun _ z => nomatch z
/-- a value, the heap only longer -/
theorem OkE.new (h : OkE c O H Q d dr) (dw : DrOk c dr H) (s : Same H H') (r : Rp c O H' v d []) : Q v H' := h v H' [] (Ext.of_same s) (dw.same s) r.nil_or List.nodup_nil fun _ z => nomatch z
theorem OkE.newO (h : OkE c O H Q d dr) (dw : DrOk c dr H) (s : Same H H') (r : Rp c (orO O fp) H' v d fp) (nd : fp.Nodup) (fr : ∀ a ∈ fp, H a = none) : Q v H' := h v H' fp (Ext.of_same s) (dw.same s) r nd fr
/-- seen now, seen later -/
theorem Rp.later (S : StOk c en O lf ρ dr σ H) (r : Rp c (orO O fp) H1 v d fp) (x : Ext c H1 H2) (fr : ∀ a ∈ fp, en.He a = none) : Rp c (orO O fp) H2 v d fp :=
  r.ext x (fun p hp => .inl (S.odr p hp)) fun p hp hm => S.edr p hp (fr _ hm)
end

section
variable {X : Cx} {dra : Option (Addr × Addr)} {W : WX} {e a b : Expr} {F G F1 F2 : CEx} {pos : Pos}
theorem EE.be (h : EE X dra W e F) : BE X dra W e F := ⟨wkE h.pe fun σ H Q ⟨en, O, lf, ρ, dr, S, w⟩ => ⟨en, O, lf, ρ, dr, S, w.mono (fun _ _ k => k.e S.ext) fun _ _ k => k⟩⟩
/-- what is seen, nobody's own -/
def cFrz (F : CEx) : CEx := fun ρ dr => (F ρ dr).bind fun d dr => if d.frz = true then .ok d dr else .st
theorem BE.ee (h : BE X dra W e F) : EE X dra W e (cFrz F) := ⟨wkE h.pe fun σ H Q ⟨en, O, lf, ρ, dr, S, w⟩ => ⟨en, O, lf, ρ, dr, S, (Wp.bind w).mono (fun d dr' k v H' fp x dw r nd fr => by
  by_cases hd : d.frz = true
  · rw [if_pos hd] at k
    have : fp = [] := r.frz d hd
    subst this
    exact k v H' [] x dw r nd fun a z => nomatch z
  · rw [if_neg hd] at k
    exact k.elim) fun _ _ k => k⟩⟩

/-! ### names, constants -/
def cVar (i : Nat) : CEx := fun ρ dr => match ρ[i]? with
  | some (some d) => .ok d dr
  | _ => .st
def cK (d : D) : CEx := fun _ dr => .ok d dr
theorem be_var (i : Nat) {x : Str} (hN : X.N[i]? = some x := by rfl) (hv : Vis X.env.scope x := by first | exact Or.inl rfl | exact Or.inr (Or.inl rfl) | exact Or.inr (Or.inr rfl)) (hd : (x == ("__debug__" : Str)) = false := by decide)
    (hcd : (x == ("__classdict__" : Str)) = false := by decide) : BE X dra W (.Name x pos) (cVar i) := ⟨wkE (pv i hN hv hd hcd) fun σ H Q ⟨en, O, lf, ρ, dr, S, w⟩ => by
  unfold cVar at w
  obtain ⟨fps, h1, h2, h3, h4⟩ := S.slots
  split at w
  · rename_i d hd
    obtain ⟨v, fp, e1, e2, r⟩ := h4 i d hd
    have mem : ∀ a ∈ fp, a ∈ lf ++ fps.flatten := fun a ha => List.mem_append_right _ (List.mem_flatten.mpr ⟨fp, List.mem_of_getElem? e2, ha⟩)
    refine ⟨v, e1, w v H fp Ext.refl S.drw (r.anti fun a ha => ha.elim id fun m => (h3 a (mem a m)).1) ?_ fun a ha => (h3 a (mem a ha)).2⟩
    have s1 : List.Sublist fp fps.flatten := List.sublist_flatten_of_mem (List.mem_of_getElem? e2)
    exact h2.sublist (s1.trans (List.sublist_append_right ..))
  · exact w.elim⟩
theorem ee_of {v : V} {d : D} (h : PE X e (tC v)) (r : ∀ O H, Rp (dc X dra) O H v d []) : EE X dra W e (cK d) := ⟨wkE h fun σ H Q ⟨en, O, lf, ρ, dr, S, w⟩ => by
  have w : OkE (dc X dra) O H Q d dr := w
  exact w.atom S.drw (r O H)⟩
theorem ee_int {i j pos} : EE X dra W (.Constant (.int i) j pos) (cK (.int i)) := ee_of pe_int fun _ _ => .int _
theorem ee_bl {i j pos} : EE X dra W (.Constant (.bool i) j pos) (cK (.bl i)) := ee_of pe_bl fun _ _ => .bl _
theorem ee_str {i j pos} : EE X dra W (.Constant (.str i) j pos) (cK (.str i)) := ee_of pe_str fun _ _ => .str _
theorem ee_non {j pos} : EE X dra W (.Constant .none j pos) (cK .non) := ee_of pe_non fun _ _ => .non
/-- a name of the top: a constant, a def -/
theorem ee_glob {x : Str} {v : V} {u : Value} {d : D} {pos : Pos} (hm : X.mg x = some u) (hr : RelV v u) (r : ∀ c : DC, c.K = X.K → c.mg = X.mg → ∀ O H, Rp c O H v d []) (hg : Gl X x := by rfl) (hd : (x == ("__debug__" : Str)) = false := by decide) : EE X dra W (.Name x pos) (cK d) :=
  ee_of (pe_glob hg hm hr hd) fun O H => r _ rfl rfl O H

/-! ### operators -/
/-- what an operator of two values comes to -/
def OpD (X : Cx) (dra : Option (Addr × Addr)) (r : R2) (g : D → D → Option D) : Prop :=
  ∀ (O : Addr → Prop) (H : Hp) (x y : V) (d1 d2 z : D) (fp fq : List Addr) (dr : Dr) (Q : VK), Rp (dc X dra) O H x d1 fp → Rp (dc X dra) O H y d2 fq → g d1 d2 = some z → (∀ a, O a → H a ≠ none) → DrOk (dc X dra) dr H → OkE (dc X dra) O H Q z dr → r x y H Q
def cBin (g : D → D → Option D) (F1 F2 : CEx) : CEx := fun ρ dr => (F1 ρ dr).bind fun x dr => (F2 ρ dr).bind fun y dr => R.opt (g x y) dr
/-- two seen, one behind the other -/
theorem two {c : DC} {en : En} {O : Addr → Prop} {lf : List Addr} {ρ : Rho} {dr : Dr} {σ : L2.St} {H : Hp} {K : V → V → Hp → Prop} {ok : D → D → Dr → Prop} (S : StOk c en O lf ρ dr σ H)
    (w : Wp (F1 ρ dr) (fun x dr => Wp (F2 ρ dr) (fun y dr => ok x y dr) (ExW c W σ H)) (ExW c W σ H))
    (k : ∀ d1 d2 dr' H' u v fp fq, ok d1 d2 dr' → Ext c H H' → (∀ a, O a → H' a ≠ none) → DrOk c dr' H' → Rp c (orO O fp) H' u d1 fp → Rp c (orO O fq) H' v d2 fq → K u v H') :
    tB c W F1 σ H fun u H1 => tB c W F2 σ H1 fun v H2 => K u v H2 := by
  refine ⟨en, O, lf, ρ, dr, S, w.mono (fun d1 dr1 w1 u H1 fp x1 dw1 r1 nd1 fr1 => ?_) fun _ _ k => k⟩
  refine ⟨en, O, lf, ρ, dr1, S.step x1 dw1, w1.mono (fun d2 dr2 w2 v H2 fq x2 dw2 r2 nd2 fr2 => ?_) fun _ _ k => k.later x1⟩
  exact k d1 d2 dr2 H2 u v fp fq w2 (x1.trans x2) (fun a ha => (x1.trans x2).trk a (S.trk a ha)) dw2 (r1.later S x2 fr1) r2
theorem ee_bin {op : Operator} {r : R2} {g : D → D → Option D} (ho : OpR X (binaryOp op) r) (hg : OpD X dra r g) (ha : BE X dra W a F1) (hb : BE X dra W b F2) : EE X dra W (.BinOp a op b pos) (cBin g F1 F2) :=
  ⟨wkE (pe_op ho ha.pe hb.pe) fun σ H Q ⟨en, O, lf, ρ, dr, S, w⟩ => two S (w.bind.mono (fun _ _ k => k.bind) fun _ _ k => k) fun d1 d2 dr' H' u v fp fq w x tr dw r1 r2 => by
    obtain ⟨z, e, k⟩ := w.opt
    exact hg O H' u v d1 d2 z fp fq dr' Q r1.orl r2.orl e tr dw (k.later x)⟩
theorem ee_cmp {op : CmpOp} {r : R2} {g : D → D → Option D} (ho : OpR X (compareOp op) r) (hg : OpD X dra r g) (ha : BE X dra W a F1) (hb : BE X dra W b F2) (hm : behindInMarks op b = false) : EE X dra W (.Compare a [op] [b] pos) (cBin g F1 F2) :=
  ⟨wkE (pe_cmpR ho ha.pe hb.pe hm) fun σ H Q ⟨en, O, lf, ρ, dr, S, w⟩ => two S (w.bind.mono (fun _ _ k => k.bind) fun _ _ k => k) fun d1 d2 dr' H' u v fp fq w x tr dw r1 r2 => by
    obtain ⟨z, e, k⟩ := w.opt
    exact hg O H' u v d1 d2 z fp fq dr' Q r1.orl r2.orl e tr dw (k.later x)⟩
end
end DL
/-! DL3 -/
/-! DL3: the operators, one by one. -/
namespace DL
open PySem PySem.Spec PyProof.Rows L2

section
variable {X : Cx} {dra : Option (Addr × Addr)}
/-! ### whole numbers -/
def gI (C : Int → Int → Bool) (f : Int → Int → Int) : D → D → Option D
  | .int a, .int b => if C a b = true then some (.int (f a b)) else none
  | _, _ => none
theorem opd_rI {C : Int → Int → Bool} {P : Int → Int → Prop} {f : Int → Int → Int} (h : ∀ a b, C a b = true → P a b) : OpD X dra (rI P fun i j => .int (f i j)) (gI C f) := by
  intro O H x y d1 d2 z fp fq dr Q r1 r2 e tr dw k
  cases d1 with
  | int a =>
    cases d2 with
    | int b =>
      cases r1; cases r2
      have e : (if C a b = true then some (D.int (f a b)) else none) = some z := e
      by_cases hc : C a b = true
      · rw [if_pos hc] at e
        cases e
        exact ⟨a, b, rfl, rfl, h a b hc, k.atom dw (.int _)⟩
      · rw [if_neg hc] at e; cases e
    | _ => cases e
  | _ => cases e
theorem opd_rI0 {f : Int → Int → Int} : OpD X dra (rI0 fun i j => .int (f i j)) (gI (fun _ _ => true) f) := by
  intro O H x y d1 d2 z fp fq dr Q r1 r2 e tr dw k
  obtain ⟨a, b, e1, e2, _, q⟩ := opd_rI (X := X) (P := fun _ _ => True) (fun _ _ _ => trivial) O H x y d1 d2 z fp fq dr Q r1 r2 e tr dw k
  exact ⟨a, b, e1, e2, q⟩
def cMul (a b : Int) : Bool := decide (a.natAbs.log2 + b.natAbs.log2 < 1000000)
def cDiv (_ b : Int) : Bool := decide (b ≠ 0) && decide (b.natAbs.log2 < 9000)
def cNz (_ b : Int) : Bool := decide (b ≠ 0)
def cPow (i j : Int) : Bool := decide (0 ≤ j) && decide (j ≤ 1000000) && decide (i.natAbs < 2 ^ 64)
theorem op_fdivA : OpR X (binaryOp .FloorDiv) (rI (fun _ j => j ≠ 0 ∧ j.natAbs.log2 < 9000) fun i j => .int (i.fdiv j)) := opI fun i j _ _ _ _ _ hc q => floordiv_int hc.1 q (.inl (PyProof.noPylong_of_log2 hc.2))
theorem opd_add0 : OpD X dra (rI0 fun i j => .int (i + j)) (gI (fun _ _ => true) (· + ·)) := opd_rI0
theorem opd_sub : OpD X dra (rI0 fun i j => .int (i - j)) (gI (fun _ _ => true) (· - ·)) := opd_rI0
theorem opd_mulI : OpD X dra (rI CMulW fun i j => .int (i * j)) (gI cMul (· * ·)) := opd_rI fun a b h => by
  have : a.natAbs.log2 + b.natAbs.log2 < 1000000 := of_decide_eq_true h
  exact this
theorem opd_fdiv : OpD X dra (rI (fun _ j => j ≠ 0 ∧ j.natAbs.log2 < 9000) fun i j => .int (i.fdiv j)) (gI cDiv Int.fdiv) := opd_rI fun _ _ h => by
  unfold cDiv at h
  rw [Bool.and_eq_true] at h
  exact ⟨of_decide_eq_true h.1, of_decide_eq_true h.2⟩
theorem opd_mod : OpD X dra (rI (fun _ j => j ≠ 0) fun i j => .int (i.fmod j)) (gI cNz Int.fmod) := opd_rI fun _ _ h => of_decide_eq_true h
theorem opd_pow : OpD X dra (rI CPow fun i j => .int (i ^ j.toNat)) (gI cPow fun i j => i ^ j.toNat) := opd_rI fun _ _ h => by
  unfold cPow at h
  rw [Bool.and_eq_true, Bool.and_eq_true] at h
  exact ⟨of_decide_eq_true h.1.1, of_decide_eq_true h.1.2, of_decide_eq_true h.2⟩
def gC (p : Int → Int → Bool) : D → D → Option D
  | .int a, .int b => some (.bl (p a b))
  | _, _ => none
theorem opd_cmp {p : Int → Int → Bool} : OpD X dra (rI0 fun i j => .bl (p i j)) (gC p) := by
  intro O H x y d1 d2 z fp fq dr Q r1 r2 e tr dw k
  cases d1 with
  | int a =>
    cases d2 with
    | int b =>
      cases r1; cases r2
      cases e
      exact ⟨a, b, rfl, rfl, k.atom dw (.bl _)⟩
    | _ => cases e
  | _ => cases e

/-! ### + of numbers, texts, tuples, lists -/
def gAdd : D → D → Option D
  | .int a, .int b => some (.int (a + b))
  | .str a, .str b => if a.length + b.length ≤ sizeLine then some (.str (a ++ b)) else none
  | .tup xs, .tup ys => if xs.length + ys.length ≤ sizeLine then some (.tup (xs ++ ys)) else none
  | .lst _ xs, .lst _ ys => if xs.length + ys.length ≤ sizeLine && xs.all D.frz && ys.all D.frz then some (.lst true (xs ++ ys)) else none
  | _, _ => none
def rAddA (K : PySem.W.Frag) : R2 := fun x y H Q => (∃ i j, x = .int i ∧ y = .int j ∧ Q (.int (i + j)) H) ∨ (∃ i j, x = .str i ∧ y = .str j ∧ i.length + j.length ≤ sizeLine ∧ Q (.str (i ++ j)) H) ∨ rCatA K x y H Q ∨ rCat x y H Q
theorem op_addA : OpR X (binaryOp .Add) (rAddA X.K) := OpR.or op_add (OpR.or op_add_str (OpR.or op_catA op_cat))
theorem Rps.allfrz {c : DC} {O : Addr → Prop} {H : Hp} : ∀ {ds : List D} {vs : List V} {fp : List Addr}, Rps c O H vs ds fp → ds.all D.frz = true → Rps c O H vs ds []
  | _, _, _, .nil, _ => .nil
  | d :: ds, _, _, .cons r t, h => by
    rw [List.all_cons, Bool.and_eq_true] at h
    have e := r.frz d h.1
    subst e
    exact .cons r (t.allfrz h.2)
theorem Rps.append0 {c : DC} {O : Addr → Prop} {H : Hp} {ds es : List D} {vs us : List V} (r : Rps c O H vs ds []) (s : Rps c O H us es []) : Rps c O H (vs ++ us) (ds ++ es) [] := r.append s
theorem rp_sqt {c : DC} {O : Addr → Prop} {H : Hp} {v : V} {ds : List D} {fp : List Addr} (r : Rp c O H v (.tup ds) fp) : ∃ a vs, v = .ref a ∧ SqT c.K H a vs ∧ Rps c O H vs ds [] ∧ (H a = some (.tup vs) ∧ ¬ O a ∨ KT c.K a vs) := by
  cases r with
  | tup e n r => exact ⟨_, _, rfl, .inl (.inl e), r, .inl ⟨e, n⟩⟩
  | tupK e r => exact ⟨_, _, rfl, .inr e, r, .inr e⟩
theorem rp_lst {c : DC} {O : Addr → Prop} {H : Hp} {v : V} {o : Bool} {ds : List D} {fp : List Addr} (r : Rp c O H v (.lst o ds) fp) : ∃ a vs fq, v = .ref a ∧ H a = some (.lst vs) ∧ Rps c O H vs ds fq ∧ List.Sublist fq fp := by
  cases r with
  | lst e n r => exact ⟨_, _, _, rfl, e, r, List.nil_sublist _⟩
  | own e r => exact ⟨_, _, _, rfl, e, r, List.sublist_cons_self ..⟩
theorem Rp.tupN {c : DC} {O : Addr → Prop} {H : Hp} {p : Addr} {vs : List V} {ds : List D} (hn : H p = none) (ho : ¬ O p) (r : Rps c O H vs ds []) : Rp c O (upd H p (.tup vs)) (.ref p) (.tup ds) [] :=
  .tup upd_same ho (r.same (same_upd hn))
/-- a new list of frozen things -/
theorem Rps.fresh {c : DC} {O : Addr → Prop} {H H' : Hp} {p : Addr} {vs : List V} {ds : List D} (hn : H p = none) (s : Same H H') (r : Rps c O H vs ds []) : Rps c (orO O [p]) H' vs ds [] :=
  Rps.mono ds r (fun a o e _ => s a o e) fun a o e n z => z.elim n fun m => by
    have : a = p := by simpa using m
    rw [this, hn] at e; cases e
theorem Rp.lstN {c : DC} {O : Addr → Prop} {H : Hp} {p : Addr} {vs : List V} {ds : List D} (hn : H p = none) (r : Rps c O H vs ds []) : Rp c (orO O [p]) (upd H p (.lst vs)) (.ref p) (.lst true ds) [p] :=
  .own upd_same (r.fresh hn (same_upd hn))
theorem OkE.newL {c : DC} {O : Addr → Prop} {H : Hp} {Q : VK} {dr : Dr} {p : Addr} {vs : List V} {ds : List D} (k : OkE c O H Q (.lst true ds) dr) (dw : DrOk c dr H) (hn : H p = none) (r : Rps c O H vs ds []) : Q (.ref p) (upd H p (.lst vs)) :=
  k.newO dw (same_upd hn) (Rp.lstN hn r) (by simp) fun a ha => by
    have : a = p := by simpa using ha
    rw [this]; exact hn
theorem OkE.newT {c : DC} {O : Addr → Prop} {H : Hp} {Q : VK} {dr : Dr} {p : Addr} {vs : List V} {ds : List D} (k : OkE c O H Q (.tup ds) dr) (dw : DrOk c dr H) (tr : ∀ a, O a → H a ≠ none) (hn : H p = none) (r : Rps c O H vs ds []) : Q (.ref p) (upd H p (.tup vs)) :=
  k.new dw (same_upd hn) (Rp.tupN hn (fun z => tr p z hn) r)
theorem opd_add : OpD X dra (rAddA X.K) gAdd := by
  intro O H x y d1 d2 z fp fq dr Q r1 r2 e tr dw k
  cases d1 with
  | int a =>
    cases d2 with
    | int b =>
      cases r1; cases r2
      cases e
      exact .inl ⟨a, b, rfl, rfl, k.atom dw (.int _)⟩
    | _ => cases e
  | str a =>
    cases d2 with
    | str b =>
      cases r1; cases r2
      have e : (if a.length + b.length ≤ sizeLine then some (D.str (a ++ b)) else none) = some z := e
      by_cases hc : a.length + b.length ≤ sizeLine
      · rw [if_pos hc] at e
        cases e
        exact .inr (.inl ⟨a, b, rfl, rfl, hc, k.atom dw (.str _)⟩)
      · rw [if_neg hc] at e; cases e
    | _ => cases e
  | tup xs =>
    cases d2 with
    | tup ys =>
      have e : (if xs.length + ys.length ≤ sizeLine then some (D.tup (xs ++ ys)) else none) = some z := e
      by_cases hc : xs.length + ys.length ≤ sizeLine
      · rw [if_pos hc] at e
        cases e
        have f1 := r1
        have f2 := r2
        obtain ⟨a, vs, rfl, h1, s1, _⟩ := rp_sqt r1
        obtain ⟨b, us, rfl, h2, s2, _⟩ := rp_sqt r2
        refine .inr (.inr (.inl ⟨a, b, vs, us, rfl, rfl, h1, h2, by rw [s1.len, s2.len]; exact hc, fun z => ?_, fun _ z => ?_, fun _ _ p hp => k.newT dw tr hp (s1.append0 s2)⟩))
        · subst z
          have : xs = [] := List.eq_nil_of_length_eq_zero s1.len.symm
          subst this
          rw [List.nil_append] at k
          have e0 := r2.frz _ rfl
          subst e0
          exact k.atom dw r2
        · subst z
          have : ys = [] := List.eq_nil_of_length_eq_zero s2.len.symm
          subst this
          rw [List.append_nil] at k
          have e0 := r1.frz _ rfl
          subst e0
          exact k.atom dw r1
      · rw [if_neg hc] at e; cases e
    | _ => cases e
  | lst o xs =>
    cases d2 with
    | lst o2 ys =>
      have e : (if (xs.length + ys.length ≤ sizeLine && xs.all D.frz && ys.all D.frz) = true then some (D.lst true (xs ++ ys)) else none) = some z := e
      by_cases hc : (xs.length + ys.length ≤ sizeLine && xs.all D.frz && ys.all D.frz) = true
      · rw [if_pos hc] at e
        cases e
        simp only [Bool.and_eq_true, decide_eq_true_eq] at hc
        obtain ⟨a, vs, _, rfl, h1, s1, _⟩ := rp_lst r1
        obtain ⟨b, us, _, rfl, h2, s2, _⟩ := rp_lst r2
        exact .inr (.inr (.inr ⟨a, b, vs, us, rfl, rfl, h1, h2, by rw [s1.len, s2.len]; exact hc.1.1, fun p hp => k.newL dw hp ((s1.allfrz hc.1.2).append0 (s2.allfrz hc.2))⟩))
      · rw [if_neg hc] at e; cases e
    | _ => cases e
  | _ => cases e

/-! ### * of numbers, a list, a tuple times a number -/
section
open PySem.MeetsSeq PySem.MeetsSeq2 PySem.MeetsSeq3 PySem.AutoSeq1
theorem tuple_mulS (l : Addr) (items : Array Value) (n : Nat) (dd : Option Addr) (sl : Array (Option Value)) (x : Int) (u : Tok) (c0 : (decide (x < -(2 ^ 63)) || decide (x ≥ 2 ^ 63)) = false) (c1 : (items.isEmpty || x == 1) = true) :
    Meets (Builtin.«tuple.__mul__» ⟨[.ref l, .int x u], []⟩) (fun _ R s => s.heap.get? l = some { cls := .type "tuple", dict := dd, data := .seq items n, slots := sl } ∧
      R (.ok (.ret (Value.ref l))) s) :=
  .of_wp fun prog w A R s h => by
    obtain ⟨hp, g, d, tk, os⟩ := s
    obtain ⟨hl, h⟩ := h
    have f1 := AutoSeq1.idx_int
    wp_walk using wpAny_loadPart' hl
    repeat (first
      | (refine wpAny_ite_false (decide_eq_false (by rw [c0]; exact Bool.false_ne_true)) ?_; wp_walk using wpAny_loadPart' hl)
      | (refine wpAny_ite_true (decide_eq_true c1) ?_; wp_walk using wpAny_loadPart' hl))
    exact ⟨_, rfl, h⟩
theorem tuple_mul0 (l : Addr) (items : Array Value) (n : Nat) (dd : Option Addr) (sl : Array (Option Value)) (x : Int) (u : Tok) (c0 : (decide (x < -(2 ^ 63)) || decide (x ≥ 2 ^ 63)) = false) (c1 : (items.isEmpty || x == 1) = false) (c2 : (decide (x ≤ 0) || items.isEmpty) = true) :
    Meets (Builtin.«tuple.__mul__» ⟨[.ref l, .int x u], []⟩) (fun _ R s => s.heap.get? l = some { cls := .type "tuple", dict := dd, data := .seq items n, slots := sl } ∧
      R (.ok (.ret (Value.ref s.heap.objs.size))) { s with heap := s.heap.push { cls := Value.type "tuple", data := Data.seq #[] }, toks := s.toks }) :=
  .of_wp fun prog w A R s h => by
    obtain ⟨hp, g, d, tk, os⟩ := s
    obtain ⟨hl, h⟩ := h
    have f1 := AutoSeq1.idx_int
    wp_walk using wpAny_loadPart' hl
    repeat (first
      | (refine wpAny_ite_false (decide_eq_false (by rw [c0]; exact Bool.false_ne_true)) ?_; wp_walk using wpAny_loadPart' hl)
      | (refine wpAny_ite_false (decide_eq_false (by rw [c1]; exact Bool.false_ne_true)) ?_; wp_walk using wpAny_loadPart' hl)
      | (refine wpAny_ite_true (decide_eq_true c2) ?_; wp_walk using wpAny_loadPart' hl))
    exact ⟨_, rfl, h⟩
end
/-- a tuple times a number that is nought or less, or 1, or an empty one -/
def rRepT1 (K : PySem.W.Frag) : R2 := fun x y H Q => ∃ l k xs, x = .ref l ∧ y = .int k ∧ SqT K H l xs ∧ -(2 ^ 63) ≤ k ∧ k < 2 ^ 63 ∧ ((k = 1 ∨ xs = []) → Q (.ref l) H) ∧ (k ≤ 0 → xs ≠ [] → ∀ p, H p = none → Q (.ref p) (upd H p (.tup []))) ∧ (k ≤ 1 ∨ xs = [])
theorem op_repT1 : OpR X (binaryOp .Mult) (rRepT1 X.K) := by
  intro pins s σ H x y v u Q I rx ry h
  obtain ⟨l, k, xs, rfl, rfl, hT, h1, h2, q1, q0, hk⟩ := h
  cases rx
  obtain ⟨t, rfl⟩ := ry
  obtain ⟨its, r, ⟨⟨cls, dd, data, sl⟩, ho, hc, n, hd⟩, hs⟩ := I.tuple hT
  simp only at hc hd
  subst hc hd
  have hle : its.length = xs.length := r.length.symm
  have c0 : (decide (k < -(2 ^ 63)) || decide (k ≥ 2 ^ 63)) = false := by
    rw [decide_eq_false (by omega), decide_eq_false (by omega)] <;> rfl
  have hnil : its.toArray.isEmpty = true ↔ xs = [] := by
    constructor
    · intro e
      cases its with
      | nil => exact List.eq_nil_of_length_eq_zero hle.symm
      | cons a b => exact absurd e (by simp)
    · intro e
      subst e
      have : its = [] := List.eq_nil_of_length_eq_zero hle
      subst this
      rfl
  by_cases c1 : (its.toArray.isEmpty || k == 1) = true
  · refine wpAny_binaryOp_repeat_ref (T := "tuple") (U := "int") (by decide) ⟨_, ho, rfl⟩ (fun s' => typeIs_int s' k t) noFill_tuple_mul F.fills_int_mul F.slot_int_rmul repeat_tuple F.slot_int_index.lookup
      (call_meets F.slot_int_rmul (typeIs_int s k t) F.entry_int_rmul (F.args_int_rmul_2 _ _) (int_rmul_tuple k t l its.toArray n dd sl)
        ⟨ho, rfl, ⟨_, ho, rfl⟩, call_meets F.slot_tuple_mul ⟨_, ho, rfl⟩ F.entry_tuple_mul (F.args_tuple_mul_2 _ _) (tuple_mulS l its.toArray n dd sl k t c0 c1) ⟨ho, ?_⟩⟩)
    refine ⟨.ref l, H, I, rfl, q1 ?_⟩
    rcases Bool.or_eq_true_iff.mp c1 with e | e
    · exact .inr (hnil.mp e)
    · exact .inl (by simpa using e)
  · have c1' : (its.toArray.isEmpty || k == 1) = false := by simpa using c1
    rw [Bool.or_eq_false_iff] at c1'
    have ne : xs ≠ [] := fun e => by
      have := hnil.mpr e
      rw [c1'.1] at this; cases this
    have k0 : k ≤ 0 := by
      have : k ≠ 1 := by simpa using c1'.2
      rcases hk with z | z
      · omega
      · exact absurd z ne
    have c2 : (decide (k ≤ 0) || its.toArray.isEmpty) = true := by rw [decide_eq_true k0]; rfl
    refine wpAny_binaryOp_repeat_ref (T := "tuple") (U := "int") (by decide) ⟨_, ho, rfl⟩ (fun s' => typeIs_int s' k t) noFill_tuple_mul F.fills_int_mul F.slot_int_rmul repeat_tuple F.slot_int_index.lookup
      (call_meets F.slot_int_rmul (typeIs_int s k t) F.entry_int_rmul (F.args_int_rmul_2 _ _) (int_rmul_tuple k t l its.toArray n dd sl)
        ⟨ho, rfl, ⟨_, ho, rfl⟩, call_meets F.slot_tuple_mul ⟨_, ho, rfl⟩ F.entry_tuple_mul (F.args_tuple_mul_2 _ _) (tuple_mul0 l its.toArray n dd sl k t c0 (by simpa using c1) c2) ⟨ho, ?_⟩⟩)
    refine ⟨.ref s.heap.objs.size, _, I.laid (t' := s.toks) (o := .tup []) (fun b ob q => Heap.get?_push_of_some _ q) (Nat.le_refl _) ?_, rfl, q0 k0 ne _ (I.hok.fresh (Nat.le_refl _))⟩
    exact ⟨Nat.zero_le _, [], .nil, IsTup.new _ _⟩
def gMul : D → D → Option D
  | .int a, .int b => if cMul a b then some (.int (a * b)) else none
  | .lst _ xs, .int k => if decide (-(2 ^ 63) ≤ k) && decide (k < 2 ^ 63) && decide (xs.length * k.toNat ≤ sizeLine) && xs.all D.frz then some (.lst true (List.replicate k.toNat xs).flatten) else none
  | .tup xs, .int k => if decide (-(2 ^ 63) ≤ k) && decide (k ≤ 1000) && decide (xs.length ≤ 1000) then some (.tup (List.replicate k.toNat xs).flatten) else none
  | _, _ => none
def rMulA (K : PySem.W.Frag) : R2 := fun x y H Q => (∃ i j, x = .int i ∧ y = .int j ∧ CMulW i j ∧ Q (.int (i * j)) H) ∨ rRepT K x y H Q ∨ rRepT1 K x y H Q ∨ rRep x y H Q
theorem op_mulA : OpR X (binaryOp .Mult) (rMulA X.K) := OpR.or op_mulW (OpR.or op_repT (OpR.or op_repT1 op_rep))
theorem Rps.rep {c : DC} {O : Addr → Prop} {H : Hp} {vs : List V} {ds : List D} (r : Rps c O H vs ds []) : ∀ k : Nat, Rps c O H (List.replicate k vs).flatten (List.replicate k ds).flatten []
  | 0 => .nil
  | k + 1 => by
    rw [List.replicate_succ, List.replicate_succ, List.flatten_cons, List.flatten_cons]
    exact r.append (r.rep k)
theorem opd_mul : OpD X dra (rMulA X.K) gMul := by
  intro O H x y d1 d2 z fp fq dr Q r1 r2 e tr dw k
  cases d1 with
  | int a =>
    cases d2 with
    | int b =>
      cases r1; cases r2
      have e : (if cMul a b = true then some (D.int (a * b)) else none) = some z := e
      by_cases hc : cMul a b = true
      · rw [if_pos hc] at e
        cases e
        have h2 : a.natAbs.log2 + b.natAbs.log2 < 1000000 := of_decide_eq_true hc
        exact .inl ⟨a, b, rfl, rfl, h2, k.atom dw (.int _)⟩
      · rw [if_neg hc] at e; cases e
    | _ => cases e
  | tup xs =>
    cases d2 with
    | int j =>
      have e : (if (decide (-(2 ^ 63) ≤ j) && decide (j ≤ 1000) && decide (xs.length ≤ 1000)) = true then some (D.tup (List.replicate j.toNat xs).flatten) else none) = some z := e
      by_cases hc : (decide (-(2 ^ 63) ≤ j) && decide (j ≤ 1000) && decide (xs.length ≤ 1000)) = true
      · rw [if_pos hc] at e
        cases e
        simp only [Bool.and_eq_true, decide_eq_true_eq] at hc
        cases r2
        obtain ⟨a, vs, rfl, h1, s1, _⟩ := rp_sqt r1
        have hv : vs = [] ↔ xs = [] := by
          constructor
          · rintro rfl; exact List.eq_nil_of_length_eq_zero s1.len.symm
          · rintro rfl; exact List.eq_nil_of_length_eq_zero s1.len
        by_cases hj : 2 ≤ j ∧ vs ≠ []
        · exact .inr (.inl ⟨a, j, vs, rfl, rfl, h1, hj.2, hj.1, hc.1.2, by rw [s1.len]; exact hc.2, fun p hp => k.newT dw tr hp (s1.rep _)⟩)
        · refine .inr (.inr (.inl ⟨a, j, vs, rfl, rfl, h1, hc.1.1, by omega, fun z => ?_, fun j0 ne p hp => ?_, ?_⟩))
          · have e0 := r1.frz _ rfl
            subst e0
            have : (List.replicate j.toNat xs).flatten = xs := by
              rcases z with rfl | z
              · simp
              · have := hv.mp z
                subst this
                simp
            rw [this] at k
            exact k.atom dw r1
          · have : (List.replicate j.toNat xs).flatten = [] := by
              have : j.toNat = 0 := by omega
              rw [this]; rfl
            rw [this] at k
            exact k.newT dw tr hp .nil
          · by_cases h2 : 2 ≤ j
            · by_cases h3 : vs = []
              · exact .inr h3
              · exact absurd ⟨h2, h3⟩ hj
            · exact .inl (by omega)
      · rw [if_neg hc] at e; cases e
    | _ => cases e
  | lst o xs =>
    cases d2 with
    | int j =>
      have e : (if (decide (-(2 ^ 63) ≤ j) && decide (j < 2 ^ 63) && decide (xs.length * j.toNat ≤ sizeLine) && xs.all D.frz) = true then some (D.lst true (List.replicate j.toNat xs).flatten) else none) = some z := e
      by_cases hc : (decide (-(2 ^ 63) ≤ j) && decide (j < 2 ^ 63) && decide (xs.length * j.toNat ≤ sizeLine) && xs.all D.frz) = true
      · rw [if_pos hc] at e
        cases e
        simp only [Bool.and_eq_true, decide_eq_true_eq] at hc
        cases r2
        obtain ⟨a, vs, _, rfl, h1, s1, _⟩ := rp_lst r1
        exact .inr (.inr (.inr ⟨a, j, vs, rfl, rfl, h1, hc.1.1.1, hc.1.1.2, by rw [s1.len]; exact hc.1.2, fun p hp => k.newL dw hp ((s1.allfrz hc.2).rep _)⟩))
      · rw [if_neg hc] at e; cases e
    | _ => cases e
  | _ => cases e
end
end DL
/-! DL4 -/
/-! DL4: comparisons, tests, and, or, not, chosen values. -/
namespace DL
open PySem PySem.Spec PyProof.Rows L2

/-! ### == of data -/
mutual
/-- data that == takes: no def, no draws; not too deep -/
def D.pl : D → Bool
  | .fn _ => false
  | .dr => false
  | .tup xs => D.pls xs
  | .lst _ xs => D.pls xs
  | .str x => PyData.strOk x
  | _ => true
def D.pls : List D → Bool
  | [] => true
  | x :: xs => D.pl x && D.pls xs
end
mutual
def D.dep : D → Nat
  | .tup xs => D.deps xs + 1
  | .lst _ xs => D.deps xs + 1
  | _ => 0
def D.deps : List D → Nat
  | [] => 0
  | x :: xs => max (D.dep x) (D.deps xs)
end
mutual
def D.py : D → PyData
  | .non => .none | .bl b => .bool b | .int i => .int i | .str x => .str x | .fn _ => .none | .dr => .none
  | .tup xs => .tuple (D.pys xs)
  | .lst _ xs => .list (D.pys xs)
def D.pys : List D → List PyData
  | [] => []
  | x :: xs => D.py x :: D.pys xs
end
mutual
theorem py_lay : ∀ d : D, d.pl = true → PyData.canLay0 d.py = true
  | .non, _ => rfl | .bl _, _ => rfl | .int _, _ => rfl | .str _, h => h | .fn _, _ => rfl | .dr, _ => rfl
  | .tup xs, h => by simpa [D.py, PyData.canLay0] using pys_lay xs h
  | .lst _ xs, h => by simpa [D.py, PyData.canLay0] using pys_lay xs h
theorem pys_lay : ∀ ds : List D, D.pls ds = true → PyData.canLayAll0 (D.pys ds) = true
  | [], _ => rfl
  | x :: xs, h => by
    have h' : (x.pl && D.pls xs) = true := h
    rw [Bool.and_eq_true] at h'
    simp [D.pys, PyData.canLayAll0, py_lay x h'.1, pys_lay xs h'.2]
end
mutual
theorem py_dep : ∀ d : D, PyData.depth d.py = d.dep
  | .non => rfl | .bl _ => rfl | .int _ => rfl | .str _ => rfl | .fn _ => rfl | .dr => rfl
  | .tup xs => by simp [D.py, D.dep, PyData.depth, pys_dep xs]
  | .lst _ xs => by simp [D.py, D.dep, PyData.depth, pys_dep xs]
theorem pys_dep : ∀ ds : List D, PyData.depthAll (D.pys ds) = D.deps ds
  | [] => rfl
  | x :: xs => by simp [D.pys, D.deps, PyData.depthAll, py_dep x, pys_dep xs]
end
mutual
theorem py_eqv : ∀ d e : D, d.pl = true → e.pl = true → PyData.eqv d.py e.py = d.eqv e
  | .non, e, _, h => by cases e <;> first | rfl | cases h
  | .bl _, e, _, h => by cases e <;> first | rfl | cases h
  | .int _, e, _, h => by cases e <;> first | rfl | cases h
  | .str _, e, _, h => by cases e <;> first | rfl | (cases h; done)
  | .fn _, _, h, _ => by cases h
  | .dr, _, h, _ => by cases h
  | .tup xs, e, g, h => by
    cases e with
    | tup ys => exact pys_eqv xs ys g h
    | fn _ => cases h
    | dr => cases h
    | _ => rfl
  | .lst _ xs, e, g, h => by
    cases e with
    | lst _ ys => exact pys_eqv xs ys g h
    | fn _ => cases h
    | dr => cases h
    | _ => rfl
theorem pys_eqv : ∀ ds es : List D, D.pls ds = true → D.pls es = true → PyData.eqvAll (D.pys ds) (D.pys es) = D.eqvs ds es
  | [], [], _, _ => rfl
  | [], _ :: _, _, _ => rfl
  | _ :: _, [], _, _ => rfl
  | x :: xs, y :: ys, g, h => by
    have g' : (x.pl && D.pls xs) = true := g
    have h' : (y.pl && D.pls ys) = true := h
    rw [Bool.and_eq_true] at g' h'
    simp [D.pys, PyData.eqvAll, D.eqvs, py_eqv x y g'.1 h'.1, pys_eqv xs ys g'.2 h'.2]
end
mutual
theorem rp_dp {c : DC} {O : Addr → Prop} {H : Hp} : ∀ (d : D) {v : V} {fp : List Addr}, Rp c O H v d fp → d.pl = true → Dp c.K H v d.py
  | .non, _, _, h, _ => by cases h; exact .non
  | .bl _, _, _, h, _ => by cases h; exact .bl _
  | .int _, _, _, h, _ => by cases h; exact .int _
  | .str _, _, _, h, _ => by cases h; exact .str _
  | .fn _, _, _, _, h => by cases h
  | .dr, _, _, _, h => by cases h
  | .tup ds, _, _, h, p => by
    cases h with
    | tup e n r => exact .tup (.inl (.inl e)) (rps_dp ds r p)
    | tupK e r => exact .tup (.inr e) (rps_dp ds r p)
  | .lst _ ds, _, _, h, p => by
    cases h with
    | lst e n r => exact .lst (.inl (.inl e)) (rps_dp ds r p)
    | own e r => exact .lst (.inl (.inl e)) (rps_dp ds r p)
theorem rps_dp {c : DC} {O : Addr → Prop} {H : Hp} : ∀ (ds : List D) {vs : List V} {fp : List Addr}, Rps c O H vs ds fp → D.pls ds = true → DpAll c.K H vs (D.pys ds)
  | [], _, _, h, _ => by cases h; exact .nil
  | d :: ds, _, _, h, p => by
    have p' : (d.pl && D.pls ds) = true := p
    rw [Bool.and_eq_true] at p'
    cases h with
    | cons r t => exact .cons (rp_dp d r p'.1) (rps_dp ds t p'.2)
end
theorem py_shaped {d : D} (p : d.pl = true) (h : d.dep ≤ 64) : SeqAt.shaped d.py = true := by
  unfold SeqAt.shaped
  rw [py_lay d p, py_dep, decide_eq_true h]
  rfl
def D.ok (d : D) : Bool := d.pl && decide (d.dep ≤ 64)

section
variable {X : Cx} {dra : Option (Addr × Addr)}
def gEq : D → D → Option D := fun x y => if x.ok && y.ok then some (.bl (x.eqv y)) else none
def gNe : D → D → Option D := fun x y => if x.ok && y.ok then some (.bl (!x.eqv y)) else none
theorem opd_eq : OpD X dra (rEqD X.K) gEq := by
  intro O H x y d1 d2 z fp fq dr Q r1 r2 e tr dw k
  have e : (if (d1.ok && d2.ok) = true then some (D.bl (d1.eqv d2)) else none) = some z := e
  by_cases hc : (d1.ok && d2.ok) = true
  · rw [if_pos hc] at e
    cases e
    simp only [D.ok, Bool.and_eq_true, decide_eq_true_eq] at hc
    refine ⟨d1.py, d2.py, rp_dp d1 r1 hc.1.1, rp_dp d2 r2 hc.2.1, py_shaped hc.1.1 hc.1.2, py_shaped hc.2.1 hc.2.2, ?_⟩
    rw [py_eqv _ _ hc.1.1 hc.2.1]
    exact k.atom dw (.bl _)
  · rw [if_neg hc] at e; cases e
theorem opd_ne : OpD X dra (rNeD X.K) gNe := by
  intro O H x y d1 d2 z fp fq dr Q r1 r2 e tr dw k
  have e : (if (d1.ok && d2.ok) = true then some (D.bl (!d1.eqv d2)) else none) = some z := e
  by_cases hc : (d1.ok && d2.ok) = true
  · rw [if_pos hc] at e
    cases e
    simp only [D.ok, Bool.and_eq_true, decide_eq_true_eq] at hc
    refine ⟨d1.py, d2.py, rp_dp d1 r1 hc.1.1, rp_dp d2 r2 hc.2.1, py_shaped hc.1.1 hc.1.2, py_shaped hc.2.1 hc.2.2, ?_⟩
    rw [py_eqv _ _ hc.1.1 hc.2.1]
    exact k.atom dw (.bl _)
  · rw [if_neg hc] at e; cases e

/-! ### is None; <, <= of numbers and texts -/
def D.isNon : D → Bool
  | .non => true
  | _ => false
def gIsN (neg : Bool) : D → D → Option D
  | x, .non => some (.bl (x.isNon ^^ neg))
  | _, _ => none
theorem rp_non {c : DC} {O : Addr → Prop} {H : Hp} {v : V} {d : D} {fp : List Addr} (r : Rp c O H v d fp) : decide (v = .non) = d.isNon := by
  cases r <;> first | rfl | exact decide_eq_false (fun z => nomatch z)
theorem opd_isN : OpD X dra (fun x y H Q => y = .non ∧ Q (.bl (decide (x = .non))) H) (gIsN false) := by
  intro O H x y d1 d2 z fp fq dr Q r1 r2 e tr dw k
  cases d2 with
  | non =>
    cases r2
    have e : some (D.bl (d1.isNon ^^ false)) = some z := e
    cases e
    refine ⟨rfl, ?_⟩
    rw [rp_non r1, ← Bool.xor_false d1.isNon]
    exact k.atom dw (.bl _)
  | _ => cases d1 <;> cases e
theorem opd_notN : OpD X dra (fun x y H Q => y = .non ∧ Q (.bl (!decide (x = .non))) H) (gIsN true) := by
  intro O H x y d1 d2 z fp fq dr Q r1 r2 e tr dw k
  cases d2 with
  | non =>
    cases r2
    have e : some (D.bl (d1.isNon ^^ true)) = some z := e
    cases e
    refine ⟨rfl, ?_⟩
    rw [rp_non r1, ← Bool.xor_true d1.isNon]
    exact k.atom dw (.bl _)
  | _ => cases d1 <;> cases e
def gCS (p : Int → Int → Bool) (q : List Nat → List Nat → Bool) : D → D → Option D
  | .int a, .int b => some (.bl (p a b))
  | .str a, .str b => some (.bl (q a.cps.toList b.cps.toList))
  | _, _ => none
def rCS (p : Int → Int → Bool) (q : List Nat → List Nat → Bool) : R2 := fun x y H Q => (∃ i j, x = .int i ∧ y = .int j ∧ Q (.bl (p i j)) H) ∨ (∃ i j, x = .str i ∧ y = .str j ∧ Q (.bl (q i.cps.toList j.cps.toList)) H)
theorem opd_cs {p : Int → Int → Bool} {q : List Nat → List Nat → Bool} : OpD X dra (rCS p q) (gCS p q) := by
  intro O H x y d1 d2 z fp fq dr Q r1 r2 e tr dw k
  cases d1 with
  | int a =>
    cases d2 with
    | int b =>
      cases r1; cases r2; cases e
      exact .inl ⟨a, b, rfl, rfl, k.atom dw (.bl _)⟩
    | _ => cases e
  | str a =>
    cases d2 with
    | str b =>
      cases r1; cases r2; cases e
      exact .inr ⟨a, b, rfl, rfl, k.atom dw (.bl _)⟩
    | _ => cases e
  | _ => cases e
abbrev gLt := gCS (fun i j => decide (i < j)) (fun i j => decide (i < j))
abbrev gLe := gCS (fun i j => decide (i ≤ j)) (fun i j => !decide (j < i))
abbrev gGt := gCS (fun i j => decide (j < i)) (fun i j => decide (j < i))
abbrev gGe := gCS (fun i j => decide (j ≤ i)) (fun i j => !decide (i < j))
theorem op_ltA : OpR X (compareOp .Lt) (rCS (fun i j => decide (i < j)) (fun i j => decide (i < j))) := OpR.or op_lt op_lt_str
theorem op_leA : OpR X (compareOp .LtE) (rCS (fun i j => decide (i ≤ j)) (fun i j => !decide (j < i))) := OpR.or op_le op_le_str
theorem op_gtA : OpR X (compareOp .Gt) (rCS (fun i j => decide (j < i)) (fun i j => decide (j < i))) := OpR.or op_gt op_gt_str
theorem op_geA : OpR X (compareOp .GtE) (rCS (fun i j => decide (j ≤ i)) (fun i j => !decide (i < j))) := OpR.or op_ge op_ge_str

/-! ### in, not in -/
def D.flat : D → Bool
  | .non => true | .bl _ => true | .int _ => true | .str _ => true
  | _ => false
def gIn (neg : Bool) : D → D → Option D
  | x, .lst _ ys => if x.ok && (D.lst false ys).ok then some (.bl ((ys.any fun y => y.eqv x) ^^ neg)) else none
  | x, .tup ys => if x.flat && ys.all D.flat then some (.bl ((ys.any fun y => y.eqv x) ^^ neg)) else none
  | .str x, .str y => some (.bl ((!(Builtin.Str.occurrences y x 0 y.length 1).isEmpty) ^^ neg))
  | _, _ => none
def rInA (K : PySem.W.Frag) (neg : Bool) : R2 := fun x y H Q =>
  (∃ d ds, Dp K H x d ∧ Dp K H y (.list ds) ∧ SeqAt.shaped d = true ∧ SeqAt.shaped (.list ds) = true ∧ Q (.bl ((ds.any fun z => PyData.eqv z d) ^^ neg)) H) ∨
  (rIn K neg x y H Q) ∨ (∃ i j, x = .str i ∧ y = .str j ∧ Q (.bl ((!(Builtin.Str.occurrences j i 0 j.length 1).isEmpty) ^^ neg)) H)
theorem op_inA (hu : X.A.units + 65 < cLine) : OpR X (compareOp .In) (rInA X.K false) := by
  intro pins s σ H x y v u Q I rx ry h
  rcases h with ⟨d, ds, h1, h2, h3, h4, q⟩ | h | ⟨i, j, h1, h2, q⟩
  · rw [Bool.xor_false] at q
    exact op_inD hu pins s σ H x y v u Q I rx ry ⟨d, ds, h1, h2, h3, h4, q⟩
  · exact op_in_seq pins s σ H x y v u Q I rx ry h
  · rw [Bool.xor_false] at q
    exact op_in_str pins s σ H x y v u Q I rx ry ⟨i, j, h1, h2, q⟩
theorem op_notInA (hu : X.A.units + 65 < cLine) : OpR X (compareOp .NotIn) (rInA X.K true) := by
  intro pins s σ H x y v u Q I rx ry h
  rcases h with ⟨d, ds, h1, h2, h3, h4, q⟩ | h | ⟨i, j, h1, h2, q⟩
  · rw [Bool.xor_true] at q
    exact op_notInD hu pins s σ H x y v u Q I rx ry ⟨d, ds, h1, h2, h3, h4, q⟩
  · exact op_notIn_seq pins s σ H x y v u Q I rx ry h
  · rw [Bool.xor_true] at q
    exact L2.op_notIn_str pins s σ H x y v u Q I rx ry ⟨i, j, h1, h2, q⟩
theorem flat_v {c : DC} {O : Addr → Prop} {H : Hp} {v : V} {d : D} {fp : List Addr} (r : Rp c O H v d fp) (h : d.flat = true) : flatV v = true := by
  cases r <;> first | rfl | cases h
theorem flat_eq {c : DC} {O : Addr → Prop} {H : Hp} {v w : V} {d e : D} {fp fq : List Addr} (r : Rp c O H v d fp) (s : Rp c O H w e fq) (h : d.flat = true) (h' : e.flat = true) : eqV v w = d.eqv e := by
  cases r <;> first | (cases h; done) | (cases s <;> first | rfl | (cases h'; done))
theorem flats {c : DC} {O : Addr → Prop} {H : Hp} {w : V} {e : D} {fq : List Addr} (s : Rp c O H w e fq) (h' : e.flat = true) : ∀ {ds : List D} {vs : List V} {fp : List Addr}, Rps c O H vs ds fp → ds.all D.flat = true → vs.all flatV = true ∧ (vs.any fun y => eqV y w) = ds.any fun y => y.eqv e
  | _, _, _, .nil, _ => ⟨rfl, rfl⟩
  | _, _, _, .cons r t, h => by
    rw [List.all_cons, Bool.and_eq_true] at h
    obtain ⟨i1, i2⟩ := flats s h' t h.2
    refine ⟨by rw [List.all_cons, flat_v r h.1, i1]; rfl, ?_⟩
    rw [List.any_cons, List.any_cons, i2, flat_eq r s h.1 h']
theorem any_pys : ∀ (ds : List D) (x : D), D.pls ds = true → x.pl = true → ((D.pys ds).any fun z => PyData.eqv z x.py) = ds.any fun y => y.eqv x
  | [], _, _, _ => rfl
  | d :: ds, x, h, hx => by
    have h' : (d.pl && D.pls ds) = true := h
    rw [Bool.and_eq_true] at h'
    show (PyData.eqv d.py x.py || (D.pys ds).any fun z => PyData.eqv z x.py) = (d.eqv x || ds.any fun y => y.eqv x)
    rw [py_eqv d x h'.1 hx, any_pys ds x h'.2 hx]
theorem opd_in {neg : Bool} : OpD X dra (rInA X.K neg) (gIn neg) := by
  intro O H x y d1 d2 z fp fq dr Q r1 r2 e tr dw k
  cases d2 with
  | lst o ys =>
    have e : (if (d1.ok && (D.lst false ys).ok) = true then some (D.bl ((ys.any fun y => y.eqv d1) ^^ neg)) else none) = some z := by cases d1 <;> exact e
    by_cases hc : (d1.ok && (D.lst false ys).ok) = true
    · rw [if_pos hc] at e
      cases e
      simp only [D.ok, Bool.and_eq_true, decide_eq_true_eq] at hc
      have hp : D.pls ys = true := hc.2.1
      refine .inl ⟨d1.py, D.pys ys, rp_dp d1 r1 hc.1.1, rp_dp _ r2 hp, py_shaped hc.1.1 hc.1.2, py_shaped hc.2.1 hc.2.2, ?_⟩
      rw [any_pys ys d1 hp hc.1.1]
      exact k.atom dw (.bl _)
    · rw [if_neg hc] at e; cases e
  | tup ys =>
    have e : (if (d1.flat && ys.all D.flat) = true then some (D.bl ((ys.any fun y => y.eqv d1) ^^ neg)) else none) = some z := by cases d1 <;> exact e
    by_cases hc : (d1.flat && ys.all D.flat) = true
    · rw [if_pos hc] at e
      cases e
      rw [Bool.and_eq_true] at hc
      obtain ⟨a, vs, rfl, h1, s1, _⟩ := rp_sqt r2
      obtain ⟨f1, f2⟩ := flats r1 hc.1 s1 hc.2
      refine .inr (.inl ⟨a, vs, rfl, .inr h1, flat_v r1 hc.1, f1, ?_⟩)
      have : (if neg = true then !inV x vs else inV x vs) = ((ys.any fun y => y.eqv d1) ^^ neg) := by
        unfold inV
        rw [f2]
        cases neg <;> simp
      rw [this]
      exact k.atom dw (.bl _)
    · rw [if_neg hc] at e; cases e
  | str b =>
    cases d1 with
    | str a =>
      cases r1; cases r2; cases e
      exact .inr (.inr ⟨a, b, rfl, rfl, k.atom dw (.bl _)⟩)
    | _ => cases e
  | _ => cases d1 <;> cases e
end
end DL
/-! DL5 -/
/-! DL5: tests, and, or, not, chosen values, signs. -/
namespace DL
open PySem PySem.Spec PyProof.Rows L2

def cTst (F : CEx) : CTx := fun ρ dr => (F ρ dr).bind fun d dr => match d with
  | .bl k => .ok k dr
  | _ => .st
/-- truth -/
def D.tru : D → Option Bool
  | .non => some false
  | .bl b => some b
  | .int i => some (i != 0)
  | .str x => if x.length ≤ sizeLine then some ((x.length : Int) != 0) else none
  | .tup xs => some (!xs.isEmpty)
  | .lst _ xs => some (!xs.isEmpty)
  | _ => none
def cTru (F : CEx) : CTx := fun ρ dr => (F ρ dr).bind fun d dr => R.opt d.tru dr
def cAnd (F G : CTx) : CTx := fun ρ dr => (F ρ dr).bind fun b dr => if b = true then G ρ dr else .ok false dr
def cOr (F G : CTx) : CTx := fun ρ dr => (F ρ dr).bind fun b dr => if b = true then .ok true dr else G ρ dr
def cNotT (F : CTx) : CTx := fun ρ dr => (F ρ dr).bind fun b dr => .ok (!b) dr
def cNot (F : CEx) : CEx := fun ρ dr => (F ρ dr).bind fun d dr => R.opt (d.tru.map fun k => .bl (!k)) dr
def cIf (C : CTx) (F G : CEx) : CEx := fun ρ dr => (C ρ dr).bind fun b dr => if b = true then F ρ dr else G ρ dr
def cAndV (F G : CEx) : CEx := fun ρ dr => (F ρ dr).bind fun d dr => match d with
  | .bl k => if k = true then G ρ dr else .ok (.bl false) dr
  | _ => .st
def cOrV (F G : CEx) : CEx := fun ρ dr => (F ρ dr).bind fun d dr => match d with
  | .bl k => if k = true then .ok (.bl true) dr else G ρ dr
  | _ => .st
def cChain (g g' : D → D → Option D) (F1 F2 F3 : CEx) : CEx := fun ρ dr => (F1 ρ dr).bind fun x dr => (F2 ρ dr).bind fun y dr => match g x y with
  | some (.bl k) => if k = true then (F3 ρ dr).bind fun z dr => R.opt (g' y z) dr else .ok (.bl false) dr
  | _ => .st
def cNeg (F : CEx) : CEx := fun ρ dr => (F ρ dr).bind fun d dr => match d with
  | .int i => .ok (.int (-i)) dr
  | _ => .st

section
variable {c : DC} {W : WX} {F G : CEx} {σ : L2.St} {H : Hp} {Q : Bool → Hp → Prop}
theorem rp_bl {O : Addr → Prop} {v : V} {k : Bool} {fp : List Addr} (r : Rp c O H v (.bl k) fp) : v = .bl k := by cases r; rfl
/-- a test of a value that is True or False -/
theorem imp_tst (h : tT c W (cTst F) σ H Q) : tE c W F σ H fun x H' => ∃ k, x = .bl k ∧ Q k H' := by
  obtain ⟨en, O, lf, ρ, dr, S, w⟩ := h
  refine ⟨en, O, lf, ρ, dr, S, (Wp.bind w).mono (fun d dr' k v H' fp x dw r nd fr => ?_) fun _ _ k => k⟩
  cases d with
  | bl b => exact ⟨b, rp_bl r, k H' x dw⟩
  | _ => exact k.elim
theorem imp_tstB (h : tT c W (cTst F) σ H Q) : tB c W F σ H fun x H' => ∃ k, x = .bl k ∧ Q k H' := by
  obtain ⟨en, O, lf, ρ, dr, S, w⟩ := h
  refine ⟨en, O, lf, ρ, dr, S, (Wp.bind w).mono (fun d dr' k v H' fp x dw r nd fr => ?_) fun _ _ k => k⟩
  cases d with
  | bl b => exact ⟨b, rp_bl r, k H' x dw⟩
  | _ => exact k.elim
theorem Rps.emp {O : Addr → Prop} : ∀ {ds : List D} {vs : List V} {fp : List Addr}, Rps c O H vs ds fp → (!ds.isEmpty) = !vs.isEmpty
  | _, _, _, .nil => rfl
  | _, _, _, .cons _ _ => rfl
theorem rp_tru {O : Addr → Prop} {v : V} {d : D} {k : Bool} {fp : List Addr} (r : Rp c O H v d fp) (h : d.tru = some k) : TruV c.K v H k := by
  cases r with
  | non => cases h; rfl
  | bl b => cases h; rfl
  | int i => cases h; rfl
  | str x =>
    have h : (if x.length ≤ sizeLine then some ((x.length : Int) != 0) else none) = some k := h
    by_cases hz : x.length ≤ sizeLine
    · rw [if_pos hz] at h; cases h; exact ⟨hz, rfl⟩
    · rw [if_neg hz] at h; cases h
  | fn _ => cases h
  | dr _ => cases h
  | tup e n r =>
    cases h
    refine .inr (.inl ⟨_, .inl (.inl e), r.emp⟩)
  | tupK e r =>
    cases h
    refine .inr (.inl ⟨_, .inr e, r.emp⟩)
  | lst e n r =>
    cases h
    refine .inl ⟨_, .inl (.inl e), r.emp⟩
  | own e r =>
    cases h
    refine .inl ⟨_, .inl (.inl e), r.emp⟩
theorem imp_tru (h : tT c W (cTru F) σ H Q) : tB c W F σ H fun x H' => ∃ k, TruV c.K x H' k ∧ Q k H' := by
  obtain ⟨en, O, lf, ρ, dr, S, w⟩ := h
  refine ⟨en, O, lf, ρ, dr, S, (Wp.bind w).mono (fun d dr' k v H' fp x dw r nd fr => ?_) fun _ _ k => k⟩
  obtain ⟨b, e, q⟩ := k.opt
  exact ⟨b, rp_tru r e, q H' x dw⟩
theorem imp_not {Q : VK} (h : tE c W (cNot F) σ H Q) : tB c W F σ H fun x H' => ∃ k, TruV c.K x H' k ∧ Q (.bl (!k)) H' := by
  obtain ⟨en, O, lf, ρ, dr, S, w⟩ := h
  refine ⟨en, O, lf, ρ, dr, S, (Wp.bind w).mono (fun d dr' k v H' fp x dw r nd fr => ?_) fun _ _ k => k⟩
  obtain ⟨b, e, q⟩ := k.opt
  obtain ⟨k', e1, e2⟩ := Option.map_eq_some_iff.mp e
  subst e2
  exact ⟨k', rp_tru r e1, (OkE.later q x).atom dw (.bl _)⟩
theorem imp_and {T T' : CTx} (h : tT c W (cAnd T T') σ H Q) : tT c W T σ H fun k H1 => if k = true then tT c W T' σ H1 Q else Q false H1 := by
  obtain ⟨en, O, lf, ρ, dr, S, w⟩ := h
  refine ⟨en, O, lf, ρ, dr, S, (Wp.bind w).mono (fun d dr' k H' x dw => ?_) fun _ _ k => k⟩
  cases d with
  | true => exact ⟨en, O, lf, ρ, dr', S.step x dw, k.mono (fun b d q H2 x2 dw2 => q H2 (x.trans x2) dw2) fun _ _ k => k.later x⟩
  | false => exact k H' x dw
theorem imp_or {T T' : CTx} (h : tT c W (cOr T T') σ H Q) : tT c W T σ H fun k H1 => if k = true then Q true H1 else tT c W T' σ H1 Q := by
  obtain ⟨en, O, lf, ρ, dr, S, w⟩ := h
  refine ⟨en, O, lf, ρ, dr, S, (Wp.bind w).mono (fun d dr' k H' x dw => ?_) fun _ _ k => k⟩
  cases d with
  | false => exact ⟨en, O, lf, ρ, dr', S.step x dw, k.mono (fun b d q H2 x2 dw2 => q H2 (x.trans x2) dw2) fun _ _ k => k.later x⟩
  | true => exact k H' x dw
theorem imp_notT {T : CTx} (h : tT c W (cNotT T) σ H Q) : tT c W T σ H fun k H1 => Q (!k) H1 := by
  obtain ⟨en, O, lf, ρ, dr, S, w⟩ := h
  exact ⟨en, O, lf, ρ, dr, S, (Wp.bind w).mono (fun d dr' k H' x dw => k H' x dw) fun _ _ k => k⟩
theorem imp_if {T : CTx} {Q : VK} (h : tB c W (cIf T F G) σ H Q) : tT c W T σ H fun k H1 => if k = true then tB c W F σ H1 Q else tB c W G σ H1 Q := by
  obtain ⟨en, O, lf, ρ, dr, S, w⟩ := h
  refine ⟨en, O, lf, ρ, dr, S, (Wp.bind w).mono (fun d dr' k H' x dw => ?_) fun _ _ k => k⟩
  cases d with
  | true => exact ⟨en, O, lf, ρ, dr', S.step x dw, Wp.mono (show Wp (F ρ dr') _ _ from k) (fun b d q => q.later x) fun _ _ k => k.later x⟩
  | false => exact ⟨en, O, lf, ρ, dr', S.step x dw, Wp.mono (show Wp (G ρ dr') _ _ from k) (fun b d q => q.later x) fun _ _ k => k.later x⟩
theorem imp_ifE {T : CTx} {Q : VK} (h : tE c W (cIf T F G) σ H Q) : tT c W T σ H fun k H1 => if k = true then tE c W F σ H1 Q else tE c W G σ H1 Q := by
  obtain ⟨en, O, lf, ρ, dr, S, w⟩ := h
  refine ⟨en, O, lf, ρ, dr, S, (Wp.bind w).mono (fun d dr' k H' x dw => ?_) fun _ _ k => k⟩
  cases d with
  | true => exact ⟨en, O, lf, ρ, dr', S.step x dw, Wp.mono (show Wp (F ρ dr') _ _ from k) (fun b d q => q.later x) fun _ _ k => k.later x⟩
  | false => exact ⟨en, O, lf, ρ, dr', S.step x dw, Wp.mono (show Wp (G ρ dr') _ _ from k) (fun b d q => q.later x) fun _ _ k => k.later x⟩
theorem imp_andV {Q : VK} (h : tE c W (cAndV F G) σ H Q) : tB c W F σ H fun x H1 => ∃ k, x = .bl k ∧ if k = true then tE c W G σ H1 Q else Q (.bl false) H1 := by
  obtain ⟨en, O, lf, ρ, dr, S, w⟩ := h
  refine ⟨en, O, lf, ρ, dr, S, (Wp.bind w).mono (fun d dr' k v H' fp x dw r nd fr => ?_) fun _ _ k => k⟩
  cases d with
  | bl b =>
    refine ⟨b, rp_bl r, ?_⟩
    cases b with
    | true => exact ⟨en, O, lf, ρ, dr', S.step x dw, Wp.mono (show Wp (G ρ dr') _ _ from k) (fun b d q => q.later x) fun _ _ k => k.later x⟩
    | false => exact (OkE.later (show OkE c O H Q (.bl false) dr' from k) x).atom dw (.bl _)
  | _ => exact k.elim
theorem imp_orV {Q : VK} (h : tE c W (cOrV F G) σ H Q) : tB c W F σ H fun x H1 => ∃ k, x = .bl k ∧ if k = true then Q (.bl true) H1 else tE c W G σ H1 Q := by
  obtain ⟨en, O, lf, ρ, dr, S, w⟩ := h
  refine ⟨en, O, lf, ρ, dr, S, (Wp.bind w).mono (fun d dr' k v H' fp x dw r nd fr => ?_) fun _ _ k => k⟩
  cases d with
  | bl b =>
    refine ⟨b, rp_bl r, ?_⟩
    cases b with
    | false => exact ⟨en, O, lf, ρ, dr', S.step x dw, Wp.mono (show Wp (G ρ dr') _ _ from k) (fun b d q => q.later x) fun _ _ k => k.later x⟩
    | true => exact (OkE.later (show OkE c O H Q (.bl true) dr' from k) x).atom dw (.bl _)
  | _ => exact k.elim
end

section
variable {X : Cx} {dra : Option (Addr × Addr)} {W : WX} {e a b d : Expr} {F G F1 F2 F3 : CEx} {T T' : CTx} {pos : Pos} {rest : List Expr}
theorem imp_bin {r : R2} {g : D → D → Option D} {σ : L2.St} {H : Hp} {Q : VK} (hg : OpD X dra r g) (h : tE (dc X dra) W (cBin g F1 F2) σ H Q) : tOp r (tB (dc X dra) W F1) (tB (dc X dra) W F2) σ H Q := by
  obtain ⟨en, O, lf, ρ, dr, S, w⟩ := h
  exact two S (w.bind.mono (fun _ _ k => k.bind) fun _ _ k => k) fun d1 d2 dr' H' u v fp fq w x tr dw r1 r2 => by
    obtain ⟨z, e, k⟩ := w.opt
    exact hg O H' u v d1 d2 z fp fq dr' Q r1.orl r2.orl e tr dw (k.later x)
theorem bt_cmp {op : CmpOp} {r : R2} {g : D → D → Option D} (ho : OpR X (compareOp op) r) (hg : OpD X dra r g) (ha : BE X dra W a F1) (hb : BE X dra W b F2) (hm : behindInMarks op b = false) : BT X dra W (.Compare a [op] [b] pos) (cTst (cBin g F1 F2)) :=
  ⟨wkT (pt_cmpR ho ha.pe hb.pe hm) fun σ H Q h => imp_bin hg (imp_tst h)⟩
theorem bt_val (h : BE X dra W e F) (he : ∀ whole, isTrue e X.env whole = (do let v ← whole; standAt e.pos; holding [v] (truthy v)) := by intro _; rfl) : BT X dra W e (cTst F) :=
  ⟨wkT (pt_val h.pe he) fun σ H Q h => imp_tstB h⟩
theorem bt_tru (h : BE X dra W e F) (he : ∀ whole, isTrue e X.env whole = (do let v ← whole; standAt e.pos; holding [v] (truthy v)) := by intro _; rfl) : BT X dra W e (cTru F) :=
  ⟨wkT (pt_truth h.pe he) fun σ H Q h => imp_tru h⟩
structure BW (X : Cx) (dra : Option (Addr × Addr)) (W : WX) (e : Expr) (F : CTx) : Prop where
  pw : PW X e (tT (dc X dra) W F)
theorem wkW {t t' : TT} (h : PW X e t) (i : ∀ σ H Q, t' σ H Q → t σ H Q) : PW X e t' := ⟨fun wh pins s σ H Q I hw => h.run wh pins s σ H Q I (i σ H Q hw)⟩
theorem BW.bt (h : BW X dra W e T) : BT X dra W e T := ⟨h.pw.pt⟩
theorem bw_and1 (h : BT X dra W a T) : BW X dra W (.BoolOp .And [a] pos) T := ⟨pw_and1 h.pt⟩
theorem bw_or1 (h : BT X dra W a T) : BW X dra W (.BoolOp .Or [a] pos) T := ⟨pw_or1 h.pt⟩
theorem bw_and (h : BT X dra W a T) (h' : BW X dra W (.BoolOp .And (b :: rest) pos) T') : BW X dra W (.BoolOp .And (a :: b :: rest) pos) (cAnd T T') := ⟨wkW (pw_and h.pt h'.pw) fun σ H Q h => imp_and h⟩
theorem bw_or (h : BT X dra W a T) (h' : BW X dra W (.BoolOp .Or (b :: rest) pos) T') : BW X dra W (.BoolOp .Or (a :: b :: rest) pos) (cOr T T') := ⟨wkW (pw_or h.pt h'.pw) fun σ H Q h => imp_or h⟩
theorem bt_not (h : BT X dra W a T) : BT X dra W (.UnaryOp .Not a pos) (cNotT T) := ⟨wkT (pt_not h.pt) fun σ H Q h => imp_notT h⟩
theorem ee_not (h : BE X dra W a F) : EE X dra W (.UnaryOp .Not a pos) (cNot F) := ⟨wkE (pe_notT h.pe) fun σ H Q h => imp_not h⟩
theorem be_if (ht : BT X dra W d T) (ha : BE X dra W a F) (hb : BE X dra W b G) : BE X dra W (.IfExp d a b pos) (cIf T F G) := ⟨wkE (pe_ifExp ht.pt ha.pe hb.pe) fun σ H Q h => imp_if h⟩
theorem ee_if (ht : BT X dra W d T) (ha : EE X dra W a F) (hb : EE X dra W b G) : EE X dra W (.IfExp d a b pos) (cIf T F G) := ⟨wkE (pe_ifExp ht.pt ha.pe hb.pe) fun σ H Q h => imp_ifE h⟩
theorem ee_one {op} (h : EE X dra W a F) : EE X dra W (.BoolOp op [a] pos) F := ⟨pe_one h.pe⟩
theorem ee_and (ha : BE X dra W a F) (hb : EE X dra W (.BoolOp .And (b :: rest) pos) G) : EE X dra W (.BoolOp .And (a :: b :: rest) pos) (cAndV F G) := ⟨wkE (pe_and ha.pe hb.pe) fun σ H Q h => imp_andV h⟩
theorem ee_or (ha : BE X dra W a F) (hb : EE X dra W (.BoolOp .Or (b :: rest) pos) G) : EE X dra W (.BoolOp .Or (a :: b :: rest) pos) (cOrV F G) := ⟨wkE (pe_or ha.pe hb.pe) fun σ H Q h => imp_orV h⟩
theorem ee_neg (h : BE X dra W a F) : EE X dra W (.UnaryOp .USub a pos) (cNeg F) := ⟨wkE (pe_un un_neg h.pe) fun σ H Q ⟨en, O, lf, ρ, dr, S, w⟩ => by
  refine ⟨en, O, lf, ρ, dr, S, (Wp.bind w).mono (fun d dr' k v H' fp x dw r nd fr => ?_) fun _ _ k => k⟩
  cases d with
  | int i =>
    cases r
    exact ⟨i, rfl, (OkE.later (show OkE (dc X dra) O H Q (.int (-i)) dr' from k) x).atom dw (.int _)⟩
  | _ => exact k.elim⟩
/-- a op b op' d -/
theorem imp_chain {r r' : R2} {g g' : D → D → Option D} {σ : L2.St} {H : Hp} {Q : VK} (hg : OpD X dra r g) (hg' : OpD X dra r' g') (h : tE (dc X dra) W (cChain g g' F1 F2 F3) σ H Q) :
    tChain r r' (tB (dc X dra) W F1) (tB (dc X dra) W F2) (tB (dc X dra) W F3) σ H Q := by
  obtain ⟨en, O, lf, ρ, dr, S, w⟩ := h
  refine ⟨en, O, lf, ρ, dr, S, (Wp.bind w).mono (fun d1 dr1 w1 u H1 fp x1 dw1 r1 nd1 fr1 => ?_) fun _ _ k => k⟩
  refine ⟨en, O, lf, ρ, dr1, S.step x1 dw1, (Wp.bind w1).mono (fun d2 dr2 w2 v H2 fq x2 dw2 r2 nd2 fr2 => ?_) fun _ _ k => k.later x1⟩
  have x12 := x1.trans x2
  have tr : ∀ a, O a → H2 a ≠ none := fun a ha => x12.trk a (S.trk a ha)
  cases e : g d1 d2 with
  | none => rw [e] at w2; exact w2.elim
  | some z =>
    rw [e] at w2
    cases z with
    | bl k =>
      refine hg O H2 u v d1 d2 (.bl k) fp fq dr2 _ (r1.later S x2 fr1).orl r2.orl e tr dw2 fun v' H3 fs x3 dw3 r3 _ _ => ⟨k, rp_bl r3, ?_⟩
      cases k with
      | true =>
        refine ⟨en, O, lf, ρ, dr2, S.step (x12.trans x3) dw3, (Wp.bind (show Wp ((F3 ρ dr2).bind _) _ _ from w2)).mono (fun d3 dr3 w3 w' H4 fw x4 dw4 r4 nd4 fr4 => ?_) fun _ _ k => k.later (x12.trans x3)⟩
        obtain ⟨z, e', k⟩ := w3.opt
        exact hg' O H4 v w' d2 d3 z fq fw dr3 Q (r2.later S (x3.trans x4) fr2).orl r4.orl e' (fun a ha => (x3.trans x4).trk a (tr a ha)) dw4 (k.later ((x12.trans x3).trans x4))
      | false => exact (OkE.later (show OkE (dc X dra) O H Q (.bl false) dr2 from w2) (x12.trans x3)).atom dw3 (.bl _)
    | _ => exact w2.elim
theorem ee_chain {op op' : CmpOp} {r r' : R2} {g g' : D → D → Option D} (ho : OpR X (compareOp op) r) (ho' : OpR X (compareOp op') r') (hg : OpD X dra r g) (hg' : OpD X dra r' g') (ha : BE X dra W a F1) (hb : BE X dra W b F2) (hc : BE X dra W d F3)
    (hm : lastMarks [op, op'] [b, d] = false := by with_unfolding_all rfl) : EE X dra W (.Compare a [op, op'] [b, d] pos) (cChain g g' F1 F2 F3) := ⟨wkE (pe_chain ho ho' ha.pe hb.pe hc.pe hm) fun σ H Q h => imp_chain hg hg' h⟩
theorem bt_chain {op op' : CmpOp} {r r' : R2} {g g' : D → D → Option D} (ho : OpR X (compareOp op) r) (ho' : OpR X (compareOp op') r') (hg : OpD X dra r g) (hg' : OpD X dra r' g') (ha : BE X dra W a F1) (hb : BE X dra W b F2) (hc : BE X dra W d F3)
    (hm : lastMarks [op, op'] [b, d] = false := by with_unfolding_all rfl) : BT X dra W (.Compare a [op, op'] [b, d] pos) (cTst (cChain g g' F1 F2 F3)) := ⟨wkT (pt_chain ho ho' ha.pe hb.pe hc.pe hm) fun σ H Q h => imp_chain hg hg' (imp_tst h)⟩
end
end DL
/-! DL6 -/
/-! DL6: lists of arguments, displays, subscripts, slices. -/
namespace DL
open PySem PySem.Spec PyProof.Rows L2

/-! ### several values, one behind the other -/
def cNil : CAx := fun _ dr => .ok [] dr
def cCons (F : CEx) (G : CAx) : CAx := fun ρ dr => (F ρ dr).bind fun x dr => (G ρ dr).bind fun xs dr => .ok (x :: xs) dr
/-- each one's own or nobody's -/
def OkA (c : DC) (O : Addr → Prop) (H : Hp) (Q : List V → Hp → Prop) : List D → Dr → Prop := fun ds dr => ∀ vs H' fp, Ext c H H' → DrOk c dr H' → Rps c (orO O fp) H' vs ds fp → fp.Nodup → (∀ a ∈ fp, H a = none) → Q vs H'
inductive Bs (c : DC) (O : Addr → Prop) (H : Hp) : List V → List D → Prop where
  | nil : Bs c O H [] []
  | cons {v : V} {d : D} {fp : List Addr} {vs : List V} {ds : List D} : Rp c O H v d fp → Bs c O H vs ds → Bs c O H (v :: vs) (d :: ds)
def OkS (c : DC) (O : Addr → Prop) (H : Hp) (Q : List V → Hp → Prop) : List D → Dr → Prop := fun ds dr => ∀ vs H', Ext c H H' → DrOk c dr H' → Bs c O H' vs ds → Q vs H'
def tA (c : DC) (W : WX) (F : CAx) : TA := fun σ H Q => ∃ en O lf ρ dr, StOk c en O lf ρ dr σ H ∧ Wp (F ρ dr) (OkA c O H Q) (ExW c W σ H)
def tS (c : DC) (W : WX) (F : CAx) : TA := fun σ H Q => ∃ en O lf ρ dr, StOk c en O lf ρ dr σ H ∧ Wp (F ρ dr) (OkS c O H Q) (ExW c W σ H)
/-- had; seen -/
structure EA (X : Cx) (dra : Option (Addr × Addr)) (W : WX) (es : List Expr) (F : CAx) : Prop where
  pa : PA X es (tA (dc X dra) W F)
structure BA (X : Cx) (dra : Option (Addr × Addr)) (W : WX) (es : List Expr) (F : CAx) : Prop where
  pa : PA X es (tS (dc X dra) W F)
theorem wkA {X : Cx} {es : List Expr} {t t' : TA} (h : PA X es t) (i : ∀ σ H Q, t' σ H Q → t σ H Q) : PA X es t' := ⟨fun pos pins s σ H Q I hw => h.run pos pins s σ H Q I (i σ H Q hw)⟩
section
variable {X : Cx} {dra : Option (Addr × Addr)} {W : WX} {e a b d : Expr} {es : List Expr} {F G F1 F2 F3 : CEx} {A : CAx} {pos : Pos}
theorem ea_nil : EA X dra W [] cNil := ⟨wkA pa_nil fun σ H Q ⟨en, O, lf, ρ, dr, S, w⟩ => by
  have w : OkA (dc X dra) O H Q [] dr := w
  exact w [] H [] Ext.refl S.drw .nil List.nodup_nil fun _ z => nomatch z⟩
theorem ba_nil : BA X dra W [] cNil := ⟨wkA pa_nil fun σ H Q ⟨en, O, lf, ρ, dr, S, w⟩ => by
  have w : OkS (dc X dra) O H Q [] dr := w
  exact w [] H Ext.refl S.drw .nil⟩
theorem ea_cons (ha : EE X dra W e F) (hr : EA X dra W es A) (hs : starEach (e :: es) X.env = (false, eval e X.env) :: starEach es X.env := by rfl) : EA X dra W (e :: es) (cCons F A) :=
  ⟨wkA (pa_cons ha.pe hr.pa hs) fun σ H Q ⟨en, O, lf, ρ, dr, S, w⟩ => by
    refine ⟨en, O, lf, ρ, dr, S, (Wp.bind w).mono (fun d dr1 w1 v H1 fp x1 dw1 r1 nd1 fr1 => ?_) fun _ _ k => k⟩
    have S1 := S.hold x1 dw1 nd1 fr1 (r1.trk d)
    refine ⟨en, orO O fp, fp ++ lf, ρ, dr1, S1, (Wp.bind w1).mono (fun ds dr2 w2 vs H2 fq x2 dw2 r2 nd2 fr2 => ?_) fun _ _ k => k.later x1⟩
    have w2 : OkA (dc X dra) O H Q (d :: ds) dr2 := w2
    have no : ∀ p, (dc X dra).dra = some p → p.1 ∉ fp := fun p hp hm => S.trk p.1 (S.odr p hp) (fr1 _ hm)
    have r1' : Rp (dc X dra) (orO O (fp ++ fq)) H1 v d fp := Rp.mono d r1 (fun _ _ q _ => q) fun a o q n z => by
      rcases z with z | z
      · exact n (.inl z)
      · rcases List.mem_append.mp z with z | z
        · exact n (.inr z)
        · rw [fr2 a z] at q; cases q
    refine w2 (v :: vs) H2 (fp ++ fq) (x1.trans x2) dw2 (.cons (r1'.ext x2 (fun p hp => .inl (S.odr p hp)) no) (r2.anti fun a z => ?_)) ?_ fun a ha => ?_
    · rcases z with z | z
      · exact .inl (.inl z)
      · rcases List.mem_append.mp z with z | z
        · exact .inl (.inr z)
        · exact .inr z
    · rw [List.nodup_append]
      refine ⟨nd1, nd2, fun a ha b hb e => ?_⟩
      subst e
      exact r1.trk d a ha (fr2 a hb)
    · rcases List.mem_append.mp ha with ha | ha
      · exact fr1 a ha
      · exact x1.un (fr2 a ha)⟩
theorem ba_cons (ha : BE X dra W e F) (hr : BA X dra W es A) (hs : starEach (e :: es) X.env = (false, eval e X.env) :: starEach es X.env := by rfl) : BA X dra W (e :: es) (cCons F A) :=
  ⟨wkA (pa_cons ha.pe hr.pa hs) fun σ H Q ⟨en, O, lf, ρ, dr, S, w⟩ => by
    refine ⟨en, O, lf, ρ, dr, S, (Wp.bind w).mono (fun d dr1 w1 v H1 fp x1 dw1 r1 nd1 fr1 => ?_) fun _ _ k => k⟩
    refine ⟨en, O, lf, ρ, dr1, S.step x1 dw1, (Wp.bind w1).mono (fun ds dr2 w2 vs H2 x2 dw2 r2 => ?_) fun _ _ k => k.later x1⟩
    have w2 : OkS (dc X dra) O H Q (d :: ds) dr2 := w2
    exact w2 (v :: vs) H2 (x1.trans x2) dw2 (.cons (r1.later S x2 fr1).orl r2)⟩

/-! ### displays -/
def cTup (A : CAx) : CEx := fun ρ dr => (A ρ dr).bind fun ds dr => if ds.length ≤ sizeLine then .ok (.tup (D.fzs ds)) dr else .st
/-- a list whose things may be one's own; one of nobody's things -/
def cLst (A : CAx) : CEx := fun ρ dr => (A ρ dr).bind fun ds dr => if ds.length ≤ sizeLine then .ok (.lst true ds) dr else .st
def cLstF (A : CAx) : CEx := fun ρ dr => (A ρ dr).bind fun ds dr => if ds.length ≤ sizeLine then .ok (.lst true (D.fzs ds)) dr else .st
theorem ee_tup {k} (h : EA X dra W es A) : EE X dra W (.Tuple es k pos) (cTup A) := ⟨wkE (pe_tup h.pa) fun σ H Q ⟨en, O, lf, ρ, dr, S, w⟩ => by
  refine ⟨en, O, lf, ρ, dr, S, (Wp.bind w).mono (fun ds dr1 w1 vs H1 fp x1 dw1 r1 nd1 fr1 => ?_) fun _ _ k => k⟩
  by_cases hz : ds.length ≤ sizeLine
  · rw [if_pos hz] at w1
    refine ⟨by rw [r1.len]; exact hz, fun p hp => ?_⟩
    have q : OkE (dc X dra) O H1 Q _ dr1 := OkE.later w1 x1
    exact q.newT dw1 (fun a ha => x1.trk a (S.trk a ha)) hp (r1.orl.fz ds fun a ha z => S.trk a z (fr1 a ha))
  · rw [if_neg hz] at w1; exact w1.elim⟩
theorem ee_lst (h : EA X dra W es A) : EE X dra W (.List es pos) (cLst A) := ⟨wkE (pe_lst h.pa) fun σ H Q ⟨en, O, lf, ρ, dr, S, w⟩ => by
  refine ⟨en, O, lf, ρ, dr, S, (Wp.bind w).mono (fun ds dr1 w1 vs H1 fp x1 dw1 r1 nd1 fr1 => ?_) fun _ _ k => k⟩
  by_cases hz : ds.length ≤ sizeLine
  · rw [if_pos hz] at w1
    refine ⟨by rw [r1.len]; exact hz, fun p hp => ?_⟩
    have w1 : OkE (dc X dra) O H Q (.lst true ds) dr1 := w1
    have hpf : p ∉ fp := fun m => r1.trk ds p m hp
    refine w1 _ _ (p :: fp) (x1.trans (Ext.of_same (same_upd hp))) (dw1.same (same_upd hp)) (.own upd_same ?_) (List.nodup_cons.mpr ⟨hpf, nd1⟩) fun a ha => ?_
    · refine Rps.mono ds r1 (fun a o e _ => same_upd hp a o e) fun a o e n z => ?_
      rcases z with z | z
      · exact n (.inl z)
      · rcases List.mem_cons.mp z with z | z
        · rw [z, hp] at e; cases e
        · exact n (.inr z)
    · rcases List.mem_cons.mp ha with z | z
      · rw [z]; exact x1.un hp
      · exact fr1 a z
  · rw [if_neg hz] at w1; exact w1.elim⟩
theorem ee_lstF (h : EA X dra W es A) : EE X dra W (.List es pos) (cLstF A) := ⟨wkE (pe_lst h.pa) fun σ H Q ⟨en, O, lf, ρ, dr, S, w⟩ => by
  refine ⟨en, O, lf, ρ, dr, S, (Wp.bind w).mono (fun ds dr1 w1 vs H1 fp x1 dw1 r1 nd1 fr1 => ?_) fun _ _ k => k⟩
  by_cases hz : ds.length ≤ sizeLine
  · rw [if_pos hz] at w1
    refine ⟨by rw [r1.len]; exact hz, fun p hp => ?_⟩
    have q : OkE (dc X dra) O H1 Q _ dr1 := OkE.later w1 x1
    exact q.newL dw1 hp (r1.orl.fz ds fun a ha z => S.trk a z (fr1 a ha))
  · rw [if_neg hz] at w1; exact w1.elim⟩

/-! ### a[i] -/
def gIx : D → D → Option D
  | .tup xs, .int i => atI xs i
  | .lst _ xs, .int i => atI xs i
  | .str z, .int i => if z.length ≤ sizeLine then (atI z.cps.toList i).map fun c => .str ⟨#[c]⟩ else none
  | _, _ => none
theorem at_get {α β : Type} {xs : List α} {ys : List β} (hl : ys.length = xs.length) {i : Int} {d : α} (h : atI xs i = some d) : ∃ j : Nat, xs[j]? = some d ∧ ∀ v, ys[j]? = some v → atI ys i = some v := by
  unfold atI at h ⊢
  rw [hl]
  cases e : ixN xs.length i with
  | none => rw [e] at h; cases h
  | some j =>
    rw [e] at h
    exact ⟨j, h, fun v hv => hv⟩
/-- what may be seen of a part of what is seen -/
theorem be_ix (ha : BE X dra W a F1) (hb : BE X dra W b F2) (hs : PlainIx b := by intro _ _; rfl) : BE X dra W (.Subscript a b pos) (cBin gIx F1 F2) :=
  ⟨wkE (pe_ix ix_seq ha.pe hb.pe hs) fun σ H Q ⟨en, O, lf, ρ, dr, S, w⟩ => by
    refine ⟨en, O, lf, ρ, dr, S, (Wp.bind w).mono (fun d1 dr1 w1 u H1 fp x1 dw1 r1 nd1 fr1 => ?_) fun _ _ k => k⟩
    refine ⟨en, O, lf, ρ, dr1, S.step x1 dw1, (Wp.bind w1).mono (fun d2 dr2 w2 v H2 fq x2 dw2 r2 nd2 fr2 => ?_) fun _ _ k => k.later x1⟩
    obtain ⟨z, e, k⟩ := w2.opt
    have k : OkB (dc X dra) en O H Q z dr2 := k
    have k := k.later (x1.trans x2)
    have r1 := r1.later S x2 fr1
    cases d2 with
    | int i =>
      cases r2
      cases d1 with
      | tup xs =>
        have e : atI xs i = some z := e
        obtain ⟨p, vs, rfl, h1, s1, _⟩ := rp_sqt r1
        obtain ⟨j, e1, e2⟩ := at_get s1.len e
        obtain ⟨v, fs, e3, r3, sb⟩ := s1.get e1
        have : fs = [] := List.sublist_nil.mp sb
        subst this
        exact .inr (.inl ⟨p, vs, i, v, rfl, rfl, h1, e2 v e3, k v H2 [] Ext.refl dw2 (r3.anti fun a z => .inl (orO_nil z)) List.nodup_nil fun _ z => nomatch z⟩)
      | lst o xs =>
        have e : atI xs i = some z := e
        obtain ⟨p, vs, fs0, rfl, h1, s1, sb0⟩ := rp_lst r1
        obtain ⟨j, e1, e2⟩ := at_get s1.len e
        obtain ⟨v, fs, e3, r3, sb⟩ := s1.get e1
        have sbf := sb.trans sb0
        exact .inl ⟨p, vs, i, v, rfl, rfl, .inl (.inl h1), e2 v e3, k v H2 fs Ext.refl dw2 (r3.anti fun a z => z.elim .inl fun m => .inr (sbf.subset m)) (nd1.sublist sbf) fun a ha => fr1 a (sbf.subset ha)⟩
      | str s =>
        have e : (if s.length ≤ sizeLine then (atI s.cps.toList i).map fun c => D.str ⟨#[c]⟩ else none) = some z := e
        cases r1
        by_cases hz : s.length ≤ sizeLine
        · rw [if_pos hz] at e
          obtain ⟨c, e1, e2⟩ := Option.map_eq_some_iff.mp e
          subst e2
          exact .inr (.inr ⟨s, i, c, rfl, rfl, hz, e1, k _ H2 [] Ext.refl dw2 (.str _) List.nodup_nil fun _ z => nomatch z⟩)
        · rw [if_neg hz] at e; cases e
      | _ => cases e
    | _ => cases d1 <;> cases e⟩

/-! ### a[i:j] -/
def cutD {α : Type} (xs : List α) (lo hi : Option Int) : List α := (xs.drop (HT.sIx xs.length 0 lo)).take (HT.sIx xs.length xs.length hi - HT.sIx xs.length 0 lo)
def gSl : D → Option Int → Option Int → Option D
  | .tup xs, lo, hi => some (.tup (cutD xs lo hi))
  | .lst _ xs, lo, hi => if xs.all D.frz then some (.lst true (cutD xs lo hi)) else none
  | .str z, lo, hi => if z.length ≤ sizeLine then some (.str (cutS z lo hi)) else none
  | _, _, _ => none
abbrev COx := Rho → Dr → R (Option Int)
def cNoPart : COx := fun _ dr => .ok none dr
def cPart (F : CEx) : COx := fun ρ dr => (F ρ dr).bind fun d dr => match d with
  | .int i => .ok (some i) dr
  | _ => .st
def tO (c : DC) (W : WX) (F : COx) : TO := fun σ H Q => ∃ en O lf ρ dr, StOk c en O lf ρ dr σ H ∧ Wp (F ρ dr) (fun o dr' => ∀ H', Ext c H H' → DrOk c dr' H' → Q o H') (ExW c W σ H)
structure BO (X : Cx) (dra : Option (Addr × Addr)) (W : WX) (e : Option Expr) (F : COx) : Prop where
  po : PO X e (tO (dc X dra) W F)
theorem bo_none : BO X dra W none cNoPart := ⟨⟨fun pins s σ H Q I ⟨en, O, lf, ρ, dr, S, w⟩ => po_none.run pins s σ H Q I (by
  have w : ∀ H', Ext (dc X dra) H H' → DrOk (dc X dra) dr H' → Q none H' := w
  exact w H Ext.refl S.drw)⟩⟩
theorem bo_some (h : BE X dra W e F) : BO X dra W (some e) (cPart F) := ⟨⟨fun pins s σ H Q I ⟨en, O, lf, ρ, dr, S, w⟩ => (po_some h.pe).run pins s σ H Q I (by
  refine ⟨en, O, lf, ρ, dr, S, (Wp.bind w).mono (fun d dr' k v H' fp x dw r nd fr => ?_) fun _ _ k => k⟩
  cases d with
  | int i =>
    cases r
    exact ⟨i, rfl, k H' x dw⟩
  | _ => exact k.elim)⟩⟩
def cSl (F : CEx) (L U : COx) : CEx := fun ρ dr => (F ρ dr).bind fun x dr => (L ρ dr).bind fun l dr => (U ρ dr).bind fun u dr => R.opt (gSl x l u) dr
theorem Rps.uncons {c : DC} {O : Addr → Prop} {H : Hp} {v : V} {vs : List V} {d : D} {ds : List D} {fp : List Addr} : Rps c O H (v :: vs) (d :: ds) fp → ∃ f1 f2, fp = f1 ++ f2 ∧ Rp c O H v d f1 ∧ Rps c O H vs ds f2
  | .cons r t => ⟨_, _, rfl, r, t⟩
theorem Rps.tail0 {c : DC} {O : Addr → Prop} {H : Hp} {v : V} {vs : List V} {d : D} {ds : List D} (r : Rps c O H (v :: vs) (d :: ds) []) : Rps c O H vs ds [] := by
  obtain ⟨f1, f2, e, _, t⟩ := r.uncons
  rw [(List.append_eq_nil_iff.mp e.symm).2] at t
  exact t
theorem Rps.cut {c : DC} {O : Addr → Prop} {H : Hp} : ∀ {ds : List D} {vs : List V}, Rps c O H vs ds [] → ∀ n m, Rps c O H ((vs.drop n).take m) ((ds.drop n).take m) [] := by
  have tk : ∀ {ds : List D} {vs : List V}, Rps c O H vs ds [] → ∀ m, Rps c O H (vs.take m) (ds.take m) [] := by
    intro ds
    induction ds with
    | nil => intro vs r m; cases vs with
      | nil => cases m <;> exact .nil
      | cons _ _ => exact absurd r.len (by simp)
    | cons d ds ih =>
      intro vs r m
      cases m with
      | zero => exact .nil
      | succ m =>
        cases vs with
        | nil => exact absurd r.len (by simp)
        | cons v vs =>
          obtain ⟨v', fs, e1, r1, sb⟩ := r.get (i := 0) (d := d) rfl
          cases e1
          have e0 : fs = [] := List.sublist_nil.mp sb
          subst e0
          have rt := r.tail0
          exact .cons (fp := []) (fq := []) r1 (ih rt m)
  have dp : ∀ {ds : List D} {vs : List V}, Rps c O H vs ds [] → ∀ n, Rps c O H (vs.drop n) (ds.drop n) [] := by
    intro ds
    induction ds with
    | nil => intro vs r m; cases vs with
      | nil => cases m <;> exact .nil
      | cons _ _ => exact absurd r.len (by simp)
    | cons d ds ih =>
      intro vs r m
      cases m with
      | zero => exact r
      | succ m =>
        cases vs with
        | nil => exact absurd r.len (by simp)
        | cons v vs =>
          have rt := r.tail0
          exact ih rt m
  intro ds vs r n m
  exact tk (dp r n) m
theorem cut_rps {c : DC} {O : Addr → Prop} {H : Hp} {ds : List D} {vs : List V} (r : Rps c O H vs ds []) (lo hi : Option Int) : Rps c O H (cutV vs lo hi) (cutD ds lo hi) [] := by
  unfold cutV cutD
  rw [r.len]
  exact r.cut _ _
theorem ee_sl {lo hi : Option Expr} {L U : COx} {p2 : Pos} (h : BE X dra W a F) (hl : BO X dra W lo L) (hu : BO X dra W hi U) : EE X dra W (.Subscript a (.Slice lo hi none p2) pos) (cSl F L U) :=
  ⟨wkE (pe_slice (SlR.or sl_tupA (SlR.or sl_list sl_str)) h.pe hl.po hu.po) fun σ H Q ⟨en, O, lf, ρ, dr, S, w⟩ => by
    refine ⟨en, O, lf, ρ, dr, S, (Wp.bind w).mono (fun d1 dr1 w1 u H1 fp x1 dw1 r1 nd1 fr1 => ?_) fun _ _ k => k⟩
    refine ⟨en, O, lf, ρ, dr1, S.step x1 dw1, (Wp.bind w1).mono (fun l dr2 w2 H2 x2 dw2 => ?_) fun _ _ k => k.later x1⟩
    refine ⟨en, O, lf, ρ, dr2, S.step (x1.trans x2) dw2, (Wp.bind w2).mono (fun u' dr3 w3 H3 x3 dw3 => ?_) fun _ _ k => k.later (x1.trans x2)⟩
    obtain ⟨z, e, k⟩ := w3.opt
    have xx := x1.trans (x2.trans x3)
    have k : OkE (dc X dra) O H3 Q z dr3 := OkE.later k xx
    have r1 := r1.later S (x2.trans x3) fr1
    have tr : ∀ a, O a → H3 a ≠ none := fun a ha => xx.trk a (S.trk a ha)
    cases d1 with
    | tup xs =>
      cases e
      obtain ⟨p, vs, rfl, h1, s1, _⟩ := rp_sqt r1.orl
      refine .inl ⟨p, vs, rfl, h1, fun q => ?_, fun _ p hp => k.newT dw3 tr hp (cut_rps s1 l u')⟩
      have : cutD xs l u' = xs := by
        unfold cutD
        rw [← s1.len, q.1, q.2]
        rw [Nat.sub_zero, List.drop_zero, s1.len, List.take_length]
      rw [this] at k
      have e0 := r1.frz _ rfl
      subst e0
      exact k.atom dw3 r1.orl
    | lst o xs =>
      have e : (if xs.all D.frz = true then some (D.lst true (cutD xs l u')) else none) = some z := e
      by_cases hz : xs.all D.frz = true
      · rw [if_pos hz] at e
        cases e
        obtain ⟨p, vs, _, rfl, h1, s1, _⟩ := rp_lst r1.orl
        exact .inr (.inl ⟨p, vs, rfl, .inl (.inl h1), fun p hp => k.newL dw3 hp (cut_rps (s1.allfrz hz) l u')⟩)
      · rw [if_neg hz] at e; cases e
    | str s =>
      have e : (if s.length ≤ sizeLine then some (D.str (cutS s l u')) else none) = some z := e
      by_cases hz : s.length ≤ sizeLine
      · rw [if_pos hz] at e
        cases e
        cases r1
        exact .inr (.inr ⟨s, rfl, hz, k.atom dw3 (.str _)⟩)
      · rw [if_neg hz] at e; cases e
    | _ => cases e⟩
end
end DL
/-! DL7 -/
/-! DL7: the built-in functions; a[::-1]. -/
namespace DL
open PySem PySem.Spec PyProof.Rows L2

/-- what a built-in comes to -/
def CallD (X : Cx) (dra : Option (Addr × Addr)) (r : List V → Hp → VK → Prop) (g : List D → Option D) : Prop :=
  ∀ (O : Addr → Prop) (H : Hp) (xs : List V) (ds : List D) (z : D) (dr : Dr) (Q : VK), Bs (dc X dra) O H xs ds → g ds = some z → (∀ a, O a → H a ≠ none) → DrOk (dc X dra) dr H → OkE (dc X dra) O H Q z dr → r xs H Q
def cB (g : List D → Option D) (A : CAx) : CEx := fun ρ dr => (A ρ dr).bind fun ds dr => R.opt (g ds) dr
section
variable {X : Cx} {dra : Option (Addr × Addr)} {W : WX} {e a b d : Expr} {es : List Expr} {F G F1 F2 F3 : CEx} {A : CAx} {pos p : Pos} {x : Str} {r : List V → Hp → VK → Prop} {g : List D → Option D} {id T : String}
theorem imp_b {σ : L2.St} {H : Hp} {Q : VK} (hg : CallD X dra r g) (h : tE (dc X dra) W (cB g A) σ H Q) : tCB r (tS (dc X dra) W A) σ H Q := by
  obtain ⟨en, O, lf, ρ, dr, S, w⟩ := h
  refine ⟨en, O, lf, ρ, dr, S, (Wp.bind w).mono (fun ds dr1 w1 vs H1 x1 dw1 r1 => ?_) fun _ _ k => k⟩
  obtain ⟨z, e, k⟩ := w1.opt
  exact hg O H1 vs ds z dr1 Q r1 e (fun a ha => x1.trk a (S.trk a ha)) dw1 (OkE.later k x1)
theorem ee_b (hc : CallR X (.builtin id) r) (hgd : CallD X dra r g) (hm : X.mg x = none) (hv : bootBuiltins x = some (.builtin id)) (ha : BA X dra W (e :: es) A) (hg : Gl X x := by rfl) (hn : x ≠ "__name__" := by decide) (hdb : (x == ("__debug__" : Str)) = false := by decide)
    (he : starEach (e :: es) X.env = (false, eval e X.env) :: starEach es X.env := by rfl) (hpl : (backTo pos (starEach es X.env)).any (·.1) = false := by rfl) : EE X dra W (.Call (.Name x p) (e :: es) [] pos) (cB g A) :=
  ⟨wkE (pe_callB hc hg hm hv ha.pa hn hdb he hpl) fun σ H Q h => imp_b hgd h⟩
theorem ee_ty (hc : CallR X (.type T) r) (hgd : CallD X dra r g) (hm : X.mg x = none) (hv : bootBuiltins x = some (.type T)) (ha : BA X dra W (e :: es) A) (hg : Gl X x := by rfl) (hn : x ≠ "__name__" := by decide) (hdb : (x == ("__debug__" : Str)) = false := by decide)
    (he : starEach (e :: es) X.env = (false, eval e X.env) :: starEach es X.env := by rfl) (hpl : (backTo pos (starEach es X.env)).any (·.1) = false := by rfl) : EE X dra W (.Call (.Name x p) (e :: es) [] pos) (cB g A) :=
  ⟨wkE (pe_callTy hc hg hm hv ha.pa hn hdb he hpl) fun σ H Q h => imp_b hgd h⟩

theorem bs1 {c : DC} {O : Addr → Prop} {H : Hp} {xs : List V} {d : D} (r : Bs c O H xs [d]) : ∃ v fp, xs = [v] ∧ Rp c O H v d fp := by
  cases r with
  | cons r t => cases t; exact ⟨_, _, rfl, r⟩
theorem bs2 {c : DC} {O : Addr → Prop} {H : Hp} {xs : List V} {d e : D} (r : Bs c O H xs [d, e]) : ∃ v u fp fq, xs = [v, u] ∧ Rp c O H v d fp ∧ Rp c O H u e fq := by
  cases r with
  | cons r t =>
    cases t with
    | cons r2 t2 => cases t2; exact ⟨_, _, _, _, rfl, r, r2⟩

/-! ### len, abs, int -/
def gLen : List D → Option D
  | [.tup xs] => some (.int xs.length)
  | [.lst _ xs] => some (.int xs.length)
  | [.str x] => if x.length ≤ sizeLine then some (.int x.length) else none
  | _ => none
def rLenA (K : PySem.W.Frag) : List V → Hp → VK → Prop := fun xs H Q => ∃ x n, xs = [x] ∧ LenV K x H n ∧ Q (.int n) H
theorem cd_len : CallD X dra (rLenA X.K) gLen := by
  intro O H xs ds z dr Q r e tr dw k
  match ds, e with
  | [.tup ys], e =>
    cases e
    obtain ⟨v, fp, rfl, r1⟩ := bs1 r
    obtain ⟨a, vs, rfl, h1, s1, _⟩ := rp_sqt r1
    exact ⟨_, ys.length, rfl, .inr ⟨vs, h1, s1.len.symm⟩, k.atom dw (.int _)⟩
  | [.lst o ys], e =>
    cases e
    obtain ⟨v, fp, rfl, r1⟩ := bs1 r
    obtain ⟨a, vs, _, rfl, h1, s1, _⟩ := rp_lst r1
    exact ⟨_, ys.length, rfl, .inl ⟨vs, .inl (.inl h1), s1.len.symm⟩, k.atom dw (.int _)⟩
  | [.str y], e =>
    have e : (if y.length ≤ sizeLine then some (D.int y.length) else none) = some z := e
    by_cases hz : y.length ≤ sizeLine
    · rw [if_pos hz] at e
      cases e
      obtain ⟨v, fp, rfl, r1⟩ := bs1 r
      cases r1
      exact ⟨_, y.length, rfl, ⟨hz, rfl⟩, k.atom dw (.int _)⟩
    · rw [if_neg hz] at e; cases e
theorem ee_len (hm : X.mg "len" = none) (ha : BE X dra W a F) (hg : Gl X "len" := by rfl)
    (hs : starEach [a] X.env = (false, eval a X.env) :: starEach [] X.env := by rfl) : EE X dra W (.Call (.Name "len" p) [a] [] pos) (cB gLen (cCons F cNil)) :=
  ee_b call_len cd_len hm PySem.boot_len (ba_cons ha ba_nil hs) hg (he := hs)
def gAbs : List D → Option D
  | [.int i] => some (.int (if i < 0 then -i else i))
  | _ => none
theorem cd_abs : CallD X dra (fun xs H Q => ∃ i, xs = [.int i] ∧ Q (.int (if i < 0 then -i else i)) H) gAbs := by
  intro O H xs ds z dr Q r e tr dw k
  match ds, e with
  | [.int i], e =>
    cases e
    obtain ⟨v, fp, rfl, r1⟩ := bs1 r
    cases r1
    exact ⟨i, rfl, k.atom dw (.int _)⟩
def gInt : List D → Option D
  | [.int i] => some (.int i)
  | [.bl b] => some (.int (if b then 1 else 0))
  | _ => none
theorem cd_int : CallD X dra (fun xs H Q => (∃ i, xs = [.int i] ∧ Q (.int i) H) ∨ ∃ k, xs = [.bl k] ∧ Q (.int (if k then 1 else 0)) H) gInt := by
  intro O H xs ds z dr Q r e tr dw k
  match ds, e with
  | [.int i], e =>
    cases e
    obtain ⟨v, fp, rfl, r1⟩ := bs1 r
    cases r1
    exact .inl ⟨i, rfl, k.atom dw (.int _)⟩
  | [.bl i], e =>
    cases e
    obtain ⟨v, fp, rfl, r1⟩ := bs1 r
    cases r1
    exact .inr ⟨i, rfl, k.atom dw (.int _)⟩

/-! ### tuple, list -/
def gTuple : List D → Option D
  | [.tup xs] => some (.tup xs)
  | [.lst _ xs] => if xs.all D.frz then some (.tup xs) else none
  | _ => none
theorem cd_tuple : CallD X dra (fun xs H Q => ∃ p ys, xs = [.ref p] ∧ ((SqL X.K H p ys ∧ ∀ l, H l = none → Q (.ref l) (upd H l (.tup ys))) ∨ (SqT X.K H p ys ∧ Q (.ref p) H))) gTuple := by
  intro O H xs ds z dr Q r e tr dw k
  match ds, e with
  | [.tup ys], e =>
    cases e
    obtain ⟨v, fp, rfl, r1⟩ := bs1 r
    have e0 := r1.frz _ rfl
    subst e0
    have r1' := r1
    obtain ⟨a, vs, rfl, h1, s1, _⟩ := rp_sqt r1
    exact ⟨a, vs, rfl, .inr ⟨h1, k.atom dw r1'⟩⟩
  | [.lst o ys], e =>
    have e : (if ys.all D.frz = true then some (D.tup ys) else none) = some z := e
    by_cases hz : ys.all D.frz = true
    · rw [if_pos hz] at e
      cases e
      obtain ⟨v, fp, rfl, r1⟩ := bs1 r
      obtain ⟨a, vs, _, rfl, h1, s1, _⟩ := rp_lst r1
      exact ⟨a, vs, rfl, .inl ⟨.inl (.inl h1), fun l hl => k.newT dw tr hl (s1.allfrz hz)⟩⟩
    · rw [if_neg hz] at e; cases e
theorem ee_tuple (hm : X.mg "tuple" = none) (ha : BE X dra W a F) (hg : Gl X "tuple" := by rfl)
    (hs : starEach [a] X.env = (false, eval a X.env) :: starEach [] X.env := by rfl) : EE X dra W (.Call (.Name "tuple" p) [a] [] pos) (cB gTuple (cCons F cNil)) :=
  ee_ty call_tuple_of cd_tuple hm boot_tuple (ba_cons ha ba_nil hs) hg (he := hs)
def gList : List D → Option D
  | [.tup xs] => some (.lst true xs)
  | [.lst _ xs] => if xs.all D.frz then some (.lst true xs) else none
  | _ => none
theorem cd_list : CallD X dra (fun xs H Q => ∃ p ys, xs = [.ref p] ∧ (SqL X.K H p ys ∨ SqT X.K H p ys) ∧ ∀ l, H l = none → Q (.ref l) (upd H l (.lst ys))) gList := by
  intro O H xs ds z dr Q r e tr dw k
  match ds, e with
  | [.tup ys], e =>
    cases e
    obtain ⟨v, fp, rfl, r1⟩ := bs1 r
    obtain ⟨a, vs, rfl, h1, s1, _⟩ := rp_sqt r1
    exact ⟨a, vs, rfl, .inr h1, fun l hl => k.newL dw hl s1⟩
  | [.lst o ys], e =>
    have e : (if ys.all D.frz = true then some (D.lst true ys) else none) = some z := e
    by_cases hz : ys.all D.frz = true
    · rw [if_pos hz] at e
      cases e
      obtain ⟨v, fp, rfl, r1⟩ := bs1 r
      obtain ⟨a, vs, _, rfl, h1, s1, _⟩ := rp_lst r1
      exact ⟨a, vs, rfl, .inl (.inl (.inl h1)), fun l hl => k.newL dw hl (s1.allfrz hz)⟩
    · rw [if_neg hz] at e; cases e
theorem ee_list (hm : X.mg "list" = none) (ha : BE X dra W a F) (hg : Gl X "list" := by rfl)
    (hs : starEach [a] X.env = (false, eval a X.env) :: starEach [] X.env := by rfl) : EE X dra W (.Call (.Name "list" p) [a] [] pos) (cB gList (cCons F cNil)) :=
  ee_ty call_list_of cd_list hm boot_list (ba_cons ha ba_nil hs) hg (he := hs)

/-! ### sum, all, any, max, min -/
def D.int? : D → Option Int
  | .int i => some i
  | _ => none
def D.bl? : D → Option Bool
  | .bl i => some i
  | _ => none
def ints? : List D → Option (List Int)
  | [] => some []
  | d :: ds => (d.int?).bind fun i => (ints? ds).map fun is => i :: is
def bls? : List D → Option (List Bool)
  | [] => some []
  | d :: ds => (d.bl?).bind fun i => (bls? ds).map fun is => i :: is
theorem ints_of {c : DC} {O : Addr → Prop} {H : Hp} : ∀ {ds : List D} {vs : List V} {fp : List Addr} {ns : List Int}, Rps c O H vs ds fp → ints? ds = some ns → vs = ns.map V.int
  | [], _, _, _, r, e => by cases r; cases e; rfl
  | d :: ds, _, _, ns, r, e => by
    cases r with
    | cons r t =>
      cases d with
      | int i =>
        have e : (ints? ds).map (fun is => i :: is) = some ns := e
        obtain ⟨is, e1, e2⟩ := Option.map_eq_some_iff.mp e
        subst e2
        cases r
        rw [ints_of t e1]; rfl
      | _ => cases e
theorem bls_of {c : DC} {O : Addr → Prop} {H : Hp} : ∀ {ds : List D} {vs : List V} {fp : List Addr} {ns : List Bool}, Rps c O H vs ds fp → bls? ds = some ns → vs = ns.map V.bl
  | [], _, _, _, r, e => by cases r; cases e; rfl
  | d :: ds, _, _, ns, r, e => by
    cases r with
    | cons r t =>
      cases d with
      | bl i =>
        have e : (bls? ds).map (fun is => i :: is) = some ns := e
        obtain ⟨is, e1, e2⟩ := Option.map_eq_some_iff.mp e
        subst e2
        cases r
        rw [bls_of t e1]; rfl
      | _ => cases e
def gSum : List D → Option D
  | [.lst _ xs] => (ints? xs).map fun ns => .int ns.sum
  | _ => none
theorem cd_sum : CallD X dra (rSum X.K) gSum := by
  intro O H xs ds z dr Q r e tr dw k
  match ds, e with
  | [.lst o ys], e =>
    obtain ⟨ns, e1, e2⟩ := Option.map_eq_some_iff.mp (show (ints? ys).map (fun ns => D.int ns.sum) = some z from e)
    subst e2
    obtain ⟨v, fp, rfl, r1⟩ := bs1 r
    obtain ⟨a, vs, _, rfl, h1, s1, _⟩ := rp_lst r1
    exact ⟨a, ns, rfl, .inl (.inl (by rw [← ints_of s1 e1]; exact h1)), k.atom dw (.int _)⟩
def gAll : List D → Option D
  | [.lst _ xs] => (bls? xs).map fun ns => .bl (ns.all (fun b => b))
  | _ => none
def gAny : List D → Option D
  | [.lst _ xs] => (bls? xs).map fun ns => .bl (ns.any (fun b => b))
  | _ => none
theorem cd_all : CallD X dra (rAll X.K) gAll := by
  intro O H xs ds z dr Q r e tr dw k
  match ds, e with
  | [.lst o ys], e =>
    obtain ⟨ns, e1, e2⟩ := Option.map_eq_some_iff.mp (show (bls? ys).map (fun ns => D.bl (ns.all (fun b => b))) = some z from e)
    subst e2
    obtain ⟨v, fp, rfl, r1⟩ := bs1 r
    obtain ⟨a, vs, _, rfl, h1, s1, _⟩ := rp_lst r1
    exact ⟨a, ns, rfl, .inl (.inl (by rw [← bls_of s1 e1]; exact h1)), k.atom dw (.bl _)⟩
theorem cd_any : CallD X dra (rAny X.K) gAny := by
  intro O H xs ds z dr Q r e tr dw k
  match ds, e with
  | [.lst o ys], e =>
    obtain ⟨ns, e1, e2⟩ := Option.map_eq_some_iff.mp (show (bls? ys).map (fun ns => D.bl (ns.any (fun b => b))) = some z from e)
    subst e2
    obtain ⟨v, fp, rfl, r1⟩ := bs1 r
    obtain ⟨a, vs, _, rfl, h1, s1, _⟩ := rp_lst r1
    exact ⟨a, ns, rfl, .inl (.inl (by rw [← bls_of s1 e1]; exact h1)), k.atom dw (.bl _)⟩
def maxI : Int → List Int → Int
  | m, [] => m
  | m, x :: xs => maxI (if x > m then x else m) xs
def minI : Int → List Int → Int
  | m, [] => m
  | m, x :: xs => minI (if x < m then x else m) xs
theorem maxI_ge : ∀ (xs : List Int) (m : Int), m ≤ maxI m xs ∧ ∀ y ∈ xs, y ≤ maxI m xs
  | [], m => ⟨Int.le_refl _, fun _ h => nomatch h⟩
  | x :: xs, m => by
    obtain ⟨i1, i2⟩ := maxI_ge xs (if x > m then x else m)
    refine ⟨?_, fun y hy => ?_⟩
    · show m ≤ maxI (if x > m then x else m) xs
      split at i1 <;> split <;> omega
    · show y ≤ maxI (if x > m then x else m) xs
      rcases List.mem_cons.mp hy with rfl | hy
      · split at i1 <;> split <;> omega
      · exact i2 y hy
theorem maxI_mem : ∀ (xs : List Int) (m : Int), maxI m xs = m ∨ maxI m xs ∈ xs
  | [], m => .inl rfl
  | x :: xs, m => by
    have h := maxI_mem xs (if x > m then x else m)
    show maxI (if x > m then x else m) xs = m ∨ maxI (if x > m then x else m) xs ∈ x :: xs
    rcases h with h | h
    · rw [h]
      split
      · exact .inr List.mem_cons_self
      · exact .inl rfl
    · exact .inr (List.mem_cons_of_mem _ h)
theorem minI_le : ∀ (xs : List Int) (m : Int), minI m xs ≤ m ∧ ∀ y ∈ xs, minI m xs ≤ y
  | [], m => ⟨Int.le_refl _, fun _ h => nomatch h⟩
  | x :: xs, m => by
    obtain ⟨i1, i2⟩ := minI_le xs (if x < m then x else m)
    refine ⟨?_, fun y hy => ?_⟩
    · show minI (if x < m then x else m) xs ≤ m
      split at i1 <;> split <;> omega
    · show minI (if x < m then x else m) xs ≤ y
      rcases List.mem_cons.mp hy with rfl | hy
      · split at i1 <;> split <;> omega
      · exact i2 y hy
theorem minI_mem : ∀ (xs : List Int) (m : Int), minI m xs = m ∨ minI m xs ∈ xs
  | [], m => .inl rfl
  | x :: xs, m => by
    have h := minI_mem xs (if x < m then x else m)
    show minI (if x < m then x else m) xs = m ∨ minI (if x < m then x else m) xs ∈ x :: xs
    rcases h with h | h
    · rw [h]
      split
      · exact .inr List.mem_cons_self
      · exact .inl rfl
    · exact .inr (List.mem_cons_of_mem _ h)
def gMax1 : List D → Option D
  | [.lst _ xs] => (ints? xs).bind fun ns => match ns with
    | [] => none
    | n :: ns => some (.int (maxI n ns))
  | _ => none
def gMin1 : List D → Option D
  | [.lst _ xs] => (ints? xs).bind fun ns => match ns with
    | [] => none
    | n :: ns => some (.int (minI n ns))
  | _ => none
theorem cd_max1 : CallD X dra (rMax X.K) gMax1 := by
  intro O H xs ds z dr Q r e tr dw k
  match ds, e with
  | [.lst o ys], e =>
    obtain ⟨ns, e1, e2⟩ := Option.bind_eq_some_iff.mp (show (ints? ys).bind _ = some z from e)
    cases ns with
    | nil => cases e2
    | cons n ns =>
      cases e2
      obtain ⟨v, fp, rfl, r1⟩ := bs1 r
      obtain ⟨a, vs, _, rfl, h1, s1, _⟩ := rp_lst r1
      refine ⟨a, n :: ns, rfl, .inl (.inl (by rw [← ints_of s1 e1]; exact h1)), by simp, fun m hm hle => ?_⟩
      have : m = maxI n ns := by
        obtain ⟨g1, g2⟩ := maxI_ge ns n
        have l1 : m ≤ maxI n ns := by
          rcases List.mem_cons.mp hm with rfl | hm
          · exact g1
          · exact g2 m hm
        have l2 : maxI n ns ≤ m := by
          rcases maxI_mem ns n with h | h
          · rw [h]; exact hle n List.mem_cons_self
          · exact hle _ (List.mem_cons_of_mem _ h)
        omega
      rw [this]
      exact k.atom dw (.int _)
theorem cd_min1 : CallD X dra (rMin X.K) gMin1 := by
  intro O H xs ds z dr Q r e tr dw k
  match ds, e with
  | [.lst o ys], e =>
    obtain ⟨ns, e1, e2⟩ := Option.bind_eq_some_iff.mp (show (ints? ys).bind _ = some z from e)
    cases ns with
    | nil => cases e2
    | cons n ns =>
      cases e2
      obtain ⟨v, fp, rfl, r1⟩ := bs1 r
      obtain ⟨a, vs, _, rfl, h1, s1, _⟩ := rp_lst r1
      refine ⟨a, n :: ns, rfl, .inl (.inl (by rw [← ints_of s1 e1]; exact h1)), by simp, fun m hm hle => ?_⟩
      have : m = minI n ns := by
        obtain ⟨g1, g2⟩ := minI_le ns n
        have l1 : minI n ns ≤ m := by
          rcases List.mem_cons.mp hm with rfl | hm
          · exact g1
          · exact g2 m hm
        have l2 : m ≤ minI n ns := by
          rcases minI_mem ns n with h | h
          · rw [h]; exact hle n List.mem_cons_self
          · exact hle _ (List.mem_cons_of_mem _ h)
        omega
      rw [this]
      exact k.atom dw (.int _)
def gMax2 : List D → Option D
  | [.int i, .int j] => some (.int (if j > i then j else i))
  | _ => none
def gMin2 : List D → Option D
  | [.int i, .int j] => some (.int (if j < i then j else i))
  | _ => none
theorem cd_max2 : CallD X dra (fun xs H Q => ∃ i j, xs = [.int i, .int j] ∧ Q (.int (if j > i then j else i)) H) gMax2 := by
  intro O H xs ds z dr Q r e tr dw k
  match ds, e with
  | [.int i, .int j], e =>
    cases e
    obtain ⟨v, u, fp, fq, rfl, r1, r2⟩ := bs2 r
    cases r1; cases r2
    exact ⟨i, j, rfl, k.atom dw (.int _)⟩
theorem cd_min2 : CallD X dra (fun xs H Q => ∃ i j, xs = [.int i, .int j] ∧ Q (.int (if j < i then j else i)) H) gMin2 := by
  intro O H xs ds z dr Q r e tr dw k
  match ds, e with
  | [.int i, .int j], e =>
    cases e
    obtain ⟨v, u, fp, fq, rfl, r1, r2⟩ := bs2 r
    cases r1; cases r2
    exact ⟨i, j, rfl, k.atom dw (.int _)⟩
theorem ee_b1 (hc : CallR X (.builtin id) r) (hgd : CallD X dra r g) (hm : X.mg x = none) (hv : bootBuiltins x = some (.builtin id)) (ha : BE X dra W a F) (hg : Gl X x := by rfl) (hn : x ≠ "__name__" := by decide) (hdb : (x == ("__debug__" : Str)) = false := by decide)
    (hs : starEach [a] X.env = (false, eval a X.env) :: starEach [] X.env := by rfl) : EE X dra W (.Call (.Name x p) [a] [] pos) (cB g (cCons F cNil)) :=
  ee_b hc hgd hm hv (ba_cons ha ba_nil hs) hg hn hdb (he := hs)

/-! ### isinstance -/
def D.ty : D → String
  | .non => "NoneType" | .bl _ => "bool" | .int _ => "int" | .str _ => "str" | .tup _ => "tuple" | .lst _ _ => "list" | .fn _ => "function" | .dr => "list"
/-- whether it is an instance of T, by the type's name; for None of the kinds that a law asks it is told here -/
def D.isi (T : String) : D → Option Bool
  | .fn _ => none
  | .dr => none
  | d => some (d.ty == T || (d.ty == "bool" && T == "int"))
def IsiT (T : String) : Prop := ∀ s ∈ ["NoneType", "bool", "int", "str", "tuple", "list"], kitB s T = some (s == T || (s == "bool" && T == "int"))
theorem isi_int : IsiT "int" := by unfold IsiT; decide +kernel
theorem isi_bool : IsiT "bool" := by unfold IsiT; decide +kernel
theorem isi_str : IsiT "str" := by unfold IsiT; decide +kernel
theorem isi_tuple : IsiT "tuple" := by unfold IsiT; decide +kernel
theorem isi_list : IsiT "list" := by unfold IsiT; decide +kernel
def cIsi (T : String) (F : CEx) : CEx := fun ρ dr => (F ρ dr).bind fun d dr => R.opt ((d.isi T).map .bl) dr
theorem rp_ty {c : DC} {O : Addr → Prop} {H : Hp} {v : V} {d : D} {T : String} {k : Bool} {fp : List Addr} (r : Rp c O H v d fp) (hT : IsiT T) (e : d.isi T = some k) : ∃ t, TyX c.K H v t ∧ PySem.W.kitOne c.K t (.type T) = some k := by
  cases r with
  | non => cases e; exact ⟨_, .base .non, kit_ty (hT "NoneType" (by decide))⟩
  | bl b => cases e; exact ⟨_, .base (.bl b), kit_ty (hT "bool" (by decide))⟩
  | int i => cases e; exact ⟨_, .base (.int i), kit_ty (hT "int" (by decide))⟩
  | str x => cases e; exact ⟨_, .base (.str x), kit_ty (hT "str" (by decide))⟩
  | fn _ => cases e
  | dr _ => cases e
  | tup h _ _ => cases e; exact ⟨_, .base (.tup h), kit_ty (hT "tuple" (by decide))⟩
  | tupK h _ =>
    cases e
    obtain ⟨o, its, n, h1, h2, _⟩ := h
    exact ⟨_, .kTuple h1 h2, kit_ty (hT "tuple" (by decide))⟩
  | lst h _ _ => cases e; exact ⟨_, .base (.lst h), kit_ty (hT "list" (by decide))⟩
  | own h _ => cases e; exact ⟨_, .base (.lst h), kit_ty (hT "list" (by decide))⟩
theorem ee_isi {T : String} {y : Str} {p2 : Pos} (hT : IsiT T) (hm : X.mg "isinstance" = none) (hy : X.mg y = none) (hv : bootBuiltins y = some (.type T)) (ha : BE X dra W a F) (hg : Gl X "isinstance" := by rfl) (hg2 : Gl X y := by rfl) (hn : y ≠ "__name__" := by decide) (hdb : (y == ("__debug__" : Str)) = false := by decide)
    (hs : starEach [a, .Name y p2] X.env = (false, eval a X.env) :: starEach [.Name y p2] X.env := by rfl) : EE X dra W (.Call (.Name "isinstance" p) [a, .Name y p2] [] pos) (cIsi T F) :=
  ⟨wkE (pe_callB call_isi hg hm (by decide +kernel) (pa_cons ha.pe (pa_cons (pe_bltn (v := .ty T) hg2 hy hv rfl hn hdb) pa_nil rfl) hs) (by decide) (by decide) hs rfl) fun σ H Q ⟨en, O, lf, ρ, dr, S, w⟩ => by
    refine ⟨en, O, lf, ρ, dr, S, (Wp.bind w).mono (fun d dr' k v H' fp x dw r nd fr => ?_) fun _ _ k => k⟩
    obtain ⟨z, e, q⟩ := k.opt
    obtain ⟨k', e1, e2⟩ := Option.map_eq_some_iff.mp e
    subst e2
    obtain ⟨t, h1, h2⟩ := rp_ty r hT e1
    exact ⟨v, .ty T, t, .type T, k', rfl, .ty T, h1, h2, (OkE.later q x).atom dw (.bl _)⟩⟩

/-! ### list(range(..)) -/
def cRg1 (F : CEx) : Rho → Dr → R (Int × Int) := fun ρ dr => (F ρ dr).bind fun d dr => match d with
  | .int n => .ok (0, n) dr
  | _ => .st
def cRg2 (F G : CEx) : Rho → Dr → R (Int × Int) := fun ρ dr => (F ρ dr).bind fun d dr => (G ρ dr).bind fun e dr => match d, e with
  | .int n, .int m => .ok (n, m) dr
  | _, _ => .st
def rgD (a b : Int) : List D := (List.range (b - a).toNat).map fun i => D.int (a + (i : Nat))
def okRg (a b : Int) : Bool := decide (-(2 ^ 62) ≤ a) && decide (a < 2 ^ 62) && decide (-(2 ^ 62) ≤ b) && decide (b < 2 ^ 62) && decide ((b - a).toNat ≤ 2 ^ 24)
theorem okRg_of {a b : Int} (h : okRg a b = true) : RgOk a b := by
  unfold okRg at h
  simp only [Bool.and_eq_true, decide_eq_true_eq] at h
  exact ⟨h.1.1.1.1, h.1.1.1.2, h.1.1.2, h.1.2, h.2⟩
def cLstRg (G : Rho → Dr → R (Int × Int)) : CEx := fun ρ dr => (G ρ dr).bind fun ab dr => if okRg ab.1 ab.2 = true then .ok (.lst true (rgD ab.1 ab.2)) dr else .st
theorem rps_ints {c : DC} {O : Addr → Prop} {H : Hp} : ∀ is : List Int, Rps c O H (is.map V.int) (is.map D.int) []
  | [] => .nil
  | i :: is => .cons (fp := []) (fq := []) (.int i) (rps_ints is)
theorem rps_rg {c : DC} {O : Addr → Prop} {H : Hp} (a b : Int) : Rps c O H (rgV a b) (rgD a b) [] := by
  have := rps_ints (c := c) (O := O) (H := H) ((List.range (b - a).toNat).map fun i => a + (i : Nat))
  rw [List.map_map, List.map_map] at this
  exact this
def tRg (c : DC) (W : WX) (G : Rho → Dr → R (Int × Int)) : L2.St → Hp → (Int → Int → Hp → Prop) → Prop := fun σ H Q => ∃ en O lf ρ dr, StOk c en O lf ρ dr σ H ∧ Wp (G ρ dr) (fun ab dr' => ∀ H', Ext c H H' → DrOk c dr' H' → Q ab.1 ab.2 H') (ExW c W σ H)
structure BRg (X : Cx) (dra : Option (Addr × Addr)) (W : WX) (e : Expr) (G : Rho → Dr → R (Int × Int)) : Prop where
  pr : PRg X e (tRg (dc X dra) W G)
theorem brg1 (hm : X.mg "range" = none) (ha : BE X dra W a F) (hg : Gl X "range" := by rfl) (hs : starEach [a] X.env = (false, eval a X.env) :: starEach [] X.env := by rfl) : BRg X dra W (.Call (.Name "range" p) [a] [] pos) (cRg1 F) :=
  ⟨fun pins s σ H Q I ⟨en, O, lf, ρ, dr, S, w⟩ => prg_1 hg hm ha.pe hs pins s σ H Q I (by
    refine ⟨en, O, lf, ρ, dr, S, (Wp.bind w).mono (fun d dr' k v H' fp x dw r nd fr => ?_) fun _ _ k => k⟩
    cases d with
    | int n => cases r; exact ⟨n, rfl, k H' x dw⟩
    | _ => exact k.elim)⟩
theorem brg2 (hm : X.mg "range" = none) (ha : BE X dra W a F) (hb : BE X dra W b G) (hg : Gl X "range" := by rfl) (hs : starEach [a, b] X.env = (false, eval a X.env) :: starEach [b] X.env := by rfl)
    (hs2 : starEach [b] X.env = (false, eval b X.env) :: starEach [] X.env := by rfl) (hp : (backTo pos (starEach [b] X.env)).any (·.1) = false := by rfl) : BRg X dra W (.Call (.Name "range" p) [a, b] [] pos) (cRg2 F G) :=
  ⟨fun pins s σ H Q I ⟨en, O, lf, ρ, dr, S, w⟩ => prg_2 hg hm ha.pe hb.pe hs hs2 hp pins s σ H Q I (by
    refine ⟨en, O, lf, ρ, dr, S, (Wp.bind w).mono (fun d dr' k v H' fp x dw r nd fr => ?_) fun _ _ k => k⟩
    refine ⟨en, O, lf, ρ, dr', S.step x dw, (Wp.bind k).mono (fun d2 dr2 k2 v2 H2 fp2 x2 dw2 r2 nd2 fr2 => ?_) fun _ _ k => k.later x⟩
    cases d with
    | int n =>
      cases d2 with
      | int m => cases r; cases r2; exact ⟨n, m, rfl, rfl, k2 H2 (x.trans x2) dw2⟩
      | _ => exact k2.elim
    | _ => exact k2.elim)⟩
theorem ee_listRg {G : Rho → Dr → R (Int × Int)} (hc : X.calm = true) (hm : X.mg "list" = none) (h : BRg X dra W a G) (hg : Gl X "list" := by rfl) (hs : starEach [a] X.env = (false, eval a X.env) :: starEach [] X.env := by rfl) : EE X dra W (.Call (.Name "list" p) [a] [] pos) (cLstRg G) :=
  ⟨wkE (pe_listRg hc hg hm h.pr hs) fun σ H Q ⟨en, O, lf, ρ, dr, S, w⟩ => by
    refine ⟨en, O, lf, ρ, dr, S, (Wp.bind w).mono (fun ab dr' k H' x dw => ?_) fun _ _ k => k⟩
    by_cases hz : okRg ab.1 ab.2 = true
    · rw [if_pos hz] at k
      exact ⟨okRg_of hz, fun q hq => (OkE.later (show OkE (dc X dra) O H Q _ dr' from k) x).newL dw hq (rps_rg _ _)⟩
    · rw [if_neg hz] at k; exact k.elim⟩
end
end DL
/-! DL8 -/
/-! DL8: statements: stores, blocks, ifs, returns, lists changed in place. -/
namespace DL
open PySem PySem.Spec PyProof.Rows L2

inductive SR where
  | st | nx (ρ : Rho) (dr : Dr) | rt (d : D) (dr : Dr) | bk (ρ : Rho) (dr : Dr) | ct (ρ : Rho) (dr : Dr) | ex (e : Exn) (ρ : Rho) (dr : Dr)
abbrev CSx := Rho → Dr → SR
/-- what stood and was nobody's own stands; what is one's own now was so, or is new -/
structure Grow (c : DC) (O : Addr → Prop) (H : Hp) (O' : Addr → Prop) (H' : Hp) : Prop where
  keep : ∀ a o, H a = some o → ¬ O a → H' a = some o
  new : ∀ a, O' a → O a ∨ H a = none
  trk : ∀ a, H a ≠ none → H' a ≠ none
def WpS (r : SR) (c : DC) (en : En) (O : Addr → Prop) (H : Hp) (De : Ends) (W : WX) : Prop := match r with
  | .st => False
  | .nx ρ' dr' => ∀ σ' H' O', StOk c en O' [] ρ' dr' σ' H' → Grow c O H O' H' → De.nx σ' H'
  | .rt d dr' => ∀ v H' fp, Ext c en.He H' → DrOk c dr' H' → Rp c (orO en.Oe fp) H' v d fp → fp.Nodup → (∀ a ∈ fp, en.He a = none) → De.rt v H'
  | .bk ρ' dr' => ∀ σ' H' O', StOk c en O' [] ρ' dr' σ' H' → Grow c O H O' H' → De.bk σ' H'
  | .ct ρ' dr' => ∀ σ' H' O', StOk c en O' [] ρ' dr' σ' H' → Grow c O H O' H' → De.ct σ' H'
  | .ex e ρ' dr' => ∀ cls od σ' H' O', StOk c en O' [] ρ' dr' σ' H' → Grow c O H O' H' → ExOk c e cls od H' → W cls od σ' H'
def tSt (c : DC) (W : WX) (F : CSx) : TS := fun De σ H => ∃ en O ρ dr, StOk c en O [] ρ dr σ H ∧ WpS (F ρ dr) c en O H De W
structure BS (X : Cx) (dra : Option (Addr × Addr)) (W : WX) (s : Stmt) (F : CSx) : Prop where
  ps : PS X s (tSt (dc X dra) W F)
structure BSs (X : Cx) (dra : Option (Addr × Addr)) (W : WX) (s : List Stmt) (F : CSx) : Prop where
  ps : PSs X s (tSt (dc X dra) W F)
theorem wkS {X : Cx} {s : Stmt} {t t' : TS} (h : PS X s t) (i : ∀ De σ H, t' De σ H → t De σ H) : PS X s t' := ⟨fun pins s σ H De I hw => h.run pins s σ H De I (i De σ H hw)⟩
theorem wkSs {X : Cx} {s : List Stmt} {t t' : TS} (h : PSs X s t) (i : ∀ De σ H, t' De σ H → t De σ H) : PSs X s t' := ⟨fun pins s σ H De I hw => h.run pins s σ H De I (i De σ H hw)⟩

section
variable {c : DC} {en : En} {O O' O1 : Addr → Prop} {lf fp fq fx : List Addr} {ρ : Rho} {dr dr' : Dr} {σ : L2.St} {H H' H1 H2 : Hp} {v : V} {d : D} {W : WX} {De : Ends}
theorem Grow.refl : Grow c O H O H := ⟨fun _ _ e _ => e, fun _ h => .inl h, fun _ h => h⟩
theorem Grow.trans (a : Grow c O H O1 H1) (b : Grow c O1 H1 O' H') : Grow c O H O' H' := ⟨fun x o e n => b.keep x o (a.keep x o e n) fun z => (a.new x z).elim n (fun k => by rw [k] at e; cases e),
  fun x z => (b.new x z).elim (a.new x) fun k => by
    cases q : H x with
    | none => exact .inr rfl
    | some o => exact absurd k (a.trk x (by rw [q]; exact fun z => nomatch z)), fun x h => b.trk x (a.trk x h)⟩
theorem Ext.grow (e : Ext c H H') (o : ∀ p, c.dra = some p → O p.1) : Grow c O H O H' := ⟨fun a ob q n => e.keep a ob q fun p hp z => n (by rw [z]; exact o p hp), fun _ h => .inl h, e.trk⟩
theorem Ext.growO (e : Ext c H H') (o : ∀ p, c.dra = some p → O p.1) (fr : ∀ a ∈ fp, H a = none) : Grow c O H (orO O fp) H' := ⟨fun a ob q n => e.keep a ob q fun p hp z => n (by rw [z]; exact o p hp), fun a h => h.elim .inl fun m => .inr (fr a m), e.trk⟩
theorem Rp.grow (r : Rp c O H v d []) (g : Grow c O H O' H') : Rp c O' H' v d [] := Rp.mono d r (fun a o e z => g.keep a o e (z.elim id fun k => nomatch k)) fun a o e n z => (g.new a z).elim n fun k => by rw [k] at e; cases e
theorem Rps.grow {vs : List V} {ds : List D} (r : Rps c O H vs ds []) (g : Grow c O H O' H') : Rps c O' H' vs ds [] := Rps.mono ds r (fun a o e z => g.keep a o e (z.elim id fun k => nomatch k)) fun a o e n z => (g.new a z).elim n fun k => by rw [k] at e; cases e
theorem WpS.later {r : SR} (w : WpS r c en O H De W) (g : Grow c O H O' H') : WpS r c en O' H' De W := by
  cases r with
  | st => exact w
  | nx _ _ => exact fun σ' H2 O2 S g2 => w σ' H2 O2 S (g.trans g2)
  | rt _ _ => exact w
  | bk _ _ => exact fun σ' H2 O2 S g2 => w σ' H2 O2 S (g.trans g2)
  | ct _ _ => exact fun σ' H2 O2 S g2 => w σ' H2 O2 S (g.trans g2)
  | ex _ _ _ => exact fun cls od σ' H2 O2 S g2 => w cls od σ' H2 O2 S (g.trans g2)

/-- a value is put into a slot; its own things come out of the hand -/
theorem StOk.set {i : Nat} (S : StOk c en O (fq ++ lf) ρ dr σ H) (r : Rp c O H v d fq) : StOk c en O lf (ρ.set i (some d)) dr (σ.set i (some v)) H := by
  obtain ⟨fps, h1, h2, h3, h4⟩ := S.slots
  have hsub : ∀ a, a ∈ lf ++ (fps.set i fq).flatten → a ∈ (fq ++ lf) ++ fps.flatten := fun a ha => by
    rcases List.mem_append.mp ha with ha | ha
    · exact List.mem_append_left _ (List.mem_append_right _ ha)
    · obtain ⟨l, hl, hm⟩ := List.mem_flatten.mp ha
      rcases List.mem_or_eq_of_mem_set hl with hl | rfl
      · exact List.mem_append_right _ (List.mem_flatten.mpr ⟨l, hl, hm⟩)
      · exact List.mem_append_left _ (List.mem_append_left _ hm)
  refine ⟨⟨fps.set i fq, by rw [List.length_set, List.length_set, h1], ?_, fun a ha => h3 a (hsub a ha), fun j e hj => ?_⟩, by rw [List.length_set, List.length_set, S.len], S.trk, S.sub, S.ext, S.drw, S.odr, S.edr, S.oe, S.ed2⟩
  · by_cases hi : i < fps.length
    · have e1 : fps = fps.take i ++ fps[i] :: fps.drop (i + 1) := by rw [List.getElem_cons_drop, List.take_append_drop]
      have e2 : fps.set i fq = fps.take i ++ fq :: fps.drop (i + 1) := List.set_eq_take_append_cons_drop.trans (if_pos hi)
      have f1 : fps.flatten = (fps.take i).flatten ++ (fps[i] ++ (fps.drop (i + 1)).flatten) := by
        conv => lhs; rw [e1]
        rw [List.flatten_append, List.flatten_cons]
      have f2 : (fps.set i fq).flatten = (fps.take i).flatten ++ (fq ++ (fps.drop (i + 1)).flatten) := by rw [e2, List.flatten_append, List.flatten_cons]
      rw [f2]
      rw [f1] at h2
      have hp : (lf ++ ((fps.take i).flatten ++ (fq ++ (fps.drop (i + 1)).flatten))).Perm (fq ++ lf ++ ((fps.take i).flatten ++ (fps.drop (i + 1)).flatten)) := by
        have p1 : ((fps.take i).flatten ++ (fq ++ (fps.drop (i + 1)).flatten)).Perm (fq ++ ((fps.take i).flatten ++ (fps.drop (i + 1)).flatten)) := by
          rw [← List.append_assoc, ← List.append_assoc]
          exact List.Perm.append_right _ List.perm_append_comm
        have p2 := List.Perm.append_left lf p1
        refine p2.trans ?_
        rw [← List.append_assoc]
        exact List.Perm.append_right _ List.perm_append_comm
      refine hp.nodup_iff.mpr (h2.sublist ?_)
      refine List.Sublist.append_left (List.Sublist.append_left ?_ _) _
      exact List.sublist_append_right ..
    · rw [List.set_eq_of_length_le (by omega)]
      refine h2.sublist ?_
      rw [List.append_assoc]
      exact List.sublist_append_right ..
  · by_cases hij : i = j
    · subst hij
      by_cases hi : i < ρ.length
      · rw [List.getElem?_set_self hi] at hj
        cases hj
        exact ⟨v, fq, by rw [List.getElem?_set_self (by rw [← S.len]; exact hi)], by rw [List.getElem?_set_self (by rw [h1]; exact hi)], r⟩
      · rw [List.getElem?_eq_none (by rw [List.length_set]; omega)] at hj; cases hj
    · rw [List.getElem?_set_ne hij] at hj
      obtain ⟨u, fp, e1, e2, r'⟩ := h4 j e hj
      exact ⟨u, fp, by rw [List.getElem?_set_ne hij]; exact e1, by rw [List.getElem?_set_ne hij]; exact e2, r'⟩
theorem StOk.set0 {i : Nat} (S : StOk c en O lf ρ dr σ H) (r : Rp c O H v d []) : StOk c en O lf (ρ.set i (some d)) dr (σ.set i (some v)) H := StOk.set (fq := []) S r
end

section
variable {X : Cx} {dra : Option (Addr × Addr)} {W : WX} {e a b d : Expr} {es : List Expr} {F G F1 F2 F3 : CEx} {A : CAx} {T : CTx} {S1 S2 : CSx} {pos p : Pos} {s : Stmt} {ss ss2 : List Stmt}
/-! ### blocks -/
def cSkip : CSx := fun ρ dr => .nx ρ dr
def cSeq (S1 S2 : CSx) : CSx := fun ρ dr => match S1 ρ dr with
  | .nx ρ' dr' => S2 ρ' dr'
  | r => r
theorem bss_nil : BSs X dra W [] cSkip := ⟨wkSs pss_nil fun De σ H ⟨en, O, ρ, dr, S, w⟩ => w σ H O S .refl⟩
theorem bss_one (h : BS X dra W s S1) : BSs X dra W [s] S1 := ⟨pss_one h.ps⟩
theorem bss_cons (h : BS X dra W s S1) (h2 : BSs X dra W ss S2) : BSs X dra W (s :: ss) (cSeq S1 S2) := ⟨wkSs (pss_cons h.ps h2.ps) fun De σ H ⟨en, O, ρ, dr, S, w⟩ => by
  refine ⟨en, O, ρ, dr, S, ?_⟩
  unfold cSeq at w
  cases e : S1 ρ dr with
  | nx ρ' dr' =>
    rw [e] at w
    exact fun σ' H' O' S' g => ⟨en, O', ρ', dr', S', WpS.later w g⟩
  | st => rw [e] at w; exact w
  | rt _ _ => rw [e] at w; exact w
  | bk _ _ => rw [e] at w; exact w
  | ct _ _ => rw [e] at w; exact w
  | ex _ _ _ => rw [e] at w; exact w⟩
def cBk : CSx := fun ρ dr => .bk ρ dr
def cCt : CSx := fun ρ dr => .ct ρ dr
theorem bs_pass : BS X dra W (.Pass pos) cSkip := ⟨wkS ps_pass fun De σ H ⟨en, O, ρ, dr, S, w⟩ => w σ H O S .refl⟩
theorem bs_break : BS X dra W (.Break pos) cBk := ⟨wkS ps_break fun De σ H ⟨en, O, ρ, dr, S, w⟩ => w σ H O S .refl⟩
theorem bs_cont : BS X dra W (.Continue pos) cCt := ⟨wkS ps_continue fun De σ H ⟨en, O, ρ, dr, S, w⟩ => w σ H O S .refl⟩
/-- given away ahead of a statement -/
def cFz (i : Nat) : CSx := fun ρ dr => match ρ[i]? with
  | some (some d) => .nx (ρ.set i (some d.fz)) dr
  | _ => .st

/-! ### name = value -/
def R.stm (r : R D) (ρ : Rho) (f : D → Dr → SR) : SR := match r with
  | .st => .st
  | .ok d dr => f d dr
  | .ex e dr => .ex e ρ dr
/-- nobody's own from then on; one's own -/
def cSet (i : Nat) (F : CEx) : CSx := fun ρ dr => (F ρ dr).stm ρ fun d dr => .nx (ρ.set i (some d.fz)) dr
def cSetO (i : Nat) (F : CEx) : CSx := fun ρ dr => (F ρ dr).stm ρ fun d dr => .nx (ρ.set i (some d)) dr
theorem WpS.stm {r : R D} {ρ : Rho} {f : D → Dr → SR} {c : DC} {en : En} {O : Addr → Prop} {H : Hp} {De : Ends} {dr : Dr} {σ : L2.St} (S : StOk c en O [] ρ dr σ H) (w : WpS (r.stm ρ f) c en O H De W) : Wp r (fun d dr => WpS (f d dr) c en O H De W) (ExW c W σ H) := by
  cases r with
  | st => exact w
  | ok d dr => exact w
  | ex e dr' => exact fun cls od H' x dw ex => w cls od σ H' O (S.step x dw) (x.grow S.odr) ex
theorem imp_set {c : DC} {i : Nat} {De : Ends} {σ : L2.St} {H : Hp} (h : tSt c W (cSet i F) De σ H) : tE c W F σ H fun x H1 => De.nx (σ.set i (some x)) H1 := by
  obtain ⟨en, O, ρ, dr, S, w⟩ := h
  refine ⟨en, O, [], ρ, dr, S, (WpS.stm S w).mono (fun d dr' k v H' fp x dw r nd fr => ?_) fun _ _ k => k⟩
  exact k (σ.set i (some v)) H' O ((S.step x dw).set0 (r.orl.fz d fun a ha z => S.trk a z (fr a ha))) (x.grow S.odr)
theorem imp_setO {c : DC} {i : Nat} {De : Ends} {σ : L2.St} {H : Hp} (h : tSt c W (cSetO i F) De σ H) : tE c W F σ H fun x H1 => De.nx (σ.set i (some x)) H1 := by
  obtain ⟨en, O, ρ, dr, S, w⟩ := h
  refine ⟨en, O, [], ρ, dr, S, (WpS.stm S w).mono (fun d dr' k v H' fp x dw r nd fr => ?_) fun _ _ k => k⟩
  exact k (σ.set i (some v)) H' (orO O fp) ((S.hold x dw nd fr (r.trk d)).set r) (x.growO S.odr fr)
theorem bs_set {i : Nat} {x : Str} {p' : Pos} (hN : X.N.Nodup) (he : EE X dra W e F) (hi : X.N[i]? = some x := by rfl) (hx : Loc X.env.scope x := by first | exact Or.inl rfl | exact Or.inr rfl) (hs : swapsWith e (some (.Name x p')) pos.line X.env = pure false := by rfl)
    (hf : X.fn x = true ∨ X.env.scope.names.lookup x = some .local := by first | exact .inl rfl | exact .inr rfl) : BS X dra W (.Assign [.Name x p'] e pos) (cSet i F) :=
  ⟨wkS (ps_set hN hi hx he.pe hs hf) fun De σ H h => imp_set h⟩
theorem bs_setO {i : Nat} {x : Str} {p' : Pos} (hN : X.N.Nodup) (he : EE X dra W e F) (hi : X.N[i]? = some x := by rfl) (hx : Loc X.env.scope x := by first | exact Or.inl rfl | exact Or.inr rfl) (hs : swapsWith e (some (.Name x p')) pos.line X.env = pure false := by rfl)
    (hf : X.fn x = true ∨ X.env.scope.names.lookup x = some .local := by first | exact .inl rfl | exact .inr rfl) : BS X dra W (.Assign [.Name x p'] e pos) (cSetO i F) :=
  ⟨wkS (ps_set hN hi hx he.pe hs hf) fun De σ H h => imp_setO h⟩

/-! ### return, if -/
def cRet (F : CEx) : CSx := fun ρ dr => (F ρ dr).stm ρ fun d dr => .rt d dr
def cIfS (T : CTx) (S1 S2 : CSx) : CSx := fun ρ dr => match T ρ dr with
  | .st => .st
  | .ok b dr' => if b = true then S1 ρ dr' else S2 ρ dr'
  | .ex e dr' => .ex e ρ dr'
theorem bs_ret (he : BE X dra W e F) : BS X dra W (.Return (some e) pos) (cRet F) := ⟨wkS (ps_ret he.pe) fun De σ H ⟨en, O, ρ, dr, S, w⟩ => by
  refine ⟨en, O, [], ρ, dr, S, (WpS.stm S w).mono (fun d dr' k v H' fp x dw r nd fr => ?_) fun _ _ k => k⟩
  exact k v H' fp (S.ext.trans x) dw (r.anti fun a z => z.elim (fun z => .inl (S.sub a z)) .inr) nd fr⟩
def cRetN : CSx := fun _ dr => .rt .non dr
theorem bs_retN : BS X dra W (.Return none pos) cRetN := ⟨wkS ps_retN fun De σ H ⟨en, O, ρ, dr, S, w⟩ => w .non H [] S.ext S.drw .non List.nodup_nil fun _ z => nomatch z⟩
theorem bs_if (ht : BT X dra W e T) (h1 : BSs X dra W ss S1) (h2 : BSs X dra W ss2 S2) : BS X dra W (.If e ss ss2 pos) (cIfS T S1 S2) := ⟨wkS (ps_if ht.pt h1.ps h2.ps) fun De σ H ⟨en, O, ρ, dr, S, w⟩ => by
  refine ⟨en, O, [], ρ, dr, S, ?_⟩
  unfold cIfS at w
  cases e : T ρ dr with
  | st => rw [e] at w; exact w
  | ok b dr' =>
    rw [e] at w
    intro H' x dw
    have S' := S.step x dw
    cases b with
    | true => exact ⟨en, O, ρ, dr', S', WpS.later (show WpS (S1 ρ dr') _ _ _ _ _ _ from w) (x.grow S.odr)⟩
    | false => exact ⟨en, O, ρ, dr', S', WpS.later (show WpS (S2 ρ dr') _ _ _ _ _ _ from w) (x.grow S.odr)⟩
  | ex e' dr' =>
    rw [e] at w
    exact fun cls od H' x dw ex => w cls od σ H' O (S.step x dw) (x.grow S.odr) ex⟩
def cDrop (F : CEx) : CSx := fun ρ dr => (F ρ dr).stm ρ fun _ dr => .nx ρ dr
theorem bs_expr (he : BE X dra W e F) (hs : swapsWith e none pos.line X.env = pure false := by rfl) : BS X dra W (.Expr e pos) (cDrop F) := ⟨wkS (ps_expr he.pe hs) fun De σ H ⟨en, O, ρ, dr, S, w⟩ => by
  refine ⟨en, O, [], ρ, dr, S, (WpS.stm S w).mono (fun d dr' k v H' fp x dw r nd fr => ?_) fun _ _ k => k⟩
  exact k σ H' O (S.step x dw) (x.grow S.odr)⟩
/-- given away, then the statement -/
theorem StOk.give {c : DC} {en : En} {O : Addr → Prop} {ρ : Rho} {dr : Dr} {σ : L2.St} {H : Hp} {i : Nat} {d : D} (S : StOk c en O [] ρ dr σ H) (hi : ρ[i]? = some (some d)) :
    ∃ O', StOk c en O' [] (ρ.set i (some d.fz)) dr σ H ∧ (∀ a, O' a → O a) := by
  obtain ⟨fps, h1, h2, h3, h4⟩ := S.slots
  obtain ⟨v, fp, e1, e2, r⟩ := h4 i d hi
  have hlt : i < ρ.length := (List.getElem?_eq_some_iff.mp hi).1
  have inO : ∀ a ∈ fp, a ∈ [] ++ fps.flatten := fun a ha => List.mem_append_right _ (List.mem_flatten.mpr ⟨fp, List.mem_of_getElem? e2, ha⟩)
  have r' : Rp c (fun a => O a ∧ a ∉ fp) H v d.fz [] := (r.anti fun a h => h.1).fz d fun a ha z => z.2 ha
  have hsub : List.Sublist (fps.set i []).flatten fps.flatten := by
    by_cases hi2 : i < fps.length
    · have e1 : fps = fps.take i ++ fps[i] :: fps.drop (i + 1) := by rw [List.getElem_cons_drop, List.take_append_drop]
      have e2 : fps.set i [] = fps.take i ++ [] :: fps.drop (i + 1) := List.set_eq_take_append_cons_drop.trans (if_pos hi2)
      conv => rhs; rw [e1]
      rw [e2, List.flatten_append, List.flatten_append, List.flatten_cons, List.flatten_cons]
      exact List.Sublist.append_left (List.sublist_append_right ..) _
    · rw [List.set_eq_of_length_le (by omega)]; exact List.Sublist.refl _
  have ndA : ∀ a ∈ (fps.set i []).flatten, a ∉ fp := fun a ha hm => by
    have hi2 : i < fps.length := by rw [h1]; exact hlt
    have e1 : fps = fps.take i ++ fps[i] :: fps.drop (i + 1) := by rw [List.getElem_cons_drop, List.take_append_drop]
    have e3 : fps[i] = fp := by
      have := List.getElem?_eq_getElem hi2
      rw [e2] at this
      exact (Option.some.inj this).symm
    have e4 : fps.set i [] = fps.take i ++ [] :: fps.drop (i + 1) := List.set_eq_take_append_cons_drop.trans (if_pos hi2)
    rw [e4, List.flatten_append, List.flatten_cons, List.nil_append] at ha
    rw [List.nil_append, e1, e3, List.flatten_append, List.flatten_cons] at h2
    have h5 := List.nodup_append.mp h2
    rcases List.mem_append.mp ha with ha | ha
    · exact h5.2.2 a ha a (List.mem_append_left _ hm) rfl
    · exact (List.nodup_append.mp h5.2.1).2.2 a hm a ha rfl
  refine ⟨fun a => O a ∧ a ∉ fp, ⟨⟨fps.set i [], by rw [List.length_set, List.length_set, h1], ?_, fun a ha => ?_, fun j e hj => ?_⟩, by rw [List.length_set, S.len], fun a ha => S.trk a ha.1, fun a ha => ⟨S.sub a ha, fun m => S.oe a ha (h3 _ (inO _ m)).2⟩, S.ext, S.drw, fun p hp => ⟨S.odr p hp, fun m => S.edr p hp (h3 _ (inO _ m)).2⟩, S.edr, S.oe, S.ed2⟩, fun a h => h.1⟩
  · rw [List.nil_append] at h2 ⊢
    exact h2.sublist hsub
  · rw [List.nil_append] at ha
    have := h3 a (List.mem_append_right _ (hsub.subset ha))
    exact ⟨⟨this.1, ndA a ha⟩, this.2⟩
  · by_cases hij : i = j
    · subst hij
      rw [List.getElem?_set_self hlt] at hj
      cases hj
      exact ⟨v, [], e1, by rw [List.getElem?_set_self (by rw [h1]; exact hlt)], r'⟩
    · rw [List.getElem?_set_ne hij] at hj
      obtain ⟨u, fq, g1, g2, g3⟩ := h4 j e hj
      exact ⟨u, fq, g1, by rw [List.getElem?_set_ne hij]; exact g2, g3.anti fun a h => h.1⟩
theorem bs_fz {i : Nat} (h : BS X dra W s S1) : BS X dra W s (cSeq (cFz i) S1) := ⟨wkS h.ps fun De σ H ⟨en, O, ρ, dr, S, w⟩ => by
  unfold cSeq cFz at w
  cases e : ρ[i]? with
  | none => rw [e] at w; exact w.elim
  | some o =>
    cases o with
    | none => rw [e] at w; exact w.elim
    | some d =>
      rw [e] at w
      obtain ⟨O', S', hO⟩ := S.give e
      exact ⟨en, O', _, dr, S', WpS.later (show WpS (S1 _ dr) _ _ _ _ _ _ from w) ⟨fun _ _ e _ => e, fun a h => .inl (hO a h), fun _ h => h⟩⟩⟩
end
end DL
/-! DL9 -/
/-! DL9: lists changed in place. -/
namespace DL
open PySem PySem.Spec PyProof.Rows L2

theorem nd_swap {α : Type} {fx lf A B o g : List α} (h : (fx ++ lf ++ (A ++ (o ++ B))).Nodup) (hg : g.Nodup) (hs : ∀ b ∈ g, b ∈ o ∨ b ∈ fx) : (lf ++ (A ++ (g ++ B))).Nodup := by
  simp only [List.nodup_append, List.mem_append] at h ⊢
  obtain ⟨⟨h1, h2, h3⟩, ⟨h4, ⟨h5, h6, h7⟩, h8⟩, h9⟩ := h
  refine ⟨h2, ⟨h4, ⟨hg, h6, ?_⟩, ?_⟩, ?_⟩
  · intro a ha b hb e
    subst e
    rcases hs a ha with z | z
    · exact h7 a z a hb rfl
    · exact h9 a (.inl z) a (.inr (.inr hb)) rfl
  · intro a ha b hb e
    subst e
    rcases hb with hb | hb
    · rcases hs a hb with z | z
      · exact h8 a ha a (.inl z) rfl
      · exact h9 a (.inl z) a (.inl ha) rfl
    · exact h8 a ha a (.inr hb) rfl
  · intro a ha b hb e
    subst e
    rcases hb with hb | hb | hb
    · exact h9 a (.inr ha) a (.inl hb) rfl
    · rcases hs a hb with z | z
      · exact h9 a (.inr ha) a (.inr (.inl z)) rfl
      · exact h3 a z a ha rfl
    · exact h9 a (.inr ha) a (.inr (.inr hb)) rfl

section
variable {c : DC} {en : En} {O : Addr → Prop} {lf fx : List Addr} {ρ : Rho} {dr : Dr} {σ : L2.St} {H : Hp} {i : Nat} {d d' : D}
/-- the place of a slot among the others -/
theorem flat_at {fps : List (List Addr)} {fp g : List Addr} (h : fps[i]? = some fp) : ∃ A B, fps.flatten = A ++ (fp ++ B) ∧ (fps.set i g).flatten = A ++ (g ++ B) ∧ ∀ (j : Nat) fq, j ≠ i → fps[j]? = some fq → ∀ a ∈ fq, a ∈ A ++ B := by
  have hi : i < fps.length := (List.getElem?_eq_some_iff.mp h).1
  have e3 : fps[i] = fp := (List.getElem?_eq_some_iff.mp h).2
  have e1 : fps = fps.take i ++ fps[i] :: fps.drop (i + 1) := by rw [List.getElem_cons_drop, List.take_append_drop]
  refine ⟨(fps.take i).flatten, (fps.drop (i + 1)).flatten, ?_, ?_, fun j fq hj hq a ha => ?_⟩
  · conv => lhs; rw [e1]
    rw [List.flatten_append, List.flatten_cons, e3]
  · rw [List.set_eq_take_append_cons_drop, if_pos hi, List.flatten_append, List.flatten_cons]
  · obtain ⟨hj2, e4⟩ := List.getElem?_eq_some_iff.mp hq
    rcases Nat.lt_or_gt_of_ne hj with z | z
    · refine List.mem_append_left _ (List.mem_flatten.mpr ⟨fq, ?_, ha⟩)
      rw [← e4]
      exact List.mem_take_iff_getElem.mpr ⟨j, by omega, by simp⟩
    · refine List.mem_append_right _ (List.mem_flatten.mpr ⟨fq, ?_, ha⟩)
      rw [← e4]
      exact List.mem_drop_iff_getElem.mpr ⟨j - (i + 1), by omega, by congr 1; omega⟩
/-- one's own thing in slot i is changed at the place a -/
theorem StOk.chg (S : StOk c en O (fx ++ lf) ρ dr σ H) (hi : ρ[i]? = some (some d)) :
    ∃ v fp, σ[i]? = some (some v) ∧ Rp c O H v d fp ∧ (fx ++ lf ++ fp).Nodup ∧ (∀ a ∈ fp, O a ∧ en.He a = none) ∧ (∀ a ∈ fx, O a ∧ en.He a = none) ∧ ∀ a o fp', a ∈ fp → Rp c O (upd H a o) v d' fp' → fp'.Nodup → (∀ b ∈ fp', b ∈ fp ∨ b ∈ fx) →
      StOk c en O lf (ρ.set i (some d')) dr σ (upd H a o) ∧ Grow c O H O (upd H a o) := by
  obtain ⟨fps, h1, h2, h3, h4⟩ := S.slots
  obtain ⟨v, fp, e1, e2, r⟩ := h4 i d hi
  have hlt : i < ρ.length := (List.getElem?_eq_some_iff.mp hi).1
  have inF : ∀ a ∈ fp, a ∈ (fx ++ lf) ++ fps.flatten := fun a ha => List.mem_append_right _ (List.mem_flatten.mpr ⟨fp, List.mem_of_getElem? e2, ha⟩)
  refine ⟨v, fp, e1, r, h2.sublist ?_, fun a ha => h3 a (inF a ha), fun a ha => h3 a (List.mem_append_left _ (List.mem_append_left _ ha)), fun a o fp' ha r' nd' sb => ?_⟩
  · exact List.Sublist.append_left (List.sublist_flatten_of_mem (List.mem_of_getElem? e2)) _
  · obtain ⟨A, B, f1, f2, f3⟩ := flat_at (g := fp') e2
    have Oa := (h3 a (inF a ha)).1
    have nEa := (h3 a (inF a ha)).2
    refine ⟨⟨⟨fps.set i fp', by rw [List.length_set, List.length_set, h1], ?_, fun b hb => ?_, fun j e hj => ?_⟩, by rw [List.length_set, S.len], fun b hb => ?_, S.sub, ⟨fun b ob q n => ?_, fun b q => ?_⟩, ?_, S.odr, S.edr, S.oe, S.ed2⟩, ⟨fun b ob q n => ?_, fun b z => .inl z, fun b q => ?_⟩⟩
    · rw [f2]
      rw [f1] at h2
      exact nd_swap h2 nd' sb
    · rw [f2] at hb
      refine h3 b ?_
      rw [f1]
      rcases List.mem_append.mp hb with hb | hb
      · exact List.mem_append_left _ (List.mem_append_right _ hb)
      · rcases List.mem_append.mp hb with hb | hb
        · exact List.mem_append_right _ (List.mem_append_left _ hb)
        · rcases List.mem_append.mp hb with hb | hb
          · rcases sb b hb with z | z
            · exact List.mem_append_right _ (List.mem_append_right _ (List.mem_append_left _ z))
            · exact List.mem_append_left _ (List.mem_append_left _ z)
          · exact List.mem_append_right _ (List.mem_append_right _ (List.mem_append_right _ hb))
    · by_cases hij : i = j
      · subst hij
        rw [List.getElem?_set_self hlt] at hj
        cases hj
        exact ⟨v, fp', e1, by rw [List.getElem?_set_self (by rw [h1]; exact hlt)], r'⟩
      · rw [List.getElem?_set_ne hij] at hj
        obtain ⟨u, fq, g1, g2, g3⟩ := h4 j e hj
        refine ⟨u, fq, g1, by rw [List.getElem?_set_ne hij]; exact g2, Rp.mono e g3 (fun b ob q z => ?_) fun _ _ _ n => n⟩
        have hba : b ≠ a := by
          rintro rfl
          rcases z with z | z
          · exact z Oa
          · rw [f1] at h2
            have m := f3 j fq (fun z => hij z.symm) g2 b z
            have h5 := (List.nodup_append.mp h2).2.1
            rcases List.mem_append.mp m with m | m
            · exact (List.nodup_append.mp h5).2.2 b m b (List.mem_append_left _ ha) rfl
            · exact (List.nodup_append.mp (List.nodup_append.mp h5).2.1).2.2 b ha b m rfl
        rw [upd_ne hba]; exact q
    · by_cases hba : b = a
      · subst hba; rw [upd_same]; exact fun z => nomatch z
      · rw [upd_ne hba]; exact S.trk b hb
    · have hba : b ≠ a := by
        rintro rfl
        rw [nEa] at q; cases q
      rw [upd_ne hba]
      exact S.ext.keep b ob q n
    · by_cases hba : b = a
      · subst hba; rw [upd_same]; exact fun z => nomatch z
      · rw [upd_ne hba]; exact S.ext.trk b q
    · have dw := S.drw
      cases dr with
      | none => trivial
      | some s =>
        obtain ⟨p, hp, k1, k2, n⟩ := dw
        refine ⟨p, hp, ?_, ?_, n⟩
        · rw [upd_ne]
          · exact k1
          · rintro rfl
            exact S.edr p hp nEa
        · rw [upd_ne]
          · exact k2
          · rintro rfl
            exact S.ed2 p hp nEa
    · have hba : b ≠ a := by
        rintro rfl
        exact n Oa
      rw [upd_ne hba]; exact q
    · by_cases hba : b = a
      · subst hba; rw [upd_same]; exact fun z => nomatch z
      · rw [upd_ne hba]; exact q
/-- another place is written -/
theorem Rp.updO {o : HO} {a : Addr} {v : V} {fp : List Addr} (r : Rp c O H v d fp) (oa : O a) (n : a ∉ fp) : Rp c O (upd H a o) v d fp := Rp.mono d r (fun b ob q z => by
  have : b ≠ a := by
    rintro rfl
    exact z.elim (fun k => k oa) n
  rw [upd_ne this]; exact q) fun _ _ _ k => k
theorem Rps.updO {o : HO} {a : Addr} {vs : List V} {ds : List D} {fp : List Addr} (r : Rps c O H vs ds fp) (oa : O a) (n : a ∉ fp) : Rps c O (upd H a o) vs ds fp := Rps.mono ds r (fun b ob q z => by
  have : b ≠ a := by
    rintro rfl
    exact z.elim (fun k => k oa) n
  rw [upd_ne this]; exact q) fun _ _ _ k => k
/-- an item is put in the place of another -/
theorem Rps.set {v : V} {fv : List Addr} (rv : Rp c O H v d fv) : ∀ {ds : List D} {vs : List V} {fq : List Addr} (j : Nat), Rps c O H vs ds fq → (fv ++ fq).Nodup → ∃ fq', Rps c O H (vs.set j v) (ds.set j d) fq' ∧ fq'.Nodup ∧ ∀ b ∈ fq', b ∈ fq ∨ b ∈ fv
  | [], _, _, j, r, nd => by
    cases r
    exact ⟨[], .nil, List.nodup_nil, fun _ h => nomatch h⟩
  | e :: ds, _, _, 0, r, nd => by
    cases r with
    | cons r t =>
      rename_i f1 vs1 f2
      refine ⟨fv ++ f2, .cons rv t, nd.sublist (List.Sublist.append_left (List.sublist_append_right ..) _), fun b hb => ?_⟩
      rcases List.mem_append.mp hb with h | h
      · exact .inr h
      · exact .inl (List.mem_append_right _ h)
  | e :: ds, _, _, j + 1, r, nd => by
    cases r with
    | cons r t =>
      rename_i f1 vs1 f2
      obtain ⟨fq', r', nd', sb⟩ := Rps.set rv j t (nd.sublist (List.Sublist.append_left (List.sublist_append_right ..) _))
      refine ⟨f1 ++ fq', .cons r r', ?_, fun b hb => ?_⟩
      · rw [List.nodup_append] at nd ⊢
        obtain ⟨n1, n2, n3⟩ := nd
        rw [List.nodup_append] at n2
        refine ⟨n2.1, nd', fun a ha b hb e => ?_⟩
        subst e
        rcases sb a hb with z | z
        · exact n2.2.2 a ha a z rfl
        · exact n3 a z a (List.mem_append_left _ ha) rfl
      · rcases List.mem_append.mp hb with h | h
        · exact .inl (List.mem_append_left _ h)
        · rcases sb b h with z | z
          · exact .inl (List.mem_append_right _ z)
          · exact .inr z
/-- one's own list within a list is changed -/
theorem Rps.inner {b : Addr} {us' : List V} {es es' : List D} {fb fb' : List Addr} (ob : O b) (r' : Rps c O (upd H b (.lst us')) us' es' fb') (nd' : (b :: fb').Nodup) : ∀ {ds : List D} {vs : List V} {fq : List Addr} (j : Nat), Rps c O H vs ds fq → ds[j]? = some (.lst true es) → vs[j]? = some (.ref b) → fq.Nodup →
    (∀ a ∈ fb', a ∈ fb ∨ a ∈ fx) → (∀ us, H b = some (.lst us) → ∀ f, Rps c O H us es f → f = fb) → (∀ a ∈ fx, a ∉ fq) → ∃ fq', Rps c O (upd H b (.lst us')) vs (ds.set j (.lst true es')) fq' ∧ fq'.Nodup ∧ ∀ a ∈ fq', a ∈ fq ∨ a ∈ fx
  | [], _, _, j, r, h, _, _, _, _, _ => by simp at h
  | e :: ds, _, _, 0, r, h, hv, nd, sb, un, nx => by
    cases r with
    | cons r t =>
      rename_i v1 f1 vs1 f2
      have h : e = .lst true es := by simpa using h
      subst h
      have hv : v1 = .ref b := by simpa using hv
      subst hv
      cases r with
      | own e1 r1 =>
        rename_i us f3
        have e0 := un us e1 f3 r1
        subst e0
        have nb : b ∉ f2 := fun m => (List.nodup_append.mp nd).2.2 b List.mem_cons_self b m rfl
        refine ⟨(b :: fb') ++ f2, .cons (.own upd_same r') (t.updO ob nb), ?_, fun a ha => ?_⟩
        · rw [List.nodup_append] at nd ⊢
          refine ⟨nd', nd.2.1, fun a ha x hx e => ?_⟩
          subst e
          rcases List.mem_cons.mp ha with z | z
          · subst z; exact nb hx
          · rcases sb a z with z | z
            · exact nd.2.2 a (List.mem_cons_of_mem _ z) a hx rfl
            · exact nx a z (List.mem_append_right _ hx)
        · rcases List.mem_append.mp ha with z | z
          · rcases List.mem_cons.mp z with z | z
            · subst z; exact .inl (List.mem_append_left _ List.mem_cons_self)
            · rcases sb a z with z | z
              · exact .inl (List.mem_append_left _ (List.mem_cons_of_mem _ z))
              · exact .inr z
          · exact .inl (List.mem_append_right _ z)
  | e :: ds, _, _, j + 1, r, h, hv, nd, sb, un, nx => by
    cases r with
    | cons r t =>
      rename_i v1 f1 vs1 f2
      have hb2 : b ∈ f2 := by
        obtain ⟨v2, f4, g1, g2, g3⟩ := t.get (i := j) (d := .lst true es) (by simpa using h)
        have : v2 = .ref b := by
          have hv : vs1[j]? = some (.ref b) := by simpa using hv
          rw [g1] at hv; exact Option.some.inj hv
        subst this
        cases g2 with
        | own _ _ => exact g3.subset List.mem_cons_self
      have nb : b ∉ f1 := fun m => (List.nodup_append.mp nd).2.2 b m b hb2 rfl
      obtain ⟨fq', r2, nd2, sb2⟩ := Rps.inner ob r' nd' j t (by simpa using h) (by simpa using hv) (List.nodup_append.mp nd).2.1 sb un fun a ha m => nx a ha (List.mem_append_right _ m)
      refine ⟨f1 ++ fq', .cons (r.updO ob nb) r2, ?_, fun a ha => ?_⟩
      · rw [List.nodup_append] at nd ⊢
        refine ⟨nd.1, nd2, fun a ha x hx e => ?_⟩
        subst e
        rcases sb2 a hx with z | z
        · exact nd.2.2 a ha a z rfl
        · exact nx a z (List.mem_append_left _ ha)
      · rcases List.mem_append.mp ha with z | z
        · exact .inl (List.mem_append_left _ z)
        · rcases sb2 a z with z | z
          · exact .inl (List.mem_append_right _ z)
          · exact .inr z
end

section
variable {X : Cx} {dra : Option (Addr × Addr)} {W : WX} {e a b d : Expr} {F G J K : CEx} {pos p : Pos} {s : Stmt}
/-- a slot's own list as it stands -/
theorem own_at {c : DC} {O : Addr → Prop} {H : Hp} {v : V} {xs : List D} {fp : List Addr} (r : Rp c O H v (.lst true xs) fp) : ∃ a vs fq, v = .ref a ∧ fp = a :: fq ∧ H a = some (.lst vs) ∧ Rps c O H vs xs fq := by
  cases r with
  | own e r => exact ⟨_, _, _, rfl, rfl, e, r⟩
/-- y.append(e) -/
def cApp (i : Nat) (F : CEx) : CSx := fun ρ dr => match ρ[i]? with
  | some (some (.lst true xs)) => (F ρ dr).stm ρ fun d dr => if xs.length < sizeLine then .nx (ρ.set i (some (.lst true (xs ++ [d])))) dr else .st
  | _ => .st
theorem imp_app {c : DC} {i : Nat} {De : Ends} {σ : L2.St} {H : Hp} (h : tSt c W (cApp i F) De σ H) : tVar i σ H fun x H1 => tyV c.K "list" x H1 ∧ tE c W F σ H1 fun y H2 => rAppend x [y] H2 fun _ H3 => De.nx σ H3 := by
  obtain ⟨en, O, ρ, dr, S, w⟩ := h
  unfold cApp at w
  split at w
  · rename_i xs hi
    obtain ⟨v0, fp0, e0, r0, _, _, _, _⟩ := S.chg (d' := .non) (fx := []) (lf := []) hi
    obtain ⟨a, vs0, fq0, rfl, rfl, h0, s0⟩ := own_at r0
    refine ⟨.ref a, e0, .inl ⟨rfl, _, .inl (.inl h0)⟩, en, O, [], ρ, dr, S, (WpS.stm S w).mono (fun d dr' k u H1 fx x dw r nd fr => ?_) fun _ _ k => k⟩
    have S' := S.hold x dw nd fr (r.trk d)
    obtain ⟨v, fp, e1, r1, nd1, o1, o2, k1⟩ := S'.chg (d' := .lst true (xs ++ [d])) hi
    rw [e0] at e1
    cases e1
    obtain ⟨a', vs, fq, e2, rfl, h1, s1⟩ := own_at r1
    cases e2
    by_cases hz : xs.length < sizeLine
    · rw [if_pos hz] at k
      refine ⟨a, vs, u, rfl, rfl, h1, by rw [s1.len]; exact hz, ?_⟩
      rw [List.append_nil] at nd1
      have nda := List.nodup_append.mp nd1
      have na : a ∉ fx := fun m => nda.2.2 a m a List.mem_cons_self rfl
      have nq : a ∉ fq := (List.nodup_cons.mp nda.2.1).1
      have oa := (o1 a List.mem_cons_self).1
      obtain ⟨S2, g2⟩ := k1 a (.lst (vs ++ [u])) (a :: (fq ++ fx)) List.mem_cons_self (.own upd_same ((s1.updO oa nq).append (by
        have := (r.updO (o := .lst (vs ++ [u])) oa na)
        have q : Rps c (orO O fx) (upd H1 a (.lst (vs ++ [u]))) [u] [d] (fx ++ []) := .cons this .nil
        rw [List.append_nil] at q
        exact q))) (by
        refine List.nodup_cons.mpr ⟨fun m => (List.mem_append.mp m).elim nq na, ?_⟩
        rw [List.nodup_append]
        exact ⟨(List.nodup_cons.mp nda.2.1).2, nda.1, fun x hx y hy e => nda.2.2 y hy x (List.mem_cons_of_mem _ hx) e.symm⟩) (fun b hb => by
        rcases List.mem_cons.mp hb with z | z
        · exact .inl (z ▸ List.mem_cons_self)
        · rcases List.mem_append.mp z with z | z
          · exact .inl (List.mem_cons_of_mem _ z)
          · exact .inr z)
      exact k σ _ (orO O fx) S2 ((x.growO S.odr fr).trans g2)
    · rw [if_neg hz] at k; exact k.elim
  · exact w.elim
theorem bs_app {i : Nat} {y : Str} {p1 apos cpos : Pos} (he : EE X dra W e F) (hN : X.N[i]? = some y := by rfl) (hv : Vis X.env.scope y := by first | exact Or.inl rfl | exact Or.inr (Or.inl rfl) | exact Or.inr (Or.inr rfl)) (hd : (y == ("__debug__" : Str)) = false := by decide)
    (hcd : (y == ("__classdict__" : Str)) = false := by decide) (hbase : attributeBase (.Name y p1) "append" X.env (eval (.Name y p1) X.env) = eval (.Name y p1) X.env := by rfl)
    (hfew : ((backTo cpos (starEach [e] X.env)).all (fun x => !x.1) && (backToKw cpos (keywordEach [] X.env)).all (fun x => x.1.isSome) && decide (([e] : List Expr).length + ([] : List Keyword).length + (if ([] : List Keyword).isEmpty then 0 else 1) < 30)) = true := by rfl)
    (hline : (apos.endLine == cpos.line) = true := by rfl) (hs : starEach [e] X.env = (false, eval e X.env) :: starEach [] X.env := by rfl) (hsw : swapsWith (.Call (.Attribute (.Name y p1) "append" apos) [e] [] cpos) none pos.line X.env = pure false := by rfl) :
    BS X dra W (.Expr (.Call (.Attribute (.Name y p1) "append" apos) [e] [] cpos) pos) (cApp i F) :=
  ⟨wkS (ps_expr (pe_bm PySem.F.plainAttrs_list PySem.F.slot_list_append PySem.F.type_list_append mt_append (pv i hN hv hd hcd) (pa_cons he.pe pa_nil hs) hbase hfew hline hs) hsw) fun De σ H h => imp_app h⟩

def setK (i : Nat) (ρ : Rho) (xs : List D) (d : D) : D → Dr → SR
  | .int k, dr => match ixN xs.length k with
    | some j => .nx (ρ.set i (some (.lst true (xs.set j d)))) dr
    | none => .st
  | _, _ => .st
/-- y[j] = e -/
def cSetIx (i : Nat) (F J : CEx) : CSx := fun ρ dr => (F ρ dr).stm ρ fun d dr => match ρ[i]? with
  | some (some (.lst true xs)) => (J ρ dr).stm ρ (setK i ρ xs d)
  | _ => .st
theorem imp_setIx {c : DC} {i : Nat} {De : Ends} {σ : L2.St} {H : Hp} (h : tSt c W (cSetIx i F J) De σ H) : tE c W F σ H fun x H1 => tVar i σ H1 fun o H2 => tB c W J σ H2 fun k H3 => rSetL o k x H3 fun H4 => De.nx σ H4 := by
  obtain ⟨en, O, ρ, dr, S, w⟩ := h
  refine ⟨en, O, [], ρ, dr, S, (WpS.stm S w).mono (fun d dr' w1 u H1 fx x dw r nd fr => ?_) fun _ _ k => k⟩
  have S' := S.hold x dw nd fr (r.trk d)
  have g1 := x.growO S.odr fr
  split at w1
  · rename_i xs hi
    obtain ⟨v0, fp0, e0, r0, _, _, _, _⟩ := S'.chg (d' := .non) hi
    obtain ⟨a, vs0, fq0, rfl, rfl, h0, s0⟩ := own_at r0
    refine ⟨.ref a, e0, en, orO O fx, fx ++ [], ρ, dr', S', ?_⟩
    have w2 : WpS ((J ρ dr').stm ρ (setK i ρ xs d)) c en O H De W := w1
    cases eJ : J ρ dr' with
    | st => rw [eJ] at w2; exact w2
    | ex e2 dr2 =>
      rw [eJ] at w2
      exact fun cls od H2 x2 dw2 ex => w2 cls od σ H2 (orO O fx) (by
        have := S'.step x2 dw2
        obtain ⟨fps, h1, h2, h3, h4⟩ := this.slots
        exact ⟨⟨fps, h1, h2.sublist (by rw [List.nil_append]; exact List.sublist_append_right ..), fun b hb => h3 b (List.mem_append_right _ (by simpa using hb)), h4⟩, this.len, this.trk, this.sub, this.ext, this.drw, this.odr, this.edr, this.oe, this.ed2⟩) (g1.trans (x2.grow fun p hp => .inl (S.odr p hp))) ex
    | ok dj dr2 =>
      rw [eJ] at w2
      intro vj H2 fj x2 dw2 rj ndj frj
      have w2 : WpS (setK i ρ xs d dj dr2) c en O H De W := w2
      cases dj with
      | int k =>
        cases rj
        cases ej : ixN xs.length k with
        | none => simp only [setK, ej] at w2; exact w2.elim
        | some j =>
          simp only [setK, ej] at w2
          have S2 := S'.step x2 dw2
          obtain ⟨v, fp, e1, r1, nd1, o1, o2, k1⟩ := S2.chg (d' := .lst true (xs.set j d)) hi
          rw [e0] at e1
          cases e1
          obtain ⟨a', vs, fq, e2, rfl, h1, s1⟩ := own_at r1
          cases e2
          rw [List.append_nil] at nd1
          have nda := List.nodup_append.mp nd1
          have na : a ∉ fx := fun m => nda.2.2 a m a List.mem_cons_self rfl
          have nq : a ∉ fq := (List.nodup_cons.mp nda.2.1).1
          have oa := (o1 a List.mem_cons_self).1
          have ru : Rp c (orO O fx) H2 u d fx := r.ext x2 (fun p hp => .inl (S.odr p hp)) fun p hp m => S.edr p hp (o2 _ m).2
          obtain ⟨fq', s2, nd2, sb2⟩ := Rps.set ru j s1 (by
            rw [List.nodup_append]
            exact ⟨nda.1, (List.nodup_cons.mp nda.2.1).2, fun x hx y hy e => nda.2.2 x hx y (List.mem_cons_of_mem _ hy) e⟩)
          have na' : a ∉ fq' := fun m => (sb2 a m).elim nq na
          refine ⟨a, vs, k, j, rfl, rfl, h1, by rw [s1.len]; exact ej, ?_⟩
          obtain ⟨S3, g3⟩ := k1 a (.lst (vs.set j u)) (a :: fq') List.mem_cons_self (.own upd_same (s2.updO oa na')) (List.nodup_cons.mpr ⟨na', nd2⟩) (fun b hb => by
            rcases List.mem_cons.mp hb with z | z
            · exact .inl (z ▸ List.mem_cons_self)
            · exact (sb2 b z).imp (List.mem_cons_of_mem _) id)
          exact w2 σ _ (orO O fx) S3 ((g1.trans (x2.grow fun p hp => .inl (S.odr p hp))).trans g3)
      | _ => exact w2.elim
  · exact w1.elim
theorem bs_setIx {i : Nat} {y : Str} {p1 p2 : Pos} (he : EE X dra W e F) (hj : BE X dra W a J) (hN : X.N[i]? = some y := by rfl) (hv : Vis X.env.scope y := by first | exact Or.inl rfl | exact Or.inr (Or.inl rfl) | exact Or.inr (Or.inr rfl)) (hd : (y == ("__debug__" : Str)) = false := by decide)
    (hcd : (y == ("__classdict__" : Str)) = false := by decide)
    (ha : ∀ v, assign (.Subscript (.Name y p1) a p2) X.env v = (do
      let ov ← holding [v] (eval (.Name y p1) X.env)
      let iv ← holding [v, ov] (eval a X.env)
      standAt p2
      holding [v, ov, iv] (setItem ov iv v)
      release [v, ov, iv] []) := by intro _; rfl)
    (hs : swapsWithSole [.Subscript (.Name y p1) a p2] e pos.line X.env = pure false := by rfl) (hw : swappedStores [.Subscript (.Name y p1) a p2] e X.env = pure none := by rfl)
    (h1 : (assignEach [.Subscript (.Name y p1) a p2] X.env).map (·.2) = [assign (.Subscript (.Name y p1) a p2) X.env] := by rfl) :
    BS X dra W (.Assign [.Subscript (.Name y p1) a p2] e pos) (cSetIx i F J) :=
  ⟨wkS (ps_asg he.pe (pg_sub (pv i hN hv hd hcd) hj.pe set_list ha) hs hw h1) fun De σ H h => imp_setIx h⟩
end
end DL
/-! DL10 -/
/-! DL10: targets, what is walked, loops. -/
namespace DL
open PySem PySem.Spec PyProof.Rows L2

/-! ### targets -/
abbrev CGx := Rho → D → Option Rho
abbrev CGs := Rho → List D → Option Rho
/-- only these slots are other ones -/
def Off (ts : List Nat) (σ σ' : L2.St) : Prop := σ'.length = σ.length ∧ ∀ i, i ∉ ts → σ'[i]? = σ[i]?
def tgG (c : DC) (ts : List Nat) (G : CGx) : TG := fun v σ H Q => ∃ en O lf ρ dr d ρ', StOk c en O lf ρ dr σ H ∧ Rp c O H v d [] ∧ G ρ d = some ρ' ∧ ∀ σ', StOk c en O lf ρ' dr σ' H → Off ts σ σ' → Q σ' H
def tgS (c : DC) (ts : List Nat) (G : CGs) : TGs := fun vs σ H Q => ∃ en O lf ρ dr ds ρ', StOk c en O lf ρ dr σ H ∧ Rps c O H vs ds [] ∧ G ρ ds = some ρ' ∧ ∀ σ', StOk c en O lf ρ' dr σ' H → Off ts σ σ' → Q σ' H
structure BG (X : Cx) (dra : Option (Addr × Addr)) (tg : Expr) (ts : List Nat) (G : CGx) : Prop where
  pg : PG X tg (tgG (dc X dra) ts G)
structure BGs (X : Cx) (dra : Option (Addr × Addr)) (es : List Expr) (ts : List Nat) (G : CGs) : Prop where
  pg : PGs X es (tgS (dc X dra) ts G)
theorem wkG {X : Cx} {e : Expr} {t t' : TG} (h : PG X e t) (i : ∀ v σ H Q, t' v σ H Q → t v σ H Q) : PG X e t' := ⟨fun pins s σ H v u Q I r hw => h.run pins s σ H v u Q I r (i v σ H Q hw)⟩
theorem wkGs {X : Cx} {e : List Expr} {t t' : TGs} (h : PGs X e t) (i : ∀ v σ H Q, t' v σ H Q → t v σ H Q) : PGs X e t' := ⟨fun pins s σ H v u Q I r hw => h.run pins s σ H v u Q I r (i v σ H Q hw)⟩
def gNm (i : Nat) : CGx := fun ρ d => some (ρ.set i (some d))
def gsNil : CGs := fun ρ ds => match ds with
  | [] => some ρ
  | _ => none
def gsCons (G : CGx) (K : CGs) : CGs := fun ρ ds => match ds with
  | d :: ds => (G ρ d).bind fun ρ1 => K ρ1 ds
  | [] => none
def gTp (n : Nat) (K : CGs) : CGx := fun ρ d => match d with
  | .tup ds => if ds.length = n then K ρ ds else none
  | .lst false ds => if ds.length = n then K ρ ds else none
  | _ => none
section
variable {X : Cx} {dra : Option (Addr × Addr)} {W : WX} {pos : Pos}
theorem bg_name {i : Nat} {x : Str} (hN : X.N.Nodup) (hi : X.N[i]? = some x := by rfl) (hx : Loc X.env.scope x := by first | exact Or.inl rfl | exact Or.inr rfl) (hf : X.fn x = true ∨ X.env.scope.names.lookup x = some .local := by first | exact .inl rfl | exact .inr rfl) : BG X dra (.Name x pos) [i] (gNm i) :=
  ⟨wkG (pg_name hN hi hx hf) fun v σ H Q ⟨en, O, lf, ρ, dr, d, ρ', S, r, e, k⟩ => by
    cases e
    exact k _ (S.set0 r) ⟨List.length_set .., fun j hj => List.getElem?_set_ne fun z => hj (by rw [z]; exact List.mem_cons_self)⟩⟩
theorem bgs_nil : BGs X dra [] [] gsNil := ⟨wkGs pgs_nil fun vs σ H Q ⟨en, O, lf, ρ, dr, ds, ρ', S, r, e, k⟩ => by
  cases ds with
  | nil =>
    cases e
    have : vs = [] := List.length_eq_zero_iff.mp r.len
    exact ⟨this, k _ S ⟨rfl, fun _ _ => rfl⟩⟩
  | cons _ _ => cases e⟩
theorem bgs_cons {e : Expr} {es : List Expr} {G : CGx} {K : CGs} {t1 t2 : List Nat} (h1 : BG X dra e t1 G) (h2 : BGs X dra es t2 K)
    (hs : (assignEach (e :: es) X.env).map (·.2) = assign e X.env :: (assignEach es X.env).map (·.2) := by rfl) : BGs X dra (e :: es) (t1 ++ t2) (gsCons G K) :=
  ⟨wkGs (pgs_cons h1.pg h2.pg hs) fun vs σ H Q ⟨en, O, lf, ρ, dr, ds, ρ', S, r, e, k⟩ => by
    cases ds with
    | nil => cases e
    | cons d ds =>
      cases vs with
      | nil => cases r
      | cons v vs =>
        have e : (G ρ d).bind (fun ρ1 => K ρ1 ds) = some ρ' := e
        obtain ⟨ρ1, e1, e2⟩ := Option.bind_eq_some_iff.mp e
        obtain ⟨f1, f2, ef, r1, r2⟩ := r.uncons
        have := List.append_eq_nil_iff.mp ef.symm
        obtain ⟨rfl, rfl⟩ := this
        exact ⟨v, vs, rfl, en, O, lf, ρ, dr, d, ρ1, S, r1, e1, fun σ' S' o1 => ⟨en, O, lf, ρ1, dr, ds, ρ', S', r2, e2, fun σ2 S2 o2 => k σ2 S2 ⟨o2.1.trans o1.1, fun i hi => (o2.2 i fun z => hi (List.mem_append_right _ z)).trans (o1.2 i fun z => hi (List.mem_append_left _ z))⟩⟩⟩⟩
/-- (a, b, ..) = a tuple or a list of that length -/
theorem pg_tl {es : List Expr} {k : Nat} {t : TGs} {n : Nat} (hc : X.calm = true) (h : PGs X es t)
    (hn : (assignEach es X.env).length = n) (hst : (assignEach es X.env).findIdx? (·.1) = none) : PG X (.Tuple es k pos) (fun v σ H Q => gTup X.K n t v σ H Q ∨ gLst X.K n t v σ H Q) :=
  ⟨fun pins s σ H v u Q I r hw => hw.elim ((pg_tup hc h hn hst).run pins s σ H v u Q I r) ((pg_lst hc h hn hst).run pins s σ H v u Q I r)⟩
theorem bg_tup {es : List Expr} {k : Nat} {K : CGs} {n : Nat} {ts : List Nat} (hc : X.calm = true) (h : BGs X dra es ts K)
    (hn : (assignEach es X.env).length = n := by rfl) (hst : (assignEach es X.env).findIdx? (·.1) = none := by rfl) : BG X dra (.Tuple es k pos) ts (gTp n K) :=
  ⟨wkG (pg_tl hc h.pg hn hst) fun v σ H Q ⟨en, O, lf, ρ, dr, d, ρ', S, r, e, k⟩ => by
    unfold gTp at e
    split at e
    · rename_i ds
      split at e
      · rename_i hl
        obtain ⟨a, vs, rfl, hq, rs, _⟩ := rp_sqt r
        exact .inl ⟨a, vs, rfl, hq, rs.len.trans hl, en, O, lf, ρ, dr, ds, ρ', S, rs, e, k⟩
      · cases e
    · rename_i ds
      split at e
      · rename_i hl
        cases r with
        | lst e1 n1 rs => exact .inr ⟨_, _, rfl, .of e1, rs.len.trans hl, en, O, lf, ρ, dr, ds, ρ', S, rs, e, k⟩
      · cases e
    · cases e⟩
/-- target = value -/
def cAsg (G : CGx) (F : CEx) : CSx := fun ρ dr => (F ρ dr).stm ρ fun d dr => match G ρ d.fz with
  | some ρ' => .nx ρ' dr
  | none => .st
theorem bs_asg {tg e : Expr} {F : CEx} {G : CGx} {ts : List Nat} (he : EE X dra W e F) (hg : BG X dra tg ts G) (hs : swapsWithSole [tg] e pos.line X.env = pure false := by rfl) (hw : swappedStores [tg] e X.env = pure none := by rfl)
    (h1 : (assignEach [tg] X.env).map (·.2) = [assign tg X.env] := by rfl) : BS X dra W (.Assign [tg] e pos) (cAsg G F) :=
  ⟨wkS (ps_asg he.pe hg.pg hs hw h1) fun De σ H ⟨en, O, ρ, dr, S, w⟩ => by
    refine ⟨en, O, [], ρ, dr, S, (WpS.stm S w).mono (fun d dr' k v H' fp x dw r nd fr => ?_) fun _ _ k => k⟩
    cases eg : G ρ d.fz with
    | none => simp only [eg] at k; exact k.elim
    | some ρ' =>
      simp only [eg] at k
      exact ⟨en, O, [], ρ, dr', d.fz, ρ', S.step x dw, r.orl.fz d fun a ha z => S.trk a z (fr a ha), eg, fun σ' S' _ => k σ' H' O S' (x.grow S.odr)⟩⟩
end

/-! ### what is walked -/
abbrev CI := Rho → Dr → R (List D)
def IsIt (c : DC) (O : Addr → Prop) (H : Hp) (J : It) (xs : List D) : Prop :=
  ∀ (O' : Addr → Prop) (H' : Hp), Grow c O H O' H' → (∀ a, O' a → H' a ≠ none) → ∀ i : Nat,
    (∀ d, xs[i]? = some d → J.go i H' ∧ ∀ x H3, J.yld i H' x H3 → Same H' H3 ∧ Rp c O' H3 x d []) ∧ (xs.length ≤ i → J.stop i H')
def OkI (c : DC) (O : Addr → Prop) (H : Hp) (R : It → Hp → Prop) : List D → Dr → Prop := fun xs dr => ∀ J H', Ext c H H' → DrOk c dr H' → IsIt c O H' J xs → R J H'
def tI (c : DC) (W : WX) (F : CI) : TI := fun σ H R => ∃ en O lf ρ dr, StOk c en O lf ρ dr σ H ∧ Wp (F ρ dr) (OkI c O H R) (ExW c W σ H)
structure BI (X : Cx) (dra : Option (Addr × Addr)) (W : WX) (tg it : Expr) (F : CI) : Prop where
  pi : PI X tg it (tI (dc X dra) W F)
theorem wkI {X : Cx} {tg it : Expr} {t t' : TI} (h : PI X tg it t) (i : ∀ σ H R, t' σ H R → t σ H R) : PI X tg it t' := ⟨fun pins s σ H R I hw => h.run pins s σ H R I (i σ H R hw)⟩
section
variable {X : Cx} {dra : Option (Addr × Addr)} {W : WX} {tg e a b : Expr} {F G : CEx} {pos p : Pos}
theorem pi_any {tl : TE} (hl : PE X e tl) : PI X tg e (fun σ H R => tl σ H fun x H1 => (∃ a, x = .ref a ∧ (∃ xs, SqL X.K H1 a xs) ∧ R (Itl X.K a) H1) ∨ (∃ a, x = .ref a ∧ (∃ xs, SqT X.K H1 a xs) ∧ R (Itt X.K a) H1) ∨ (∃ t, x = .str t ∧ R (Its t) H1)) := by
  refine ⟨fun pins s σ H R I h => ?_⟩
  refine thn (hl.run pins s σ H _ I h) fun v s1 ⟨x, H1, I1, r1, q1⟩ => ?_
  rcases q1 with ⟨a, e, ⟨xs, hq⟩, q⟩ | ⟨a, e, ⟨xs, hq⟩, q⟩ | ⟨t, ex, q⟩
  · subst e
    cases r1
    obtain ⟨its, rv, p, hz⟩ := I1.list hq
    refine wpAny_pyIter_list p.isList ?_
    refine ⟨s1.heap.objs.size, [s1.heap.objs.size], _, _, H1, rfl, I1.kept (t' := s1.toks) fun b o e => Heap.get?_push_of_some _ e, turn_list a _, ⟨_, Heap.get?_push_size _ rfl, rfl, rfl⟩, fun b hb => ?_, q⟩
    have e : b = s1.heap.objs.size := by simpa using hb
    subst e
    exact I1.fpOk (Nat.le_refl _) (I1.hok.fresh (Nat.le_refl _))
  · subst e
    cases r1
    obtain ⟨its, rv, p, hz⟩ := I1.tuple hq
    refine wpAny_pyIter_tuple (show s1.heap.IsTuple a its.toArray from p) ?_
    refine ⟨s1.heap.objs.size, [s1.heap.objs.size], _, _, H1, rfl, I1.kept (t' := s1.toks) fun b o e => Heap.get?_push_of_some _ e, turn_tuple a _, ⟨_, Heap.get?_push_size _ rfl, rfl, rfl⟩, fun b hb => ?_, q⟩
    have e : b = s1.heap.objs.size := by simpa using hb
    subst e
    exact I1.fpOk (Nat.le_refl _) (I1.hok.fresh (Nat.le_refl _))
  · subst ex
    obtain ⟨u, rfl⟩ := r1
    cases ha : t.cps.all (· < 128)
    · exact wpAny_pyIter_wide ha (pi_one (tk := s1.toks) I1 _ (turn_str _ t u "str_iterator" (.inr rfl)) ⟨_, Heap.get?_push_size _ rfl, rfl, rfl⟩ q)
    · exact wpAny_pyIter_ascii ha (pi_one (tk := s1.toks) I1 _ (turn_str _ t u "str_ascii_iterator" (.inl rfl)) ⟨_, Heap.get?_push_size _ rfl, rfl, rfl⟩ q)
def iAny (F : CEx) : CI := fun ρ dr => (F ρ dr).bind fun d dr => match d with
  | .lst _ xs => .ok (D.fzs xs) dr
  | .tup xs => .ok xs dr
  | .str t => .ok (t.cps.toList.map fun c => .str ⟨#[c]⟩) dr
  | _ => .st
theorem Grow.not {c : DC} {O O' : Addr → Prop} {H H' : Hp} (g : Grow c O H O' H') {a : Addr} {o : HO} (h : H a = some o) (n : ¬ O a) : H' a = some o ∧ ¬ O' a :=
  ⟨g.keep a o h n, fun z => (g.new a z).elim n fun k => by rw [k] at h; cases h⟩
theorem Rps.at0 {c : DC} {O : Addr → Prop} {H : Hp} {ds : List D} {vs : List V} (r : Rps c O H vs ds []) {i : Nat} {d : D} (e : ds[i]? = some d) : ∃ v, vs[i]? = some v ∧ Rp c O H v d [] := by
  obtain ⟨v, fq, e1, r1, s⟩ := r.get e
  have : fq = [] := List.sublist_nil.mp s
  subst this
  exact ⟨v, e1, r1⟩
theorem isIt_list {c : DC} {O : Addr → Prop} {H : Hp} {a : Addr} {ds : List D} {vs : List V} (h : H a = some (.lst vs)) (n : ¬ O a) (r : Rps c O H vs ds []) : IsIt c O H (Itl c.K a) ds := fun O' H' g tr i => by
  obtain ⟨h', n'⟩ := g.not h n
  have r' := r.grow g
  refine ⟨fun d hd => ?_, fun hi => ⟨vs, .of h', by rw [r'.len]; exact hi⟩⟩
  obtain ⟨v, e1, r1⟩ := r'.at0 hd
  refine ⟨⟨vs, v, .of h', e1⟩, fun x H3 y => ?_⟩
  obtain ⟨rfl, y⟩ := y
  have := y vs (.of h')
  rw [e1] at this
  cases this
  exact ⟨fun _ _ e => e, r1⟩
theorem isIt_tup {c : DC} {O : Addr → Prop} {H : Hp} {a : Addr} {ds : List D} (r : Rp c O H (.ref a) (.tup ds) []) : IsIt c O H (Itt c.K a) ds := fun O' H' g tr i => by
  have r' := r.grow g
  obtain ⟨a', vs, e, hq, rs, _⟩ := rp_sqt r'
  cases e
  refine ⟨fun d hd => ?_, fun hi => ⟨vs, hq, by rw [rs.len]; exact hi⟩⟩
  obtain ⟨v, e1, r1⟩ := rs.at0 hd
  refine ⟨⟨vs, v, hq, e1⟩, fun x H3 y => ?_⟩
  obtain ⟨rfl, y⟩ := y
  have := y vs hq
  rw [e1] at this
  cases this
  exact ⟨fun _ _ e => e, r1⟩
theorem isIt_str {c : DC} {O : Addr → Prop} {H : Hp} {t : Str} : IsIt c O H (Its t) (t.cps.toList.map fun c => .str ⟨#[c]⟩) := fun O' H' g tr i => by
  refine ⟨fun d hd => ?_, fun hi => by simpa [Its] using hi⟩
  rw [List.getElem?_map] at hd
  obtain ⟨ch, e1, e2⟩ := Option.map_eq_some_iff.mp hd
  have e1 : t.cps[i]? = some ch := by rw [← Array.getElem?_toList]; exact e1
  refine ⟨(Array.getElem?_eq_some_iff.mp e1).1, fun x H3 y => ?_⟩
  obtain ⟨rfl, ch', e3, rfl⟩ := y
  rw [e1] at e3
  cases e3
  subst e2
  exact ⟨fun _ _ e => e, .str _⟩
theorem bi_any (he : EE X dra W e F) : BI X dra W tg e (iAny F) := ⟨wkI (pi_any he.pe) fun σ H R ⟨en, O, lf, ρ, dr, S, w⟩ => by
  refine ⟨en, O, lf, ρ, dr, S, (Wp.bind w).mono (fun d dr' k v H' fp x dw r nd fr => ?_) fun _ _ k => k⟩
  have rz := r.orl.fz d fun a ha z => S.trk a z (fr a ha)
  cases d with
  | lst b xs =>
    cases rz with
    | lst e1 n1 rs =>
      exact .inl ⟨_, rfl, ⟨_, .of e1⟩, k _ H' x dw (isIt_list e1 n1 rs)⟩
  | tup xs =>
    obtain ⟨a, vs, rfl, hq, _⟩ := rp_sqt rz
    exact .inr (.inl ⟨a, rfl, ⟨vs, hq⟩, k _ H' x dw (isIt_tup rz)⟩)
  | str t =>
    cases rz
    exact .inr (.inr ⟨t, rfl, k _ H' x dw isIt_str⟩)
  | _ => exact k.elim⟩
/-! ranges -/
def iRg1 (F : CEx) : CI := fun ρ dr => (F ρ dr).bind fun d dr => match d with
  | .int n => if -(2 ^ 62) ≤ n ∧ n < 2 ^ 62 then .ok (rgD 0 n) dr else .st
  | _ => .st
def iRg2 (F G : CEx) : CI := fun ρ dr => (F ρ dr).bind fun d dr => (G ρ dr).bind fun e dr => match d, e with
  | .int n, .int m => if -(2 ^ 62) ≤ n ∧ n < 2 ^ 62 ∧ -(2 ^ 62) ≤ m ∧ m < 2 ^ 62 then .ok (rgD n m) dr else .st
  | _, _ => .st
theorem isIt_rg {c : DC} {O : Addr → Prop} {H : Hp} (a b : Int) : IsIt c O H (Itr a (b - a).toNat) (rgD a b) := fun O' H' g tr i => by
  refine ⟨fun d hd => ?_, fun hi => by simpa [Itr, rgD] using hi⟩
  rw [rgD, List.getElem?_map] at hd
  obtain ⟨j, e1, e2⟩ := Option.map_eq_some_iff.mp hd
  obtain ⟨hj, e3⟩ := List.getElem?_eq_some_iff.mp e1
  rw [List.getElem_range] at e3
  subst e3
  refine ⟨by simpa [Itr] using hj, fun x H3 y => ?_⟩
  obtain ⟨rfl, rfl⟩ := y
  subst e2
  exact ⟨fun _ _ e => e, .int _⟩
theorem bi_rg1 (hm : X.mg "range" = none) (ha : BE X dra W a F) (hg : Gl X "range" := by rfl) (hs : starEach [a] X.env = [(false, eval a X.env)] := by rfl) : BI X dra W tg (.Call (.Name "range" p) [a] [] pos) (iRg1 F) :=
  ⟨wkI (pi_range1 hg hm (pa_cons ha.pe pa_nil (by rw [hs]; rfl)) hs) fun σ H R ⟨en, O, lf, ρ, dr, S, w⟩ => by
    refine ⟨en, O, lf, ρ, dr, S, (Wp.bind w).mono (fun d dr' k v H' fp x dw r nd fr => ?_) fun _ _ k => k⟩
    cases d with
    | int n =>
      cases r
      by_cases hz : -(2 ^ 62) ≤ n ∧ n < 2 ^ 62
      · have k : Wp (if -(2 ^ 62) ≤ n ∧ n < 2 ^ 62 then DL.R.ok (rgD 0 n) dr' else .st) _ _ := k
        rw [if_pos hz] at k
        have := k (Itr 0 n.toNat) H' x dw (by have := isIt_rg (c := dc X dra) (O := O) (H := H') 0 n; rw [Int.sub_zero] at this; exact this)
        exact ⟨n, rfl, hz.1, hz.2, this⟩
      · have k : Wp (if -(2 ^ 62) ≤ n ∧ n < 2 ^ 62 then DL.R.ok (rgD 0 n) dr' else .st) _ _ := k
        rw [if_neg hz] at k
        exact k.elim
    | _ => exact k.elim⟩
theorem bi_rg2 (hm : X.mg "range" = none) (ha : BE X dra W a F) (hb : BE X dra W b G) (hg : Gl X "range" := by rfl) (hs : starEach [a, b] X.env = [(false, eval a X.env), (false, eval b X.env)] := by rfl) (hs2 : starEach [b] X.env = [(false, eval b X.env)] := by rfl) : BI X dra W tg (.Call (.Name "range" p) [a, b] [] pos) (iRg2 F G) :=
  ⟨wkI (pi_range2 hg hm (pa_cons ha.pe (pa_cons hb.pe pa_nil (by rw [hs2]; rfl)) (by rw [hs, hs2])) hs hs2) fun σ H R ⟨en, O, lf, ρ, dr, S, w⟩ => by
    refine ⟨en, O, lf, ρ, dr, S, (Wp.bind w).mono (fun d dr' k v H' fp x dw r nd fr => ?_) fun _ _ k => k⟩
    refine ⟨en, O, lf, ρ, dr', S.step x dw, (Wp.bind k).mono (fun d2 dr2 k2 v2 H2 fp2 x2 dw2 r2 nd2 fr2 => ?_) fun _ _ k => k.later x⟩
    cases d with
    | int n =>
      cases d2 with
      | int m =>
        cases r
        cases r2
        have k2 : Wp (if -(2 ^ 62) ≤ n ∧ n < 2 ^ 62 ∧ -(2 ^ 62) ≤ m ∧ m < 2 ^ 62 then DL.R.ok (rgD n m) dr2 else .st) (OkI (dc X dra) O H R) (ExW (dc X dra) W σ H) := k2
        by_cases hz : -(2 ^ 62) ≤ n ∧ n < 2 ^ 62 ∧ -(2 ^ 62) ≤ m ∧ m < 2 ^ 62
        · rw [if_pos hz] at k2
          exact ⟨n, m, rfl, hz, k2 _ H2 (x.trans x2) dw2 (isIt_rg n m)⟩
        · rw [if_neg hz] at k2
          exact k2.elim
      | _ => exact k2.elim
    | _ => exact k2.elim⟩
/-! zip of two lists, of two tuples -/
def iZipD (A : CAx) : CI := fun ρ dr => (A ρ dr).bind fun ds dr => match ds with
  | [.lst _ xs, .lst _ ys] => .ok ((D.fzs xs).zipWith (fun x y => .tup [x, y]) (D.fzs ys)) dr
  | [.tup xs, .tup ys] => .ok (xs.zipWith (fun x y => .tup [x, y]) ys) dr
  | _ => .st
theorem Grow.new1 {c : DC} {O O' : Addr → Prop} {H H' : Hp} {a : Addr} {o : HO} (tr : ∀ a, O' a → H' a ≠ none) (h : H' a = none) : Same H' (upd H' a o) ∧ ¬ O' a := ⟨same_upd h, fun z => tr a z h⟩
theorem isIt_zip {c : DC} {O : Addr → Prop} {H : Hp} {a b : Addr} {ds es : List D} {vs us : List V} (h1 : H a = some (.lst vs)) (n1 : ¬ O a) (r1 : Rps c O H vs ds []) (h2 : H b = some (.lst us)) (n2 : ¬ O b) (r2 : Rps c O H us es []) : IsIt c O H (Itz c.K a b) (ds.zipWith (fun x y => .tup [x, y]) es) := fun O' H' g tr i => by
  obtain ⟨h1', n1'⟩ := g.not h1 n1
  obtain ⟨h2', n2'⟩ := g.not h2 n2
  have r1' := r1.grow g
  have r2' := r2.grow g
  refine ⟨fun d hd => ?_, fun hi => ⟨vs, us, .of h1', .of h2', ?_⟩⟩
  · obtain ⟨d1, d2, e1, e2, e3⟩ := List.getElem?_zipWith_eq_some.mp hd
    obtain ⟨v1, q1, s1⟩ := r1'.at0 e1
    obtain ⟨v2, q2, s2⟩ := r2'.at0 e2
    refine ⟨⟨vs, us, v1, v2, .of h1', .of h2', q1, q2⟩, fun x H3 y => ?_⟩
    obtain ⟨T, x1, x2, rfl, hT, rfl, y1, y2⟩ := y
    have y1 := y1 vs (.of h1')
    have y2 := y2 us (.of h2')
    rw [q1] at y1; cases y1
    rw [q2] at y2; cases y2
    subst e3
    have sm := same_upd (o := HO.tup [v1, v2]) hT
    exact ⟨sm, .tup upd_same (fun z => tr T z hT) (.cons (fp := []) (fq := []) (s1.same sm) (.cons (fp := []) (fq := []) (s2.same sm) .nil))⟩
  · rw [List.length_zipWith] at hi
    rw [r1'.len, r2'.len]
    omega
theorem isIt_zipT {c : DC} {O : Addr → Prop} {H : Hp} {a b : Addr} {ds es : List D} (r1 : Rp c O H (.ref a) (.tup ds) []) (r2 : Rp c O H (.ref b) (.tup es) []) : IsIt c O H (RZ.ItzT c.K a b) (ds.zipWith (fun x y => .tup [x, y]) es) := fun O' H' g tr i => by
  obtain ⟨a', vs, e, h1', r1', _⟩ := rp_sqt (r1.grow g)
  cases e
  obtain ⟨b', us, e, h2', r2', _⟩ := rp_sqt (r2.grow g)
  cases e
  refine ⟨fun d hd => ?_, fun hi => ⟨vs, us, h1', h2', ?_⟩⟩
  · obtain ⟨d1, d2, e1, e2, e3⟩ := List.getElem?_zipWith_eq_some.mp hd
    obtain ⟨v1, q1, s1⟩ := r1'.at0 e1
    obtain ⟨v2, q2, s2⟩ := r2'.at0 e2
    refine ⟨⟨vs, us, v1, v2, h1', h2', q1, q2⟩, fun x H3 y => ?_⟩
    obtain ⟨T, x1, x2, rfl, hT, rfl, y1, y2⟩ := y
    have y1 := y1 vs h1'
    have y2 := y2 us h2'
    rw [q1] at y1; cases y1
    rw [q2] at y2; cases y2
    subst e3
    have sm := same_upd (o := HO.tup [v1, v2]) hT
    exact ⟨sm, .tup upd_same (fun z => tr T z hT) (.cons (fp := []) (fq := []) (s1.same sm) (.cons (fp := []) (fq := []) (s2.same sm) .nil))⟩
  · rw [List.length_zipWith] at hi
    rw [r1'.len, r2'.len]
    omega
theorem Rp.lstF {c : DC} {O : Addr → Prop} {H : Hp} {v : V} {b : Bool} {xs : List D} {fp : List Addr} (r : Rp c O H v (.lst b xs) fp) (n : ∀ a ∈ fp, ¬ O a) : ∃ a vs, v = .ref a ∧ H a = some (.lst vs) ∧ ¬ O a ∧ Rps c O H vs (D.fzs xs) [] := by
  have := r.fz _ n
  cases this with
  | lst e1 n1 rs => exact ⟨_, _, rfl, e1, n1, rs⟩
theorem Rps.two {c : DC} {O : Addr → Prop} {H : Hp} {vs : List V} {d e : D} {fp : List Addr} (r : Rps c O H vs [d, e] fp) : ∃ v u f1 f2, vs = [v, u] ∧ fp = f1 ++ f2 ∧ Rp c O H v d f1 ∧ Rp c O H u e f2 := by
  cases r with
  | cons r1 t =>
    rename_i v f1 vs1 f2
    cases vs1 with
    | nil => have := t.len; simp at this
    | cons u vs2 =>
      obtain ⟨g1, g2, rfl, r2, t2⟩ := t.uncons
      have e2 : vs2 = [] := List.length_eq_zero_iff.mp t2.len
      subst e2
      have e3 : g2 = [] := by
        cases g2 with
        | nil => rfl
        | cons _ _ => exact nomatch t2
      subst e3
      exact ⟨v, u, f1, g1, rfl, by rw [List.append_nil], r1, r2⟩
theorem bi_zip {elts : List Expr} {kk : Nat} {tpos : Pos} {A : CAx} (hm : X.mg "zip" = none) (ha : EA X dra W [a, b] A) (hg : Gl X "zip" := by rfl)
    (hs : starEach [a, b] X.env = (false, eval a X.env) :: starEach [b] X.env := by rfl) (hpl : (backTo pos (starEach [b] X.env)).any (·.1) = false := by rfl) :
    BI X dra W (.Tuple elts kk tpos) (.Call (.Name "zip" p) [a, b] [] pos) (iZipD A) :=
  ⟨wkI (RZ.pi_zipA hg hm ha.pa hs hpl) fun σ H R ⟨en, O, lf, ρ, dr, S, w⟩ => by
    refine ⟨en, O, lf, ρ, dr, S, (Wp.bind w).mono (fun ds dr' k vs H' fp x dw r nd fr => ?_) fun _ _ k => k⟩
    have nO : ∀ a ∈ fp, ¬ O a := fun a ha z => S.trk a z (fr a ha)
    split at k
    · rename_i b1 xs b2 ys
      obtain ⟨v, u, f1, f2, rfl, rfl, r1, r2⟩ := r.two
      obtain ⟨a1, vs1, rfl, h1, n1, q1⟩ := r1.orl.lstF fun a ha => nO a (List.mem_append_left _ ha)
      obtain ⟨a2, vs2, rfl, h2, n2, q2⟩ := r2.orl.lstF fun a ha => nO a (List.mem_append_right _ ha)
      exact ⟨a1, a2, vs1, vs2, rfl, .inl ⟨.of h1, .of h2, k _ H' x dw (isIt_zip h1 n1 q1 h2 n2 q2)⟩⟩
    · rename_i xs ys
      obtain ⟨v, u, f1, f2, rfl, rfl, r1, r2⟩ := r.two
      have z1 := r1.frz _ rfl
      have z2 := r2.frz _ rfl
      subst z1
      subst z2
      obtain ⟨a1, vs1, rfl, h1, _, _⟩ := rp_sqt r1
      obtain ⟨a2, vs2, rfl, h2, _, _⟩ := rp_sqt r2
      exact ⟨a1, a2, vs1, vs2, rfl, .inr ⟨h1, h2, k _ H' x dw (isIt_zipT r1.orl r2.orl)⟩⟩
    · exact k.elim⟩
end

/-! ### for -/
def forG (G : CGx) (B : CSx) : List D → CSx
  | [], ρ, dr => .nx ρ dr
  | d :: ds, ρ, dr => match G ρ d with
    | none => .st
    | some ρ1 => match B ρ1 dr with
      | .nx ρ2 dr2 => forG G B ds ρ2 dr2
      | .ct ρ2 dr2 => forG G B ds ρ2 dr2
      | .bk ρ2 dr2 => .nx ρ2 dr2
      | r => r
def cFor (I : CI) (G : CGx) (B : CSx) : CSx := fun ρ dr => match I ρ dr with
  | .st => .st
  | .ok xs dr => forG G B xs ρ dr
  | .ex e dr => .ex e ρ dr
def whG (T : CTx) (B : CSx) : Nat → CSx
  | 0, _, _ => .st
  | n + 1, ρ, dr => match T ρ dr with
    | .st => .st
    | .ex e dr => .ex e ρ dr
    | .ok false dr => .nx ρ dr
    | .ok true dr => match B ρ dr with
      | .nx ρ2 dr2 => whG T B n ρ2 dr2
      | .ct ρ2 dr2 => whG T B n ρ2 dr2
      | .bk ρ2 dr2 => .nx ρ2 dr2
      | r => r
/-- n: how many turns at most -/
def cWhile (n : Rho → Nat) (T : CTx) (B : CSx) : CSx := fun ρ dr => whG T B (n ρ) ρ dr
section
variable {X : Cx} {dra : Option (Addr × Addr)} {W : WX} {tg it e : Expr} {I : CI} {G : CGx} {B : CSx} {T : CTx} {body : List Stmt} {pos : Pos}
theorem bs_for (hp : PassesOwn (model X.prog X.w) X.A X.env X.xe) (hc : X.calm = true) {ts : List Nat} (hi : BI X dra W tg it I) (hg : BG X dra tg ts G) (hb : BSs X dra W body B) (hs : ∀ x, foldedSetIterable it X.env x = pure x := by intro _; rfl) : BS X dra W (.For tg it body [] pos) (cFor I G B) :=
  ⟨wkS (ps_for hp hc hi.pi hg.pg hb.ps hs) fun De σ H ⟨en, O, ρ, dr, S, w⟩ => by
    refine ⟨en, O, [], ρ, dr, S, ?_⟩
    unfold cFor at w
    cases eI : I ρ dr with
    | st => rw [eI] at w; exact w.elim
    | ex e dr' =>
      rw [eI] at w
      exact fun cls od H' x dw ex => w cls od σ H' O (S.step x dw) (x.grow S.odr) ex
    | ok xs dr' =>
      rw [eI] at w
      have w : WpS (forG G B xs ρ dr') (dc X dra) en O H De W := w
      intro J H1 x dw ij
      refine ⟨fun i m σ H2 => m = xs.length - i ∧ i ≤ xs.length ∧ ∃ O2 ρ2 dr2, StOk (dc X dra) en O2 [] ρ2 dr2 σ H2 ∧ Grow (dc X dra) O H1 O2 H2 ∧ WpS (forG G B (xs.drop i) ρ2 dr2) (dc X dra) en O2 H2 De W, ⟨xs.length, rfl, Nat.zero_le _, O, ρ, dr', S.step x dw, .refl, by rw [List.drop_zero]; exact w.later (x.grow S.odr)⟩, ?_⟩
      rintro i m σ2 H2 ⟨rfl, hi2, O2, ρ2, dr2, S2, g2, w2⟩
      obtain ⟨i1, i2⟩ := ij O2 H2 g2 S2.trk i
      by_cases hlt : i < xs.length
      · rw [List.drop_eq_getElem_cons hlt] at w2
        obtain ⟨go, yl⟩ := i1 _ (List.getElem?_eq_getElem hlt)
        refine .inr ⟨go, fun σ3 H3 => ∃ O3 ρ3 dr3, StOk (dc X dra) en O3 [] ρ3 dr3 σ3 H3 ∧ Grow (dc X dra) O H1 O3 H3 ∧ WpS (forG G B (xs.drop (i + 1)) ρ3 dr3) (dc X dra) en O3 H3 De W, fun σ3 H3 n3 => ⟨_, by omega, rfl, hlt, n3⟩, fun v H3 y => ?_⟩
        obtain ⟨sm, rv⟩ := yl v H3 y
        unfold forG at w2
        cases eG : G ρ2 xs[i] with
        | none => rw [eG] at w2; exact w2.elim
        | some ρ3 =>
          rw [eG] at w2
          have x3 : Ext (dc X dra) H2 H3 := .of_same sm
          have g3 : Grow (dc X dra) O2 H2 O2 H3 := x3.grow S2.odr
          refine ⟨en, O2, [], ρ2, dr2, xs[i], ρ3, S2.step x3 (S2.drw.same sm), rv, eG, fun σ' S' _ => ⟨en, O2, ρ3, dr2, S', ?_⟩⟩
          have w2 : WpS (match B ρ3 dr2 with
            | .nx ρ2 dr2 => forG G B (xs.drop (i + 1)) ρ2 dr2
            | .ct ρ2 dr2 => forG G B (xs.drop (i + 1)) ρ2 dr2
            | .bk ρ2 dr2 => .nx ρ2 dr2
            | r => r) (dc X dra) en O2 H2 De W := w2
          cases eB : B ρ3 dr2 with
          | st => rw [eB] at w2; exact w2
          | nx ρ4 dr4 =>
            rw [eB] at w2
            exact fun σ4 H4 O4 S4 g4 => ⟨O4, ρ4, dr4, S4, (g2.trans g3).trans g4, WpS.later w2 (g3.trans g4)⟩
          | ct ρ4 dr4 =>
            rw [eB] at w2
            exact fun σ4 H4 O4 S4 g4 => ⟨O4, ρ4, dr4, S4, (g2.trans g3).trans g4, WpS.later w2 (g3.trans g4)⟩
          | bk ρ4 dr4 =>
            rw [eB] at w2
            exact fun σ4 H4 O4 S4 g4 => w2 σ4 H4 O4 S4 (g3.trans g4)
          | rt d4 dr4 => rw [eB] at w2; exact w2
          | ex e4 ρ4 dr4 =>
            rw [eB] at w2
            exact fun cls od σ4 H4 O4 S4 g4 => w2 cls od σ4 H4 O4 S4 (g3.trans g4)
      · have e : i = xs.length := by omega
        rw [List.drop_eq_nil_of_le (by omega)] at w2
        exact .inl ⟨i2 (by omega), w2 σ2 H2 O2 S2 .refl⟩⟩
theorem bs_while (n : Rho → Nat) (hp : PassesOwn (model X.prog X.w) X.A X.env X.xe) (ht : BT X dra W e T) (hb : BSs X dra W body B) : BS X dra W (.While e body [] pos) (cWhile n T B) :=
  ⟨wkS (ps_while hp ht.pt hb.ps) fun De σ H ⟨en, O, ρ, dr, S, w⟩ => by
    refine ⟨fun m σ2 H2 => ∃ O2 ρ2 dr2, StOk (dc X dra) en O2 [] ρ2 dr2 σ2 H2 ∧ WpS (whG T B m ρ2 dr2) (dc X dra) en O2 H2 De W, ⟨n ρ, O, ρ, dr, S, w⟩, ?_⟩
    rintro m σ2 H2 ⟨O2, ρ2, dr2, S2, w2⟩
    refine ⟨en, O2, [], ρ2, dr2, S2, ?_⟩
    cases m with
    | zero => exact w2.elim
    | succ m =>
      unfold whG at w2
      cases eT : T ρ2 dr2 with
      | st => rw [eT] at w2; exact w2
      | ex e dr' =>
        rw [eT] at w2
        exact fun cls od H' x dw ex => w2 cls od σ2 H' O2 (S2.step x dw) (x.grow S2.odr) ex
      | ok b dr' =>
        intro H3 x dw
        have S3 := S2.step x dw
        have g3 := x.grow S2.odr
        rw [eT] at w2
        cases b with
        | false => exact w2 σ2 H3 O2 S3 g3
        | true =>
          rw [if_pos rfl]
          refine ⟨fun σ4 H4 => ∃ O4 ρ4 dr4, StOk (dc X dra) en O4 [] ρ4 dr4 σ4 H4 ∧ WpS (whG T B m ρ4 dr4) (dc X dra) en O4 H4 De W, fun σ4 H4 n4 => ⟨m, Nat.lt_succ_self _, n4⟩, en, O2, ρ2, dr', S3, ?_⟩
          have w2 : WpS (match B ρ2 dr' with
            | .nx ρ2 dr2 => whG T B m ρ2 dr2
            | .ct ρ2 dr2 => whG T B m ρ2 dr2
            | .bk ρ2 dr2 => .nx ρ2 dr2
            | r => r) (dc X dra) en O2 H2 De W := w2
          cases eB : B ρ2 dr' with
          | st => rw [eB] at w2; exact w2
          | nx ρ4 dr4 =>
            rw [eB] at w2
            exact fun σ4 H4 O4 S4 g4 => ⟨O4, ρ4, dr4, S4, WpS.later w2 (g3.trans g4)⟩
          | ct ρ4 dr4 =>
            rw [eB] at w2
            exact fun σ4 H4 O4 S4 g4 => ⟨O4, ρ4, dr4, S4, WpS.later w2 (g3.trans g4)⟩
          | bk ρ4 dr4 =>
            rw [eB] at w2
            exact fun σ4 H4 O4 S4 g4 => w2 σ4 H4 O4 S4 (g3.trans g4)
          | rt d4 dr4 => rw [eB] at w2; exact w2
          | ex e4 ρ4 dr4 =>
            rw [eB] at w2
            exact fun cls od σ4 H4 O4 S4 g4 => w2 cls od σ4 H4 O4 S4 (g3.trans g4)⟩
end
end DL
/-! DL11 -/
/-! DL11: lists told by a clause. -/
namespace DL
open PySem PySem.Spec PyProof.Rows L2

def wipeD (ρ : Rho) : List Nat → Rho
  | [] => ρ
  | v :: vs => (wipeD ρ vs).set v none
section
variable {c : DC} {en : En} {O : Addr → Prop} {lf fx : List Addr} {ρ : Rho} {dr : Dr} {σ : L2.St} {H : Hp}
theorem StOk.wipe1 (S : StOk c en O lf ρ dr σ H) (i : Nat) : StOk c en O lf (ρ.set i none) dr (σ.set i none) H := by
  obtain ⟨fps, h1, h2, h3, h4⟩ := S.slots
  refine ⟨⟨fps, by rw [List.length_set, h1], h2, h3, fun j d hj => ?_⟩, by rw [List.length_set, List.length_set, S.len], S.trk, S.sub, S.ext, S.drw, S.odr, S.edr, S.oe, S.ed2⟩
  by_cases hij : i = j
  · subst hij
    by_cases hi : i < ρ.length
    · rw [List.getElem?_set_self hi] at hj; cases hj
    · rw [List.getElem?_eq_none (by rw [List.length_set]; omega)] at hj; cases hj
  · rw [List.getElem?_set_ne hij] at hj
    rw [List.getElem?_set_ne hij]
    exact h4 j d hj
theorem StOk.wipe (S : StOk c en O lf ρ dr σ H) : ∀ vs, StOk c en O lf (wipeD ρ vs) dr (L2.wipe σ vs) H
  | [] => S
  | v :: vs => (StOk.wipe S vs).wipe1 v
theorem wipe_ext {σ σ' : L2.St} : ∀ {vs : List Nat}, (∀ i, i ∉ vs → σ'[i]? = σ[i]?) → σ'.length = σ.length → L2.wipe σ' vs = L2.wipe σ vs := by
  intro vs h hl
  refine List.ext_getElem? fun i => ?_
  by_cases hi : i ∈ vs
  · have key : ∀ (τ : L2.St) (vs : List Nat), i ∈ vs → (L2.wipe τ vs)[i]? = if i < τ.length then some none else none := by
      intro τ vs
      induction vs with
      | nil => intro h; cases h
      | cons v vs ih =>
        intro h
        unfold L2.wipe
        by_cases e : v = i
        · subst e
          by_cases hlt : v < τ.length
          · rw [List.getElem?_set_self (by rw [L2.wipe_length]; exact hlt), if_pos hlt]
          · rw [if_neg hlt, List.getElem?_eq_none]
            rw [List.length_set, L2.wipe_length]; omega
        · rw [List.getElem?_set_ne e]
          exact ih ((List.mem_cons.mp h).resolve_left fun z => e z.symm)
    rw [key σ' vs hi, key σ vs hi, hl]
  · rw [L2.wipe_out hi, L2.wipe_out hi]
    exact h i hi
/-- a thing in hand is changed -/
theorem StOk.poke (S : StOk c en O (fx ++ lf) ρ dr σ H) {a : Addr} {o : HO} {fy : List Addr} (ha : a ∈ fx) (nd : fy.Nodup) (sb : ∀ b ∈ fy, b ∈ fx) : StOk c en O (fy ++ lf) ρ dr σ (upd H a o) := by
  obtain ⟨fps, h1, h2, h3, h4⟩ := S.slots
  have ha2 := h3 a (List.mem_append_left _ (List.mem_append_left _ ha))
  have nEa := ha2.2
  refine ⟨⟨fps, h1, ?_, fun b hb => h3 b ?_, fun j e hj => ?_⟩, S.len, fun b hb => ?_, S.sub, ⟨fun b ob q n => ?_, fun b q => ?_⟩, ?_, S.odr, S.edr, S.oe, S.ed2⟩
  · simp only [List.nodup_append, List.mem_append] at h2 ⊢
    obtain ⟨⟨n1, n2, n3⟩, n4, n5⟩ := h2
    exact ⟨⟨nd, n2, fun x hx y hy => n3 x (sb x hx) y hy⟩, n4, fun x hx y hy => n5 x (hx.imp (sb x) id) y hy⟩
  · rcases List.mem_append.mp hb with hb | hb
    · rcases List.mem_append.mp hb with hb | hb
      · exact List.mem_append_left _ (List.mem_append_left _ (sb b hb))
      · exact List.mem_append_left _ (List.mem_append_right _ hb)
    · exact List.mem_append_right _ hb
  · obtain ⟨u, fq, g1, g2, g3⟩ := h4 j e hj
    refine ⟨u, fq, g1, g2, g3.updO ha2.1 fun m => ?_⟩
    exact (List.nodup_append.mp h2).2.2 a (List.mem_append_left _ ha) a (List.mem_flatten.mpr ⟨fq, List.mem_of_getElem? g2, m⟩) rfl
  · by_cases hba : b = a
    · subst hba; rw [upd_same]; exact fun z => nomatch z
    · rw [upd_ne hba]; exact S.trk b hb
  · have hba : b ≠ a := by
      rintro rfl
      rw [nEa] at q; cases q
    rw [upd_ne hba]
    exact S.ext.keep b ob q n
  · by_cases hba : b = a
    · subst hba; rw [upd_same]; exact fun z => nomatch z
    · rw [upd_ne hba]; exact S.ext.trk b q
  · have dw := S.drw
    cases dr with
    | none => trivial
    | some s =>
      obtain ⟨p, hp, k1, k2, n⟩ := dw
      refine ⟨p, hp, ?_, ?_, n⟩
      · rw [upd_ne]
        · exact k1
        · rintro rfl
          exact S.edr p hp nEa
      · rw [upd_ne]
        · exact k2
        · rintro rfl
          exact S.ed2 p hp nEa
theorem orO_or {A B C : List Addr} (h : ∀ a, (a ∈ A ∨ a ∈ B) ↔ a ∈ C) : orO (orO O A) B = orO O C := funext fun a => propext ⟨fun z => z.elim (fun z => z.imp id fun m => (h a).mp (.inl m)) fun m => .inr ((h a).mp (.inr m)), fun z => z.elim (fun o => .inl (.inl o)) fun m => ((h a).mpr m).elim (fun q => .inl (.inr q)) .inr⟩
theorem StOk.shed (S : StOk c en O (fx ++ lf) ρ dr σ H) : StOk c en O lf ρ dr σ H := by
  obtain ⟨fps, h1, h2, h3, h4⟩ := S.slots
  refine ⟨⟨fps, h1, ?_, fun b hb => h3 b ?_, h4⟩, S.len, S.trk, S.sub, S.ext, S.drw, S.odr, S.edr, S.oe, S.ed2⟩
  · rw [List.append_assoc] at h2
    exact (List.nodup_append.mp h2).2.1
  · rw [List.append_assoc]
    exact List.mem_append_right _ hb
end

/-! ### tests -/
def cYes : CTx := fun _ dr => .ok true dr
structure BTs (X : Cx) (dra : Option (Addr × Addr)) (W : WX) (es : List Expr) (T : CTx) : Prop where
  pt : PTs X es (tT (dc X dra) W T)
section
variable {X : Cx} {dra : Option (Addr × Addr)} {W : WX}
theorem bts_nil : BTs X dra W [] cYes := ⟨⟨fun pins s σ H Q I ⟨en, O, lf, ρ, dr, S, w⟩ => pts_nil.run pins s σ H Q I (show Q true H from w H Ext.refl S.drw)⟩⟩
theorem bts_one {e : Expr} {T : CTx} (h : BT X dra W e T) : BTs X dra W [e] T := ⟨pts_one h.pt⟩
end

/-! ### [elt for target in iter if test] -/
def W0 : WX := fun _ _ _ _ => False
/-- nothing is let out of the block -/
def noEx {α : Type} (r : R α) : R α := match r with
  | .ex _ _ => .st
  | r => r
theorem Wp.noEx {α : Type} {r : R α} {ok : α → Dr → Prop} {ex ex' : Exn → Dr → Prop} (h : Wp (noEx r) ok ex) : Wp r ok ex' := by
  cases r with
  | st => exact h
  | ok a d => exact h
  | ex e d => exact h.elim
def lcA (G : CGx) (T : CTx) (F : CEx) (ρ : Rho) : List D → List D → Dr → R (List D)
  | [], acc, dr => .ok acc dr
  | x :: xs, acc, dr => match G ρ x with
    | none => .st
    | some ρ1 => (noEx (T ρ1 dr)).bind fun b dr => if b = true then (noEx (F ρ1 dr)).bind fun d dr => (if acc.length < sizeLine then lcA G T F ρ xs (acc ++ [d]) dr else .st) else lcA G T F ρ xs acc dr
def rLst (acc : List D) (dr : Dr) : R D := .ok (.lst true acc) dr
def cLc (vs : List Nat) (I : CI) (G : CGx) (T : CTx) (F : CEx) : CEx := fun ρ dr => (I ρ dr).bind fun xs dr => (lcA G T F (wipeD ρ vs) xs [] dr).bind rLst
/-- what is true of the list under way at L -/
structure Lci (c : DC) (en : En) (O : Addr → Prop) (lf : List Addr) (ρ : Rho) (dr : Dr) (σ : L2.St) (H1 H : Hp) (L : Addr) (acc : List D) (fq : List Addr) (vs : List V) : Prop where
  st : StOk c en (orO O (L :: fq)) ((L :: fq) ++ lf) ρ dr σ H
  hL : H L = some (.lst vs)
  rs : Rps c (orO O (L :: fq)) H vs acc fq
  nd : (L :: fq).Nodup
  fr : ∀ a ∈ L :: fq, H1 a = none
  ext : Ext c H1 H
section
variable {c : DC} {en : En} {O : Addr → Prop} {lf fq : List Addr} {vs : List V} {ρ : Rho} {dr dr' : Dr} {σ : L2.St} {H1 H H' : Hp} {L : Addr} {acc : List D}
theorem Lci.start (S : StOk c en O lf ρ dr σ H1) (hD : H1 L = none) : Lci c en O lf ρ dr σ H1 (upd H1 L (.lst [])) L [] [] [] := by
  have sm := same_upd (o := HO.lst []) hD
  refine ⟨S.hold (.of_same sm) (S.drw.same sm) (by simp) (fun a ha => ?_) (fun a ha => ?_), upd_same, .nil, by simp, fun a ha => ?_, .of_same sm⟩
  · rw [List.mem_singleton.mp ha]; exact hD
  · rw [List.mem_singleton.mp ha, upd_same]; exact fun z => nomatch z
  · rw [List.mem_singleton.mp ha]; exact hD
theorem Lci.out (l : Lci c en O lf ρ dr σ H1 H L acc fq vs) : ∀ p, c.dra = some p → p.1 ∉ L :: fq := fun p hp m => l.st.edr p hp (by
  obtain ⟨fps, _, _, h3, _⟩ := l.st.slots
  exact (h3 _ (List.mem_append_left _ (List.mem_append_left _ m))).2)
theorem Lci.step (l : Lci c en O lf ρ dr σ H1 H L acc fq vs) (x : Ext c H H') (dw : DrOk c dr' H') : Lci c en O lf ρ dr' σ H1 H' L acc fq vs :=
  ⟨l.st.step x dw, x.keep _ _ l.hL fun p hp z => l.out p hp (z ▸ List.mem_cons_self), l.rs.ext x l.st.odr fun p hp m => l.out p hp (List.mem_cons_of_mem _ m), l.nd, l.fr, l.ext.trans x⟩
/-- an item more -/
theorem Lci.app {d : D} {u : V} {fy : List Addr} (l : Lci c en O lf ρ dr σ H1 H L acc fq vs) (x : Ext c H H') (dw : DrOk c dr' H') (r : Rp c (orO (orO O (L :: fq)) fy) H' u d fy) (nd : fy.Nodup) (fr : ∀ a ∈ fy, H a = none) :
    H' L = some (.lst vs) ∧ vs.length = acc.length ∧ Lci c en O lf ρ dr' σ H1 (upd H' L (.lst (vs ++ [u]))) L (acc ++ [d]) (fq ++ fy) (vs ++ [u]) := by
  have l2 := l.step x dw
  have nL : L ∉ fq := (List.nodup_cons.mp l.nd).1
  have nfy : ∀ a ∈ fy, a ∉ L :: fq := fun a ha m => l.st.trk a (.inr m) (fr a ha)
  have nLy : L ∉ fy := fun m => nfy L m List.mem_cons_self
  have e1 : orO (orO O (L :: fq)) fy = orO O (L :: (fq ++ fy)) := orO_or fun a => by simp only [List.mem_cons, List.mem_append]; exact or_assoc
  have S1 := l.st.hold x dw nd fr (r.trk d)
  rw [e1] at S1 r
  rw [← List.append_assoc] at S1
  have ndn : (L :: (fq ++ fy)).Nodup := by
    refine List.nodup_cons.mpr ⟨fun m => (List.mem_append.mp m).elim nL nLy, ?_⟩
    rw [List.nodup_append]
    exact ⟨(List.nodup_cons.mp l.nd).2, nd, fun a ha b hb e => nfy b hb (e ▸ List.mem_cons_of_mem _ ha)⟩
  have S2 := S1.poke (o := .lst (vs ++ [u])) (fy := L :: (fq ++ fy)) (a := L) (List.mem_append_right _ List.mem_cons_self) ndn (fun b hb => by
    rcases List.mem_cons.mp hb with z | z
    · exact List.mem_append_right _ (z ▸ List.mem_cons_self)
    · exact (List.mem_append.mp z).elim (fun z => List.mem_append_right _ (List.mem_cons_of_mem _ z)) fun z => List.mem_append_left _ z)
  have oL : orO O (L :: (fq ++ fy)) L := .inr List.mem_cons_self
  have fre : ∀ a ∈ L :: (fq ++ fy), H1 a = none := fun a ha => by
    rcases List.mem_cons.mp ha with z | z
    · exact l.fr a (z ▸ List.mem_cons_self)
    · exact (List.mem_append.mp z).elim (fun z => l.fr a (List.mem_cons_of_mem _ z)) fun z => l.ext.un (fr a z)
  have rs0 : Rps c (orO O (L :: (fq ++ fy))) H' vs acc fq := Rps.mono acc l.rs (fun a o q z => x.keep a o q fun p hp e => z.elim (fun k => k (by rw [e]; exact l.st.odr p hp)) fun k => l.out p hp (List.mem_cons_of_mem _ (e ▸ k))) fun a o q n z => z.elim (fun z => n (.inl z)) fun m => by
    rcases List.mem_cons.mp m with m | m
    · exact n (.inr (m ▸ List.mem_cons_self))
    · rcases List.mem_append.mp m with m | m
      · exact n (.inr (List.mem_cons_of_mem _ m))
      · rw [fr a m] at q; cases q
  have xx := l.ext.trans x
  refine ⟨l2.hL, l2.rs.len, S2, upd_same, (rs0.updO oL nL).append (by
    have q : Rps c (orO O (L :: (fq ++ fy))) (upd H' L (.lst (vs ++ [u]))) [u] [d] (fy ++ []) := .cons (r.updO oL nLy) .nil
    rw [List.append_nil] at q
    exact q), ndn, fre, ⟨fun b ob q n => ?_, fun b q => ?_⟩⟩
  · have hb : b ≠ L := by
      rintro rfl
      rw [l.fr b List.mem_cons_self] at q; cases q
    rw [upd_ne hb]
    exact xx.keep b ob q n
  · by_cases hb : b = L
    · subst hb; rw [upd_same]; exact fun z => nomatch z
    · rw [upd_ne hb]; exact xx.trk b q
theorem Lci.fin (l : Lci c en O lf ρ dr σ H1 H L acc fq vs) : Rp c (orO O (L :: fq)) H (.ref L) (.lst true acc) (L :: fq) ∧ (L :: fq).Nodup ∧ (∀ a ∈ L :: fq, H1 a = none) ∧ Ext c H1 H ∧ DrOk c dr H :=
  ⟨.own l.hL l.rs, l.nd, l.fr, l.ext, l.st.drw⟩
end
section
variable {X : Cx} {dra : Option (Addr × Addr)} {W : WX} {elt tg iter : Expr} {ifs : List Expr} {scope : Scope} {own : List (Str × Nat)} {pos : Pos} {I : CI} {G : CGx} {T : CTx} {F : CEx} {ts : List Nat}
/-- in the block of a clause, whatever its own things are -/
abbrev InBlk (X : Cx) (scope : Scope) (P : Cx → Prop) : Prop := ∀ (s : Shared) (H : Hp) (C : Addr) (cl : List (Str × Addr)) (fp : List Addr), P (X.blk s H scope (compEnvC scope cl C X.env) fp)
theorem imp_lc {σ : L2.St} {H : Hp} {Q : VK} {vs : List Nat} (hts : ∀ i ∈ ts, i ∈ vs) (h : tE (dc X dra) W (cLc vs I G T F) σ H Q) : tLc (tI (dc X dra) W I) (tgG (dc X dra) ts G) (tT (dc X dra) W0 T) (tE (dc X dra) W0 F) vs σ H Q := by
  obtain ⟨en, O, lf, ρ, dr, S, w⟩ := h
  refine ⟨en, O, lf, ρ, dr, S, (Wp.bind w).mono (fun xs dr1 w1 J H1 x1 dw1 ij => ?_) fun _ _ k => k⟩
  intro L hL
  have S1 := (S.step x1 dw1).wipe vs
  have w1 : Wp (lcA G T F (wipeD ρ vs) xs [] dr1) (fun acc dr => OkE (dc X dra) O H Q (.lst true acc) dr) (ExW (dc X dra) W σ H) := Wp.bind w1
  refine ⟨fun i m H2 => m = xs.length - i ∧ i ≤ xs.length ∧ ∃ acc fq us dr2, Lci (dc X dra) en O lf (wipeD ρ vs) dr2 (L2.wipe σ vs) H1 H2 L acc fq us ∧ Wp (lcA G T F (wipeD ρ vs) (xs.drop i) acc dr2) (fun acc dr => OkE (dc X dra) O H Q (.lst true acc) dr) (ExW (dc X dra) W σ H), ⟨xs.length, rfl, Nat.zero_le _, [], [], [], dr1, .start S1 hL, w1⟩, ?_⟩
  rintro i m H2 ⟨rfl, hi2, acc, fq, us, dr2, l, w2⟩
  have g2 : Grow (dc X dra) O H1 (orO O (L :: fq)) H2 := l.ext.growO S.odr l.fr
  obtain ⟨i1, i2⟩ := ij _ H2 g2 l.st.trk i
  by_cases hlt : i < xs.length
  · rw [List.drop_eq_getElem_cons hlt] at w2
    obtain ⟨go, yl⟩ := i1 _ (List.getElem?_eq_getElem hlt)
    refine .inr ⟨go, fun H3 => ∃ acc fq us dr2, Lci (dc X dra) en O lf (wipeD ρ vs) dr2 (L2.wipe σ vs) H1 H3 L acc fq us ∧ Wp (lcA G T F (wipeD ρ vs) (xs.drop (i + 1)) acc dr2) (fun acc dr => OkE (dc X dra) O H Q (.lst true acc) dr) (ExW (dc X dra) W σ H), fun H3 n3 => ⟨_, by omega, rfl, hlt, n3⟩, fun v H3 y => ?_⟩
    obtain ⟨sm, rv⟩ := yl v H3 y
    unfold lcA at w2
    cases eG : G (wipeD ρ vs) xs[i] with
    | none => rw [eG] at w2; exact w2.elim
    | some ρ1 =>
      rw [eG] at w2
      have l3 := l.step (.of_same sm) (l.st.drw.same sm)
      refine ⟨en, orO O (L :: fq), (L :: fq) ++ lf, wipeD ρ vs, dr2, xs[i], ρ1, l3.st, rv, eG, fun σ1 S3 off => ⟨?_, ?_⟩⟩
      · have e : ∀ j, j ∉ vs → σ1[j]? = σ[j]? := fun j hj => (off.2 j fun z => hj (hts j z)).trans (L2.wipe_out hj)
        exact wipe_ext e (off.1.trans (L2.wipe_length σ vs))
      · refine ⟨en, orO O (L :: fq), (L :: fq) ++ lf, ρ1, dr2, S3, (Wp.noEx (Wp.bind w2)).mono (fun b dr4 w4 H4 x4 dw4 => ?_) fun _ _ k => k⟩
        have l4 := l3.step x4 dw4
        cases b with
        | false => exact (show ∃ acc fq us dr2, Lci (dc X dra) en O lf (wipeD ρ vs) dr2 (L2.wipe σ vs) H1 H4 L acc fq us ∧ Wp (lcA G T F (wipeD ρ vs) (xs.drop (i + 1)) acc dr2) (fun acc dr => OkE (dc X dra) O H Q (.lst true acc) dr) (ExW (dc X dra) W σ H) from ⟨acc, fq, us, dr4, l4, w4⟩)
        | true =>
          show tE (dc X dra) W0 F σ1 H4 _
          have w4 : Wp ((noEx (F ρ1 dr4)).bind fun d dr => if acc.length < sizeLine then lcA G T F (wipeD ρ vs) (xs.drop (i + 1)) (acc ++ [d]) dr else .st) (fun acc dr => OkE (dc X dra) O H Q (.lst true acc) dr) (ExW (dc X dra) W σ H) := w4
          refine ⟨en, orO O (L :: fq), (L :: fq) ++ lf, ρ1, dr4, S3.step x4 dw4, (Wp.noEx (Wp.bind w4)).mono (fun d dr5 w5 u H5 fy x5 dw5 r5 nd5 fr5 => ?_) fun _ _ k => k⟩
          obtain ⟨q1, q2, l5⟩ := l4.app x5 dw5 r5 nd5 fr5
          by_cases hz : acc.length < sizeLine
          · rw [if_pos hz] at w5
            exact ⟨us, q1, by rw [q2]; exact hz, acc ++ [d], fq ++ fy, us ++ [u], dr5, l5, w5⟩
          · rw [if_neg hz] at w5; exact w5.elim
  · have e : i = xs.length := by omega
    rw [List.drop_eq_nil_of_le (by omega)] at w2
    obtain ⟨r, nd, fr, e, dw⟩ := l.fin
    have w2 : OkE (dc X dra) O H Q (.lst true acc) dr2 := w2
    exact .inl ⟨i2 (by omega), w2 (.ref L) H2 (L :: fq) (x1.trans e) dw r nd fun a ha => x1.un (fr a ha)⟩
theorem ee_lc (hc : X.calm = true) (hN : X.N.Nodup) (hi : BI X dra W tg iter I) (hok : blkC X.N X.env.scope scope own = true) (hg : InBlk X scope fun Y => BG Y dra tg ts G) (ht : InBlk X scope fun Y => BTs Y dra W0 ifs T) (he : InBlk X scope fun Y => EE Y dra W0 elt F) (hts : ∀ i ∈ ts, i ∈ own.map (·.2)) (hs : ∀ x, foldedSetIterable iter X.env x = pure x := by intro _; rfl) :
    EE X dra W (.ListComp elt [⟨tg, iter, ifs, 0⟩] scope pos) (cLc (own.map (·.2)) I G T F) :=
  ⟨wkE (pe_lc hc hN hi.pi (blkOk_by hok) (fun s H C cl fp => (hg s H C cl fp).pg) (fun s H C cl fp => (ht s H C cl fp).pt) (fun s H C cl fp => (he s H C cl fp).pe) hs) fun σ H Q h => imp_lc hts h⟩
/-- name = [..] on one line -/
theorem bs_setLc {i : Nat} {y : Str} {py : Pos} {spos : Pos} (hc : X.calm = true) (hN : X.N.Nodup) (hsw : swapsWith (.ListComp elt [⟨tg, iter, ifs, 0⟩] scope pos) (some (.Name y py)) spos.line X.env = pure true) (hi : BI X dra W tg iter I) (hok : blkC X.N X.env.scope scope own = true) (hg : InBlk X scope fun Y => BG Y dra tg ts G) (ht : InBlk X scope fun Y => BTs Y dra W0 ifs T) (he : InBlk X scope fun Y => EE Y dra W0 elt F) (hts : ∀ i ∈ ts, i ∈ own.map (·.2))
    (hy : X.N[i]? = some y := by rfl) (hyl : X.env.scope.names.lookup y = some .local := by rfl) (hs : ∀ x, foldedSetIterable iter X.env x = pure x := by intro _; rfl) :
    BS X dra W (.Assign [.Name y py] (.ListComp elt [⟨tg, iter, ifs, 0⟩] scope pos) spos) (cSet i (cLc (own.map (·.2)) I G T F)) :=
  ⟨wkS (ps_setLc hc hN hy hyl hsw hi.pi (blkOk_by hok) (fun s H C cl fp => (hg s H C cl fp).pg) (fun s H C cl fp => (ht s H C cl fp).pt) (fun s H C cl fp => (he s H C cl fp).pe) hs) fun De σ H h => imp_lc hts (imp_set h)⟩
theorem bs_setLcO {i : Nat} {y : Str} {py : Pos} {spos : Pos} (hc : X.calm = true) (hN : X.N.Nodup) (hsw : swapsWith (.ListComp elt [⟨tg, iter, ifs, 0⟩] scope pos) (some (.Name y py)) spos.line X.env = pure true) (hi : BI X dra W tg iter I) (hok : blkC X.N X.env.scope scope own = true) (hg : InBlk X scope fun Y => BG Y dra tg ts G) (ht : InBlk X scope fun Y => BTs Y dra W0 ifs T) (he : InBlk X scope fun Y => EE Y dra W0 elt F) (hts : ∀ i ∈ ts, i ∈ own.map (·.2))
    (hy : X.N[i]? = some y := by rfl) (hyl : X.env.scope.names.lookup y = some .local := by rfl) (hs : ∀ x, foldedSetIterable iter X.env x = pure x := by intro _; rfl) :
    BS X dra W (.Assign [.Name y py] (.ListComp elt [⟨tg, iter, ifs, 0⟩] scope pos) spos) (cSetO i (cLc (own.map (·.2)) I G T F)) :=
  ⟨wkS (ps_setLc hc hN hy hyl hsw hi.pi (blkOk_by hok) (fun s H C cl fp => (hg s H C cl fp).pg) (fun s H C cl fp => (ht s H C cl fp).pt) (fun s H C cl fp => (he s H C cl fp).pe) hs) fun De σ H h => imp_lc hts (imp_setO h)⟩
/-! ### two clauses -/
def lcB (vs1 : List Nat) (G : CGx) (T : CTx) (I1 : CI) (G1 : CGx) (T1 : CTx) (F : CEx) (ρ : Rho) : List D → List D → Dr → R (List D)
  | [], acc, dr => .ok acc dr
  | x :: xs, acc, dr => match G ρ x with
    | none => .st
    | some ρ1 => (noEx (T ρ1 dr)).bind fun b dr => if b = true then (noEx (I1 ρ1 dr)).bind fun ys dr => (lcA G1 T1 F (wipeD ρ1 vs1) ys acc dr).bind fun acc dr => lcB vs1 G T I1 G1 T1 F ρ xs acc dr else lcB vs1 G T I1 G1 T1 F ρ xs acc dr
def cLc2 (vs vs1 : List Nat) (I : CI) (G : CGx) (T : CTx) (I1 : CI) (G1 : CGx) (T1 : CTx) (F : CEx) : CEx := fun ρ dr => (I ρ dr).bind fun xs dr => (lcB vs1 G T I1 G1 T1 F (wipeD ρ vs) xs [] dr).bind rLst
variable {tg1 iter1 : Expr} {ifs1 : List Expr} {I1 : CI} {G1 : CGx} {T1 : CTx} {ts1 : List Nat}
theorem imp_lc2 {σ : L2.St} {H : Hp} {Q : VK} {vs vs1 : List Nat} (hts : ∀ i ∈ ts, i ∈ vs) (hts1 : ∀ i ∈ ts1, i ∈ vs1) (h : tE (dc X dra) W (cLc2 vs vs1 I G T I1 G1 T1 F) σ H Q) :
    tLc2 (tI (dc X dra) W I) (tgG (dc X dra) ts G) (tT (dc X dra) W0 T) (tI (dc X dra) W0 I1) (tgG (dc X dra) ts1 G1) (tT (dc X dra) W0 T1) (tE (dc X dra) W0 F) vs vs1 σ H Q := by
  obtain ⟨en, O, lf, ρ, dr, S, w⟩ := h
  refine ⟨en, O, lf, ρ, dr, S, (Wp.bind w).mono (fun xs dr1 w1 J H1 x1 dw1 ij => ?_) fun _ _ k => k⟩
  intro L hL
  have S1 := (S.step x1 dw1).wipe vs
  have w1 : Wp (lcB vs1 G T I1 G1 T1 F (wipeD ρ vs) xs [] dr1) (fun acc dr => OkE (dc X dra) O H Q (.lst true acc) dr) (ExW (dc X dra) W σ H) := Wp.bind w1
  refine ⟨fun i m H2 => m = xs.length - i ∧ i ≤ xs.length ∧ ∃ acc fq us dr2, Lci (dc X dra) en O lf (wipeD ρ vs) dr2 (L2.wipe σ vs) H1 H2 L acc fq us ∧ Wp (lcB vs1 G T I1 G1 T1 F (wipeD ρ vs) (xs.drop i) acc dr2) (fun acc dr => OkE (dc X dra) O H Q (.lst true acc) dr) (ExW (dc X dra) W σ H), ⟨xs.length, rfl, Nat.zero_le _, [], [], [], dr1, .start S1 hL, w1⟩, ?_⟩
  rintro i m H2 ⟨rfl, hi2, acc, fq, us, dr2, l, w2⟩
  have g2 : Grow (dc X dra) O H1 (orO O (L :: fq)) H2 := l.ext.growO S.odr l.fr
  obtain ⟨i1, i2⟩ := ij _ H2 g2 l.st.trk i
  by_cases hlt : i < xs.length
  · rw [List.drop_eq_getElem_cons hlt] at w2
    obtain ⟨go, yl⟩ := i1 _ (List.getElem?_eq_getElem hlt)
    refine .inr ⟨go, fun H3 => ∃ acc fq us dr2, Lci (dc X dra) en O lf (wipeD ρ vs) dr2 (L2.wipe σ vs) H1 H3 L acc fq us ∧ Wp (lcB vs1 G T I1 G1 T1 F (wipeD ρ vs) (xs.drop (i + 1)) acc dr2) (fun acc dr => OkE (dc X dra) O H Q (.lst true acc) dr) (ExW (dc X dra) W σ H), fun H3 n3 => ⟨_, by omega, rfl, hlt, n3⟩, fun v H3 y => ?_⟩
    obtain ⟨sm, rv⟩ := yl v H3 y
    unfold lcB at w2
    cases eG : G (wipeD ρ vs) xs[i] with
    | none => rw [eG] at w2; exact w2.elim
    | some ρ1 =>
      rw [eG] at w2
      have l3 := l.step (.of_same sm) (l.st.drw.same sm)
      refine ⟨en, orO O (L :: fq), (L :: fq) ++ lf, wipeD ρ vs, dr2, xs[i], ρ1, l3.st, rv, eG, fun σ1 S3 off => ⟨?_, ?_⟩⟩
      · have e : ∀ j, j ∉ vs → σ1[j]? = σ[j]? := fun j hj => (off.2 j fun z => hj (hts j z)).trans (L2.wipe_out hj)
        exact wipe_ext e (off.1.trans (L2.wipe_length σ vs))
      · refine ⟨en, orO O (L :: fq), (L :: fq) ++ lf, ρ1, dr2, S3, (Wp.noEx (Wp.bind w2)).mono (fun b dr4 w4 H4 x4 dw4 => ?_) fun _ _ k => k⟩
        have l4 := l3.step x4 dw4
        cases b with
        | false => exact (show ∃ acc fq us dr2, Lci (dc X dra) en O lf (wipeD ρ vs) dr2 (L2.wipe σ vs) H1 H4 L acc fq us ∧ Wp (lcB vs1 G T I1 G1 T1 F (wipeD ρ vs) (xs.drop (i + 1)) acc dr2) (fun acc dr => OkE (dc X dra) O H Q (.lst true acc) dr) (ExW (dc X dra) W σ H) from ⟨acc, fq, us, dr4, l4, w4⟩)
        | true =>
          show tI (dc X dra) W0 I1 σ1 H4 _
          have w4 : Wp ((noEx (I1 ρ1 dr4)).bind fun ys dr => (lcA G1 T1 F (wipeD ρ1 vs1) ys acc dr).bind fun acc dr => lcB vs1 G T I1 G1 T1 F (wipeD ρ vs) (xs.drop (i + 1)) acc dr) (fun acc dr => OkE (dc X dra) O H Q (.lst true acc) dr) (ExW (dc X dra) W σ H) := w4
          refine ⟨en, orO O (L :: fq), (L :: fq) ++ lf, ρ1, dr4, S3.step x4 dw4, (Wp.noEx (Wp.bind w4)).mono (fun ys dr5 w5 J1 H5 x5 dw5 ij1 => ?_) fun _ _ k => k⟩
          have l5 := l4.step x5 dw5
          have S5 : StOk (dc X dra) en (orO O (L :: fq)) ((L :: fq) ++ lf) (wipeD ρ1 vs1) dr5 (L2.wipe σ1 vs1) H5 := ((S3.step x4 dw4).step x5 dw5).wipe vs1
          have l5' : Lci (dc X dra) en O lf (wipeD ρ1 vs1) dr5 (L2.wipe σ1 vs1) H1 H5 L acc fq us := ⟨S5, l5.hL, l5.rs, l5.nd, l5.fr, l5.ext⟩
          have w5 := Wp.bind w5
          obtain ⟨fqs, hfqs⟩ : ∃ f, f = fq := ⟨_, rfl⟩
          refine ⟨fun j k H6 => k = ys.length - j ∧ j ≤ ys.length ∧ ∃ acc fq us dr6, Lci (dc X dra) en O lf (wipeD ρ vs) dr6 (L2.wipe σ vs) H1 H6 L acc fq us ∧ Lci (dc X dra) en O lf (wipeD ρ1 vs1) dr6 (L2.wipe σ1 vs1) H1 H6 L acc fq us ∧ Grow (dc X dra) (orO O (L :: fqs)) H5 (orO O (L :: fq)) H6 ∧ Wp (lcA G1 T1 F (wipeD ρ1 vs1) (ys.drop j) acc dr6) (fun acc dr => Wp (lcB vs1 G T I1 G1 T1 F (wipeD ρ vs) (xs.drop (i + 1)) acc dr) (fun acc dr => OkE (dc X dra) O H Q (.lst true acc) dr) (ExW (dc X dra) W σ H)) (ExW (dc X dra) W σ H), ⟨ys.length, rfl, Nat.zero_le _, acc, fq, us, dr5, l5, l5', hfqs ▸ .refl, w5⟩, ?_⟩
          rintro j k H6 ⟨rfl, hj2, acc6, fq6, us6, dr6, l6, m6, g6, w6⟩
          subst hfqs
          obtain ⟨j1, j2⟩ := ij1 _ H6 g6 l6.st.trk j
          by_cases hlt1 : j < ys.length
          · rw [List.drop_eq_getElem_cons hlt1] at w6
            obtain ⟨go1, yl1⟩ := j1 _ (List.getElem?_eq_getElem hlt1)
            refine .inr ⟨go1, fun H7 => ∃ acc fq us dr6, Lci (dc X dra) en O lf (wipeD ρ vs) dr6 (L2.wipe σ vs) H1 H7 L acc fq us ∧ Lci (dc X dra) en O lf (wipeD ρ1 vs1) dr6 (L2.wipe σ1 vs1) H1 H7 L acc fq us ∧ Grow (dc X dra) (orO O (L :: fqs)) H5 (orO O (L :: fq)) H7 ∧ Wp (lcA G1 T1 F (wipeD ρ1 vs1) (ys.drop (j + 1)) acc dr6) (fun acc dr => Wp (lcB vs1 G T I1 G1 T1 F (wipeD ρ vs) (xs.drop (i + 1)) acc dr) (fun acc dr => OkE (dc X dra) O H Q (.lst true acc) dr) (ExW (dc X dra) W σ H)) (ExW (dc X dra) W σ H), fun H7 n7 => ⟨_, by omega, rfl, hlt1, n7⟩, fun v7 H7 y7 => ?_⟩
            obtain ⟨sm7, rv7⟩ := yl1 v7 H7 y7
            unfold lcA at w6
            cases eG1 : G1 (wipeD ρ1 vs1) ys[j] with
            | none => rw [eG1] at w6; exact w6.elim
            | some ρ7 =>
              rw [eG1] at w6
              have x7 : Ext (dc X dra) H6 H7 := .of_same sm7
              have l7 := l6.step x7 (l6.st.drw.same sm7)
              have m7 := m6.step x7 (l6.st.drw.same sm7)
              refine ⟨en, orO O (L :: fq6), (L :: fq6) ++ lf, wipeD ρ1 vs1, dr6, ys[j], ρ7, m7.st, rv7, eG1, fun σ7 S7 off7 => ⟨?_, ?_⟩⟩
              · have e : ∀ j, j ∉ vs1 → σ7[j]? = σ1[j]? := fun j hj => (off7.2 j fun z => hj (hts1 j z)).trans (L2.wipe_out hj)
                exact wipe_ext e (off7.1.trans (L2.wipe_length σ1 vs1))
              · refine ⟨en, orO O (L :: fq6), (L :: fq6) ++ lf, ρ7, dr6, S7, (Wp.noEx (Wp.bind w6)).mono (fun b dr8 w8 H8 x8 dw8 => ?_) fun _ _ k => k⟩
                have l8 := l7.step x8 dw8
                have m8 := m7.step x8 dw8
                have g8 : Grow (dc X dra) (orO O (L :: fqs)) H5 (orO O (L :: fq6)) H8 := (g6.trans (x7.grow l6.st.odr)).trans (x8.grow l6.st.odr)
                cases b with
                | false => exact (show ∃ acc fq us dr6, Lci (dc X dra) en O lf (wipeD ρ vs) dr6 (L2.wipe σ vs) H1 H8 L acc fq us ∧ Lci (dc X dra) en O lf (wipeD ρ1 vs1) dr6 (L2.wipe σ1 vs1) H1 H8 L acc fq us ∧ Grow (dc X dra) (orO O (L :: fqs)) H5 (orO O (L :: fq)) H8 ∧ Wp (lcA G1 T1 F (wipeD ρ1 vs1) (ys.drop (j + 1)) acc dr6) (fun acc dr => Wp (lcB vs1 G T I1 G1 T1 F (wipeD ρ vs) (xs.drop (i + 1)) acc dr) (fun acc dr => OkE (dc X dra) O H Q (.lst true acc) dr) (ExW (dc X dra) W σ H)) (ExW (dc X dra) W σ H) from ⟨acc6, fq6, us6, dr8, l8, m8, g8, w8⟩)
                | true =>
                  show tE (dc X dra) W0 F σ7 H8 _
                  have w8 : Wp ((noEx (F ρ7 dr8)).bind fun d dr => if acc6.length < sizeLine then lcA G1 T1 F (wipeD ρ1 vs1) (ys.drop (j + 1)) (acc6 ++ [d]) dr else .st) (fun acc dr => Wp (lcB vs1 G T I1 G1 T1 F (wipeD ρ vs) (xs.drop (i + 1)) acc dr) (fun acc dr => OkE (dc X dra) O H Q (.lst true acc) dr) (ExW (dc X dra) W σ H)) (ExW (dc X dra) W σ H) := w8
                  refine ⟨en, orO O (L :: fq6), (L :: fq6) ++ lf, ρ7, dr8, S7.step x8 dw8, (Wp.noEx (Wp.bind w8)).mono (fun d dr9 w9 u H9 fy x9 dw9 r9 nd9 fr9 => ?_) fun _ _ k => k⟩
                  obtain ⟨q1, q2, l9⟩ := l8.app x9 dw9 r9 nd9 fr9
                  obtain ⟨_, _, m9⟩ := m8.app x9 dw9 r9 nd9 fr9
                  by_cases hz : acc6.length < sizeLine
                  · rw [if_pos hz] at w9
                    refine ⟨us6, q1, by rw [q2]; exact hz, acc6 ++ [d], fq6 ++ fy, us6 ++ [u], dr9, l9, m9, g8.trans ⟨fun a o q n => ?_, fun a z => ?_, fun a q => ?_⟩, w9⟩
                    · have hb : a ≠ L := by
                        rintro rfl
                        exact n (.inr List.mem_cons_self)
                      rw [upd_ne hb]
                      exact x9.keep a o q fun p hp e => n (e ▸ l6.st.odr p hp)
                    · rcases z with z | z
                      · exact .inl (.inl z)
                      · rcases List.mem_cons.mp z with z | z
                        · exact .inl (.inr (z ▸ List.mem_cons_self))
                        · rcases List.mem_append.mp z with z | z
                          · exact .inl (.inr (List.mem_cons_of_mem _ z))
                          · exact .inr (fr9 a z)
                    · by_cases hb : a = L
                      · subst hb; rw [upd_same]; exact fun z => nomatch z
                      · rw [upd_ne hb]; exact x9.trk a q
                  · rw [if_neg hz] at w9; exact w9.elim
          · have e : j = ys.length := by omega
            rw [List.drop_eq_nil_of_le (by omega)] at w6
            exact .inl ⟨j2 (by omega), acc6, fq6, us6, dr6, l6, w6⟩
  · have e : i = xs.length := by omega
    rw [List.drop_eq_nil_of_le (by omega)] at w2
    obtain ⟨r, nd, fr, e, dw⟩ := l.fin
    have w2 : OkE (dc X dra) O H Q (.lst true acc) dr2 := w2
    exact .inl ⟨i2 (by omega), w2 (.ref L) H2 (L :: fq) (x1.trans e) dw r nd fun a ha => x1.un (fr a ha)⟩
theorem ee_lc2 {vs1 : List Nat} (hc : X.calm = true) (hN : X.N.Nodup) (hi : BI X dra W tg iter I) (hok : blkC X.N X.env.scope scope own = true) (hv : ∀ i ∈ vs1, i ∈ own.map (·.2)) (hg : InBlk X scope fun Y => BG Y dra tg ts G) (ht : InBlk X scope fun Y => BTs Y dra W0 ifs T)
    (hi1 : InBlk X scope fun Y => BI Y dra W0 tg1 iter1 I1) (hg1 : InBlk X scope fun Y => BG Y dra tg1 ts1 G1) (ht1 : InBlk X scope fun Y => BTs Y dra W0 ifs1 T1) (he : InBlk X scope fun Y => EE Y dra W0 elt F) (hts : ∀ i ∈ ts, i ∈ own.map (·.2)) (hts1 : ∀ i ∈ ts1, i ∈ vs1) (hs : ∀ x, foldedSetIterable iter X.env x = pure x := by intro _; rfl) (hs1 : ∀ env x, foldedSetIterable iter1 env x = pure x := by intro _ _; rfl) :
    EE X dra W (.ListComp elt [⟨tg, iter, ifs, 0⟩, ⟨tg1, iter1, ifs1, 0⟩] scope pos) (cLc2 (own.map (·.2)) vs1 I G T I1 G1 T1 F) :=
  ⟨wkE (pe_lc2 hc hN hi.pi (blkOk_by hok) hv (fun s H C cl fp => (hg s H C cl fp).pg) (fun s H C cl fp => (ht s H C cl fp).pt) (fun s H C cl fp => (hi1 s H C cl fp).pi) (fun s H C cl fp => (hg1 s H C cl fp).pg) (fun s H C cl fp => (ht1 s H C cl fp).pt) (fun s H C cl fp => (he s H C cl fp).pe) hs hs1) fun σ H Q h => imp_lc2 hts hts1 h⟩
theorem bs_setLc2 {vs1 : List Nat} {i : Nat} {y : Str} {py : Pos} {spos : Pos} (hc : X.calm = true) (hN : X.N.Nodup) (hsw : swapsWith (.ListComp elt [⟨tg, iter, ifs, 0⟩, ⟨tg1, iter1, ifs1, 0⟩] scope pos) (some (.Name y py)) spos.line X.env = pure true) (hi : BI X dra W tg iter I) (hok : blkC X.N X.env.scope scope own = true) (hv : ∀ i ∈ vs1, i ∈ own.map (·.2)) (hg : InBlk X scope fun Y => BG Y dra tg ts G) (ht : InBlk X scope fun Y => BTs Y dra W0 ifs T)
    (hi1 : InBlk X scope fun Y => BI Y dra W0 tg1 iter1 I1) (hg1 : InBlk X scope fun Y => BG Y dra tg1 ts1 G1) (ht1 : InBlk X scope fun Y => BTs Y dra W0 ifs1 T1) (he : InBlk X scope fun Y => EE Y dra W0 elt F) (hts : ∀ i ∈ ts, i ∈ own.map (·.2)) (hts1 : ∀ i ∈ ts1, i ∈ vs1)
    (hy : X.N[i]? = some y := by rfl) (hyl : X.env.scope.names.lookup y = some .local := by rfl) (hs : ∀ x, foldedSetIterable iter X.env x = pure x := by intro _; rfl) (hs1 : ∀ env x, foldedSetIterable iter1 env x = pure x := by intro _ _; rfl) :
    BS X dra W (.Assign [.Name y py] (.ListComp elt [⟨tg, iter, ifs, 0⟩, ⟨tg1, iter1, ifs1, 0⟩] scope pos) spos) (cSet i (cLc2 (own.map (·.2)) vs1 I G T I1 G1 T1 F)) :=
  ⟨wkS (ps_setLc2 hc hN hy hyl hsw hi.pi (blkOk_by hok) hv (fun s H C cl fp => (hg s H C cl fp).pg) (fun s H C cl fp => (ht s H C cl fp).pt) (fun s H C cl fp => (hi1 s H C cl fp).pi) (fun s H C cl fp => (hg1 s H C cl fp).pg) (fun s H C cl fp => (ht1 s H C cl fp).pt) (fun s H C cl fp => (he s H C cl fp).pe) hs hs1) fun De σ H h => imp_lc2 hts hts1 (imp_set h)⟩
end
end DL
/-! DL12 -/
/-! DL12: defs, calls, errors. -/
namespace DL
open PySem PySem.Spec PyProof.Rows L2

abbrev CF := List D → Dr → R D
/-- the promise of a def of n parameters that comes to F -/
def spD (K : PySem.W.Frag) (mg : Str → Option Value) (n : Nat) (F : CF) : Sp := fun vs H Q E => vs.length = n ∧
  ∃ (dra : Option (Addr × Addr)) (O : Addr → Prop) (ds : List D) (dr : Dr), (∀ a, O a → H a ≠ none) ∧ (∀ p, dra = some p → O p.1 ∧ H p.2 ≠ none) ∧ DrOk ⟨K, mg, dra⟩ dr H ∧ Rps ⟨K, mg, dra⟩ O H vs ds [] ∧
    Wp (F ds dr) (OkE ⟨K, mg, dra⟩ O H Q) (fun e dr' => ∀ cls od H', Ext ⟨K, mg, dra⟩ H H' → DrOk ⟨K, mg, dra⟩ dr' H' → ExOk ⟨K, mg, dra⟩ e cls od H' → E cls od H')
/-- a body with n slots -/
def fnD (n : Nat) (S : CSx) : CF := fun ds dr => match S (ds.map some ++ List.replicate (n - ds.length) none) dr with
  | .nx _ dr => .ok .non dr
  | .rt d dr => .ok d dr
  | .ex e _ dr => .ex e dr
  | _ => .st
structure HasFn (P : Program) (w : World) (K : PySem.W.Frag) (mg : Str → Option Value) (base : Heap) (k : Nat) (x : Str) (n : Nat) (F : CF) : Prop where
  ex : ∃ (f : Addr) (fd : FuncData) (ps : List Str), FnOk P w K mg base (L2.CX P w) k f fd ps (spD K mg n F) ∧ mg x = some (.ref f) ∧ PySem.W.keepIn K (.ref f) = true ∧ Binds K fd ps []
theorem HasFn.mono {P : Program} {w : World} {K : PySem.W.Frag} {mg : Str → Option Value} {base : Heap} {j k : Nat} {x : Str} {n : Nat} {F : CF} (h : HasFn P w K mg base j x n F) (hk : j ≤ k) : HasFn P w K mg base k x n F := by
  obtain ⟨f, fd, ps, F1, h1, h2, h3⟩ := h.ex
  exact ⟨f, fd, ps, F1.mono hk, h1, h2, h3⟩
theorem rps_start {c : DC} {O : Addr → Prop} {H : Hp} {vs : List V} {ds : List D} (r : Rps c O H vs ds []) (n : Nat) (i : Nat) (d : D) (h : (ds.map some ++ List.replicate (n - ds.length) none)[i]? = some (some d)) :
    ∃ v, (vs.map some ++ List.replicate (n - vs.length) none)[i]? = some (some v) ∧ Rp c O H v d [] := by
  by_cases hi : i < ds.length
  · rw [List.getElem?_append_left (by simpa using hi), List.getElem?_map] at h
    obtain ⟨d', e1, e2⟩ := Option.map_eq_some_iff.mp h
    cases e2
    obtain ⟨v, e3, r1⟩ := r.at0 e1
    refine ⟨v, ?_, r1⟩
    rw [List.getElem?_append_left (by rw [List.length_map, r.len]; exact hi), List.getElem?_map, e3]
    rfl
  · rw [List.getElem?_append_right (by simpa using hi)] at h
    have := List.mem_of_getElem? h
    have := List.eq_of_mem_replicate this
    cases this
/-- a def whose body reads so -/
theorem has_fn {P : Program} {w : World} {K : PySem.W.Frag} {mg : Str → Option Value} {base : Heap} {x qual : Str} {st : Stmt} {f : Addr} {fd : FuncData} {N ps : List Str} {k n : Nat} {B : CSx} (Fu : Fun K x qual st f fd) (gF : mg x = some (.ref f)) (bF : Binds K fd ps []) (S : FnScope N ps (defScope st)) (hn : ps.length = n) 
    (hb : ∀ (dra : Option (Addr × Addr)) (cdv : Value) (A : Around) (outer : List Env) (s : Shared) (H : Hp) (E : XK), Room k (A.deeper (envOfC qual (defScope st) s.heap.objs.size f cdv)) →
      BSs (cxOf (L2.CX P w) P w K mg base N qual (defScope st) f cdv A outer s H E) dra (fun cls d _ H => E cls d H) (defBody st) B) : HasFn P w K mg base (k + 1) x n (fnD N.length B) := by
  refine ⟨f, fd, ps, Fu.okX S (fun vs H Q E h => h.1.trans hn.symm) (fun cdv A outer s H vs Q E hr h => ?_), gF, Fu.kp, bF⟩
  obtain ⟨hl, dra, O, ds, dr, tr, hp, dw, r, w1⟩ := h
  refine ⟨_, (hb dra cdv A outer s H E hr).ps, ⟨H, O⟩, O, ds.map some ++ List.replicate (N.length - ds.length) none, dr, ?_, ?_⟩
  · refine ⟨⟨List.replicate (ds.map some ++ List.replicate (N.length - ds.length) none).length [], by rw [List.length_replicate], ?_, fun a ha => ?_, fun i d hi => ?_⟩, ?_, tr, fun _ h => h, Ext.refl, dw, fun p e => (hp p e).1, fun p e => tr _ (hp p e).1, tr, fun p e => (hp p e).2⟩
    · have : (List.replicate (ds.map some ++ List.replicate (N.length - ds.length) (none : Option D)).length ([] : List Addr)).flatten = [] := by simp
      rw [this]; exact List.nodup_nil
    · exfalso
      simp at ha
    · obtain ⟨v, e, r1⟩ := rps_start r N.length i d hi
      refine ⟨v, [], e, ?_, r1⟩
      rw [List.getElem?_replicate, if_pos (List.getElem?_eq_some_iff.mp hi).1]
    · unfold L2.start
      rw [List.length_append, List.length_append, List.length_map, List.length_map, List.length_replicate, List.length_replicate, r.len]
  · unfold fnD at w1
    cases eB : B (ds.map some ++ List.replicate (N.length - ds.length) none) dr with
    | st => rw [eB] at w1; exact w1
    | nx ρ' dr' =>
      rw [eB] at w1
      have w1 : OkE ⟨K, mg, dra⟩ O H Q .non dr' := w1
      exact fun σ' H' O' S' g => w1 .non H' [] S'.ext S'.drw .non List.nodup_nil fun _ z => nomatch z
    | rt d dr' =>
      rw [eB] at w1
      have w1 : OkE ⟨K, mg, dra⟩ O H Q d dr' := w1
      exact fun v H' fp x dw r nd fr => w1 v H' fp x dw r nd fr
    | bk ρ' dr' => rw [eB] at w1; exact w1.elim
    | ct ρ' dr' => rw [eB] at w1; exact w1.elim
    | ex e ρ' dr' =>
      rw [eB] at w1
      exact fun cls od σ' H' O' S' g ex => w1 cls od H' S'.ext S'.drw ex
theorem Rps.fzs {c : DC} {O : Addr → Prop} {H : Hp} {vs : List V} {ds : List D} {fp : List Addr} (r : Rps c O H vs ds fp) (n : ∀ a ∈ fp, ¬ O a) : Rps c O H vs (D.fzs ds) [] := Rps.fz ds r n
/-! ### calls -/
def cCall (F : CF) (A : CAx) : CEx := fun ρ dr => (A ρ dr).bind fun ds dr => F (D.fzs ds) dr
section
variable {X : Cx} {dra : Option (Addr × Addr)} {W : WX} {e fe : Expr} {es : List Expr} {A : CAx} {F : CF} {x : Str} {n k : Nat} {p pos : Pos}
theorem imp_call {σ : L2.St} {H : Hp} {Q : VK} (hl : es.length = n) (hA : ∀ ρ dr ds dr', A ρ dr = .ok ds dr' → ds.length = n) (h : tE (dc X dra) W (cCall F A) σ H Q) : tCallS (spD X.K X.mg n F) (WE W) (tA (dc X dra) W A) σ H Q := by
  obtain ⟨en, O, lf, ρ, dr, S, w⟩ := h
  refine ⟨en, O, lf, ρ, dr, S, ?_⟩
  have w := Wp.bind w
  cases eA : A ρ dr with
  | st => rw [eA] at w; exact w
  | ex e dr' => rw [eA] at w; exact w
  | ok ds dr' =>
    rw [eA] at w
    intro vs H' fp x dw r nd fr
    have w : Wp (F (D.fzs ds) dr') (OkE (dc X dra) O H Q) (ExW (dc X dra) W σ H) := w
    refine ⟨r.len.trans (hA _ _ _ _ eA), dra, O, D.fzs ds, dr', fun a ha => x.trk a (S.trk a ha), fun p e => ⟨S.odr p e, x.trk _ (S.ext.trk _ (S.ed2 p e))⟩, dw, r.orl.fzs fun a ha z => S.trk a z (fr a ha), w.mono (fun _ _ k => k.later x) fun e dr2 k cls od H2 x2 dw2 ex => k cls od H2 (x.trans x2) dw2 ex⟩
end
/-- it gives as many as are asked -/
def ALen (n : Nat) (A : CAx) : Prop := ∀ ρ dr ds dr', A ρ dr = .ok ds dr' → ds.length = n
theorem alen_nil : ALen 0 cNil := fun ρ dr ds dr' h => by
  cases h; rfl
theorem alen_cons {n : Nat} {F : CEx} {A : CAx} (h : ALen n A) : ALen (n + 1) (cCons F A) := fun ρ dr ds dr' e => by
  unfold cCons at e
  cases e1 : F ρ dr with
  | st => rw [e1] at e; cases e
  | ex _ _ => rw [e1] at e; cases e
  | ok d dr1 =>
    rw [e1] at e
    have e : (A ρ dr1).bind (fun xs dr => R.ok (d :: xs) dr) = .ok ds dr' := e
    cases e2 : A ρ dr1 with
    | st => rw [e2] at e; cases e
    | ex _ _ => rw [e2] at e; cases e
    | ok xs dr2 =>
      rw [e2] at e
      cases e
      rw [List.length_cons, h _ _ _ _ e2]
section
variable {X : Cx} {dra : Option (Addr × Addr)} {W : WX} {e fe : Expr} {es : List Expr} {A : CAx} {F : CF} {x : Str} {n k : Nat} {p pos : Pos}
theorem ee_call (hF : HasFn X.prog X.w X.K X.mg X.base k x n F) (hr : Room k X.A) (tk : Takes X W) (ha : EA X dra W (e :: es) A) (hl : (e :: es).length = n) (hA : ALen n A) (hg : Gl X x := by rfl) (hdb : (x == ("__debug__" : Str)) = false := by decide)
    (he : starEach (e :: es) X.env = (false, eval e X.env) :: starEach es X.env := by rfl) (hpl : (backTo pos (starEach es X.env)).any (·.1) = false := by rfl) : EE X dra W (.Call (.Name x p) (e :: es) [] pos) (cCall F A) := by
  obtain ⟨f, fd, ps, F1, h1, h2, h3⟩ := hF.ex
  exact ⟨wkE (pe_callS F1 hr hg h1 h2 h3 (fun σ => passAt tk σ) ha.pa hdb he hpl) fun σ H Q h => imp_call hl hA h⟩
end
end DL
/-! DL13 -/
/-! DL13: op=, stores within a list's list, stores side by side, xs[::-1]. -/
namespace DL
open PySem PySem.Spec PyProof.Rows L2

section
variable {X : Cx}
theorem ip_of {op : Operator} {r : R2} (h : ∀ (pins : List (Addr × Obj)) (s : Shared) (σ : L2.St) (H : Hp) (x y : V) (v u : Value) (Q : VK), Inv X pins σ H s → RelV x v → RelV y u → r x y H Q → wpAny (model X.prog X.w) X.A (inplaceOp op v u) (EP X pins σ Q) X.xe s) : PIp X op r := h
theorem ip_mulW : PIp X .Mult (rI CMulW fun i j => .int (i * j)) := by
  intro pins s σ H x y v u Q I r1 r2 h
  obtain ⟨i, j, e1, e2, hc, q⟩ := h
  subst e1; subst e2
  obtain ⟨t, rfl⟩ := r1
  obtain ⟨t', rfl⟩ := r2
  exact imul_int ⟨.int _, H, I.tok _, ⟨_, rfl⟩, q⟩ hc.ok
theorem ip_addI : PIp X .Add (rI0 fun i j => .int (i + j)) := by
  intro pins s σ H x y v u Q I r1 r2 h
  obtain ⟨i, j, e1, e2, q⟩ := h
  subst e1; subst e2
  obtain ⟨t, rfl⟩ := r1
  obtain ⟨t', rfl⟩ := r2
  exact iadd_int ⟨.int _, H, I.tok _, ⟨_, rfl⟩, q⟩
theorem ip_subI : PIp X .Sub (rI0 fun i j => .int (i - j)) := by
  intro pins s σ H x y v u Q I r1 r2 h
  obtain ⟨i, j, e1, e2, q⟩ := h
  subst e1; subst e2
  obtain ⟨t, rfl⟩ := r1
  obtain ⟨t', rfl⟩ := r2
  exact isub_int ⟨.int _, H, I.tok _, ⟨_, rfl⟩, q⟩
end
section
variable {X : Cx} {dra : Option (Addr × Addr)} {W : WX} {e a b d : Expr} {F G J K : CEx} {pos p : Pos}
/-- name op= e -/
theorem imp_aug {σ : L2.St} {H : Hp} {De : Ends} {i : Nat} {r : R2} {g : D → D → Option D} (hg : OpD X dra r g) (h : tSt (dc X dra) W (cSet i (cBin g (cVar i) F)) De σ H) : tAug i (tE (dc X dra) W F) r De σ H := by
  obtain ⟨en, O, ρ, dr, S, w⟩ := h
  have w := Wp.bind (WpS.stm S w)
  unfold cVar at w
  cases hi : ρ[i]? with
  | none => simp only [hi] at w; exact w.elim
  | some o =>
    cases o with
    | none => simp only [hi] at w; exact w.elim
    | some d1 =>
      simp only [hi] at w
      obtain ⟨fps, h1, h2, h3, h4⟩ := id S.slots
      obtain ⟨v1, fp, e1, e2, r1⟩ := h4 i d1 hi
      have w : Wp ((F ρ dr).bind fun y dr => R.opt (g d1 y) dr) (fun d dr' => WpS (.nx (ρ.set i (some d.fz)) dr') (dc X dra) en O H De W) (ExW (dc X dra) W σ H) := w
      refine ⟨v1, e1, en, O, [], ρ, dr, S, (Wp.bind w).mono (fun d2 dr2 w2 v2 H2 fq x2 dw2 r2 nd2 fr2 => ?_) fun _ _ k => k⟩
      obtain ⟨z, ez, k⟩ := w2.opt
      have k : WpS (.nx (ρ.set i (some z.fz)) dr2) (dc X dra) en O H De W := k
      have S2 := S.step x2 dw2
      have r1' : Rp (dc X dra) O H2 v1 d1 fp := r1.ext x2 S.odr fun p hp hm => S.edr p hp (h3 _ (List.mem_append_right _ (List.mem_flatten.mpr ⟨fp, List.mem_of_getElem? e2, hm⟩))).2
      refine hg O H2 v1 v2 d1 d2 z fp fq dr2 _ r1' r2.orl ez S2.trk dw2 fun v H' fz x dw r nd fr => ?_
      exact k (σ.set i (some v)) H' O ((S2.step x dw).set0 (r.orl.fz _ fun a ha zz => S2.trk a zz (fr a ha))) ((x2.trans x).grow S.odr)
theorem bs_aug {op : Operator} {r : R2} {g : D → D → Option D} {i : Nat} {x : Str} {p' : Pos} (hN : X.N.Nodup) (ho : PIp X op r) (hg : OpD X dra r g) (he : EE X dra W e F) (hi : X.N[i]? = some x := by rfl) (hx : Loc X.env.scope x := by first | exact Or.inl rfl | exact Or.inr rfl)
    (hf : X.fn x = true ∨ X.env.scope.names.lookup x = some .local := by first | exact .inl rfl | exact .inr rfl) : BS X dra W (.AugAssign (.Name x p') op e pos) (cSet i (cBin g (cVar i) F)) :=
  ⟨wkS (ps_aug hN hi hx he.pe ho hf) fun De σ H h => imp_aug hg h⟩

/-! ### a, b = x, y -/
def cPar2 (i j : Nat) (A : CAx) : CSx := fun ρ dr => match A ρ dr with
  | .ok [d1, d2] dr => .nx ((ρ.set i (some d1)).set j (some d2)) dr
  | .ex e dr => .ex e ρ dr
  | _ => .st
def cPar3 (i j l : Nat) (A : CAx) : CSx := fun ρ dr => match A ρ dr with
  | .ok [d1, d2, d3] dr => .nx (((ρ.set i (some d1)).set j (some d2)).set l (some d3)) dr
  | .ex e dr => .ex e ρ dr
  | _ => .st
theorem Rps.three {c : DC} {O : Addr → Prop} {H : Hp} {vs : List V} {d e f : D} {fp : List Addr} (r : Rps c O H vs [d, e, f] fp) : ∃ v u w f1 f2 f3, vs = [v, u, w] ∧ fp = f1 ++ (f2 ++ f3) ∧ Rp c O H v d f1 ∧ Rp c O H u e f2 ∧ Rp c O H w f f3 := by
  cases r with
  | cons r1 t =>
    rename_i v f1 vs1 f2
    obtain ⟨u, w, g1, g2, rfl, rfl, r2, r3⟩ := t.two
    exact ⟨v, u, w, f1, g1, g2, rfl, rfl, r1, r2, r3⟩
theorem StOk.set1 {c : DC} {en : En} {O : Addr → Prop} {fq : List Addr} {ρ : Rho} {dr : Dr} {σ : L2.St} {H : Hp} {v : V} {d : D} {i : Nat} (S : StOk c en O fq ρ dr σ H) (r : Rp c O H v d fq) : StOk c en O [] (ρ.set i (some d)) dr (σ.set i (some v)) H :=
  StOk.set (lf := []) (by rw [List.append_nil]; exact S) r
theorem imp_par2 {σ : L2.St} {H : Hp} {De : Ends} {i j : Nat} {A : CAx} (h : tSt (dc X dra) W (cPar2 i j A) De σ H) : tPar i j (tA (dc X dra) W A) De σ H := by
  obtain ⟨en, O, ρ, dr, S, w⟩ := h
  refine ⟨en, O, [], ρ, dr, S, ?_⟩
  unfold cPar2 at w
  cases eA : A ρ dr with
  | st => rw [eA] at w; exact w
  | ex e dr' => rw [eA] at w; exact fun cls od H' x dw ex => w cls od σ H' O (S.step x dw) (x.grow S.odr) ex
  | ok ds dr' =>
    rw [eA] at w
    intro vs H' fp x dw r nd fr
    match ds, w, r with
    | [d1, d2], w, r =>
      obtain ⟨v, u, f1, f2, rfl, rfl, r1, r2⟩ := r.two
      refine ⟨v, u, rfl, ?_⟩
      have S1 := S.hold x dw nd fr fun a ha => (List.mem_append.mp ha).elim (r1.trk d1 a) (r2.trk d2 a)
      rw [List.append_nil] at S1
      have S2 := S1.set (i := i) r1
      have S3 := S2.set1 (i := j) r2
      exact w _ H' _ S3 (x.growO S.odr fr)
    | [], w, r => exact w.elim
    | [_], w, r => exact w.elim
    | _ :: _ :: _ :: _, w, r => exact w.elim
theorem imp_par3 {σ : L2.St} {H : Hp} {De : Ends} {i j l : Nat} {A : CAx} (h : tSt (dc X dra) W (cPar3 i j l A) De σ H) : tPar3 i j l (tA (dc X dra) W A) De σ H := by
  obtain ⟨en, O, ρ, dr, S, w⟩ := h
  refine ⟨en, O, [], ρ, dr, S, ?_⟩
  unfold cPar3 at w
  cases eA : A ρ dr with
  | st => rw [eA] at w; exact w
  | ex e dr' => rw [eA] at w; exact fun cls od H' x dw ex => w cls od σ H' O (S.step x dw) (x.grow S.odr) ex
  | ok ds dr' =>
    rw [eA] at w
    intro vs H' fp x dw r nd fr
    match ds, w, r with
    | [d1, d2, d3], w, r =>
      obtain ⟨v, u, q, f1, f2, f3, rfl, rfl, r1, r2, r3⟩ := r.three
      refine ⟨v, u, q, rfl, ?_⟩
      have S1 := S.hold x dw nd fr fun a ha => (List.mem_append.mp ha).elim (r1.trk d1 a) fun ha => (List.mem_append.mp ha).elim (r2.trk d2 a) (r3.trk d3 a)
      rw [List.append_nil] at S1
      have S2 := S1.set (i := i) r1
      have S3 := S2.set (i := j) r2
      have S4 := S3.set1 (i := l) r3
      exact w _ H' _ S4 (x.growO S.odr fr)
    | [], w, r => exact w.elim
    | [_], w, r => exact w.elim
    | [_, _], w, r => exact w.elim
    | _ :: _ :: _ :: _ :: _, w, r => exact w.elim
theorem bs_par2 {i j : Nat} {x y : Str} {A : CAx} {px py pt : Pos} {kt k2 pt2} (hc : X.calm = true) (hN : X.N.Nodup) (hA : EA X dra W [a, b] A)
    (hw : swappedStores [.Tuple [.Name x px, .Name y py] kt pt] (.Tuple [a, b] k2 pt2) X.env = pure (some [x, y]))
    (hi : X.N[i]? = some x := by rfl) (hj : X.N[j]? = some y := by rfl) (hij : i ≠ j := by decide)
    (hx : X.env.scope.names.lookup x = some .local := by rfl) (hy : X.env.scope.names.lookup y = some .local := by rfl)
    (hs : swapsWithSole [.Tuple [.Name x px, .Name y py] kt pt] (.Tuple [a, b] k2 pt2) pos.line X.env = pure false := by rfl) :
    BS X dra W (.Assign [.Tuple [.Name x px, .Name y py] kt pt] (.Tuple [a, b] k2 pt2) pos) (cPar2 i j A) :=
  ⟨wkS (ps_par hc hN hi hj hij hx hy hA.pa hw hs) fun De σ H h => imp_par2 h⟩
theorem bs_par3 {i j l : Nat} {x y z : Str} {A : CAx} {px py pz pt : Pos} {kt k2 pt2} (hc : X.calm = true) (hN : X.N.Nodup) (hA : EA X dra W [a, b, d] A)
    (hw : swappedStores [.Tuple [.Name x px, .Name y py, .Name z pz] kt pt] (.Tuple [a, b, d] k2 pt2) X.env = pure (some [x, y, z]))
    (hi : X.N[i]? = some x := by rfl) (hj : X.N[j]? = some y := by rfl) (hl : X.N[l]? = some z := by rfl) (hij : i ≠ j := by decide) (hil : i ≠ l := by decide) (hjl : j ≠ l := by decide)
    (hx : X.env.scope.names.lookup x = some .local := by rfl) (hy : X.env.scope.names.lookup y = some .local := by rfl) (hz : X.env.scope.names.lookup z = some .local := by rfl)
    (hs : swapsWithSole [.Tuple [.Name x px, .Name y py, .Name z pz] kt pt] (.Tuple [a, b, d] k2 pt2) pos.line X.env = pure false := by rfl) :
    BS X dra W (.Assign [.Tuple [.Name x px, .Name y py, .Name z pz] kt pt] (.Tuple [a, b, d] k2 pt2) pos) (cPar3 i j l A) :=
  ⟨wkS (ps_par3 hc hN hi hj hl hij hil hjl hx hy hz hA.pa hw hs) fun De σ H h => imp_par3 h⟩
end

/-! ### xs[::-1] -/
theorem rev_adjust (n : Nat) : Builtin.Slice.sliceAdjust none none (-1) (n : Int) = ((n : Int) - 1, -1) := by
  unfold Builtin.Slice.sliceAdjust
  simp
theorem rev_places (n : Nat) : Builtin.Slice.slicePlaces ((n : Int) - 1) (-1) (-1) = n := by
  unfold Builtin.Slice.slicePlaces
  have h1 : ¬ ((-1 : Int) > 0) := by omega
  simp only [h1, if_false]
  split <;> simp <;> omega
section
variable {prog : Program} {w : World} {A : Around} {E : Value → Shared → Prop} {s : Shared}
theorem sliceApplied_rev {sl : Addr} {vs : Value} {n : Nat} {Q : Int × Int × Nat → Shared → Prop} (hs : s.heap.IsSliceOf sl .none .none vs) (ps : IsPart vs (some (-1)))
    (h : Q ((n : Int) - 1, -1, n) s) : wpAny (model prog w) A (Builtin.Slice.sliceApplied (.ref sl) (pure (n : Int))) Q E s := by
  obtain ⟨os, hos, hcs, hds⟩ := id hs
  unfold Builtin.Slice.sliceApplied Builtin.Slice.sliceFields
  refine wpAny_bind (wpAny_bind (wpAny_field hos hds (x := .none) rfl (wpAny_bind (wpAny_field hos hds (x := .none) rfl (wpAny_bind (wpAny_field hos hds (x := vs) rfl (wpAny_pure ?_)))))))
  refine wpAny_bind (HT.slicePart_ ps ?_)
  show wpAny _ _ (if ((-1 : Int) == 0) = true then _ else _) _ _ s
  rw [if_neg (by decide)]
  refine wpAny_bind (slicePart_none (wpAny_bind (slicePart_none (wpAny_bind (wpAny_pure ?_)))))
  show wpAny _ _ (match Builtin.Slice.sliceAdjust none none (-1) (n : Int) with | (lo, hi) => pure (lo, (-1 : Int), Builtin.Slice.slicePlaces lo hi (-1))) _ _ s
  rw [rev_adjust n]
  show wpAny _ _ (pure ((n : Int) - 1, (-1 : Int), Builtin.Slice.slicePlaces ((n : Int) - 1) (-1) (-1))) _ _ s
  rw [rev_places]
  exact wpAny_pure h
theorem fm_congr {α β : Type} {f g : α → Option β} : ∀ {l : List α}, (∀ x ∈ l, f x = g x) → l.filterMap f = l.filterMap g
  | [], _ => rfl
  | x :: l, h => by
    rw [List.filterMap_cons, List.filterMap_cons, h x List.mem_cons_self, fm_congr fun y hy => h y (List.mem_cons_of_mem _ hy)]
theorem pick_rev (xs : Array Value) : ((List.range xs.size).filterMap fun (m : Nat) => xs[((xs.size : Int) - 1 + (m : Int) * (-1)).toNat]?).toArray = xs.toList.reverse.toArray := by
  have h : ((List.range xs.size).filterMap fun (m : Nat) => xs[((xs.size : Int) - 1 + (m : Int) * (-1)).toNat]?) = ((List.range xs.size).map fun k => xs.size - 1 - k).filterMap (xs[·]?) := by
    rw [List.filterMap_map]
    refine fm_congr fun m hm => ?_
    have := List.mem_range.mp hm
    have e : ((xs.size : Int) - 1 + (m : Int) * (-1)).toNat = xs.size - 1 - m := by omega
    show xs[((xs.size : Int) - 1 + (m : Int) * (-1)).toNat]? = xs[xs.size - 1 - m]?
    rw [e]
  rw [h, PySem.W.krv_range, List.filterMap_reverse, PySem.W.krv_all]
theorem getItem_tuple_rev {t sl : Addr} {items : Array Value} {vs : Value} {Q : Value → Shared → Prop} (ht : IsTup s.heap t items) (hs : s.heap.IsSliceOf sl .none .none vs) (ps : IsPart vs (some (-1)))
    (h : Q (.ref s.heap.objs.size) { s with heap := s.heap.push { cls := .type "tuple", data := .seq items.toList.reverse.toArray } }) (hsz : items.size ≤ sizeLine) : wpAny (model prog w) A (getItem (.ref t) (.ref sl)) Q E s := by
  have htake : sizeOk (.seq items.toList.reverse.toArray) := by
    show items.toList.reverse.toArray.size ≤ sizeLine
    rw [List.size_toArray, List.length_reverse, Array.length_toList]
    exact hsz
  obtain ⟨os, hos, hcs, hds⟩ := id hs
  have hTs : s.TypeIs (.ref sl) "slice" := ⟨os, hos, hcs⟩
  unfold getItem
  try with_reducible refine wpAny_holding ?_
  first | refine wpAny_bind (wpAny_pure ?_) | skip
  refine wpAny_bind (wpAny_sequenceKey ht.typeIs (by decide) ?_)
  refine wpAny_bind (wpAny_callSpecial?_slot (name := Str.ofString "__getitem__") ht.typeIs PyProof.Rows.slot_tuple_getitem
    (wpAny_call_entry PyProof.Rows.slot_tuple_getitem ht.typeIs entry_tuple_getitem ?_ (args_tuple_getitem _ _)))
  show wpAny _ _ (Builtin.Tuple.tupleItemsOf (.ref t) >>= _) _ _ s
  refine wpAny_bind (tupleItemsOf_ ht ?_)
  refine wpAny_bind (wpAny_typeOf hTs ?_)
  rw [if_pos (by decide)]
  refine wpAny_bind (sliceApplied_rev hs ps ?_)
  have hno : ¬ ((((items.size : Int) - 1) == 0 && (-1 : Int) == 1 && items.size == items.size) = true) := by
    intro q
    rw [Bool.and_eq_true, Bool.and_eq_true] at q
    exact absurd q.1.2 (by decide)
  show wpAny _ _ (if (((items.size : Int) - 1) == 0 && (-1 : Int) == 1 && items.size == items.size) = true then _ else _) _ _ s
  rw [if_neg hno, pick_rev]
  first
    | exact wpAny_bind (m := Builtin.Tuple.tupleExact _) (wpAny_newObj_type (wpAny_pure ⟨_, rfl, wpAny_pure h⟩) htake)
    | exact wpAny_bind (m := Builtin.Tuple.tupleExact _) (wpAny_newObj_type (wpAny_bind (wpAny_pure (wpAny_pure ⟨_, rfl, wpAny_pure h⟩))) htake)
    | exact wpAny_bind (wpAny_bind (m := Builtin.Tuple.tupleExact _) (wpAny_newObj_type (wpAny_pure (wpAny_pure ⟨_, rfl, wpAny_pure h⟩)) htake))
    | exact wpAny_bind (wpAny_bind (m := Builtin.Tuple.tupleExact _) (wpAny_newObj_type (wpAny_pure ⟨_, rfl, wpAny_pure h⟩) htake))
end
section
variable {X : Cx} {dra : Option (Addr × Addr)} {W : WX} {e : Expr} {F : CEx}
theorem pe_revA {te : TE} {k : Nat} {p1 p2 p3 pos : Pos} (he : PE X e te) : PE X (.Subscript e (.Slice none none (some (.UnaryOp .USub (.Constant (.int 1) k p1) p2)) p3) pos) (fun σ H Q => te σ H fun x H1 =>
    (∃ a xs, x = .ref a ∧ SqL X.K H1 a xs ∧ ∀ p, H1 p = none → Q (.ref p) (upd H1 p (.lst xs.reverse))) ∨ (∃ a xs, x = .ref a ∧ SqT X.K H1 a xs ∧ ∀ p, H1 p = none → Q (.ref p) (upd H1 p (.tup xs.reverse)))) := by
  refine ⟨fun pins s σ H Q I h => ?_⟩
  refine Subscript_ (thn (he.run pins s σ H _ I h) fun v s1 ⟨x, H1, I1, r1, q1⟩ => ?_)
  have hst : PO X (some (.UnaryOp .USub (.Constant (.int 1) k p1) p2)) (tPart (tUn (rU fun i => .int (-i)) (tC (.int 1)))) := po_some (pe_un un_neg pe_int)
  refine wpAny_Slice (thn (po_none.run pins s1 σ H1 (fun o H2 => o = none ∧ H2 = H1) I1 ⟨rfl, rfl⟩) fun vl s2 ⟨l, H2, I2, pl, el, e2⟩ => ?_)
  subst el e2
  refine thn (po_none.run pins s2 σ H2 (fun o H3 => o = none ∧ H3 = H2) I2 ⟨rfl, rfl⟩) fun vu s3 ⟨u, H3, I3, pu, eu, e3⟩ => ?_
  subst eu e3
  refine thn (hst.run pins s3 σ H3 (fun o H4 => o = some (-1) ∧ H4 = H3) I3 ⟨1, rfl, -1, rfl, rfl, rfl⟩) fun vs s4 ⟨o, H4, I4, ps, eo, e4⟩ => ?_
  subst eo e4
  have I5 : Inv X pins σ H4 { s4 with heap := s4.heap.push { cls := .type "slice", data := .fields #[vl, vu, vs] } } := I4.kept (t' := s4.toks) fun b ob q => Heap.get?_push_of_some _ q
  rcases q1 with ⟨a, xs, ex, hx, q⟩ | ⟨a, xs, ex, hx, q⟩
  · subst ex
    cases r1
    obtain ⟨its, r, ht, hz⟩ := I5.list hx
    have hlen := r.length
    show wpAny (model X.prog X.w) X.A (subscriptTail e (.Slice none none (some (.UnaryOp .USub (.Constant (.int 1) k p1) p2)) p3) (.ref a) (.ref s4.heap.objs.size)) (EP X pins σ Q) X.xe { s4 with heap := s4.heap.push { cls := .type "slice", data := .fields #[vl, vu, vs] } }
    refine tail_any (ops := [.ref a, .ref s4.heap.objs.size]) ht.isList.typeIs (PySem.slot_list_getitem.lookup) ?_ (by with_unfolding_all rfl)
    refine wpAny_getItem_list_slice ht.isList (Heap.IsSliceOf.new _ vl vu vs) pl pu ps (by decide) ?_ (by rw [List.size_toArray]; omega)
    rw [PySem.W.krv_pick]
    refine ⟨.ref _, _, I5.laid (t' := s4.toks) (o := .lst xs.reverse) (fun b ob q => Heap.get?_push_of_some _ q) (Nat.le_refl _) ?_, rfl, q _ (I5.hok.fresh (Nat.le_refl _))⟩
    exact ⟨by rw [List.length_reverse]; exact hz, _, 0, r.reverse, Heap.get?_push_size _ rfl⟩
  · subst ex
    cases r1
    obtain ⟨its, r, ht, hz⟩ := I5.tuple hx
    have hlen := r.length
    cases pl
    cases pu
    show wpAny (model X.prog X.w) X.A (subscriptTail e (.Slice none none (some (.UnaryOp .USub (.Constant (.int 1) k p1) p2)) p3) (.ref a) (.ref s4.heap.objs.size)) (EP X pins σ Q) X.xe { s4 with heap := s4.heap.push { cls := .type "slice", data := .fields #[.none, .none, vs] } }
    refine tail_any (ops := [.ref a, .ref s4.heap.objs.size]) ht.typeIs (PyProof.Rows.slot_tuple_getitem.lookup) ?_ (by with_unfolding_all rfl)
    refine getItem_tuple_rev ht (Heap.IsSliceOf.new _ .none .none vs) ps ?_ (by rw [List.size_toArray]; omega)
    refine ⟨.ref _, _, I5.laid (t' := s4.toks) (o := .tup xs.reverse) (fun b ob q => Heap.get?_push_of_some _ q) (Nat.le_refl _) ?_, rfl, q _ (I5.hok.fresh (Nat.le_refl _))⟩
    refine ⟨by rw [List.length_reverse]; exact hz, its.reverse, r.reverse, ?_⟩
    exact ⟨_, Heap.get?_push_size _ rfl, rfl, 0, by simp⟩
def gRev : D → Option D
  | .tup xs => some (.tup xs.reverse)
  | .lst false xs => some (.lst true xs.reverse)
  | _ => none
def cRev (F : CEx) : CEx := fun ρ dr => (F ρ dr).bind fun d dr => R.opt (gRev (match d with
  | .lst _ xs => .lst false (D.fzs xs)
  | d => d)) dr
theorem Rps.reverse {c : DC} {O : Addr → Prop} {H : Hp} : ∀ {vs : List V} {ds : List D}, Rps c O H vs ds [] → Rps c O H vs.reverse ds.reverse []
  | [], ds, r => by
    have := r.len
    have : ds = [] := List.length_eq_zero_iff.mp this.symm
    subst this
    exact .nil
  | v :: vs, [], r => nomatch r.len
  | v :: vs, d :: ds, r => by
    obtain ⟨f1, f2, e, r1, r2⟩ := r.uncons
    obtain ⟨rfl, rfl⟩ := List.append_eq_nil_iff.mp e.symm
    rw [List.reverse_cons, List.reverse_cons]
    exact (Rps.reverse r2).append (.cons (fp := []) (fq := []) r1 .nil)
theorem ee_rev {k : Nat} {p1 p2 p3 pos : Pos} (he : EE X dra W e F) : EE X dra W (.Subscript e (.Slice none none (some (.UnaryOp .USub (.Constant (.int 1) k p1) p2)) p3) pos) (cRev F) :=
  ⟨wkE (pe_revA he.pe) fun σ H Q ⟨en, O, lf, ρ, dr, S, w⟩ => by
    refine ⟨en, O, lf, ρ, dr, S, (Wp.bind w).mono (fun d dr' k v H' fp x dw r nd fr => ?_) fun _ _ k => k⟩
    obtain ⟨z, ez, k⟩ := k.opt
    have k : OkE (dc X dra) O H Q z dr' := k
    have k := k.later x
    have rz := r.orl.fz d fun a ha z => S.trk a z (fr a ha)
    have trk : ∀ a, O a → H' a ≠ none := fun a ha => x.trk a (S.trk a ha)
    cases d with
    | lst b xs =>
      cases ez
      cases rz with
      | lst e1 n1 rs => exact .inl ⟨_, _, rfl, .of e1, fun p hp => k.newL dw hp rs.reverse⟩
    | tup xs =>
      cases ez
      obtain ⟨a, vs, rfl, hq, rs, _⟩ := rp_sqt rz
      exact .inr ⟨a, vs, rfl, hq, fun p hp => k.newT dw trk hp rs.reverse⟩
    | _ => cases ez⟩
end
end DL
/-! DL14 -/
/-! DL14: y[j] op= e, y[j][k] op= e, y[j][k] = e. -/
namespace DL
open PySem PySem.Spec PyProof.Rows L2

section
variable {c : DC} {O : Addr → Prop} {H : Hp}
mutual
theorem Rp.uq : ∀ (d : D) {v : V} {f g : List Addr}, Rp c O H v d f → Rp c O H v d g → f = g
  | .lst b ds, _, _, _, h, k => by
    cases h with
    | lst e n r => cases k with
      | lst _ _ _ => rfl
    | own e r => cases k with
      | own e' r' =>
        rw [e] at e'; cases e'
        rw [Rps.uq ds r r']
  | .tup ds, _, _, _, h, k => (h.frz _ rfl).trans (k.frz _ rfl).symm
  | .non, _, _, _, h, k => (h.frz _ rfl).trans (k.frz _ rfl).symm
  | .bl _, _, _, _, h, k => (h.frz _ rfl).trans (k.frz _ rfl).symm
  | .int _, _, _, _, h, k => (h.frz _ rfl).trans (k.frz _ rfl).symm
  | .str _, _, _, _, h, k => (h.frz _ rfl).trans (k.frz _ rfl).symm
  | .fn _, _, _, _, h, k => (h.frz _ rfl).trans (k.frz _ rfl).symm
  | .dr, _, _, _, h, k => (h.frz _ rfl).trans (k.frz _ rfl).symm
theorem Rps.uq : ∀ (ds : List D) {vs : List V} {f g : List Addr}, Rps c O H vs ds f → Rps c O H vs ds g → f = g
  | [], _, _, _, h, k => by cases h; cases k; rfl
  | d :: ds, _, _, _, h, k => by
    cases h with
    | cons r t => cases k with
      | cons r' t' => rw [Rp.uq d r r', Rps.uq ds t t']
end
end
section
variable {X : Cx}
theorem get_list : PGet X (rIxL X.K) := by
  intro pins s σ H o i ov iv Q I ro ri h
  obtain ⟨p, xs, k, z, rfl, rfl, hq, he, q⟩ := h
  cases ro
  obtain ⟨t, rfl⟩ := ri
  obtain ⟨its, r, pl, hz⟩ := I.list hq
  obtain ⟨j, h1, h2, h3, h4, h5⟩ := atI_get he
  obtain ⟨w, ew, rw'⟩ := r.get h2
  have hl := r.length
  have hn := line63
  have fin : EP X pins σ Q w s := ⟨z, H, I, rw', q⟩
  by_cases h0 : 0 ≤ k
  · have hj : k.toNat = j := by
      rw [seqIndex_of h0 h5] at h1
      exact Option.some.inj h1
    exact wpAny_getItem_list pl.isList h0 (by omega) (by rw [hj]; simpa using ew) fin
  · have hj : (k + (its.toArray.size : Int)).toNat = j := by
      rw [seqIndex_neg (by omega) h4] at h1
      rw [List.size_toArray, ← hl]
      exact Option.some.inj h1
    exact wpAny_getItem_list_neg pl.isList (by omega) (by rw [List.size_toArray] <;> omega) (by omega) (by rw [hj]; simpa using ew) fin
end
def ixD (xs : List D) : D → Option Nat
  | .int k => ixN xs.length k
  | _ => none
theorem ixD_of {c : DC} {O : Addr → Prop} {H : Hp} {xs : List D} {d : D} {j : Nat} {v : V} {fp : List Addr} (h : ixD xs d = some j) (r : Rp c O H v d fp) : ∃ k, v = .int k ∧ ixN xs.length k = some j := by
  cases d with
  | int k => cases r; exact ⟨k, rfl, h⟩
  | _ => cases h
theorem ixN_at {α : Type} {xs : List α} {k : Int} {j : Nat} {x : α} (h : ixN xs.length k = some j) (e : xs[j]? = some x) : atI xs k = some x := by
  unfold atI
  rw [h]
  exact e
section
variable {X : Cx} {dra : Option (Addr × Addr)} {W : WX} {e a b d : Expr} {F G J J1 J2 K : CEx} {pos p : Pos} {g : D → D → Option D} {r : R2} {i : Nat}
/-- what y[j] op= e does with its items -/
def aug1 (i : Nat) (ρ : Rho) (xs : List D) (j : Nat) (z : D) (dr : Dr) : SR := .nx (ρ.set i (some (.lst true (xs.set j z)))) dr
def ownAt (ρ : Rho) (i : Nat) : Option (List D) := match ρ[i]? with
  | some (some (.lst true xs)) => some xs
  | _ => none
def inAt (xs : List D) (j : Nat) : Option (List D) := match xs[j]? with
  | some (.lst true ys) => some ys
  | _ => none
theorem ownAt_of {ρ : Rho} {i : Nat} {xs : List D} (h : ownAt ρ i = some xs) : ρ[i]? = some (some (.lst true xs)) := by
  unfold ownAt at h
  split at h
  · rename_i e; cases h; exact e
  · cases h
theorem inAt_of {xs : List D} {j : Nat} {ys : List D} (h : inAt xs j = some ys) : xs[j]? = some (.lst true ys) := by
  unfold inAt at h
  split at h
  · rename_i e; cases h; exact e
  · cases h
def SR.opt {α : Type} (o : Option α) (f : α → SR) : SR := match o with
  | some a => f a
  | none => .st
theorem WpS.opt {α : Type} {o : Option α} {f : α → SR} {c : DC} {en : En} {O : Addr → Prop} {H : Hp} {De : Ends} (w : WpS (SR.opt o f) c en O H De W) : ∃ a, o = some a ∧ WpS (f a) c en O H De W := by
  cases o with
  | none => exact w.elim
  | some a => exact ⟨a, rfl, w⟩
def cAug1 (i : Nat) (J : CEx) (g : D → D → Option D) (F : CEx) : CSx := fun ρ dr => SR.opt (ownAt ρ i) fun xs => (J ρ dr).stm ρ fun k dr => SR.opt (ixD xs k) fun j => SR.opt xs[j]? fun d1 => (F ρ dr).stm ρ fun d2 dr => SR.opt (g d1 d2) fun z => aug1 i ρ xs j z.fz dr
def cAug2 (i : Nat) (J1 J2 : CEx) (g : D → D → Option D) (F : CEx) : CSx := fun ρ dr => SR.opt (ownAt ρ i) fun xs => (J1 ρ dr).stm ρ fun k dr => SR.opt (ixD xs k) fun j => SR.opt (inAt xs j) fun ys =>
  (J2 ρ dr).stm ρ fun k2 dr => SR.opt (ixD ys k2) fun j2 => SR.opt ys[j2]? fun d1 => (F ρ dr).stm ρ fun d2 dr => SR.opt (g d1 d2) fun z => aug1 i ρ xs j (.lst true (ys.set j2 z.fz)) dr
theorem StOk.shed0 {c : DC} {en : En} {O : Addr → Prop} {lf : List Addr} {ρ : Rho} {dr : Dr} {σ : L2.St} {H : Hp} (S : StOk c en O lf ρ dr σ H) : StOk c en O [] ρ dr σ H := StOk.shed (fx := lf) (by rw [List.append_nil]; exact S)
/-- a value ahead of the rest of a statement, some steps on -/
theorem WpS.stm' {r : R D} {ρ : Rho} {f : D → Dr → SR} {c : DC} {en : En} {O O0 : Addr → Prop} {lf : List Addr} {H0 H1 : Hp} {De : Ends} {dr : Dr} {σ : L2.St} (S : StOk c en O lf ρ dr σ H1) (g : Grow c O0 H0 O H1) (w : WpS (r.stm ρ f) c en O0 H0 De W) : Wp r (fun d dr => WpS (f d dr) c en O0 H0 De W) (ExW c W σ H1) := by
  cases r with
  | st => exact w
  | ok d dr' => exact w
  | ex e dr' => exact fun cls od H' x dw ex => w cls od σ H' O (S.shed0.step x dw) (g.trans (x.grow S.odr)) ex
/-- one's own list in a slot -/
theorem StOk.own {c : DC} {en : En} {O : Addr → Prop} {lf : List Addr} {ρ : Rho} {dr : Dr} {σ : L2.St} {H : Hp} {xs : List D} (S : StOk c en O lf ρ dr σ H) (hi : ρ[i]? = some (some (.lst true xs))) :
    ∃ a vs fq, σ[i]? = some (some (.ref a)) ∧ H a = some (.lst vs) ∧ Rps c O H vs xs fq ∧ (a :: fq).Nodup ∧ (∀ b ∈ a :: fq, O b ∧ en.He b = none) := by
  obtain ⟨v, fp, e1, r, nd, o1, _, _⟩ := StOk.chg (fx := []) (lf := lf) (d' := .non) S hi
  obtain ⟨a, vs, fq, rfl, rfl, h, s⟩ := own_at r
  exact ⟨a, vs, fq, e1, h, s, (List.nodup_append.mp nd).2.1, o1⟩
theorem imp_aug1 {σ : L2.St} {H : Hp} {De : Ends} (hg : OpD X dra r g) (h : tSt (dc X dra) W (cAug1 i J g F) De σ H) : tAugS (tVar i) (tB (dc X dra) W J) (tE (dc X dra) W F) (rIxL X.K) r rSetL De σ H := by
  obtain ⟨en, O, ρ, dr, S, w⟩ := h
  obtain ⟨xs, hx, w⟩ := w.opt
  have hi := ownAt_of hx
  obtain ⟨a, vs0, fq0, e0, h0, s0, nd0, o0⟩ := S.own hi
  refine ⟨.ref a, e0, en, O, [], ρ, dr, S, (WpS.stm' S .refl w).mono (fun dk dr1 w1 vk H1 fk x1 dw1 rk ndk frk => ?_) fun _ _ k => k⟩
  obtain ⟨j, hj, w1⟩ := w1.opt
  obtain ⟨d1, hd, w1⟩ := w1.opt
  obtain ⟨k, rfl, hk⟩ := ixD_of hj rk
  have S1 := S.step x1 dw1
  have g1 : Grow (dc X dra) O H O H1 := x1.grow S.odr
  obtain ⟨a1, vs1, fq1, e1, h1, s1, nd1, o1⟩ := S1.own hi
  rw [e0] at e1
  cases e1
  obtain ⟨u1, fu, eu, ru, sbu⟩ := s1.get hd
  refine ⟨a, vs1, k, u1, rfl, rfl, .of h1, ixN_at (by rw [s1.len]; exact hk) eu, en, O, [], ρ, dr1, S1, (WpS.stm' S1 g1 w1).mono (fun d2 dr2 w2 v2 H2 f2 x2 dw2 r2 nd2 fr2 => ?_) fun _ _ k => k⟩
  obtain ⟨z, hz, w2⟩ := w2.opt
  have S2 := S1.step x2 dw2
  have nodr : ∀ p, (dc X dra).dra = some p → p.1 ∉ a :: fq1 := fun p hp m => S.edr p hp (o1 _ m).2
  have ru2 : Rp (dc X dra) O H2 u1 d1 fu := ru.ext x2 S.odr fun p hp m => nodr p hp (List.mem_cons_of_mem _ (sbu.subset m))
  refine hg O H2 u1 v2 d1 d2 z fu f2 dr2 _ ru2 r2.orl hz S2.trk dw2 fun v3 H3 f3 x3 dw3 r3 nd3 fr3 => ?_
  have S3 := S2.step x3 dw3
  have r3' := r3.orl.fz z fun b hb zz => S2.trk b zz (fr3 b hb)
  obtain ⟨v, fp, q1, q2, q3, q4, _, q5⟩ := StOk.chg (fx := []) (lf := []) (d' := .lst true (xs.set j z.fz)) S3 hi
  rw [e0] at q1
  cases q1
  obtain ⟨a', vs3, fq3, qe, rfl, h3, s3⟩ := own_at q2
  cases qe
  obtain ⟨fq', s4, nd4, sb4⟩ := Rps.set r3' j s3 (List.nodup_cons.mp (List.nodup_append.mp q3).2.1).2
  have nq : a ∉ fq3 := (List.nodup_cons.mp (List.nodup_append.mp q3).2.1).1
  have na' : a ∉ fq' := fun m => (sb4 a m).elim nq fun z => nomatch z
  refine ⟨a, vs3, k, j, rfl, rfl, h3, by rw [s3.len]; exact hk, ?_⟩
  obtain ⟨S4, g4⟩ := q5 a (.lst (vs3.set j v3)) (a :: fq') List.mem_cons_self (.own upd_same (s4.updO (q4 a List.mem_cons_self).1 na')) (List.nodup_cons.mpr ⟨na', nd4⟩) (fun b hb => by
    rcases List.mem_cons.mp hb with z | z
    · exact .inl (z ▸ List.mem_cons_self)
    · exact .inl ((sb4 b z).elim (List.mem_cons_of_mem _) fun z => nomatch z))
  exact w2 σ _ O S4 (((g1.trans (x2.grow S.odr)).trans (x3.grow S.odr)).trans g4)
/-- y[j] op= e -/
theorem bs_aug1 {op : Operator} {y : Str} {p1 p2 : Pos} (ho : PIp X op r) (hg : OpD X dra r g) (hj : BE X dra W a J) (he : EE X dra W e F) (hN : X.N[i]? = some y := by rfl) (hv : Vis X.env.scope y := by first | exact Or.inl rfl | exact Or.inr (Or.inl rfl) | exact Or.inr (Or.inr rfl)) (hd : (y == ("__debug__" : Str)) = false := by decide)
    (hcd : (y == ("__classdict__" : Str)) = false := by decide)
    (ha : ∀ ov iv new, augStore a ov iv new = (do holding [new, ov, iv] (setItem ov iv new); release [new, ov, iv] []; pure .next) := by intros; rfl) : BS X dra W (.AugAssign (.Subscript (.Name y p1) a p2) op e pos) (cAug1 i J g F) :=
  ⟨wkS (ps_augS (pv i hN hv hd hcd) hj.pe get_list he.pe ho set_list ha) fun De σ H h => imp_aug1 hg h⟩
theorem imp_aug2 {σ : L2.St} {H : Hp} {De : Ends} (hg : OpD X dra r g) (h : tSt (dc X dra) W (cAug2 i J1 J2 g F) De σ H) : tAugS (tOp (rIx X.K) (tVar i) (tB (dc X dra) W J1)) (tB (dc X dra) W J2) (tE (dc X dra) W F) (rIxL X.K) r rSetL De σ H := by
  obtain ⟨en, O, ρ, dr, S, w⟩ := h
  obtain ⟨xs, hx, w⟩ := w.opt
  have hi := ownAt_of hx
  obtain ⟨a, vs0, fq0, e0, h0, s0, nd0, o0⟩ := S.own hi
  refine ⟨.ref a, e0, en, O, [], ρ, dr, S, (WpS.stm' S .refl w).mono (fun dk dr1 w1 vk H1 fk x1 dw1 rk ndk frk => ?_) fun _ _ k => k⟩
  obtain ⟨j, hj, w1⟩ := w1.opt
  obtain ⟨ys, hy, w1⟩ := w1.opt
  have hyj := inAt_of hy
  obtain ⟨k, rfl, hk⟩ := ixD_of hj rk
  have S1 := S.step x1 dw1
  have g1 : Grow (dc X dra) O H O H1 := x1.grow S.odr
  obtain ⟨a1, vs1, fq1, e1, h1, s1, nd1, o1⟩ := S1.own hi
  rw [e0] at e1
  cases e1
  obtain ⟨vb, fb, eb, rb, sbb⟩ := s1.get hyj
  obtain ⟨b, us1, fb1, rfl, rfl, hb1, sb1⟩ := own_at rb
  refine .inl ⟨a, vs1, k, .ref b, rfl, rfl, .of h1, ixN_at (by rw [s1.len]; exact hk) eb, en, O, [], ρ, dr1, S1, (WpS.stm' S1 g1 w1).mono (fun dk2 drk wk vk2 Hk fk2 xk dwk rk2 ndk2 frk2 => ?_) fun _ _ k => k⟩
  obtain ⟨j2, hj2, wk⟩ := wk.opt
  obtain ⟨d1, hd, wk⟩ := wk.opt
  obtain ⟨k2, rfl, hk2⟩ := ixD_of hj2 rk2
  have Sk := S1.step xk dwk
  have gk : Grow (dc X dra) O H O Hk := g1.trans (xk.grow S.odr)
  have nodr : ∀ p, (dc X dra).dra = some p → p.1 ∉ a :: fq1 := fun p hp m => S.edr p hp (o1 _ m).2
  have hbk : Hk b = some (.lst us1) := xk.keep _ _ hb1 fun p hp z => nodr p hp (List.mem_cons_of_mem _ (sbb.subset (z ▸ List.mem_cons_self)))
  have sbk : Rps (dc X dra) O Hk us1 ys fb1 := sb1.ext xk S.odr fun p hp m => nodr p hp (List.mem_cons_of_mem _ (sbb.subset (List.mem_cons_of_mem _ m)))
  obtain ⟨u1, fu, eu, ru, sbu⟩ := sbk.get hd
  refine ⟨b, us1, k2, u1, rfl, rfl, .of hbk, ixN_at (by rw [sbk.len]; exact hk2) eu, en, O, [], ρ, drk, Sk, (WpS.stm' Sk gk wk).mono (fun d2 dr2 w2 v2 H2 f2 x2 dw2 r2 nd2 fr2 => ?_) fun _ _ k => k⟩
  obtain ⟨z, hz, w2⟩ := w2.opt
  have S2 := Sk.step x2 dw2
  have ru2 : Rp (dc X dra) O H2 u1 d1 fu := ru.ext x2 S.odr fun p hp m => nodr p hp (List.mem_cons_of_mem _ (sbb.subset (List.mem_cons_of_mem _ (sbu.subset m))))
  refine hg O H2 u1 v2 d1 d2 z fu f2 dr2 _ ru2 r2.orl hz S2.trk dw2 fun v3 H3 f3 x3 dw3 r3 nd3 fr3 => ?_
  have S3 := S2.step x3 dw3
  have r3' := r3.orl.fz z fun b hb zz => S2.trk b zz (fr3 b hb)
  obtain ⟨v, fp, q1, q2, q3, q4, _, q5⟩ := StOk.chg (fx := []) (lf := []) (d' := .lst true (xs.set j (.lst true (ys.set j2 z.fz)))) S3 hi
  rw [e0] at q1
  cases q1
  obtain ⟨a', vs3, fq3, qe, rfl, h3, s3⟩ := own_at q2
  cases qe
  have nd3 : (a :: fq3).Nodup := (List.nodup_append.mp q3).2.1
  have xx : Ext (dc X dra) H1 H3 := (xk.trans x2).trans x3
  have h13 : H3 a = some (.lst vs1) := xx.keep _ _ h1 fun p hp z => nodr p hp (z ▸ List.mem_cons_self)
  rw [h13] at h3
  cases h3
  have s13 : Rps (dc X dra) O H3 vs1 xs fq1 := s1.ext xx S.odr fun p hp m => nodr p hp (List.mem_cons_of_mem _ m)
  have eqf : fq1 = fq3 := Rps.uq xs s13 s3
  subst eqf
  have hb3 : H3 b = some (.lst us1) := xx.keep _ _ hb1 fun p hp z => nodr p hp (List.mem_cons_of_mem _ (sbb.subset (z ▸ List.mem_cons_self)))
  have sb3 : Rps (dc X dra) O H3 us1 ys fb1 := sb1.ext xx S.odr fun p hp m => nodr p hp (List.mem_cons_of_mem _ (sbb.subset (List.mem_cons_of_mem _ m)))
  have bq : b ∈ fq1 := sbb.subset List.mem_cons_self
  have ob : O b := (q4 b (List.mem_cons_of_mem _ bq)).1
  have ndb : (b :: fb1).Nodup := (List.nodup_cons.mp nd3).2.sublist sbb
  obtain ⟨fb', s4, nd4, sb4⟩ := Rps.set r3' j2 sb3 (by simpa using (List.nodup_cons.mp ndb).2)
  have nb' : b ∉ fb' := fun m => (sb4 b m).elim (List.nodup_cons.mp ndb).1 fun z => nomatch z
  refine ⟨b, us1, k2, j2, rfl, rfl, hb3, by rw [sb3.len]; exact hk2, ?_⟩
  obtain ⟨fq', s5, nd5, sb5⟩ := Rps.inner (fx := []) (us' := us1.set j2 v3) (es' := ys.set j2 z.fz) (fb := fb1) ob (s4.updO ob nb') (List.nodup_cons.mpr ⟨nb', nd4⟩) j s3 hyj eb (List.nodup_cons.mp nd3).2 sb4 (fun us hus f rf => by
    rw [hb3] at hus
    cases hus
    exact Rps.uq ys rf sb3) fun a ha => nomatch ha
  have na : a ∉ fq1 := (List.nodup_cons.mp nd3).1
  have hab : a ≠ b := fun z => na (z ▸ bq)
  obtain ⟨S4, g4⟩ := q5 b (.lst (us1.set j2 v3)) (a :: fq') (List.mem_cons_of_mem _ bq) (.own (by rw [upd_ne hab]; exact h13) s5) (List.nodup_cons.mpr ⟨fun m => (sb5 a m).elim na (fun z => nomatch z), nd5⟩) (fun c hc => by
    rcases List.mem_cons.mp hc with z | z
    · exact .inl (z ▸ List.mem_cons_self)
    · exact .inl ((sb5 c z).elim (List.mem_cons_of_mem _) fun z => nomatch z))
  exact w2 σ _ O S4 (((gk.trans (x2.grow S.odr)).trans (x3.grow S.odr)).trans g4)
/-- y[j][k] op= e -/
theorem bs_aug2 {op : Operator} {y : Str} {p1 p2 p3 : Pos} (ho : PIp X op r) (hg : OpD X dra r g) (hj : BE X dra W a J1) (hj2 : BE X dra W b J2) (he : EE X dra W e F) (hN : X.N[i]? = some y := by rfl) (hv : Vis X.env.scope y := by first | exact Or.inl rfl | exact Or.inr (Or.inl rfl) | exact Or.inr (Or.inr rfl)) (hs : PlainIx a := by intro _ _; rfl) (hd : (y == ("__debug__" : Str)) = false := by decide)
    (hcd : (y == ("__classdict__" : Str)) = false := by decide)
    (ha : ∀ ov iv new, augStore b ov iv new = (do holding [new, ov, iv] (setItem ov iv new); release [new, ov, iv] []; pure .next) := by intros; rfl) : BS X dra W (.AugAssign (.Subscript (.Subscript (.Name y p1) a p2) b p3) op e pos) (cAug2 i J1 J2 g F) :=
  ⟨wkS (ps_augS (pe_ix ix_seq (pv i hN hv hd hcd) hj.pe hs) hj2.pe get_list he.pe ho set_list ha) fun De σ H h => imp_aug2 hg h⟩
end
end DL
/-! DL15 -/
/-! DL15: errors, callees that are values, things of the module. -/
namespace DL
open PySem PySem.Spec PyProof.Rows L2

/-! ### raise X('..') -/
structure HasExc (K : PySem.W.Frag) (mg : Str → Option Value) (x : Str) : Prop where
  ex : ∃ (C : Addr) (B newId initId : String) (bmB : List Value), ExcBaseFacts B newId initId bmB ∧ PySem.W.excIn K C bmB newId = true ∧ mg x = some (.ref C) ∧ PySem.W.keepIn K (.ref C) = true ∧
    PySem.W.subIn K (.ref C) (.type "BaseException") = some true ∧ PySem.W.typeIn K (.ref C) = some (.type "type")
def cRaise (x : Str) : CSx := fun ρ dr => .ex ⟨x, none⟩ ρ dr
section
variable {X : Cx} {dra : Option (Addr × Addr)} {W : WX} {e fe : Expr} {es : List Expr} {pos : Pos}
theorem bs_raise {x m : Str} {j : Nat} {p p2 pos2 : Pos} (hx : HasExc X.K X.mg x) (hc : X.calm = true) (tk : Takes X W) (hg : Gl X x := by rfl) (hdb : (x == ("__debug__" : Str)) = false := by decide) : BS X dra W (.Raise (some (.Call (.Name x p) [.Constant (.str m) j p2] [] pos)) none pos2) (cRaise x) := by
  obtain ⟨C, B, nw, ini, bmB, F, h1, h2, h3, h4, h5⟩ := hx.ex
  exact ⟨wkS (ps_raise hc tk (pmk_own F h1 h2 h3 (raises_own h4 h5) hg hdb)) fun De σ H ⟨en, O, ρ, dr, S, w⟩ => w (.ref C) none σ H O S .refl ⟨C, rfl, h2, rfl⟩⟩

/-! ### try .. except X -/
def noExS (r : SR) : SR := match r with
  | .ex _ _ _ => .st
  | r => r
theorem WpS.noEx {r : SR} {c : DC} {en : En} {O : Addr → Prop} {H : Hp} {De : Ends} {W W' : WX} (w : WpS (noExS r) c en O H De W) : WpS r c en O H De W' := by
  cases r with
  | ex _ _ _ => exact w.elim
  | st => exact w
  | nx _ _ => exact w
  | rt _ _ => exact w
  | bk _ _ => exact w
  | ct _ _ => exact w
/-- mt: does the clause take an error of that class -/
def cTry (mt : Str → Option Bool) (B S : CSx) : CSx := fun ρ dr => match B ρ dr with
  | .ex e ρ' dr' => (match mt e.cls with
    | some true => noExS (S ρ' dr')
    | some false => .ex e ρ' dr'
    | none => .st)
  | r => r
theorem bs_try {x : Str} {c : Value} {body suite : List Stmt} {b₀ : Stmt} {np pos' : Pos} {mt : Str → Option Bool} {B S : CSx} (hc : Names X x c) (tk : Takes X W)
    (hm : ∀ y b C, mt y = some b → X.mg y = some (.ref C) → PySem.W.exmOne X.K (.ref C) c = some b)
    (hb : ∀ (W' : WX) (pn : List (Addr × Obj)) (xe : Value → Shared → Prop), Takes (X.tr pn xe) W' → PassesOwn (model X.prog X.w) X.A X.env xe → BSs (X.tr pn xe) dra W' body B)
    (hsu : ∀ (a : Addr) (pn : List (Addr × Obj)), BSs (X.suite a pn) dra W0 (b₀ :: suite) S) (hs : X.stack = X.env :: X.outer := by rfl) (hf : X.env.frame = some X.env.locals := by rfl) :
    BS X dra W (.Try body [.ExceptHandler (some (.Name x np)) none (b₀ :: suite) pos'] [] [] pos) (cTry mt B S) := by
  refine ⟨wkS (ps_try_only (tb := fun W' => tSt (dc X dra) W' B) (ts := fun _ _ _ => tSt (dc X dra) W0 S) (Wout := W) hs hf hc tk (fun W' pn xe t po => (hb W' pn xe t po).ps) fun a oe cls d pn _ _ => (hsu a ((a, oe) :: pn)).ps) fun De σ H ⟨en, O, ρ, dr, SS, w⟩ => ?_⟩
  refine ⟨en, O, ρ, dr, SS, ?_⟩
  unfold cTry at w
  cases eB : B ρ dr with
  | st => rw [eB] at w; exact w
  | nx _ _ => rw [eB] at w; exact w
  | rt _ _ => rw [eB] at w; exact w
  | bk _ _ => rw [eB] at w; exact w
  | ct _ _ => rw [eB] at w; exact w
  | ex e ρ' dr' =>
    rw [eB] at w
    intro cls od σ' H' O' S' g ex
    obtain ⟨C, rfl, hC, hod⟩ := id ex
    cases em : mt e.cls with
    | none => simp only [em] at w; exact w.elim
    | some b =>
      refine ⟨b, hm _ _ _ em hC, fun hb a ha => ?_, fun hb => ?_⟩
      · subst hb
        simp only [em] at w
        exact ⟨en, O', ρ', dr', S', WpS.later (WpS.noEx (W' := W0) w) g⟩
      · subst hb
        simp only [em] at w
        exact w (.ref C) od σ' H' O' S' g ex

/-! ### names of defs, callees that are values -/
theorem ee_fn {k n : Nat} {x : Str} {F : CF} (hF : HasFn X.prog X.w X.K X.mg X.base k x n F) (hg : Gl X x := by rfl) (hd : (x == ("__debug__" : Str)) = false := by decide) : EE X dra W (.Name x pos) (cK (.fn x)) := by
  obtain ⟨f, fd, ps, F1, h1, h2, h3⟩ := hF.ex
  exact ee_glob (v := .ref f) h1 rfl (fun c _ hm O H => .fn (by rw [hm]; exact h1)) hg hd
abbrev Tbl := List (Str × CF)
structure HasT (X : Cx) (k n : Nat) (T : Tbl) : Prop where
  all : ∀ q ∈ T, HasFn X.prog X.w X.K X.mg X.base k q.1 n q.2
theorem HasT.nil {k n : Nat} : HasT X k n [] := ⟨fun _ h => nomatch h⟩
theorem HasT.cons {k n : Nat} {x : Str} {F : CF} {T : Tbl} (h : HasFn X.prog X.w X.K X.mg X.base k x n F) (t : HasT X k n T) : HasT X k n ((x, F) :: T) := ⟨fun q hq => (List.mem_cons.mp hq).elim (fun z => z ▸ h) (t.all q)⟩
def fnOf (T : Tbl) : D → Option CF
  | .fn x => T.lookup x
  | _ => none
def cCallE (T : Tbl) (Fe : CEx) (A : CAx) : CEx := fun ρ dr => (Fe ρ dr).bind fun d dr => match fnOf T d with
  | some F => (A ρ dr).bind fun ds dr => F (D.fzs ds) dr
  | none => .st
theorem lookup_mem {T : Tbl} {x : Str} {F : CF} (h : T.lookup x = some F) : (x, F) ∈ T := by
  induction T with
  | nil => cases h
  | cons q T ih =>
    obtain ⟨y, G⟩ := q
    rw [List.lookup_cons] at h
    cases hb : x == y with
    | true =>
      rw [hb] at h
      cases h
      have : x = y := by simpa using hb
      rw [this]
      exact List.mem_cons_self
    | false =>
      rw [hb] at h
      exact List.mem_cons_of_mem _ (ih h)
theorem pe_callE {tf : TE} {t : TA} {k : Nat} {E : L2.St → XK} (hf : PE X fe tf) (hr : Room k X.A) (hx : ∀ σ, PassesAt (L2.CX X.prog X.w) X σ (E σ)) (ha : PA X (e :: es) t)
    (ht : eval (.Call fe (e :: es) [] pos) X.env = (do callWith pos (← eval fe X.env) [] (backTo pos (starEach (e :: es) X.env)) (backToKw pos (keywordEach [] X.env))) := by rfl)
    (he : starEach (e :: es) X.env = (false, eval e X.env) :: starEach es X.env := by rfl) (hpl : (backTo pos (starEach es X.env)).any (·.1) = false := by rfl) :
    PE X (.Call fe (e :: es) [] pos) (fun σ H Q => tf σ H fun y H1 => ∃ f, y = .ref f ∧ PySem.W.keepIn X.K (.ref f) = true ∧ t σ H1 fun vs H2 => ∃ fd ps sp, FnOk X.prog X.w X.K X.mg X.base (L2.CX X.prog X.w) k f fd ps sp ∧ Binds X.K fd ps [] ∧ sp vs H2 Q (E σ)) := by
  refine ⟨fun pins s σ H Q I h => ?_⟩
  refine Call_ (thn (hf.run pins s σ H _ I h) fun u s1 ⟨y, H1, I1, ry, f, ey, hk, q⟩ => ?_) ht
  subst ey
  obtain rfl : u = Value.ref f := ry
  refine PySem.W.callWith_K (h₀ := X.base) I1.ok.mod.kin hk (thn (ha.run pos pins s1 σ H1 _ I1 q) fun us s2 ⟨vs, H2, I2, r, fd, ps, sp, F1, hb, q2⟩ => ⟨I2.kIn, ?_⟩) he hpl
  exact run_fnS F1 hr hb (hx σ) I2 r q2
theorem imp_callE {A : CAx} {Fe : CEx} {T : Tbl} {k n : Nat} {σ : L2.St} {H : Hp} {Q : VK} (hT : HasT X k n T) (hA : ALen n A) (h : tE (dc X dra) W (cCallE T Fe A) σ H Q) :
    tB (dc X dra) W Fe σ H fun y H1 => ∃ f, y = .ref f ∧ PySem.W.keepIn X.K (.ref f) = true ∧ tA (dc X dra) W A σ H1 fun vs H2 => ∃ fd ps sp, FnOk X.prog X.w X.K X.mg X.base (L2.CX X.prog X.w) k f fd ps sp ∧ Binds X.K fd ps [] ∧ sp vs H2 Q (WE W σ) := by
  obtain ⟨en, O, lf, ρ, dr, S, w⟩ := h
  refine ⟨en, O, lf, ρ, dr, S, (Wp.bind w).mono (fun d1 dr1 w1 u H1 fp x1 dw1 r1 nd1 fr1 => ?_) fun _ _ k => k⟩
  cases eF : fnOf T d1 with
  | none => simp only [eF] at w1; exact w1.elim
  | some F =>
    simp only [eF] at w1
    cases d1 with
    | fn x =>
      have hF := hT.all _ (lookup_mem (show T.lookup x = some F from eF))
      obtain ⟨f, fd, ps, F1, h1, h2, h3⟩ := hF.ex
      cases r1 with
      | fn e1 =>
        have h1 : X.mg x = some (.ref f) := h1
        have e1 : X.mg x = some (.ref _) := e1
        rw [h1] at e1
        cases e1
        refine ⟨f, rfl, h2, en, O, lf, ρ, dr1, S.step x1 dw1, ?_⟩
        have w1 := Wp.bind w1
        cases eA : A ρ dr1 with
        | st => rw [eA] at w1; exact w1
        | ex e dr2 => rw [eA] at w1; exact ExW.later w1 x1
        | ok ds dr2 =>
          rw [eA] at w1
          intro vs H2 fq x2 dw2 r2 nd2 fr2
          have w1 : Wp (F (D.fzs ds) dr2) (OkE (dc X dra) O H Q) (ExW (dc X dra) W σ H) := w1
          have x := x1.trans x2
          refine ⟨fd, ps, _, F1, h3, r2.len.trans (hA _ _ _ _ eA), dra, O, D.fzs ds, dr2, fun a ha => x.trk a (S.trk a ha), fun p e => ⟨S.odr p e, x.trk _ (S.ext.trk _ (S.ed2 p e))⟩, dw2, r2.orl.fzs fun a ha z => S.trk a z (x1.un (fr2 a ha)), w1.mono (fun _ _ k => k.later x) fun e dr2 k cls od H2 x2 dw2 ex => k cls od H2 (x.trans x2) dw2 ex⟩
    | _ => cases eF
theorem ee_callE {A : CAx} {Fe : CEx} {T : Tbl} {k n : Nat} (hT : HasT X k n T) (hr : Room k X.A) (tk : Takes X W) (hf : BE X dra W fe Fe) (ha : EA X dra W (e :: es) A) (hA : ALen n A)
    (ht : eval (.Call fe (e :: es) [] pos) X.env = (do callWith pos (← eval fe X.env) [] (backTo pos (starEach (e :: es) X.env)) (backToKw pos (keywordEach [] X.env))) := by rfl)
    (he : starEach (e :: es) X.env = (false, eval e X.env) :: starEach es X.env := by rfl) (hpl : (backTo pos (starEach es X.env)).any (·.1) = false := by rfl) : EE X dra W (.Call fe (e :: es) [] pos) (cCallE T Fe A) :=
  ⟨wkE (pe_callE hf.pe hr (fun σ => passAt tk σ) ha.pa ht he hpl) fun σ H Q h => imp_callE hT hA h⟩
/-! ### a module's constants -/
theorem kt_of {K : PySem.W.Frag} {a : Addr} {o : Obj} {its : Array Value} {n : Nat} {vs : List V} (h : K.lookup a = some o) (hc : o.cls = .type "tuple") (hd : o.data = .seq its n) (hz : its.size ≤ sizeLine) (r : Vals vs its.toList) : KT K a vs := ⟨o, its, n, h, hc, hd, hz, r⟩
end
end DL
/-! DL16 -/
/-! DL16: short forms for the terms that are printed. -/
namespace DL
open PySem PySem.Spec PyProof.Rows L2

def gSub : D → D → Option D := gI (fun _ _ => true) (· - ·)
def gFd : D → D → Option D := gI cDiv Int.fdiv
def gMod : D → D → Option D := gI cNz Int.fmod
def gPw : D → D → Option D := gI cPow fun i j => i ^ j.toNat
def gAddI : D → D → Option D := gI (fun _ _ => true) (· + ·)
def gMulI : D → D → Option D := gI cMul (· * ·)
section
variable {X : Cx} {dra : Option (Addr × Addr)} {W : WX} {e a b d : Expr} {F G F1 F2 F3 : CEx} {pos p : Pos} {es : List Expr} {T T' : CTx}
theorem eAdd (ha : BE X dra W a F1) (hb : BE X dra W b F2) : EE X dra W (.BinOp a .Add b pos) (cBin gAdd F1 F2) := ee_bin op_addA opd_add ha hb
theorem eSub (ha : BE X dra W a F1) (hb : BE X dra W b F2) : EE X dra W (.BinOp a .Sub b pos) (cBin gSub F1 F2) := ee_bin op_sub opd_sub ha hb
theorem eMul (ha : BE X dra W a F1) (hb : BE X dra W b F2) : EE X dra W (.BinOp a .Mult b pos) (cBin gMul F1 F2) := ee_bin op_mulA opd_mul ha hb
theorem eFd (ha : BE X dra W a F1) (hb : BE X dra W b F2) : EE X dra W (.BinOp a .FloorDiv b pos) (cBin gFd F1 F2) := ee_bin op_fdivA opd_fdiv ha hb
theorem eMod (ha : BE X dra W a F1) (hb : BE X dra W b F2) : EE X dra W (.BinOp a .Mod b pos) (cBin gMod F1 F2) := ee_bin op_modN opd_mod ha hb
theorem eEq (hu : X.A.units + 64 < cLine) (ha : BE X dra W a F1) (hb : BE X dra W b F2) : EE X dra W (.Compare a [.Eq] [b] pos) (cBin gEq F1 F2) := ee_cmp (op_eqD hu) opd_eq ha hb (nomark _)
theorem eNe (hu : X.A.units + 64 < cLine) (ha : BE X dra W a F1) (hb : BE X dra W b F2) : EE X dra W (.Compare a [.NotEq] [b] pos) (cBin gNe F1 F2) := ee_cmp (op_neD hu) opd_ne ha hb (nomark _)
theorem eLt (ha : BE X dra W a F1) (hb : BE X dra W b F2) : EE X dra W (.Compare a [.Lt] [b] pos) (cBin gLt F1 F2) := ee_cmp op_ltA opd_cs ha hb (nomark _)
theorem eLe (ha : BE X dra W a F1) (hb : BE X dra W b F2) : EE X dra W (.Compare a [.LtE] [b] pos) (cBin gLe F1 F2) := ee_cmp op_leA opd_cs ha hb (nomark _)
theorem eGt (ha : BE X dra W a F1) (hb : BE X dra W b F2) : EE X dra W (.Compare a [.Gt] [b] pos) (cBin gGt F1 F2) := ee_cmp op_gtA opd_cs ha hb (nomark _)
theorem eGe (ha : BE X dra W a F1) (hb : BE X dra W b F2) : EE X dra W (.Compare a [.GtE] [b] pos) (cBin gGe F1 F2) := ee_cmp op_geA opd_cs ha hb (nomark _)
theorem tEq (hu : X.A.units + 64 < cLine) (ha : BE X dra W a F1) (hb : BE X dra W b F2) : BT X dra W (.Compare a [.Eq] [b] pos) (cTst (cBin gEq F1 F2)) := bt_cmp (op_eqD hu) opd_eq ha hb (nomark _)
theorem tNe (hu : X.A.units + 64 < cLine) (ha : BE X dra W a F1) (hb : BE X dra W b F2) : BT X dra W (.Compare a [.NotEq] [b] pos) (cTst (cBin gNe F1 F2)) := bt_cmp (op_neD hu) opd_ne ha hb (nomark _)
theorem tLt (ha : BE X dra W a F1) (hb : BE X dra W b F2) : BT X dra W (.Compare a [.Lt] [b] pos) (cTst (cBin gLt F1 F2)) := bt_cmp op_ltA opd_cs ha hb (nomark _)
theorem tLe (ha : BE X dra W a F1) (hb : BE X dra W b F2) : BT X dra W (.Compare a [.LtE] [b] pos) (cTst (cBin gLe F1 F2)) := bt_cmp op_leA opd_cs ha hb (nomark _)
theorem tGt (ha : BE X dra W a F1) (hb : BE X dra W b F2) : BT X dra W (.Compare a [.Gt] [b] pos) (cTst (cBin gGt F1 F2)) := bt_cmp op_gtA opd_cs ha hb (nomark _)
theorem tGe (ha : BE X dra W a F1) (hb : BE X dra W b F2) : BT X dra W (.Compare a [.GtE] [b] pos) (cTst (cBin gGe F1 F2)) := bt_cmp op_geA opd_cs ha hb (nomark _)
theorem eIn (hu : X.A.units + 65 < cLine) (ha : BE X dra W a F1) (hb : BE X dra W b F2) (hm : behindInMarks .In b = false := by rfl) : EE X dra W (.Compare a [.In] [b] pos) (cBin (gIn false) F1 F2) := ee_cmp (op_inA hu) opd_in ha hb hm
theorem eNin (hu : X.A.units + 65 < cLine) (ha : BE X dra W a F1) (hb : BE X dra W b F2) (hm : behindInMarks .NotIn b = false := by rfl) : EE X dra W (.Compare a [.NotIn] [b] pos) (cBin (gIn true) F1 F2) := ee_cmp (op_notInA hu) opd_in ha hb hm
theorem tIn (hu : X.A.units + 65 < cLine) (ha : BE X dra W a F1) (hb : BE X dra W b F2) (hm : behindInMarks .In b = false := by rfl) : BT X dra W (.Compare a [.In] [b] pos) (cTst (cBin (gIn false) F1 F2)) := bt_cmp (op_inA hu) opd_in ha hb hm
theorem tNin (hu : X.A.units + 65 < cLine) (ha : BE X dra W a F1) (hb : BE X dra W b F2) (hm : behindInMarks .NotIn b = false := by rfl) : BT X dra W (.Compare a [.NotIn] [b] pos) (cTst (cBin (gIn true) F1 F2)) := bt_cmp (op_notInA hu) opd_in ha hb hm
theorem Room.u65 {k : Nat} {A : Around} (r : Room k A) : A.units + 65 < cLine := by have := r.un; omega
/-! chains: a op b op c -/
structure Op2 (X : Cx) (dra : Option (Addr × Addr)) (op : CmpOp) (g : D → D → Option D) : Prop where
  ex : ∃ r, OpR X (compareOp op) r ∧ OpD X dra r g
theorem o2Lt : Op2 X dra .Lt gLt := ⟨_, op_ltA, opd_cs⟩
theorem o2Le : Op2 X dra .LtE gLe := ⟨_, op_leA, opd_cs⟩
theorem o2Gt : Op2 X dra .Gt gGt := ⟨_, op_gtA, opd_cs⟩
theorem o2Ge : Op2 X dra .GtE gGe := ⟨_, op_geA, opd_cs⟩
theorem o2Eq (hu : X.A.units + 64 < cLine) : Op2 X dra .Eq gEq := ⟨_, op_eqD hu, opd_eq⟩
theorem o2Ne (hu : X.A.units + 64 < cLine) : Op2 X dra .NotEq gNe := ⟨_, op_neD hu, opd_ne⟩
theorem eChain {op op' : CmpOp} {g g' : D → D → Option D} (h : Op2 X dra op g) (h' : Op2 X dra op' g') (ha : BE X dra W a F1) (hb : BE X dra W b F2) (hc : BE X dra W d F3) (hm : lastMarks [op, op'] [b, d] = false := by with_unfolding_all rfl) : EE X dra W (.Compare a [op, op'] [b, d] pos) (cChain g g' F1 F2 F3) := by
  obtain ⟨r, h1, h2⟩ := h.ex
  obtain ⟨r', h3, h4⟩ := h'.ex
  exact ee_chain h1 h3 h2 h4 ha hb hc hm
theorem tChain {op op' : CmpOp} {g g' : D → D → Option D} (h : Op2 X dra op g) (h' : Op2 X dra op' g') (ha : BE X dra W a F1) (hb : BE X dra W b F2) (hc : BE X dra W d F3) (hm : lastMarks [op, op'] [b, d] = false := by with_unfolding_all rfl) : BT X dra W (.Compare a [op, op'] [b, d] pos) (cTst (cChain g g' F1 F2 F3)) := by
  obtain ⟨r, h1, h2⟩ := h.ex
  obtain ⟨r', h3, h4⟩ := h'.ex
  exact bt_chain h1 h3 h2 h4 ha hb hc hm
/-! is None -/
theorem eIsN {j p2} (ha : BE X dra W a F1) : EE X dra W (.Compare a [.Is] [.Constant .none j p2] pos) (cBin (gIsN false) F1 (cK .non)) := ee_cmp op_isN opd_isN ha ee_non.be (nomark _)
theorem eNotN {j p2} (ha : BE X dra W a F1) : EE X dra W (.Compare a [.IsNot] [.Constant .none j p2] pos) (cBin (gIsN true) F1 (cK .non)) := ee_cmp op_notN opd_notN ha ee_non.be (nomark _)
theorem tIsN {j p2} (ha : BE X dra W a F1) : BT X dra W (.Compare a [.Is] [.Constant .none j p2] pos) (cTst (cBin (gIsN false) F1 (cK .non))) := bt_cmp op_isN opd_isN ha ee_non.be (nomark _)
theorem tNotN {j p2} (ha : BE X dra W a F1) : BT X dra W (.Compare a [.IsNot] [.Constant .none j p2] pos) (cTst (cBin (gIsN true) F1 (cK .non))) := bt_cmp op_notN opd_notN ha ee_non.be (nomark _)
/-! op= -/
structure Ip2 (X : Cx) (dra : Option (Addr × Addr)) (op : Operator) (g : D → D → Option D) : Prop where
  ex : ∃ r, PIp X op r ∧ OpD X dra r g
theorem i2Add : Ip2 X dra .Add gAddI := ⟨_, ip_addI, opd_add0⟩
theorem i2Sub : Ip2 X dra .Sub gSub := ⟨_, ip_subI, opd_sub⟩
theorem i2Mul : Ip2 X dra .Mult gMulI := ⟨_, ip_mulW, opd_mulI⟩
theorem sAug {op : Operator} {g : D → D → Option D} {i : Nat} {x : Str} {p' : Pos} (hN : X.N.Nodup) (h : Ip2 X dra op g) (he : EE X dra W e F) (hi : X.N[i]? = some x := by rfl) (hx : Loc X.env.scope x := by first | exact Or.inl rfl | exact Or.inr rfl)
    (hf : X.fn x = true ∨ X.env.scope.names.lookup x = some .local := by first | exact .inl rfl | exact .inr rfl) : BS X dra W (.AugAssign (.Name x p') op e pos) (cSet i (cBin g (cVar i) F)) := by
  obtain ⟨r, h1, h2⟩ := h.ex
  exact bs_aug hN h1 h2 he hi hx hf
theorem sAug1 {op : Operator} {g : D → D → Option D} {i : Nat} {J : CEx} {y : Str} {p1 p2 : Pos} (h : Ip2 X dra op g) (hj : BE X dra W a J) (he : EE X dra W e F) (hN : X.N[i]? = some y := by rfl) (hv : Vis X.env.scope y := by first | exact Or.inl rfl | exact Or.inr (Or.inl rfl) | exact Or.inr (Or.inr rfl)) (hd : (y == ("__debug__" : Str)) = false := by decide)
    (hcd : (y == ("__classdict__" : Str)) = false := by decide)
    (ha : ∀ ov iv new, augStore a ov iv new = (do holding [new, ov, iv] (setItem ov iv new); release [new, ov, iv] []; pure .next) := by intros; rfl) : BS X dra W (.AugAssign (.Subscript (.Name y p1) a p2) op e pos) (cAug1 i J g F) := by
  obtain ⟨r, h1, h2⟩ := h.ex
  exact bs_aug1 h1 h2 hj he hN hv hd hcd ha
theorem sAug2 {op : Operator} {g : D → D → Option D} {i : Nat} {J1 J2 : CEx} {y : Str} {p1 p2 p3 : Pos} (h : Ip2 X dra op g) (hj : BE X dra W a J1) (hj2 : BE X dra W b J2) (he : EE X dra W e F) (hN : X.N[i]? = some y := by rfl) (hv : Vis X.env.scope y := by first | exact Or.inl rfl | exact Or.inr (Or.inl rfl) | exact Or.inr (Or.inr rfl)) (hs : PlainIx a := by intro _ _; rfl) (hd : (y == ("__debug__" : Str)) = false := by decide)
    (hcd : (y == ("__classdict__" : Str)) = false := by decide)
    (ha : ∀ ov iv new, augStore b ov iv new = (do holding [new, ov, iv] (setItem ov iv new); release [new, ov, iv] []; pure .next) := by intros; rfl) : BS X dra W (.AugAssign (.Subscript (.Subscript (.Name y p1) a p2) b p3) op e pos) (cAug2 i J1 J2 g F) := by
  obtain ⟨r, h1, h2⟩ := h.ex
  exact bs_aug2 h1 h2 hj hj2 he hN hv hs hd hcd ha
/-! builtins -/
theorem eAbs (hm : X.mg "abs" = none) (ha : BE X dra W a F) (hg : Gl X "abs" := by rfl) (hs : starEach [a] X.env = (false, eval a X.env) :: starEach [] X.env := by rfl) : EE X dra W (.Call (.Name "abs" p) [a] [] pos) (cB gAbs (cCons F cNil)) := ee_b1 (id := "abs") call_abs cd_abs hm (by decide +kernel) ha hg (by decide) (by decide) hs
theorem eInt (hm : X.mg "int" = none) (ha : BE X dra W a F) (hg : Gl X "int" := by rfl) (hs : starEach [a] X.env = (false, eval a X.env) :: starEach [] X.env := by rfl) : EE X dra W (.Call (.Name "int" p) [a] [] pos) (cB gInt (cCons F cNil)) := ee_ty call_int1 cd_int hm (by decide +kernel) (ba_cons ha ba_nil hs) hg (he := hs)
theorem eSum (hc : X.calm = true) (hm : X.mg "sum" = none) (ha : BE X dra W a F) (hg : Gl X "sum" := by rfl) (hs : starEach [a] X.env = (false, eval a X.env) :: starEach [] X.env := by rfl) : EE X dra W (.Call (.Name "sum" p) [a] [] pos) (cB gSum (cCons F cNil)) := ee_b1 (id := "sum") (cr_sum hc) cd_sum hm (by decide +kernel) ha hg (by decide) (by decide) hs
theorem eAll (hc : X.calm = true) (hm : X.mg "all" = none) (ha : BE X dra W a F) (hg : Gl X "all" := by rfl) (hs : starEach [a] X.env = (false, eval a X.env) :: starEach [] X.env := by rfl) : EE X dra W (.Call (.Name "all" p) [a] [] pos) (cB gAll (cCons F cNil)) := ee_b1 (id := "all") (cr_all hc) cd_all hm (by decide +kernel) ha hg (by decide) (by decide) hs
theorem eAny (hc : X.calm = true) (hm : X.mg "any" = none) (ha : BE X dra W a F) (hg : Gl X "any" := by rfl) (hs : starEach [a] X.env = (false, eval a X.env) :: starEach [] X.env := by rfl) : EE X dra W (.Call (.Name "any" p) [a] [] pos) (cB gAny (cCons F cNil)) := ee_b1 (id := "any") (cr_any hc) cd_any hm (by decide +kernel) ha hg (by decide) (by decide) hs
/-! names of the module -/
theorem eGint {x : Str} {i : Int} (h : ∃ t, X.mg x = some (.int i t)) (hg : Gl X x := by rfl) (hd : (x == ("__debug__" : Str)) = false := by decide) : EE X dra W (.Name x pos) (cK (.int i)) := by
  obtain ⟨t, h⟩ := h
  exact ee_glob (v := .int i) h ⟨t, rfl⟩ (fun _ _ _ _ _ => .int i) hg hd
/-- x is a tuple of the module -/
structure ConT (K : PySem.W.Frag) (mg : Str → Option Value) (x : Str) (ds : List D) : Prop where
  ex : ∃ (a : Addr) (vs : List V), mg x = some (.ref a) ∧ KT K a vs ∧ ∀ c O H, Rps c O H vs ds []
theorem eGtup {x : Str} {ds : List D} (h : ConT X.K X.mg x ds) (hg : Gl X x := by rfl) (hd : (x == ("__debug__" : Str)) = false := by decide) : EE X dra W (.Name x pos) (cK (.tup ds)) := by
  obtain ⟨a, vs, h1, h2, h3⟩ := h.ex
  exact ee_glob (v := .ref a) h1 rfl (fun c hK _ O H => .tupK (by rw [hK]; exact h2) (h3 c O H)) hg hd
theorem conT_ints {K : PySem.W.Frag} {mg : Str → Option Value} {x : Str} {a : Addr} (ns : List Int) (h : mg x = some (.ref a)) (k : KT K a (ns.map V.int)) : ConT K mg x (ns.map D.int) := ⟨a, _, h, k, fun _ _ _ => rps_ints ns⟩
end
/-- a def of the text as it stands -/
structure DefAt (K : PySem.W.Frag) (mg : Str → Option Value) (x : Str) (st : Stmt) (ps : List Str) : Prop where
  ex : ∃ (f : Addr) (fd : FuncData), Fun K x x st f fd ∧ mg x = some (.ref f) ∧ Binds K fd ps []
theorem has_at {P : Program} {w : World} {K : PySem.W.Frag} {mg : Str → Option Value} {base : Heap} {x : Str} {st : Stmt} {N ps : List Str} {k : Nat} {B : CSx} (d : DefAt K mg x st ps) (S : FnScope N ps (defScope st))
    (hb : ∀ (f : Addr) (dra : Option (Addr × Addr)) (cdv : Value) (A : Around) (outer : List Env) (s : Shared) (H : Hp) (E : XK), Room k (A.deeper (envOfC x (defScope st) s.heap.objs.size f cdv)) →
      BSs (cxOf (L2.CX P w) P w K mg base N x (defScope st) f cdv A outer s H E) dra (fun cls d _ H => E cls d H) (defBody st) B) : HasFn P w K mg base (k + 1) x ps.length (fnD N.length B) := by
  obtain ⟨f, fd, F, g, b⟩ := d.ex
  exact has_fn F g b S rfl (hb f)
/-! ### a, b, .. = x, y, .. where a tuple is made -/
def setN {α : Type} : List (Option α) → List Nat → List α → List (Option α)
  | l, i :: is, d :: ds => setN (l.set i (some d)) is ds
  | l, _, _ => l
def cParN (is : List Nat) (A : CAx) : CSx := fun ρ dr => match A ρ dr with
  | .ok ds dr => if ds.length = is.length ∧ ds.length ≤ sizeLine then .nx (setN ρ is ds) dr else .st
  | .ex e dr => .ex e ρ dr
  | .st => .st
theorem StOk.setN {c : DC} {en : En} {O : Addr → Prop} {dr : Dr} {H : Hp} {lf : List Addr} : ∀ {is : List Nat} {ds : List D} {vs : List V} {fp : List Addr} {ρ : Rho} {σ : L2.St}, StOk c en O (fp ++ lf) ρ dr σ H → Rps c O H vs ds fp → StOk c en O lf (DL.setN ρ is ds) dr (DL.setN σ is vs) H
  | [], ds, vs, fp, ρ, σ, S, r => by
    have e1 : DL.setN ρ [] ds = ρ := by cases ds <;> rfl
    have e2 : DL.setN σ [] vs = σ := by cases vs <;> rfl
    rw [e1, e2]
    exact S.shed
  | i :: is, [], vs, fp, ρ, σ, S, r => by
    have e : vs = [] := List.length_eq_zero_iff.mp r.len
    subst e
    exact S.shed
  | i :: is, d :: ds, [], fp, ρ, σ, S, r => nomatch r.len
  | i :: is, d :: ds, v :: vs, fp, ρ, σ, S, r => by
    obtain ⟨f1, f2, rfl, r1, r2⟩ := r.uncons
    rw [List.append_assoc] at S
    exact StOk.setN (is := is) (S.set r1) r2
inductive NmS (X : Cx) : List Expr → List Nat → TGs → Prop
  | nil : NmS X [] [] gNil
  | cons {i : Nat} {x : Str} {p : Pos} {es : List Expr} {is : List Nat} {t : TGs} (hN : X.N.Nodup) (r : NmS X es is t) (hi : X.N[i]? = some x := by rfl) (hx : Loc X.env.scope x := by first | exact Or.inl rfl | exact Or.inr rfl) (hf : X.fn x = true ∨ X.env.scope.names.lookup x = some .local := by first | exact .inl rfl | exact .inr rfl)
      (hs : (assignEach (.Name x p :: es) X.env).map (·.2) = assign (.Name x p) X.env :: (assignEach es X.env).map (·.2) := by rfl) : NmS X (.Name x p :: es) (i :: is) (gCons (gName i) t)
theorem NmS.pgs {X : Cx} {es : List Expr} {is : List Nat} {t : TGs} (h : NmS X es is t) : PGs X es t := by
  induction h with
  | nil => exact pgs_nil
  | cons hN r hi hx hf hs ih => exact pgs_cons (pg_name hN hi hx hf) ih hs
theorem NmS.go {X : Cx} {es : List Expr} {is : List Nat} {t : TGs} (h : NmS X es is t) : ∀ {vs : List V} {σ : L2.St} {H : Hp} {Q : L2.St → Hp → Prop}, vs.length = is.length → Q (DL.setN σ is vs) H → t vs σ H Q := by
  induction h with
  | nil =>
    intro vs σ H Q hl q
    have e : vs = [] := List.length_eq_zero_iff.mp hl
    subst e
    exact ⟨rfl, q⟩
  | cons hN r hi hx hf hs ih =>
    intro vs σ H Q hl q
    cases vs with
    | nil => cases hl
    | cons v vs => exact ⟨v, vs, rfl, ih (by simpa using hl) q⟩
theorem bs_parN {X : Cx} {dra : Option (Addr × Addr)} {W : WX} {es vs : List Expr} {is : List Nat} {t : TGs} {A : CAx} {pos pt pt2 : Pos} {kt k2} (hc : X.calm = true) (hn : NmS X es is t) (ha : EA X dra W vs A) (hw : swappedStores [.Tuple es kt pt] (.Tuple vs k2 pt2) X.env = pure none := by rfl)
    (hs : swapsWithSole [.Tuple es kt pt] (.Tuple vs k2 pt2) pos.line X.env = pure false := by rfl) (h1 : (assignEach [.Tuple es kt pt] X.env).map (·.2) = [assign (.Tuple es kt pt) X.env] := by rfl)
    (hl : (assignEach es X.env).length = is.length := by rfl) (hst : (assignEach es X.env).findIdx? (·.1) = none := by rfl) : BS X dra W (.Assign [.Tuple es kt pt] (.Tuple vs k2 pt2) pos) (cParN is A) :=
  ⟨wkS (ps_asg (pe_tup ha.pa) (pg_tup hc hn.pgs hl hst) hs hw h1) fun De σ H ⟨en, O, ρ, dr, S, w⟩ => by
    refine ⟨en, O, [], ρ, dr, S, ?_⟩
    unfold cParN at w
    cases eA : A ρ dr with
    | st => rw [eA] at w; exact w
    | ex e dr' => rw [eA] at w; exact fun cls od H' x dw ex => w cls od σ H' O (S.step x dw) (x.grow S.odr) ex
    | ok ds dr' =>
      rw [eA] at w
      intro us H' fp x dw r nd fr
      by_cases hz : ds.length = is.length ∧ ds.length ≤ sizeLine
      · have w : WpS (if ds.length = is.length ∧ ds.length ≤ sizeLine then .nx (DL.setN ρ is ds) dr' else .st) (dc X dra) en O H De W := w
        rw [if_pos hz] at w
        refine ⟨by rw [r.len]; exact hz.2, fun p hp => ⟨p, us, rfl, .of upd_same, r.len.trans hz.1, hn.go (r.len.trans hz.1) ?_⟩⟩
        have sm := same_upd (o := HO.tup us) hp
        have S1 := (S.hold x dw nd fr (r.trk ds)).step (.of_same sm) (dw.same sm)
        exact w _ _ _ (S1.setN (r.same sm)) ((x.trans (.of_same sm)).growO S.odr fr)
      · have w : WpS (if ds.length = is.length ∧ ds.length ≤ sizeLine then .nx (DL.setN ρ is ds) dr' else .st) (dc X dra) en O H De W := w
        rw [if_neg hz] at w
        exact w.elim⟩
/-- except x: what it takes -/
structure HasClause (K : PySem.W.Frag) (mg : Str → Option Value) (x : Str) (mt : Str → Option Bool) : Prop where
  ex : ∃ c, mg x = some c ∧ ∀ y b C, mt y = some b → mg y = some (.ref C) → PySem.W.exmOne K (.ref C) c = some b
theorem sTry {X : Cx} {dra : Option (Addr × Addr)} {W : WX} {x : Str} {body suite : List Stmt} {b₀ : Stmt} {np pos pos' : Pos} {mt : Str → Option Bool} {B S : CSx} (h : HasClause X.K X.mg x mt) (tk : Takes X W)
    (hb : ∀ (W' : WX) (pn : List (Addr × Obj)) (xe : Value → Shared → Prop), Takes (X.tr pn xe) W' → PassesOwn (model X.prog X.w) X.A X.env xe → BSs (X.tr pn xe) dra W' body B)
    (hsu : ∀ (a : Addr) (pn : List (Addr × Obj)), BSs (X.suite a pn) dra W0 (b₀ :: suite) S) (hg : Gl X x := by rfl) (hdb : (x == ("__debug__" : Str)) = false := by decide) (hs : X.stack = X.env :: X.outer := by rfl) (hf : X.env.frame = some X.env.locals := by rfl) :
    BS X dra W (.Try body [.ExceptHandler (some (.Name x np)) none (b₀ :: suite) pos'] [] [] pos) (cTry mt B S) := by
  obtain ⟨c, h1, h2⟩ := h.ex
  exact bs_try ⟨hg, hdb, .inl h1⟩ tk h2 hb hsu hs hf
end DL
/-! DL17 -/
/-! DL17: the draws of a law. -/
namespace DL
open PySem PySem.Spec PyProof.Rows L2

def Dw.filled (s : Dw) : Dw := if s.left = 0 ∧ s.p < s.cells.length then { s with q := (s.cells[s.p.toNat]?).getD 0, left := 60, p := s.p + 1 } else s
def Dw.next (s : Dw) : Dw := { s with cnt := s.cnt + 1, seed := (s.seed * 48271 + (s.cnt + 1) * (s.cnt + 1) * 69621 + 11).fmod 2147483647 }
/-- what is drawn, what is left -/
def takeD (m : Int) (s : Dw) : Int × Dw :=
  if 0 < s.filled.left then (s.filled.q.fmod m, { s.filled with q := s.filled.q.fdiv m, left := if 0 < s.filled.q.fdiv m then s.filled.left - 1 else 0 })
  else ((s.filled.next.seed.fdiv 13).fmod m, s.filled.next)
def okT (m : Int) (s : Dw) : Bool := decide (0 ≤ s.p) && decide (m ≠ 0) && decide (m.natAbs.log2 < 9000) && decide (s.seed.natAbs < 2 ^ 100) && decide ((s.cnt + 1).natAbs < 2 ^ 100) && decide (s.cells.length ≤ 1000)
def f_take : CF := fun ds dr => match ds, dr with
  | [.dr, .int m], some s => if okT m s = true then .ok (.int (takeD m s).1) (some (takeD m s).2) else .st
  | _, _ => .st
def dl (q : Addr) (s : Dw) : List V := [.ref q, .int s.p, .int s.q, .int s.left, .int s.seed, .int s.cnt]
section
variable {K : PySem.W.Frag} {σ : L2.St} {H : Hp} {p q : Addr} {s : Dw} {Q : VK} {xs : List V} {v : V}
theorem rd (k : Int) (h0 : σ[0]? = some (some (.ref p))) (hp : H p = some (.lst xs)) (hk : atI xs k = some v) (h : Q v H) : tOp (rIxL K) (tVar 0) (tC (.int k)) σ H Q := ⟨.ref p, h0, p, xs, k, v, rfl, rfl, .of hp, hk, h⟩
theorem wr {R : L2.St → Hp → Prop} (k : Int) {j : Nat} (h0 : σ[0]? = some (some (.ref p))) (hp : H p = some (.lst xs)) (hk : ixN xs.length k = some j) (h : R σ (upd H p (.lst (xs.set j v)))) : L2.gSub (tVar 0) (tC (.int k)) rSetL v σ H R := ⟨.ref p, h0, p, xs, k, j, rfl, rfl, hp, hk, h⟩
end
/-- the list of draws as it stands -/
structure DA (H0 H : Hp) (p q : Addr) (s : Dw) : Prop where
  hp : H p = some (.lst (dl q s))
  hq : H q = some (.lst (s.cells.map V.int))
  ne : q ≠ p
  ext : ∀ a o, H0 a = some o → a ≠ p → H a = some o
  trk : ∀ a, H0 a ≠ none → H a ≠ none
section
variable {H0 H : Hp} {p q t : Addr} {s s' : Dw}
theorem DA.put (d : DA H0 H p q s) (xs : List V) (e : xs = dl q s') (c : s'.cells = s.cells) : DA H0 (upd H p (.lst xs)) p q s' := by
  subst e
  refine ⟨upd_same, by rw [upd_ne d.ne, c]; exact d.hq, d.ne, fun a o h n => by rw [upd_ne n]; exact d.ext a o h n, fun a h => ?_⟩
  by_cases e : a = p
  · subst e; rw [upd_same]; exact fun z => nomatch z
  · rw [upd_ne e]; exact d.trk a h
theorem DA.new (d : DA H0 H p q s) {o : HO} (h : H t = none) : DA H0 (upd H t o) p q s := by
  have n1 : p ≠ t := fun e => by rw [← e, d.hp] at h; cases h
  have n2 : q ≠ t := fun e => by rw [← e, d.hq] at h; cases h
  have g : ∀ a, H a ≠ none → a ≠ t := fun a ha e => ha (e ▸ h)
  refine ⟨by rw [upd_ne n1]; exact d.hp, by rw [upd_ne n2]; exact d.hq, d.ne, fun a o' e n => ?_, fun a e => ?_⟩
  · have k := d.ext a o' e n
    rw [upd_ne (g a (by rw [k]; exact fun z => nomatch z))]; exact k
  · rw [upd_ne (g a (d.trk a e))]; exact d.trk a e
end
theorem dl_at (q : Addr) (s : Dw) : atI (dl q s) 0 = some (.ref q) ∧ atI (dl q s) 1 = some (.int s.p) ∧ atI (dl q s) 2 = some (.int s.q) ∧ atI (dl q s) 3 = some (.int s.left) ∧ atI (dl q s) 4 = some (.int s.seed) ∧ atI (dl q s) 5 = some (.int s.cnt) := ⟨rfl, rfl, rfl, rfl, rfl, rfl⟩
/-! ### _law_take -/
def NT : List Str := ["draw", "many", "found"]
section
variable {P : Program} {w : World} {K : PySem.W.Frag} {mg : Str → Option Value} {base : Heap}
abbrev tIx (K : PySem.W.Frag) (k : Int) : TE := tOp (rIxL K) (tVar 0) (tC (.int k))
abbrev gAt (k : Int) : TG := L2.gSub (tVar 0) (tC (.int k)) rSetL
abbrev rFd : R2 := rI (fun _ j => j ≠ 0 ∧ j.natAbs.log2 < 9000) fun i j => .int (i.fdiv j)
abbrev rMd : R2 := rI (fun _ j => j ≠ 0) fun i j => .int (i.fmod j)
abbrev rMw : R2 := rI CMulW fun i j => .int (i * j)
abbrev rAd : R2 := rI0 fun i j => .int (i + j)
abbrev rSu : R2 := rI0 fun i j => .int (i - j)
abbrev rLtI : R2 := rI0 fun i j => .bl (decide (i < j))
abbrev rGtI : R2 := rI0 fun i j => .bl (decide (j < i))
abbrev rInt1 : List V → Hp → VK → Prop := fun xs H Q => (∃ i, xs = [.int i] ∧ Q (.int i) H) ∨ ∃ k, xs = [.bl k] ∧ Q (.int (if k then 1 else 0)) H
abbrev rLen1 (K : PySem.W.Frag) : List V → Hp → VK → Prop := fun xs H Q => ∃ x n, xs = [x] ∧ LenV K x H n ∧ Q (.int n) H
/-- if draw[3] == 0 and draw[1] < len(draw[0]): .. -/
def tTk1 (K : PySem.W.Frag) : TS := tIfS (tAnd (tTest (tOp rEq (tIx K 3) (tC (.int 0)))) (tTest (tOp rLtI (tIx K 1) (tCB (rLen1 K) (tCons (tIx K 0) tNil)))))
  (tAsg (tTup (tCons (tOp (rIxL K) (tIx K 0) (tIx K 1)) (tCons (tC (.int 60)) (tCons (tOp rAd (tIx K 1) (tC (.int 1))) tNil)))) (gTup K 3 (gCons (gAt 2) (gCons (gAt 3) (gCons (gAt 1) gNil))))) tNext
def tTk2 (K : PySem.W.Frag) : TS := tIfS (tTest (tOp rGtI (tIx K 3) (tC (.int 0))))
  (tSeq (tAsg (tOp rMd (tCB rInt1 (tCons (tIx K 2) tNil)) (tVar 1)) (gName 2)) (tSeq (tAsg (tOp rFd (tIx K 2) (tVar 1)) (gAt 2))
    (tSeq (tAsg (tIf (tTest (tOp rGtI (tIx K 2) (tC (.int 0)))) (tOp rSu (tIx K 3) (tC (.int 1))) (tC (.int 0))) (gAt 3)) (tRet (tVar 2))))) tNext
def tTk3 (K : PySem.W.Frag) : TS := tAsg (tOp rAd (tIx K 5) (tC (.int 1))) (gAt 5)
def tTk4 (K : PySem.W.Frag) : TS := tAsg (tOp rMd (tCB rInt1 (tCons (tOp rAd (tOp rAd (tOp rMw (tIx K 4) (tC (.int 48271))) (tOp rMw (tOp rMw (tIx K 5) (tIx K 5)) (tC (.int 69621)))) (tC (.int 11))) tNil)) (tC (.int 2147483647))) (gAt 4)
def tTk5 (K : PySem.W.Frag) : TS := tRet (tOp rMd (tCB rInt1 (tCons (tOp rFd (tIx K 4) (tC (.int 13))) tNil)) (tVar 1))
def tTake (K : PySem.W.Frag) : TS := tSeq (tTk1 K) (tSeq (tTk2 K) (tSeq (tTk3 K) (tSeq (tTk4 K) (tTk5 K))))
section
variable {H0 H : Hp} {p q : Addr} {s : Dw} {σ : L2.St} {D : Ends}
theorem tk1 (h0 : σ[0]? = some (some (.ref p))) (d : DA H0 H p q s) (hp0 : 0 ≤ s.p) (hl : s.cells.length ≤ 1000) (k : ∀ H', DA H0 H' p q s.filled → D.nx σ H') : tTk1 K D σ H := by
  obtain ⟨e0, e1, e2, e3, e4, e5⟩ := dl_at q s
  refine rd 3 h0 d.hp e3 ⟨rfl, _, rfl, ?_⟩
  by_cases c1 : s.left = 0
  · rw [c1]
    refine rd 1 h0 d.hp e1 (rd 0 h0 d.hp e0 ⟨_, s.cells.length, rfl, .inl ⟨_, .of d.hq, by rw [List.length_map]⟩, _, _, rfl, rfl, _, rfl, ?_⟩)
    by_cases c2 : s.p < s.cells.length
    · rw [decide_eq_true c2]
      dsimp only
      rw [if_pos rfl]
      have hlt : s.p.toNat < s.cells.length := by omega
      have hcell : atI (s.cells.map V.int) ((s.p.toNat : Nat) : Int) = some (.int ((s.cells[s.p.toNat]?).getD 0)) := atI_nat (by
        rw [List.getElem?_map, List.getElem?_eq_getElem hlt]
        rfl)
      have ep : ((s.p.toNat : Nat) : Int) = s.p := Int.toNat_of_nonneg hp0
      rw [ep] at hcell
      refine rd 0 h0 d.hp e0 (rd 1 h0 d.hp e1 ⟨q, _, s.p, _, rfl, rfl, .of d.hq, hcell, rd 1 h0 d.hp e1 ⟨_, _, rfl, rfl, (by show 3 ≤ sizeLine; decide), fun t ht => ?_⟩⟩)
      have d1 := d.new (o := .tup [.int ((s.cells[s.p.toNat]?).getD 0), .int 60, .int (s.p + 1)]) ht
      refine ⟨t, _, rfl, .of upd_same, rfl, _, _, rfl, wr 2 h0 d1.hp rfl ⟨_, _, rfl, ?_⟩⟩
      have d2 := d1.put (s' := { s with q := (s.cells[s.p.toNat]?).getD 0 }) _ rfl rfl
      refine wr 3 h0 d2.hp rfl ⟨_, _, rfl, ?_⟩
      have d3 := d2.put (s' := { s with q := (s.cells[s.p.toNat]?).getD 0, left := 60 }) _ rfl rfl
      refine wr 1 h0 d3.hp rfl ⟨rfl, ?_⟩
      have d4 := d3.put (s' := { s with q := (s.cells[s.p.toNat]?).getD 0, left := 60, p := s.p + 1 }) _ rfl rfl
      refine k _ ?_
      unfold Dw.filled
      rw [if_pos ⟨c1, c2⟩]
      exact d4
    · rw [decide_eq_false c2]
      dsimp only
      rw [if_neg Bool.false_ne_true]
      refine k _ ?_
      unfold Dw.filled
      rw [if_neg fun z => c2 z.2]
      exact d
  · have : decide (V.int s.left = V.int 0) = false := by simpa using c1
    rw [this]
    dsimp only
    rw [if_neg Bool.false_ne_true]
    refine k _ ?_
    unfold Dw.filled
    rw [if_neg fun z => c1 z.1]
    exact d
theorem tk2 (m : Int) (h0 : σ[0]? = some (some (.ref p))) (h1 : σ[1]? = some (some (.int m))) (hl : σ.length = 3) (d : DA H0 H p q s) (hm : m ≠ 0 ∧ m.natAbs.log2 < 9000) (kr : 0 < s.left → ∀ H', DA H0 H' p q { s with q := s.q.fdiv m, left := if 0 < s.q.fdiv m then s.left - 1 else 0 } → D.rt (.int (s.q.fmod m)) H')
    (k : ¬ 0 < s.left → D.nx σ H) : tTk2 K D σ H := by
  obtain ⟨e0, e1, e2, e3, e4, e5⟩ := dl_at q s
  refine rd 3 h0 d.hp e3 ⟨_, _, rfl, rfl, _, rfl, ?_⟩
  by_cases c1 : 0 < s.left
  · rw [decide_eq_true c1]
    dsimp only
    rw [if_pos rfl]
    refine rd 2 h0 d.hp e2 (.inl ⟨_, rfl, _, h1, _, _, rfl, rfl, hm.1, ?_⟩)
    have h0' : (σ.set 2 (some (.int (s.q.fmod m))))[0]? = some (some (.ref p)) := by rw [List.getElem?_set_ne (by decide)]; exact h0
    have h1' : (σ.set 2 (some (.int (s.q.fmod m))))[1]? = some (some (.int m)) := by rw [List.getElem?_set_ne (by decide)]; exact h1
    have h2' : (σ.set 2 (some (.int (s.q.fmod m))))[2]? = some (some (.int (s.q.fmod m))) := List.getElem?_set_self (by omega)
    refine rd 2 h0' d.hp e2 ⟨_, h1', _, _, rfl, rfl, hm, wr 2 h0' d.hp rfl ?_⟩
    have d2 := d.put (s' := { s with q := s.q.fdiv m }) _ rfl rfl
    obtain ⟨f0, f1, f2, f3, f4, f5⟩ := dl_at q { s with q := s.q.fdiv m }
    refine rd 2 h0' d2.hp f2 ⟨_, _, rfl, rfl, _, rfl, ?_⟩
    by_cases c2 : 0 < s.q.fdiv m
    · rw [decide_eq_true c2]
      dsimp only
      rw [if_pos rfl]
      refine rd 3 h0' d2.hp f3 ⟨_, _, rfl, rfl, wr 3 h0' d2.hp rfl ⟨_, h2', kr c1 _ ?_⟩⟩
      rw [if_pos c2]
      exact d2.put (s' := { s with q := s.q.fdiv m, left := s.left - 1 }) _ rfl rfl
    · rw [decide_eq_false c2]
      dsimp only
      rw [if_neg Bool.false_ne_true]
      refine wr 3 h0' d2.hp rfl ⟨_, h2', kr c1 _ ?_⟩
      rw [if_neg c2]
      exact d2.put (s' := { s with q := s.q.fdiv m, left := 0 }) _ rfl rfl
  · rw [decide_eq_false c1]
    dsimp only
    rw [if_neg Bool.false_ne_true]
    exact k c1
theorem tk345 (m : Int) (h0 : σ[0]? = some (some (.ref p))) (h1 : σ[1]? = some (some (.int m))) (d : DA H0 H p q s) (hm : m ≠ 0) (hs : s.seed.natAbs < 2 ^ 100) (hc : (s.cnt + 1).natAbs < 2 ^ 100) (k : ∀ H', DA H0 H' p q s.next → D.rt (.int ((s.next.seed.fdiv 13).fmod m)) H') :
    tSeq (tTk3 K) (tSeq (tTk4 K) (tTk5 K)) D σ H := by
  obtain ⟨e0, e1, e2, e3, e4, e5⟩ := dl_at q s
  refine rd 5 h0 d.hp e5 ⟨_, _, rfl, rfl, wr 5 h0 d.hp rfl ?_⟩
  have d2 := d.put (s' := { s with cnt := s.cnt + 1 }) _ rfl rfl
  obtain ⟨f0, f1, f2, f3, f4, f5⟩ := dl_at q { s with cnt := s.cnt + 1 }
  have w1 : CMulW s.seed 48271 := wide_mul hs (b := 20) (by decide) (by decide) (by decide) (by decide)
  have w2 : CMulW (s.cnt + 1) (s.cnt + 1) := wide_mul hc hc (by decide) (by decide) (by decide)
  have w3 : CMulW ((s.cnt + 1) * (s.cnt + 1)) 69621 := wide_mul (a := 200) (b := 20) (by
    rw [Int.natAbs_mul, show (2 : Nat) ^ 200 = 2 ^ 100 * 2 ^ 100 from by rw [← Nat.pow_add]]
    exact Nat.mul_lt_mul'' hc hc) (by decide) (by decide) (by decide) (by decide)
  refine rd 4 h0 d2.hp f4 ⟨_, _, rfl, rfl, w1, rd 5 h0 d2.hp f5 (rd 5 h0 d2.hp f5 ⟨_, _, rfl, rfl, w2, _, _, rfl, rfl, w3, _, _, rfl, rfl, _, _, rfl, rfl, .inl ⟨_, rfl, _, _, rfl, rfl, (show (2147483647 : Int) ≠ 0 by decide), wr 4 h0 d2.hp rfl ?_⟩⟩)⟩
  have d3 := d2.put (s' := s.next) _ rfl rfl
  obtain ⟨g0, g1, g2, g3, g4, g5⟩ := dl_at q s.next
  exact rd 4 h0 d3.hp g4 ⟨_, _, rfl, rfl, ⟨by decide, by decide⟩, .inl ⟨_, rfl, _, h1, _, _, rfl, rfl, hm, k _ d3⟩⟩
theorem pure_take {vs : List V} {Q : VK} {E : XK} {mg : Str → Option Value} (h : spD K mg 2 f_take vs H Q E) : tTake K { nx := fun _ H' => Q .non H', rt := Q } (L2.start ["draw", "many", "found"] vs) H := by
  obtain ⟨hl, dra, O, ds, dr, tr, hp, dw, r, w1⟩ := h
  unfold f_take at w1
  split at w1
  · rename_i m s
    by_cases ok : okT m s = true
    · rw [if_pos ok] at w1
      obtain ⟨v, u, f1, f2, rfl, ef, r1, r2⟩ := r.two
      cases r2
      cases r1 with
      | dr e1 =>
        rename_i pp
        have e1 : dra = some pp := e1
        obtain ⟨p', e2, k1, k2, k3⟩ := dw
        have e2 : dra = some p' := e2
        rw [e1] at e2
        cases e2
        unfold okT at ok
        simp only [Bool.and_eq_true, decide_eq_true_eq] at ok
        obtain ⟨⟨⟨⟨⟨o1, o2⟩, o3⟩, o4⟩, o5⟩, o6⟩ := ok
        have d0 : DA H H pp.1 pp.2 s := ⟨k1, k2, k3, fun _ _ e _ => e, fun _ e => e⟩
        have fin : ∀ (i : Int) (s' : Dw) H', DA H H' pp.1 pp.2 s' → takeD m s = (i, s') → Q (.int i) H' := fun i s' H' d e => by
          have w1 : OkE ⟨K, mg, dra⟩ O H Q (.int (takeD m s).1) (some (takeD m s).2) := w1
          rw [e] at w1
          exact w1 _ H' [] ⟨fun a o h n => d.ext a o h (n pp e1), d.trk⟩ ⟨pp, e1, d.hp, d.hq, d.ne⟩ (.int i) List.nodup_nil fun _ z => nomatch z
        have hf : s.filled.seed = s.seed ∧ s.filled.cnt = s.cnt ∧ s.filled.cells = s.cells := by
          unfold Dw.filled
          split <;> exact ⟨rfl, rfl, rfl⟩
        refine tk1 (s := s) rfl d0 o1 o6 fun H1 d1 => ?_
        refine tk2 m rfl rfl rfl d1 ⟨o2, o3⟩ (fun c H2 d2 => fin _ _ H2 d2 ?_) fun c => ?_
        · unfold takeD
          rw [if_pos c]
        · refine tk345 m rfl rfl d1 o2 (by rw [hf.1]; exact o4) (by rw [hf.2.1]; exact o5) fun H2 d2 => fin _ _ H2 d2 ?_
          unfold takeD
          rw [if_neg c]
    · rw [if_neg ok] at w1; exact w1.elim
  · exact w1.elim
end
end
end DL
/-! DL18 -/
/-! DL18: the draws are laid, the law itself. -/
namespace DL
open PySem PySem.Spec PyProof.Rows L2

def absI (i : Int) : Int := if i < 0 then -i else i
def seedS (s c : Int) : Int := (s * 48271 + c).fmod 2147483629 + 1
def drawOf (ns : List Int) : Dw := ⟨ns.map absI, 0, 0, 0, ns.foldl seedS 7, 0⟩
def spDraw (K : PySem.W.Frag) : Sp := fun vs H Q _ => ∃ (a : Addr) (ns : List Int), vs = [.ref a] ∧ SqL K H a (ns.map V.int) ∧ ns.length ≤ 63 ∧
  ∀ (H' : Hp) (p q : Addr), Same H H' → H p = none → H q = none → q ≠ p → H' p = some (.lst (dl q (drawOf ns))) → H' q = some (.lst ((drawOf ns).cells.map V.int)) → Q (.ref p) H'
theorem seedS_ok (s c : Int) : 0 ≤ seedS s c ∧ seedS s c < 2 ^ 31 := by
  unfold seedS
  have h1 := Int.fmod_nonneg_of_pos (s * 48271 + c) (b := 2147483629) (by decide)
  have h2 := Int.fmod_lt_of_pos (s * 48271 + c) (b := 2147483629) (by decide)
  omega
theorem seed_ok : ∀ (ns : List Int) (s : Int), 0 ≤ s ∧ s < 2 ^ 31 → 0 ≤ ns.foldl seedS s ∧ ns.foldl seedS s < 2 ^ 31
  | [], _, h => h
  | c :: ns, s, _ => seed_ok ns _ (seedS_ok s c)
theorem cut63 (xs : List V) (h : xs.length ≤ 63) : cutV xs none (some 63) = xs := by
  unfold cutV
  rw [HT.sIx_none, show HT.sIx xs.length xs.length (some 63) = min 63 xs.length from HT.sIx_nat xs.length xs.length 63, List.drop_zero, Nat.min_eq_right h, Nat.sub_zero, List.take_length]
def ND : List Str := ["script", "seed", "cell"]
def tSl63 (K : PySem.W.Frag) : TE := L2.tSl (rSlL K) (tVar 0) tNoPart (tPart (tC (.int 63)))
def tDraw (K : PySem.W.Frag) : TS := tSeq (tAsg (tC (.int 7)) (gName 1)) (tSeq (tFor (iList K (tSl63 K)) (gName 2) (tAsg (tOp rAd (tOp rMd (tCB rInt1 (tCons (tOp rAd (tOp rMw (tVar 1) (tC (.int 48271))) (tVar 2)) tNil)) (tC (.int 2147483629))) (tC (.int 1))) (gName 1)))
  (tRet (tLst (tCons (tLc (iList K (tSl63 K)) (gName 2) tYes (tCB (fun xs H Q => ∃ i, xs = [.int i] ∧ Q (.int (if i < 0 then -i else i)) H) (tCons (tCB rInt1 (tCons (tVar 2) tNil)) tNil)) [2]) (tCons (tC (.int 0)) (tCons (tC (.int 0)) (tCons (tC (.int 0)) (tCons (tVar 1) (tCons (tC (.int 0)) tNil)))))))))
section
variable {K : PySem.W.Frag} {H : Hp}
theorem take_foldl {α β : Type} (f : β → α → β) (b : β) {l : List α} {i : Nat} {x : α} (h : l[i]? = some x) : (l.take (i + 1)).foldl f b = f ((l.take i).foldl f b) x := by
  have : l.take (i + 1) = l.take i ++ [x] := by
    rw [List.take_succ, h]
    rfl
  rw [this, List.foldl_append]
  rfl
theorem pure_draw {vs : List V} {Q : VK} {E : XK} (h : spDraw K vs H Q E) : tDraw K { nx := fun _ H' => Q .non H', rt := Q } (L2.start ND vs) H := by
  obtain ⟨a, ns, rfl, hS, hl, k⟩ := h
  have hl' : (ns.map V.int).length ≤ 63 := by rw [List.length_map]; exact hl
  have cut := cut63 (ns.map V.int) hl'
  refine ⟨.ref a, rfl, 63, rfl, a, ns.map V.int, rfl, hS, fun c nc => ?_⟩
  rw [cut]
  have s1 : Same H (upd H c (.lst (ns.map V.int))) := same_upd nc
  refine ⟨c, rfl, ⟨_, .of upd_same⟩, for_list (K := K) (a := c) (xs := ns.map V.int) (fun i σ H' => ∃ v : Option V, σ = [some (.ref a), some (.int ((ns.take i).foldl seedS 7)), v] ∧ Same (upd H c (.lst (ns.map V.int))) H') ⟨none, rfl, .refl _⟩ (fun i σ H' _ ⟨_, _, sm⟩ => .of (sm _ _ upd_same)) ?_ ?_⟩
  · rintro i y σ H' hi ⟨v, rfl, sm⟩
    rw [List.getElem?_map] at hi
    obtain ⟨z, hz, rfl⟩ := Option.map_eq_some_iff.mp hi
    have w : CMulW ((ns.take i).foldl seedS 7) 48271 := by
      have := seed_ok (ns.take i) 7 (by decide)
      exact wide_mul (a := 31) (b := 20) (by omega) (by decide) (by decide) (by decide) (by decide)
    refine ⟨_, rfl, _, _, rfl, rfl, w, _, rfl, _, _, rfl, rfl, .inl ⟨_, rfl, _, _, rfl, rfl, (show (2147483629 : Int) ≠ 0 by decide), _, _, rfl, rfl, some (.int z), ?_, sm⟩⟩
    rw [take_foldl _ _ hz]
    rfl
  · rintro σ H1 ⟨v, rfl, sm⟩
    rw [List.length_map, List.take_length]
    have sH : Same H H1 := s1.trans sm
    refine ⟨.ref a, rfl, 63, rfl, a, ns.map V.int, rfl, sH.seq hS, fun c2 nc2 => ?_⟩
    rw [cut]
    have s2 : Same H1 (upd H1 c2 (.lst (ns.map V.int))) := same_upd nc2
    refine ⟨c2, rfl, ⟨_, .of upd_same⟩, fun q nq => ?_⟩
    have hqc : c2 ≠ q := fun e => by rw [e, upd_same] at nq; cases nq
    have s3 : Same (upd H1 c2 (.lst (ns.map V.int))) (upd (upd H1 c2 (.lst (ns.map V.int))) q (.lst [])) := same_upd nq
    refine lc_list (K := K) (a := c2) (xs := ns.map V.int) (fun i H' => H' = upd (upd H1 c2 (.lst (ns.map V.int))) q (.lst ((ns.take i).map fun i => V.int (absI i)))) rfl (fun i H' _ e => by
      rw [e]
      exact .of (by rw [upd_ne hqc, upd_same])) ?_ ?_
    · rintro i y H' hi rfl
      rw [List.getElem?_map] at hi
      obtain ⟨z, hz, rfl⟩ := Option.map_eq_some_iff.mp hi
      refine ⟨rfl, ⟨_, rfl, .inl ⟨_, rfl, _, rfl, _, upd_same, ?_, ?_⟩⟩⟩
      · rw [List.length_map, List.length_take]
        have := sizeLine_eq
        omega
      · rw [List.take_succ, hz, upd_upd]
        simp [absI]
    · rintro H2 rfl
      rw [List.length_map, List.take_length]
      refine ⟨_, rfl, (by show 6 ≤ sizeLine; decide), fun p np => ?_⟩
      have nqp : q ≠ p := fun e => by rw [← e, upd_same] at np; cases np
      have nH : ∀ b, (upd (upd H1 c2 (.lst (ns.map V.int))) q (.lst (ns.map fun i => V.int (absI i)))) b = none → H b = none := fun b e => by
        have nb : b ≠ q := fun z => by rw [z, upd_same] at e; cases e
        rw [upd_ne nb] at e
        exact sH.free (s2.free e)
      refine k _ p q ?_ (nH p np) (sH.free (s2.free nq)) nqp upd_same ?_
      · refine fun b o e => ?_
        have nb : b ≠ p := fun z => by rw [z, nH p np] at e; cases e
        have nb2 : b ≠ q := fun z => by rw [z, sH.free (s2.free nq)] at e; cases e
        rw [upd_ne nb, upd_ne nb2]
        exact s2 _ _ (sH _ _ e)
      · rw [upd_ne nqp, upd_same]
        simp [drawOf]
end
/-! ### the law -/
structure HasDraw (P : Program) (w : World) (K : PySem.W.Frag) (mg : Str → Option Value) (base : Heap) (k : Nat) : Prop where
  ex : ∃ (f : Addr) (fd : FuncData) (ps : List Str), FnOk P w K mg base (L2.CX P w) k f fd ps (spDraw K) ∧ mg "_law_draw" = some (.ref f) ∧ PySem.W.keepIn K (.ref f) = true ∧ Binds K fd ps []
/-- what is known at the rest of a law's body: i the slot of the draws -/
def rho0 (n i : Nat) : Rho := (List.replicate n none).set i (some .dr)
def spLaw (K : PySem.W.Frag) (n i : Nat) (R : CSx) : Sp := fun vs H Q _ => ∃ (a : Addr) (ns : List Int) (dr' : Dr), vs = [.ref a] ∧ SqL K H a (ns.map V.int) ∧ ns.length ≤ 63 ∧ R (rho0 n i) (some (drawOf ns)) = .rt (.bl true) dr' ∧ ∀ H', Q (.bl true) H'
section
variable {P : Program} {w : World} {K : PySem.W.Frag} {mg : Str → Option Value} {base : Heap}
theorem law_body {X : Cx} {W : WX} {rest : List Stmt} {R : CSx} {i n : Nat} {y x : Str} {p1 p2 p3 cp ap : Pos} (hX : X.N.length = n) (hN : X.N.Nodup) (hi0 : 0 < i) (hin : i < n) (hD : HasDraw X.prog X.w X.K X.mg X.base k) (hr : Room k X.A) (tk : Takes X W)
    (hi : X.N[i]? = some y) (hx : Loc X.env.scope y) (hf : X.fn y = true ∨ X.env.scope.names.lookup y = some .local) (h0 : X.N[0]? = some x) (hv : Vis X.env.scope x) (hxd : (x == ("__debug__" : Str)) = false) (hxc : (x == ("__classdict__" : Str)) = false)
    (hg : Gl X "_law_draw") (hs : starEach [.Name x ap] X.env = (false, eval (.Name x ap) X.env) :: starEach [] X.env) (hpl : (backTo cp (starEach [] X.env)).any (·.1) = false)
    (hsw : swapsWith (.Call (.Name "_law_draw" p2) [.Name x ap] [] cp) (some (.Name y p1)) p3.line X.env = pure false)
    (hb : ∀ dra, BSs X dra W rest R) : ∃ t, PSs X (.Assign [.Name y p1] (.Call (.Name "_law_draw" p2) [.Name x ap] [] cp) p3 :: rest) t ∧ ∀ (De : Ends) (vs : List V) (H : Hp) (E : XK), vs.length = 1 → spLaw X.K n i R vs H De.rt E → t De (L2.start X.N vs) H := by
  obtain ⟨f, fd, ps, F, g1, g2, g3⟩ := hD.ex
  refine ⟨_, pss_cons (ps_set (i := i) hN hi hx (pe_callS F hr hg g1 g2 g3 (fun σ => passAt tk σ) (pa_cons (pv 0 h0 hv hxd hxc) pa_nil hs) (by decide) hs hpl) hsw hf) (u := fun De σ H => ∃ dra, tSt (dc X dra) W R De σ H) ⟨fun pins s σ H De I ⟨dra, hw⟩ => (hb dra).ps.run pins s σ H De I hw⟩, fun De vs H E hl h => ?_⟩
  obtain ⟨a, ns, dr', rfl, hS, hn, hR, k⟩ := h
  refine ⟨.ref a, rfl, a, ns, rfl, hS, hn, fun H' p q sm hp hq hqp hH hQ => ?_⟩
  have hs0 : (L2.start X.N [V.ref a]).length = n := by
    unfold L2.start
    simp only [List.length_append, List.length_map, List.length_replicate, List.length_cons, List.length_nil]
    omega
  refine ⟨some (p, q), ⟨H', fun a => a = p⟩, fun a => a = p, rho0 n i, some (drawOf ns), ⟨⟨List.replicate n [], ?_, ?_, fun b hb => ?_, fun j d hj => ?_⟩, ?_, fun b hb => ?_, fun _ h => h, .refl, ⟨(p, q), rfl, hH, hQ, hqp⟩, fun p' e => ?_, fun p' e => ?_, fun b hb => ?_, fun p' e => ?_⟩, ?_⟩
  · unfold rho0
    rw [List.length_set, List.length_replicate, List.length_replicate]
  · simp
  · simp at hb
  · unfold rho0 at hj
    by_cases hji : i = j
    · subst hji
      rw [List.getElem?_set_self (by rw [List.length_replicate]; exact hin)] at hj
      cases hj
      refine ⟨.ref p, [], by rw [List.getElem?_set_self (by rw [hs0]; exact hin)], ?_, .dr (p := (p, q)) rfl⟩
      rw [List.getElem?_replicate, if_pos hin]
    · rw [List.getElem?_set_ne hji, List.getElem?_replicate] at hj
      split at hj <;> cases hj
  · unfold rho0
    rw [List.length_set, List.length_replicate, List.length_set, hs0]
  · have hb : b = p := hb
    subst hb; rw [hH]; exact fun z => nomatch z
  · cases e; rfl
  · cases e
    show H' p ≠ none
    rw [hH]; exact fun z => nomatch z
  · have hb : b = p := hb
    subst hb
    show H' b ≠ none
    rw [hH]; exact fun z => nomatch z
  · cases e
    show H' q ≠ none
    rw [hQ]; exact fun z => nomatch z
  · rw [hR]
    exact fun v H2 fp x dw r nd fr => by
      cases r
      exact k H2
theorem law_fn {st : Stmt} {f : Addr} {fd : FuncData} {N : List Str} {k i : Nat} {R : CSx} (Fu : Fun K "law" "law" st f fd) (S : FnScope N ["script"] (defScope st))
    (hb : ∀ (f : Addr) (cdv : Value) (A : Around) (outer : List Env) (s : Shared) (H : Hp) (E : XK), Room k (A.deeper (envOfC "law" (defScope st) s.heap.objs.size f cdv)) →
      ∃ t, PSs (cxOf (L2.CX P w) P w K mg base N "law" (defScope st) f cdv A outer s H E) (defBody st) t ∧ ∀ (De : Ends) (vs : List V) (H : Hp) (E : XK), vs.length = 1 → spLaw K N.length i R vs H De.rt E → t De (L2.start N vs) H) : FnOk P w K mg base (L2.CX P w) (k + 1) f fd ["script"] (spLaw K N.length i R) := by
  refine Fu.okX S (fun vs H Q E h => ?_) (fun cdv A outer s H vs Q E hr h => ?_)
  · obtain ⟨a, ns, dr', rfl, _⟩ := h; rfl
  · obtain ⟨t, h1, h2⟩ := hb f cdv A outer s H E hr
    exact ⟨t, h1, h2 _ vs H E (by obtain ⟨a, ns, dr', rfl, _⟩ := h; rfl) h⟩
end
end DL
/-! DL19 -/
/-! DL19: what the top has written, from the facts of the written part. -/
namespace DL
open PySem PySem.Spec PyProof.Rows L2
section
variable {K : PySem.W.Frag} {h : Heap} {mg : Str → Option Value}
theorem mkDef {x : Str} {st : Stmt} {ps : List Str} {f : Addr} {oc : Value} {od an : Option Addr} {osl : Array (Option Value)} {kV doc pm cdv ct : Value} (X : K.In h) (G : h.Ns mainGlobals mg) (a : PySem.W.nsIn K mainGlobals x = some (some (.ref f)))
    (l : K.lookup f = some ⟨oc, od, .func (PySem.W.fnOf x x (defArgs st) (defBody st) (defScope st) .none kV doc pm an cdv ct), osl⟩) (c : PySem.W.codeIn K cdv x = true) (k : PySem.W.keepIn K (.ref f) = true)
    (b : ∀ (kV doc pm : Value) (an : Option Addr) (cdv ct : Value) (us : List Value), us.length = ps.length → bindArgs (PySem.W.fnOf x x (defArgs st) (defBody st) (defScope st) .none kV doc pm an cdv ct) ⟨us, []⟩ = pure (ps.zip us)) : DefAt K mg x st ps :=
  ⟨f, _, fun_mk l c k, PySem.W.mg_of X G a, (fun_mk l c k).binds b⟩
theorem mkLaw {st : Stmt} {f : Addr} {oc : Value} {od an : Option Addr} {osl : Array (Option Value)} {kV doc pm cdv ct : Value} (X : K.In h) (G : h.Ns mainGlobals mg) (a : PySem.W.nsIn K mainGlobals "law" = some (some (.ref f)))
    (l : K.lookup f = some ⟨oc, od, .func (PySem.W.fnOf "law" "law" (defArgs st) (defBody st) (defScope st) .none kV doc pm an cdv ct), osl⟩) (c : PySem.W.codeIn K cdv "law" = true) (k : PySem.W.keepIn K (.ref f) = true)
    (b : ∀ (kV doc pm : Value) (an : Option Addr) (cdv ct : Value) (s : Shared) (u : Value), BindsTo s (PySem.W.fnOf "law" "law" (defArgs st) (defBody st) (defScope st) .none kV doc pm an cdv ct) ⟨[u], []⟩ [("script", u)]) :
    ∃ f fd, Fun K "law" "law" st f fd ∧ mg "law" = some (.ref f) ∧ ∀ (s : Shared) (u : Value), BindsTo s fd ⟨[u], []⟩ [("script", u)] :=
  ⟨f, _, fun_mk l c k, PySem.W.mg_of X G a, fun s u => b _ _ _ _ _ _ s u⟩
theorem mkExc {x : Str} {C : Addr} {B newId initId : String} {bmB : List Value} (X : K.In h) (G : h.Ns mainGlobals mg) (F : ExcBaseFacts B newId initId bmB) (a : PySem.W.nsIn K mainGlobals x = some (some (.ref C))) (e : PySem.W.excIn K C bmB newId = true) (k : PySem.W.keepIn K (.ref C) = true)
    (s : PySem.W.subIn K (.ref C) (.type "BaseException") = some true) (t : PySem.W.typeIn K (.ref C) = some (.type "type")) : HasExc K mg x := ⟨C, B, newId, initId, bmB, F, e, PySem.W.mg_of X G a, k, s, t⟩
theorem mkTup {x : Str} {a : Addr} {o : Obj} {its : Array Value} {n : Nat} (ns : List Int) (X : K.In h) (G : h.Ns mainGlobals mg) (q : PySem.W.nsIn K mainGlobals x = some (some (.ref a))) (l : K.lookup a = some o) (c : o.cls = .type "tuple") (d : o.data = .seq its n) (z : its.size ≤ sizeLine) (v : Vals (ns.map V.int) its.toList) : ConT K mg x (ns.map D.int) :=
  conT_ints ns (PySem.W.mg_of X G q) ⟨o, its, n, l, c, d, z, v⟩
theorem mkInt {x : Str} {i : Int} {t : Tok} (X : K.In h) (G : h.Ns mainGlobals mg) (q : PySem.W.nsIn K mainGlobals x = some (some (.int i t))) : ∃ t, mg x = some (.int i t) := ⟨t, PySem.W.mg_of X G q⟩
theorem mkNone {x : Str} (X : K.In h) (G : h.Ns mainGlobals mg) (q : PySem.W.nsIn K mainGlobals x = some none) : mg x = none := PySem.W.mg_none_of X G q
theorem mkClause1 {x : Str} {C : Addr} (X : K.In h) (G : h.Ns mainGlobals mg) (a : PySem.W.nsIn K mainGlobals x = some (some (.ref C))) (s : PySem.W.subIn K (.ref C) (.type "BaseException") = some true) (d : PySem.W.hasDictIn K C = true) (t : PySem.W.typeIn K (.ref C) = some (.type "type"))
    (ss : PySem.W.subIn K (.ref C) (.ref C) = some true) : HasClause K mg x (fun y => if y = x then some true else none) := by
  refine ⟨.ref C, PySem.W.mg_of X G a, fun y b C' e1 e2 => ?_⟩
  by_cases hy : y = x
  · rw [if_pos hy] at e1
    cases e1
    rw [hy, PySem.W.mg_of X G a] at e2
    cases e2
    exact PySem.W.exm_ref s d t ss
  · rw [if_neg hy] at e1
    cases e1
variable {Z : Prop}
theorem wDef (x : Str) (st : Stmt) (ps : List Str) {f : Addr} {oc : Value} {od an : Option Addr} {osl : Array (Option Value)} {kV doc pm cdv ct : Value} (X : K.In h) (G : h.Ns mainGlobals mg) (a : PySem.W.nsIn K mainGlobals x = some (some (.ref f)))
    (l : K.lookup f = some ⟨oc, od, .func (PySem.W.fnOf x x (defArgs st) (defBody st) (defScope st) .none kV doc pm an cdv ct), osl⟩) (c : PySem.W.codeIn K cdv x = true) (k : PySem.W.keepIn K (.ref f) = true)
    (b : ∀ (kV doc pm : Value) (an : Option Addr) (cdv ct : Value) (us : List Value), us.length = ps.length → bindArgs (PySem.W.fnOf x x (defArgs st) (defBody st) (defScope st) .none kV doc pm an cdv ct) ⟨us, []⟩ = pure (ps.zip us)) (z : DefAt K mg x st ps → Z) : Z := z (mkDef X G a l c k b)
theorem wExc (x : Str) {C : Addr} {B newId initId : String} {bmB : List Value} (X : K.In h) (G : h.Ns mainGlobals mg) (F : ExcBaseFacts B newId initId bmB) (a : PySem.W.nsIn K mainGlobals x = some (some (.ref C))) (e : PySem.W.excIn K C bmB newId = true) (k : PySem.W.keepIn K (.ref C) = true)
    (s : PySem.W.subIn K (.ref C) (.type "BaseException") = some true) (t : PySem.W.typeIn K (.ref C) = some (.type "type")) (z : HasExc K mg x → Z) : Z := z (mkExc X G F a e k s t)
theorem wTup (x : Str) (ns : List Int) {a : Addr} {o : Obj} {its : Array Value} {n : Nat} (X : K.In h) (G : h.Ns mainGlobals mg) (q : PySem.W.nsIn K mainGlobals x = some (some (.ref a))) (l : K.lookup a = some o) (c : o.cls = .type "tuple") (d : o.data = .seq its n) (s : its.size ≤ sizeLine) (v : Vals (ns.map V.int) its.toList) (z : ConT K mg x (ns.map D.int) → Z) : Z :=
  z (mkTup ns X G q l c d s v)
theorem wInt (x : Str) (i : Int) {t : Tok} (X : K.In h) (G : h.Ns mainGlobals mg) (q : PySem.W.nsIn K mainGlobals x = some (some (.int i t))) (z : (∃ t, mg x = some (.int i t)) → Z) : Z := z ⟨t, PySem.W.mg_of X G q⟩
theorem wNone (x : Str) (X : K.In h) (G : h.Ns mainGlobals mg) (q : PySem.W.nsIn K mainGlobals x = some none) (z : mg x = none → Z) : Z := z (PySem.W.mg_none_of X G q)
theorem wClause1 (x : Str) {C : Addr} (X : K.In h) (G : h.Ns mainGlobals mg) (a : PySem.W.nsIn K mainGlobals x = some (some (.ref C))) (s : PySem.W.subIn K (.ref C) (.type "BaseException") = some true) (d : PySem.W.hasDictIn K C = true) (t : PySem.W.typeIn K (.ref C) = some (.type "type"))
    (ss : PySem.W.subIn K (.ref C) (.ref C) = some true) (z : HasClause K mg x (fun y => if y = x then some true else none) → Z) : Z := z (mkClause1 X G a s d t ss)
theorem wLaw (st : Stmt) {f : Addr} {oc : Value} {od an : Option Addr} {osl : Array (Option Value)} {kV doc pm cdv ct : Value} (X : K.In h) (G : h.Ns mainGlobals mg) (a : PySem.W.nsIn K mainGlobals "law" = some (some (.ref f)))
    (l : K.lookup f = some ⟨oc, od, .func (PySem.W.fnOf "law" "law" (defArgs st) (defBody st) (defScope st) .none kV doc pm an cdv ct), osl⟩) (c : PySem.W.codeIn K cdv "law" = true) (k : PySem.W.keepIn K (.ref f) = true)
    (b : ∀ (kV doc pm : Value) (an : Option Addr) (cdv ct : Value) (s : Shared) (u : Value), BindsTo s (PySem.W.fnOf "law" "law" (defArgs st) (defBody st) (defScope st) .none kV doc pm an cdv ct) ⟨[u], []⟩ [("script", u)])
    (z : ∀ fa fd, mg "law" = some (.ref fa) → Fun K "law" "law" st fa fd → (∀ (s : Shared) (u : Value), BindsTo s fd ⟨[u], []⟩ [("script", u)]) → Z) : Z :=
  z f _ (PySem.W.mg_of X G a) (fun_mk l c k) fun s u => b _ _ _ _ _ _ s u
end
theorem sp_law_of {K : PySem.W.Frag} {n i : Nat} {R : CSx} {H : Hp} {a : Addr} {ns : List Int} (hl : ns.length ≤ 63) (hS : SqL K H a (ns.map V.int)) (h : ∃ dr', R (rho0 n i) (some (drawOf ns)) = .rt (.bl true) dr') : spLaw K n i R [.ref a] H (fun v _ => v = .bl true) fun _ _ _ => False := by
  obtain ⟨dr', h⟩ := h
  exact ⟨a, ns, dr', rfl, hS, hl, h, fun _ => rfl⟩
theorem cx_out {P : Program} {w : World} {H : Hp} {s : Shared} {e : Value} {s' : Shared} (h : L2.CX P w [] H s (fun _ _ _ => False) e s') : False := by
  obtain ⟨_, _, _, _, _, _, _, _, _, _, _, _, z⟩ := h
  exact z
end DL
/-! DL20 -/
/-! DL20: names that stand for another def, defs that call themselves, two places of one list exchanged, str of a number. -/
namespace DL
open PySem PySem.Spec PyProof.Rows L2

/-! ### a def under another name -/
structure DefAs (K : PySem.W.Frag) (mg : Str → Option Value) (y x : Str) (st : Stmt) (ps : List Str) : Prop where
  ex : ∃ (f : Addr) (fd : FuncData), Fun K x x st f fd ∧ mg y = some (.ref f) ∧ Binds K fd ps []
/-- a def whose body reads so -/
theorem has_fnY {P : Program} {w : World} {K : PySem.W.Frag} {mg : Str → Option Value} {base : Heap} {y x qual : Str} {st : Stmt} {f : Addr} {fd : FuncData} {N ps : List Str} {k n : Nat} {B : CSx} (Fu : Fun K x qual st f fd) (gF : mg y = some (.ref f)) (bF : Binds K fd ps []) (S : FnScope N ps (defScope st)) (hn : ps.length = n) 
    (hb : ∀ (dra : Option (Addr × Addr)) (cdv : Value) (A : Around) (outer : List Env) (s : Shared) (H : Hp) (E : XK), Room k (A.deeper (envOfC qual (defScope st) s.heap.objs.size f cdv)) →
      BSs (cxOf (L2.CX P w) P w K mg base N qual (defScope st) f cdv A outer s H E) dra (fun cls d _ H => E cls d H) (defBody st) B) : HasFn P w K mg base (k + 1) y n (fnD N.length B) := by
  refine ⟨f, fd, ps, Fu.okX S (fun vs H Q E h => h.1.trans hn.symm) (fun cdv A outer s H vs Q E hr h => ?_), gF, Fu.kp, bF⟩
  obtain ⟨hl, dra, O, ds, dr, tr, hp, dw, r, w1⟩ := h
  refine ⟨_, (hb dra cdv A outer s H E hr).ps, ⟨H, O⟩, O, ds.map some ++ List.replicate (N.length - ds.length) none, dr, ?_, ?_⟩
  · refine ⟨⟨List.replicate (ds.map some ++ List.replicate (N.length - ds.length) none).length [], by rw [List.length_replicate], ?_, fun a ha => ?_, fun i d hi => ?_⟩, ?_, tr, fun _ h => h, Ext.refl, dw, fun p e => (hp p e).1, fun p e => tr _ (hp p e).1, tr, fun p e => (hp p e).2⟩
    · have : (List.replicate (ds.map some ++ List.replicate (N.length - ds.length) (none : Option D)).length ([] : List Addr)).flatten = [] := by simp
      rw [this]; exact List.nodup_nil
    · exfalso
      simp at ha
    · obtain ⟨v, e, r1⟩ := rps_start r N.length i d hi
      refine ⟨v, [], e, ?_, r1⟩
      rw [List.getElem?_replicate, if_pos (List.getElem?_eq_some_iff.mp hi).1]
    · unfold L2.start
      rw [List.length_append, List.length_append, List.length_map, List.length_map, List.length_replicate, List.length_replicate, r.len]
  · unfold fnD at w1
    cases eB : B (ds.map some ++ List.replicate (N.length - ds.length) none) dr with
    | st => rw [eB] at w1; exact w1
    | nx ρ' dr' =>
      rw [eB] at w1
      have w1 : OkE ⟨K, mg, dra⟩ O H Q .non dr' := w1
      exact fun σ' H' O' S' g => w1 .non H' [] S'.ext S'.drw .non List.nodup_nil fun _ z => nomatch z
    | rt d dr' =>
      rw [eB] at w1
      have w1 : OkE ⟨K, mg, dra⟩ O H Q d dr' := w1
      exact fun v H' fp x dw r nd fr => w1 v H' fp x dw r nd fr
    | bk ρ' dr' => rw [eB] at w1; exact w1.elim
    | ct ρ' dr' => rw [eB] at w1; exact w1.elim
    | ex e ρ' dr' =>
      rw [eB] at w1
      exact fun cls od σ' H' O' S' g ex => w1 cls od H' S'.ext S'.drw ex

theorem has_as {P : Program} {w : World} {K : PySem.W.Frag} {mg : Str → Option Value} {base : Heap} {y x : Str} {st : Stmt} {N ps : List Str} {k : Nat} {B : CSx} (d : DefAs K mg y x st ps) (S : FnScope N ps (defScope st))
    (hb : ∀ (f : Addr) (dra : Option (Addr × Addr)) (cdv : Value) (A : Around) (outer : List Env) (s : Shared) (H : Hp) (E : XK), Room k (A.deeper (envOfC x (defScope st) s.heap.objs.size f cdv)) →
      BSs (cxOf (L2.CX P w) P w K mg base N x (defScope st) f cdv A outer s H E) dra (fun cls d _ H => E cls d H) (defBody st) B) : HasFn P w K mg base (k + 1) y ps.length (fnD N.length B) := by
  obtain ⟨f, fd, F, g, b⟩ := d.ex
  exact has_fnY F g b S rfl (hb f)
/-- a def of which nothing is promised -/
theorem has_st {P : Program} {w : World} {K : PySem.W.Frag} {mg : Str → Option Value} {base : Heap} {x : Str} {st : Stmt} {N ps : List Str} {k : Nat} (d : DefAt K mg x st ps) (S : FnScope N ps (defScope st)) : HasFn P w K mg base (k + 1) x ps.length (fun _ _ => .st) := by
  obtain ⟨f, fd, F, g, b⟩ := d.ex
  refine ⟨f, fd, ps, F.okX S (fun vs H Q E h => h.1) (fun cdv A outer s H vs Q E hr h => ?_), g, F.kp, b⟩
  obtain ⟨hl, dra, O, ds, dr, tr, hp, dw, r, w1⟩ := h
  exact w1.elim

/-! ### str of a number -/
def gStr : List D → Option D
  | [.int i] => if i.natAbs.log2 < 1920 then some (.str (toString i)) else none
  | _ => none
theorem cd_str {X : Cx} {dra : Option (Addr × Addr)} : CallD X dra (fun xs H Q => ∃ i, xs = [.int i] ∧ i.natAbs.log2 < 1920 ∧ Q (.str (toString i)) H) gStr := by
  intro O H xs ds z dr Q r e tr dw k
  match ds, e with
  | [.int i], e =>
    by_cases hz : i.natAbs.log2 < 1920
    · simp only [gStr, if_pos hz] at e
      cases e
      obtain ⟨v, fp, rfl, r1⟩ := bs1 r
      cases r1
      exact ⟨i, rfl, hz, k.atom dw (.str _)⟩
    · simp only [gStr, if_neg hz] at e
      cases e
theorem eStr {X : Cx} {dra : Option (Addr × Addr)} {W : WX} {a : Expr} {F : CEx} {p pos : Pos} (hm : X.mg "str" = none) (ha : BE X dra W a F) (hg : Gl X "str" := by rfl) (hs : starEach [a] X.env = (false, eval a X.env) :: starEach [] X.env := by rfl) : EE X dra W (.Call (.Name "str" p) [a] [] pos) (cB gStr (cCons F cNil)) := ee_ty call_str_int cd_str hm (by decide +kernel) (ba_cons ha ba_nil hs) hg (he := hs)

/-! ### what is nobody's own from then on -/
def cFzE (F : CEx) : CEx := fun ρ dr => (F ρ dr).bind fun d dr => .ok d.fz dr
theorem ee_fz {X : Cx} {dra : Option (Addr × Addr)} {W : WX} {e : Expr} {F : CEx} (h : EE X dra W e F) : EE X dra W e (cFzE F) := ⟨wkE h.pe fun σ H Q ⟨en, O, lf, ρ, dr, S, w⟩ => ⟨en, O, lf, ρ, dr, S, (Wp.bind w).mono (fun d dr' k v H' fp x dw r nd fr => by
  have k : OkE (dc X dra) O H Q d.fz dr' := k
  exact k v H' [] x dw ((r.orl.fz d fun a ha z => S.trk a z (fr a ha)).anti fun a z => z.elim id fun m => nomatch m) List.nodup_nil fun _ m => nomatch m) fun _ _ k => k⟩⟩

/-! ### y[j], y[k] = d, e -/
def cPutIx (i : Nat) (J : CEx) (d : D) : CSx := fun ρ dr => match ρ[i]? with
  | some (some (.lst true xs)) => (J ρ dr).stm ρ (setK i ρ xs d)
  | _ => .st
def cSwapGo (i : Nat) (J1 J2 : CEx) (d1 d2 : D) : CSx := cSeq (cPutIx i J1 d1) (cPutIx i J2 d2)
def cSwap (i : Nat) (J1 J2 : CEx) (A : CAx) : CSx := fun ρ dr => match A ρ dr with
  | .ok [d1, d2] dr' => if d1.frz = true ∧ d2.frz = true then cSwapGo i J1 J2 d1 d2 ρ dr' else .st
  | .ok _ _ => .st
  | .ex e dr' => .ex e ρ dr'
  | .st => .st
section
variable {c : DC} {W : WX} {J J1 J2 : CEx} {en : En} {O : Addr → Prop} {ρ : Rho} {dr : Dr} {σ : L2.St} {H : Hp} {i : Nat} {u : V} {d : D} {De : Ends}
theorem put_ix (S : StOk c en O [] ρ dr σ H) (r : Rp c O H u d []) (w : WpS (cPutIx i J d ρ dr) c en O H De W) : tVar i σ H fun o H2 => tB c W J σ H2 fun k H3 => rSetL o k u H3 fun H4 => De.nx σ H4 := by
  unfold cPutIx at w
  split at w
  · rename_i xs hi
    obtain ⟨v0, fp0, e0, r0, _, _, _, _⟩ := S.chg (d' := .non) (fx := []) (lf := []) hi
    obtain ⟨a, vs0, fq0, rfl, rfl, h0, s0⟩ := own_at r0
    refine ⟨.ref a, e0, en, O, [], ρ, dr, S, ?_⟩
    cases eJ : J ρ dr with
    | st => rw [eJ] at w; exact w
    | ex e2 dr2 =>
      rw [eJ] at w
      exact fun cls od H2 x2 dw2 ex => w cls od σ H2 O (S.step x2 dw2) (x2.grow S.odr) ex
    | ok dj dr2 =>
      rw [eJ] at w
      intro vj H2 fj x2 dw2 rj ndj frj
      have w2 : WpS (setK i ρ xs d dj dr2) c en O H De W := w
      cases dj with
      | int k =>
        cases rj
        cases ej : ixN xs.length k with
        | none => simp only [setK, ej] at w2; exact w2.elim
        | some j =>
          simp only [setK, ej] at w2
          have S2 := S.step x2 dw2
          obtain ⟨v, fp, e1, r1, nd1, o1, o2, k1⟩ := S2.chg (d' := .lst true (xs.set j d)) (fx := []) (lf := []) hi
          rw [e0] at e1
          cases e1
          obtain ⟨a', vs, fq, e2, rfl, h1, s1⟩ := own_at r1
          cases e2
          rw [List.append_nil, List.nil_append] at nd1
          have nq : a ∉ fq := (List.nodup_cons.mp nd1).1
          have oa := (o1 a List.mem_cons_self).1
          have ru : Rp c O H2 u d [] := r.ext x2 S.odr fun p hp m => nomatch m
          obtain ⟨fq', s2, nd2, sb2⟩ := Rps.set ru j s1 (by
            rw [List.nil_append]
            exact (List.nodup_cons.mp nd1).2)
          have na' : a ∉ fq' := fun m => (sb2 a m).elim nq fun z => nomatch z
          refine ⟨a, vs, k, j, rfl, rfl, h1, by rw [s1.len]; exact ej, ?_⟩
          obtain ⟨S3, g3⟩ := k1 a (.lst (vs.set j u)) (a :: fq') List.mem_cons_self (.own upd_same (s2.updO oa na')) (List.nodup_cons.mpr ⟨na', nd2⟩) (fun b hb => by
            rcases List.mem_cons.mp hb with z | z
            · exact .inl (z ▸ List.mem_cons_self)
            · exact (sb2 b z).imp (List.mem_cons_of_mem _) id)
          exact w2 σ _ O S3 ((x2.grow S.odr).trans g3)
      | _ => exact w2.elim
  · exact w.elim
end
section
variable {X : Cx} {dra : Option (Addr × Addr)} {W : WX} {e a b d : Expr} {F G J1 J2 K : CEx} {pos p : Pos} {s : Stmt}
theorem bs_swap {i : Nat} {y : Str} {es : List Expr} {A : CAx} {p1 p2 p3 p4 pt pt2 : Pos} {kt k2} (hc : X.calm = true) (hA : EA X dra W es A) (hj1 : BE X dra W a J1) (hj2 : BE X dra W b J2) (hN : X.N[i]? = some y := by rfl) (hv : Vis X.env.scope y := by first | exact Or.inl rfl | exact Or.inr (Or.inl rfl) | exact Or.inr (Or.inr rfl)) (hd : (y == ("__debug__" : Str)) = false := by decide)
    (hcd : (y == ("__classdict__" : Str)) = false := by decide)
    (ha : ∀ v, assign (.Subscript (.Name y p1) a p2) X.env v = (do
      let ov ← holding [v] (eval (.Name y p1) X.env)
      let iv ← holding [v, ov] (eval a X.env)
      standAt p2
      holding [v, ov, iv] (setItem ov iv v)
      release [v, ov, iv] []) := by intro _; rfl)
    (hb : ∀ v, assign (.Subscript (.Name y p3) b p4) X.env v = (do
      let ov ← holding [v] (eval (.Name y p3) X.env)
      let iv ← holding [v, ov] (eval b X.env)
      standAt p4
      holding [v, ov, iv] (setItem ov iv v)
      release [v, ov, iv] []) := by intro _; rfl)
    (hs1 : (assignEach [.Subscript (.Name y p1) a p2, .Subscript (.Name y p3) b p4] X.env).map (·.2) = assign (.Subscript (.Name y p1) a p2) X.env :: (assignEach [.Subscript (.Name y p3) b p4] X.env).map (·.2) := by rfl)
    (hs2 : (assignEach [.Subscript (.Name y p3) b p4] X.env).map (·.2) = assign (.Subscript (.Name y p3) b p4) X.env :: (assignEach [] X.env).map (·.2) := by rfl)
    (hl : (assignEach [.Subscript (.Name y p1) a p2, .Subscript (.Name y p3) b p4] X.env).length = 2 := by rfl) (hst : (assignEach [.Subscript (.Name y p1) a p2, .Subscript (.Name y p3) b p4] X.env).findIdx? (·.1) = none := by rfl)
    (hs : swapsWithSole [.Tuple [.Subscript (.Name y p1) a p2, .Subscript (.Name y p3) b p4] kt pt] (.Tuple es k2 pt2) pos.line X.env = pure false := by rfl) (hw : swappedStores [.Tuple [.Subscript (.Name y p1) a p2, .Subscript (.Name y p3) b p4] kt pt] (.Tuple es k2 pt2) X.env = pure none := by rfl)
    (h1 : (assignEach [.Tuple [.Subscript (.Name y p1) a p2, .Subscript (.Name y p3) b p4] kt pt] X.env).map (·.2) = [assign (.Tuple [.Subscript (.Name y p1) a p2, .Subscript (.Name y p3) b p4] kt pt) X.env] := by rfl) :
    BS X dra W (.Assign [.Tuple [.Subscript (.Name y p1) a p2, .Subscript (.Name y p3) b p4] kt pt] (.Tuple es k2 pt2) pos) (cSwap i J1 J2 A) :=
  ⟨wkS (ps_asg (pe_tup hA.pa) (pg_tup hc (pgs_cons (pg_sub (pv i hN hv hd hcd) hj1.pe set_list ha) (pgs_cons (pg_sub (pv i hN hv hd hcd) hj2.pe set_list hb) pgs_nil hs2) hs1) hl hst) hs hw h1) fun De σ H ⟨en, O, ρ, dr, S, w⟩ => by
    refine ⟨en, O, [], ρ, dr, S, ?_⟩
    unfold cSwap at w
    cases eA : A ρ dr with
    | st => rw [eA] at w; exact w
    | ex e dr' => rw [eA] at w; exact fun cls od H' x dw ex => w cls od σ H' O (S.step x dw) (x.grow S.odr) ex
    | ok ds dr' =>
      rw [eA] at w
      match ds, w with
      | [], w => exact w.elim
      | [_], w => exact w.elim
      | _ :: _ :: _ :: _, w => exact w.elim
      | [d1, d2], w =>
        intro us H' fp x dw r nd fr
        by_cases hz : d1.frz = true ∧ d2.frz = true
        · have w : WpS (if d1.frz = true ∧ d2.frz = true then cSwapGo i J1 J2 d1 d2 ρ dr' else .st) (dc X dra) en O H De W := w
          rw [if_pos hz] at w
          match us, r with
          | [], r => cases r
          | [_], r => cases r with | cons _ r => cases r
          | _ :: _ :: _ :: _, r => cases r with | cons _ r => cases r with | cons _ r => cases r
          | [u1, u2], r =>
            refine ⟨by show 2 ≤ _; decide, fun p hp => ⟨p, [u1, u2], rfl, .of upd_same, rfl, ?_⟩⟩
            have sm := same_upd (o := HO.tup [u1, u2]) hp
            have S1 := ((S.hold x dw nd fr (r.trk _)).step (.of_same sm) (dw.same sm)).shed
            have r0 := (r.same sm).allfrz (by simp [hz.1, hz.2])
            have r1 : Rp (dc X dra) (orO O fp) _ u1 d1 [] := r0.at0 (i := 0) rfl |>.elim fun v hv => by
              have := hv.1
              simp at this
              rw [this]; exact hv.2
            have r2 : Rp (dc X dra) (orO O fp) _ u2 d2 [] := r0.at0 (i := 1) rfl |>.elim fun v hv => by
              have := hv.1
              simp at this
              rw [this]; exact hv.2
            have g0 := (x.trans (.of_same sm)).growO S.odr fr
            have w := w.later g0
            have w : WpS (cSeq (cPutIx i J1 d1) (cPutIx i J2 d2) ρ dr') (dc X dra) en (orO O fp) _ De W := w
            unfold cSeq at w
            have key : ∀ (R : SR), WpS (match R with | .nx ρ' dr' => cPutIx i J2 d2 ρ' dr' | r => r) (dc X dra) en (orO O fp) (upd H' p (HO.tup [u1, u2])) De W →
                WpS R (dc X dra) en (orO O fp) (upd H' p (HO.tup [u1, u2])) { De with nx := fun σ2 H2 => gCons (L2.gSub (tVar i) (tB (dc X dra) W J2) rSetL) gNil [u2] σ2 H2 De.nx } W := by
              intro R w
              cases R with
              | nx ρ2 dr2 =>
                intro σ2 H2 O2 S2 g2
                exact ⟨u2, [], rfl, (put_ix S2 (r2.grow g2) (WpS.later (show WpS (cPutIx i J2 d2 ρ2 dr2) _ _ _ _ _ _ from w) g2)).imp fun v q => ⟨q.1, by
                  obtain ⟨en3, O3, lf3, ρ3, dr3, S3, w3⟩ := q.2
                  exact ⟨en3, O3, lf3, ρ3, dr3, S3, w3.mono (fun d dr' k v H' fp x dw r nd fr => by
                    obtain ⟨p', xs', k', j', a1, a2, a3, a4, a5⟩ := k v H' fp x dw r nd fr
                    exact ⟨p', xs', k', j', a1, a2, a3, a4, rfl, a5⟩) fun _ _ k => k⟩⟩⟩
              | st => exact w
              | rt _ _ => exact w
              | bk _ _ => exact w
              | ct _ _ => exact w
              | ex _ _ _ => exact w
            exact ⟨u1, [u2], rfl, put_ix S1 r1 (key _ w)⟩
        · have w : WpS (if d1.frz = true ∧ d2.frz = true then cSwapGo i J1 J2 d1 d2 ρ dr' else .st) (dc X dra) en O H De W := w
          rw [if_neg hz] at w
          exact w.elim⟩
end
section
variable {K : PySem.W.Frag} {h : Heap} {mg : Str → Option Value} {Z : Prop}
theorem wDefA (y x : Str) (st : Stmt) (ps : List Str) {f : Addr} {oc : Value} {od an : Option Addr} {osl : Array (Option Value)} {kV doc pm cdv ct : Value} (X : K.In h) (G : h.Ns mainGlobals mg) (a : PySem.W.nsIn K mainGlobals y = some (some (.ref f)))
    (l : K.lookup f = some ⟨oc, od, .func (PySem.W.fnOf x x (defArgs st) (defBody st) (defScope st) .none kV doc pm an cdv ct), osl⟩) (c : PySem.W.codeIn K cdv x = true) (k : PySem.W.keepIn K (.ref f) = true)
    (b : ∀ (kV doc pm : Value) (an : Option Addr) (cdv ct : Value) (us : List Value), us.length = ps.length → bindArgs (PySem.W.fnOf x x (defArgs st) (defBody st) (defScope st) .none kV doc pm an cdv ct) ⟨us, []⟩ = pure (ps.zip us)) (z : DefAs K mg y x st ps → Z) : Z :=
  z ⟨f, _, fun_mk l c k, PySem.W.mg_of X G a, (fun_mk l c k).binds b⟩
end
end DL
/-! MB1 -/
/-! MB1: what the mirrors come to: the combinators, step by step. -/
namespace DL
open PySem PySem.Spec PyProof.Rows L2
/-- turns of a loop while slot i is not nought -/
def fuelAbs (i : Nat) (ρ : Rho) : Nat := match ρ[i]? with
  | some (some (.int b)) => b.natAbs + 1
  | _ => 1
section
variable {α β : Type} {a : α} {dr : Dr} {e : Exn} {f : α → Dr → R β} {ρ : Rho} {d d1 d2 : D} {i j k : Nat} {F G F1 F2 F3 : CEx} {A : CAx} {T T1 T2 : CTx} {S S1 S2 : CSx} {g g' : D → D → Option D} {h : List D → Option D} {fs : D → Dr → SR}
@[simp] theorem bind_ok : (R.ok a dr).bind f = f a dr := by rfl
@[simp] theorem bind_ex : (R.ex (α := α) e dr).bind f = .ex e dr := by rfl
@[simp] theorem bind_st : (R.st (α := α)).bind f = .st := by rfl
@[simp] theorem stm_ok : (R.ok d dr).stm ρ fs = fs d dr := by rfl
@[simp] theorem stm_ex : (R.ex (α := D) e dr).stm ρ fs = .ex e ρ dr := by rfl
@[simp] theorem stm_st : (R.st (α := D)).stm ρ fs = .st := by rfl
@[simp] theorem ropt_some : R.opt (some a) dr = .ok a dr := by rfl
@[simp] theorem ropt_none : R.opt (none : Option α) dr = .st := by rfl
@[simp] theorem sopt_some {f : α → SR} : SR.opt (some a) f = f a := by rfl
@[simp] theorem sopt_none {f : α → SR} : SR.opt none f = .st := by rfl
@[simp] theorem noEx_ok : noEx (R.ok a dr) = .ok a dr := by rfl
@[simp] theorem noEx_st : noEx (R.st (α := α)) = .st := by rfl
@[simp] theorem noEx_ex : noEx (R.ex (α := α) e dr) = .st := by rfl
@[simp] theorem e_var : cVar i ρ dr = match ρ[i]? with
  | some (some d) => .ok d dr
  | _ => .st := by rfl
@[simp] theorem e_k : cK d ρ dr = .ok d dr := by rfl
@[simp] theorem e_frz : cFrz F ρ dr = (F ρ dr).bind fun d dr => if d.frz = true then .ok d dr else .st := by rfl
@[simp] theorem e_bin : cBin g F1 F2 ρ dr = (F1 ρ dr).bind fun x dr => (F2 ρ dr).bind fun y dr => R.opt (g x y) dr := by rfl
@[simp] theorem e_tst : cTst F ρ dr = (F ρ dr).bind fun d dr => match d with
  | .bl k => .ok k dr
  | _ => .st := by rfl
@[simp] theorem e_tru : cTru F ρ dr = (F ρ dr).bind fun d dr => R.opt d.tru dr := by rfl
@[simp] theorem e_and : cAnd T1 T2 ρ dr = (T1 ρ dr).bind fun b dr => if b = true then T2 ρ dr else .ok false dr := by rfl
@[simp] theorem e_or : cOr T1 T2 ρ dr = (T1 ρ dr).bind fun b dr => if b = true then .ok true dr else T2 ρ dr := by rfl
@[simp] theorem e_notT : cNotT T ρ dr = (T ρ dr).bind fun b dr => .ok (!b) dr := by rfl
@[simp] theorem e_not : cNot F ρ dr = (F ρ dr).bind fun d dr => R.opt (d.tru.map fun k => .bl (!k)) dr := by rfl
@[simp] theorem e_if : cIf T F G ρ dr = (T ρ dr).bind fun b dr => if b = true then F ρ dr else G ρ dr := by rfl
@[simp] theorem e_andV : cAndV F G ρ dr = (F ρ dr).bind fun d dr => match d with
  | .bl k => if k = true then G ρ dr else .ok (.bl false) dr
  | _ => .st := by rfl
@[simp] theorem e_orV : cOrV F G ρ dr = (F ρ dr).bind fun d dr => match d with
  | .bl k => if k = true then .ok (.bl true) dr else G ρ dr
  | _ => .st := by rfl
@[simp] theorem e_chain : cChain g g' F1 F2 F3 ρ dr = (F1 ρ dr).bind fun x dr => (F2 ρ dr).bind fun y dr => match g x y with
  | some (.bl k) => if k = true then (F3 ρ dr).bind fun z dr => R.opt (g' y z) dr else .ok (.bl false) dr
  | _ => .st := by rfl
@[simp] theorem e_neg : cNeg F ρ dr = (F ρ dr).bind fun d dr => match d with
  | .int i => .ok (.int (-i)) dr
  | _ => .st := by rfl
@[simp] theorem e_nil : cNil ρ dr = .ok [] dr := by rfl
@[simp] theorem e_cons : cCons F A ρ dr = (F ρ dr).bind fun x dr => (A ρ dr).bind fun xs dr => .ok (x :: xs) dr := by rfl
@[simp] theorem e_tup : cTup A ρ dr = (A ρ dr).bind fun ds dr => if ds.length ≤ sizeLine then .ok (.tup (D.fzs ds)) dr else .st := by rfl
@[simp] theorem e_lst : cLst A ρ dr = (A ρ dr).bind fun ds dr => if ds.length ≤ sizeLine then .ok (.lst true ds) dr else .st := by rfl
@[simp] theorem e_b : cB h A ρ dr = (A ρ dr).bind fun ds dr => R.opt (h ds) dr := by rfl
@[simp] theorem e_isi {t : String} : cIsi t F ρ dr = (F ρ dr).bind fun d dr => R.opt ((d.isi t).map .bl) dr := by rfl
@[simp] theorem e_call {C : CF} : cCall C A ρ dr = (A ρ dr).bind fun ds dr => C (D.fzs ds) dr := by rfl
@[simp] theorem e_rev : cRev F ρ dr = (F ρ dr).bind fun d dr => R.opt (gRev (match d with
  | .lst _ xs => .lst false (D.fzs xs)
  | d => d)) dr := by rfl
@[simp] theorem e_rg1 : cRg1 F ρ dr = (F ρ dr).bind fun d dr => match d with
  | .int n => .ok ((0 : Int), n) dr
  | _ => .st := by rfl
@[simp] theorem e_lrg {Z : Rho → Dr → R (Int × Int)} : cLstRg Z ρ dr = (Z ρ dr).bind fun ab dr => if okRg ab.1 ab.2 = true then .ok (.lst true (rgD ab.1 ab.2)) dr else .st := by rfl
@[simp] theorem s_seq : cSeq S1 S2 ρ dr = match S1 ρ dr with
  | .nx ρ' dr' => S2 ρ' dr'
  | r => r := by rfl
@[simp] theorem s_skip : cSkip ρ dr = .nx ρ dr := by rfl
@[simp] theorem s_fz : cFz i ρ dr = match ρ[i]? with
  | some (some d) => .nx (ρ.set i (some d.fz)) dr
  | _ => .st := by rfl
@[simp] theorem s_set : cSet i F ρ dr = (F ρ dr).stm ρ fun d dr => .nx (ρ.set i (some d.fz)) dr := by rfl
@[simp] theorem s_setO : cSetO i F ρ dr = (F ρ dr).stm ρ fun d dr => .nx (ρ.set i (some d)) dr := by rfl
@[simp] theorem s_ret : cRet F ρ dr = (F ρ dr).stm ρ fun d dr => .rt d dr := by rfl
@[simp] theorem s_retN : cRetN ρ dr = .rt .non dr := by rfl
@[simp] theorem s_raise {x : Str} : cRaise x ρ dr = .ex ⟨x, none⟩ ρ dr := by rfl
@[simp] theorem s_drop : cDrop F ρ dr = (F ρ dr).stm ρ fun _ dr => .nx ρ dr := by rfl
@[simp] theorem s_if : cIfS T S1 S2 ρ dr = match T ρ dr with
  | .st => .st
  | .ok b dr' => if b = true then S1 ρ dr' else S2 ρ dr'
  | .ex e dr' => .ex e ρ dr' := by rfl
@[simp] theorem s_par2 : cPar2 i j A ρ dr = match A ρ dr with
  | .ok [d1, d2] dr => .nx ((ρ.set i (some d1)).set j (some d2)) dr
  | .ex e dr => .ex e ρ dr
  | _ => .st := by rfl
@[simp] theorem s_par3 : cPar3 i j k A ρ dr = match A ρ dr with
  | .ok [d1, d2, d3] dr => .nx (((ρ.set i (some d1)).set j (some d2)).set k (some d3)) dr
  | .ex e dr => .ex e ρ dr
  | _ => .st := by rfl
@[simp] theorem s_app : cApp i F ρ dr = match ρ[i]? with
  | some (some (.lst true xs)) => (F ρ dr).stm ρ fun d dr => if xs.length < sizeLine then .nx (ρ.set i (some (.lst true (xs ++ [d])))) dr else .st
  | _ => .st := by rfl
@[simp] theorem s_asg {C : CGx} : cAsg C F ρ dr = (F ρ dr).stm ρ fun d dr => match C ρ d.fz with
  | some ρ' => .nx ρ' dr
  | none => .st := by rfl
@[simp] theorem g_nm : gNm i ρ d = some (ρ.set i (some d)) := by rfl
@[simp] theorem fz_int {i : Int} : (D.int i).fz = .int i := by rfl
@[simp] theorem fz_bl {b : Bool} : (D.bl b).fz = .bl b := by rfl
@[simp] theorem fz_str {x : Str} : (D.str x).fz = .str x := by rfl
@[simp] theorem fz_non : D.non.fz = .non := by rfl
@[simp] theorem fz_dr : D.dr.fz = .dr := by rfl
@[simp] theorem fz_tup {xs : List D} : (D.tup xs).fz = .tup xs := by rfl
@[simp] theorem fz_lst {o : Bool} {xs : List D} : (D.lst o xs).fz = .lst false (D.fzs xs) := by rfl
@[simp] theorem fzs_nil : D.fzs [] = [] := by rfl
@[simp] theorem fzs_cons {x : D} {xs : List D} : D.fzs (x :: xs) = x.fz :: D.fzs xs := by rfl
@[simp] theorem frz_int {i : Int} : (D.int i).frz = true := by rfl
@[simp] theorem frz_bl {b : Bool} : (D.bl b).frz = true := by rfl
@[simp] theorem frz_str {x : Str} : (D.str x).frz = true := by rfl
@[simp] theorem frz_non : D.non.frz = true := by rfl
@[simp] theorem frz_dr : D.dr.frz = true := by rfl
@[simp] theorem frz_tup {xs : List D} : (D.tup xs).frz = true := by rfl
@[simp] theorem frz_lst {o : Bool} {xs : List D} : (D.lst o xs).frz = !o := by rfl
@[simp] theorem tru_bl {b : Bool} : (D.bl b).tru = some b := by rfl
@[simp] theorem tru_int {i : Int} : (D.int i).tru = some (i != 0) := by rfl
@[simp] theorem tru_tup {xs : List D} : (D.tup xs).tru = some (!xs.isEmpty) := by rfl
/-! operators on numbers -/
variable {a b : Int}
@[simp] theorem gadd_int : gAdd (.int a) (.int b) = some (.int (a + b)) := by rfl
@[simp] theorem gaddI_int : gAddI (.int a) (.int b) = some (.int (a + b)) := by rfl
@[simp] theorem gsub_int : gSub (.int a) (.int b) = some (.int (a - b)) := by rfl
theorem gmul_int (h : a.natAbs.log2 + b.natAbs.log2 < 1000000) : gMul (.int a) (.int b) = some (.int (a * b)) := if_pos (decide_eq_true h)
theorem gmulI_int (h : a.natAbs.log2 + b.natAbs.log2 < 1000000) : gMulI (.int a) (.int b) = some (.int (a * b)) := if_pos (decide_eq_true h)
theorem gfd_int (h : b ≠ 0) (h2 : b.natAbs.log2 < 9000) : gFd (.int a) (.int b) = some (.int (a.fdiv b)) := if_pos (by unfold cDiv; rw [decide_eq_true h, decide_eq_true h2]; rfl)
theorem gmod_int (h : b ≠ 0) : gMod (.int a) (.int b) = some (.int (a.fmod b)) := if_pos (decide_eq_true h)
@[simp] theorem glt_int : gLt (.int a) (.int b) = some (.bl (decide (a < b))) := by rfl
@[simp] theorem gle_int : gLe (.int a) (.int b) = some (.bl (decide (a ≤ b))) := by rfl
@[simp] theorem ggt_int : gGt (.int a) (.int b) = some (.bl (decide (b < a))) := by rfl
@[simp] theorem gge_int : gGe (.int a) (.int b) = some (.bl (decide (b ≤ a))) := by rfl
@[simp] theorem geq_int : gEq (.int a) (.int b) = some (.bl (a == b)) := by rfl
@[simp] theorem gne_int : gNe (.int a) (.int b) = some (.bl (!(a == b))) := by rfl
@[simp] theorem ne_str {x y : Str} : (D.str x).eqv (.str y) = (x == y) := by rfl
@[simp] theorem gabs_int : gAbs [.int a] = some (.int (if a < 0 then -a else a)) := by rfl
@[simp] theorem gint_int : gInt [.int a] = some (.int a) := by rfl
@[simp] theorem gint_bl {b : Bool} : gInt [.bl b] = some (.int (if b then 1 else 0)) := by rfl
end
/-! ### fnD -/
theorem fnD_rt {n : Nat} {S : CSx} {ds : List D} {dr dr' : Dr} {d : D} (h : S (ds.map some ++ List.replicate (n - ds.length) none) dr = .rt d dr') : fnD n S ds dr = .ok d dr' := by
  unfold fnD; rw [h]
theorem fnD_nx {n : Nat} {S : CSx} {ds : List D} {dr dr' : Dr} {ρ : Rho} (h : S (ds.map some ++ List.replicate (n - ds.length) none) dr = .nx ρ dr') : fnD n S ds dr = .ok .non dr' := by
  unfold fnD; rw [h]
theorem fnD_ex {n : Nat} {S : CSx} {ds : List D} {dr dr' : Dr} {ρ : Rho} {e : Exn} (h : S (ds.map some ++ List.replicate (n - ds.length) none) dr = .ex e ρ dr') : fnD n S ds dr = .ex e dr' := by
  unfold fnD; rw [h]
@[simp] theorem line_val : sizeLine = 16777216 := sizeLine_eq
/-! ### numbers -/
/-- the greatest common divisor, by turns: st lays the two numbers -/
theorem gcd_loop {T : CTx} {B : CSx} {st : Int → Int → Rho} (hT : ∀ (a b : Nat) dr, T (st a b) dr = .ok (decide (b ≠ 0)) dr) (hB : ∀ (a b : Nat) dr, b ≠ 0 → B (st a b) dr = .nx (st b ((a % b : Nat) : Int)) dr) :
    ∀ (n a b : Nat) (dr : Dr), b < n → whG T B n (st a b) dr = .nx (st (Nat.gcd a b) 0) dr
  | 0, _, _, _, h => absurd h (Nat.not_lt_zero _)
  | n + 1, a, b, dr, h => by
    unfold whG
    rw [hT]
    by_cases hb : b = 0
    · subst hb
      simp
    · have : decide (b ≠ 0) = true := decide_eq_true hb
      rw [this]
      simp only [hB a b dr hb]
      rw [gcd_loop hT hB n b (a % b) dr (by have := Nat.mod_lt a (Nat.pos_of_ne_zero hb); omega), Nat.gcd_comm b, ← Nat.gcd_rec b a, Nat.gcd_comm]
theorem gmod_nat {a b : Nat} (h : b ≠ 0) : gMod (.int a) (.int b) = some (.int ((a % b : Nat) : Int)) := by
  rw [gmod_int (by omega), Int.fmod_eq_emod_of_nonneg _ (by omega)]
  simp
theorem abs_nat (a : Int) : (if a < 0 then -a else a) = ((a.natAbs : Nat) : Int) := by split <;> omega
@[simp] theorem beq_nat0 (b : Nat) : ((b : Int) == 0) = decide (b = 0) := by
  rw [Bool.eq_iff_iff]; simp
def qD (q : Rat) : D := .tup [.int q.num, .int (q.den : Int)]
/-- n // (sign · gcd), d // (sign · gcd) are the fraction's own -/
theorem fdiv_gcd (n d : Int) (hd : d ≠ 0) : n.fdiv (d.sign * (Int.gcd n d : Int)) = (Rat.divInt n d).num ∧ d.fdiv (d.sign * (Int.gcd n d : Int)) = ((Rat.divInt n d).den : Int) := by
  have hg : Int.gcd n d ≠ 0 := fun z => hd (Int.gcd_eq_zero_iff.mp z).2
  have h1 : ((Int.gcd n d : Nat) : Int) ∣ n := Int.gcd_dvd_left ..
  have h2 : ((Int.gcd n d : Nat) : Int) ∣ d := Int.gcd_dvd_right ..
  rw [Rat.num_divInt, Rat.den_divInt, if_neg hd, Int.gcd_comm d n]
  generalize Int.gcd n d = g at *
  obtain ⟨k, rfl⟩ := h1
  obtain ⟨l, rfl⟩ := h2
  have g0 : (g : Int) ≠ 0 := by omega
  have l0 : l ≠ 0 := fun z => hd (by rw [z, Int.mul_zero])
  have sg : ((g : Int) * l).sign = l.sign := by rw [Int.sign_mul, Int.sign_eq_one_of_pos (by omega), Int.one_mul]
  rw [sg]
  rcases Int.lt_or_gt_of_ne l0 with z | z
  · rw [Int.sign_eq_neg_one_of_neg z]
    constructor
    · rw [show (-1 : Int) * g = -(g : Int) from by omega, show (g : Int) * k = -(g : Int) * (-k) from by grind, Int.mul_fdiv_cancel_left _ (by omega), show (-1 : Int) * (-(g : Int) * -k) = (g : Int) * (-k) from by grind, Int.mul_ediv_cancel_left _ g0]
    · rw [show (-1 : Int) * g = -(g : Int) from by omega, show (g : Int) * l = -(g : Int) * (-l) from by grind, Int.mul_fdiv_cancel_left _ (by omega), Int.natAbs_mul, Int.natAbs_neg, Int.natAbs_neg, Int.natAbs_natCast, Nat.mul_div_cancel_left _ (by omega)]
      omega
  · rw [Int.sign_eq_one_of_pos z]
    constructor
    · rw [Int.one_mul, Int.mul_fdiv_cancel_left _ g0, Int.one_mul, Int.mul_ediv_cancel_left _ g0]
    · rw [Int.one_mul, Int.mul_fdiv_cancel_left _ g0, Int.natAbs_mul, Int.natAbs_natCast, Nat.mul_div_cancel_left _ (by omega)]
      omega
@[simp] theorem ix_0 {x : D} {xs : List D} : gIx (.tup (x :: xs)) (.int 0) = some x := show atI (x :: xs) ((0 : Nat) : Int) = some x from atI_nat rfl
@[simp] theorem ix_1 {x y : D} {xs : List D} : gIx (.tup (x :: y :: xs)) (.int 1) = some y := show atI (x :: y :: xs) ((1 : Nat) : Int) = some y from atI_nat rfl
/-- at most N bits -/
structure Sm (N : Nat) (q : Rat) : Prop where
  n : q.num.natAbs < 2 ^ N
  d : q.den < 2 ^ N
theorem Sm.mono {N M : Nat} {q : Rat} (h : Sm N q) (k : N ≤ M) : Sm M q := ⟨Nat.lt_of_lt_of_le h.n (Nat.pow_le_pow_right (by decide) k), Nat.lt_of_lt_of_le h.d (Nat.pow_le_pow_right (by decide) k)⟩
theorem Sm.pos {N : Nat} {q : Rat} (h : Sm N q) : 0 < N := by
  rcases Nat.eq_zero_or_pos N with z | z
  · subst z
    have := h.d
    have := q.den_pos
    omega
  · exact z
theorem lg {x N : Nat} (h : x < 2 ^ N) (h0 : 0 < N) : x.log2 < N := PySem.Flt.log2_lt_of h0 h
theorem mulBits {a b : Int} {N M : Nat} (ha : a.natAbs < 2 ^ N) (hb : b.natAbs < 2 ^ M) : (a * b).natAbs < 2 ^ (N + M) := by
  rw [Int.natAbs_mul, Nat.pow_add]
  exact Nat.mul_lt_mul'' ha hb
theorem addBits {a b : Int} {N : Nat} (ha : a.natAbs < 2 ^ N) (hb : b.natAbs < 2 ^ N) : (a + b).natAbs < 2 ^ (N + 1) := by
  have := Int.natAbs_add_le a b
  rw [Nat.pow_succ]
  omega
theorem divInt_sm {n d : Int} {N : Nat} (hn : n.natAbs < 2 ^ N) (hd : d.natAbs < 2 ^ N) (h0 : d ≠ 0) : Sm N (Rat.divInt n d) := by
  refine ⟨?_, ?_⟩
  · rw [Rat.num_divInt]
    refine Nat.lt_of_le_of_lt ?_ hn
    refine Nat.le_trans (Int.natAbs_ediv_le_natAbs _ _) ?_
    rw [Int.natAbs_mul, Int.natAbs_sign, if_neg h0, Nat.one_mul]
    exact Nat.le_refl _
  · rw [Rat.den_divInt, if_neg h0]
    exact Nat.lt_of_le_of_lt (Nat.div_le_self _ _) hd
theorem add_divInt (a b : Rat) : a + b = Rat.divInt (a.num * b.den + b.num * a.den) (a.den * b.den : Int) := by
  rw [Rat.add_def', ← Rat.divInt_ofNat]
  simp
theorem mul_divInt (a b : Rat) : a * b = Rat.divInt (a.num * b.num) (a.den * b.den : Int) := by
  rw [Rat.mul_def', ← Rat.divInt_ofNat]
  simp
theorem Sm.den {N : Nat} {q : Rat} (h : Sm N q) : ((q.den : Int)).natAbs < 2 ^ N := by simpa using h.d
theorem den_ne (q : Rat) : (q.den : Int) ≠ 0 := by have := q.den_pos; omega
theorem denmul_ne (a b : Rat) : ((a.den : Int) * b.den) ≠ 0 := Int.mul_ne_zero (den_ne a) (den_ne b)
theorem Sm.add {N M : Nat} {a b : Rat} (h : Sm N a) (k : Sm M b) : Sm (N + M + 1) (a + b) := by
  rw [add_divInt]
  refine divInt_sm (addBits (mulBits h.n k.den) (by rw [Nat.add_comm N M]; exact mulBits k.n h.den)) ?_ (denmul_ne a b)
  exact Nat.lt_trans (mulBits h.den k.den) (Nat.pow_lt_pow_right (by decide) (Nat.lt_succ_self _))
theorem Sm.mul {N M : Nat} {a b : Rat} (h : Sm N a) (k : Sm M b) : Sm (N + M) (a * b) := by
  rw [mul_divInt]
  exact divInt_sm (mulBits h.n k.n) (mulBits h.den k.den) (denmul_ne a b)
theorem Sm.neg {N : Nat} {a : Rat} (h : Sm N a) : Sm N (-a) := ⟨by rw [Rat.neg_num, Int.natAbs_neg]; exact h.n, by rw [Rat.neg_den]; exact h.d⟩
theorem sm0 : Sm 1 0 := ⟨by decide, by decide⟩
theorem sm1 : Sm 1 1 := ⟨by decide, by decide⟩
theorem qD_0 : qD 0 = .tup [.int 0, .int 1] := rfl
theorem qD_1 : qD 1 = .tup [.int 1, .int 1] := rfl
theorem gcd_bits {n d : Int} {N : Nat} (hd : d.natAbs < 2 ^ N) (h0 : d ≠ 0) : Int.gcd n d < 2 ^ N := by
  have : Int.gcd n d ∣ d.natAbs := by
    have := Int.gcd_dvd_right (a := n) (b := d)
    exact Int.ofNat_dvd_left.mp this
  exact Nat.lt_of_le_of_lt (Nat.le_of_dvd (by omega) this) hd
/-- the two divisions of a fraction's lowering -/
theorem low_div {n d : Int} {N : Nat} (h0 : d ≠ 0) (hd : d.natAbs < 2 ^ N) (hN : N ≤ 9000) : gFd (.int n) (.int (d.sign * (Int.gcd n d : Int))) = some (.int (Rat.divInt n d).num) ∧ gFd (.int d) (.int (d.sign * (Int.gcd n d : Int))) = some (.int ((Rat.divInt n d).den : Int)) := by
  have g0 : Int.gcd n d ≠ 0 := fun z => h0 (Int.gcd_eq_zero_iff.mp z).2
  have e : (d.sign * (Int.gcd n d : Int)).natAbs = Int.gcd n d := by rw [Int.natAbs_mul, Int.natAbs_sign, if_neg h0, Nat.one_mul, Int.natAbs_natCast]
  have ne : d.sign * (Int.gcd n d : Int) ≠ 0 := fun z => g0 (by rw [← e, z]; rfl)
  have hl : (d.sign * (Int.gcd n d : Int)).natAbs.log2 < 9000 := by
    rw [e]
    have h1 := gcd_bits (n := n) hd h0
    rcases Nat.eq_zero_or_pos N with z | z
    · subst z
      omega
    · exact Nat.lt_of_lt_of_le (lg h1 z) hN
  rw [gfd_int ne hl, gfd_int ne hl, (fdiv_gcd n d h0).1, (fdiv_gcd n d h0).2]
  exact ⟨rfl, rfl⟩
end DL
/-! MB2 -/
/-! MB2: loops and clauses over data that are laid out of other data. -/
namespace DL
open PySem PySem.Spec PyProof.Rows L2

section
variable {ι σ : Type} {G : CGx} {T : CTx} {F : CEx} {B : CSx} {ρ : Rho} {I : CI}
/-- a clause: e lays an item, p is its test, f what is told of it -/
theorem lcA_map {e f : ι → D} {p : ι → Bool} {dr : Dr} : ∀ {ys : List ι} {acc : List D}, (∀ y ∈ ys, ∃ ρ1, G ρ (e y) = some ρ1 ∧ T ρ1 dr = .ok (p y) dr ∧ (p y = true → F ρ1 dr = .ok (f y) dr)) → acc.length + ys.length ≤ sizeLine → lcA G T F ρ (ys.map e) acc dr = .ok (acc ++ (ys.filter p).map f) dr
  | [], acc, _, _ => by simp [lcA]
  | y :: ys, acc, h, hl => by
    obtain ⟨ρ1, h1, h2, h3⟩ := h y List.mem_cons_self
    have hr : ∀ z ∈ ys, _ := fun z hz => h z (List.mem_cons_of_mem _ hz)
    rw [List.length_cons] at hl
    rw [List.map_cons, lcA, h1]
    simp only [h2, noEx_ok, bind_ok]
    by_cases hp : p y = true
    · rw [if_pos hp, h3 hp]
      simp only [noEx_ok, bind_ok]
      rw [if_pos (show acc.length < sizeLine by omega), lcA_map (p := p) hr (by rw [List.length_append, List.length_singleton]; omega), List.filter_cons_of_pos hp, List.map_cons, List.append_assoc]
      rfl
    · rw [if_neg hp, lcA_map (p := p) hr (by omega), List.filter_cons_of_neg hp]
/-- without a test -/
theorem lcA_all {e f : ι → D} {dr : Dr} {ys : List ι} (h : ∀ y ∈ ys, ∃ ρ1, G ρ (e y) = some ρ1 ∧ F ρ1 dr = .ok (f y) dr) (hl : ys.length ≤ sizeLine) : lcA G cYes F ρ (ys.map e) [] dr = .ok (ys.map f) dr := by
  have := lcA_map (G := G) (T := cYes) (F := F) (ρ := ρ) (e := e) (f := f) (p := fun _ => true) (dr := dr) (ys := ys) (acc := []) (fun y hy => by
    obtain ⟨ρ1, h1, h2⟩ := h y hy
    exact ⟨ρ1, h1, rfl, fun _ => h2⟩) (by rw [List.length_nil]; omega)
  rw [this, List.nil_append, List.filter_eq_self.mpr fun _ _ => rfl]
/-- a loop: st lays the state, R what is true of it and of the items left -/
theorem forG_rel {st : σ → Rho} {dr : σ → Dr} {R : σ → List D → Prop} (h : ∀ s x xs, R s (x :: xs) → ∃ ρ1 s', G (st s) x = some ρ1 ∧ (B ρ1 (dr s) = .nx (st s') (dr s') ∨ B ρ1 (dr s) = .ct (st s') (dr s')) ∧ R s' xs) :
    ∀ {xs : List D} {s : σ}, R s xs → ∃ s', forG G B xs (st s) (dr s) = .nx (st s') (dr s') ∧ R s' []
  | [], s, r => ⟨s, rfl, r⟩
  | x :: xs, s, r => by
    obtain ⟨ρ1, s', h1, h2, h3⟩ := h s x xs r
    obtain ⟨s2, h4, h5⟩ := forG_rel h h3
    refine ⟨s2, ?_, h5⟩
    rw [forG, h1]
    rcases h2 with h2 | h2
    · simp only [h2]; exact h4
    · simp only [h2]; exact h4
/-- a loop that folds -/
theorem forG_fold {st : σ → Rho} {e : ι → D} {step : σ → ι → σ} {dr : Dr} {P : List ι → σ → Prop} (h : ∀ s y ys, P (y :: ys) s → P ys (step s y) ∧ ∃ ρ1, G (st s) (e y) = some ρ1 ∧ B ρ1 dr = .nx (st (step s y)) dr) : ∀ {ys : List ι} {s : σ}, P ys s → forG G B (ys.map e) (st s) dr = .nx (st (ys.foldl step s)) dr ∧ P [] (ys.foldl step s)
  | [], s, r => ⟨rfl, r⟩
  | y :: ys, s, r => by
    obtain ⟨h1, ρ1, h2, h3⟩ := h s y ys r
    obtain ⟨h4, h5⟩ := forG_fold h h1
    refine ⟨?_, h5⟩
    rw [List.map_cons, forG, h2]
    simp only [h3]
    exact h4
end
theorem e_lc {vs : List Nat} {I : CI} {G : CGx} {T : CTx} {F : CEx} {ρ : Rho} {dr : Dr} : cLc vs I G T F ρ dr = (I ρ dr).bind fun xs dr => (lcA G T F (wipeD ρ vs) xs [] dr).bind rLst := by rfl
@[simp] theorem rLst_eq {acc : List D} {dr : Dr} : rLst acc dr = .ok (.lst true acc) dr := by rfl
theorem s_for {I : CI} {G : CGx} {B : CSx} {ρ : Rho} {dr : Dr} : cFor I G B ρ dr = match I ρ dr with
  | .st => .st
  | .ok xs dr => forG G B xs ρ dr
  | .ex e dr => .ex e ρ dr := by rfl
@[simp] theorem i_any {F : CEx} {ρ : Rho} {dr : Dr} : iAny F ρ dr = (F ρ dr).bind fun d dr => match d with
  | .lst _ xs => .ok (D.fzs xs) dr
  | .tup xs => .ok xs dr
  | .str t => .ok (t.cps.toList.map fun c => .str ⟨#[c]⟩) dr
  | _ => .st := by rfl
theorem i_rg1 {F : CEx} {ρ : Rho} {dr : Dr} : iRg1 F ρ dr = (F ρ dr).bind fun d dr => match d with
  | .int n => if -(2 ^ 62) ≤ n ∧ n < 2 ^ 62 then .ok (rgD 0 n) dr else .st
  | _ => .st := by rfl
theorem i_rg2 {F G : CEx} {ρ : Rho} {dr : Dr} : iRg2 F G ρ dr = (F ρ dr).bind fun d dr => (G ρ dr).bind fun e dr => match d, e with
  | .int n, .int m => if -(2 ^ 62) ≤ n ∧ n < 2 ^ 62 ∧ -(2 ^ 62) ≤ m ∧ m < 2 ^ 62 then .ok (rgD n m) dr else .st
  | _, _ => .st := by rfl
theorem rgD_nat (n : Nat) : rgD 0 n = (List.range n).map fun (k : Nat) => D.int (k : Int) := by
  unfold rgD
  rw [Int.sub_zero, Int.toNat_natCast]
  exact List.map_congr_left fun k _ => by rw [Int.zero_add]
theorem rgD_from (a n : Nat) : rgD a n = (List.range (n - a)).map fun (k : Nat) => D.int ((a + k : Nat) : Int) := by
  unfold rgD
  rw [show ((n : Int) - (a : Int)).toNat = n - a by omega]
  exact List.map_congr_left fun k _ => by simp
theorem i_rg1N {F : CEx} {ρ : Rho} {dr dr' : Dr} {n : Nat} (h : F ρ dr = .ok (.int (n : Int)) dr') (hn : n ≤ 100000) : iRg1 F ρ dr = .ok ((List.range n).map fun (k : Nat) => D.int (k : Int)) dr' := by
  have c : -(2 ^ 62) ≤ (n : Int) ∧ (n : Int) < 2 ^ 62 := ⟨by omega, by omega⟩
  rw [i_rg1, h, ← rgD_nat, bind_ok]
  show (if -(2 ^ 62) ≤ (n : Int) ∧ (n : Int) < 2 ^ 62 then DL.R.ok (rgD 0 n) dr' else .st) = _
  rw [if_pos c]
theorem i_rg2N {F G : CEx} {ρ : Rho} {dr dr1 dr2 : Dr} {a n : Nat} (h : F ρ dr = .ok (.int (a : Int)) dr1) (h2 : G ρ dr1 = .ok (.int (n : Int)) dr2) (hn : n ≤ 100000) (ha : a ≤ 100000) : iRg2 F G ρ dr = .ok ((List.range (n - a)).map fun (k : Nat) => D.int ((a + k : Nat) : Int)) dr2 := by
  have c : -(2 ^ 62) ≤ (a : Int) ∧ (a : Int) < 2 ^ 62 ∧ -(2 ^ 62) ≤ (n : Int) ∧ (n : Int) < 2 ^ 62 := ⟨by omega, by omega, by omega, by omega⟩
  rw [i_rg2, h, bind_ok, h2, ← rgD_from, bind_ok]
  show (if -(2 ^ 62) ≤ (a : Int) ∧ (a : Int) < 2 ^ 62 ∧ -(2 ^ 62) ≤ (n : Int) ∧ (n : Int) < 2 ^ 62 then DL.R.ok (rgD a n) dr2 else .st) = _
  rw [if_pos c]
@[simp] theorem wipeD_nil (ρ : Rho) : wipeD ρ [] = ρ := by rfl
@[simp] theorem wipeD_cons (ρ : Rho) (v : Nat) (vs : List Nat) : wipeD ρ (v :: vs) = (wipeD ρ vs).set v none := by rfl
theorem fzs_qD {ι : Type} (l : List ι) (q : ι → Rat) : D.fzs (l.map fun i => qD (q i)) = l.map fun i => qD (q i) := by
  induction l with
  | nil => rfl
  | cons x l ih => rw [List.map_cons, fzs_cons, ih]; rfl
theorem fzs_tup {ι : Type} (l : List ι) (q : ι → List D) : D.fzs (l.map fun i => D.tup (q i)) = l.map fun i => D.tup (q i) := by
  induction l with
  | nil => rfl
  | cons x l ih => rw [List.map_cons, fzs_cons, ih]; rfl
theorem fzs_intm {ι : Type} (l : List ι) (q : ι → Int) : D.fzs (l.map fun i => D.int (q i)) = l.map fun i => D.int (q i) := by
  induction l with
  | nil => rfl
  | cons x l ih => rw [List.map_cons, fzs_cons, ih]; rfl
@[simp] theorem frz_qD (q : Rat) : (qD q).frz = true := by rfl
@[simp] theorem fz_qD (q : Rat) : (qD q).fz = qD q := by rfl
/-- a row, a table over a list of places -/
def rowL {ι : Type} (I : List ι) (r : ι → Rat) : D := .tup (I.map fun i => qD (r i))
def tabL {ι κ : Type} (I : List ι) (J : List κ) (A : ι → κ → Rat) : D := .tup (I.map fun i => rowL J (A i))
@[simp] theorem frz_row {ι : Type} (I : List ι) (r : ι → Rat) : (rowL I r).frz = true := by rfl
@[simp] theorem fz_row {ι : Type} (I : List ι) (r : ι → Rat) : (rowL I r).fz = rowL I r := by rfl
@[simp] theorem frz_tab {ι κ : Type} (I : List ι) (J : List κ) (A : ι → κ → Rat) : (tabL I J A).frz = true := by rfl
@[simp] theorem fz_tab {ι κ : Type} (I : List ι) (J : List κ) (A : ι → κ → Rat) : (tabL I J A).fz = tabL I J A := by rfl
theorem all_frz {ι : Type} (l : List ι) (q : ι → D) (h : ∀ i, (q i).frz = true) : (l.map q).all D.frz = true := by
  rw [List.all_eq_true]
  intro d hd
  obtain ⟨i, _, rfl⟩ := List.mem_map.mp hd
  exact h i
theorem fzs_frz {ι : Type} (l : List ι) (q : ι → D) (h : ∀ i, (q i).fz = q i) : D.fzs (l.map q) = l.map q := by
  induction l with
  | nil => rfl
  | cons x l ih => rw [List.map_cons, fzs_cons, ih, h]
theorem gTuple_lst {ι : Type} {o : Bool} (l : List ι) (q : ι → D) (h : ∀ i, (q i).frz = true) : gTuple [.lst o (l.map q)] = some (.tup (l.map q)) := by
  show (if (l.map q).all D.frz = true then some (D.tup (l.map q)) else none) = _
  rw [if_pos (all_frz l q h)]
theorem zip_maps {ι κ : Type} (f g : ι → D) (l : List ι) : (l.map f).zipWith (fun x y => D.tup [x, y]) (l.map g) = l.map fun i => .tup [f i, g i] := by
  induction l with
  | nil => rfl
  | cons x l ih => simp [ih]
/-- sums over places -/
def sumL {ι : Type} (I : List ι) (f : ι → Rat) : Rat := (I.map f).sum
theorem sumL_nil {ι : Type} (f : ι → Rat) : sumL [] f = 0 := rfl
theorem sumL_cons {ι : Type} (i : ι) (I : List ι) (f : ι → Rat) : sumL (i :: I) f = f i + sumL I f := by
  unfold sumL; rw [List.map_cons, List.sum_cons]
theorem seq_nx {S1 S2 : CSx} {ρ ρ' : Rho} {dr dr' : Dr} (h : S1 ρ dr = .nx ρ' dr') : cSeq S1 S2 ρ dr = S2 ρ' dr' := by rw [s_seq, h]
theorem if_t {T : CTx} {S1 S2 : CSx} {ρ : Rho} {dr dr' : Dr} (h : T ρ dr = .ok true dr') : cIfS T S1 S2 ρ dr = S1 ρ dr' := by
  unfold cIfS; rw [h]; rfl
theorem if_f {T : CTx} {S1 S2 : CSx} {ρ : Rho} {dr dr' : Dr} (h : T ρ dr = .ok false dr') : cIfS T S1 S2 ρ dr = S2 ρ dr' := by
  unfold cIfS; rw [h]; rfl
theorem set_nx {i : Nat} {F : CEx} {ρ : Rho} {dr dr' : Dr} {d : D} (h : F ρ dr = .ok d dr') : cSet i F ρ dr = .nx (ρ.set i (some d.fz)) dr' := by rw [s_set, h]; rfl
/-! step by step -/
theorem bin_ok {g : D → D → Option D} {F1 F2 : CEx} {ρ : Rho} {dr dr1 dr2 : Dr} {x y z : D} (h1 : F1 ρ dr = .ok x dr1) (h2 : F2 ρ dr1 = .ok y dr2) (h3 : g x y = some z) : cBin g F1 F2 ρ dr = .ok z dr2 := by
  rw [e_bin, h1, bind_ok, h2, bind_ok, h3, ropt_some]
theorem var_ok {i : Nat} {ρ : Rho} {dr : Dr} {d : D} (h : ρ[i]? = some (some d)) : cVar i ρ dr = .ok d dr := by
  rw [e_var, h]
theorem frz_ok {F : CEx} {ρ : Rho} {dr dr1 : Dr} {d : D} (h : F ρ dr = .ok d dr1) (k : d.frz = true) : cFrz F ρ dr = .ok d dr1 := by
  rw [e_frz, h, bind_ok, if_pos k]
theorem cons_ok {F : CEx} {A : CAx} {ρ : Rho} {dr dr1 dr2 : Dr} {d : D} {ds : List D} (h : F ρ dr = .ok d dr1) (k : A ρ dr1 = .ok ds dr2) : cCons F A ρ dr = .ok (d :: ds) dr2 := by
  rw [e_cons, h, bind_ok, k, bind_ok]
theorem call_ok {C : CF} {A : CAx} {ρ : Rho} {dr dr1 : Dr} {ds : List D} {r : R D} (h : A ρ dr = .ok ds dr1) (k : C (D.fzs ds) dr1 = r) : cCall C A ρ dr = r := by
  rw [e_call, h, bind_ok, k]
theorem b_ok {g : List D → Option D} {A : CAx} {ρ : Rho} {dr dr1 : Dr} {ds : List D} {z : D} (h : A ρ dr = .ok ds dr1) (k : g ds = some z) : cB g A ρ dr = .ok z dr1 := by
  rw [e_b, h, bind_ok, k, ropt_some]
theorem ret_ok {F : CEx} {ρ : Rho} {dr dr1 : Dr} {d : D} (h : F ρ dr = .ok d dr1) : cRet F ρ dr = .rt d dr1 := by
  rw [s_ret, h, stm_ok]
theorem setO_nx {i : Nat} {F : CEx} {ρ : Rho} {dr dr' : Dr} {d : D} (h : F ρ dr = .ok d dr') : cSetO i F ρ dr = .nx (ρ.set i (some d)) dr' := by rw [s_setO, h]; rfl
theorem for_ok {I : CI} {G : CGx} {B : CSx} {ρ : Rho} {dr dr1 : Dr} {xs : List D} {r : SR} (h : I ρ dr = .ok xs dr1) (k : forG G B xs ρ dr1 = r) : cFor I G B ρ dr = r := by
  rw [s_for, h]; exact k
end DL
/-! MB3 -/
/-! MB3: draws, one by one. -/
namespace DL
open PySem PySem.Spec PyProof.Rows L2

/-- fit for more draws; c: how many were drawn without a number of the script, at most -/
structure Good (c : Nat) (s : Dw) : Prop where
  p : 0 ≤ s.p
  n : s.cells.length ≤ 1000
  sd : 0 ≤ s.seed ∧ s.seed < 2 ^ 31
  c0 : 0 ≤ s.cnt
  c1 : s.cnt ≤ c
theorem Good.mono {c d : Nat} {s : Dw} (h : Good c s) (k : c ≤ d) : Good d s := ⟨h.p, h.n, h.sd, h.c0, by have := h.c1; omega⟩
theorem good_0 {ns : List Int} (h : ns.length ≤ 63) : Good 0 (drawOf ns) := ⟨Int.le_refl _, by show (ns.map absI).length ≤ 1000; rw [List.length_map]; omega, seed_ok ns 7 (by decide), Int.le_refl _, Int.le_refl _⟩
theorem e_take {c : Nat} {s : Dw} (h : Good c s) (hc : c ≤ 2 ^ 40) {m : Nat} (m0 : 0 < m) (m1 : m ≤ 2 ^ 40) : ∃ (r : Nat) (s' : Dw), f_take [.dr, .int (m : Int)] (some s) = .ok (.int (r : Int)) (some s') ∧ r < m ∧ Good (c + 1) s' := by
  have hm : (m : Int) ≠ 0 := by omega
  have hl : ((m : Int)).natAbs.log2 < 9000 := by
    rw [Int.natAbs_natCast]
    exact Nat.lt_trans (lg (N := 41) (Nat.lt_of_le_of_lt m1 (by decide)) (by decide)) (by decide)
  have ok : okT (m : Int) s = true := by
    unfold okT
    have h1 := h.p
    have h2 := h.sd
    have h3 := h.c0
    have h4 := h.c1
    have b1 : s.seed.natAbs < 2 ^ 100 := by omega
    have b2 : (s.cnt + 1).natAbs < 2 ^ 100 := by omega
    rw [decide_eq_true h1, decide_eq_true hm, decide_eq_true hl, decide_eq_true b1, decide_eq_true b2, decide_eq_true h.n]
    rfl
  have pos : (0 : Int) < (m : Int) := by omega
  have res : ∀ x : Int, 0 ≤ x.fmod m ∧ x.fmod m < m := fun x => ⟨Int.fmod_nonneg_of_pos x pos, Int.fmod_lt_of_pos x pos⟩
  have gf : Good c s.filled := by
    unfold Dw.filled
    split
    · exact ⟨by have := h.p; show 0 ≤ s.p + 1; omega, h.n, h.sd, h.c0, h.c1⟩
    · exact h
  have fin : 0 ≤ (takeD m s).1 ∧ (takeD m s).1 < m ∧ Good (c + 1) (takeD m s).2 := by
    unfold takeD
    split
    · exact ⟨(res _).1, (res _).2, ⟨gf.p, gf.n, gf.sd, gf.c0, by have := gf.c1; show s.filled.cnt ≤ ((c + 1 : Nat) : Int); omega⟩⟩
    · refine ⟨(res _).1, (res _).2, ⟨gf.p, gf.n, ?_, ?_, ?_⟩⟩
      · show 0 ≤ (_ : Int).fmod 2147483647 ∧ (_ : Int).fmod 2147483647 < 2 ^ 31
        exact ⟨Int.fmod_nonneg_of_pos _ (by decide), by have := Int.fmod_lt_of_pos (s.filled.seed * 48271 + (s.filled.cnt + 1) * (s.filled.cnt + 1) * 69621 + 11) (b := 2147483647) (by decide); omega⟩
      · have := gf.c0; show 0 ≤ s.filled.cnt + 1; omega
      · have := gf.c1; show s.filled.cnt + 1 ≤ ((c + 1 : Nat) : Int); omega
  refine ⟨(takeD m s).1.toNat, (takeD m s).2, ?_, by have := fin.1; have := fin.2.1; omega, fin.2.2⟩
  rw [Int.toNat_of_nonneg fin.1]
  exact if_pos ok
/-- a clause that draws: k draws an item -/
theorem lcA_drawn {ι : Type} {G : CGx} {F : CEx} {ρ : Rho} {e : ι → D} {P : D → Prop} {k b : Nat} : ∀ {ys : List ι} {acc : List D} {c : Nat} {s : Dw}, (∀ y ∈ ys, ∀ c s, Good c s → c ≤ b → ∃ ρ1, G ρ (e y) = some ρ1 ∧ ∃ d s', F ρ1 (some s) = .ok d (some s') ∧ P d ∧ Good (c + k) s') → Good c s → c + k * ys.length ≤ b → acc.length + ys.length ≤ sizeLine →
    ∃ ds s', lcA G cYes F ρ (ys.map e) acc (some s) = .ok (acc ++ ds) (some s') ∧ ds.length = ys.length ∧ (∀ d ∈ ds, P d) ∧ Good (c + k * ys.length) s'
  | [], acc, c, s, _, h, _, _ => ⟨[], s, by simp [lcA], rfl, (fun _ z => nomatch z), by simpa using h⟩
  | y :: ys, acc, c, s, H, h, hk, hl => by
    rw [List.length_cons, Nat.mul_add] at hk
    rw [List.length_cons] at hl
    obtain ⟨ρ1, h1, d, s1, h2, h3, h4⟩ := H y List.mem_cons_self c s h (by omega)
    obtain ⟨ds, s2, h5, h6, h7, h8⟩ := lcA_drawn (acc := acc ++ [d]) (c := c + k) (s := s1) (fun z hz => H z (List.mem_cons_of_mem _ hz)) h4 (by omega) (by rw [List.length_append, List.length_singleton]; omega)
    refine ⟨d :: ds, s2, ?_, by rw [List.length_cons, List.length_cons, h6], fun x hx => ?_, ?_⟩
    · rw [List.map_cons, lcA, h1]
      show ((noEx (cYes ρ1 (some s))).bind _) = _
      have : cYes ρ1 (some s) = .ok true (some s) := rfl
      rw [this]
      simp only [noEx_ok, bind_ok, if_true, h2]
      rw [if_pos (show acc.length < sizeLine by omega), h5, List.append_assoc]
      rfl
    · rcases List.mem_cons.mp hx with z | z
      · rw [z]; exact h3
      · exact h7 x z
    · rw [List.length_cons, Nat.mul_add, Nat.mul_one]
      exact h8.mono (by omega)
/-- a list of fractions, laid -/
theorem rats_of {P : Rat → Prop} : ∀ {ds : List D}, (∀ d ∈ ds, ∃ q, d = qD q ∧ P q) → ∃ r : Nat → Rat, ds = (List.range ds.length).map (fun k => qD (r k)) ∧ ∀ k, k < ds.length → P (r k)
  | [], _ => ⟨fun _ => 0, rfl, fun k h => absurd h (Nat.not_lt_zero k)⟩
  | d :: ds, h => by
    obtain ⟨q, e, hq⟩ := h d List.mem_cons_self
    obtain ⟨r, e2, h2⟩ := rats_of (ds := ds) fun x hx => h x (List.mem_cons_of_mem _ hx)
    refine ⟨fun k => match k with
      | 0 => q
      | k + 1 => r k, ?_, fun k hk => ?_⟩
    · rw [List.length_cons, List.range_succ_eq_map, List.map_cons, List.map_map, e]
      conv => lhs; rw [e2]
      rfl
    · cases k with
      | zero => exact hq
      | succ k => exact h2 k (by simpa using hk)
theorem fun_of {α : Type} {P : α → Prop} {f : α → D} (a0 : α) : ∀ {ds : List D}, (∀ d ∈ ds, ∃ a, d = f a ∧ P a) → ∃ r : Nat → α, ds = (List.range ds.length).map (fun k => f (r k)) ∧ ∀ k, k < ds.length → P (r k)
  | [], _ => ⟨fun _ => a0, rfl, fun k h => absurd h (Nat.not_lt_zero k)⟩
  | d :: ds, h => by
    obtain ⟨q, e, hq⟩ := h d List.mem_cons_self
    obtain ⟨r, e2, h2⟩ := fun_of a0 (ds := ds) fun x hx => h x (List.mem_cons_of_mem _ hx)
    refine ⟨fun k => match k with
      | 0 => q
      | k + 1 => r k, ?_, fun k hk => ?_⟩
    · rw [List.length_cons, List.range_succ_eq_map, List.map_cons, List.map_map, e]
      conv => lhs; rw [e2]
      rfl
    · cases k with
      | zero => exact hq
      | succ k => exact h2 k (by simpa using hk)
end DL
/-! MB4 -/
/-! MB4: rules forwards: what is wanted of what an expression, a statement, a def comes to. -/
namespace DL
open PySem PySem.Spec PyProof.Rows L2
def EW {α : Type} (r : R α) (P : α → Dr → Prop) (X : Exn → Dr → Prop) : Prop := match r with
  | .ok a dr => P a dr
  | .ex e dr => X e dr
  | .st => False
def SW (r : SR) (Q : SR → Prop) : Prop := Q r
def noX : Exn → Dr → Prop := fun _ _ => False
def SQ (Q : SR → Prop) (P : Rho → Dr → Prop) : SR → Prop
  | .nx ρ dr => P ρ dr
  | .rt d dr => Q (.rt d dr)
  | .bk ρ dr => Q (.bk ρ dr)
  | .ct ρ dr => Q (.ct ρ dr)
  | .ex e ρ dr => Q (.ex e ρ dr)
  | .st => False
/-- what a body comes to, for its def -/
def FQ (P : D → Dr → Prop) (X : Exn → Dr → Prop) : SR → Prop
  | .nx _ dr => P .non dr
  | .rt d dr => P d dr
  | .ex e _ dr => X e dr
  | _ => False
/-- a turn of a loop -/
def LQ (Q : SR → Prop) (P : Rho → Dr → Prop) : SR → Prop
  | .nx ρ dr => P ρ dr
  | .ct ρ dr => P ρ dr
  | .bk ρ dr => Q (.nx ρ dr)
  | .rt d dr => Q (.rt d dr)
  | .ex e ρ dr => Q (.ex e ρ dr)
  | .st => False
def OW (o : Option D) (dr : Dr) (P : D → Dr → Prop) : Prop := ∃ z, o = some z ∧ P z dr
def IfW (b : Bool) (A B : Prop) : Prop := if b = true then A else B
def FzD (d : D) (P : D → Prop) : Prop := P d.fz
def FzL (ds : List D) (P : List D → Prop) : Prop := P (D.fzs ds)
def StW (i : Nat) (d : D) (ρ : Rho) (P : Rho → Prop) : Prop := P (ρ.set i (some d))
def TB : D → (Bool → Prop) → Prop
  | .bl b, P => P b
  | _, _ => False
def TrW (d : D) (P : Bool → Prop) : Prop := ∃ b, d.tru = some b ∧ P b
def ItW : D → (List D → Prop) → Prop
  | .tup xs, P => P xs
  | .lst _ xs, P => P (D.fzs xs)
  | .str t, P => P (t.cps.toList.map fun c => .str ⟨#[c]⟩)
  | _, _ => False
def IntW : D → (Int → Prop) → Prop
  | .int i, P => P i
  | _, _ => False
def P2 (ds : List D) (P : D → D → Prop) : Prop := match ds with
  | [a, b] => P a b
  | _ => False
def P3 (ds : List D) (P : D → D → D → Prop) : Prop := match ds with
  | [a, b, c] => P a b c
  | _ => False
def TgW (G : CGx) (ρ : Rho) (d : D) (P : Rho → Prop) : Prop := ∃ ρ1, G ρ d = some ρ1 ∧ P ρ1
def WpW (ρ : Rho) (vs : List Nat) (P : Rho → Prop) : Prop := P (wipeD ρ vs)
def NthW (o : Option (Option D)) (P : List D → Prop) : Prop := match o with
  | some (some (.lst true xs)) => P xs
  | _ => False
section
variable {α β : Type} {a : α} {b b' : Bool} {dr dr' : Dr} {e : Exn} {ρ ρ' : Rho} {d d1 d2 d3 : D} {i j k : Nat} {F G F1 F2 F3 : CEx} {A : CAx} {T T1 T2 : CTx} {S S1 S2 B : CSx} {g g' : D → D → Option D} {h : List D → Option D} {P : D → Dr → Prop} {PA : List D → Dr → Prop} {PT : Bool → Dr → Prop} {X : Exn → Dr → Prop} {U : SR → Prop} {C : CGx}
theorem sq_nx {P : Rho → Dr → Prop} (h : P ρ dr) : SQ U P (.nx ρ dr) := h
theorem sq_rt {P : Rho → Dr → Prop} (h : U (.rt d dr)) : SQ U P (.rt d dr) := h
theorem sq_ex {P : Rho → Dr → Prop} (h : U (.ex e ρ dr)) : SQ U P (.ex e ρ dr) := h
theorem sq_bk {P : Rho → Dr → Prop} (h : U (.bk ρ dr)) : SQ U P (.bk ρ dr) := h
theorem sq_ct {P : Rho → Dr → Prop} (h : U (.ct ρ dr)) : SQ U P (.ct ρ dr) := h
theorem fq_rt (h : P d dr) : FQ P X (.rt d dr) := h
theorem fq_nx (h : P .non dr) : FQ P X (.nx ρ dr) := h
theorem fq_ex (h : X e dr) : FQ P X (.ex e ρ dr) := h
theorem lq_nx {P : Rho → Dr → Prop} (h : P ρ dr) : LQ U P (.nx ρ dr) := h
theorem lq_ct {P : Rho → Dr → Prop} (h : P ρ dr) : LQ U P (.ct ρ dr) := h
theorem lq_bk {P : Rho → Dr → Prop} (h : U (.nx ρ dr)) : LQ U P (.bk ρ dr) := h
theorem lq_rt {P : Rho → Dr → Prop} (h : U (.rt d dr)) : LQ U P (.rt d dr) := h
theorem lq_ex {P : Rho → Dr → Prop} (h : U (.ex e ρ dr)) : LQ U P (.ex e ρ dr) := h
theorem wpw {vs : List Nat} {P : Rho → Prop} (h : wipeD ρ vs = ρ') (k : P ρ') : WpW ρ vs P := by
  subst h; exact k
theorem tgw {ρ1 : Rho} {P : Rho → Prop} (h : C ρ d = some ρ1) (k : P ρ1) : TgW C ρ d P := ⟨ρ1, h, k⟩
theorem ew_ok {P : α → Dr → Prop} (k : P a dr) : EW (.ok a dr) P X := k
theorem ew_eq {r : R α} {P : α → Dr → Prop} (h : r = .ok a dr) (k : P a dr) : EW r P X := by
  rw [h]; exact k
theorem ew_eqx {r : R α} {P : α → Dr → Prop} (h : r = .ex e dr) (k : X e dr) : EW r P X := by
  rw [h]; exact k
theorem ew_of {r : R α} (h : EW r (fun x d => R.ok x d = R.ok a dr) noX) : r = .ok a dr := by
  cases r with
  | st => exact h.elim
  | ok x d => exact h
  | ex e d => exact (show False from h).elim
theorem ew_ofx {r : R α} (h : EW r (fun _ _ => False) (fun x d => R.ex (α := α) x d = R.ex e dr)) : r = .ex e dr := by
  cases r with
  | st => exact h.elim
  | ok x d => exact (show False from h).elim
  | ex e d => exact h
theorem ew_ex {r : R α} {P : α → Dr → Prop} (h : EW r P noX) : ∃ a dr, r = .ok a dr ∧ P a dr := by
  cases r with
  | st => exact h.elim
  | ok x d => exact ⟨x, d, rfl, h⟩
  | ex e d => exact (show False from h).elim
theorem sw_eq {r r' : SR} (h : r = r') (k : U r') : SW r U := by
  rw [h]; exact k
theorem ew_mono {r : R α} {P P' : α → Dr → Prop} {X X' : Exn → Dr → Prop} (h : EW r P X) (m : ∀ a dr, P a dr → P' a dr) (mx : ∀ e dr, X e dr → X' e dr) : EW r P' X' := by
  cases r with
  | st => exact h
  | ok a dr => exact m a dr h
  | ex e dr => exact mx e dr h
theorem ew_m {r : R α} {P P' : α → Dr → Prop} (m : ∀ a dr, P a dr → P' a dr) (h : EW r P X) : EW r P' X := ew_mono h m fun _ _ k => k
theorem ew_bind {r : R α} {f : α → Dr → R β} {P : β → Dr → Prop} (h : EW r (fun a dr => EW (f a dr) P X) X) : EW (r.bind f) P X := by
  cases r with
  | st => exact h
  | ok a dr => exact h
  | ex e dr => exact h
theorem gEW {r : R α} {P : α → Dr → Prop} (h : EW r P X) : EW r P X := h
theorem gSW {r : SR} (h : SW r U) : SW r U := h
theorem gOW {o : Option D} (h : OW o dr P) : OW o dr P := h
theorem gO2 {x y : D} (h : OW (g x y) dr P) : OW (g x y) dr P := h
theorem gO1 {l : List D → Option D} {xs : List D} (h : OW (l xs) dr P) : OW (l xs) dr P := h
theorem gO1a {l : List D → Option D} {x : D} (h : OW (l [x]) dr P) : OW (l [x]) dr P := h
theorem gAnd {p q : Prop} (h : p ∧ q) : p ∧ q := h
theorem gIf {p q : Prop} (h : IfW b p q) : IfW b p q := h
theorem gIx' {x y : D} (h : OW (gIx x y) dr P) : OW (gIx x y) dr P := h
theorem gLen' {x : D} (h : OW (gLen [x]) dr P) : OW (gLen [x]) dr P := h
theorem ow {o : Option D} {z : D} (h : o = some z) (k : P z dr) : OW o dr P := ⟨z, h, k⟩
theorem ew_opt {o : Option D} (h : OW o dr P) : EW (R.opt o dr) P X := by
  obtain ⟨z, rfl, k⟩ := h
  exact k
theorem ew_var (h : ρ[i]? = some (some d)) (k : P d dr) : EW (cVar i ρ dr) P X := by
  unfold cVar; rw [h]; exact k
theorem ew_k (k : P d dr) : EW (cK d ρ dr) P X := k
theorem ew_frz (h : EW (F ρ dr) (fun d dr => d.frz = true ∧ P d dr) X) : EW (cFrz F ρ dr) P X := by
  refine ew_bind (ew_m (fun d dr k => ?_) h)
  rw [if_pos k.1]; exact k.2
theorem ew_bin (h : EW (F1 ρ dr) (fun x dr => EW (F2 ρ dr) (fun y dr => OW (g x y) dr P) X) X) : EW (cBin g F1 F2 ρ dr) P X :=
  ew_bind (ew_m (fun x dr k => ew_bind (ew_m (fun y dr k => ew_opt k) k)) h)
theorem tb_bl {P : Bool → Prop} (h : P b) : TB (.bl b) P := h
theorem trw {P : Bool → Prop} (h : d.tru = some b) (k : P b) : TrW d P := ⟨b, h, k⟩
theorem ew_tst (h : EW (F ρ dr) (fun d dr => TB d fun b => PT b dr) X) : EW (cTst F ρ dr) PT X := by
  refine ew_bind (ew_m (fun d dr k => ?_) h)
  cases d <;> first | exact k.elim | exact k
theorem ew_tru (h : EW (F ρ dr) (fun d dr => TrW d fun b => PT b dr) X) : EW (cTru F ρ dr) PT X := by
  refine ew_bind (ew_m (fun d dr k => ?_) h)
  obtain ⟨b, e, k⟩ := k
  rw [e]; exact k
theorem ifw {X Y : Prop} (h1 : b = true → X) (h2 : b = false → Y) : IfW b X Y := by
  unfold IfW
  cases b
  · exact h2 rfl
  · exact h1 rfl
theorem ifw_t {X Y : Prop} (h : X) : IfW true X Y := h
theorem ifw_f {X Y : Prop} (h : Y) : IfW false X Y := h
theorem ifw_d {X Y p : Prop} [Decidable p] (h1 : p → X) (h2 : ¬ p → Y) : IfW (decide p) X Y := ifw (fun h => h1 (of_decide_eq_true h)) fun h => h2 (of_decide_eq_false h)
theorem ifw_n {X Y : Prop} (h : IfW b Y X) : IfW (!b) X Y := by
  cases b <;> exact h
theorem ifw_b {X Y : Prop} {x y : Int} (h1 : x = y → X) (h2 : x ≠ y → Y) : IfW (x == y) X Y := ifw (fun h => h1 (by simpa using h)) fun h => h2 (by simpa using h)
theorem ew_ifw {r r' : R α} {P : α → Dr → Prop} (h : IfW b (EW r P X) (EW r' P X)) : EW (if b = true then r else r') P X := by
  unfold IfW at h
  split <;> rename_i z
  · rw [if_pos z] at h; exact h
  · rw [if_neg z] at h; exact h
theorem ew_and (h : EW (T1 ρ dr) (fun b dr => IfW b (EW (T2 ρ dr) PT X) (PT false dr)) X) : EW (cAnd T1 T2 ρ dr) PT X := ew_bind (ew_m (fun b dr k => ew_ifw k) h)
theorem ew_or (h : EW (T1 ρ dr) (fun b dr => IfW b (PT true dr) (EW (T2 ρ dr) PT X)) X) : EW (cOr T1 T2 ρ dr) PT X := ew_bind (ew_m (fun b dr k => ew_ifw k) h)
theorem ew_notT (h : EW (T ρ dr) (fun b dr => PT (!b) dr) X) : EW (cNotT T ρ dr) PT X := ew_bind h
theorem ew_yes (h : PT true dr) : EW (cYes ρ dr) PT X := h
theorem ew_not (h : EW (F ρ dr) (fun d dr => TrW d fun b => P (.bl (!b)) dr) X) : EW (cNot F ρ dr) P X := by
  refine ew_bind (ew_m (fun d dr k => ?_) h)
  obtain ⟨b, e, k⟩ := k
  rw [e]; exact k
theorem ew_if (h : EW (T ρ dr) (fun b dr => IfW b (EW (F ρ dr) P X) (EW (G ρ dr) P X)) X) : EW (cIf T F G ρ dr) P X := ew_bind (ew_m (fun b dr k => ew_ifw k) h)
theorem ew_andV (h : EW (F ρ dr) (fun d dr => TB d fun b => IfW b (EW (G ρ dr) P X) (P (.bl false) dr)) X) : EW (cAndV F G ρ dr) P X := by
  refine ew_bind (ew_m (fun d dr k => ?_) h)
  cases d <;> first | exact k.elim | exact ew_ifw k
theorem ew_orV (h : EW (F ρ dr) (fun d dr => TB d fun b => IfW b (P (.bl true) dr) (EW (G ρ dr) P X)) X) : EW (cOrV F G ρ dr) P X := by
  refine ew_bind (ew_m (fun d dr k => ?_) h)
  cases d <;> first | exact k.elim | exact ew_ifw k
theorem ew_chain (h : EW (F1 ρ dr) (fun x dr => EW (F2 ρ dr) (fun y dr => OW (g x y) dr fun d dr => TB d fun b => IfW b (EW (F3 ρ dr) (fun z dr => OW (g' y z) dr P) X) (P (.bl false) dr)) X) X) : EW (cChain g g' F1 F2 F3 ρ dr) P X := by
  refine ew_bind (ew_m (fun x dr k => ew_bind (ew_m (fun y dr k => ?_) k)) h)
  obtain ⟨z, e, k⟩ := k
  rw [e]
  cases z <;> first | exact k.elim | skip
  rename_i b
  have k : IfW b (EW (F3 ρ dr) (fun z dr => OW (g' y z) dr P) X) (P (.bl false) dr) := k
  cases b with
  | true => exact ew_bind (ew_m (fun y dr k => ew_opt k) k)
  | false => exact k
theorem int_w {P : Int → Prop} {i : Int} (h : P i) : IntW (.int i) P := h
theorem ew_neg (h : EW (F ρ dr) (fun d dr => IntW d fun i => P (.int (-i)) dr) X) : EW (cNeg F ρ dr) P X := by
  refine ew_bind (ew_m (fun d dr k => ?_) h)
  cases d <;> first | exact k.elim | exact k
theorem ew_nil (h : PA [] dr) : EW (cNil ρ dr) PA X := h
theorem ew_cons (h : EW (F ρ dr) (fun x dr => EW (A ρ dr) (fun xs dr => PA (x :: xs) dr) X) X) : EW (cCons F A ρ dr) PA X := ew_bind (ew_m (fun x dr k => ew_bind k) h)
theorem fzl {ds ds' : List D} {P : List D → Prop} (h : D.fzs ds = ds') (k : P ds') : FzL ds P := by
  subst h; exact k
theorem fzd {P : D → Prop} (h : d.fz = d1) (k : P d1) : FzD d P := by
  subst h; exact k
theorem stw {P : Rho → Prop} (h : ρ.set i (some d) = ρ') (k : P ρ') : StW i d ρ P := by
  subst h; exact k
theorem ew_tup (h : EW (A ρ dr) (fun ds dr => ds.length ≤ sizeLine ∧ FzL ds fun ds => P (.tup ds) dr) X) : EW (cTup A ρ dr) P X := by
  refine ew_bind (ew_m (fun d dr k => ?_) h)
  rw [if_pos k.1]; exact k.2
theorem ew_lst (h : EW (A ρ dr) (fun ds dr => ds.length ≤ sizeLine ∧ P (.lst true ds) dr) X) : EW (cLst A ρ dr) P X := by
  refine ew_bind (ew_m (fun d dr k => ?_) h)
  rw [if_pos k.1]; exact k.2
theorem ew_b (k : EW (A ρ dr) (fun ds dr => OW (h ds) dr P) X) : EW (cB h A ρ dr) P X := ew_bind (ew_m (fun d dr k => ew_opt k) k)
theorem ew_isi {t : String} (h : EW (F ρ dr) (fun d dr => OW ((d.isi t).map .bl) dr P) X) : EW (cIsi t F ρ dr) P X := ew_bind (ew_m (fun d dr k => ew_opt k) h)
theorem ew_call {K : CF} (h : EW (A ρ dr) (fun ds dr => FzL ds fun ds => EW (K ds dr) P X) X) : EW (cCall K A ρ dr) P X := ew_bind (ew_m (fun d dr k => k) h)
def CallW (V : Tbl) (d : D) (Q : CF → Prop) : Prop := ∃ K, fnOf V d = some K ∧ Q K
theorem callw {V : Tbl} {K : CF} {Q : CF → Prop} (h : fnOf V d = some K) (k : Q K) : CallW V d Q := ⟨K, h, k⟩
theorem ew_callE {V : Tbl} (h : EW (F ρ dr) (fun d dr => CallW V d fun K => EW (A ρ dr) (fun ds dr => FzL ds fun ds => EW (K ds dr) P X) X) X) : EW (cCallE V F A ρ dr) P X := by
  refine ew_bind (ew_m (fun d dr k => ?_) h)
  obtain ⟨K, e, k⟩ := k
  rw [e]
  exact ew_bind (ew_m (fun d dr k => k) k)
def unO : D → D
  | .lst _ xs => .lst false (D.fzs xs)
  | d => d
theorem ew_rev (h : EW (F ρ dr) (fun d dr => OW (gRev (unO d)) dr P) X) : EW (cRev F ρ dr) P X := by
  refine ew_bind (ew_m (fun d dr k => ?_) h)
  cases d <;> exact ew_opt k
theorem ow_isi {t : String} (h : d.isi t = some b) (k : P (.bl b) dr) : OW ((d.isi t).map .bl) dr P := ⟨.bl b, by rw [h]; rfl, k⟩
theorem isi_non_int : D.isi "int" .non = some false := by rfl
theorem isi_non_bool : D.isi "bool" .non = some false := by rfl
theorem isi_non_str : D.isi "str" .non = some false := by rfl
theorem isi_non_tuple : D.isi "tuple" .non = some false := by rfl
theorem isi_non_list : D.isi "list" .non = some false := by rfl
theorem isi_bl_int {z : Bool} : D.isi "int" (.bl z) = some true := by rfl
theorem isi_bl_bool {z : Bool} : D.isi "bool" (.bl z) = some true := by rfl
theorem isi_bl_str {z : Bool} : D.isi "str" (.bl z) = some false := by rfl
theorem isi_bl_tuple {z : Bool} : D.isi "tuple" (.bl z) = some false := by rfl
theorem isi_bl_list {z : Bool} : D.isi "list" (.bl z) = some false := by rfl
theorem isi_int_int {z : Int} : D.isi "int" (.int z) = some true := by rfl
theorem isi_int_bool {z : Int} : D.isi "bool" (.int z) = some false := by rfl
theorem isi_int_str {z : Int} : D.isi "str" (.int z) = some false := by rfl
theorem isi_int_tuple {z : Int} : D.isi "tuple" (.int z) = some false := by rfl
theorem isi_int_list {z : Int} : D.isi "list" (.int z) = some false := by rfl
theorem isi_str_int {z : Str} : D.isi "int" (.str z) = some false := by rfl
theorem isi_str_bool {z : Str} : D.isi "bool" (.str z) = some false := by rfl
theorem isi_str_str {z : Str} : D.isi "str" (.str z) = some true := by rfl
theorem isi_str_tuple {z : Str} : D.isi "tuple" (.str z) = some false := by rfl
theorem isi_str_list {z : Str} : D.isi "list" (.str z) = some false := by rfl
theorem isi_tup_int {z : List D} : D.isi "int" (.tup z) = some false := by rfl
theorem isi_tup_bool {z : List D} : D.isi "bool" (.tup z) = some false := by rfl
theorem isi_tup_str {z : List D} : D.isi "str" (.tup z) = some false := by rfl
theorem isi_tup_tuple {z : List D} : D.isi "tuple" (.tup z) = some true := by rfl
theorem isi_tup_list {z : List D} : D.isi "list" (.tup z) = some false := by rfl
theorem isi_lst_int {o : Bool} {z : List D} : D.isi "int" (.lst o z) = some false := by rfl
theorem isi_lst_bool {o : Bool} {z : List D} : D.isi "bool" (.lst o z) = some false := by rfl
theorem isi_lst_str {o : Bool} {z : List D} : D.isi "str" (.lst o z) = some false := by rfl
theorem isi_lst_tuple {o : Bool} {z : List D} : D.isi "tuple" (.lst o z) = some false := by rfl
theorem isi_lst_list {o : Bool} {z : List D} : D.isi "list" (.lst o z) = some true := by rfl
theorem isi_qD_tuple {q : Rat} : D.isi "tuple" (qD q) = some true := by rfl
theorem isi_row_tuple {ι : Type} {I : List ι} {r : ι → Rat} : D.isi "tuple" (rowL I r) = some true := by rfl
theorem isi_tab_tuple {ι κ : Type} {I : List ι} {J : List κ} {A : ι → κ → Rat} : D.isi "tuple" (tabL I J A) = some true := by rfl
/-! slices -/
theorem ew_nopart {PO : Option Int → Dr → Prop} (h : PO none dr) : EW (cNoPart ρ dr) PO X := h
theorem ew_part {PO : Option Int → Dr → Prop} (h : EW (F ρ dr) (fun d dr => IntW d fun i => PO (some i) dr) X) : EW (cPart F ρ dr) PO X := by
  refine ew_bind (ew_m (fun d dr k => ?_) h)
  cases d <;> first | exact k.elim | exact k
theorem ew_sl {L V : COx} (h : EW (F ρ dr) (fun x dr => EW (L ρ dr) (fun l dr => EW (V ρ dr) (fun u dr => OW (gSl x l u) dr P) X) X) X) : EW (cSl F L V ρ dr) P X :=
  ew_bind (ew_m (fun x dr k => ew_bind (ew_m (fun l dr k => ew_bind (ew_m (fun u dr k => ew_opt k) k)) k)) h)
/-! what is walked -/
theorem it_tup {xs : List D} {P : List D → Prop} (k : P xs) : ItW (.tup xs) P := k
theorem it_tab {ι κ : Type} {I : List ι} {J : List κ} {A : ι → κ → Rat} {P : List D → Prop} (k : P (I.map fun i => rowL J (A i))) : ItW (tabL I J A) P := k
theorem it_row {κ : Type} {J : List κ} {A : κ → Rat} {P : List D → Prop} (k : P (J.map fun i => qD (A i))) : ItW (rowL J A) P := k
theorem it_lst {o : Bool} {xs ys : List D} {P : List D → Prop} (h : D.fzs xs = ys) (k : P ys) : ItW (.lst o xs) P := by
  subst h; exact k
theorem iw_any (h : EW (F ρ dr) (fun d dr => ItW d fun xs => PA xs dr) X) : EW (iAny F ρ dr) PA X := by
  refine ew_bind (ew_m (fun d dr k => ?_) h)
  cases d <;> first | exact k.elim | exact k
def rgLine : Nat := 100000
def RgW : D → (Nat → Prop) → Prop
  | .int i, P => ∃ n : Nat, i = (n : Int) ∧ n ≤ rgLine ∧ P n
  | _, _ => False
theorem rgw {P : Nat → Prop} {i : Int} {n : Nat} (h : i = (n : Int)) (hn : n ≤ 100000) (k : P n) : RgW (.int i) P := ⟨n, h, hn, k⟩
theorem rgw_inv {P : Nat → Prop} {i : Int} (h : RgW (.int i) P) : ∃ n : Nat, i = (n : Int) ∧ n ≤ rgLine ∧ P n := h
theorem rgLine_le {n : Nat} (h : n ≤ rgLine) : n ≤ 100000 := h
theorem iw_rg1 (h : EW (F ρ dr) (fun d dr => RgW d fun n => PA ((List.range n).map fun k : Nat => D.int (k : Int)) dr) X) : EW (iRg1 F ρ dr) PA X := by
  refine ew_bind (ew_m (fun d dr kk => ?_) h)
  cases d with
  | int i =>
    obtain ⟨n, en, hn, k2⟩ := rgw_inv kk
    subst en
    have hn := rgLine_le hn
    have c : -(2 ^ 62) ≤ (n : Int) ∧ (n : Int) < 2 ^ 62 := ⟨by omega, by omega⟩
    rw [← rgD_nat] at k2
    show EW (if -(2 ^ 62) ≤ (n : Int) ∧ (n : Int) < 2 ^ 62 then DL.R.ok (rgD 0 n) dr else .st) PA X
    rw [if_pos c]; exact k2
  | _ => exact (show False from kk).elim
theorem rgw_d {P : Nat → Prop} {d : D} (h : RgW d P) : ∃ n : Nat, d = .int (n : Int) ∧ n ≤ rgLine ∧ P n := by
  cases d with
  | int i =>
    refine (rgw_inv h).elim fun n hh => ⟨n, ?_, hh.2⟩
    rw [hh.1]
  | _ => exact (show False from h).elim
theorem iw_rg2 (h : EW (F ρ dr) (fun d dr => EW (G ρ dr) (fun e dr => RgW d fun a => RgW e fun n => PA ((List.range (n - a)).map fun k : Nat => D.int ((a + k : Nat) : Int)) dr) X) X) : EW (iRg2 F G ρ dr) PA X := by
  cases q1 : F ρ dr with
  | st => rw [q1] at h; exact (show False from h).elim
  | ex x dr1 =>
    rw [q1] at h
    have : iRg2 F G ρ dr = .ex x dr1 := by rw [i_rg2, q1]; rfl
    exact ew_eqx this h
  | ok d dr1 =>
    rw [q1] at h
    have h : EW (G ρ dr1) (fun e dr => RgW d fun a => RgW e fun n => PA ((List.range (n - a)).map fun k : Nat => D.int ((a + k : Nat) : Int)) dr) X := h
    cases q2 : G ρ dr1 with
    | st => rw [q2] at h; exact (show False from h).elim
    | ex x dr2 =>
      rw [q2] at h
      have : iRg2 F G ρ dr = .ex x dr2 := by rw [i_rg2, q1, bind_ok, q2]; rfl
      exact ew_eqx this h
    | ok e dr2 =>
      rw [q2] at h
      have h : RgW d fun a => RgW e fun n => PA ((List.range (n - a)).map fun k : Nat => D.int ((a + k : Nat) : Int)) dr2 := h
      refine (rgw_d h).elim fun a ha => (rgw_d ha.2.2).elim fun n hn => ?_
      refine ew_eq (i_rg2N (a := a) (n := n) (by rw [q1, ha.1]) (by rw [q2, hn.1]) (rgLine_le hn.2.1) (rgLine_le ha.2.1)) hn.2.2
def ZpW (ds : List D) (P : List D → Prop) : Prop := match ds with
  | [x, y] => ItW x fun xs => ItW y fun ys => (match x, y with
    | .lst _ _, .lst _ _ => True
    | .tup _, .tup _ => True
    | _, _ => False) ∧ P (xs.zipWith (fun x y => .tup [x, y]) ys)
  | _ => False
theorem iw_zip (h : EW (A ρ dr) (fun ds dr => ZpW ds fun xs => PA xs dr) X) : EW (iZipD A ρ dr) PA X := by
  refine ew_bind (ew_m (fun ds dr k => ?_) h)
  match ds, k with
  | [], k => exact k.elim
  | [_], k => exact k.elim
  | _ :: _ :: _ :: _, k => exact k.elim
  | [x, y], k =>
    cases x <;> first | exact k.elim | skip
    · cases y <;> first | exact k.elim | exact k.1.elim
    · cases y <;> first | exact k.elim | exact k.2 | exact k.1.elim
    · cases y <;> first | exact k.elim | exact k.2 | exact k.1.elim
theorem zpw_tt {ι : Type} {l : List ι} {f g : ι → D} {P : List D → Prop} (k : P (l.map fun i => .tup [f i, g i])) : ZpW [.tup (l.map f), .tup (l.map g)] P := by
  refine ⟨trivial, ?_⟩
  rw [zip_maps (κ := ι)]; exact k
theorem zpw_ll {ι : Type} {l : List ι} {o o' : Bool} {f g : ι → D} {P : List D → Prop} (hf : D.fzs (l.map f) = l.map f) (hg : D.fzs (l.map g) = l.map g) (k : P (l.map fun i => .tup [f i, g i])) : ZpW [.lst o (l.map f), .lst o' (l.map g)] P := by
  refine ⟨trivial, ?_⟩
  rw [hf, hg, zip_maps (κ := ι)]; exact k
/-! lists told -/
def LcW (vs : List Nat) (G : CGx) (T : CTx) (F : CEx) (ρ : Rho) (xs : List D) (dr : Dr) (P : D → Dr → Prop) (X : Exn → Dr → Prop) : Prop := EW (lcA G T F (wipeD ρ vs) xs [] dr) (fun acc dr => P (.lst true acc) dr) X
theorem ew_lc {vs : List Nat} {I : CI} (h : EW (I ρ dr) (fun xs dr => LcW vs C T F ρ xs dr P X) X) : EW (cLc vs I C T F ρ dr) P X :=
  ew_bind (ew_m (fun xs dr k => ew_bind (ew_m (fun acc dr k => k) k)) h)
theorem lcw_all {ι : Type} (e f : ι → D) (ys : List ι) {xs : List D} {vs : List Nat} {G : CGx} (hx : xs = ys.map e) (hl : ys.length ≤ sizeLine) (hw : wipeD ρ vs = ρ') (h : ∀ y, y ∈ ys → TgW G ρ' (e y) fun ρ1 => EW (F ρ1 dr) (fun a d => R.ok a d = R.ok (f y) dr) noX) (k : P (.lst true (ys.map f)) dr) : LcW vs G cYes F ρ xs dr P X := by
  subst hx; subst hw
  unfold LcW
  rw [lcA_all (fun y hy => by
    obtain ⟨ρ1, h1, h2⟩ := h y hy
    exact ⟨ρ1, h1, ew_of h2⟩) hl]
  exact k
theorem lcw_map {ι : Type} (e f : ι → D) (p : ι → Bool) (ys : List ι) {xs : List D} {vs : List Nat} {G : CGx} (hx : xs = ys.map e) (hl : ys.length ≤ sizeLine) (hw : wipeD ρ vs = ρ') (h : ∀ y, y ∈ ys → TgW G ρ' (e y) fun ρ1 => EW (T ρ1 dr) (fun a d => R.ok a d = R.ok (p y) dr) noX ∧ (p y = true → EW (F ρ1 dr) (fun a d => R.ok a d = R.ok (f y) dr) noX)) (k : P (.lst true ((ys.filter p).map f)) dr) : LcW vs G T F ρ xs dr P X := by
  subst hx; subst hw
  unfold LcW
  rw [lcA_map (fun y hy => by
    obtain ⟨ρ1, h1, h2, h3⟩ := h y hy
    exact ⟨ρ1, h1, ew_of h2, fun z => ew_of (h3 z)⟩) (by rw [List.length_nil]; omega), List.nil_append]
  exact k
/-- draws within -/
theorem lcw_drawn {ι : Type} (e : ι → D) (V : D → Prop) (ys : List ι) {xs : List D} {vs : List Nat} {G : CGx} {s : Dw} {c k b : Nat} (hx : xs = ys.map e) (g : Good c s) (hb : c + k * ys.length ≤ b) (hl : ys.length ≤ sizeLine) (hw : wipeD ρ vs = ρ') (h : ∀ y, y ∈ ys → ∀ c s, Good c s → c ≤ b → TgW G ρ' (e y) fun ρ1 => EW (F ρ1 (some s)) (fun d dr => ∃ s', dr = some s' ∧ V d ∧ Good (c + k) s') noX) (kk : ∀ ds s', ds.length = ys.length → (∀ d ∈ ds, V d) → Good (c + k * ys.length) s' → P (.lst true ds) (some s')) : LcW vs G cYes F ρ xs (some s) P X := by
  subst hx; subst hw
  unfold LcW
  obtain ⟨ds, s', e1, h1, h2, h3⟩ := lcA_drawn (acc := []) (fun y hy c s g hc => by
    obtain ⟨ρ1, q1, q2⟩ := h y hy c s g hc
    obtain ⟨d, dr, q3, s', rfl, q4, q5⟩ := ew_ex q2
    exact ⟨ρ1, q1, d, s', q3, q4, q5⟩) g hb (by rw [List.length_nil]; omega)
  rw [e1, List.nil_append]
  exact kk ds s' h1 h2 h3
/-! two clauses -/
def Lc2W (vs vs1 : List Nat) (G : CGx) (T : CTx) (I1 : CI) (G1 : CGx) (T1 : CTx) (F : CEx) (ρ : Rho) (xs : List D) (dr : Dr) (P : D → Dr → Prop) (X : Exn → Dr → Prop) : Prop := EW (lcB vs1 G T I1 G1 T1 F (wipeD ρ vs) xs [] dr) (fun acc dr => P (.lst true acc) dr) X
theorem ew_lc2 {vs vs1 : List Nat} {I I1 : CI} {G1 : CGx} (h : EW (I ρ dr) (fun xs dr => Lc2W vs vs1 C T I1 G1 T1 F ρ xs dr P X) X) : EW (cLc2 vs vs1 I C T I1 G1 T1 F ρ dr) P X :=
  ew_bind (ew_m (fun xs dr k => ew_bind (ew_m (fun acc dr k => k) k)) h)
theorem lcB_all {ι κ : Type} {e : ι → D} {l : ι → List κ} {e1 f : ι → κ → D} {vs1 : List Nat} {G G1 : CGx} {I1 : CI} {N : Nat} (hN : N ≤ sizeLine) : ∀ {ys : List ι} {acc : List D}, (∀ y, y ∈ ys → TgW G ρ (e y) fun ρ1 => EW (I1 ρ1 dr) (fun zs d => d = dr ∧ zs = (l y).map (e1 y) ∧ ∀ z, z ∈ l y → WpW ρ1 vs1 fun ρ1 => TgW G1 ρ1 (e1 y z) fun ρ2 => EW (F ρ2 dr) (fun a d => R.ok a d = R.ok (f y z) dr) noX) noX) → acc.length + (ys.flatMap l).length ≤ N → lcB vs1 G cYes I1 G1 cYes F ρ (ys.map e) acc dr = .ok (acc ++ ys.flatMap fun y => (l y).map (f y)) dr
  | [], acc, _, _ => by simp [lcB]
  | y :: ys, acc, h, hl => by
    obtain ⟨ρ1, h1, h2⟩ := h y List.mem_cons_self
    obtain ⟨zs, d, q1, hd, hz, h3⟩ := ew_ex h2
    rw [hd, hz] at q1
    rw [List.flatMap_cons, List.length_append] at hl
    have e0 : cYes ρ1 dr = .ok true dr := rfl
    rw [List.map_cons, lcB, h1]
    simp only [e0, noEx_ok, bind_ok, if_true, q1]
    have := lcA_map (T := cYes) (G := G1) (F := F) (ρ := wipeD ρ1 vs1) (e := e1 y) (f := f y) (p := fun _ => true) (dr := dr) (ys := l y) (acc := acc) (fun z hz => by
      obtain ⟨ρ2, k1, k2⟩ := h3 z hz
      exact ⟨ρ2, k1, rfl, fun _ => ew_of k2⟩) (by omega)
    rw [List.filter_eq_self.mpr fun _ _ => rfl] at this
    rw [this, bind_ok, lcB_all hN (fun z hz => h z (List.mem_cons_of_mem _ hz)) (by rw [List.length_append, List.length_map]; omega), List.flatMap_cons, List.append_assoc]
theorem lc2w_all {ι κ : Type} (e : ι → D) (l : ι → List κ) (e1 f : ι → κ → D) (ys : List ι) {xs : List D} {vs vs1 : List Nat} {G G1 : CGx} {I1 : CI} (hx : xs = ys.map e) (hl : (ys.flatMap l).length ≤ sizeLine) (hw : wipeD ρ vs = ρ') (h : ∀ y, y ∈ ys → TgW G ρ' (e y) fun ρ1 => EW (I1 ρ1 dr) (fun zs d => d = dr ∧ zs = (l y).map (e1 y) ∧ ∀ z, z ∈ l y → WpW ρ1 vs1 fun ρ1 => TgW G1 ρ1 (e1 y z) fun ρ2 => EW (F ρ2 dr) (fun a d => R.ok a d = R.ok (f y z) dr) noX) noX) (k : P (.lst true (ys.flatMap fun y => (l y).map (f y))) dr) : Lc2W vs vs1 G cYes I1 G1 cYes F ρ xs dr P X := by
  subst hx; subst hw
  unfold Lc2W
  rw [lcB_all (Nat.le_refl _) h (by rw [List.length_nil]; omega), List.nil_append]
  exact k
/-! statements -/
theorem sw_seq (h : SW (S1 ρ dr) (SQ U fun ρ dr => SW (S2 ρ dr) U)) : SW (cSeq S1 S2 ρ dr) U := by
  unfold cSeq
  cases e : S1 ρ dr with
  | _ => rw [e] at h; first | exact h | exact (show False from h).elim
theorem xq_stm {r : R D} {f : D → Dr → SR} (h : EW r (fun d dr => SW (f d dr) U) fun e dr => U (.ex e ρ dr)) : SW (r.stm ρ f) U := by
  cases r with
  | st => exact h.elim
  | ok a dr => exact h
  | ex e dr => exact h
theorem sw_skip (h : U (.nx ρ dr)) : SW (cSkip ρ dr) U := h
theorem sw_bk (h : U (.bk ρ dr)) : SW (cBk ρ dr) U := h
theorem sw_ct (h : U (.ct ρ dr)) : SW (cCt ρ dr) U := h
theorem sw_fz (h : ρ[i]? = some (some d)) (k : FzD d fun d => StW i d ρ fun ρ => U (.nx ρ dr)) : SW (cFz i ρ dr) U := by
  unfold cFz; rw [h]; exact k
theorem sw_set (h : EW (F ρ dr) (fun d dr => FzD d fun d => StW i d ρ fun ρ => U (.nx ρ dr)) (fun e dr => U (.ex e ρ dr))) : SW (cSet i F ρ dr) U := xq_stm (ew_m (fun d dr k => k) h)
theorem sw_setO (h : EW (F ρ dr) (fun d dr => StW i d ρ fun ρ => U (.nx ρ dr)) (fun e dr => U (.ex e ρ dr))) : SW (cSetO i F ρ dr) U := xq_stm (ew_m (fun d dr k => k) h)
theorem sw_ret (h : EW (F ρ dr) (fun d dr => U (.rt d dr)) (fun e dr => U (.ex e ρ dr))) : SW (cRet F ρ dr) U := xq_stm (ew_m (fun d dr k => k) h)
theorem sw_retN (h : U (.rt .non dr)) : SW (cRetN ρ dr) U := h
theorem sw_raise {x : Str} (h : U (.ex ⟨x, none⟩ ρ dr)) : SW (cRaise x ρ dr) U := h
theorem sw_drop (h : EW (F ρ dr) (fun _ dr => U (.nx ρ dr)) (fun e dr => U (.ex e ρ dr))) : SW (cDrop F ρ dr) U := xq_stm (ew_m (fun d dr k => k) h)
theorem sw_if (h : EW (T ρ dr) (fun b dr => IfW b (SW (S1 ρ dr) U) (SW (S2 ρ dr) U)) (fun e dr => U (.ex e ρ dr))) : SW (cIfS T S1 S2 ρ dr) U := by
  unfold cIfS
  cases e : T ρ dr with
  | st => rw [e] at h; exact h.elim
  | ex x d => rw [e] at h; exact h
  | ok b d =>
    rw [e] at h
    have h : IfW b (SW (S1 ρ d) U) (SW (S2 ρ d) U) := h
    cases b <;> exact h
theorem p2 {P : D → D → Prop} (h : P d1 d2) : P2 [d1, d2] P := h
theorem p3 {P : D → D → D → Prop} (h : P d1 d2 d3) : P3 [d1, d2, d3] P := h
theorem sw_par2 (h : EW (A ρ dr) (fun ds dr => P2 ds fun x y => StW i x ρ fun ρ => StW j y ρ fun ρ => U (.nx ρ dr)) (fun e dr => U (.ex e ρ dr))) : SW (cPar2 i j A ρ dr) U := by
  unfold cPar2
  cases e : A ρ dr with
  | st => rw [e] at h; exact h.elim
  | ex x d => rw [e] at h; exact h
  | ok ds d =>
    rw [e] at h
    match ds, h with
    | [], h => exact h.elim
    | [_], h => exact h.elim
    | [_, _], h => exact h
    | _ :: _ :: _ :: _, h => exact h.elim
theorem sw_par3 (h : EW (A ρ dr) (fun ds dr => P3 ds fun x y z => StW i x ρ fun ρ => StW j y ρ fun ρ => StW k z ρ fun ρ => U (.nx ρ dr)) (fun e dr => U (.ex e ρ dr))) : SW (cPar3 i j k A ρ dr) U := by
  unfold cPar3
  cases e : A ρ dr with
  | st => rw [e] at h; exact h.elim
  | ex x d => rw [e] at h; exact h
  | ok ds d =>
    rw [e] at h
    match ds, h with
    | [], h => exact h.elim
    | [_], h => exact h.elim
    | [_, _], h => exact h.elim
    | [_, _, _], h => exact h
    | _ :: _ :: _ :: _ :: _, h => exact h.elim
def SetW : Rho → List Nat → List D → (Rho → Prop) → Prop
  | ρ, i :: is, d :: ds, P => StW i d ρ fun ρ => SetW ρ is ds P
  | ρ, [], [], P => P ρ
  | _, _, _, _ => False
theorem setw_cons {is : List Nat} {ds : List D} {P : Rho → Prop} (h : StW i d ρ fun ρ => SetW ρ is ds P) : SetW ρ (i :: is) (d :: ds) P := h
theorem setw_nil {P : Rho → Prop} (h : P ρ) : SetW ρ [] [] P := h
theorem setw_len : ∀ {is : List Nat} {ds : List D} {ρ : Rho} {P : Rho → Prop}, SetW ρ is ds P → ds.length = is.length ∧ P (setN ρ is ds)
  | [], [], _, _, h => ⟨rfl, h⟩
  | [], _ :: _, _, _, h => h.elim
  | _ :: _, [], _, _, h => h.elim
  | i :: is, d :: ds, ρ, P, h => by
    have h : SetW (ρ.set i (some d)) is ds P := h
    obtain ⟨h1, h2⟩ := setw_len h
    exact ⟨by rw [List.length_cons, List.length_cons, h1], h2⟩
theorem sw_parN {is : List Nat} (hl : is.length ≤ sizeLine) (h : EW (A ρ dr) (fun ds dr => SetW ρ is ds fun ρ => U (.nx ρ dr)) (fun e dr => U (.ex e ρ dr))) : SW (cParN is A ρ dr) U := by
  unfold cParN
  cases e : A ρ dr with
  | st => rw [e] at h; exact h.elim
  | ex x d => rw [e] at h; exact h
  | ok ds d =>
    rw [e] at h
    obtain ⟨h1, h2⟩ := setw_len (show SetW ρ is ds fun ρ => U (.nx ρ d) from h)
    show U (if ds.length = is.length ∧ ds.length ≤ sizeLine then SR.nx (setN ρ is ds) d else SR.st)
    rw [if_pos ⟨h1, by rw [h1]; exact hl⟩]
    exact h2
theorem sw_app {xs : List D} (h : ρ[i]? = some (some (.lst true xs))) (k : EW (F ρ dr) (fun d dr => xs.length < sizeLine ∧ StW i (.lst true (xs ++ [d])) ρ fun ρ => U (.nx ρ dr)) (fun e dr => U (.ex e ρ dr))) : SW (cApp i F ρ dr) U := by
  unfold cApp; rw [h]
  refine xq_stm (ew_m (fun d dr k => ?_) k)
  rw [if_pos k.1]; exact k.2
theorem sw_asg (h : EW (F ρ dr) (fun d dr => FzD d fun d => TgW C ρ d fun ρ' => U (.nx ρ' dr)) (fun e dr => U (.ex e ρ dr))) : SW (cAsg C F ρ dr) U := by
  refine xq_stm (ew_m (fun d dr k => ?_) h)
  obtain ⟨ρ', e, k⟩ := k
  show SW (match C ρ d.fz with
    | some ρ' => SR.nx ρ' dr
    | none => SR.st) U
  rw [e]; exact k
theorem sw_setIx {xs : List D} {J : CEx} (h : ρ[i]? = some (some (.lst true xs))) (k : EW (F ρ dr) (fun d dr => EW (J ρ dr) (fun n dr => IntW n fun n => ∃ j, ixN xs.length n = some j ∧ StW i (.lst true (xs.set j d)) ρ fun ρ => U (.nx ρ dr)) (fun e dr => U (.ex e ρ dr))) (fun e dr => U (.ex e ρ dr))) : SW (cSetIx i F J ρ dr) U := by
  refine xq_stm (ew_m (fun d dr k => ?_) k)
  rw [h]
  refine xq_stm (ew_m (fun n dr k => ?_) k)
  cases n <;> first | exact k.elim | skip
  obtain ⟨j, e, k⟩ := k
  show SW (match ixN xs.length _ with
    | some j => SR.nx (ρ.set i (some (.lst true (xs.set j d)))) dr
    | none => SR.st) U
  rw [e]; exact k
/-! targets -/
theorem g_nm' (h : ρ.set i (some d) = ρ') : gNm i ρ d = some ρ' := by
  subst h; rfl
theorem gs_nil : gsNil ρ [] = some ρ := rfl
theorem gs_cons {G : CGx} {K : CGs} {ds : List D} {ρ1 ρ2 : Rho} (h : G ρ d = some ρ1) (k : K ρ1 ds = some ρ2) : gsCons G K ρ (d :: ds) = some ρ2 := by
  show (G ρ d).bind _ = _
  rw [h]; exact k
theorem g_tp {n : Nat} {K : CGs} {ds : List D} (hl : ds.length = n) (h : K ρ ds = some ρ') : gTp n K ρ (.tup ds) = some ρ' := by
  show (if ds.length = n then K ρ ds else none) = _
  rw [if_pos hl]; exact h
theorem g_tpl {n : Nat} {K : CGs} {ds : List D} (hl : ds.length = n) (h : K ρ ds = some ρ') : gTp n K ρ (.lst false ds) = some ρ' := by
  show (if ds.length = n then K ρ ds else none) = _
  rw [if_pos hl]; exact h
/-! loops -/
theorem forG_w {ι : Type} {e : ι → D} {G : CGx} {Inv : List ι → Rho → Dr → Prop} (hs : ∀ y zs ρ dr, Inv (y :: zs) ρ dr → TgW G ρ (e y) fun ρ1 => SW (B ρ1 dr) (LQ U (Inv zs))) (hk : ∀ ρ dr, Inv [] ρ dr → U (.nx ρ dr)) : ∀ {ys : List ι} {ρ : Rho} {dr : Dr}, Inv ys ρ dr → SW (forG G B (ys.map e) ρ dr) U
  | [], ρ, dr, h => hk ρ dr h
  | y :: ys, ρ, dr, h => by
    obtain ⟨ρ1, h1, h2⟩ := hs y ys ρ dr h
    rw [List.map_cons, forG, h1]
    simp only
    cases q : B ρ1 dr with
    | st => rw [q] at h2; exact h2.elim
    | nx ρ2 dr2 => rw [q] at h2; exact forG_w hs hk h2
    | ct ρ2 dr2 => rw [q] at h2; exact forG_w hs hk h2
    | bk ρ2 dr2 => rw [q] at h2; exact h2
    | rt d dr2 => rw [q] at h2; exact h2
    | ex x ρ2 dr2 => rw [q] at h2; exact h2
theorem sw_for {ι : Type} (e : ι → D) (ys : List ι) {I : CI} {G : CGx} (Inv : List ι → Rho → Dr → Prop) (hi : EW (I ρ dr) (fun xs dr => xs = ys.map e ∧ Inv ys ρ dr) (fun e dr => U (.ex e ρ dr))) (hs : ∀ y zs ρ dr, Inv (y :: zs) ρ dr → TgW G ρ (e y) fun ρ1 => SW (B ρ1 dr) (LQ U (Inv zs))) (hk : ∀ ρ dr, Inv [] ρ dr → U (.nx ρ dr)) : SW (cFor I G B ρ dr) U := by
  unfold cFor
  cases q : I ρ dr with
  | st => rw [q] at hi; exact hi.elim
  | ex x d => rw [q] at hi; exact hi
  | ok xs dr2 =>
    rw [q] at hi
    obtain ⟨rfl, h0⟩ := (show xs = ys.map e ∧ Inv ys ρ dr2 from hi)
    exact forG_w hs hk h0
theorem whG_w {Inv : Nat → Rho → Dr → Prop} (hs : ∀ m ρ dr, Inv m ρ dr → EW (T ρ dr) (fun b dr => IfW b (SW (B ρ dr) (LQ U fun ρ dr => ∃ m', m' < m ∧ Inv m' ρ dr)) (U (.nx ρ dr))) (fun e dr => U (.ex e ρ dr))) : ∀ {n m : Nat} {ρ : Rho} {dr : Dr}, m < n → Inv m ρ dr → SW (whG T B n ρ dr) U
  | 0, m, _, _, h, _ => absurd h (Nat.not_lt_zero _)
  | n + 1, m, ρ, dr, hm, h => by
    have q := hs m ρ dr h
    unfold whG
    cases e : T ρ dr with
    | st => rw [e] at q; exact q.elim
    | ex x d => rw [e] at q; exact q
    | ok b d =>
      rw [e] at q
      have q : IfW b (SW (B ρ d) (LQ U fun ρ dr => ∃ m', m' < m ∧ Inv m' ρ dr)) (U (.nx ρ d)) := q
      cases b with
      | false => exact q
      | true =>
        have q : SW (B ρ d) (LQ U fun ρ dr => ∃ m', m' < m ∧ Inv m' ρ dr) := q
        simp only
        cases z : B ρ d with
        | st => rw [z] at q; exact q.elim
        | nx ρ2 dr2 =>
          rw [z] at q
          obtain ⟨m', h1, h2⟩ := (show ∃ m', m' < m ∧ Inv m' ρ2 dr2 from q)
          exact whG_w hs (by omega) h2
        | ct ρ2 dr2 =>
          rw [z] at q
          obtain ⟨m', h1, h2⟩ := (show ∃ m', m' < m ∧ Inv m' ρ2 dr2 from q)
          exact whG_w hs (by omega) h2
        | bk ρ2 dr2 => rw [z] at q; exact q
        | rt d dr2 => rw [z] at q; exact q
        | ex x ρ2 dr2 => rw [z] at q; exact q
theorem sw_while {fu : Rho → Nat} (m : Nat) (Inv : Nat → Rho → Dr → Prop) (h0 : Inv m ρ dr) (hm : m < fu ρ) (hs : ∀ m ρ dr, Inv m ρ dr → EW (T ρ dr) (fun b dr => IfW b (SW (B ρ dr) (LQ U fun ρ dr => ∃ m', m' < m ∧ Inv m' ρ dr)) (U (.nx ρ dr))) (fun e dr => U (.ex e ρ dr))) : SW (cWhile fu T B ρ dr) U := whG_w hs hm h0
/-! try -/
def TQ (mt : Str → Option Bool) (S : CSx) (U : SR → Prop) : SR → Prop
  | .nx ρ dr => U (.nx ρ dr)
  | .rt d dr => U (.rt d dr)
  | .bk ρ dr => U (.bk ρ dr)
  | .ct ρ dr => U (.ct ρ dr)
  | .ex e ρ dr => match mt e.cls with
    | some true => SW (S ρ dr) fun r => U r ∧ ∀ e ρ dr, r ≠ .ex e ρ dr
    | some false => U (.ex e ρ dr)
    | none => False
  | .st => False
theorem sw_try {mt : Str → Option Bool} (h : SW (B ρ dr) (TQ mt S U)) : SW (cTry mt B S ρ dr) U := by
  unfold cTry
  cases q : B ρ dr with
  | ex x ρ2 dr2 =>
    rw [q] at h
    simp only
    cases z : mt x.cls with
    | none =>
      have h : (match mt x.cls with
        | some true => SW (S ρ2 dr2) fun r => U r ∧ ∀ e ρ dr, r ≠ .ex e ρ dr
        | some false => U (.ex x ρ2 dr2)
        | none => False) := h
      rw [z] at h; exact h.elim
    | some b =>
      have h : (match mt x.cls with
        | some true => SW (S ρ2 dr2) fun r => U r ∧ ∀ e ρ dr, r ≠ .ex e ρ dr
        | some false => U (.ex x ρ2 dr2)
        | none => False) := h
      rw [z] at h
      cases b with
      | false => exact h
      | true =>
        have h : U (S ρ2 dr2) ∧ ∀ e ρ dr, S ρ2 dr2 ≠ .ex e ρ dr := h
        show U (noExS (S ρ2 dr2))
        unfold noExS
        cases w : S ρ2 dr2 with
        | ex e ρ dr => exact absurd w (h.2 e ρ dr)
        | _ => rw [w] at h; exact h.1
  | st => rw [q] at h; exact h.elim
  | _ => rw [q] at h; exact h
theorem tq_rt {mt : Str → Option Bool} (h : U (.rt d dr)) : TQ mt S U (.rt d dr) := h
theorem tq_nx {mt : Str → Option Bool} (h : U (.nx ρ dr)) : TQ mt S U (.nx ρ dr) := h
theorem tq_ex {mt : Str → Option Bool} (z : mt e.cls = some true) (h : SW (S ρ dr) fun r => U r ∧ ∀ e ρ dr, r ≠ .ex e ρ dr) : TQ mt S U (.ex e ρ dr) := by
  show (match mt e.cls with
    | some true => SW (S ρ dr) fun r => U r ∧ ∀ e ρ dr, r ≠ .ex e ρ dr
    | some false => U (.ex e ρ dr)
    | none => False)
  rw [z]; exact h
theorem fw {n : Nat} {ds : List D} (h : ds.map some ++ List.replicate (n - ds.length) none = ρ) (k : SW (S ρ dr) (FQ P X)) : EW (fnD n S ds dr) P X := by
  unfold fnD
  rw [h]
  cases q : S ρ dr with
  | _ => rw [q] at k; first | exact k | exact k.elim
theorem fw1 {n : Nat} {a : D} (k : SW (S (some a :: List.replicate n none) dr) (FQ P X)) : EW (fnD (n + 1) S [a] dr) P X := fw (n := n + 1) (ds := [a]) rfl k
theorem fw2 {n : Nat} {a b : D} (k : SW (S (some a :: some b :: List.replicate n none) dr) (FQ P X)) : EW (fnD (n + 2) S [a, b] dr) P X := fw (n := n + 2) (ds := [a, b]) rfl k
theorem fw3 {n : Nat} {a b c : D} (k : SW (S (some a :: some b :: some c :: List.replicate n none) dr) (FQ P X)) : EW (fnD (n + 3) S [a, b, c] dr) P X := fw (n := n + 3) (ds := [a, b, c]) rfl k
theorem fw4 {n : Nat} {a b c d : D} (k : SW (S (some a :: some b :: some c :: some d :: List.replicate n none) dr) (FQ P X)) : EW (fnD (n + 4) S [a, b, c, d] dr) P X := fw (n := n + 4) (ds := [a, b, c, d]) rfl k
/-! small things, put together -/
theorem len_ok {γ : Type} {ds : List γ} (h : ds.length ≤ 1000) : ds.length ≤ sizeLine := by rw [sizeLine_eq]; omega
theorem len_lt {γ : Type} {ds : List γ} (h : ds.length ≤ 1000) : ds.length < sizeLine := by rw [sizeLine_eq]; omega
theorem fzs_c {x x' : D} {xs xs' : List D} (h : x.fz = x') (t : D.fzs xs = xs') : D.fzs (x :: xs) = x' :: xs' := by rw [fzs_cons, h, t]
theorem fz_lstm {ι : Type} {o : Bool} {l : List ι} {f : ι → D} (h : ∀ i, (f i).fz = f i) : (D.lst o (l.map f)).fz = .lst false (l.map f) := by rw [fz_lst, fzs_frz _ _ h]
theorem fz_lst' {o : Bool} {xs xs' : List D} (h : D.fzs xs = xs') : (D.lst o xs).fz = .lst false xs' := by rw [fz_lst, h]
theorem wipe_nil : wipeD ρ [] = ρ := rfl
theorem wipe_c {v : Nat} {vs : List Nat} {ρ1 ρ2 : Rho} (h : wipeD ρ vs = ρ1) (q : ρ1.set v none = ρ2) : wipeD ρ (v :: vs) = ρ2 := by rw [wipeD_cons, h, q]
theorem set_s {γ : Type} {a x : γ} {l l' : List γ} {n : Nat} (h : l.set n x = l') : (a :: l).set (n + 1) x = a :: l' := by rw [List.set_cons_succ, h]
end
end DL
/-! MB5 -/
/-! MB5: operators on rows, tables, lists that are laid over places. -/
namespace DL
open PySem PySem.Spec PyProof.Rows L2
section
variable {ι κ : Type} {dr : Dr} {P : D → Dr → Prop} {X : Exn → Dr → Prop} {I : List ι} {J : List κ} {A : ι → κ → Rat} {r : κ → Rat} {n k : Nat} {o : Bool} {F : CEx} {ρ : Rho} {l : List ι} {f : ι → D}
theorem ew_lrg1 (h : EW (F ρ dr) (fun d dr => RgW d fun n => P (.lst true ((List.range n).map fun k : Nat => .int (k : Int))) dr) X) : EW (cLstRg (cRg1 F) ρ dr) P X := by
  refine ew_bind (r := cRg1 F ρ dr) (ew_bind (ew_m (fun d dr q => ?_) h))
  refine (rgw_d q).elim fun n hn => ?_
  rw [hn.1]
  have hn2 := rgLine_le hn.2.1
  have c : okRg 0 (n : Int) = true := by
    unfold okRg
    simp only [Bool.and_eq_true, decide_eq_true_eq]
    omega
  have k2 := hn.2.2
  rw [← rgD_nat] at k2
  refine ew_ok ?_
  simp only [c, if_true]
  exact k2
theorem rgw_n {Q : Nat → Prop} {n : Nat} (hn : n ≤ 100000) (k : Q n) : RgW (.int (n : Int)) Q := ⟨n, rfl, by unfold rgLine; exact hn, k⟩
theorem ow_lentab (h : P (.int (I.length : Int)) dr) : OW (gLen [tabL I J A]) dr P := ⟨_, by
  show some (D.int ((I.map fun i => rowL J (A i)).length : Int)) = _
  rw [List.length_map], h⟩
theorem ow_lentabR {A : Nat → κ → Rat} (h : P (.int (n : Int)) dr) : OW (gLen [tabL (List.range n) J A]) dr P := ow_lentab (by rw [List.length_range]; exact h)
theorem ow_lenrow (h : P (.int (J.length : Int)) dr) : OW (gLen [rowL J r]) dr P := ⟨_, by
  show some (D.int ((J.map fun i => qD (r i)).length : Int)) = _
  rw [List.length_map], h⟩
theorem ow_lenrowR {r : Nat → Rat} (h : P (.int (n : Int)) dr) : OW (gLen [rowL (List.range n) r]) dr P := ow_lenrow (by rw [List.length_range]; exact h)
theorem ow_lentup (h : P (.int (l.length : Int)) dr) : OW (gLen [.tup (l.map f)]) dr P := ⟨_, by
  show some (D.int ((l.map f).length : Int)) = _
  rw [List.length_map], h⟩
theorem ow_lenT {xs : List D} (h : P (.int (xs.length : Int)) dr) : OW (gLen [.tup xs]) dr P := ⟨_, rfl, h⟩
theorem ow_lenL {xs : List D} (h : P (.int (xs.length : Int)) dr) : OW (gLen [.lst o xs]) dr P := ⟨_, rfl, h⟩
theorem ow_lenlst (h : P (.int (l.length : Int)) dr) : OW (gLen [.lst o (l.map f)]) dr P := ⟨_, by
  show some (D.int ((l.map f).length : Int)) = _
  rw [List.length_map], h⟩
theorem ow_lenlstR {f : Nat → D} (h : P (.int (n : Int)) dr) : OW (gLen [.lst o ((List.range n).map f)]) dr P := ow_lenlst (by rw [List.length_range]; exact h)
theorem ow_tuple (hq : ∀ i, (f i).frz = true) (h : P (.tup (l.map f)) dr) : OW (gTuple [.lst o (l.map f)]) dr P := ⟨_, gTuple_lst l f hq, h⟩
theorem ow_list (hq : ∀ i, (f i).frz = true) (h : P (.lst true (l.map f)) dr) : OW (gList [.lst o (l.map f)]) dr P := ⟨_, by
  show (if (l.map f).all D.frz = true then some (D.lst true (l.map f)) else none) = _
  rw [if_pos (all_frz l f hq)], h⟩
theorem ow_listT {xs : List D} (h : P (.lst true xs) dr) : OW (gList [.tup xs]) dr P := ⟨_, rfl, h⟩
theorem at_map {f : Nat → D} (h : k < n) : atI ((List.range n).map f) (k : Int) = some (f k) := by
  refine atI_nat ?_
  rw [List.getElem?_map, List.getElem?_range h]
  rfl
theorem ow_ixtab {A : Nat → κ → Rat} (h : k < n) (q : P (rowL J (A k)) dr) : OW (gIx (tabL (List.range n) J A) (.int (k : Int))) dr P := ⟨_, at_map (f := fun i => rowL J (A i)) h, q⟩
theorem ow_ixrow {r : Nat → Rat} (h : k < n) (q : P (qD (r k)) dr) : OW (gIx (rowL (List.range n) r) (.int (k : Int))) dr P := ⟨_, at_map (f := fun i => qD (r i)) h, q⟩
theorem ow_ixlst {f : Nat → D} (h : k < n) (q : P (f k) dr) : OW (gIx (.lst o ((List.range n).map f)) (.int (k : Int))) dr P := ⟨_, at_map h, q⟩
theorem ow_ixtup {f : Nat → D} (h : k < n) (q : P (f k) dr) : OW (gIx (.tup ((List.range n).map f)) (.int (k : Int))) dr P := ⟨_, at_map h, q⟩
theorem ow_num {q : Rat} (h : P (.int q.num) dr) : OW (gIx (qD q) (.int 0)) dr P := ⟨_, rfl, h⟩
theorem ow_den {q : Rat} (h : P (.int (q.den : Int)) dr) : OW (gIx (qD q) (.int 1)) dr P := ⟨_, rfl, h⟩
theorem ow_mul {a b : Int} (c : a.natAbs.log2 + b.natAbs.log2 < 1000000) (h : P (.int (a * b)) dr) : OW (gMul (.int a) (.int b)) dr P := ⟨_, gmul_int c, h⟩
theorem ow_mulI {a b : Int} (c : a.natAbs.log2 + b.natAbs.log2 < 1000000) (h : P (.int (a * b)) dr) : OW (gMulI (.int a) (.int b)) dr P := ⟨_, gmulI_int c, h⟩
theorem ow_tst {z : D} {oo : Option D} (e : oo = some z) (h : P z dr) : OW oo dr P := ⟨z, e, h⟩
theorem len_map_le {γ δ : Type} {l : List γ} {f : γ → δ} (h : l.length ≤ 1000) : (l.map f).length ≤ sizeLine := by rw [List.length_map]; exact len_ok h
theorem map_app1 {γ δ : Type} {f : γ → δ} {s : List γ} {x : γ} : s.map f ++ [f x] = (s ++ [x]).map f := by rw [List.map_append]; rfl
theorem zpw_rr {g : κ → Rat} {Q : List D → Prop} (k : Q (J.map fun j => .tup [qD (r j), qD (g j)])) : ZpW [rowL J r, rowL J g] Q := zpw_tt k
theorem lgle {x N : Nat} (h : x < 2 ^ N) : x.log2 ≤ N := by
  rcases Nat.eq_zero_or_pos N with z | z
  · subst z
    have : x = 0 := by omega
    subst this
    decide
  · exact Nat.le_of_lt (lg h z)
theorem rng_mid {n y : Nat} {ws zt : List Nat} (h : List.range n = ws ++ y :: zt) : ws = List.range y ∧ y < n ∧ ws.length = y := by
  have l := congrArg List.length h
  rw [List.length_range, List.length_append, List.length_cons] at l
  have e1 : (List.range n)[ws.length]? = some y := by rw [h, List.getElem?_append_right (Nat.le_refl _), Nat.sub_self]; rfl
  rw [List.getElem?_range (by omega)] at e1
  have e1 : ws.length = y := Option.some.inj e1
  refine ⟨?_, by omega, e1⟩
  have e2 : (List.range n).take ws.length = ws := by rw [h, List.take_left]
  rw [← e2, List.take_range, e1, Nat.min_eq_left (by omega)]
theorem rng_set {f : Nat → D} {v : D} {j : Nat} : ((List.range n).map f).set j v = (List.range n).map fun i => if i = j then v else f i := by
  refine List.ext_getElem (by simp) fun i h1 h2 => ?_
  rw [List.getElem_set]
  simp only [List.getElem_map, List.getElem_range]
  by_cases h : j = i
  · rw [if_pos h, if_pos h.symm]
  · rw [if_neg h, if_neg fun z => h z.symm]
/-! values of any kind -/
mutual
/-- no def, no draws, no list of one's own -/
def _root_.DL.D.cl : D → Bool
  | .fn _ => false
  | .dr => false
  | .tup xs => D.cls xs
  | .lst o xs => !o && D.cls xs
  | _ => true
def _root_.DL.D.cls : List D → Bool
  | [] => true
  | x :: xs => D.cl x && D.cls xs
end
theorem cls_mem : ∀ {xs : List D}, D.cls xs = true → ∀ x ∈ xs, x.cl = true
  | [], _, _, h => nomatch h
  | x :: xs, h, y, hy => by
    have h : (D.cl x && D.cls xs) = true := h
    rw [Bool.and_eq_true] at h
    rcases List.mem_cons.mp hy with z | z
    · rw [z]; exact h.1
    · exact cls_mem h.2 y z
mutual
theorem fz_cl : ∀ (d : D), d.cl = true → d.fz = d
  | .lst o xs, h => by
    have h : (!o && D.cls xs) = true := h
    rw [Bool.and_eq_true] at h
    rw [fz_lst, fzs_cl xs h.2]
    cases o
    · rfl
    · exact absurd h.1 (by decide)
  | .tup _, _ => rfl
  | .non, _ => rfl
  | .bl _, _ => rfl
  | .int _, _ => rfl
  | .str _, _ => rfl
  | .fn _, _ => rfl
  | .dr, _ => rfl
theorem fzs_cl : ∀ (xs : List D), D.cls xs = true → D.fzs xs = xs
  | [], _ => rfl
  | x :: xs, h => by
    have h : (D.cl x && D.cls xs) = true := h
    rw [Bool.and_eq_true] at h
    rw [fzs_cons, fz_cl x h.1, fzs_cl xs h.2]
end
theorem frz_cl {d : D} (h : d.cl = true) : d.frz = true := by
  cases d with
  | lst o xs =>
    have h : (!o && D.cls xs) = true := h
    rw [Bool.and_eq_true] at h
    exact h.1
  | _ => rfl
def _root_.DL.D.isW : D → Bool
  | .int _ => true
  | _ => false
def _root_.DL.D.isQ : D → Bool
  | .tup [.int a, .int b] => decide (0 < b) && (Int.gcd a b == 1)
  | _ => false
def isRow (n : Int) : D → Bool
  | .tup xs => ((xs.length : Int) == n) && xs.all D.isQ
  | _ => false
def isSq (n : Int) : D → Bool
  | .tup xs => ((xs.length : Int) == n) && xs.all (isRow n)
  | _ => false
def isTab : D → Bool
  | .tup xs => decide (0 < (xs.length : Int)) && decide ((xs.length : Int) ≤ 4) && isSq xs.length (.tup xs)
  | _ => false
def isEqn : D → Bool
  | .tup (x :: xs) => decide (1 < ((x :: xs).length : Int)) && decide (((x :: xs).length : Int) ≤ 21) && isRow (x :: xs).length (.tup (x :: xs)) && x.eqv (.tup [.int 1, .int 1])
  | _ => false
theorem isQ_qD (q : Rat) : (qD q).isQ = true := by
  show (decide (0 < (q.den : Int)) && (Int.gcd q.num q.den == 1)) = true
  have h1 := q.den_pos
  have h2 := q.reduced
  rw [Bool.and_eq_true]
  refine ⟨decide_eq_true (by omega), ?_⟩
  have : Int.gcd q.num q.den = 1 := h2
  rw [this]; rfl
theorem isRow_row (J : List κ) (r : κ → Rat) {n : Int} (h : (J.length : Int) = n) : isRow n (rowL J r) = true := by
  show (((J.map fun i => qD (r i)).length : Int) == n && (J.map fun i => qD (r i)).all D.isQ) = true
  rw [List.length_map, h, Bool.and_eq_true]
  refine ⟨by simp, ?_⟩
  rw [List.all_eq_true]
  intro x hx
  obtain ⟨j, _, rfl⟩ := List.mem_map.mp hx
  exact isQ_qD _
theorem isTab_tab (A : ι → κ → Rat) (h : I.length = J.length) (h0 : 0 < I.length) (h4 : I.length ≤ 4) : isTab (tabL I J A) = true := by
  show (decide (0 < ((I.map fun i => rowL J (A i)).length : Int)) && decide (((I.map fun i => rowL J (A i)).length : Int) ≤ 4) && (((I.map fun i => rowL J (A i)).length : Int) == ((I.map fun i => rowL J (A i)).length : Int) && (I.map fun i => rowL J (A i)).all (isRow (I.map fun i => rowL J (A i)).length))) = true
  rw [List.length_map]
  simp only [Bool.and_eq_true, decide_eq_true_eq, beq_self_eq_true, true_and]
  refine ⟨⟨by omega, by omega⟩, ?_⟩
  rw [List.all_eq_true]
  intro x hx
  obtain ⟨j, _, rfl⟩ := List.mem_map.mp hx
  exact isRow_row _ _ (by rw [h])
theorem cl_qD (q : Rat) : (qD q).cl = true := rfl
theorem cls_map {f : ι → D} (h : ∀ i, (f i).cl = true) : ∀ (l : List ι), D.cls (l.map f) = true
  | [] => rfl
  | x :: l => by
    show (D.cl (f x) && D.cls (l.map f)) = true
    rw [h x, cls_map h l]; rfl
theorem cl_row (J : List κ) (r : κ → Rat) : (rowL J r).cl = true := cls_map (fun _ => rfl) J
theorem cl_tab (I : List ι) (J : List κ) (A : ι → κ → Rat) : (tabL I J A).cl = true := cls_map (fun i => cl_row J (A i)) I
/-! all([..]) -/
theorem bls_map (f : ι → Bool) : ∀ (l : List ι), bls? (l.map fun i => .bl (f i)) = some (l.map f)
  | [] => rfl
  | x :: l => by
    show ((D.bl (f x)).bl?).bind _ = _
    show (bls? (l.map fun i => .bl (f i))).map (fun is => f x :: is) = _
    rw [bls_map f l]; rfl
theorem ow_all {f : ι → Bool} (h : P (.bl (l.all f)) dr) : OW (gAll [.lst o (l.map fun i => .bl (f i))]) dr P := ⟨_, by
  show (bls? (l.map fun i => .bl (f i))).map (fun ns => D.bl (ns.all fun b => b)) = some (.bl (l.all f))
  rw [bls_map, Option.map_some, List.all_map]; rfl, h⟩
theorem ints_map (f : ι → Int) : ∀ (l : List ι), ints? (l.map fun i => .int (f i)) = some (l.map f)
  | [] => rfl
  | x :: l => by
    show (ints? (l.map fun i => .int (f i))).map (fun is => f x :: is) = _
    rw [ints_map f l]; rfl
theorem ow_sum {f : ι → Int} (h : P (.int (l.map f).sum) dr) : OW (gSum [.lst o (l.map fun i => .int (f i))]) dr P := ⟨_, by
  show (ints? (l.map fun i => .int (f i))).map (fun ns => D.int ns.sum) = some (.int (l.map f).sum)
  rw [ints_map]; rfl, h⟩
theorem ow_ixlst0 {f : Nat → D} (h : 0 < n) (q : P (f 0) dr) : OW (gIx (.lst o ((List.range n).map f)) (.int 0)) dr P := ⟨_, at_map (k := 0) h, q⟩
theorem ow_ixtup0 {f : Nat → D} (h : 0 < n) (q : P (f 0) dr) : OW (gIx (.tup ((List.range n).map f)) (.int 0)) dr P := ⟨_, at_map (k := 0) h, q⟩
theorem sum_filter (f : ι → Int) (p : ι → Bool) (h : ∀ i, p i = false → f i = 0) : ∀ (l : List ι), ((l.filter p).map f).sum = (l.map f).sum
  | [] => rfl
  | x :: l => by
    by_cases c : p x = true
    · rw [List.filter_cons_of_pos c, List.map_cons, List.sum_cons, List.map_cons, List.sum_cons, sum_filter f p h l]
    · rw [List.filter_cons_of_neg c, List.map_cons, List.sum_cons, sum_filter f p h l, h x (by simpa using c), Int.zero_add]
theorem ow_any {f : ι → Bool} (h : P (.bl (l.any f)) dr) : OW (gAny [.lst o (l.map fun i => .bl (f i))]) dr P := ⟨_, by
  show (bls? (l.map fun i => .bl (f i))).map (fun ns => D.bl (ns.any fun b => b)) = some (.bl (l.any f))
  rw [bls_map, Option.map_some, List.any_map]; rfl, h⟩
/-- a table of integers, lists of a list -/
def lstZ {ι κ : Type} (o : Bool) (I : List ι) (J : List κ) (W : ι → κ → Int) : D := .lst o (I.map fun i => .lst o (J.map fun j => .int (W i j)))
theorem fz_lstZ {ι κ : Type} (o : Bool) (I : List ι) (J : List κ) (W : ι → κ → Int) : (lstZ o I J W).fz = lstZ false I J W := by
  unfold lstZ
  rw [fz_lst, fzs_map, List.map_map]
  congr 1
  refine List.map_congr_left fun i _ => ?_
  show (D.lst o (J.map fun j => .int (W i j))).fz = _
  rw [fz_lst, fzs_intm]
theorem cl_lstZ {ι κ : Type} (I : List ι) (J : List κ) (W : ι → κ → Int) : (lstZ false I J W).cl = true := cls_map (f := fun i => D.lst false (J.map fun j => .int (W i j))) (fun i => (show (!false && D.cls (J.map fun j => D.int (W i j))) = true from by rw [cls_map (f := fun j => D.int (W i j)) (fun _ => rfl) J]; rfl)) I
theorem ow_lenZ {n : Nat} {J : List Nat} {W : Nat → Nat → Int} (h : P (.int (n : Int)) dr) : OW (gLen [lstZ o (List.range n) J W]) dr P := ow_lenlstR h
theorem ow_ixZ {n : Nat} {J : List Nat} {W : Nat → Nat → Int} (h : k < n) (q : P (.lst o (J.map fun j => .int (W k j))) dr) : OW (gIx (lstZ o (List.range n) J W) (.int (k : Int))) dr P := ow_ixlst (f := fun i => .lst o (J.map fun j => .int (W i j))) h q
theorem lstZ_congr {n : Nat} {o : Bool} {W V : Nat → Nat → Int} (h : ∀ i j, i < n → j < n → W i j = V i j) : lstZ o (List.range n) (List.range n) W = lstZ o (List.range n) (List.range n) V := by
  unfold lstZ
  congr 1
  refine List.map_congr_left fun i hi => ?_
  congr 1
  refine List.map_congr_left fun j hj => ?_
  rw [h i j (List.mem_range.mp hi) (List.mem_range.mp hj)]
def updZ (W : Nat → Nat → Int) (p q : Nat) (t : Int) (i j : Nat) : Int := if i = p ∧ j = q then W i j + t else W i j
theorem ixD_rng {n : Nat} {f : Nat → D} {p : Nat} (h : p < n) : ixD ((List.range n).map f) (.int (p : Int)) = some p := by
  show ixN ((List.range n).map f).length (p : Int) = some p
  unfold ixN
  rw [List.length_map, List.length_range, if_pos (by omega), if_pos (by omega)]
  rfl
/-- y[p][q] += t -/
theorem sw_aug2Z {n p q i : Nat} {W : Nat → Nat → Int} {t : Int} {ρ : Rho} {dr : Dr} {J1 J2 F : CEx} {U : SR → Prop} (h : ρ[i]? = some (some (lstZ true (List.range n) (List.range n) W))) (hp : p < n) (hq : q < n)
    (h1 : J1 ρ dr = .ok (.int (p : Int)) dr) (h2 : J2 ρ dr = .ok (.int (q : Int)) dr) (h3 : F ρ dr = .ok (.int t) dr) (k : StW i (lstZ true (List.range n) (List.range n) (updZ W p q t)) ρ fun ρ => U (.nx ρ dr)) : SW (cAug2 i J1 J2 gAddI F ρ dr) U := by
  have e0 : ownAt ρ i = some ((List.range n).map fun i => D.lst true ((List.range n).map fun j => .int (W i j))) := by
    unfold ownAt; rw [h]; rfl
  have e1 : ixD ((List.range n).map fun i => D.lst true ((List.range n).map fun j => .int (W i j))) (.int (p : Int)) = some p := ixD_rng hp
  have e2 : inAt ((List.range n).map fun i => D.lst true ((List.range n).map fun j => .int (W i j))) p = some ((List.range n).map fun j => .int (W p j)) := by
    unfold inAt
    rw [List.getElem?_map, List.getElem?_range hp]; rfl
  have e3 : ixD ((List.range n).map fun j => D.int (W p j)) (.int (q : Int)) = some q := ixD_rng hq
  have e4 : ((List.range n).map fun j => D.int (W p j))[q]? = some (.int (W p q)) := by
    rw [List.getElem?_map, List.getElem?_range hq]; rfl
  refine sw_eq (r' := .nx (ρ.set i (some (lstZ true (List.range n) (List.range n) (updZ W p q t)))) dr) ?_ k
  unfold cAug2
  rw [e0]
  simp only [sopt_some, h1, stm_ok, e1, e2, h2, e3, e4, h3, gaddI_int, fz_int]
  unfold aug1
  rw [rng_set, rng_set]
  have : ((List.range n).map fun i => if i = p then D.lst true ((List.range n).map fun i => if i = q then D.int (W p q + t) else D.int (W p i)) else D.lst true ((List.range n).map fun j => .int (W i j))) = (List.range n).map fun i => D.lst true ((List.range n).map fun j => .int (updZ W p q t i j)) := ?_
  · rw [this]; rfl
  refine List.map_congr_left fun a ha => ?_
  unfold updZ
  by_cases ea : a = p
  · subst ea
    rw [if_pos rfl]
    congr 1
    refine List.map_congr_left fun b hb => ?_
    by_cases eb : b = q
    · subst eb
      rw [if_pos rfl, if_pos ⟨rfl, rfl⟩]
    · rw [if_neg eb, if_neg fun z => eb z.2]
  · rw [if_neg ea]
    congr 1
    refine List.map_congr_left fun b hb => ?_
    rw [if_neg fun z => ea z.1]
/-- [x] * k -/
theorem rep_rng {γ : Type} (x : γ) : ∀ k : Nat, (List.replicate k [x]).flatten = (List.range k).map fun _ => x
  | 0 => rfl
  | k + 1 => by rw [List.replicate_succ', List.flatten_append, rep_rng x k, List.range_succ, List.map_append]; rfl
theorem ow_rep {x : D} {k : Nat} (hx : x.frz = true) (hk : k ≤ 1000) (h : P (.lst true ((List.range k).map fun _ => x)) dr) : OW (gMul (.lst o [x]) (.int (k : Int))) dr P := ⟨_, by
  have c : (decide (-(2 ^ 63) ≤ (k : Int)) && decide ((k : Int) < 2 ^ 63) && decide (([x] : List D).length * (k : Int).toNat ≤ sizeLine) && [x].all D.frz) = true := by
    rw [sizeLine_eq]
    simp [hx]
    omega
  simp only [gMul]
  rw [if_pos c, Int.toNat_natCast, rep_rng x k], h⟩
/-- y[j] = e -/
theorem sw_setIxR {i n j : Nat} {f : Nat → D} {ρ : Rho} {dr : Dr} {F J : CEx} {U : SR → Prop} (h : ρ[i]? = some (some (.lst true ((List.range n).map f)))) (hj : j < n)
    (k : EW (F ρ dr) (fun d dr => EW (J ρ dr) (fun z dr => z = .int (j : Int) ∧ StW i (.lst true ((List.range n).map fun m => if m = j then d else f m)) ρ fun ρ => U (.nx ρ dr)) (fun e dr => U (.ex e ρ dr))) (fun e dr => U (.ex e ρ dr))) : SW (cSetIx i F J ρ dr) U := by
  refine sw_setIx h (ew_m (fun d dr kk => ew_m (fun z dr k2 => ?_) kk) k)
  obtain ⟨rfl, k3⟩ := k2
  refine ⟨j, ixD_rng (f := f) hj, ?_⟩
  rw [rng_set]
  exact k3
theorem rng_rev {n : Nat} {f : Nat → D} : ((List.range (n + 1)).map f).reverse = (List.range (n + 1)).map fun k => f (n - k) := by
  refine List.ext_getElem (by simp) fun i h1 h2 => ?_
  rw [List.getElem_reverse]
  simp only [List.getElem_map, List.getElem_range, List.length_map, List.length_range]
  congr 1
theorem gRev_rng {n : Nat} {f : Nat → D} : gRev (.lst false ((List.range (n + 1)).map f)) = some (.lst true ((List.range (n + 1)).map fun k => f (n - k))) := by
  show some (D.lst true ((List.range (n + 1)).map f).reverse) = _
  rw [rng_rev]
/-! fractions over one lower number -/
structure Fr (D B : Nat) (q : Rat) : Prop where
  z : ∃ z : Int, z.natAbs ≤ B ∧ q * (D : Rat) = (z : Rat)
theorem Fr.mono {D B C : Nat} {q : Rat} (h : Fr D B q) (k : B ≤ C) : Fr D C q := by
  obtain ⟨z, h1, h2⟩ := h.z
  exact ⟨z, Nat.le_trans h1 k, h2⟩
theorem Fr.add {D B C : Nat} {q r : Rat} (h : Fr D B q) (k : Fr D C r) : Fr D (B + C) (q + r) := by
  obtain ⟨z, h1, h2⟩ := h.z
  obtain ⟨y, h3, h4⟩ := k.z
  refine ⟨z + y, by have := Int.natAbs_add_le z y; omega, ?_⟩
  rw [Rat.add_mul, h2, h4, Rat.intCast_add]
theorem Fr.neg {D B : Nat} {q : Rat} (h : Fr D B q) : Fr D B (-q) := by
  obtain ⟨z, h1, h2⟩ := h.z
  refine ⟨-z, by rw [Int.natAbs_neg]; exact h1, ?_⟩
  rw [Rat.neg_mul, h2, Rat.intCast_neg]
theorem Fr.mul {D E B C : Nat} {q r : Rat} (h : Fr D B q) (k : Fr E C r) : Fr (D * E) (B * C) (q * r) := by
  obtain ⟨z, h1, h2⟩ := h.z
  obtain ⟨y, h3, h4⟩ := k.z
  refine ⟨z * y, by rw [Int.natAbs_mul]; exact Nat.mul_le_mul h1 h3, ?_⟩
  rw [Rat.intCast_mul, ← h2, ← h4, Rat.natCast_mul]
  grind
theorem Fr.zero {D : Nat} (B : Nat) : Fr D B 0 := ⟨0, Nat.zero_le _, by rw [Rat.zero_mul]; rfl⟩
theorem Fr.eq {D B : Nat} {q : Rat} (h : Fr D B q) (h0 : 0 < D) : ∃ z : Int, z.natAbs ≤ B ∧ q = Rat.divInt z D := by
  obtain ⟨z, h1, h2⟩ := h.z
  refine ⟨z, h1, ?_⟩
  have hd : (D : Rat) ≠ 0 := by
    intro c
    have : (D : Rat) = ((0 : Nat) : Rat) := c
    have := Rat.natCast_inj.mp this
    omega
  rw [Rat.divInt_eq_div]
  have : ((D : Int) : Rat) = (D : Rat) := Rat.intCast_natCast D
  rw [this, ← h2]
  grind
theorem Fr.sm {D B N : Nat} {q : Rat} (h : Fr D B q) (h0 : 0 < D) (hD : D < 2 ^ N) (hB : B < 2 ^ N) : Sm N q := by
  obtain ⟨z, h1, rfl⟩ := h.eq h0
  exact divInt_sm (Nat.lt_of_le_of_lt h1 hB) (by rw [Int.natAbs_natCast]; exact hD) (by omega)
/-- a list of fractions -/
def lstQ (o : Bool) (n : Nat) (p : Nat → Rat) : D := .lst o ((List.range n).map fun k => qD (p k))
theorem fz_lstQ (o : Bool) (n : Nat) (p : Nat → Rat) : (lstQ o n p).fz = lstQ false n p := by
  unfold lstQ
  rw [fz_lst, fzs_qD]
theorem it_lstQ {o : Bool} {n : Nat} {p : Nat → Rat} {Q : List D → Prop} (k : Q ((List.range n).map fun k => qD (p k))) : ItW (lstQ o n p) Q := it_lst (fzs_qD _ _) k
theorem ow_lenQ {n : Nat} {p : Nat → Rat} (h : P (.int (n : Int)) dr) : OW (gLen [lstQ o n p]) dr P := ow_lenlstR h
theorem ow_ixQ {n : Nat} {p : Nat → Rat} (h : k < n) (q : P (qD (p k)) dr) : OW (gIx (lstQ o n p) (.int (k : Int))) dr P := ow_ixlst (f := fun k => qD (p k)) h q
theorem ow_tupQ {n : Nat} {p : Nat → Rat} (q : P (rowL (List.range n) p) dr) : OW (gTuple [lstQ o n p]) dr P := ow_tuple (f := fun k => qD (p k)) (fun _ => rfl) q
theorem isi_lstQ {n : Nat} {p : Nat → Rat} : D.isi "tuple" (lstQ o n p) = some false := rfl
theorem cl_lstQ (n : Nat) (p : Nat → Rat) : (lstQ false n p).cl = true := (show (!false && D.cls ((List.range n).map fun k => qD (p k))) = true from by rw [cls_map (f := fun k => qD (p k)) (fun _ => rfl)]; rfl)
theorem ow_revQ {n : Nat} {p : Nat → Rat} (q : P (lstQ true (n + 1) fun k => p (n - k)) dr) : OW (gRev (unO (lstQ o (n + 1) p))) dr P := ⟨_, by
  show gRev (.lst false (D.fzs ((List.range (n + 1)).map fun k => qD (p k)))) = some (lstQ true (n + 1) fun k => p (n - k))
  rw [fzs_qD, gRev_rng]
  rfl, q⟩
theorem ow_revR {n : Nat} {p : Nat → Rat} (q : P (rowL (List.range (n + 1)) fun k => p (n - k)) dr) : OW (gRev (unO (rowL (List.range (n + 1)) p))) dr P := ⟨_, by
  show some (D.tup ((List.range (n + 1)).map fun k => qD (p k)).reverse) = some (rowL (List.range (n + 1)) fun k => p (n - k))
  rw [rng_rev]
  rfl, q⟩
theorem ow_ixT {xs : List D} {i : Int} {z : D} (h : atI xs i = some z) (q : P z dr) : OW (gIx (.tup xs) (.int i)) dr P := ⟨z, h, q⟩
theorem ow_ixL {xs : List D} {i : Int} {z : D} (h : atI xs i = some z) (q : P z dr) : OW (gIx (.lst o xs) (.int i)) dr P := ⟨z, h, q⟩
end
end DL
/-! MB6 -/
/-! MB6: two places exchanged; what is nobody's own. -/
namespace DL
open PySem PySem.Spec PyProof.Rows L2
section
variable {F : CEx} {ρ : Rho} {dr : Dr} {P : D → Dr → Prop} {X : Exn → Dr → Prop} {U : SR → Prop}
theorem ew_fzE (h : EW (F ρ dr) (fun d dr => FzD d fun d => P d dr) X) : EW (cFzE F ρ dr) P X := ew_bind (ew_m (fun d dr k => k) h)
theorem put_rng {i n j : Nat} {f : Nat → D} {d : D} {J : CEx} (h : ρ[i]? = some (some (.lst true ((List.range n).map f)))) (hj : j < n) (hJ : J ρ dr = .ok (.int (j : Int)) dr) : cPutIx i J d ρ dr = .nx (ρ.set i (some (.lst true ((List.range n).map fun x => if x = j then d else f x)))) dr := by
  unfold cPutIx
  rw [h]
  show (J ρ dr).stm ρ (setK i ρ ((List.range n).map f) d) = _
  rw [hJ]
  show setK i ρ ((List.range n).map f) d (.int (j : Int)) dr = _
  have e := ixD_rng (f := f) hj
  have e2 : ixN ((List.range n).map f).length (j : Int) = some j := e
  simp only [setK, e2]
  rw [rng_set]
theorem sw_swapR {i n j k : Nat} {f : Nat → D} {d1 d2 : D} {J1 J2 : CEx} {A : CAx} (h : ρ[i]? = some (some (.lst true ((List.range n).map f)))) (hj : j < n) (hk : k < n) (hA : A ρ dr = .ok [d1, d2] dr) (f1 : d1.frz = true) (f2 : d2.frz = true) (hJ1 : J1 ρ dr = .ok (.int (j : Int)) dr)
    (hJ2 : J2 (ρ.set i (some (.lst true ((List.range n).map fun x => if x = j then d1 else f x)))) dr = .ok (.int (k : Int)) dr) (w : U (.nx (ρ.set i (some (.lst true ((List.range n).map fun x => if x = k then d2 else if x = j then d1 else f x)))) dr)) : SW (cSwap i J1 J2 A ρ dr) U := by
  have hi : i < ρ.length := (List.getElem?_eq_some_iff.mp h).1
  have e : cSwap i J1 J2 A ρ dr = .nx (ρ.set i (some (.lst true ((List.range n).map fun x => if x = k then d2 else if x = j then d1 else f x)))) dr := by
    unfold cSwap
    rw [hA]
    show (if d1.frz = true ∧ d2.frz = true then cSwapGo i J1 J2 d1 d2 ρ dr else .st) = _
    rw [if_pos ⟨f1, f2⟩]
    unfold cSwapGo
    rw [s_seq, put_rng h hj hJ1]
    show cPutIx i J2 d2 (ρ.set i _) dr = _
    rw [put_rng (List.getElem?_set_self hi) hk hJ2, List.set_set]
  exact sw_eq e w
end
end DL
/-! MQ1 -/
set_option maxHeartbeats 4000000
/-! MQ1: tables of fractions: products, traces, powers; the equation by Faddeev and Leverrier. -/
namespace DL
section
variable {ι κ : Type}
theorem sumL_congr {I : List ι} {f g : ι → Rat} (h : ∀ i ∈ I, f i = g i) : sumL I f = sumL I g := by
  unfold sumL
  rw [List.map_congr_left h]
theorem sumL_add (I : List ι) (f g : ι → Rat) : sumL I (fun i => f i + g i) = sumL I f + sumL I g := by
  induction I with
  | nil => rw [sumL_nil, sumL_nil, sumL_nil, Rat.add_zero]
  | cons x I ih => rw [sumL_cons, sumL_cons, sumL_cons, ih]; grind
theorem sumL_mul (I : List ι) (c : Rat) (f : ι → Rat) : sumL I (fun i => c * f i) = c * sumL I f := by
  induction I with
  | nil => rw [sumL_nil, sumL_nil, Rat.mul_zero]
  | cons x I ih => rw [sumL_cons, sumL_cons, ih]; grind
theorem sumL_mulr (I : List ι) (c : Rat) (f : ι → Rat) : sumL I (fun i => f i * c) = sumL I f * c := by
  rw [Rat.mul_comm, ← sumL_mul]
  exact sumL_congr fun i _ => Rat.mul_comm _ _
theorem sumL_zero (I : List ι) : sumL I (fun _ => 0) = 0 := by
  induction I with
  | nil => rfl
  | cons x I ih => rw [sumL_cons, ih, Rat.add_zero]
theorem sumL_comm (I : List ι) (J : List κ) (f : ι → κ → Rat) : sumL I (fun i => sumL J fun j => f i j) = sumL J fun j => sumL I fun i => f i j := by
  induction I with
  | nil => rw [sumL_nil]; exact (sumL_zero J).symm
  | cons x I ih =>
    rw [sumL_cons, ih, ← sumL_add]
    exact sumL_congr fun j _ => (sumL_cons x I fun i => f i j).symm
theorem sumL_one (n k : Nat) (h : k < n) (f : Nat → Rat) : sumL (List.range n) (fun i => if i = k then f i else 0) = f k := by
  induction n with
  | zero => omega
  | succ n ih =>
    unfold sumL at ih ⊢
    rw [List.range_succ, List.map_append, List.sum_append, List.map_singleton, List.sum_singleton]
    by_cases c : k = n
    · subst c
      rw [if_pos rfl]
      have : ((List.range k).map fun i => if i = k then f i else 0) = (List.range k).map fun _ => 0 := List.map_congr_left fun i hi => if_neg (by have := List.mem_range.mp hi; omega)
      rw [this]
      have := sumL_zero (List.range k)
      unfold sumL at this
      rw [this, Rat.zero_add]
    · rw [if_neg (by omega), ih (by omega), Rat.add_zero]
end
abbrev Mq := Nat → Nat → Rat
/-- equal where it counts -/
def EqM (n : Nat) (X Y : Mq) : Prop := ∀ i j, i < n → j < n → X i j = Y i j
def mulQ (n : Nat) (X Y : Mq) : Mq := fun i l => sumL (List.range n) fun j => X i j * Y j l
def trQ (n : Nat) (X : Mq) : Rat := sumL (List.range n) fun p => X p p
def idQ : Mq := fun i j => if i = j then 1 else 0
theorem EqM.refl {n : Nat} (X : Mq) : EqM n X X := fun _ _ _ _ => rfl
theorem EqM.symm {n : Nat} {X Y : Mq} (h : EqM n X Y) : EqM n Y X := fun i j hi hj => (h i j hi hj).symm
theorem EqM.trans {n : Nat} {X Y Z : Mq} (h : EqM n X Y) (k : EqM n Y Z) : EqM n X Z := fun i j hi hj => (h i j hi hj).trans (k i j hi hj)
theorem mulQ_congr {n : Nat} {X X' Y Y' : Mq} (h : EqM n X X') (k : EqM n Y Y') : EqM n (mulQ n X Y) (mulQ n X' Y') := fun i l hi hl => sumL_congr fun j hj => by rw [h i j hi (List.mem_range.mp hj), k j l (List.mem_range.mp hj) hl]
theorem trQ_congr {n : Nat} {X Y : Mq} (h : EqM n X Y) : trQ n X = trQ n Y := sumL_congr fun p hp => h p p (List.mem_range.mp hp) (List.mem_range.mp hp)
theorem mulQ_assoc (n : Nat) (X Y Z : Mq) : mulQ n (mulQ n X Y) Z = mulQ n X (mulQ n Y Z) := by
  funext i l
  show sumL (List.range n) (fun j => sumL (List.range n) (fun k => X i k * Y k j) * Z j l) = sumL (List.range n) fun k => X i k * sumL (List.range n) fun j => Y k j * Z j l
  have e1 : (fun j => sumL (List.range n) (fun k => X i k * Y k j) * Z j l) = fun j => sumL (List.range n) fun k => X i k * Y k j * Z j l := by
    funext j; rw [sumL_mulr]
  have e2 : (fun k => X i k * sumL (List.range n) fun j => Y k j * Z j l) = fun k => sumL (List.range n) fun j => X i k * Y k j * Z j l := by
    funext k
    rw [← sumL_mul]
    exact sumL_congr fun j _ => by grind
  rw [e1, e2, sumL_comm]
theorem tr_comm (n : Nat) (X Y : Mq) : trQ n (mulQ n X Y) = trQ n (mulQ n Y X) := by
  show sumL (List.range n) (fun p => sumL (List.range n) fun j => X p j * Y j p) = sumL (List.range n) fun p => sumL (List.range n) fun j => Y p j * X j p
  rw [sumL_comm]
  exact sumL_congr fun j _ => sumL_congr fun p _ => Rat.mul_comm _ _
theorem mulQ_id (n : Nat) (X : Mq) : EqM n (mulQ n X idQ) X := fun i l hi hl => by
  show sumL (List.range n) (fun j => X i j * if j = l then 1 else 0) = X i l
  rw [← sumL_one n l hl fun j => X i j]
  exact sumL_congr fun j _ => by split <;> grind
theorem id_mulQ (n : Nat) (X : Mq) : EqM n (mulQ n idQ X) X := fun i l hi hl => by
  show sumL (List.range n) (fun j => (if i = j then 1 else 0) * X j l) = X i l
  rw [← sumL_one n i hi fun j => X j l]
  exact sumL_congr fun j _ => by
    by_cases c : i = j
    · rw [if_pos c, if_pos c.symm, Rat.one_mul]
    · rw [if_neg c, if_neg fun z => c z.symm, Rat.zero_mul]
/-- powers -/
def pwM (n : Nat) (X : Mq) : Nat → Mq
  | 0 => idQ
  | k + 1 => mulQ n X (pwM n X k)
theorem pwM_congr {n : Nat} {X Y : Mq} (h : EqM n X Y) : ∀ k, EqM n (pwM n X k) (pwM n Y k)
  | 0 => .refl _
  | k + 1 => mulQ_congr h (pwM_congr h k)
theorem pwM_r (n : Nat) (X : Mq) : ∀ k, EqM n (pwM n X (k + 1)) (mulQ n (pwM n X k) X)
  | 0 => (mulQ_id n X).trans (id_mulQ n X).symm
  | k + 1 => by
    have h := mulQ_congr (EqM.refl X) (pwM_r n X k)
    rw [← mulQ_assoc] at h
    exact h
/-- (X Y)^(k+1) = X (Y X)^k Y -/
theorem pwM_swap (n : Nat) (X Y : Mq) : ∀ k, EqM n (pwM n (mulQ n X Y) (k + 1)) (mulQ n X (mulQ n (pwM n (mulQ n Y X) k) Y))
  | 0 => by
    refine (mulQ_id n _).trans ?_
    exact mulQ_congr (.refl _) (id_mulQ n Y).symm
  | k + 1 => by
    have h := mulQ_congr (EqM.refl (mulQ n X Y)) (pwM_swap n X Y k)
    refine EqM.trans h ?_
    rw [mulQ_assoc, ← mulQ_assoc n Y X]
    rw [← mulQ_assoc n (mulQ n Y X)]
    exact .refl _
theorem tr_swap (n : Nat) (X Y : Mq) (k : Nat) : trQ n (pwM n (mulQ n X Y) (k + 1)) = trQ n (pwM n (mulQ n Y X) (k + 1)) := by
  rw [trQ_congr (pwM_swap n X Y k), tr_comm, mulQ_assoc, trQ_congr (pwM_r n (mulQ n Y X) k)]
def tpQ (X : Mq) : Mq := fun i j => X j i
theorem tp_mul (n : Nat) (X Y : Mq) : tpQ (mulQ n X Y) = mulQ n (tpQ Y) (tpQ X) := by
  funext i l
  exact sumL_congr fun j _ => Rat.mul_comm _ _
theorem pwM_tp (n : Nat) (X : Mq) : ∀ k, EqM n (pwM n (tpQ X) k) (tpQ (pwM n X k))
  | 0 => fun i j _ _ => by
    show (if i = j then (1 : Rat) else 0) = if j = i then 1 else 0
    by_cases c : i = j
    · rw [if_pos c, if_pos c.symm]
    · rw [if_neg c, if_neg fun z => c z.symm]
  | k + 1 => by
    have h := mulQ_congr (EqM.refl (tpQ X)) (pwM_tp n X k)
    rw [← tp_mul] at h
    exact h.trans fun i j hi hj => (pwM_r n X k j i hj hi).symm
theorem tr_tp (n : Nat) (X : Mq) (k : Nat) : trQ n (pwM n (tpQ X) k) = trQ n (pwM n X k) := by
  rw [trQ_congr (pwM_tp n X k)]; rfl
/-- Faddeev and Leverrier -/
def flQ (n : Nat) (X : Mq) : Nat → Mq × Rat
  | 0 => (idQ, 1)
  | k + 1 => (fun i j => mulQ n X (flQ n X k).1 i j + if i = j then -(trQ n (mulQ n X (flQ n X k).1)) / ((k + 1 : Nat) : Rat) else 0, -(trQ n (mulQ n X (flQ n X k).1)) / ((k + 1 : Nat) : Rat))
theorem flQ_congr {n : Nat} {X Y : Mq} (h : EqM n X Y) : ∀ k, EqM n (flQ n X k).1 (flQ n Y k).1 ∧ (flQ n X k).2 = (flQ n Y k).2
  | 0 => ⟨.refl _, rfl⟩
  | k + 1 => by
    have m := mulQ_congr h (flQ_congr h k).1
    have t : -(trQ n (mulQ n X (flQ n X k).1)) / ((k + 1 : Nat) : Rat) = -(trQ n (mulQ n Y (flQ n Y k).1)) / ((k + 1 : Nat) : Rat) := by rw [trQ_congr m]
    refine ⟨fun i j hi hj => ?_, t⟩
    show mulQ n X (flQ n X k).1 i j + (if i = j then _ else 0) = mulQ n Y (flQ n Y k).1 i j + (if i = j then _ else 0)
    rw [m i j hi hj, t]
/-- M_k as a sum of powers -/
theorem flQ_sum (n : Nat) (X : Mq) : ∀ k, EqM n (flQ n X k).1 fun i j => sumL (List.range (k + 1)) fun a => (flQ n X a).2 * pwM n X (k - a) i j
  | 0 => fun i j _ _ => by
    show idQ i j = sumL [0] fun a => (flQ n X a).2 * pwM n X (0 - a) i j
    rw [sumL_cons, sumL_nil, Rat.add_zero]
    show idQ i j = 1 * idQ i j
    rw [Rat.one_mul]
  | k + 1 => fun i j hi hj => by
    have ih := flQ_sum n X k
    show mulQ n X (flQ n X k).1 i j + (if i = j then (flQ n X (k + 1)).2 else 0) = _
    rw [mulQ_congr (EqM.refl X) ih i j hi hj]
    have e : sumL (List.range (k + 1 + 1)) (fun a => (flQ n X a).2 * pwM n X (k + 1 - a) i j) = sumL (List.range (k + 1)) (fun a => (flQ n X a).2 * pwM n X (k + 1 - a) i j) + (flQ n X (k + 1)).2 * idQ i j := by
      unfold sumL
      rw [List.range_succ (n := k + 1), List.map_append, List.sum_append, List.map_singleton, List.sum_singleton, Nat.sub_self]
      rfl
    show _ = sumL (List.range (k + 1 + 1)) (fun a => (flQ n X a).2 * pwM n X (k + 1 - a) i j)
    rw [e]
    congr 1
    · show sumL (List.range n) (fun l => X i l * sumL (List.range (k + 1)) fun a => (flQ n X a).2 * pwM n X (k - a) l j) = _
      have e1 : (fun l => X i l * sumL (List.range (k + 1)) fun a => (flQ n X a).2 * pwM n X (k - a) l j) = fun l => sumL (List.range (k + 1)) fun a => (flQ n X a).2 * (X i l * pwM n X (k - a) l j) := by
        funext l
        rw [← sumL_mul]
        exact sumL_congr fun a _ => by grind
      rw [e1, sumL_comm]
      refine sumL_congr fun a ha => ?_
      rw [sumL_mul]
      have : k + 1 - a = (k - a) + 1 := by have := List.mem_range.mp ha; omega
      rw [this]
      rfl
    · unfold idQ
      split <;> grind
theorem newton (n : Nat) (X : Mq) (k : Nat) : (flQ n X (k + 1)).2 = -(sumL (List.range (k + 1)) fun a => (flQ n X a).2 * trQ n (pwM n X (k + 1 - a))) / ((k + 1 : Nat) : Rat) := by
  show -(trQ n (mulQ n X (flQ n X k).1)) / ((k + 1 : Nat) : Rat) = _
  congr 2
  rw [trQ_congr (mulQ_congr (EqM.refl X) (flQ_sum n X k))]
  show sumL (List.range n) (fun p => sumL (List.range n) fun l => X p l * sumL (List.range (k + 1)) fun a => (flQ n X a).2 * pwM n X (k - a) l p) = _
  have e1 : (fun p => sumL (List.range n) fun l => X p l * sumL (List.range (k + 1)) fun a => (flQ n X a).2 * pwM n X (k - a) l p) = fun p => sumL (List.range (k + 1)) fun a => (flQ n X a).2 * pwM n X (k + 1 - a) p p := by
    funext p
    have e2 : (fun l => X p l * sumL (List.range (k + 1)) fun a => (flQ n X a).2 * pwM n X (k - a) l p) = fun l => sumL (List.range (k + 1)) fun a => (flQ n X a).2 * (X p l * pwM n X (k - a) l p) := by
      funext l
      rw [← sumL_mul]
      exact sumL_congr fun a _ => by grind
    rw [e2, sumL_comm]
    refine sumL_congr fun a ha => ?_
    rw [sumL_mul]
    have : k + 1 - a = (k - a) + 1 := by have := List.mem_range.mp ha; omega
    rw [this]
    rfl
  rw [e1, sumL_comm]
  refine sumL_congr fun a _ => ?_
  rw [sumL_mul]
  rfl
theorem flQ_of_tr {n : Nat} {X Y : Mq} (h : ∀ k, trQ n (pwM n X (k + 1)) = trQ n (pwM n Y (k + 1))) : ∀ k, (flQ n X k).2 = (flQ n Y k).2 := by
  intro k
  induction k using Nat.strongRecOn with
  | _ k ih =>
    cases k with
    | zero => rfl
    | succ k =>
      rw [newton, newton]
      congr 2
      refine sumL_congr fun a ha => ?_
      have ha := List.mem_range.mp ha
      have : k + 1 - a = (k - a) + 1 := by omega
      rw [ih a ha, this, h]
theorem fl_swap (n : Nat) (X Y : Mq) (k : Nat) : (flQ n (mulQ n X Y) k).2 = (flQ n (mulQ n Y X) k).2 := flQ_of_tr (fun k => tr_swap n X Y k) k
theorem fl_tp (n : Nat) (X : Mq) (k : Nat) : (flQ n (tpQ X) k).2 = (flQ n X k).2 := flQ_of_tr (fun k => tr_tp n X (k + 1)) k
/-- by a factor -/
theorem fl_scal (n : Nat) (b : Rat) (X : Mq) : ∀ k, EqM n (flQ n (fun i j => b * X i j) k).1 (fun i j => b ^ k * (flQ n X k).1 i j) ∧ (flQ n (fun i j => b * X i j) k).2 = b ^ k * (flQ n X k).2
  | 0 => ⟨fun i j _ _ => by show idQ i j = b ^ 0 * idQ i j; rw [Rat.pow_zero, Rat.one_mul], by show (1 : Rat) = b ^ 0 * 1; rw [Rat.pow_zero, Rat.one_mul]⟩
  | k + 1 => by
    obtain ⟨h1, h2⟩ := fl_scal n b X k
    have m : EqM n (mulQ n (fun i j => b * X i j) (flQ n (fun i j => b * X i j) k).1) (fun i j => b ^ (k + 1) * mulQ n X (flQ n X k).1 i j) := by
      refine (mulQ_congr (.refl _) h1).trans fun i j _ _ => ?_
      show sumL (List.range n) (fun l => b * X i l * (b ^ k * (flQ n X k).1 l j)) = b ^ (k + 1) * sumL (List.range n) fun l => X i l * (flQ n X k).1 l j
      rw [← sumL_mul]
      exact sumL_congr fun l _ => by rw [Rat.pow_succ]; grind
    have t : trQ n (mulQ n (fun i j => b * X i j) (flQ n (fun i j => b * X i j) k).1) = b ^ (k + 1) * trQ n (mulQ n X (flQ n X k).1) := by
      rw [trQ_congr m]
      exact sumL_mul _ _ _
    have t2 : (flQ n (fun i j => b * X i j) (k + 1)).2 = b ^ (k + 1) * (flQ n X (k + 1)).2 := by
      show -(trQ n (mulQ n (fun i j => b * X i j) (flQ n (fun i j => b * X i j) k).1)) / ((k + 1 : Nat) : Rat) = b ^ (k + 1) * (-(trQ n (mulQ n X (flQ n X k).1)) / ((k + 1 : Nat) : Rat))
      rw [t]
      grind
    refine ⟨fun i j hi hj => ?_, t2⟩
    show mulQ n (fun i j => b * X i j) (flQ n (fun i j => b * X i j) k).1 i j + (if i = j then (flQ n (fun i j => b * X i j) (k + 1)).2 else 0) = b ^ (k + 1) * (mulQ n X (flQ n X k).1 i j + if i = j then (flQ n X (k + 1)).2 else 0)
    rw [m i j hi hj, t2]
    split <;> grind
end DL
/-! MQ2 -/
/-! MQ2: what rows span, and what is left of it where columns are cleared one by one. -/
namespace DL
abbrev Vq := Nat → Rat
inductive Sp (S : Vq → Prop) : Vq → Prop
  | zero : Sp S fun _ => 0
  | add {v w : Vq} (a : Rat) : Sp S v → S w → Sp S fun k => v k + a * w k
variable {S T : Vq → Prop} {v w h : Vq} {c : Nat}
theorem Sp.mem (h : S w) : Sp S w := by
  have := Sp.add (S := S) 1 Sp.zero h
  have e : (fun k => (fun _ => (0 : Rat)) k + 1 * w k) = w := by funext k; show 0 + 1 * w k = w k; grind
  rw [e] at this
  exact this
theorem Sp.smul (a : Rat) (h : Sp S v) : Sp S fun k => a * v k := by
  induction h with
  | zero =>
    have e : (fun _ : Nat => a * (0 : Rat)) = fun _ => 0 := by funext k; grind
    rw [e]
    exact .zero
  | @add v w b hv hw ih =>
    have := Sp.add (a * b) ih hw
    have e : (fun k => a * v k + a * b * w k) = fun k => a * (v k + b * w k) := by funext k; grind
    rw [e] at this
    exact this
theorem Sp.plus (h : Sp S v) (k : Sp S w) : Sp S fun i => v i + w i := by
  induction k with
  | zero =>
    have e : (fun i => v i + (0 : Rat)) = v := by funext i; grind
    rw [e]
    exact h
  | @add u x b hu hx ih =>
    have := Sp.add b ih hx
    have e : (fun i => v i + u i + b * x i) = fun i => v i + (u i + b * x i) := by funext i; grind
    rw [e] at this
    exact this
theorem Sp.lin (a : Rat) (h : Sp S v) (k : Sp S w) : Sp S fun i => v i + a * w i := h.plus (k.smul a)
theorem Sp.trans (h : ∀ w, S w → Sp T w) (k : Sp S v) : Sp T v := by
  induction k with
  | zero => exact .zero
  | add a _ hw ih => exact ih.lin a (h _ hw)
theorem Sp.prop {P : Vq → Prop} (h0 : P fun _ => 0) (h1 : ∀ v w a, P v → S w → P fun k => v k + a * w k) (k : Sp S v) : P v := by
  induction k with
  | zero => exact h0
  | add a _ hw ih => exact h1 _ _ a ih hw
/-- a row less what the head takes away -/
def red (c : Nat) (h r : Vq) : Vq := fun k => r k - r c / h c * h k
theorem red_c (h0 : h c ≠ 0) (r : Vq) : red c h r c = 0 := by
  unfold red
  have : r c / h c * h c = r c := Rat.div_mul_cancel h0
  rw [this]; grind
theorem red_lin (u x : Vq) (b : Rat) : red c h (fun k => u k + b * x k) = fun k => red c h u k + b * red c h x k := by
  funext k
  unfold red
  rw [Rat.div_def, Rat.div_def, Rat.div_def]
  grind
theorem red_self (h0 : h c ≠ 0) : red c h h = fun _ => 0 := by
  funext k
  unfold red
  have : h c / h c = 1 := by rw [Rat.div_def, Rat.mul_inv_cancel _ h0]
  rw [this]; grind
/-- what is spanned behind the head of a column -/
theorem sp_piv (hS : S h) (h0 : h c ≠ 0) (h1 : ∀ r', T r' → ∃ r, S r ∧ r' = red c h r) (h2 : ∀ r, S r → r = h ∨ T (red c h r)) : Sp T v ↔ Sp S v ∧ v c = 0 := by
  constructor
  · intro k
    induction k with
    | zero => exact ⟨.zero, rfl⟩
    | @add v w a _ hw ih =>
      obtain ⟨r, hr, e⟩ := h1 _ hw
      refine ⟨ih.1.lin a ?_, ?_⟩
      · rw [e]
        have := (Sp.mem hr).lin (-(r c / h c)) (Sp.mem hS)
        have e2 : (fun i => r i + -(r c / h c) * h i) = red c h r := by funext i; unfold red; grind
        rw [e2] at this
        exact this
      · show v c + a * w c = 0
        rw [ih.2, e, red_c h0]; grind
  · intro ⟨k, kc⟩
    have key : Sp T (red c h v) := by
      clear kc
      induction k with
      | zero =>
        have e : red c h (fun _ => 0) = fun _ => 0 := by funext i; unfold red; rw [Rat.div_def]; grind
        rw [e]; exact .zero
      | @add v w a _ hw ih =>
        rw [red_lin]
        rcases h2 _ hw with e | t
        · subst e
          rw [red_self h0]
          have e2 : (fun k => red c w v k + a * (fun _ => (0 : Rat)) k) = red c w v := by funext i; show red c w v i + a * 0 = _; grind
          rw [e2]
          exact ih
        · exact .add a ih t
    have e : red c h v = v := by
      funext i
      unfold red
      rw [kc, Rat.div_def]; grind
    rw [e] at key
    exact key
/-- S spans what S0 spans with noughts ahead of column c -/
def Lft (S0 : Vq → Prop) (c : Nat) (S : Vq → Prop) : Prop := ∀ v, Sp S v ↔ Sp S0 v ∧ ∀ k, k < c → v k = 0
/-- column c has a head -/
def Pv (S0 : Vq → Prop) (c : Nat) : Prop := ∃ v, Sp S0 v ∧ (∀ k, k < c → v k = 0) ∧ v c ≠ 0
variable {S0 : Vq → Prop}
theorem lft_0 : Lft S0 0 S0 := fun v => ⟨fun h => ⟨h, fun k hk => absurd hk (Nat.not_lt_zero _)⟩, fun h => h.1⟩
theorem Lft.piv (L : Lft S0 c S) (hS : S h) (h0 : h c ≠ 0) (h1 : ∀ r', T r' → ∃ r, S r ∧ r' = red c h r) (h2 : ∀ r, S r → r = h ∨ T (red c h r)) : Lft S0 (c + 1) T := fun v => by
  rw [sp_piv hS h0 h1 h2, L v]
  constructor
  · intro ⟨⟨a, b⟩, e⟩
    refine ⟨a, fun k hk => ?_⟩
    rcases Nat.lt_succ_iff_lt_or_eq.mp hk with z | z
    · exact b k z
    · rw [z]; exact e
  · intro ⟨a, b⟩
    exact ⟨⟨a, fun k hk => b k (by omega)⟩, b c (by omega)⟩
theorem Lft.skip (L : Lft S0 c S) (h : ∀ r, S r → r c = 0) : Lft S0 (c + 1) S := fun v => by
  constructor
  · intro k
    have hv : v c = 0 := by
      refine Sp.prop (P := fun v => v c = 0) rfl (fun v w a hv hw => ?_) k
      show v c + a * w c = 0
      rw [hv, h w hw]; grind
    obtain ⟨a, b⟩ := (L v).mp k
    refine ⟨a, fun k hk => ?_⟩
    rcases Nat.lt_succ_iff_lt_or_eq.mp hk with z | z
    · exact b k z
    · rw [z]; exact hv
  · intro ⟨a, b⟩
    exact (L v).mpr ⟨a, fun k hk => b k (by omega)⟩
theorem Lft.zero (L : Lft S0 c S) {r : Vq} (h : S r) {k : Nat} (hk : k < c) : r k = 0 := ((L r).mp (.mem h)).2 k hk
theorem Lft.pv (L : Lft S0 c S) : Pv S0 c ↔ ∃ r, S r ∧ r c ≠ 0 := by
  constructor
  · intro ⟨v, a, b, d⟩
    have k := (L v).mpr ⟨a, b⟩
    refine Classical.byContradiction fun n => d ?_
    refine Sp.prop (P := fun v => v c = 0) rfl (fun v w a hv hw => ?_) k
    show v c + a * w c = 0
    have : w c = 0 := Classical.byContradiction fun z => n ⟨w, hw, z⟩
    rw [hv, this]; grind
  · intro ⟨r, hr, h⟩
    obtain ⟨a, b⟩ := (L r).mp (.mem hr)
    exact ⟨r, a, b, h⟩
open Classical in
/-- the columns with a head, ahead of column c -/
noncomputable def heads (S0 : Vq → Prop) (c : Nat) : List Nat := (List.range c).filter fun k => decide (Pv S0 k)
open Classical in
theorem heads_t (h : Pv S0 c) : heads S0 (c + 1) = heads S0 c ++ [c] := by
  unfold heads
  rw [List.range_succ, List.filter_append, List.filter_cons, if_pos (decide_eq_true h)]
  rfl
open Classical in
theorem heads_f (h : ¬ Pv S0 c) : heads S0 (c + 1) = heads S0 c := by
  unfold heads
  rw [List.range_succ, List.filter_append, List.filter_cons, if_neg (by rw [decide_eq_false h]; decide)]
  exact List.append_nil _
theorem heads_lt {k : Nat} (h : k ∈ heads S0 c) : k < c := List.mem_range.mp (List.mem_filter.mp h).1
theorem heads_congr {S1 : Vq → Prop} (h : ∀ k, k < c → (Pv S0 k ↔ Pv S1 k)) : heads S0 c = heads S1 c := by
  unfold heads
  refine List.filter_congr fun k hk => ?_
  exact decide_eq_decide.mpr (h k (List.mem_range.mp hk))
end DL
/-! G01 -/
set_option maxHeartbeats 4000000
namespace K01
open PySem PySem.Spec PyProof.Rows L2 DL
def top (i : Nat) : Stmt := PySem.Challenge.pw_tablesswitched_k01_whole_tables.main.body.getD i (.Pass ⟨0, 0, 0, 0⟩)
abbrev s_is_whole : Stmt := top 6
abbrev s_common : Stmt := top 7
abbrev s_lowest : Stmt := top 8
abbrev s_ratio : Stmt := top 9
abbrev s_is_ratio : Stmt := top 10
abbrev s_plus : Stmt := top 11
abbrev s_minus : Stmt := top 12
abbrev s_times : Stmt := top 13
abbrev s_over : Stmt := top 14
abbrev s_below : Stmt := top 15
abbrev s_total : Stmt := top 16
abbrev s_lesser : Stmt := top 17
abbrev s_greater : Stmt := top 18
abbrev s_ratio_text : Stmt := top 19
abbrev s_power_ratios : Stmt := top 20
abbrev s_apart_by : Stmt := top 22
abbrev s_has_shape : Stmt := top 26
abbrev s_is_row : Stmt := top 27
abbrev s_is_square : Stmt := top 28
abbrev s_is_table : Stmt := top 29
abbrev s_check_table : Stmt := top 30
abbrev s_check_two : Stmt := top 31
abbrev s_check_row : Stmt := top 32
abbrev s_unit_of : Stmt := top 33
abbrev s_unit : Stmt := top 34
abbrev s_dot : Stmt := top 35
abbrev s_turned_of : Stmt := top 36
abbrev s_product_of : Stmt := top 37
abbrev s_led_of : Stmt := top 38
abbrev s_sum_of : Stmt := top 39
abbrev s_scaled_of : Stmt := top 40
abbrev s_product : Stmt := top 41
abbrev s_added : Stmt := top 42
abbrev s_scaled : Stmt := top 43
abbrev s_turned : Stmt := top 44
abbrev s_led : Stmt := top 45
abbrev s_power_of : Stmt := top 46
abbrev s_power_tables : Stmt := top 47
abbrev s_trace : Stmt := top 49
abbrev s_cleared : Stmt := top 50
abbrev s_rank_of : Stmt := top 51
abbrev s_rank : Stmt := top 52
abbrev s_back_of : Stmt := top 53
abbrev s_back : Stmt := top 54
abbrev s_size_of : Stmt := top 55
abbrev s_greatest : Stmt := top 56
abbrev s_is_nought : Stmt := top 57
abbrev s_has_no_minus : Stmt := top 58
abbrev s_corner_blocks : Stmt := top 59
abbrev s_slanted : Stmt := top 60
abbrev s__law_draw : Stmt := top 62
abbrev s__law_take : Stmt := top 63
abbrev s__law_says : Stmt := top 64
abbrev s__law_less : Stmt := top 65
abbrev s__law_low : Stmt := top 66
abbrev s__law_plus : Stmt := top 67
abbrev s__law_minus : Stmt := top 68
abbrev s__law_times : Stmt := top 69
abbrev s__law_sum : Stmt := top 70
abbrev s__law_most : Stmt := top 71
abbrev s__law_bent : Stmt := top 72
abbrev s__law_item : Stmt := top 73
abbrev s__law_table : Stmt := top 74
abbrev s__law_unit : Stmt := top 75
abbrev s__law_times_rows : Stmt := top 76
abbrev s__law_led : Stmt := top 77
abbrev s__law_size : Stmt := top 78
abbrev s__law_int : Stmt := top 81
abbrev s__law_is_ratio : Stmt := top 82
abbrev s__law_is_row : Stmt := top 83
abbrev s__law_is_table : Stmt := top 84
abbrev s__law_rank : Stmt := top 86
abbrev s__law_power : Stmt := top 89
abbrev s__law_ask : Stmt := top 94
abbrev s__law_numbers : Stmt := top 95
abbrev s__law_undone : Stmt := top 96
abbrev s_law : Stmt := top 97
def mt_Malformed (x : Str) : Option Bool := if x = "Malformed" then some true else none
abbrev f__law_take : CF := f_take
/-! ### mirrors -/
def m_is_whole : CSx :=
  (cRet (cAndV (cIsi "int" (cVar 0)) (cNot (cIsi "bool" (cVar 0)))))
def f_is_whole : CF := fnD 1 m_is_whole
def m_common : CSx :=
  (cSeq (cPar2 0 1 (cCons (cB gAbs (cCons (cVar 0) cNil)) (cCons (cB gAbs (cCons (cVar 1) cNil)) cNil)))
  (cSeq (cWhile (fuelAbs 1) (cTst (cBin gNe (cVar 1) (cK (.int 0)))) (cPar2 0 1 (cCons (cFrz (cVar 1)) (cCons (cBin gMod (cVar 0) (cVar 1)) cNil))))
  (cRet (cVar 0))))
def f_common : CF := fnD 2 m_common
def m_lowest : CSx :=
  (cSeq (cSet 2 (cCall f_common (cCons (cFrz (cVar 0)) (cCons (cFrz (cVar 1)) cNil))))
  (cSeq (cIfS (cTst (cBin gLt (cVar 1) (cK (.int 0)))) (cSet 2 (cNeg (cVar 2))) cSkip)
  (cRet (cTup (cCons (cBin gFd (cVar 0) (cVar 2)) (cCons (cBin gFd (cVar 1) (cVar 2)) cNil))))))
def f_lowest : CF := fnD 3 m_lowest
def m_ratio : CSx :=
  (cSeq (cIfS (cOr (cNotT (cTru (cCall f_is_whole (cCons (cFrz (cVar 0)) cNil)))) (cOr (cNotT (cTru (cCall f_is_whole (cCons (cFrz (cVar 1)) cNil)))) (cTst (cBin gEq (cVar 1) (cK (.int 0)))))) (cRaise "Malformed") cSkip)
  (cRet (cCall f_lowest (cCons (cFrz (cVar 0)) (cCons (cFrz (cVar 1)) cNil)))))
def f_ratio : CF := fnD 2 m_ratio
def m_is_ratio : CSx :=
  (cSeq (cIfS (cOr (cNotT (cTru (cIsi "tuple" (cVar 0)))) (cOr (cTst (cBin gNe (cB gLen (cCons (cVar 0) cNil)) (cK (.int 2)))) (cOr (cNotT (cTru (cCall f_is_whole (cCons (cFrz (cBin gIx (cVar 0) (cK (.int 0)))) cNil)))) (cNotT (cTru (cCall f_is_whole (cCons (cFrz (cBin gIx (cVar 0) (cK (.int 1)))) cNil))))))) (cRet (cK (.bl false))) cSkip)
  (cRet (cAndV (cBin gGt (cBin gIx (cVar 0) (cK (.int 1))) (cK (.int 0))) (cBin gEq (cCall f_common (cCons (cFrz (cBin gIx (cVar 0) (cK (.int 0)))) (cCons (cFrz (cBin gIx (cVar 0) (cK (.int 1)))) cNil))) (cK (.int 1))))))
def f_is_ratio : CF := fnD 1 m_is_ratio
def m_plus : CSx :=
  (cRet (cCall f_lowest (cCons (cBin gAdd (cBin gMul (cBin gIx (cVar 0) (cK (.int 0))) (cBin gIx (cVar 1) (cK (.int 1)))) (cBin gMul (cBin gIx (cVar 1) (cK (.int 0))) (cBin gIx (cVar 0) (cK (.int 1))))) (cCons (cBin gMul (cBin gIx (cVar 0) (cK (.int 1))) (cBin gIx (cVar 1) (cK (.int 1)))) cNil))))
def f_plus : CF := fnD 2 m_plus
def m_minus : CSx :=
  (cRet (cCall f_lowest (cCons (cBin gSub (cBin gMul (cBin gIx (cVar 0) (cK (.int 0))) (cBin gIx (cVar 1) (cK (.int 1)))) (cBin gMul (cBin gIx (cVar 1) (cK (.int 0))) (cBin gIx (cVar 0) (cK (.int 1))))) (cCons (cBin gMul (cBin gIx (cVar 0) (cK (.int 1))) (cBin gIx (cVar 1) (cK (.int 1)))) cNil))))
def f_minus : CF := fnD 2 m_minus
def m_times : CSx :=
  (cRet (cCall f_lowest (cCons (cBin gMul (cBin gIx (cVar 0) (cK (.int 0))) (cBin gIx (cVar 1) (cK (.int 0)))) (cCons (cBin gMul (cBin gIx (cVar 0) (cK (.int 1))) (cBin gIx (cVar 1) (cK (.int 1)))) cNil))))
def f_times : CF := fnD 2 m_times
def m_over : CSx :=
  (cSeq (cIfS (cTst (cBin gEq (cBin gIx (cVar 1) (cK (.int 0))) (cK (.int 0)))) (cRaise "Malformed") cSkip)
  (cRet (cCall f_lowest (cCons (cBin gMul (cBin gIx (cVar 0) (cK (.int 0))) (cBin gIx (cVar 1) (cK (.int 1)))) (cCons (cBin gMul (cBin gIx (cVar 0) (cK (.int 1))) (cBin gIx (cVar 1) (cK (.int 0)))) cNil)))))
def f_over : CF := fnD 2 m_over
def m_below : CSx :=
  (cRet (cBin gLt (cBin gMul (cBin gIx (cVar 0) (cK (.int 0))) (cBin gIx (cVar 1) (cK (.int 1)))) (cBin gMul (cBin gIx (cVar 1) (cK (.int 0))) (cBin gIx (cVar 0) (cK (.int 1))))))
def f_below : CF := fnD 2 m_below
def m_total : CSx :=
  (cSeq (cSet 1 (cK (.tup [(.int 0), (.int 1)])))
  (cSeq (cFor (iAny (cFrz (cVar 0))) (gNm 2) (cIfS (cTst (cBin gNe (cBin gIx (cVar 2) (cK (.int 0))) (cK (.int 0)))) (cSet 1 (cCall f_plus (cCons (cFrz (cVar 1)) (cCons (cFrz (cVar 2)) cNil)))) cSkip))
  (cRet (cVar 1))))
def f_total : CF := fnD 3 m_total
def m_lesser : CSx :=
  (cRet (cIf (cTru (cCall f_below (cCons (cFrz (cVar 1)) (cCons (cFrz (cVar 0)) cNil)))) (cFrz (cVar 1)) (cFrz (cVar 0))))
def f_lesser : CF := fnD 2 m_lesser
def m_greater : CSx :=
  (cRet (cIf (cTru (cCall f_below (cCons (cFrz (cVar 0)) (cCons (cFrz (cVar 1)) cNil)))) (cFrz (cVar 1)) (cFrz (cVar 0))))
def f_greater : CF := fnD 2 m_greater
def m_ratio_text : CSx :=
  (cRet (cIf (cTst (cBin gEq (cBin gIx (cVar 0) (cK (.int 1))) (cK (.int 1)))) (cB gStr (cCons (cBin gIx (cVar 0) (cK (.int 0))) cNil)) (cBin gAdd (cBin gAdd (cB gStr (cCons (cBin gIx (cVar 0) (cK (.int 0))) cNil)) (cK (.str "/"))) (cB gStr (cCons (cBin gIx (cVar 0) (cK (.int 1))) cNil)))))
def f_ratio_text : CF := fnD 1 m_ratio_text
def m_power_ratios : CSx :=
  (cSeq (cSet 2 (cK (.tup [(.int 1), (.int 1)])))
  (cSeq (cFor (iRg1 (cVar 1)) (gNm 3) (cSet 2 (cCall f_times (cCons (cFrz (cVar 2)) (cCons (cFrz (cVar 0)) cNil)))))
  (cRet (cVar 2))))
def f_power_ratios : CF := fnD 4 m_power_ratios
def m_apart_by : CSx :=
  (cSeq (cSet 2 (cCall f_minus (cCons (cFrz (cVar 0)) (cCons (cFrz (cVar 1)) cNil))))
  (cRet (cTup (cCons (cB gAbs (cCons (cBin gIx (cVar 2) (cK (.int 0))) cNil)) (cCons (cFrz (cBin gIx (cVar 2) (cK (.int 1)))) cNil)))))
def f_apart_by : CF := fnD 3 m_apart_by
def m_has_shape : CSx :=
  (cRet (cAndV (cIsi "tuple" (cVar 0)) (cBin gEq (cB gLen (cCons (cVar 0) cNil)) (cVar 1))))
def f_has_shape : CF := fnD 2 m_has_shape
def m_is_row : CSx :=
  (cRet (cAndV (cCall f_has_shape (cCons (cFrz (cVar 1)) (cCons (cFrz (cVar 0)) cNil))) (cB gAll (cCons (cLc [2] (iAny (cFrz (cVar 1))) (gNm 2) cYes (cCall f_is_ratio (cCons (cFrz (cVar 2)) cNil))) cNil))))
def f_is_row : CF := fnD 3 m_is_row
def m_is_square : CSx :=
  (cRet (cAndV (cCall f_has_shape (cCons (cFrz (cVar 1)) (cCons (cFrz (cVar 0)) cNil))) (cB gAll (cCons (cLc [2] (iAny (cFrz (cVar 1))) (gNm 2) cYes (cCall f_is_row (cCons (cFrz (cVar 0)) (cCons (cFrz (cVar 2)) cNil)))) cNil))))
def f_is_square : CF := fnD 3 m_is_square
def m_is_table : CSx :=
  (cRet (cAndV (cIsi "tuple" (cVar 0)) (cAndV (cChain gLt gLe (cK (.int 0)) (cB gLen (cCons (cVar 0) cNil)) (cK (.int 4))) (cCall f_is_square (cCons (cB gLen (cCons (cVar 0) cNil)) (cCons (cFrz (cVar 0)) cNil))))))
def f_is_table : CF := fnD 1 m_is_table
def m_check_table : CSx :=
  (cIfS (cNotT (cTru (cCall f_is_table (cCons (cFrz (cVar 0)) cNil)))) (cRaise "Malformed") cSkip)
def f_check_table : CF := fnD 1 m_check_table
def m_check_two : CSx :=
  (cSeq (cDrop (cCall f_check_table (cCons (cFrz (cVar 0)) cNil)))
  (cSeq (cDrop (cCall f_check_table (cCons (cFrz (cVar 1)) cNil)))
  (cIfS (cTst (cBin gNe (cB gLen (cCons (cVar 0) cNil)) (cB gLen (cCons (cVar 1) cNil)))) (cRaise "Malformed") cSkip)))
def f_check_two : CF := fnD 2 m_check_two
def m_check_row : CSx :=
  (cSeq (cDrop (cCall f_check_table (cCons (cFrz (cVar 0)) cNil)))
  (cIfS (cNotT (cTru (cCall f_is_row (cCons (cB gLen (cCons (cVar 0) cNil)) (cCons (cFrz (cVar 1)) cNil))))) (cRaise "Malformed") cSkip))
def f_check_row : CF := fnD 2 m_check_row
def m_unit_of : CSx :=
  (cRet (cB gTuple (cCons (cLc [1] (iRg1 (cVar 0)) (gNm 1) cYes (cB gTuple (cCons (cLc [2] (iRg1 (cVar 0)) (gNm 2) cYes (cIf (cTst (cBin gEq (cVar 1) (cVar 2))) (cK (.tup [(.int 1), (.int 1)])) (cK (.tup [(.int 0), (.int 1)])))) cNil))) cNil)))
def f_unit_of : CF := fnD 3 m_unit_of
def m_unit : CSx :=
  (cSeq (cIfS (cOr (cNotT (cTru (cCall f_is_whole (cCons (cFrz (cVar 0)) cNil)))) (cNotT (cTst (cChain gLt gLe (cK (.int 0)) (cVar 0) (cK (.int 4)))))) (cRaise "Malformed") cSkip)
  (cRet (cCall f_unit_of (cCons (cFrz (cVar 0)) cNil))))
def f_unit : CF := fnD 1 m_unit
def m_dot : CSx :=
  (cRet (cCall f_total (cCons (cLc [2, 3] (iZipD (cCons (cFrz (cVar 0)) (cCons (cFrz (cVar 1)) cNil))) (gTp 2 (gsCons (gNm 2) (gsCons (gNm 3) gsNil))) (cAnd (cTst (cBin gNe (cBin gIx (cVar 2) (cK (.int 0))) (cK (.int 0)))) (cTst (cBin gNe (cBin gIx (cVar 3) (cK (.int 0))) (cK (.int 0))))) (cCall f_times (cCons (cFrz (cVar 2)) (cCons (cFrz (cVar 3)) cNil)))) cNil)))
def f_dot : CF := fnD 4 m_dot
def m_turned_of : CSx :=
  (cRet (cB gTuple (cCons (cLc [1] (iRg1 (cB gLen (cCons (cBin gIx (cVar 0) (cK (.int 0))) cNil))) (gNm 1) cYes (cB gTuple (cCons (cLc [2] (iAny (cFrz (cVar 0))) (gNm 2) cYes (cFrz (cBin gIx (cVar 2) (cVar 1)))) cNil))) cNil)))
def f_turned_of : CF := fnD 3 m_turned_of
def m_product_of : CSx :=
  (cSeq (cSet 2 (cCall f_turned_of (cCons (cFrz (cVar 1)) cNil)))
  (cRet (cB gTuple (cCons (cLc [3] (iAny (cFrz (cVar 0))) (gNm 3) cYes (cB gTuple (cCons (cLc [4] (iAny (cFrz (cVar 2))) (gNm 4) cYes (cCall f_dot (cCons (cFrz (cVar 3)) (cCons (cFrz (cVar 4)) cNil)))) cNil))) cNil))))
def f_product_of : CF := fnD 5 m_product_of
def m_led_of : CSx :=
  (cRet (cB gTuple (cCons (cLc [2] (iAny (cFrz (cVar 0))) (gNm 2) cYes (cCall f_dot (cCons (cFrz (cVar 2)) (cCons (cFrz (cVar 1)) cNil)))) cNil)))
def f_led_of : CF := fnD 3 m_led_of
def m_sum_of : CSx :=
  (cRet (cB gTuple (cCons (cLc [2, 3] (iZipD (cCons (cFrz (cVar 0)) (cCons (cFrz (cVar 1)) cNil))) (gTp 2 (gsCons (gNm 2) (gsCons (gNm 3) gsNil))) cYes (cB gTuple (cCons (cLc [4, 5] (iZipD (cCons (cFrz (cVar 2)) (cCons (cFrz (cVar 3)) cNil))) (gTp 2 (gsCons (gNm 4) (gsCons (gNm 5) gsNil))) cYes (cCall f_plus (cCons (cFrz (cVar 4)) (cCons (cFrz (cVar 5)) cNil)))) cNil))) cNil)))
def f_sum_of : CF := fnD 6 m_sum_of
def m_scaled_of : CSx :=
  (cRet (cB gTuple (cCons (cLc [2] (iAny (cFrz (cVar 0))) (gNm 2) cYes (cB gTuple (cCons (cLc [3] (iAny (cFrz (cVar 2))) (gNm 3) cYes (cCall f_times (cCons (cFrz (cVar 3)) (cCons (cFrz (cVar 1)) cNil)))) cNil))) cNil)))
def f_scaled_of : CF := fnD 4 m_scaled_of
def m_product : CSx :=
  (cSeq (cDrop (cCall f_check_two (cCons (cFrz (cVar 0)) (cCons (cFrz (cVar 1)) cNil))))
  (cRet (cCall f_product_of (cCons (cFrz (cVar 0)) (cCons (cFrz (cVar 1)) cNil)))))
def f_product : CF := fnD 2 m_product
def m_added : CSx :=
  (cSeq (cDrop (cCall f_check_two (cCons (cFrz (cVar 0)) (cCons (cFrz (cVar 1)) cNil))))
  (cRet (cCall f_sum_of (cCons (cFrz (cVar 0)) (cCons (cFrz (cVar 1)) cNil)))))
def f_added : CF := fnD 2 m_added
def m_scaled : CSx :=
  (cSeq (cDrop (cCall f_check_table (cCons (cFrz (cVar 0)) cNil)))
  (cSeq (cIfS (cNotT (cTru (cCall f_is_ratio (cCons (cFrz (cVar 1)) cNil)))) (cRaise "Malformed") cSkip)
  (cRet (cCall f_scaled_of (cCons (cFrz (cVar 0)) (cCons (cFrz (cVar 1)) cNil))))))
def f_scaled : CF := fnD 2 m_scaled
def m_turned : CSx :=
  (cSeq (cDrop (cCall f_check_table (cCons (cFrz (cVar 0)) cNil)))
  (cRet (cCall f_turned_of (cCons (cFrz (cVar 0)) cNil))))
def f_turned : CF := fnD 1 m_turned
def m_led : CSx :=
  (cSeq (cDrop (cCall f_check_row (cCons (cFrz (cVar 0)) (cCons (cFrz (cVar 1)) cNil))))
  (cRet (cCall f_led_of (cCons (cFrz (cVar 0)) (cCons (cFrz (cVar 1)) cNil)))))
def f_led : CF := fnD 2 m_led
def m_power_of : CSx :=
  (cSeq (cSet 2 (cCall f_unit_of (cCons (cB gLen (cCons (cVar 0) cNil)) cNil)))
  (cSeq (cFor (iRg1 (cVar 1)) (gNm 3) (cSet 2 (cCall f_product_of (cCons (cFrz (cVar 0)) (cCons (cFrz (cVar 2)) cNil)))))
  (cRet (cVar 2))))
def f_power_of : CF := fnD 4 m_power_of
def m_power_tables : CSx :=
  (cSeq (cDrop (cCall f_check_table (cCons (cFrz (cVar 0)) cNil)))
  (cSeq (cIfS (cOr (cNotT (cTru (cCall f_is_whole (cCons (cFrz (cVar 1)) cNil)))) (cNotT (cTst (cChain gLe gLe (cK (.int 0)) (cVar 1) (cK (.int 64)))))) (cRaise "Malformed") cSkip)
  (cRet (cCall f_power_of (cCons (cFrz (cVar 0)) (cCons (cFrz (cVar 1)) cNil))))))
def f_power_tables : CF := fnD 2 m_power_tables
def m_trace : CSx :=
  (cSeq (cDrop (cCall f_check_table (cCons (cFrz (cVar 0)) cNil)))
  (cRet (cCall f_total (cCons (cLc [1] (iRg1 (cB gLen (cCons (cVar 0) cNil))) (gNm 1) cYes (cFrz (cBin gIx (cBin gIx (cVar 0) (cVar 1)) (cVar 1)))) cNil))))
def f_trace : CF := fnD 2 m_trace
def m_cleared : CSx :=
  (cSeq (cSeq (cFz 0) (cParN [0, 2, 3] (cCons (cLc [7] (iAny (cFrz (cVar 0))) (gNm 7) cYes (cFzE (cB gList (cCons (cVar 7) cNil)))) (cCons (cLst cNil) (cCons (cK (.int 0)) cNil)))))
  (cSeq (cFor (iRg1 (cIf (cTst (cBin gGt (cB gLen (cCons (cVar 0) cNil)) (cK (.int 0)))) (cB gLen (cCons (cBin gIx (cVar 0) (cK (.int 0))) cNil)) (cK (.int 0)))) (gNm 1) (cSeq (cSet 4 (cLc [6] (iRg2 (cVar 3) (cB gLen (cCons (cVar 0) cNil))) (gNm 6) (cTst (cBin gNe (cBin gIx (cBin gIx (cBin gIx (cVar 0) (cVar 6)) (cVar 1)) (cK (.int 0))) (cK (.int 0)))) (cFrz (cVar 6))))
  (cIfS (cTst (cBin gGt (cB gLen (cCons (cVar 4) cNil)) (cK (.int 0)))) (cSeq (cSwap 0 (cVar 3) (cBin gIx (cVar 4) (cK (.int 0))) (cCons (cFrz (cBin gIx (cVar 0) (cBin gIx (cVar 4) (cK (.int 0))))) (cCons (cFrz (cBin gIx (cVar 0) (cVar 3))) cNil)))
  (cSeq (cSet 5 (cFrz (cBin gIx (cBin gIx (cVar 0) (cVar 3)) (cVar 1))))
  (cSeq (cSetIx 0 (cFzE (cLc [9] (iAny (cFrz (cBin gIx (cVar 0) (cVar 3)))) (gNm 9) cYes (cCall f_over (cCons (cFrz (cVar 9)) (cCons (cFrz (cVar 5)) cNil))))) (cVar 3))
  (cSeq (cFor (iRg1 (cB gLen (cCons (cVar 0) cNil))) (gNm 6) (cSeq (cSet 8 (cFrz (cBin gIx (cBin gIx (cVar 0) (cVar 6)) (cVar 1))))
  (cIfS (cAnd (cTst (cBin gNe (cVar 6) (cVar 3))) (cTst (cBin gNe (cBin gIx (cVar 8) (cK (.int 0))) (cK (.int 0))))) (cSetIx 0 (cFzE (cLc [10, 11] (iZipD (cCons (cFrz (cBin gIx (cVar 0) (cVar 6))) (cCons (cFrz (cBin gIx (cVar 0) (cVar 3))) cNil))) (gTp 2 (gsCons (gNm 10) (gsCons (gNm 11) gsNil))) cYes (cCall f_minus (cCons (cFrz (cVar 10)) (cCons (cCall f_times (cCons (cFrz (cVar 8)) (cCons (cFrz (cVar 11)) cNil))) cNil))))) (cVar 6)) cSkip)))
  (cSeq (cApp 2 (cFrz (cVar 1)))
  (cSet 3 (cBin gAddI (cVar 3) (cK (.int 1))))))))) cSkip)))
  (cSeq (cFz 2) (cRet (cTup (cCons (cSl (cVar 0) cNoPart (cPart (cVar 3))) (cCons (cFrz (cVar 2)) cNil)))))))
def f_cleared : CF := fnD 12 m_cleared
def m_rank_of : CSx :=
  (cRet (cB gLen (cCons (cBin gIx (cCall f_cleared (cCons (cFrz (cVar 0)) cNil)) (cK (.int 1))) cNil)))
def f_rank_of : CF := fnD 1 m_rank_of
def m_rank : CSx :=
  (cSeq (cDrop (cCall f_check_table (cCons (cFrz (cVar 0)) cNil)))
  (cRet (cCall f_rank_of (cCons (cFrz (cVar 0)) cNil))))
def f_rank : CF := fnD 1 m_rank
def m_back_of : CSx :=
  (cSeq (cSet 1 (cB gLen (cCons (cVar 0) cNil)))
  (cSeq (cSet 2 (cLc [5, 6] (iZipD (cCons (cFrz (cVar 0)) (cCons (cCall f_unit_of (cCons (cFrz (cVar 1)) cNil)) cNil))) (gTp 2 (gsCons (gNm 5) (gsCons (gNm 6) gsNil))) cYes (cBin gAdd (cVar 5) (cVar 6))))
  (cSeq (cAsg (gTp 2 (gsCons (gNm 3) (gsCons (gNm 4) gsNil))) (cCall f_cleared (cCons (cFrz (cVar 2)) cNil)))
  (cSeq (cIfS (cTst (cBin gNe (cSl (cVar 4) cNoPart (cPart (cVar 1))) (cLstRg (cRg1 (cVar 1))))) (cRet (cK .non)) cSkip)
  (cRet (cB gTuple (cCons (cLc [5] (iAny (cFrz (cVar 3))) (gNm 5) cYes (cB gTuple (cCons (cSl (cVar 5) (cPart (cVar 1)) cNoPart) cNil))) cNil)))))))
def f_back_of : CF := fnD 7 m_back_of
def m_back : CSx :=
  (cSeq (cDrop (cCall f_check_table (cCons (cFrz (cVar 0)) cNil)))
  (cRet (cCall f_back_of (cCons (cFrz (cVar 0)) cNil))))
def f_back : CF := fnD 1 m_back
def m_size_of : CSx :=
  (cSeq (cSet 1 (cK (.tup [(.int 0), (.int 1)])))
  (cSeq (cFor (iAny (cFrz (cVar 0))) (gNm 2) (cIfS (cTst (cBin gGt (cBin gMul (cB gAbs (cCons (cBin gIx (cVar 2) (cK (.int 0))) cNil)) (cBin gIx (cVar 1) (cK (.int 1)))) (cBin gMul (cBin gIx (cVar 1) (cK (.int 0))) (cBin gIx (cVar 2) (cK (.int 1)))))) (cSet 1 (cTup (cCons (cB gAbs (cCons (cBin gIx (cVar 2) (cK (.int 0))) cNil)) (cCons (cFrz (cBin gIx (cVar 2) (cK (.int 1)))) cNil)))) cSkip))
  (cRet (cVar 1))))
def f_size_of : CF := fnD 3 m_size_of
def m_greatest : CSx :=
  (cSeq (cIfS (cOr (cNotT (cTru (cIsi "tuple" (cVar 0)))) (cOr (cNotT (cTst (cChain gLt gLe (cK (.int 0)) (cB gLen (cCons (cVar 0) cNil)) (cK (.int 4))))) (cNotT (cTru (cCall f_is_row (cCons (cB gLen (cCons (cVar 0) cNil)) (cCons (cFrz (cVar 0)) cNil))))))) (cRaise "Malformed") cSkip)
  (cRet (cCall f_size_of (cCons (cFrz (cVar 0)) cNil))))
def f_greatest : CF := fnD 1 m_greatest
def m_is_nought : CSx :=
  (cSeq (cDrop (cCall f_check_table (cCons (cFrz (cVar 0)) cNil)))
  (cRet (cNot (cB gAny (cCons (cLc [1] (iAny (cFrz (cVar 0))) (gNm 1) cYes (cB gAny (cCons (cLc [2] (iAny (cFrz (cVar 1))) (gNm 2) cYes (cBin gNe (cBin gIx (cVar 2) (cK (.int 0))) (cK (.int 0)))) cNil))) cNil)))))
def f_is_nought : CF := fnD 3 m_is_nought
def m_has_no_minus : CSx :=
  (cSeq (cDrop (cCall f_check_table (cCons (cFrz (cVar 0)) cNil)))
  (cRet (cNot (cB gAny (cCons (cLc [1] (iAny (cFrz (cVar 0))) (gNm 1) cYes (cB gAny (cCons (cLc [2] (iAny (cFrz (cVar 1))) (gNm 2) cYes (cBin gLt (cBin gIx (cVar 2) (cK (.int 0))) (cK (.int 0)))) cNil))) cNil)))))
def f_has_no_minus : CF := fnD 3 m_has_no_minus
def m_corner_blocks : CSx :=
  (cSeq (cSet 2 (cLc [3] (iAny (cFrz (cVar 0))) (gNm 3) cYes (cBin gAdd (cVar 3) (cBin gMul (cTup (cCons (cK (.tup [(.int 0), (.int 1)])) cNil)) (cB gLen (cCons (cVar 1) cNil))))))
  (cRet (cB gTuple (cCons (cBin gAdd (cVar 2) (cLc [3] (iAny (cFrz (cVar 1))) (gNm 3) cYes (cBin gAdd (cBin gMul (cTup (cCons (cK (.tup [(.int 0), (.int 1)])) cNil)) (cB gLen (cCons (cVar 0) cNil))) (cVar 3)))) cNil))))
def f_corner_blocks : CF := fnD 4 m_corner_blocks
def m_slanted : CSx :=
  (cSeq (cDrop (cCall f_check_table (cCons (cFrz (cVar 0)) cNil)))
  (cSeq (cDrop (cCall f_check_table (cCons (cFrz (cVar 1)) cNil)))
  (cSeq (cIfS (cTst (cBin gGt (cBin gAdd (cB gLen (cCons (cVar 0) cNil)) (cB gLen (cCons (cVar 1) cNil))) (cK (.int 4)))) (cRaise "Malformed") cSkip)
  (cRet (cCall f_corner_blocks (cCons (cFrz (cVar 0)) (cCons (cFrz (cVar 1)) cNil)))))))
def f_slanted : CF := fnD 2 m_slanted
def m__law_says : CSx :=
  (cRet (cAndV (cIsi "bool" (cVar 0)) (cBin gEq (cVar 0) (cVar 1))))
def f__law_says : CF := fnD 2 m__law_says
def m__law_less : CSx :=
  (cRet (cBin gLt (cBin gMul (cBin gIx (cVar 0) (cK (.int 0))) (cBin gIx (cVar 1) (cK (.int 1)))) (cBin gMul (cBin gIx (cVar 1) (cK (.int 0))) (cBin gIx (cVar 0) (cK (.int 1))))))
def f__law_less : CF := fnD 2 m__law_less
def m__law_low : CSx :=
  (cSeq (cPar2 2 3 (cCons (cB gAbs (cCons (cVar 0) cNil)) (cCons (cFrz (cVar 1)) cNil)))
  (cSeq (cWhile (fuelAbs 3) (cTst (cBin gNe (cVar 3) (cK (.int 0)))) (cPar2 2 3 (cCons (cFrz (cVar 3)) (cCons (cBin gMod (cVar 2) (cVar 3)) cNil))))
  (cRet (cTup (cCons (cBin gFd (cVar 0) (cVar 2)) (cCons (cBin gFd (cVar 1) (cVar 2)) cNil))))))
def f__law_low : CF := fnD 4 m__law_low
def m__law_plus : CSx :=
  (cRet (cCall f__law_low (cCons (cBin gAdd (cBin gMul (cBin gIx (cVar 0) (cK (.int 0))) (cBin gIx (cVar 1) (cK (.int 1)))) (cBin gMul (cBin gIx (cVar 1) (cK (.int 0))) (cBin gIx (cVar 0) (cK (.int 1))))) (cCons (cBin gMul (cBin gIx (cVar 0) (cK (.int 1))) (cBin gIx (cVar 1) (cK (.int 1)))) cNil))))
def f__law_plus : CF := fnD 2 m__law_plus
def m__law_minus : CSx :=
  (cRet (cCall f__law_low (cCons (cBin gSub (cBin gMul (cBin gIx (cVar 0) (cK (.int 0))) (cBin gIx (cVar 1) (cK (.int 1)))) (cBin gMul (cBin gIx (cVar 1) (cK (.int 0))) (cBin gIx (cVar 0) (cK (.int 1))))) (cCons (cBin gMul (cBin gIx (cVar 0) (cK (.int 1))) (cBin gIx (cVar 1) (cK (.int 1)))) cNil))))
def f__law_minus : CF := fnD 2 m__law_minus
def m__law_times : CSx :=
  (cRet (cCall f__law_low (cCons (cBin gMul (cBin gIx (cVar 0) (cK (.int 0))) (cBin gIx (cVar 1) (cK (.int 0)))) (cCons (cBin gMul (cBin gIx (cVar 0) (cK (.int 1))) (cBin gIx (cVar 1) (cK (.int 1)))) cNil))))
def f__law_times : CF := fnD 2 m__law_times
def m__law_sum : CSx :=
  (cSeq (cSet 1 (cTup (cCons (cK (.int 0)) (cCons (cK (.int 1)) cNil))))
  (cSeq (cFor (iAny (cFrz (cVar 0))) (gNm 2) (cSet 1 (cCall f__law_plus (cCons (cFrz (cVar 1)) (cCons (cFrz (cVar 2)) cNil)))))
  (cRet (cVar 1))))
def f__law_sum : CF := fnD 3 m__law_sum
def m__law_most : CSx :=
  (cSeq (cSet 1 (cFrz (cBin gIx (cVar 0) (cK (.int 0)))))
  (cSeq (cFor (iAny (cFrz (cVar 0))) (gNm 2) (cSet 1 (cIf (cTru (cCall f__law_less (cCons (cFrz (cVar 1)) (cCons (cFrz (cVar 2)) cNil)))) (cFrz (cVar 2)) (cFrz (cVar 1)))))
  (cRet (cVar 1))))
def f__law_most : CF := fnD 3 m__law_most
def m__law_bent (rec : CF) : CSx :=
  (cSeq (cIfS (cAnd (cTru (cIsi "tuple" (cVar 1))) (cAnd (cTst (cBin gGt (cB gLen (cCons (cVar 1) cNil)) (cK (.int 0)))) (cTst (cBin gGt (cCall f__law_take (cCons (cFrz (cVar 0)) (cCons (cK (.int 5)) cNil))) (cK (.int 0)))))) (cSeq (cSet 2 (cCall f__law_take (cCons (cFrz (cVar 0)) (cCons (cB gLen (cCons (cVar 1) cNil)) cNil))))
  (cRet (cBin gAdd (cBin gAdd (cSl (cVar 1) cNoPart (cPart (cVar 2))) (cTup (cCons (cCall rec (cCons (cFrz (cVar 0)) (cCons (cFrz (cBin gIx (cVar 1) (cVar 2))) cNil))) cNil))) (cSl (cVar 1) (cPart (cBin gAdd (cVar 2) (cK (.int 1)))) cNoPart)))) cSkip)
  (cSeq (cIfS (cTru (cIsi "tuple" (cVar 1))) (cRet (cBin gIx (cLst (cCons (cB gList (cCons (cVar 1) cNil)) (cCons (cBin gAdd (cVar 1) (cTup (cCons (cK (.int 0)) cNil))) (cCons (cSl (cVar 1) cNoPart (cPart (cNeg (cK (.int 1))))) (cCons (cRev (cFrz (cVar 1))) (cCons (cK .non) (cCons (cTup cNil) (cCons (cBin gAdd (cVar 1) (cSl (cVar 1) cNoPart (cPart (cK (.int 1))))) (cCons (cTup (cCons (cK (.int 1)) (cCons (cK (.int 2)) cNil))) cNil))))))))) (cCall f__law_take (cCons (cFrz (cVar 0)) (cCons (cK (.int 8)) cNil))))) cSkip)
  (cRet (cIf (cTru (cIsi "int" (cVar 1))) (cFrz (cBin gIx (cLst (cCons (cK (.int 0)) (cCons (cK (.int 1)) (cCons (cBin gAdd (cVar 1) (cK (.int 1))) (cCons (cBin gSub (cVar 1) (cK (.int 1))) (cCons (cBin gEq (cVar 1) (cK (.int 1))) (cCons (cK .non) (cCons (cK (.str "0")) (cCons (cTup (cCons (cFrz (cVar 1)) cNil)) (cCons (cK (.int 2)) cNil)))))))))) (cCall f__law_take (cCons (cFrz (cVar 0)) (cCons (cK (.int 9)) cNil))))) (cK (.int 0))))))
def f__law_bent : Nat → CF
  | 0 => fun _ _ => .st
  | j + 1 => fnD 3 (m__law_bent (f__law_bent j))
def m__law_item : CSx :=
  (cRet (cBin gIx (cLst (cCons (cTup (cCons (cK (.int 0)) (cCons (cK (.int 1)) cNil))) (cCons (cTup (cCons (cK (.int 1)) (cCons (cK (.int 1)) cNil))) (cCons (cTup (cCons (cK (.int 0)) (cCons (cK (.int 1)) cNil))) (cCons (cTup (cCons (cK (.int 1)) (cCons (cK (.int 2)) cNil))) (cCons (cTup (cCons (cBin gSub (cK (.int 0)) (cK (.int 1))) (cCons (cK (.int 1)) cNil))) (cCons (cTup (cCons (cK (.int 2)) (cCons (cK (.int 1)) cNil))) (cCons (cTup (cCons (cBin gSub (cK (.int 0)) (cK (.int 1))) (cCons (cK (.int 2)) cNil))) (cCons (cTup (cCons (cK (.int 1)) (cCons (cK (.int 3)) cNil))) cNil))))))))) (cCall f__law_take (cCons (cFrz (cVar 0)) (cCons (cK (.int 8)) cNil)))))
def f__law_item : CF := fnD 1 m__law_item
def m__law_table : CSx :=
  (cRet (cB gTuple (cCons (cLc [2] (iRg1 (cVar 1)) (gNm 2) cYes (cB gTuple (cCons (cLc [3] (iRg1 (cVar 1)) (gNm 3) cYes (cCall f__law_item (cCons (cFrz (cVar 0)) cNil))) cNil))) cNil)))
def f__law_table : CF := fnD 4 m__law_table
def m__law_unit : CSx :=
  (cRet (cB gTuple (cCons (cLc [1] (iRg1 (cVar 0)) (gNm 1) cYes (cB gTuple (cCons (cLc [2] (iRg1 (cVar 0)) (gNm 2) cYes (cIf (cTst (cBin gEq (cVar 1) (cVar 2))) (cTup (cCons (cK (.int 1)) (cCons (cK (.int 1)) cNil))) (cTup (cCons (cK (.int 0)) (cCons (cK (.int 1)) cNil))))) cNil))) cNil)))
def f__law_unit : CF := fnD 3 m__law_unit
def m__law_times_rows : CSx :=
  (cSeq (cSet 2 (cLstRg (cRg1 (cB gLen (cCons (cVar 1) cNil)))))
  (cRet (cB gTuple (cCons (cLc [3] (iAny (cFrz (cVar 0))) (gNm 3) cYes (cB gTuple (cCons (cLc [4] (iAny (cFrz (cVar 2))) (gNm 4) cYes (cCall f__law_sum (cCons (cLc [5] (iAny (cFrz (cVar 2))) (gNm 5) cYes (cCall f__law_times (cCons (cFrz (cBin gIx (cVar 3) (cVar 5))) (cCons (cFrz (cBin gIx (cBin gIx (cVar 1) (cVar 5)) (cVar 4))) cNil)))) cNil))) cNil))) cNil))))
def f__law_times_rows : CF := fnD 6 m__law_times_rows
def m__law_led : CSx :=
  (cRet (cB gTuple (cCons (cLc [2] (iAny (cFrz (cVar 0))) (gNm 2) cYes (cCall f__law_sum (cCons (cLc [3] (iRg1 (cB gLen (cCons (cVar 1) cNil))) (gNm 3) cYes (cCall f__law_times (cCons (cFrz (cBin gIx (cVar 2) (cVar 3))) (cCons (cFrz (cBin gIx (cVar 1) (cVar 3))) cNil)))) cNil))) cNil)))
def f__law_led : CF := fnD 4 m__law_led
def m__law_size : CSx :=
  (cRet (cCall f__law_most (cCons (cLc [1] (iAny (cFrz (cVar 0))) (gNm 1) cYes (cTup (cCons (cB gAbs (cCons (cBin gIx (cVar 1) (cK (.int 0))) cNil)) (cCons (cFrz (cBin gIx (cVar 1) (cK (.int 1)))) cNil)))) cNil)))
def f__law_size : CF := fnD 2 m__law_size
def m__law_int : CSx :=
  (cRet (cAndV (cIsi "int" (cVar 0)) (cNot (cIsi "bool" (cVar 0)))))
def f__law_int : CF := fnD 1 m__law_int
def m__law_is_ratio : CSx :=
  (cSeq (cIfS (cOr (cNotT (cTru (cIsi "tuple" (cVar 0)))) (cOr (cTst (cBin gNe (cB gLen (cCons (cVar 0) cNil)) (cK (.int 2)))) (cOr (cNotT (cTru (cCall f__law_int (cCons (cFrz (cBin gIx (cVar 0) (cK (.int 0)))) cNil)))) (cOr (cNotT (cTru (cCall f__law_int (cCons (cFrz (cBin gIx (cVar 0) (cK (.int 1)))) cNil)))) (cTst (cBin gLt (cBin gIx (cVar 0) (cK (.int 1))) (cK (.int 1)))))))) (cRet (cK (.bl false))) cSkip)
  (cRet (cBin gEq (cCall f__law_low (cCons (cFrz (cBin gIx (cVar 0) (cK (.int 0)))) (cCons (cFrz (cBin gIx (cVar 0) (cK (.int 1)))) cNil))) (cVar 0))))
def f__law_is_ratio : CF := fnD 1 m__law_is_ratio
def m__law_is_row : CSx :=
  (cRet (cAndV (cIsi "tuple" (cVar 1)) (cAndV (cBin gEq (cB gLen (cCons (cVar 1) cNil)) (cVar 0)) (cB gAll (cCons (cLc [2] (iAny (cFrz (cVar 1))) (gNm 2) cYes (cCall f__law_is_ratio (cCons (cFrz (cVar 2)) cNil))) cNil)))))
def f__law_is_row : CF := fnD 3 m__law_is_row
def m__law_is_table : CSx :=
  (cRet (cAndV (cIsi "tuple" (cVar 1)) (cAndV (cBin gEq (cB gLen (cCons (cVar 1) cNil)) (cVar 0)) (cB gAll (cCons (cLc [2] (iAny (cFrz (cVar 1))) (gNm 2) cYes (cCall f__law_is_row (cCons (cFrz (cVar 0)) (cCons (cFrz (cVar 2)) cNil)))) cNil)))))
def f__law_is_table : CF := fnD 3 m__law_is_table
def m__law_rank : CSx :=
  (cSeq (cPar2 2 3 (cCons (cLc [6] (iAny (cFrz (cVar 0))) (gNm 6) cYes (cB gList (cCons (cVar 6) cNil))) (cCons (cK (.int 0)) cNil)))
  (cSeq (cFor (iRg1 (cB gLen (cCons (cBin gIx (cVar 0) (cK (.int 0))) cNil))) (gNm 1) (cSeq (cSeq (cFz 2) (cSet 4 (cLc [6] (iAny (cFrz (cVar 2))) (gNm 6) (cTst (cBin gNe (cBin gIx (cBin gIx (cVar 6) (cVar 1)) (cK (.int 0))) (cK (.int 0)))) (cFrz (cVar 6)))))
  (cIfS (cTst (cBin gNe (cVar 4) (cLst cNil))) (cSeq (cParN [7, 3] (cCons (cFrz (cBin gIx (cVar 4) (cK (.int 0)))) (cCons (cBin gAdd (cVar 3) (cK (.int 1))) cNil)))
  (cSeq (cSeq (cFz 2) (cSet 2 (cLc [6] (iAny (cFrz (cVar 2))) (gNm 6) (cOr (cTst (cBin gNe (cVar 6) (cVar 7))) (cTst (cBin gEq (cBin gIx (cBin gIx (cVar 6) (cVar 1)) (cK (.int 0))) (cK (.int 0))))) (cFrz (cVar 6)))))
  (cSeq (cSet 5 (cIf (cTst (cBin gGt (cBin gIx (cBin gIx (cVar 7) (cVar 1)) (cK (.int 0))) (cK (.int 0)))) (cTup (cCons (cFrz (cBin gIx (cBin gIx (cVar 7) (cVar 1)) (cK (.int 1)))) (cCons (cFrz (cBin gIx (cBin gIx (cVar 7) (cVar 1)) (cK (.int 0)))) cNil))) (cTup (cCons (cBin gSub (cK (.int 0)) (cBin gIx (cBin gIx (cVar 7) (cVar 1)) (cK (.int 1)))) (cCons (cBin gSub (cK (.int 0)) (cBin gIx (cBin gIx (cVar 7) (cVar 1)) (cK (.int 0)))) cNil)))))
  (cSeq (cFz 2) (cSet 2 (cLc [6] (iAny (cFrz (cVar 2))) (gNm 6) cYes (cLc [8] (iRg1 (cB gLen (cCons (cVar 6) cNil))) (gNm 8) cYes (cCall f__law_minus (cCons (cFrz (cBin gIx (cVar 6) (cVar 8))) (cCons (cCall f__law_times (cCons (cCall f__law_times (cCons (cFrz (cBin gIx (cVar 6) (cVar 1))) (cCons (cFrz (cVar 5)) cNil))) (cCons (cFrz (cBin gIx (cVar 7) (cVar 8))) cNil))) cNil)))))))))) cSkip)))
  (cRet (cVar 3))))
def f__law_rank : CF := fnD 9 m__law_rank
def m__law_power : CSx :=
  (cSeq (cSet 2 (cTup (cCons (cK (.int 1)) (cCons (cK (.int 1)) cNil))))
  (cSeq (cFor (iRg1 (cVar 1)) (gNm 3) (cSet 2 (cCall f__law_times (cCons (cFrz (cVar 2)) (cCons (cFrz (cVar 0)) cNil)))))
  (cRet (cVar 2))))
def f__law_power : CF := fnD 4 m__law_power
def m__law_ask : CSx :=
  (cSeq (cSet 2 (cLst (cCons (cK (.fn "product")) (cCons (cK (.fn "added")) (cCons (cK (.fn "scaled")) (cCons (cK (.fn "turned")) (cCons (cK (.fn "power_tables")) (cCons (cK (.fn "led")) (cCons (cK (.fn "trace")) (cCons (cK (.fn "rank")) (cCons (cK (.fn "back")) (cCons (cK (.fn "greatest")) (cCons (cK (.fn "is_nought")) (cCons (cK (.fn "has_no_minus")) (cCons (cK (.fn "slanted")) (cCons (cK (.fn "unit")) (cCons (cK (.fn "over")) (cCons (cK (.fn "ratio")) cNil))))))))))))))))))
  (cTry mt_Malformed (cRet (cIf (cTst (cBin gEq (cB gLen (cCons (cVar 1) cNil)) (cK (.int 1)))) (cCallE [("turned", f_turned), ("trace", f_trace), ("rank", f_rank), ("back", f_back), ("greatest", f_greatest), ("is_nought", f_is_nought), ("has_no_minus", f_has_no_minus), ("unit", f_unit)] (cBin gIx (cVar 2) (cVar 0)) (cCons (cFrz (cBin gIx (cVar 1) (cK (.int 0)))) cNil)) (cCallE [("product", f_product), ("added", f_added), ("scaled", f_scaled), ("power_tables", f_power_tables), ("led", f_led), ("slanted", f_slanted), ("over", f_over), ("ratio", f_ratio)] (cBin gIx (cVar 2) (cVar 0)) (cCons (cFrz (cBin gIx (cVar 1) (cK (.int 0)))) (cCons (cFrz (cBin gIx (cVar 1) (cK (.int 1)))) cNil))))) (cRet (cK (.str "<malformed>")))))
def f__law_ask : CF := fnD 3 m__law_ask
def m__law_numbers : CSx :=
  (cSeq (cAsg (gTp 2 (gsCons (gNm 4) (gsCons (gNm 5) gsNil))) (cLc [8] (iRg1 (cK (.int 2))) (gNm 8) cYes (cCall f__law_low (cCons (cBin gSub (cCall f__law_take (cCons (cFrz (cVar 0)) (cCons (cK (.int 13)) cNil))) (cK (.int 6))) (cCons (cBin gAdd (cK (.int 1)) (cCall f__law_take (cCons (cFrz (cVar 0)) (cCons (cK (.int 7)) cNil)))) cNil)))))
  (cSeq (cPar2 6 7 (cCons (cCall f__law_minus (cCons (cFrz (cVar 4)) (cCons (cFrz (cVar 5)) cNil))) (cCons (cIf (cTru (cCall f__law_less (cCons (cFrz (cVar 4)) (cCons (cFrz (cVar 5)) cNil)))) (cFrz (cVar 4)) (cFrz (cVar 5))) cNil)))
  (cSeq (cSet 1 (cLst (cCons (cCall f__law_plus (cCons (cFrz (cVar 4)) (cCons (cFrz (cVar 5)) cNil))) (cCons (cFrz (cVar 6)) (cCons (cCall f__law_times (cCons (cFrz (cVar 4)) (cCons (cFrz (cVar 5)) cNil))) (cCons (cFrz (cVar 7)) (cCons (cIf (cTst (cBin gEq (cVar 7) (cVar 4))) (cFrz (cVar 5)) (cFrz (cVar 4))) (cCons (cTup (cCons (cB gAbs (cCons (cBin gIx (cVar 6) (cK (.int 0))) cNil)) (cCons (cFrz (cBin gIx (cVar 6) (cK (.int 1)))) cNil))) cNil))))))))
  (cSeq (cIfS (cOr (cTst (cBin gNe (cLst (cCons (cCall f_plus (cCons (cFrz (cVar 4)) (cCons (cFrz (cVar 5)) cNil))) (cCons (cCall f_minus (cCons (cFrz (cVar 4)) (cCons (cFrz (cVar 5)) cNil))) (cCons (cCall f_times (cCons (cFrz (cVar 4)) (cCons (cFrz (cVar 5)) cNil))) (cCons (cCall f_lesser (cCons (cFrz (cVar 4)) (cCons (cFrz (cVar 5)) cNil))) (cCons (cCall f_greater (cCons (cFrz (cVar 4)) (cCons (cFrz (cVar 5)) cNil))) (cCons (cCall f_apart_by (cCons (cFrz (cVar 4)) (cCons (cFrz (cVar 5)) cNil))) cNil))))))) (cVar 1))) (cNotT (cTru (cCall f__law_says (cCons (cCall f_below (cCons (cFrz (cVar 4)) (cCons (cFrz (cVar 5)) cNil))) (cCons (cCall f__law_less (cCons (cFrz (cVar 4)) (cCons (cFrz (cVar 5)) cNil))) cNil)))))) (cRet (cK (.bl false))) cSkip)
  (cSeq (cSet 2 (cIf (cTst (cBin gNe (cBin gIx (cVar 5) (cK (.int 0))) (cK (.int 0)))) (cCall f__law_low (cCons (cBin gMul (cBin gMul (cBin gIx (cVar 4) (cK (.int 0))) (cBin gIx (cVar 5) (cK (.int 1)))) (cIf (cTst (cBin gGt (cBin gIx (cVar 5) (cK (.int 0))) (cK (.int 0)))) (cK (.int 1)) (cBin gSub (cK (.int 0)) (cK (.int 1))))) (cCons (cBin gMul (cBin gIx (cVar 4) (cK (.int 1))) (cB gAbs (cCons (cBin gIx (cVar 5) (cK (.int 0))) cNil))) cNil))) (cK (.str "<malformed>"))))
  (cSeq (cIfS (cOr (cTst (cBin gNe (cCall f__law_ask (cCons (cK (.int 14)) (cCons (cTup (cCons (cFrz (cVar 4)) (cCons (cFrz (cVar 5)) cNil))) cNil))) (cVar 2))) (cOr (cTst (cBin gNe (cCall f_total (cCons (cLst (cCons (cFrz (cVar 4)) (cCons (cFrz (cVar 5)) (cCons (cFrz (cVar 4)) cNil)))) cNil)) (cCall f__law_sum (cCons (cLst (cCons (cFrz (cVar 4)) (cCons (cFrz (cVar 5)) (cCons (cFrz (cVar 4)) cNil)))) cNil)))) (cOr (cTst (cBin gNe (cCall f_power_ratios (cCons (cFrz (cVar 4)) (cCons (cK (.int 3)) cNil))) (cCall f__law_power (cCons (cFrz (cVar 4)) (cCons (cK (.int 3)) cNil))))) (cTst (cBin gNe (cCall f_power_ratios (cCons (cFrz (cVar 4)) (cCons (cK (.int 0)) cNil))) (cTup (cCons (cK (.int 1)) (cCons (cK (.int 1)) cNil)))))))) (cRet (cK (.bl false))) cSkip)
  (cSeq (cIfS (cOr (cTst (cBin gNe (cCall f_ratio_text (cCons (cFrz (cVar 4)) cNil)) (cIf (cTst (cBin gEq (cBin gIx (cVar 4) (cK (.int 1))) (cK (.int 1)))) (cB gStr (cCons (cBin gIx (cVar 4) (cK (.int 0))) cNil)) (cBin gAdd (cBin gAdd (cB gStr (cCons (cBin gIx (cVar 4) (cK (.int 0))) cNil)) (cK (.str "/"))) (cB gStr (cCons (cBin gIx (cVar 4) (cK (.int 1))) cNil)))))) (cTst (cBin gNe (cCall f__law_ask (cCons (cK (.int 15)) (cCons (cTup (cCons (cBin gMul (cBin gIx (cVar 4) (cK (.int 0))) (cK (.int 6))) (cCons (cBin gSub (cK (.int 0)) (cBin gMul (cBin gIx (cVar 4) (cK (.int 1))) (cK (.int 6)))) cNil))) cNil))) (cTup (cCons (cBin gSub (cK (.int 0)) (cBin gIx (cVar 4) (cK (.int 0)))) (cCons (cFrz (cBin gIx (cVar 4) (cK (.int 1)))) cNil)))))) (cRet (cK (.bl false))) cSkip)
  (cSeq (cSet 3 (cLst (cCons (cFrz (cVar 4)) (cCons (cTup (cCons (cK (.int 2)) (cCons (cK (.int 4)) cNil))) (cCons (cTup (cCons (cK (.int 1)) (cCons (cK (.int 0)) cNil))) (cCons (cTup (cCons (cK (.int 1)) (cCons (cBin gSub (cK (.int 0)) (cK (.int 1))) cNil))) (cCons (cTup (cCons (cK (.bl true)) (cCons (cK (.int 1)) cNil))) (cCons (cTup (cCons (cK (.int 1)) (cCons (cK (.int 1)) (cCons (cK (.int 1)) cNil)))) (cCons (cLst (cCons (cK (.int 1)) (cCons (cK (.int 2)) cNil))) (cCons (cK .non) (cCons (cTup (cCons (cK (.int 0)) (cCons (cK (.int 1)) cNil))) (cCons (cTup (cCons (cBin gSub (cK (.int 0)) (cK (.int 1))) (cCons (cK (.int 2)) cNil))) cNil))))))))))))
  (cSeq (cIfS (cTst (cBin gNe (cLc [9] (iAny (cFrz (cVar 3))) (gNm 9) cYes (cCall f_is_ratio (cCons (cFrz (cVar 9)) cNil))) (cLc [9] (iAny (cFrz (cVar 3))) (gNm 9) cYes (cCall f__law_is_ratio (cCons (cFrz (cVar 9)) cNil))))) (cRet (cK (.bl false))) cSkip)
  (cRet (cAndV (cBin gEq (cLc [9] (iAny (cLst (cCons (cK (.int 3)) (cCons (cK (.bl true)) (cCons (cK (.str "3")) (cCons (cK .non) cNil)))))) (gNm 9) cYes (cCall f_is_whole (cCons (cFrz (cVar 9)) cNil))) (cLst (cCons (cK (.bl true)) (cCons (cK (.bl false)) (cCons (cK (.bl false)) (cCons (cK (.bl false)) cNil)))))) (cBin gEq (cLc [10] (iAny (cLst (cCons (cTup (cCons (cK (.int 1)) (cCons (cK (.int 0)) cNil))) (cCons (cTup (cCons (cK (.bl true)) (cCons (cK (.int 2)) cNil))) (cCons (cTup (cCons (cK (.str "1")) (cCons (cK (.int 2)) cNil))) cNil))))) (gNm 10) cYes (cCall f__law_ask (cCons (cK (.int 15)) (cCons (cFrz (cVar 10)) cNil)))) (cBin gMul (cLst (cCons (cK (.str "<malformed>")) cNil)) (cK (.int 3)))))))))))))))
def f__law_numbers : CF := fnD 11 m__law_numbers
def m__law_undone : CSx :=
  (cRet (cBin gEq (cCall f__law_rank (cCons (cFrz (cVar 0)) cNil)) (cB gLen (cCons (cVar 0) cNil))))
def f__law_undone : CF := fnD 1 m__law_undone
def m_law : CSx :=
  (cSeq (cSet 2 (cBin gAdd (cK (.int 1)) (cCall f__law_take (cCons (cFrz (cVar 1)) (cCons (cK (.int 4)) cNil)))))
  (cSeq (cParN [15, 16] (cCons (cCall f__law_table (cCons (cFrz (cVar 1)) (cCons (cFrz (cVar 2)) cNil))) (cCons (cCall f__law_table (cCons (cFrz (cVar 1)) (cCons (cFrz (cVar 2)) cNil))) cNil)))
  (cSeq (cIfS (cTst (cBin gEq (cCall f__law_take (cCons (cFrz (cVar 1)) (cCons (cK (.int 3)) cNil))) (cK (.int 0)))) (cSet 15 (cBin gAdd (cSl (cVar 15) cNoPart (cPart (cNeg (cK (.int 1))))) (cTup (cCons (cFrz (cBin gIx (cVar 15) (cK (.int 0)))) cNil)))) cSkip)
  (cSeq (cSet 3 (cB gTuple (cCons (cLc [20] (iRg1 (cVar 2)) (gNm 20) cYes (cCall f__law_item (cCons (cFrz (cVar 1)) cNil))) cNil)))
  (cSeq (cFor (iAny (cLst (cCons (cFrz (cVar 15)) (cCons (cCall (f__law_bent 5) (cCons (cFrz (cVar 1)) (cCons (cFrz (cVar 15)) cNil))) (cCons (cCall (f__law_bent 5) (cCons (cFrz (cVar 1)) (cCons (cFrz (cVar 15)) cNil))) (cCons (cTup cNil) (cCons (cBin gAdd (cVar 15) (cVar 15)) (cCons (cB gList (cCons (cVar 15) cNil)) (cCons (cK .non) (cCons (cTup (cCons (cTup cNil) cNil)) (cCons (cBin gMul (cTup (cCons (cBin gMul (cTup (cCons (cTup (cCons (cK (.int 1)) (cCons (cK (.int 1)) cNil))) cNil)) (cK (.int 5))) cNil)) (cK (.int 5))) cNil))))))))))) (gNm 4) (cSeq (cSet 17 (cAndV (cIsi "tuple" (cVar 4)) (cAndV (cChain gLt gLt (cK (.int 0)) (cB gLen (cCons (cVar 4) cNil)) (cK (.int 5))) (cCall f__law_is_table (cCons (cB gLen (cCons (cVar 4) cNil)) (cCons (cFrz (cVar 4)) cNil))))))
  (cIfS (cOr (cNotT (cTru (cCall f__law_says (cCons (cCall f_is_table (cCons (cFrz (cVar 4)) cNil)) (cCons (cFrz (cVar 17)) cNil))))) (cAnd (cNotT (cTru (cVar 17))) (cTst (cBin gNe (cLc [24] (iAny (cLst (cCons (cK (.int 3)) (cCons (cK (.int 6)) (cCons (cK (.int 7)) (cCons (cK (.int 8)) (cCons (cK (.int 10)) (cCons (cK (.int 11)) cNil)))))))) (gNm 24) cYes (cCall f__law_ask (cCons (cFrz (cVar 24)) (cCons (cTup (cCons (cFrz (cVar 4)) cNil)) cNil)))) (cBin gMul (cLst (cCons (cK (.str "<malformed>")) cNil)) (cK (.int 6))))))) (cRet (cK (.bl false))) cSkip)))
  (cSeq (cSet 5 (cB gTuple (cCons (cLc [21] (iRg1 (cVar 2)) (gNm 21) cYes (cB gTuple (cCons (cLc [22] (iRg1 (cVar 2)) (gNm 22) cYes (cCall f__law_plus (cCons (cFrz (cBin gIx (cBin gIx (cVar 15) (cVar 21)) (cVar 22))) (cCons (cFrz (cBin gIx (cBin gIx (cVar 16) (cVar 21)) (cVar 22))) cNil)))) cNil))) cNil)))
  (cSeq (cIfS (cOr (cTst (cBin gNe (cCall f__law_ask (cCons (cK (.int 0)) (cCons (cTup (cCons (cFrz (cVar 15)) (cCons (cFrz (cVar 16)) cNil))) cNil))) (cCall f__law_times_rows (cCons (cFrz (cVar 15)) (cCons (cFrz (cVar 16)) cNil))))) (cOr (cTst (cBin gNe (cCall f__law_ask (cCons (cK (.int 1)) (cCons (cTup (cCons (cFrz (cVar 15)) (cCons (cFrz (cVar 16)) cNil))) cNil))) (cVar 5))) (cTst (cBin gNe (cCall f__law_ask (cCons (cK (.int 5)) (cCons (cTup (cCons (cFrz (cVar 15)) (cCons (cFrz (cVar 3)) cNil))) cNil))) (cCall f__law_led (cCons (cFrz (cVar 15)) (cCons (cFrz (cVar 3)) cNil))))))) (cRet (cK (.bl false))) cSkip)
  (cSeq (cSet 6 (cCall f__law_item (cCons (cFrz (cVar 1)) cNil)))
  (cSeq (cIfS (cTst (cBin gNe (cCall f__law_ask (cCons (cK (.int 2)) (cCons (cTup (cCons (cFrz (cVar 15)) (cCons (cFrz (cVar 6)) cNil))) cNil))) (cB gTuple (cCons (cLc [10] (iAny (cFrz (cVar 15))) (gNm 10) cYes (cB gTuple (cCons (cLc [26] (iAny (cFrz (cVar 10))) (gNm 26) cYes (cCall f__law_times (cCons (cFrz (cVar 26)) (cCons (cFrz (cVar 6)) cNil)))) cNil))) cNil)))) (cRet (cK (.bl false))) cSkip)
  (cSeq (cIfS (cOr (cTst (cBin gNe (cCall f__law_ask (cCons (cK (.int 3)) (cCons (cTup (cCons (cFrz (cVar 15)) cNil)) cNil))) (cB gTuple (cCons (cLc [23] (iRg1 (cVar 2)) (gNm 23) cYes (cB gTuple (cCons (cLc [10] (iAny (cFrz (cVar 15))) (gNm 10) cYes (cFrz (cBin gIx (cVar 10) (cVar 23)))) cNil))) cNil)))) (cTst (cBin gNe (cCall f__law_ask (cCons (cK (.int 6)) (cCons (cTup (cCons (cFrz (cVar 15)) cNil)) cNil))) (cCall f__law_sum (cCons (cLc [23] (iRg1 (cVar 2)) (gNm 23) cYes (cFrz (cBin gIx (cBin gIx (cVar 15) (cVar 23)) (cVar 23)))) cNil))))) (cRet (cK (.bl false))) cSkip)
  (cSeq (cPar2 18 19 (cCons (cCall f__law_take (cCons (cFrz (cVar 1)) (cCons (cK (.int 6)) cNil))) (cCons (cCall f__law_unit (cCons (cFrz (cVar 2)) cNil)) cNil)))
  (cSeq (cFor (iRg1 (cVar 18)) (gNm 7) (cSet 19 (cCall f__law_times_rows (cCons (cFrz (cVar 15)) (cCons (cFrz (cVar 19)) cNil)))))
  (cSeq (cIfS (cOr (cTst (cBin gNe (cCall f__law_ask (cCons (cK (.int 4)) (cCons (cTup (cCons (cFrz (cVar 15)) (cCons (cFrz (cVar 18)) cNil))) cNil))) (cVar 19))) (cOr (cTst (cBin gNe (cCall f__law_ask (cCons (cK (.int 13)) (cCons (cTup (cCons (cFrz (cVar 2)) cNil)) cNil))) (cCall f__law_unit (cCons (cFrz (cVar 2)) cNil)))) (cOr (cTst (cBin gNe (cCall f__law_ask (cCons (cK (.int 7)) (cCons (cTup (cCons (cFrz (cVar 15)) cNil)) cNil))) (cCall f__law_rank (cCons (cFrz (cVar 15)) cNil)))) (cTst (cBin gNe (cCall f__law_ask (cCons (cK (.int 9)) (cCons (cTup (cCons (cFrz (cVar 3)) cNil)) cNil))) (cCall f__law_size (cCons (cFrz (cVar 3)) cNil))))))) (cRet (cK (.bl false))) cSkip)
  (cSeq (cSet 8 (cCall f__law_ask (cCons (cK (.int 8)) (cCons (cTup (cCons (cFrz (cVar 15)) cNil)) cNil))))
  (cSeq (cIfS (cOr (cTst (cBin gEq (cBin (gIsN false) (cVar 8) (cK .non)) (cCall f__law_undone (cCons (cFrz (cVar 15)) cNil)))) (cAnd (cTst (cBin (gIsN true) (cVar 8) (cK .non))) (cOr (cTst (cBin gNe (cCall f__law_times_rows (cCons (cFrz (cVar 15)) (cCons (cFrz (cVar 8)) cNil))) (cCall f__law_unit (cCons (cFrz (cVar 2)) cNil)))) (cNotT (cTru (cCall f__law_is_table (cCons (cFrz (cVar 2)) (cCons (cFrz (cVar 8)) cNil)))))))) (cRet (cK (.bl false))) cSkip)
  (cSeq (cSet 9 (cLst cNil))
  (cSeq (cFor (iAny (cFrz (cVar 15))) (gNm 10) (cSet 9 (cBin gAdd (cVar 9) (cB gList (cCons (cVar 10) cNil)))))
  (cSeq (cIfS (cOr (cNotT (cTru (cCall f__law_says (cCons (cCall f__law_ask (cCons (cK (.int 10)) (cCons (cTup (cCons (cFrz (cVar 15)) cNil)) cNil))) (cCons (cB gAll (cCons (cLc [26] (iAny (cFrz (cVar 9))) (gNm 26) cYes (cBin gEq (cBin gIx (cVar 26) (cK (.int 0))) (cK (.int 0)))) cNil)) cNil))))) (cNotT (cTru (cCall f__law_says (cCons (cCall f__law_ask (cCons (cK (.int 11)) (cCons (cTup (cCons (cFrz (cVar 15)) cNil)) cNil))) (cCons (cB gAll (cCons (cLc [26] (iAny (cFrz (cVar 9))) (gNm 26) cYes (cBin gGe (cBin gIx (cVar 26) (cK (.int 0))) (cK (.int 0)))) cNil)) cNil)))))) (cRet (cK (.bl false))) cSkip)
  (cSeq (cSet 11 (cCall f__law_table (cCons (cFrz (cVar 1)) (cCons (cBin gAdd (cK (.int 1)) (cCall f__law_take (cCons (cFrz (cVar 1)) (cCons (cK (.int 3)) cNil)))) cNil))))
  (cSeq (cSet 12 (cB gTuple (cCons (cBin gAdd (cLc [10] (iAny (cFrz (cVar 15))) (gNm 10) cYes (cBin gAdd (cVar 10) (cBin gMul (cTup (cCons (cTup (cCons (cK (.int 0)) (cCons (cK (.int 1)) cNil))) cNil)) (cB gLen (cCons (cVar 11) cNil))))) (cLc [10] (iAny (cFrz (cVar 11))) (gNm 10) cYes (cBin gAdd (cBin gMul (cTup (cCons (cTup (cCons (cK (.int 0)) (cCons (cK (.int 1)) cNil))) cNil)) (cVar 2)) (cVar 10)))) cNil)))
  (cSeq (cIfS (cTst (cBin gNe (cCall f__law_ask (cCons (cK (.int 12)) (cCons (cTup (cCons (cFrz (cVar 15)) (cCons (cFrz (cVar 11)) cNil))) cNil))) (cIf (cTst (cBin gLt (cBin gAdd (cVar 2) (cB gLen (cCons (cVar 11) cNil))) (cK (.int 5)))) (cFrz (cVar 12)) (cK (.str "<malformed>"))))) (cRet (cK (.bl false))) cSkip)
  (cSeq (cSet 13 (cTup (cCons (cTup (cCons (cK (.int 2)) (cCons (cK (.int 1)) cNil))) cNil)))
  (cSeq (cIfS (cOr (cTst (cBin gNe (cCall f__law_ask (cCons (cK (.int 4)) (cCons (cTup (cCons (cTup (cCons (cFrz (cVar 13)) cNil)) (cCons (cK (.int 64)) cNil))) cNil))) (cTup (cCons (cTup (cCons (cTup (cCons (cK (.int 18446744073709551616)) (cCons (cK (.int 1)) cNil))) cNil)) cNil)))) (cTst (cBin gNe (cCall f__law_ask (cCons (cK (.int 4)) (cCons (cTup (cCons (cTup (cCons (cFrz (cVar 13)) cNil)) (cCons (cK (.int 65)) cNil))) cNil))) (cK (.str "<malformed>"))))) (cRet (cK (.bl false))) cSkip)
  (cSeq (cSet 14 (cLst (cCons (cTup (cCons (cK (.int 0)) (cCons (cTup (cCons (cFrz (cVar 15)) (cCons (cBin gAdd (cVar 15) (cVar 15)) cNil))) cNil))) (cCons (cTup (cCons (cK (.int 0)) (cCons (cTup (cCons (cFrz (cVar 15)) (cCons (cK .non) cNil))) cNil))) (cCons (cTup (cCons (cK (.int 1)) (cCons (cTup (cCons (cFrz (cVar 15)) (cCons (cTup (cCons (cTup (cCons (cFrz (cVar 3)) cNil)) cNil)) cNil))) cNil))) (cCons (cTup (cCons (cK (.int 2)) (cCons (cTup (cCons (cFrz (cVar 15)) (cCons (cK (.int 2)) cNil))) cNil))) (cCons (cTup (cCons (cK (.int 2)) (cCons (cTup (cCons (cFrz (cVar 15)) (cCons (cTup (cCons (cK (.int 2)) (cCons (cK (.int 4)) cNil))) cNil))) cNil))) (cCons (cTup (cCons (cK (.int 4)) (cCons (cTup (cCons (cFrz (cVar 15)) (cCons (cBin gSub (cK (.int 0)) (cK (.int 1))) cNil))) cNil))) (cCons (cTup (cCons (cK (.int 4)) (cCons (cTup (cCons (cFrz (cVar 15)) (cCons (cK (.bl true)) cNil))) cNil))) cNil)))))))))
  (cSeq (cSet 14 (cBin gAdd (cVar 14) (cLst (cCons (cTup (cCons (cK (.int 5)) (cCons (cTup (cCons (cFrz (cVar 15)) (cCons (cBin gAdd (cVar 3) (cVar 3)) cNil))) cNil))) (cCons (cTup (cCons (cK (.int 5)) (cCons (cTup (cCons (cFrz (cVar 15)) (cCons (cK .non) cNil))) cNil))) (cCons (cTup (cCons (cK (.int 9)) (cCons (cTup (cCons (cTup cNil) cNil)) cNil))) (cCons (cTup (cCons (cK (.int 9)) (cCons (cTup (cCons (cBin gMul (cVar 3) (cK (.int 5))) cNil)) cNil))) (cCons (cTup (cCons (cK (.int 9)) (cCons (cTup (cCons (cK .non) cNil)) cNil))) cNil))))))))
  (cSeq (cSet 14 (cBin gAdd (cVar 14) (cLst (cCons (cTup (cCons (cK (.int 13)) (cCons (cTup (cCons (cK (.int 0)) cNil)) cNil))) (cCons (cTup (cCons (cK (.int 13)) (cCons (cTup (cCons (cK (.int 5)) cNil)) cNil))) (cCons (cTup (cCons (cK (.int 13)) (cCons (cTup (cCons (cK (.bl true)) cNil)) cNil))) (cCons (cTup (cCons (cK (.int 12)) (cCons (cTup (cCons (cFrz (cVar 15)) (cCons (cK .non) cNil))) cNil))) cNil)))))))
  (cRet (cAndV (cCall f__law_numbers (cCons (cFrz (cVar 1)) cNil)) (cB gAll (cCons (cLc [24, 25] (iAny (cFrz (cVar 14))) (gTp 2 (gsCons (gNm 24) (gsCons (gNm 25) gsNil))) cYes (cBin gEq (cCall f__law_ask (cCons (cFrz (cVar 24)) (cCons (cFrz (cVar 25)) cNil))) (cK (.str "<malformed>")))) cNil))))))))))))))))))))))))))))))
/-! ### what the top has written -/
structure Txt (K : PySem.W.Frag) (mg : Str → Option Value) : Prop where
  d_is_whole : DefAt K mg "is_whole" s_is_whole ["value"]
  d_common : DefAt K mg "common" s_common ["a", "b"]
  d_lowest : DefAt K mg "lowest" s_lowest ["n", "d"]
  d_ratio : DefAt K mg "ratio" s_ratio ["n", "d"]
  d_is_ratio : DefAt K mg "is_ratio" s_is_ratio ["value"]
  d_plus : DefAt K mg "plus" s_plus ["a", "b"]
  d_minus : DefAt K mg "minus" s_minus ["a", "b"]
  d_times : DefAt K mg "times" s_times ["a", "b"]
  d_over : DefAt K mg "over" s_over ["a", "b"]
  d_below : DefAt K mg "below" s_below ["a", "b"]
  d_total : DefAt K mg "total" s_total ["items"]
  d_lesser : DefAt K mg "lesser" s_lesser ["a", "b"]
  d_greater : DefAt K mg "greater" s_greater ["a", "b"]
  d_ratio_text : DefAt K mg "ratio_text" s_ratio_text ["a"]
  d_power_ratios : DefAs K mg "power_ratios" "power" s_power_ratios ["a", "many"]
  d_apart_by : DefAt K mg "apart_by" s_apart_by ["a", "b"]
  d_has_shape : DefAt K mg "has_shape" s_has_shape ["value", "size"]
  d_is_row : DefAt K mg "is_row" s_is_row ["size", "value"]
  d_is_square : DefAt K mg "is_square" s_is_square ["size", "value"]
  d_is_table : DefAt K mg "is_table" s_is_table ["value"]
  d_check_table : DefAt K mg "check_table" s_check_table ["value"]
  d_check_two : DefAt K mg "check_two" s_check_two ["one", "two"]
  d_check_row : DefAt K mg "check_row" s_check_row ["table", "row"]
  d_unit_of : DefAt K mg "unit_of" s_unit_of ["size"]
  d_unit : DefAt K mg "unit" s_unit ["size"]
  d_dot : DefAt K mg "dot" s_dot ["one", "two"]
  d_turned_of : DefAt K mg "turned_of" s_turned_of ["table"]
  d_product_of : DefAt K mg "product_of" s_product_of ["one", "two"]
  d_led_of : DefAt K mg "led_of" s_led_of ["table", "row"]
  d_sum_of : DefAt K mg "sum_of" s_sum_of ["one", "two"]
  d_scaled_of : DefAt K mg "scaled_of" s_scaled_of ["table", "factor"]
  d_product : DefAt K mg "product" s_product ["one", "two"]
  d_added : DefAt K mg "added" s_added ["one", "two"]
  d_scaled : DefAt K mg "scaled" s_scaled ["table", "factor"]
  d_turned : DefAt K mg "turned" s_turned ["table"]
  d_led : DefAt K mg "led" s_led ["table", "row"]
  d_power_of : DefAt K mg "power_of" s_power_of ["table", "many"]
  d_power_tables : DefAs K mg "power_tables" "power" s_power_tables ["table", "many"]
  d_trace : DefAt K mg "trace" s_trace ["table"]
  d_cleared : DefAt K mg "cleared" s_cleared ["rows"]
  d_rank_of : DefAt K mg "rank_of" s_rank_of ["rows"]
  d_rank : DefAt K mg "rank" s_rank ["table"]
  d_back_of : DefAt K mg "back_of" s_back_of ["table"]
  d_back : DefAt K mg "back" s_back ["table"]
  d_size_of : DefAt K mg "size_of" s_size_of ["row"]
  d_greatest : DefAt K mg "greatest" s_greatest ["row"]
  d_is_nought : DefAt K mg "is_nought" s_is_nought ["table"]
  d_has_no_minus : DefAt K mg "has_no_minus" s_has_no_minus ["table"]
  d_corner_blocks : DefAt K mg "corner_blocks" s_corner_blocks ["one", "two"]
  d_slanted : DefAt K mg "slanted" s_slanted ["one", "two"]
  d__law_draw : DefAt K mg "_law_draw" s__law_draw ["script"]
  d__law_take : DefAt K mg "_law_take" s__law_take ["draw", "many"]
  d__law_says : DefAt K mg "_law_says" s__law_says ["value", "due"]
  d__law_less : DefAt K mg "_law_less" s__law_less ["a", "b"]
  d__law_low : DefAt K mg "_law_low" s__law_low ["n", "d"]
  d__law_plus : DefAt K mg "_law_plus" s__law_plus ["a", "b"]
  d__law_minus : DefAt K mg "_law_minus" s__law_minus ["a", "b"]
  d__law_times : DefAt K mg "_law_times" s__law_times ["a", "b"]
  d__law_sum : DefAt K mg "_law_sum" s__law_sum ["items"]
  d__law_most : DefAt K mg "_law_most" s__law_most ["items"]
  d__law_bent : DefAt K mg "_law_bent" s__law_bent ["draw", "data"]
  d__law_item : DefAt K mg "_law_item" s__law_item ["draw"]
  d__law_table : DefAt K mg "_law_table" s__law_table ["draw", "size"]
  d__law_unit : DefAt K mg "_law_unit" s__law_unit ["size"]
  d__law_times_rows : DefAt K mg "_law_times_rows" s__law_times_rows ["one", "two"]
  d__law_led : DefAt K mg "_law_led" s__law_led ["table", "row"]
  d__law_size : DefAt K mg "_law_size" s__law_size ["row"]
  d__law_int : DefAt K mg "_law_int" s__law_int ["value"]
  d__law_is_ratio : DefAt K mg "_law_is_ratio" s__law_is_ratio ["value"]
  d__law_is_row : DefAt K mg "_law_is_row" s__law_is_row ["size", "value"]
  d__law_is_table : DefAt K mg "_law_is_table" s__law_is_table ["size", "value"]
  d__law_rank : DefAt K mg "_law_rank" s__law_rank ["rows"]
  d__law_power : DefAt K mg "_law_power" s__law_power ["a", "many"]
  d__law_ask : DefAt K mg "_law_ask" s__law_ask ["which", "args"]
  d__law_numbers : DefAt K mg "_law_numbers" s__law_numbers ["draw"]
  d__law_undone : DefAt K mg "_law_undone" s__law_undone ["table"]
  b_abs : mg "abs" = none
  b_all : mg "all" = none
  b_any : mg "any" = none
  b_bool : mg "bool" = none
  b_int : mg "int" = none
  b_isinstance : mg "isinstance" = none
  b_len : mg "len" = none
  b_list : mg "list" = none
  b_range : mg "range" = none
  b_str : mg "str" = none
  b_tuple : mg "tuple" = none
  b_zip : mg "zip" = none
  c_MOST_POWER : ∃ t, mg "MOST_POWER" = some (.int 64 t)
  c_MOST_SIZE : ∃ t, mg "MOST_SIZE" = some (.int 4 t)
  c_ONE : ConT K mg "ONE" [(.int 1), (.int 1)]
  c_ZERO : ConT K mg "ZERO" [(.int 0), (.int 1)]
  e_Malformed : HasExc K mg "Malformed"
  x_Malformed : HasClause K mg "Malformed" mt_Malformed
/-! ### the defs -/
section
variable {P : Program} {w : World} {K : PySem.W.Frag} {mg : Str → Option Value} {base : Heap}
theorem sc__law_take : FnScope ["draw", "many", "found"] ["draw", "many"] (defScope s__law_take) := ⟨rfl, rfl, rfl, by decide +kernel, rfl, by decide +kernel, by decide +kernel⟩
theorem h__law_take (T : Txt K mg) : HasFn P w K mg base 1 "_law_take" 2 f__law_take := by
  obtain ⟨f, fd, F, g, b⟩ := T.d__law_take.ex
  refine ⟨f, fd, ["draw", "many"], F.okX sc__law_take (fun vs H Q E h => h.1) (fun cdv A outer s H vs Q E hr h => ?_), g, F.kp, b⟩
  refine ⟨tTake K, pss_cons (ps_if (pw_and (pt_cmpR op_eq (pe_ix ix_list (pv 0) pe_int (by intro _ _; rfl)) pe_int (nomark _)) (pw_and1 (pt_cmpR op_lt (pe_ix ix_list (pv 0) pe_int (by intro _ _; rfl)) (pe_callB call_len (by rfl) T.b_len PySem.boot_len (pa_cons (pe_ix ix_list (pv 0) pe_int (by intro _ _; rfl)) pa_nil)) (nomark _)))).pt
      (pss_one (ps_asg (pe_tup (pa_cons (pe_ix ix_list (pe_ix ix_list (pv 0) pe_int (by intro _ _; rfl)) (pe_ix ix_list (pv 0) pe_int (by intro _ _; rfl)) (by intro _ _; rfl)) (pa_cons pe_int (pa_cons (pe_op op_add (pe_ix ix_list (pv 0) pe_int (by intro _ _; rfl)) pe_int) pa_nil))))
        (pg_tup (n := 3) rfl (pgs_cons (pg_sub (pv 0) pe_int set_list) (pgs_cons (pg_sub (pv 0) pe_int set_list) (pgs_cons (pg_sub (pv 0) pe_int set_list) pgs_nil)))))) pss_nil)
    (pss_cons (ps_if (pt_cmpR op_gt (pe_ix ix_list (pv 0) pe_int (by intro _ _; rfl)) pe_int (nomark _))
        (pss_cons (ps_set (i := 2) sc__law_take.nd rfl (.inl rfl) (pe_op op_modN (pe_callTy call_int1 (by rfl) T.b_int (by decide +kernel) (pa_cons (pe_ix ix_list (pv 0) pe_int (by intro _ _; rfl)) pa_nil)) (pv 1)))
        (pss_cons (ps_asg (pe_op op_fdivA (pe_ix ix_list (pv 0) pe_int (by intro _ _; rfl)) (pv 1)) (pg_sub (pv 0) pe_int set_list))
        (pss_cons (ps_asg (pe_ifExp (pt_cmpR op_gt (pe_ix ix_list (pv 0) pe_int (by intro _ _; rfl)) pe_int (nomark _)) (pe_op op_sub (pe_ix ix_list (pv 0) pe_int (by intro _ _; rfl)) pe_int) pe_int) (pg_sub (pv 0) pe_int set_list))
        (pss_one (ps_ret (pv 2)))))) pss_nil)
    (pss_cons (ps_asg (pe_op op_add (pe_ix ix_list (pv 0) pe_int (by intro _ _; rfl)) pe_int) (pg_sub (pv 0) pe_int set_list))
    (pss_cons (ps_asg (pe_op op_modN (pe_callTy call_int1 (by rfl) T.b_int (by decide +kernel) (pa_cons (pe_op op_add (pe_op op_add (pe_op op_mulW (pe_ix ix_list (pv 0) pe_int (by intro _ _; rfl)) pe_int) (pe_op op_mulW (pe_op op_mulW (pe_ix ix_list (pv 0) pe_int (by intro _ _; rfl)) (pe_ix ix_list (pv 0) pe_int (by intro _ _; rfl))) pe_int)) pe_int) pa_nil)) pe_int) (pg_sub (pv 0) pe_int set_list))
    (pss_one (ps_ret (pe_op op_modN (pe_callTy call_int1 (by rfl) T.b_int (by decide +kernel) (pa_cons (pe_op op_fdivA (pe_ix ix_list (pv 0) pe_int (by intro _ _; rfl)) pe_int) pa_nil)) (pv 1))))))), pure_take h⟩
theorem sc__law_draw : FnScope ND ["script"] (defScope s__law_draw) := ⟨rfl, rfl, rfl, by decide +kernel, rfl, by decide +kernel, by decide +kernel⟩
theorem h_draw (T : Txt K mg) : HasDraw P w K mg base 1 := by
  obtain ⟨f, fd, F, g, b⟩ := T.d__law_draw.ex
  refine ⟨f, fd, ["script"], F.okX sc__law_draw (fun vs H Q E h => by obtain ⟨a, ns, rfl, _⟩ := h; rfl) (fun cdv A outer s H vs Q E hr h => ?_), g, F.kp, b⟩
  refine ⟨tDraw K, pss_cons (ps_set (i := 1) sc__law_draw.nd rfl (.inl rfl) pe_int) (pss_cons (ps_for PassesOwn.leaving rfl (pi_list (pe_slice sl_list (pv 0) po_none (po_some pe_int))) (pg_name (i := 2) sc__law_draw.nd rfl (.inl rfl))
      (pss_one (ps_set (i := 1) sc__law_draw.nd rfl (.inl rfl) (pe_op op_add (pe_op op_modN (pe_callTy call_int1 (by rfl) T.b_int (by decide +kernel) (pa_cons (pe_op op_add (pe_op op_mulW (pv 1) pe_int) (pv 2)) pa_nil)) pe_int) pe_int))))
    (pss_one (ps_ret (pe_lst (pa_cons (pe_lc (own := [("cell", 2)]) rfl sc__law_draw.nd (pi_list (pe_slice sl_list (pv 0) po_none (po_some pe_int))) (blkOk_by (by kernel_rfl)) (fun _ _ _ _ _ => pg_name (i := 2) sc__law_draw.nd rfl (Or.inl rfl)) (fun _ _ _ _ _ => pts_nil) (fun _ _ _ _ _ => pe_callB call_abs (by rfl) T.b_abs (by decide +kernel) (pa_cons (pe_callTy call_int1 (by rfl) T.b_int (by decide +kernel) (pa_cons (pv 2) pa_nil)) pa_nil)))
      (pa_cons pe_int (pa_cons pe_int (pa_cons pe_int (pa_cons (pv 1) (pa_cons pe_int pa_nil)))))))))), pure_draw h⟩
theorem sc_is_whole : FnScope ["value"] ["value"] (defScope s_is_whole) := ⟨rfl, rfl, rfl, by decide +kernel, rfl, by decide +kernel, by decide +kernel⟩
theorem h_is_whole (T : Txt K mg) : HasFn P w K mg base 1 "is_whole" 1 f_is_whole := has_at (N := ["value"]) (ps := ["value"]) T.d_is_whole sc_is_whole fun f dra cdv A outer s H E hr => (by exact
  (bss_one (bs_ret (EE.be (ee_and (EE.be (ee_isi isi_int T.b_isinstance T.b_int (by decide +kernel) (be_var 0))) (ee_one (ee_not (EE.be (ee_isi isi_bool T.b_isinstance T.b_bool (by decide +kernel) (be_var 0))))))))))
theorem sc_common : FnScope ["a", "b"] ["a", "b"] (defScope s_common) := ⟨rfl, rfl, rfl, by decide +kernel, rfl, by decide +kernel, by decide +kernel⟩
theorem h_common (T : Txt K mg) : HasFn P w K mg base 1 "common" 2 f_common := has_at (N := ["a", "b"]) (ps := ["a", "b"]) T.d_common sc_common fun f dra cdv A outer s H E hr => (by exact
  (bss_cons (bs_par2 (i := 0) (j := 1) rfl sc_common.nd (ea_cons (eAbs T.b_abs (be_var 0)) (ea_cons (eAbs T.b_abs (be_var 1)) ea_nil)) rfl)
  (bss_cons (bs_while (fuelAbs 1) PassesOwn.leaving (tNe (Room.units hr) (be_var 1) (EE.be ee_int)) (bss_one (bs_par2 (i := 0) (j := 1) rfl sc_common.nd (ea_cons (BE.ee (be_var 1)) (ea_cons (eMod (be_var 0) (be_var 1)) ea_nil)) rfl)))
  (bss_one (bs_ret (be_var 0))))))
theorem sc_lowest : FnScope ["n", "d", "g"] ["n", "d"] (defScope s_lowest) := ⟨rfl, rfl, rfl, by decide +kernel, rfl, by decide +kernel, by decide +kernel⟩
theorem h_lowest (T : Txt K mg) : HasFn P w K mg base 2 "lowest" 2 f_lowest := has_at (N := ["n", "d", "g"]) (ps := ["n", "d"]) T.d_lowest sc_lowest fun f dra cdv A outer s H E hr => (by exact
  (bss_cons (bs_set (i := 2) sc_lowest.nd (ee_call (h_common T) (hr.mono (by omega)) (takes_of rfl rfl rfl rfl) (ea_cons (BE.ee (be_var 0)) (ea_cons (BE.ee (be_var 1)) ea_nil)) rfl (alen_cons (alen_cons alen_nil))))
  (bss_cons (bs_if (tLt (be_var 1) (EE.be ee_int)) (bss_one (bs_set (i := 2) sc_lowest.nd (ee_neg (be_var 2)))) bss_nil)
  (bss_one (bs_ret (EE.be (ee_tup (ea_cons (eFd (be_var 0) (be_var 2)) (ea_cons (eFd (be_var 1) (be_var 2)) ea_nil)))))))))
theorem sc_ratio : FnScope ["n", "d"] ["n", "d"] (defScope s_ratio) := ⟨rfl, rfl, rfl, by decide +kernel, rfl, by decide +kernel, by decide +kernel⟩
theorem h_ratio (T : Txt K mg) : HasFn P w K mg base 3 "ratio" 2 f_ratio := has_at (N := ["n", "d"]) (ps := ["n", "d"]) T.d_ratio sc_ratio fun f dra cdv A outer s H E hr => (by exact
  (bss_cons (bs_if (BW.bt (bw_or (bt_not (bt_tru (EE.be (ee_call (h_is_whole T) (hr.mono (by omega)) (takes_of rfl rfl rfl rfl) (ea_cons (BE.ee (be_var 0)) ea_nil) rfl (alen_cons alen_nil))))) (bw_or (bt_not (bt_tru (EE.be (ee_call (h_is_whole T) (hr.mono (by omega)) (takes_of rfl rfl rfl rfl) (ea_cons (BE.ee (be_var 1)) ea_nil) rfl (alen_cons alen_nil))))) (bw_or1 (tEq (Room.units hr) (be_var 1) (EE.be ee_int)))))) (bss_one (bs_raise T.e_Malformed rfl (takes_of rfl rfl rfl rfl))) bss_nil)
  (bss_one (bs_ret (EE.be (ee_call (h_lowest T) (hr.mono (by omega)) (takes_of rfl rfl rfl rfl) (ea_cons (BE.ee (be_var 0)) (ea_cons (BE.ee (be_var 1)) ea_nil)) rfl (alen_cons (alen_cons alen_nil))))))))
theorem sc_is_ratio : FnScope ["value"] ["value"] (defScope s_is_ratio) := ⟨rfl, rfl, rfl, by decide +kernel, rfl, by decide +kernel, by decide +kernel⟩
theorem h_is_ratio (T : Txt K mg) : HasFn P w K mg base 2 "is_ratio" 1 f_is_ratio := has_at (N := ["value"]) (ps := ["value"]) T.d_is_ratio sc_is_ratio fun f dra cdv A outer s H E hr => (by exact
  (bss_cons (bs_if (BW.bt (bw_or (bt_not (bt_tru (EE.be (ee_isi isi_tuple T.b_isinstance T.b_tuple (by decide +kernel) (be_var 0))))) (bw_or (tNe (Room.units hr) (EE.be (ee_len T.b_len (be_var 0))) (EE.be ee_int)) (bw_or (bt_not (bt_tru (EE.be (ee_call (h_is_whole T) (hr.mono (by omega)) (takes_of rfl rfl rfl rfl) (ea_cons (BE.ee (be_ix (be_var 0) (EE.be ee_int))) ea_nil) rfl (alen_cons alen_nil))))) (bw_or1 (bt_not (bt_tru (EE.be (ee_call (h_is_whole T) (hr.mono (by omega)) (takes_of rfl rfl rfl rfl) (ea_cons (BE.ee (be_ix (be_var 0) (EE.be ee_int))) ea_nil) rfl (alen_cons alen_nil)))))))))) (bss_one (bs_ret (EE.be ee_bl))) bss_nil)
  (bss_one (bs_ret (EE.be (ee_and (EE.be (eGt (be_ix (be_var 0) (EE.be ee_int)) (EE.be ee_int))) (ee_one (eEq (Room.units hr) (EE.be (ee_call (h_common T) (hr.mono (by omega)) (takes_of rfl rfl rfl rfl) (ea_cons (BE.ee (be_ix (be_var 0) (EE.be ee_int))) (ea_cons (BE.ee (be_ix (be_var 0) (EE.be ee_int))) ea_nil)) rfl (alen_cons (alen_cons alen_nil)))) (EE.be ee_int)))))))))
theorem sc_plus : FnScope ["a", "b"] ["a", "b"] (defScope s_plus) := ⟨rfl, rfl, rfl, by decide +kernel, rfl, by decide +kernel, by decide +kernel⟩
theorem h_plus (T : Txt K mg) : HasFn P w K mg base 3 "plus" 2 f_plus := has_at (N := ["a", "b"]) (ps := ["a", "b"]) T.d_plus sc_plus fun f dra cdv A outer s H E hr => (by exact
  (bss_one (bs_ret (EE.be (ee_call (h_lowest T) (hr.mono (by omega)) (takes_of rfl rfl rfl rfl) (ea_cons (eAdd (EE.be (eMul (be_ix (be_var 0) (EE.be ee_int)) (be_ix (be_var 1) (EE.be ee_int)))) (EE.be (eMul (be_ix (be_var 1) (EE.be ee_int)) (be_ix (be_var 0) (EE.be ee_int))))) (ea_cons (eMul (be_ix (be_var 0) (EE.be ee_int)) (be_ix (be_var 1) (EE.be ee_int))) ea_nil)) rfl (alen_cons (alen_cons alen_nil)))))))
theorem sc_minus : FnScope ["a", "b"] ["a", "b"] (defScope s_minus) := ⟨rfl, rfl, rfl, by decide +kernel, rfl, by decide +kernel, by decide +kernel⟩
theorem h_minus (T : Txt K mg) : HasFn P w K mg base 3 "minus" 2 f_minus := has_at (N := ["a", "b"]) (ps := ["a", "b"]) T.d_minus sc_minus fun f dra cdv A outer s H E hr => (by exact
  (bss_one (bs_ret (EE.be (ee_call (h_lowest T) (hr.mono (by omega)) (takes_of rfl rfl rfl rfl) (ea_cons (eSub (EE.be (eMul (be_ix (be_var 0) (EE.be ee_int)) (be_ix (be_var 1) (EE.be ee_int)))) (EE.be (eMul (be_ix (be_var 1) (EE.be ee_int)) (be_ix (be_var 0) (EE.be ee_int))))) (ea_cons (eMul (be_ix (be_var 0) (EE.be ee_int)) (be_ix (be_var 1) (EE.be ee_int))) ea_nil)) rfl (alen_cons (alen_cons alen_nil)))))))
theorem sc_times : FnScope ["a", "b"] ["a", "b"] (defScope s_times) := ⟨rfl, rfl, rfl, by decide +kernel, rfl, by decide +kernel, by decide +kernel⟩
theorem h_times (T : Txt K mg) : HasFn P w K mg base 3 "times" 2 f_times := has_at (N := ["a", "b"]) (ps := ["a", "b"]) T.d_times sc_times fun f dra cdv A outer s H E hr => (by exact
  (bss_one (bs_ret (EE.be (ee_call (h_lowest T) (hr.mono (by omega)) (takes_of rfl rfl rfl rfl) (ea_cons (eMul (be_ix (be_var 0) (EE.be ee_int)) (be_ix (be_var 1) (EE.be ee_int))) (ea_cons (eMul (be_ix (be_var 0) (EE.be ee_int)) (be_ix (be_var 1) (EE.be ee_int))) ea_nil)) rfl (alen_cons (alen_cons alen_nil)))))))
theorem sc_over : FnScope ["a", "b"] ["a", "b"] (defScope s_over) := ⟨rfl, rfl, rfl, by decide +kernel, rfl, by decide +kernel, by decide +kernel⟩
theorem h_over (T : Txt K mg) : HasFn P w K mg base 3 "over" 2 f_over := has_at (N := ["a", "b"]) (ps := ["a", "b"]) T.d_over sc_over fun f dra cdv A outer s H E hr => (by exact
  (bss_cons (bs_if (tEq (Room.units hr) (be_ix (be_var 1) (EE.be ee_int)) (EE.be ee_int)) (bss_one (bs_raise T.e_Malformed rfl (takes_of rfl rfl rfl rfl))) bss_nil)
  (bss_one (bs_ret (EE.be (ee_call (h_lowest T) (hr.mono (by omega)) (takes_of rfl rfl rfl rfl) (ea_cons (eMul (be_ix (be_var 0) (EE.be ee_int)) (be_ix (be_var 1) (EE.be ee_int))) (ea_cons (eMul (be_ix (be_var 0) (EE.be ee_int)) (be_ix (be_var 1) (EE.be ee_int))) ea_nil)) rfl (alen_cons (alen_cons alen_nil))))))))
theorem sc_below : FnScope ["a", "b"] ["a", "b"] (defScope s_below) := ⟨rfl, rfl, rfl, by decide +kernel, rfl, by decide +kernel, by decide +kernel⟩
theorem h_below (T : Txt K mg) : HasFn P w K mg base 1 "below" 2 f_below := has_at (N := ["a", "b"]) (ps := ["a", "b"]) T.d_below sc_below fun f dra cdv A outer s H E hr => (by exact
  (bss_one (bs_ret (EE.be (eLt (EE.be (eMul (be_ix (be_var 0) (EE.be ee_int)) (be_ix (be_var 1) (EE.be ee_int)))) (EE.be (eMul (be_ix (be_var 1) (EE.be ee_int)) (be_ix (be_var 0) (EE.be ee_int)))))))))
theorem sc_total : FnScope ["items", "found", "item"] ["items"] (defScope s_total) := ⟨rfl, rfl, rfl, by decide +kernel, rfl, by decide +kernel, by decide +kernel⟩
theorem h_total (T : Txt K mg) : HasFn P w K mg base 4 "total" 1 f_total := has_at (N := ["items", "found", "item"]) (ps := ["items"]) T.d_total sc_total fun f dra cdv A outer s H E hr => (by exact
  (bss_cons (bs_set (i := 1) sc_total.nd (eGtup T.c_ZERO))
  (bss_cons (bs_for PassesOwn.leaving rfl (bi_any (BE.ee (be_var 0))) (bg_name (i := 2) sc_total.nd) (bss_one (bs_if (tNe (Room.units hr) (be_ix (be_var 2) (EE.be ee_int)) (EE.be ee_int)) (bss_one (bs_set (i := 1) sc_total.nd (ee_call (h_plus T) (hr.mono (by omega)) (takes_of rfl rfl rfl rfl) (ea_cons (BE.ee (be_var 1)) (ea_cons (BE.ee (be_var 2)) ea_nil)) rfl (alen_cons (alen_cons alen_nil))))) bss_nil)))
  (bss_one (bs_ret (be_var 1))))))
theorem sc_lesser : FnScope ["a", "b"] ["a", "b"] (defScope s_lesser) := ⟨rfl, rfl, rfl, by decide +kernel, rfl, by decide +kernel, by decide +kernel⟩
theorem h_lesser (T : Txt K mg) : HasFn P w K mg base 2 "lesser" 2 f_lesser := has_at (N := ["a", "b"]) (ps := ["a", "b"]) T.d_lesser sc_lesser fun f dra cdv A outer s H E hr => (by exact
  (bss_one (bs_ret (EE.be (ee_if (bt_tru (EE.be (ee_call (h_below T) (hr.mono (by omega)) (takes_of rfl rfl rfl rfl) (ea_cons (BE.ee (be_var 1)) (ea_cons (BE.ee (be_var 0)) ea_nil)) rfl (alen_cons (alen_cons alen_nil))))) (BE.ee (be_var 1)) (BE.ee (be_var 0)))))))
theorem sc_greater : FnScope ["a", "b"] ["a", "b"] (defScope s_greater) := ⟨rfl, rfl, rfl, by decide +kernel, rfl, by decide +kernel, by decide +kernel⟩
theorem h_greater (T : Txt K mg) : HasFn P w K mg base 2 "greater" 2 f_greater := has_at (N := ["a", "b"]) (ps := ["a", "b"]) T.d_greater sc_greater fun f dra cdv A outer s H E hr => (by exact
  (bss_one (bs_ret (EE.be (ee_if (bt_tru (EE.be (ee_call (h_below T) (hr.mono (by omega)) (takes_of rfl rfl rfl rfl) (ea_cons (BE.ee (be_var 0)) (ea_cons (BE.ee (be_var 1)) ea_nil)) rfl (alen_cons (alen_cons alen_nil))))) (BE.ee (be_var 1)) (BE.ee (be_var 0)))))))
theorem sc_ratio_text : FnScope ["a"] ["a"] (defScope s_ratio_text) := ⟨rfl, rfl, rfl, by decide +kernel, rfl, by decide +kernel, by decide +kernel⟩
theorem h_ratio_text (T : Txt K mg) : HasFn P w K mg base 1 "ratio_text" 1 f_ratio_text := has_at (N := ["a"]) (ps := ["a"]) T.d_ratio_text sc_ratio_text fun f dra cdv A outer s H E hr => (by exact
  (bss_one (bs_ret (EE.be (ee_if (tEq (Room.units hr) (be_ix (be_var 0) (EE.be ee_int)) (EE.be ee_int)) (eStr T.b_str (be_ix (be_var 0) (EE.be ee_int))) (eAdd (EE.be (eAdd (EE.be (eStr T.b_str (be_ix (be_var 0) (EE.be ee_int)))) (EE.be ee_str))) (EE.be (eStr T.b_str (be_ix (be_var 0) (EE.be ee_int))))))))))
theorem sc_power_ratios : FnScope ["a", "many", "found", "turn"] ["a", "many"] (defScope s_power_ratios) := ⟨rfl, rfl, rfl, by decide +kernel, rfl, by decide +kernel, by decide +kernel⟩
theorem h_power_ratios (T : Txt K mg) : HasFn P w K mg base 4 "power_ratios" 2 f_power_ratios := has_as (N := ["a", "many", "found", "turn"]) (ps := ["a", "many"]) T.d_power_ratios sc_power_ratios fun f dra cdv A outer s H E hr => (by exact
  (bss_cons (bs_set (i := 2) sc_power_ratios.nd (eGtup T.c_ONE))
  (bss_cons (bs_for PassesOwn.leaving rfl (bi_rg1 T.b_range (be_var 1)) (bg_name (i := 3) sc_power_ratios.nd) (bss_one (bs_set (i := 2) sc_power_ratios.nd (ee_call (h_times T) (hr.mono (by omega)) (takes_of rfl rfl rfl rfl) (ea_cons (BE.ee (be_var 2)) (ea_cons (BE.ee (be_var 0)) ea_nil)) rfl (alen_cons (alen_cons alen_nil))))))
  (bss_one (bs_ret (be_var 2))))))
theorem sc_apart_by : FnScope ["a", "b", "found"] ["a", "b"] (defScope s_apart_by) := ⟨rfl, rfl, rfl, by decide +kernel, rfl, by decide +kernel, by decide +kernel⟩
theorem h_apart_by (T : Txt K mg) : HasFn P w K mg base 4 "apart_by" 2 f_apart_by := has_at (N := ["a", "b", "found"]) (ps := ["a", "b"]) T.d_apart_by sc_apart_by fun f dra cdv A outer s H E hr => (by exact
  (bss_cons (bs_set (i := 2) sc_apart_by.nd (ee_call (h_minus T) (hr.mono (by omega)) (takes_of rfl rfl rfl rfl) (ea_cons (BE.ee (be_var 0)) (ea_cons (BE.ee (be_var 1)) ea_nil)) rfl (alen_cons (alen_cons alen_nil))))
  (bss_one (bs_ret (EE.be (ee_tup (ea_cons (eAbs T.b_abs (be_ix (be_var 2) (EE.be ee_int))) (ea_cons (BE.ee (be_ix (be_var 2) (EE.be ee_int))) ea_nil))))))))
theorem sc_has_shape : FnScope ["value", "size"] ["value", "size"] (defScope s_has_shape) := ⟨rfl, rfl, rfl, by decide +kernel, rfl, by decide +kernel, by decide +kernel⟩
theorem h_has_shape (T : Txt K mg) : HasFn P w K mg base 1 "has_shape" 2 f_has_shape := has_at (N := ["value", "size"]) (ps := ["value", "size"]) T.d_has_shape sc_has_shape fun f dra cdv A outer s H E hr => (by exact
  (bss_one (bs_ret (EE.be (ee_and (EE.be (ee_isi isi_tuple T.b_isinstance T.b_tuple (by decide +kernel) (be_var 0))) (ee_one (eEq (Room.units hr) (EE.be (ee_len T.b_len (be_var 0))) (be_var 1))))))))
theorem sc_is_row : FnScope ["size", "value", "item"] ["size", "value"] (defScope s_is_row) := ⟨rfl, rfl, rfl, by decide +kernel, rfl, by decide +kernel, by decide +kernel⟩
theorem h_is_row (T : Txt K mg) : HasFn P w K mg base 3 "is_row" 2 f_is_row := has_at (N := ["size", "value", "item"]) (ps := ["size", "value"]) T.d_is_row sc_is_row fun f dra cdv A outer s H E hr => (by exact
  (bss_one (bs_ret (EE.be (ee_and (EE.be (ee_call (h_has_shape T) (hr.mono (by omega)) (takes_of rfl rfl rfl rfl) (ea_cons (BE.ee (be_var 1)) (ea_cons (BE.ee (be_var 0)) ea_nil)) rfl (alen_cons (alen_cons alen_nil)))) (ee_one (eAll rfl T.b_all (EE.be (ee_lc (own := [("item", 2)]) rfl sc_is_row.nd (bi_any (BE.ee (be_var 1))) (by kernel_rfl) (fun _ _ _ _ _ => (bg_name (i := 2) sc_is_row.nd)) (fun _ _ _ _ _ => bts_nil) (fun _ _ _ _ _ => (ee_call (h_is_ratio T) (hr.mono (by omega)) takes0 (ea_cons (BE.ee (be_var 2)) ea_nil) rfl (alen_cons alen_nil))) (by decide))))))))))
theorem sc_is_square : FnScope ["size", "value", "row"] ["size", "value"] (defScope s_is_square) := ⟨rfl, rfl, rfl, by decide +kernel, rfl, by decide +kernel, by decide +kernel⟩
theorem h_is_square (T : Txt K mg) : HasFn P w K mg base 4 "is_square" 2 f_is_square := has_at (N := ["size", "value", "row"]) (ps := ["size", "value"]) T.d_is_square sc_is_square fun f dra cdv A outer s H E hr => (by exact
  (bss_one (bs_ret (EE.be (ee_and (EE.be (ee_call (h_has_shape T) (hr.mono (by omega)) (takes_of rfl rfl rfl rfl) (ea_cons (BE.ee (be_var 1)) (ea_cons (BE.ee (be_var 0)) ea_nil)) rfl (alen_cons (alen_cons alen_nil)))) (ee_one (eAll rfl T.b_all (EE.be (ee_lc (own := [("row", 2)]) rfl sc_is_square.nd (bi_any (BE.ee (be_var 1))) (by kernel_rfl) (fun _ _ _ _ _ => (bg_name (i := 2) sc_is_square.nd)) (fun _ _ _ _ _ => bts_nil) (fun _ _ _ _ _ => (ee_call (h_is_row T) (hr.mono (by omega)) takes0 (ea_cons (BE.ee (be_var 0)) (ea_cons (BE.ee (be_var 2)) ea_nil)) rfl (alen_cons (alen_cons alen_nil)))) (by decide))))))))))
theorem sc_is_table : FnScope ["value"] ["value"] (defScope s_is_table) := ⟨rfl, rfl, rfl, by decide +kernel, rfl, by decide +kernel, by decide +kernel⟩
theorem h_is_table (T : Txt K mg) : HasFn P w K mg base 5 "is_table" 1 f_is_table := has_at (N := ["value"]) (ps := ["value"]) T.d_is_table sc_is_table fun f dra cdv A outer s H E hr => (by exact
  (bss_one (bs_ret (EE.be (ee_and (EE.be (ee_isi isi_tuple T.b_isinstance T.b_tuple (by decide +kernel) (be_var 0))) (ee_and (EE.be (eChain o2Lt o2Le (EE.be ee_int) (EE.be (ee_len T.b_len (be_var 0))) (EE.be (eGint T.c_MOST_SIZE)))) (ee_one (ee_call (h_is_square T) (hr.mono (by omega)) (takes_of rfl rfl rfl rfl) (ea_cons (ee_len T.b_len (be_var 0)) (ea_cons (BE.ee (be_var 0)) ea_nil)) rfl (alen_cons (alen_cons alen_nil))))))))))
theorem sc_check_table : FnScope ["value"] ["value"] (defScope s_check_table) := ⟨rfl, rfl, rfl, by decide +kernel, rfl, by decide +kernel, by decide +kernel⟩
theorem h_check_table (T : Txt K mg) : HasFn P w K mg base 6 "check_table" 1 f_check_table := has_at (N := ["value"]) (ps := ["value"]) T.d_check_table sc_check_table fun f dra cdv A outer s H E hr => (by exact
  (bss_one (bs_if (bt_not (bt_tru (EE.be (ee_call (h_is_table T) (hr.mono (by omega)) (takes_of rfl rfl rfl rfl) (ea_cons (BE.ee (be_var 0)) ea_nil) rfl (alen_cons alen_nil))))) (bss_one (bs_raise T.e_Malformed rfl (takes_of rfl rfl rfl rfl))) bss_nil)))
theorem sc_check_two : FnScope ["one", "two"] ["one", "two"] (defScope s_check_two) := ⟨rfl, rfl, rfl, by decide +kernel, rfl, by decide +kernel, by decide +kernel⟩
theorem h_check_two (T : Txt K mg) : HasFn P w K mg base 7 "check_two" 2 f_check_two := has_at (N := ["one", "two"]) (ps := ["one", "two"]) T.d_check_two sc_check_two fun f dra cdv A outer s H E hr => (by exact
  (bss_cons (bs_expr (EE.be (ee_call (h_check_table T) (hr.mono (by omega)) (takes_of rfl rfl rfl rfl) (ea_cons (BE.ee (be_var 0)) ea_nil) rfl (alen_cons alen_nil))))
  (bss_cons (bs_expr (EE.be (ee_call (h_check_table T) (hr.mono (by omega)) (takes_of rfl rfl rfl rfl) (ea_cons (BE.ee (be_var 1)) ea_nil) rfl (alen_cons alen_nil))))
  (bss_one (bs_if (tNe (Room.units hr) (EE.be (ee_len T.b_len (be_var 0))) (EE.be (ee_len T.b_len (be_var 1)))) (bss_one (bs_raise T.e_Malformed rfl (takes_of rfl rfl rfl rfl))) bss_nil)))))
theorem sc_check_row : FnScope ["table", "row"] ["table", "row"] (defScope s_check_row) := ⟨rfl, rfl, rfl, by decide +kernel, rfl, by decide +kernel, by decide +kernel⟩
theorem h_check_row (T : Txt K mg) : HasFn P w K mg base 7 "check_row" 2 f_check_row := has_at (N := ["table", "row"]) (ps := ["table", "row"]) T.d_check_row sc_check_row fun f dra cdv A outer s H E hr => (by exact
  (bss_cons (bs_expr (EE.be (ee_call (h_check_table T) (hr.mono (by omega)) (takes_of rfl rfl rfl rfl) (ea_cons (BE.ee (be_var 0)) ea_nil) rfl (alen_cons alen_nil))))
  (bss_one (bs_if (bt_not (bt_tru (EE.be (ee_call (h_is_row T) (hr.mono (by omega)) (takes_of rfl rfl rfl rfl) (ea_cons (ee_len T.b_len (be_var 0)) (ea_cons (BE.ee (be_var 1)) ea_nil)) rfl (alen_cons (alen_cons alen_nil)))))) (bss_one (bs_raise T.e_Malformed rfl (takes_of rfl rfl rfl rfl))) bss_nil))))
theorem sc_unit_of : FnScope ["size", "one", "two"] ["size"] (defScope s_unit_of) := ⟨rfl, rfl, rfl, by decide +kernel, rfl, by decide +kernel, by decide +kernel⟩
theorem h_unit_of (T : Txt K mg) : HasFn P w K mg base 1 "unit_of" 1 f_unit_of := has_at (N := ["size", "one", "two"]) (ps := ["size"]) T.d_unit_of sc_unit_of fun f dra cdv A outer s H E hr => (by exact
  (bss_one (bs_ret (EE.be (ee_tuple T.b_tuple (EE.be (ee_lc (own := [("one", 1)]) rfl sc_unit_of.nd (bi_rg1 T.b_range (be_var 0)) (by kernel_rfl) (fun _ _ _ _ _ => (bg_name (i := 1) sc_unit_of.nd)) (fun _ _ _ _ _ => bts_nil) (fun _ _ _ _ _ => (ee_tuple T.b_tuple (EE.be (ee_lc (own := [("two", 2)]) rfl sc_unit_of.nd (bi_rg1 T.b_range (be_var 0)) (by kernel_rfl) (fun _ _ _ _ _ => (bg_name (i := 2) sc_unit_of.nd)) (fun _ _ _ _ _ => bts_nil) (fun _ _ _ _ _ => (ee_if (tEq (Room.units hr) (be_var 1) (be_var 2)) (eGtup T.c_ONE) (eGtup T.c_ZERO))) (by decide))))) (by decide))))))))
theorem sc_unit : FnScope ["size"] ["size"] (defScope s_unit) := ⟨rfl, rfl, rfl, by decide +kernel, rfl, by decide +kernel, by decide +kernel⟩
theorem h_unit (T : Txt K mg) : HasFn P w K mg base 2 "unit" 1 f_unit := has_at (N := ["size"]) (ps := ["size"]) T.d_unit sc_unit fun f dra cdv A outer s H E hr => (by exact
  (bss_cons (bs_if (BW.bt (bw_or (bt_not (bt_tru (EE.be (ee_call (h_is_whole T) (hr.mono (by omega)) (takes_of rfl rfl rfl rfl) (ea_cons (BE.ee (be_var 0)) ea_nil) rfl (alen_cons alen_nil))))) (bw_or1 (bt_not (tChain o2Lt o2Le (EE.be ee_int) (be_var 0) (EE.be (eGint T.c_MOST_SIZE))))))) (bss_one (bs_raise T.e_Malformed rfl (takes_of rfl rfl rfl rfl))) bss_nil)
  (bss_one (bs_ret (EE.be (ee_call (h_unit_of T) (hr.mono (by omega)) (takes_of rfl rfl rfl rfl) (ea_cons (BE.ee (be_var 0)) ea_nil) rfl (alen_cons alen_nil)))))))
theorem sc_dot : FnScope ["one", "two", "a", "b"] ["one", "two"] (defScope s_dot) := ⟨rfl, rfl, rfl, by decide +kernel, rfl, by decide +kernel, by decide +kernel⟩
theorem h_dot (T : Txt K mg) : HasFn P w K mg base 5 "dot" 2 f_dot := has_at (N := ["one", "two", "a", "b"]) (ps := ["one", "two"]) T.d_dot sc_dot fun f dra cdv A outer s H E hr => (by exact
  (bss_one (bs_ret (EE.be (ee_call (h_total T) (hr.mono (by omega)) (takes_of rfl rfl rfl rfl) (ea_cons (ee_lc (own := [("a", 2), ("b", 3)]) rfl sc_dot.nd (bi_zip T.b_zip (ea_cons (BE.ee (be_var 0)) (ea_cons (BE.ee (be_var 1)) ea_nil))) (by kernel_rfl) (fun _ _ _ _ _ => (bg_tup rfl (bgs_cons (bg_name (i := 2) sc_dot.nd) (bgs_cons (bg_name (i := 3) sc_dot.nd) bgs_nil)))) (fun _ _ _ _ _ => (bts_one (BW.bt (bw_and (tNe (Room.units hr) (be_ix (be_var 2) (EE.be ee_int)) (EE.be ee_int)) (bw_and1 (tNe (Room.units hr) (be_ix (be_var 3) (EE.be ee_int)) (EE.be ee_int))))))) (fun _ _ _ _ _ => (ee_call (h_times T) (hr.mono (by omega)) takes0 (ea_cons (BE.ee (be_var 2)) (ea_cons (BE.ee (be_var 3)) ea_nil)) rfl (alen_cons (alen_cons alen_nil)))) (by decide)) ea_nil) rfl (alen_cons alen_nil))))))
theorem sc_turned_of : FnScope ["table", "place", "row"] ["table"] (defScope s_turned_of) := ⟨rfl, rfl, rfl, by decide +kernel, rfl, by decide +kernel, by decide +kernel⟩
theorem h_turned_of (T : Txt K mg) : HasFn P w K mg base 1 "turned_of" 1 f_turned_of := has_at (N := ["table", "place", "row"]) (ps := ["table"]) T.d_turned_of sc_turned_of fun f dra cdv A outer s H E hr => (by exact
  (bss_one (bs_ret (EE.be (ee_tuple T.b_tuple (EE.be (ee_lc (own := [("place", 1)]) rfl sc_turned_of.nd (bi_rg1 T.b_range (EE.be (ee_len T.b_len (be_ix (be_var 0) (EE.be ee_int))))) (by kernel_rfl) (fun _ _ _ _ _ => (bg_name (i := 1) sc_turned_of.nd)) (fun _ _ _ _ _ => bts_nil) (fun _ _ _ _ _ => (ee_tuple T.b_tuple (EE.be (ee_lc (own := [("row", 2)]) rfl sc_turned_of.nd (bi_any (BE.ee (be_var 0))) (by kernel_rfl) (fun _ _ _ _ _ => (bg_name (i := 2) sc_turned_of.nd)) (fun _ _ _ _ _ => bts_nil) (fun _ _ _ _ _ => (BE.ee (be_ix (be_var 2) (be_var 1)))) (by decide))))) (by decide))))))))
theorem sc_product_of : FnScope ["one", "two", "columns", "row", "column"] ["one", "two"] (defScope s_product_of) := ⟨rfl, rfl, rfl, by decide +kernel, rfl, by decide +kernel, by decide +kernel⟩
theorem h_product_of (T : Txt K mg) : HasFn P w K mg base 6 "product_of" 2 f_product_of := has_at (N := ["one", "two", "columns", "row", "column"]) (ps := ["one", "two"]) T.d_product_of sc_product_of fun f dra cdv A outer s H E hr => (by exact
  (bss_cons (bs_set (i := 2) sc_product_of.nd (ee_call (h_turned_of T) (hr.mono (by omega)) (takes_of rfl rfl rfl rfl) (ea_cons (BE.ee (be_var 1)) ea_nil) rfl (alen_cons alen_nil)))
  (bss_one (bs_ret (EE.be (ee_tuple T.b_tuple (EE.be (ee_lc (own := [("row", 3)]) rfl sc_product_of.nd (bi_any (BE.ee (be_var 0))) (by kernel_rfl) (fun _ _ _ _ _ => (bg_name (i := 3) sc_product_of.nd)) (fun _ _ _ _ _ => bts_nil) (fun _ _ _ _ _ => (ee_tuple T.b_tuple (EE.be (ee_lc (own := [("column", 4)]) rfl sc_product_of.nd (bi_any (BE.ee (be_var 2))) (by kernel_rfl) (fun _ _ _ _ _ => (bg_name (i := 4) sc_product_of.nd)) (fun _ _ _ _ _ => bts_nil) (fun _ _ _ _ _ => (ee_call (h_dot T) (hr.mono (by omega)) takes0 (ea_cons (BE.ee (be_var 3)) (ea_cons (BE.ee (be_var 4)) ea_nil)) rfl (alen_cons (alen_cons alen_nil)))) (by decide))))) (by decide)))))))))
theorem sc_led_of : FnScope ["table", "row", "line"] ["table", "row"] (defScope s_led_of) := ⟨rfl, rfl, rfl, by decide +kernel, rfl, by decide +kernel, by decide +kernel⟩
theorem h_led_of (T : Txt K mg) : HasFn P w K mg base 6 "led_of" 2 f_led_of := has_at (N := ["table", "row", "line"]) (ps := ["table", "row"]) T.d_led_of sc_led_of fun f dra cdv A outer s H E hr => (by exact
  (bss_one (bs_ret (EE.be (ee_tuple T.b_tuple (EE.be (ee_lc (own := [("line", 2)]) rfl sc_led_of.nd (bi_any (BE.ee (be_var 0))) (by kernel_rfl) (fun _ _ _ _ _ => (bg_name (i := 2) sc_led_of.nd)) (fun _ _ _ _ _ => bts_nil) (fun _ _ _ _ _ => (ee_call (h_dot T) (hr.mono (by omega)) takes0 (ea_cons (BE.ee (be_var 2)) (ea_cons (BE.ee (be_var 1)) ea_nil)) rfl (alen_cons (alen_cons alen_nil)))) (by decide))))))))
theorem sc_sum_of : FnScope ["one", "two", "first", "second", "a", "b"] ["one", "two"] (defScope s_sum_of) := ⟨rfl, rfl, rfl, by decide +kernel, rfl, by decide +kernel, by decide +kernel⟩
theorem h_sum_of (T : Txt K mg) : HasFn P w K mg base 4 "sum_of" 2 f_sum_of := has_at (N := ["one", "two", "first", "second", "a", "b"]) (ps := ["one", "two"]) T.d_sum_of sc_sum_of fun f dra cdv A outer s H E hr => (by exact
  (bss_one (bs_ret (EE.be (ee_tuple T.b_tuple (EE.be (ee_lc (own := [("first", 2), ("second", 3)]) rfl sc_sum_of.nd (bi_zip T.b_zip (ea_cons (BE.ee (be_var 0)) (ea_cons (BE.ee (be_var 1)) ea_nil))) (by kernel_rfl) (fun _ _ _ _ _ => (bg_tup rfl (bgs_cons (bg_name (i := 2) sc_sum_of.nd) (bgs_cons (bg_name (i := 3) sc_sum_of.nd) bgs_nil)))) (fun _ _ _ _ _ => bts_nil) (fun _ _ _ _ _ => (ee_tuple T.b_tuple (EE.be (ee_lc (own := [("a", 4), ("b", 5)]) rfl sc_sum_of.nd (bi_zip T.b_zip (ea_cons (BE.ee (be_var 2)) (ea_cons (BE.ee (be_var 3)) ea_nil))) (by kernel_rfl) (fun _ _ _ _ _ => (bg_tup rfl (bgs_cons (bg_name (i := 4) sc_sum_of.nd) (bgs_cons (bg_name (i := 5) sc_sum_of.nd) bgs_nil)))) (fun _ _ _ _ _ => bts_nil) (fun _ _ _ _ _ => (ee_call (h_plus T) (hr.mono (by omega)) takes0 (ea_cons (BE.ee (be_var 4)) (ea_cons (BE.ee (be_var 5)) ea_nil)) rfl (alen_cons (alen_cons alen_nil)))) (by decide))))) (by decide))))))))
theorem sc_scaled_of : FnScope ["table", "factor", "row", "item"] ["table", "factor"] (defScope s_scaled_of) := ⟨rfl, rfl, rfl, by decide +kernel, rfl, by decide +kernel, by decide +kernel⟩
theorem h_scaled_of (T : Txt K mg) : HasFn P w K mg base 4 "scaled_of" 2 f_scaled_of := has_at (N := ["table", "factor", "row", "item"]) (ps := ["table", "factor"]) T.d_scaled_of sc_scaled_of fun f dra cdv A outer s H E hr => (by exact
  (bss_one (bs_ret (EE.be (ee_tuple T.b_tuple (EE.be (ee_lc (own := [("row", 2)]) rfl sc_scaled_of.nd (bi_any (BE.ee (be_var 0))) (by kernel_rfl) (fun _ _ _ _ _ => (bg_name (i := 2) sc_scaled_of.nd)) (fun _ _ _ _ _ => bts_nil) (fun _ _ _ _ _ => (ee_tuple T.b_tuple (EE.be (ee_lc (own := [("item", 3)]) rfl sc_scaled_of.nd (bi_any (BE.ee (be_var 2))) (by kernel_rfl) (fun _ _ _ _ _ => (bg_name (i := 3) sc_scaled_of.nd)) (fun _ _ _ _ _ => bts_nil) (fun _ _ _ _ _ => (ee_call (h_times T) (hr.mono (by omega)) takes0 (ea_cons (BE.ee (be_var 3)) (ea_cons (BE.ee (be_var 1)) ea_nil)) rfl (alen_cons (alen_cons alen_nil)))) (by decide))))) (by decide))))))))
theorem sc_product : FnScope ["one", "two"] ["one", "two"] (defScope s_product) := ⟨rfl, rfl, rfl, by decide +kernel, rfl, by decide +kernel, by decide +kernel⟩
theorem h_product (T : Txt K mg) : HasFn P w K mg base 8 "product" 2 f_product := has_at (N := ["one", "two"]) (ps := ["one", "two"]) T.d_product sc_product fun f dra cdv A outer s H E hr => (by exact
  (bss_cons (bs_expr (EE.be (ee_call (h_check_two T) (hr.mono (by omega)) (takes_of rfl rfl rfl rfl) (ea_cons (BE.ee (be_var 0)) (ea_cons (BE.ee (be_var 1)) ea_nil)) rfl (alen_cons (alen_cons alen_nil)))))
  (bss_one (bs_ret (EE.be (ee_call (h_product_of T) (hr.mono (by omega)) (takes_of rfl rfl rfl rfl) (ea_cons (BE.ee (be_var 0)) (ea_cons (BE.ee (be_var 1)) ea_nil)) rfl (alen_cons (alen_cons alen_nil))))))))
theorem sc_added : FnScope ["one", "two"] ["one", "two"] (defScope s_added) := ⟨rfl, rfl, rfl, by decide +kernel, rfl, by decide +kernel, by decide +kernel⟩
theorem h_added (T : Txt K mg) : HasFn P w K mg base 8 "added" 2 f_added := has_at (N := ["one", "two"]) (ps := ["one", "two"]) T.d_added sc_added fun f dra cdv A outer s H E hr => (by exact
  (bss_cons (bs_expr (EE.be (ee_call (h_check_two T) (hr.mono (by omega)) (takes_of rfl rfl rfl rfl) (ea_cons (BE.ee (be_var 0)) (ea_cons (BE.ee (be_var 1)) ea_nil)) rfl (alen_cons (alen_cons alen_nil)))))
  (bss_one (bs_ret (EE.be (ee_call (h_sum_of T) (hr.mono (by omega)) (takes_of rfl rfl rfl rfl) (ea_cons (BE.ee (be_var 0)) (ea_cons (BE.ee (be_var 1)) ea_nil)) rfl (alen_cons (alen_cons alen_nil))))))))
theorem sc_scaled : FnScope ["table", "factor"] ["table", "factor"] (defScope s_scaled) := ⟨rfl, rfl, rfl, by decide +kernel, rfl, by decide +kernel, by decide +kernel⟩
theorem h_scaled (T : Txt K mg) : HasFn P w K mg base 7 "scaled" 2 f_scaled := has_at (N := ["table", "factor"]) (ps := ["table", "factor"]) T.d_scaled sc_scaled fun f dra cdv A outer s H E hr => (by exact
  (bss_cons (bs_expr (EE.be (ee_call (h_check_table T) (hr.mono (by omega)) (takes_of rfl rfl rfl rfl) (ea_cons (BE.ee (be_var 0)) ea_nil) rfl (alen_cons alen_nil))))
  (bss_cons (bs_if (bt_not (bt_tru (EE.be (ee_call (h_is_ratio T) (hr.mono (by omega)) (takes_of rfl rfl rfl rfl) (ea_cons (BE.ee (be_var 1)) ea_nil) rfl (alen_cons alen_nil))))) (bss_one (bs_raise T.e_Malformed rfl (takes_of rfl rfl rfl rfl))) bss_nil)
  (bss_one (bs_ret (EE.be (ee_call (h_scaled_of T) (hr.mono (by omega)) (takes_of rfl rfl rfl rfl) (ea_cons (BE.ee (be_var 0)) (ea_cons (BE.ee (be_var 1)) ea_nil)) rfl (alen_cons (alen_cons alen_nil)))))))))
theorem sc_turned : FnScope ["table"] ["table"] (defScope s_turned) := ⟨rfl, rfl, rfl, by decide +kernel, rfl, by decide +kernel, by decide +kernel⟩
theorem h_turned (T : Txt K mg) : HasFn P w K mg base 7 "turned" 1 f_turned := has_at (N := ["table"]) (ps := ["table"]) T.d_turned sc_turned fun f dra cdv A outer s H E hr => (by exact
  (bss_cons (bs_expr (EE.be (ee_call (h_check_table T) (hr.mono (by omega)) (takes_of rfl rfl rfl rfl) (ea_cons (BE.ee (be_var 0)) ea_nil) rfl (alen_cons alen_nil))))
  (bss_one (bs_ret (EE.be (ee_call (h_turned_of T) (hr.mono (by omega)) (takes_of rfl rfl rfl rfl) (ea_cons (BE.ee (be_var 0)) ea_nil) rfl (alen_cons alen_nil)))))))
theorem sc_led : FnScope ["table", "row"] ["table", "row"] (defScope s_led) := ⟨rfl, rfl, rfl, by decide +kernel, rfl, by decide +kernel, by decide +kernel⟩
theorem h_led (T : Txt K mg) : HasFn P w K mg base 8 "led" 2 f_led := has_at (N := ["table", "row"]) (ps := ["table", "row"]) T.d_led sc_led fun f dra cdv A outer s H E hr => (by exact
  (bss_cons (bs_expr (EE.be (ee_call (h_check_row T) (hr.mono (by omega)) (takes_of rfl rfl rfl rfl) (ea_cons (BE.ee (be_var 0)) (ea_cons (BE.ee (be_var 1)) ea_nil)) rfl (alen_cons (alen_cons alen_nil)))))
  (bss_one (bs_ret (EE.be (ee_call (h_led_of T) (hr.mono (by omega)) (takes_of rfl rfl rfl rfl) (ea_cons (BE.ee (be_var 0)) (ea_cons (BE.ee (be_var 1)) ea_nil)) rfl (alen_cons (alen_cons alen_nil))))))))
theorem sc_power_of : FnScope ["table", "many", "found", "turn"] ["table", "many"] (defScope s_power_of) := ⟨rfl, rfl, rfl, by decide +kernel, rfl, by decide +kernel, by decide +kernel⟩
theorem h_power_of (T : Txt K mg) : HasFn P w K mg base 7 "power_of" 2 f_power_of := has_at (N := ["table", "many", "found", "turn"]) (ps := ["table", "many"]) T.d_power_of sc_power_of fun f dra cdv A outer s H E hr => (by exact
  (bss_cons (bs_set (i := 2) sc_power_of.nd (ee_call (h_unit_of T) (hr.mono (by omega)) (takes_of rfl rfl rfl rfl) (ea_cons (ee_len T.b_len (be_var 0)) ea_nil) rfl (alen_cons alen_nil)))
  (bss_cons (bs_for PassesOwn.leaving rfl (bi_rg1 T.b_range (be_var 1)) (bg_name (i := 3) sc_power_of.nd) (bss_one (bs_set (i := 2) sc_power_of.nd (ee_call (h_product_of T) (hr.mono (by omega)) (takes_of rfl rfl rfl rfl) (ea_cons (BE.ee (be_var 0)) (ea_cons (BE.ee (be_var 2)) ea_nil)) rfl (alen_cons (alen_cons alen_nil))))))
  (bss_one (bs_ret (be_var 2))))))
theorem sc_power_tables : FnScope ["table", "many"] ["table", "many"] (defScope s_power_tables) := ⟨rfl, rfl, rfl, by decide +kernel, rfl, by decide +kernel, by decide +kernel⟩
theorem h_power_tables (T : Txt K mg) : HasFn P w K mg base 8 "power_tables" 2 f_power_tables := has_as (N := ["table", "many"]) (ps := ["table", "many"]) T.d_power_tables sc_power_tables fun f dra cdv A outer s H E hr => (by exact
  (bss_cons (bs_expr (EE.be (ee_call (h_check_table T) (hr.mono (by omega)) (takes_of rfl rfl rfl rfl) (ea_cons (BE.ee (be_var 0)) ea_nil) rfl (alen_cons alen_nil))))
  (bss_cons (bs_if (BW.bt (bw_or (bt_not (bt_tru (EE.be (ee_call (h_is_whole T) (hr.mono (by omega)) (takes_of rfl rfl rfl rfl) (ea_cons (BE.ee (be_var 1)) ea_nil) rfl (alen_cons alen_nil))))) (bw_or1 (bt_not (tChain o2Le o2Le (EE.be ee_int) (be_var 1) (EE.be (eGint T.c_MOST_POWER))))))) (bss_one (bs_raise T.e_Malformed rfl (takes_of rfl rfl rfl rfl))) bss_nil)
  (bss_one (bs_ret (EE.be (ee_call (h_power_of T) (hr.mono (by omega)) (takes_of rfl rfl rfl rfl) (ea_cons (BE.ee (be_var 0)) (ea_cons (BE.ee (be_var 1)) ea_nil)) rfl (alen_cons (alen_cons alen_nil)))))))))
theorem sc_trace : FnScope ["table", "place"] ["table"] (defScope s_trace) := ⟨rfl, rfl, rfl, by decide +kernel, rfl, by decide +kernel, by decide +kernel⟩
theorem h_trace (T : Txt K mg) : HasFn P w K mg base 7 "trace" 1 f_trace := has_at (N := ["table", "place"]) (ps := ["table"]) T.d_trace sc_trace fun f dra cdv A outer s H E hr => (by exact
  (bss_cons (bs_expr (EE.be (ee_call (h_check_table T) (hr.mono (by omega)) (takes_of rfl rfl rfl rfl) (ea_cons (BE.ee (be_var 0)) ea_nil) rfl (alen_cons alen_nil))))
  (bss_one (bs_ret (EE.be (ee_call (h_total T) (hr.mono (by omega)) (takes_of rfl rfl rfl rfl) (ea_cons (ee_lc (own := [("place", 1)]) rfl sc_trace.nd (bi_rg1 T.b_range (EE.be (ee_len T.b_len (be_var 0)))) (by kernel_rfl) (fun _ _ _ _ _ => (bg_name (i := 1) sc_trace.nd)) (fun _ _ _ _ _ => bts_nil) (fun _ _ _ _ _ => (BE.ee (be_ix (be_ix (be_var 0) (be_var 1)) (be_var 1)))) (by decide)) ea_nil) rfl (alen_cons alen_nil)))))))
theorem sc_cleared : FnScope ["rows", "column", "leads", "done", "found", "lead", "place", "row", "factor", "item", "a", "b"] ["rows"] (defScope s_cleared) := ⟨rfl, rfl, rfl, by decide +kernel, rfl, by decide +kernel, by decide +kernel⟩
theorem h_cleared (T : Txt K mg) : HasFn P w K mg base 4 "cleared" 1 f_cleared := has_at (N := ["rows", "column", "leads", "done", "found", "lead", "place", "row", "factor", "item", "a", "b"]) (ps := ["rows"]) T.d_cleared sc_cleared fun f dra cdv A outer s H E hr => (by exact
  (bss_cons (bs_fz (i := 0) (bs_parN rfl (NmS.cons (i := 0) sc_cleared.nd (NmS.cons (i := 2) sc_cleared.nd (NmS.cons (i := 3) sc_cleared.nd NmS.nil))) (ea_cons (ee_lc (own := [("row", 7)]) rfl sc_cleared.nd (bi_any (BE.ee (be_var 0))) (by kernel_rfl) (fun _ _ _ _ _ => (bg_name (i := 7) sc_cleared.nd)) (fun _ _ _ _ _ => bts_nil) (fun _ _ _ _ _ => (ee_fz (ee_list T.b_list (be_var 7)))) (by decide)) (ea_cons (ee_lst ea_nil) (ea_cons ee_int ea_nil)))))
  (bss_cons (bs_for PassesOwn.leaving rfl (bi_rg1 T.b_range (EE.be (ee_if (tGt (EE.be (ee_len T.b_len (be_var 0))) (EE.be ee_int)) (ee_len T.b_len (be_ix (be_var 0) (EE.be ee_int))) ee_int))) (bg_name (i := 1) sc_cleared.nd) (bss_cons (bs_setLc (i := 4) (own := [("place", 6)]) rfl sc_cleared.nd (sw_true rfl rfl rfl (by kernel_rfl)) (bi_rg2 T.b_range (be_var 3) (EE.be (ee_len T.b_len (be_var 0)))) (by kernel_rfl) (fun _ _ _ _ _ => (bg_name (i := 6) sc_cleared.nd)) (fun _ _ _ _ _ => (bts_one (tNe (Room.units hr) (be_ix (be_ix (be_ix (be_var 0) (be_var 6)) (be_var 1)) (EE.be ee_int)) (EE.be ee_int)))) (fun _ _ _ _ _ => (BE.ee (be_var 6))) (by decide))
  (bss_one (bs_if (tGt (EE.be (ee_len T.b_len (be_var 4))) (EE.be ee_int)) (bss_cons (bs_swap (i := 0) rfl (ea_cons (BE.ee (be_ix (be_var 0) (be_ix (be_var 4) (EE.be ee_int)))) (ea_cons (BE.ee (be_ix (be_var 0) (be_var 3))) ea_nil)) (be_var 3) (be_ix (be_var 4) (EE.be ee_int)))
  (bss_cons (bs_set (i := 5) sc_cleared.nd (BE.ee (be_ix (be_ix (be_var 0) (be_var 3)) (be_var 1))))
  (bss_cons (bs_setIx (i := 0) (ee_fz (ee_lc (own := [("item", 9)]) rfl sc_cleared.nd (bi_any (BE.ee (be_ix (be_var 0) (be_var 3)))) (by kernel_rfl) (fun _ _ _ _ _ => (bg_name (i := 9) sc_cleared.nd)) (fun _ _ _ _ _ => bts_nil) (fun _ _ _ _ _ => (ee_call (h_over T) (hr.mono (by omega)) takes0 (ea_cons (BE.ee (be_var 9)) (ea_cons (BE.ee (be_var 5)) ea_nil)) rfl (alen_cons (alen_cons alen_nil)))) (by decide))) (be_var 3))
  (bss_cons (bs_for PassesOwn.leaving rfl (bi_rg1 T.b_range (EE.be (ee_len T.b_len (be_var 0)))) (bg_name (i := 6) sc_cleared.nd) (bss_cons (bs_set (i := 8) sc_cleared.nd (BE.ee (be_ix (be_ix (be_var 0) (be_var 6)) (be_var 1))))
  (bss_one (bs_if (BW.bt (bw_and (tNe (Room.units hr) (be_var 6) (be_var 3)) (bw_and1 (tNe (Room.units hr) (be_ix (be_var 8) (EE.be ee_int)) (EE.be ee_int))))) (bss_one (bs_setIx (i := 0) (ee_fz (ee_lc (own := [("a", 10), ("b", 11)]) rfl sc_cleared.nd (bi_zip T.b_zip (ea_cons (BE.ee (be_ix (be_var 0) (be_var 6))) (ea_cons (BE.ee (be_ix (be_var 0) (be_var 3))) ea_nil))) (by kernel_rfl) (fun _ _ _ _ _ => (bg_tup rfl (bgs_cons (bg_name (i := 10) sc_cleared.nd) (bgs_cons (bg_name (i := 11) sc_cleared.nd) bgs_nil)))) (fun _ _ _ _ _ => bts_nil) (fun _ _ _ _ _ => (ee_call (h_minus T) (hr.mono (by omega)) takes0 (ea_cons (BE.ee (be_var 10)) (ea_cons (ee_call (h_times T) (hr.mono (by omega)) takes0 (ea_cons (BE.ee (be_var 8)) (ea_cons (BE.ee (be_var 11)) ea_nil)) rfl (alen_cons (alen_cons alen_nil))) ea_nil)) rfl (alen_cons (alen_cons alen_nil)))) (by decide))) (be_var 6))) bss_nil))))
  (bss_cons (bs_app (i := 2) (BE.ee (be_var 1)))
  (bss_one (sAug (i := 3) sc_cleared.nd i2Add ee_int))))))) bss_nil))))
  (bss_one (bs_fz (i := 2) (bs_ret (EE.be (ee_tup (ea_cons (ee_sl (be_var 0) bo_none (bo_some (be_var 3))) (ea_cons (BE.ee (be_var 2)) ea_nil))))))))))
theorem sc_rank_of : FnScope ["rows"] ["rows"] (defScope s_rank_of) := ⟨rfl, rfl, rfl, by decide +kernel, rfl, by decide +kernel, by decide +kernel⟩
theorem h_rank_of (T : Txt K mg) : HasFn P w K mg base 5 "rank_of" 1 f_rank_of := has_at (N := ["rows"]) (ps := ["rows"]) T.d_rank_of sc_rank_of fun f dra cdv A outer s H E hr => (by exact
  (bss_one (bs_ret (EE.be (ee_len T.b_len (be_ix (EE.be (ee_call (h_cleared T) (hr.mono (by omega)) (takes_of rfl rfl rfl rfl) (ea_cons (BE.ee (be_var 0)) ea_nil) rfl (alen_cons alen_nil))) (EE.be ee_int)))))))
theorem sc_rank : FnScope ["table"] ["table"] (defScope s_rank) := ⟨rfl, rfl, rfl, by decide +kernel, rfl, by decide +kernel, by decide +kernel⟩
theorem h_rank (T : Txt K mg) : HasFn P w K mg base 7 "rank" 1 f_rank := has_at (N := ["table"]) (ps := ["table"]) T.d_rank sc_rank fun f dra cdv A outer s H E hr => (by exact
  (bss_cons (bs_expr (EE.be (ee_call (h_check_table T) (hr.mono (by omega)) (takes_of rfl rfl rfl rfl) (ea_cons (BE.ee (be_var 0)) ea_nil) rfl (alen_cons alen_nil))))
  (bss_one (bs_ret (EE.be (ee_call (h_rank_of T) (hr.mono (by omega)) (takes_of rfl rfl rfl rfl) (ea_cons (BE.ee (be_var 0)) ea_nil) rfl (alen_cons alen_nil)))))))
theorem sc_back_of : FnScope ["table", "size", "wide", "rows", "leads", "row", "other"] ["table"] (defScope s_back_of) := ⟨rfl, rfl, rfl, by decide +kernel, rfl, by decide +kernel, by decide +kernel⟩
theorem h_back_of (T : Txt K mg) : HasFn P w K mg base 5 "back_of" 1 f_back_of := has_at (N := ["table", "size", "wide", "rows", "leads", "row", "other"]) (ps := ["table"]) T.d_back_of sc_back_of fun f dra cdv A outer s H E hr => (by exact
  (bss_cons (bs_set (i := 1) sc_back_of.nd (ee_len T.b_len (be_var 0)))
  (bss_cons (bs_setLc (i := 2) (own := [("row", 5), ("other", 6)]) rfl sc_back_of.nd (sw_true rfl rfl rfl (by kernel_rfl)) (bi_zip T.b_zip (ea_cons (BE.ee (be_var 0)) (ea_cons (ee_call (h_unit_of T) (hr.mono (by omega)) (takes_of rfl rfl rfl rfl) (ea_cons (BE.ee (be_var 1)) ea_nil) rfl (alen_cons alen_nil)) ea_nil))) (by kernel_rfl) (fun _ _ _ _ _ => (bg_tup rfl (bgs_cons (bg_name (i := 5) sc_back_of.nd) (bgs_cons (bg_name (i := 6) sc_back_of.nd) bgs_nil)))) (fun _ _ _ _ _ => bts_nil) (fun _ _ _ _ _ => (eAdd (be_var 5) (be_var 6))) (by decide))
  (bss_cons (bs_asg (ee_call (h_cleared T) (hr.mono (by omega)) (takes_of rfl rfl rfl rfl) (ea_cons (BE.ee (be_var 2)) ea_nil) rfl (alen_cons alen_nil)) (bg_tup rfl (bgs_cons (bg_name (i := 3) sc_back_of.nd) (bgs_cons (bg_name (i := 4) sc_back_of.nd) bgs_nil))))
  (bss_cons (bs_if (tNe (Room.units hr) (EE.be (ee_sl (be_var 4) bo_none (bo_some (be_var 1)))) (EE.be (ee_listRg rfl T.b_list (brg1 T.b_range (be_var 1))))) (bss_one (bs_ret (EE.be ee_non))) bss_nil)
  (bss_one (bs_ret (EE.be (ee_tuple T.b_tuple (EE.be (ee_lc (own := [("row", 5)]) rfl sc_back_of.nd (bi_any (BE.ee (be_var 3))) (by kernel_rfl) (fun _ _ _ _ _ => (bg_name (i := 5) sc_back_of.nd)) (fun _ _ _ _ _ => bts_nil) (fun _ _ _ _ _ => (ee_tuple T.b_tuple (EE.be (ee_sl (be_var 5) (bo_some (be_var 1)) bo_none)))) (by decide))))))))))))
theorem sc_back : FnScope ["table"] ["table"] (defScope s_back) := ⟨rfl, rfl, rfl, by decide +kernel, rfl, by decide +kernel, by decide +kernel⟩
theorem h_back (T : Txt K mg) : HasFn P w K mg base 7 "back" 1 f_back := has_at (N := ["table"]) (ps := ["table"]) T.d_back sc_back fun f dra cdv A outer s H E hr => (by exact
  (bss_cons (bs_expr (EE.be (ee_call (h_check_table T) (hr.mono (by omega)) (takes_of rfl rfl rfl rfl) (ea_cons (BE.ee (be_var 0)) ea_nil) rfl (alen_cons alen_nil))))
  (bss_one (bs_ret (EE.be (ee_call (h_back_of T) (hr.mono (by omega)) (takes_of rfl rfl rfl rfl) (ea_cons (BE.ee (be_var 0)) ea_nil) rfl (alen_cons alen_nil)))))))
theorem sc_size_of : FnScope ["row", "most", "item"] ["row"] (defScope s_size_of) := ⟨rfl, rfl, rfl, by decide +kernel, rfl, by decide +kernel, by decide +kernel⟩
theorem h_size_of (T : Txt K mg) : HasFn P w K mg base 1 "size_of" 1 f_size_of := has_at (N := ["row", "most", "item"]) (ps := ["row"]) T.d_size_of sc_size_of fun f dra cdv A outer s H E hr => (by exact
  (bss_cons (bs_set (i := 1) sc_size_of.nd (eGtup T.c_ZERO))
  (bss_cons (bs_for PassesOwn.leaving rfl (bi_any (BE.ee (be_var 0))) (bg_name (i := 2) sc_size_of.nd) (bss_one (bs_if (tGt (EE.be (eMul (EE.be (eAbs T.b_abs (be_ix (be_var 2) (EE.be ee_int)))) (be_ix (be_var 1) (EE.be ee_int)))) (EE.be (eMul (be_ix (be_var 1) (EE.be ee_int)) (be_ix (be_var 2) (EE.be ee_int))))) (bss_one (bs_set (i := 1) sc_size_of.nd (ee_tup (ea_cons (eAbs T.b_abs (be_ix (be_var 2) (EE.be ee_int))) (ea_cons (BE.ee (be_ix (be_var 2) (EE.be ee_int))) ea_nil))))) bss_nil)))
  (bss_one (bs_ret (be_var 1))))))
theorem sc_greatest : FnScope ["row"] ["row"] (defScope s_greatest) := ⟨rfl, rfl, rfl, by decide +kernel, rfl, by decide +kernel, by decide +kernel⟩
theorem h_greatest (T : Txt K mg) : HasFn P w K mg base 4 "greatest" 1 f_greatest := has_at (N := ["row"]) (ps := ["row"]) T.d_greatest sc_greatest fun f dra cdv A outer s H E hr => (by exact
  (bss_cons (bs_if (BW.bt (bw_or (bt_not (bt_tru (EE.be (ee_isi isi_tuple T.b_isinstance T.b_tuple (by decide +kernel) (be_var 0))))) (bw_or (bt_not (tChain o2Lt o2Le (EE.be ee_int) (EE.be (ee_len T.b_len (be_var 0))) (EE.be (eGint T.c_MOST_SIZE)))) (bw_or1 (bt_not (bt_tru (EE.be (ee_call (h_is_row T) (hr.mono (by omega)) (takes_of rfl rfl rfl rfl) (ea_cons (ee_len T.b_len (be_var 0)) (ea_cons (BE.ee (be_var 0)) ea_nil)) rfl (alen_cons (alen_cons alen_nil)))))))))) (bss_one (bs_raise T.e_Malformed rfl (takes_of rfl rfl rfl rfl))) bss_nil)
  (bss_one (bs_ret (EE.be (ee_call (h_size_of T) (hr.mono (by omega)) (takes_of rfl rfl rfl rfl) (ea_cons (BE.ee (be_var 0)) ea_nil) rfl (alen_cons alen_nil)))))))
theorem sc_is_nought : FnScope ["table", "row", "item"] ["table"] (defScope s_is_nought) := ⟨rfl, rfl, rfl, by decide +kernel, rfl, by decide +kernel, by decide +kernel⟩
theorem h_is_nought (T : Txt K mg) : HasFn P w K mg base 7 "is_nought" 1 f_is_nought := has_at (N := ["table", "row", "item"]) (ps := ["table"]) T.d_is_nought sc_is_nought fun f dra cdv A outer s H E hr => (by exact
  (bss_cons (bs_expr (EE.be (ee_call (h_check_table T) (hr.mono (by omega)) (takes_of rfl rfl rfl rfl) (ea_cons (BE.ee (be_var 0)) ea_nil) rfl (alen_cons alen_nil))))
  (bss_one (bs_ret (EE.be (ee_not (EE.be (eAny rfl T.b_any (EE.be (ee_lc (own := [("row", 1)]) rfl sc_is_nought.nd (bi_any (BE.ee (be_var 0))) (by kernel_rfl) (fun _ _ _ _ _ => (bg_name (i := 1) sc_is_nought.nd)) (fun _ _ _ _ _ => bts_nil) (fun _ _ _ _ _ => (eAny rfl T.b_any (EE.be (ee_lc (own := [("item", 2)]) rfl sc_is_nought.nd (bi_any (BE.ee (be_var 1))) (by kernel_rfl) (fun _ _ _ _ _ => (bg_name (i := 2) sc_is_nought.nd)) (fun _ _ _ _ _ => bts_nil) (fun _ _ _ _ _ => (eNe (Room.units hr) (be_ix (be_var 2) (EE.be ee_int)) (EE.be ee_int))) (by decide))))) (by decide)))))))))))
theorem sc_has_no_minus : FnScope ["table", "row", "item"] ["table"] (defScope s_has_no_minus) := ⟨rfl, rfl, rfl, by decide +kernel, rfl, by decide +kernel, by decide +kernel⟩
theorem h_has_no_minus (T : Txt K mg) : HasFn P w K mg base 7 "has_no_minus" 1 f_has_no_minus := has_at (N := ["table", "row", "item"]) (ps := ["table"]) T.d_has_no_minus sc_has_no_minus fun f dra cdv A outer s H E hr => (by exact
  (bss_cons (bs_expr (EE.be (ee_call (h_check_table T) (hr.mono (by omega)) (takes_of rfl rfl rfl rfl) (ea_cons (BE.ee (be_var 0)) ea_nil) rfl (alen_cons alen_nil))))
  (bss_one (bs_ret (EE.be (ee_not (EE.be (eAny rfl T.b_any (EE.be (ee_lc (own := [("row", 1)]) rfl sc_has_no_minus.nd (bi_any (BE.ee (be_var 0))) (by kernel_rfl) (fun _ _ _ _ _ => (bg_name (i := 1) sc_has_no_minus.nd)) (fun _ _ _ _ _ => bts_nil) (fun _ _ _ _ _ => (eAny rfl T.b_any (EE.be (ee_lc (own := [("item", 2)]) rfl sc_has_no_minus.nd (bi_any (BE.ee (be_var 1))) (by kernel_rfl) (fun _ _ _ _ _ => (bg_name (i := 2) sc_has_no_minus.nd)) (fun _ _ _ _ _ => bts_nil) (fun _ _ _ _ _ => (eLt (be_ix (be_var 2) (EE.be ee_int)) (EE.be ee_int))) (by decide))))) (by decide)))))))))))
theorem sc_corner_blocks : FnScope ["one", "two", "wide", "row"] ["one", "two"] (defScope s_corner_blocks) := ⟨rfl, rfl, rfl, by decide +kernel, rfl, by decide +kernel, by decide +kernel⟩
theorem h_corner_blocks (T : Txt K mg) : HasFn P w K mg base 1 "corner_blocks" 2 f_corner_blocks := has_at (N := ["one", "two", "wide", "row"]) (ps := ["one", "two"]) T.d_corner_blocks sc_corner_blocks fun f dra cdv A outer s H E hr => (by exact
  (bss_cons (bs_setLc (i := 2) (own := [("row", 3)]) rfl sc_corner_blocks.nd (sw_true rfl rfl rfl (by kernel_rfl)) (bi_any (BE.ee (be_var 0))) (by kernel_rfl) (fun _ _ _ _ _ => (bg_name (i := 3) sc_corner_blocks.nd)) (fun _ _ _ _ _ => bts_nil) (fun _ _ _ _ _ => (eAdd (be_var 3) (EE.be (eMul (EE.be (ee_tup (ea_cons (eGtup T.c_ZERO) ea_nil))) (EE.be (ee_len T.b_len (be_var 1))))))) (by decide))
  (bss_one (bs_ret (EE.be (ee_tuple T.b_tuple (EE.be (eAdd (be_var 2) (EE.be (ee_lc (own := [("row", 3)]) rfl sc_corner_blocks.nd (bi_any (BE.ee (be_var 1))) (by kernel_rfl) (fun _ _ _ _ _ => (bg_name (i := 3) sc_corner_blocks.nd)) (fun _ _ _ _ _ => bts_nil) (fun _ _ _ _ _ => (eAdd (EE.be (eMul (EE.be (ee_tup (ea_cons (eGtup T.c_ZERO) ea_nil))) (EE.be (ee_len T.b_len (be_var 0))))) (be_var 3))) (by decide)))))))))))
theorem sc_slanted : FnScope ["one", "two"] ["one", "two"] (defScope s_slanted) := ⟨rfl, rfl, rfl, by decide +kernel, rfl, by decide +kernel, by decide +kernel⟩
theorem h_slanted (T : Txt K mg) : HasFn P w K mg base 7 "slanted" 2 f_slanted := has_at (N := ["one", "two"]) (ps := ["one", "two"]) T.d_slanted sc_slanted fun f dra cdv A outer s H E hr => (by exact
  (bss_cons (bs_expr (EE.be (ee_call (h_check_table T) (hr.mono (by omega)) (takes_of rfl rfl rfl rfl) (ea_cons (BE.ee (be_var 0)) ea_nil) rfl (alen_cons alen_nil))))
  (bss_cons (bs_expr (EE.be (ee_call (h_check_table T) (hr.mono (by omega)) (takes_of rfl rfl rfl rfl) (ea_cons (BE.ee (be_var 1)) ea_nil) rfl (alen_cons alen_nil))))
  (bss_cons (bs_if (tGt (EE.be (eAdd (EE.be (ee_len T.b_len (be_var 0))) (EE.be (ee_len T.b_len (be_var 1))))) (EE.be (eGint T.c_MOST_SIZE))) (bss_one (bs_raise T.e_Malformed rfl (takes_of rfl rfl rfl rfl))) bss_nil)
  (bss_one (bs_ret (EE.be (ee_call (h_corner_blocks T) (hr.mono (by omega)) (takes_of rfl rfl rfl rfl) (ea_cons (BE.ee (be_var 0)) (ea_cons (BE.ee (be_var 1)) ea_nil)) rfl (alen_cons (alen_cons alen_nil))))))))))
theorem sc__law_says : FnScope ["value", "due"] ["value", "due"] (defScope s__law_says) := ⟨rfl, rfl, rfl, by decide +kernel, rfl, by decide +kernel, by decide +kernel⟩
theorem h__law_says (T : Txt K mg) : HasFn P w K mg base 1 "_law_says" 2 f__law_says := has_at (N := ["value", "due"]) (ps := ["value", "due"]) T.d__law_says sc__law_says fun f dra cdv A outer s H E hr => (by exact
  (bss_one (bs_ret (EE.be (ee_and (EE.be (ee_isi isi_bool T.b_isinstance T.b_bool (by decide +kernel) (be_var 0))) (ee_one (eEq (Room.units hr) (be_var 0) (be_var 1))))))))
theorem sc__law_less : FnScope ["a", "b"] ["a", "b"] (defScope s__law_less) := ⟨rfl, rfl, rfl, by decide +kernel, rfl, by decide +kernel, by decide +kernel⟩
theorem h__law_less (T : Txt K mg) : HasFn P w K mg base 1 "_law_less" 2 f__law_less := has_at (N := ["a", "b"]) (ps := ["a", "b"]) T.d__law_less sc__law_less fun f dra cdv A outer s H E hr => (by exact
  (bss_one (bs_ret (EE.be (eLt (EE.be (eMul (be_ix (be_var 0) (EE.be ee_int)) (be_ix (be_var 1) (EE.be ee_int)))) (EE.be (eMul (be_ix (be_var 1) (EE.be ee_int)) (be_ix (be_var 0) (EE.be ee_int)))))))))
theorem sc__law_low : FnScope ["n", "d", "a", "b"] ["n", "d"] (defScope s__law_low) := ⟨rfl, rfl, rfl, by decide +kernel, rfl, by decide +kernel, by decide +kernel⟩
theorem h__law_low (T : Txt K mg) : HasFn P w K mg base 1 "_law_low" 2 f__law_low := has_at (N := ["n", "d", "a", "b"]) (ps := ["n", "d"]) T.d__law_low sc__law_low fun f dra cdv A outer s H E hr => (by exact
  (bss_cons (bs_par2 (i := 2) (j := 3) rfl sc__law_low.nd (ea_cons (eAbs T.b_abs (be_var 0)) (ea_cons (BE.ee (be_var 1)) ea_nil)) rfl)
  (bss_cons (bs_while (fuelAbs 3) PassesOwn.leaving (tNe (Room.units hr) (be_var 3) (EE.be ee_int)) (bss_one (bs_par2 (i := 2) (j := 3) rfl sc__law_low.nd (ea_cons (BE.ee (be_var 3)) (ea_cons (eMod (be_var 2) (be_var 3)) ea_nil)) rfl)))
  (bss_one (bs_ret (EE.be (ee_tup (ea_cons (eFd (be_var 0) (be_var 2)) (ea_cons (eFd (be_var 1) (be_var 2)) ea_nil)))))))))
theorem sc__law_plus : FnScope ["a", "b"] ["a", "b"] (defScope s__law_plus) := ⟨rfl, rfl, rfl, by decide +kernel, rfl, by decide +kernel, by decide +kernel⟩
theorem h__law_plus (T : Txt K mg) : HasFn P w K mg base 2 "_law_plus" 2 f__law_plus := has_at (N := ["a", "b"]) (ps := ["a", "b"]) T.d__law_plus sc__law_plus fun f dra cdv A outer s H E hr => (by exact
  (bss_one (bs_ret (EE.be (ee_call (h__law_low T) (hr.mono (by omega)) (takes_of rfl rfl rfl rfl) (ea_cons (eAdd (EE.be (eMul (be_ix (be_var 0) (EE.be ee_int)) (be_ix (be_var 1) (EE.be ee_int)))) (EE.be (eMul (be_ix (be_var 1) (EE.be ee_int)) (be_ix (be_var 0) (EE.be ee_int))))) (ea_cons (eMul (be_ix (be_var 0) (EE.be ee_int)) (be_ix (be_var 1) (EE.be ee_int))) ea_nil)) rfl (alen_cons (alen_cons alen_nil)))))))
theorem sc__law_minus : FnScope ["a", "b"] ["a", "b"] (defScope s__law_minus) := ⟨rfl, rfl, rfl, by decide +kernel, rfl, by decide +kernel, by decide +kernel⟩
theorem h__law_minus (T : Txt K mg) : HasFn P w K mg base 2 "_law_minus" 2 f__law_minus := has_at (N := ["a", "b"]) (ps := ["a", "b"]) T.d__law_minus sc__law_minus fun f dra cdv A outer s H E hr => (by exact
  (bss_one (bs_ret (EE.be (ee_call (h__law_low T) (hr.mono (by omega)) (takes_of rfl rfl rfl rfl) (ea_cons (eSub (EE.be (eMul (be_ix (be_var 0) (EE.be ee_int)) (be_ix (be_var 1) (EE.be ee_int)))) (EE.be (eMul (be_ix (be_var 1) (EE.be ee_int)) (be_ix (be_var 0) (EE.be ee_int))))) (ea_cons (eMul (be_ix (be_var 0) (EE.be ee_int)) (be_ix (be_var 1) (EE.be ee_int))) ea_nil)) rfl (alen_cons (alen_cons alen_nil)))))))
theorem sc__law_times : FnScope ["a", "b"] ["a", "b"] (defScope s__law_times) := ⟨rfl, rfl, rfl, by decide +kernel, rfl, by decide +kernel, by decide +kernel⟩
theorem h__law_times (T : Txt K mg) : HasFn P w K mg base 2 "_law_times" 2 f__law_times := has_at (N := ["a", "b"]) (ps := ["a", "b"]) T.d__law_times sc__law_times fun f dra cdv A outer s H E hr => (by exact
  (bss_one (bs_ret (EE.be (ee_call (h__law_low T) (hr.mono (by omega)) (takes_of rfl rfl rfl rfl) (ea_cons (eMul (be_ix (be_var 0) (EE.be ee_int)) (be_ix (be_var 1) (EE.be ee_int))) (ea_cons (eMul (be_ix (be_var 0) (EE.be ee_int)) (be_ix (be_var 1) (EE.be ee_int))) ea_nil)) rfl (alen_cons (alen_cons alen_nil)))))))
theorem sc__law_sum : FnScope ["items", "found", "item"] ["items"] (defScope s__law_sum) := ⟨rfl, rfl, rfl, by decide +kernel, rfl, by decide +kernel, by decide +kernel⟩
theorem h__law_sum (T : Txt K mg) : HasFn P w K mg base 3 "_law_sum" 1 f__law_sum := has_at (N := ["items", "found", "item"]) (ps := ["items"]) T.d__law_sum sc__law_sum fun f dra cdv A outer s H E hr => (by exact
  (bss_cons (bs_set (i := 1) sc__law_sum.nd (ee_tup (ea_cons ee_int (ea_cons ee_int ea_nil))))
  (bss_cons (bs_for PassesOwn.leaving rfl (bi_any (BE.ee (be_var 0))) (bg_name (i := 2) sc__law_sum.nd) (bss_one (bs_set (i := 1) sc__law_sum.nd (ee_call (h__law_plus T) (hr.mono (by omega)) (takes_of rfl rfl rfl rfl) (ea_cons (BE.ee (be_var 1)) (ea_cons (BE.ee (be_var 2)) ea_nil)) rfl (alen_cons (alen_cons alen_nil))))))
  (bss_one (bs_ret (be_var 1))))))
theorem sc__law_most : FnScope ["items", "found", "item"] ["items"] (defScope s__law_most) := ⟨rfl, rfl, rfl, by decide +kernel, rfl, by decide +kernel, by decide +kernel⟩
theorem h__law_most (T : Txt K mg) : HasFn P w K mg base 2 "_law_most" 1 f__law_most := has_at (N := ["items", "found", "item"]) (ps := ["items"]) T.d__law_most sc__law_most fun f dra cdv A outer s H E hr => (by exact
  (bss_cons (bs_set (i := 1) sc__law_most.nd (BE.ee (be_ix (be_var 0) (EE.be ee_int))))
  (bss_cons (bs_for PassesOwn.leaving rfl (bi_any (BE.ee (be_var 0))) (bg_name (i := 2) sc__law_most.nd) (bss_one (bs_set (i := 1) sc__law_most.nd (ee_if (bt_tru (EE.be (ee_call (h__law_less T) (hr.mono (by omega)) (takes_of rfl rfl rfl rfl) (ea_cons (BE.ee (be_var 1)) (ea_cons (BE.ee (be_var 2)) ea_nil)) rfl (alen_cons (alen_cons alen_nil))))) (BE.ee (be_var 2)) (BE.ee (be_var 1))))))
  (bss_one (bs_ret (be_var 1))))))
theorem sc__law_bent : FnScope ["draw", "data", "at"] ["draw", "data"] (defScope s__law_bent) := ⟨rfl, rfl, rfl, by decide +kernel, rfl, by decide +kernel, by decide +kernel⟩
theorem h__law_bent (T : Txt K mg) : ∀ j, HasFn P w K mg base (2 + j) "_law_bent" 2 (f__law_bent j)
  | 0 => has_st (N := ["draw", "data", "at"]) (ps := ["draw", "data"]) T.d__law_bent sc__law_bent
  | j + 1 => has_at (N := ["draw", "data", "at"]) (ps := ["draw", "data"]) T.d__law_bent sc__law_bent fun f dra cdv A outer s H E hr => (by exact
  (bss_cons (bs_if (BW.bt (bw_and (bt_tru (EE.be (ee_isi isi_tuple T.b_isinstance T.b_tuple (by decide +kernel) (be_var 1)))) (bw_and (tGt (EE.be (ee_len T.b_len (be_var 1))) (EE.be ee_int)) (bw_and1 (tGt (EE.be (ee_call (h__law_take T) (hr.mono (by show _ ≤ 2 + j; omega)) (takes_of rfl rfl rfl rfl) (ea_cons (BE.ee (be_var 0)) (ea_cons ee_int ea_nil)) rfl (alen_cons (alen_cons alen_nil)))) (EE.be ee_int)))))) (bss_cons (bs_set (i := 2) sc__law_bent.nd (ee_call (h__law_take T) (hr.mono (by show _ ≤ 2 + j; omega)) (takes_of rfl rfl rfl rfl) (ea_cons (BE.ee (be_var 0)) (ea_cons (ee_len T.b_len (be_var 1)) ea_nil)) rfl (alen_cons (alen_cons alen_nil))))
  (bss_one (bs_ret (EE.be (eAdd (EE.be (eAdd (EE.be (ee_sl (be_var 1) bo_none (bo_some (be_var 2)))) (EE.be (ee_tup (ea_cons (ee_call (h__law_bent T j) hr (takes_of rfl rfl rfl rfl) (ea_cons (BE.ee (be_var 0)) (ea_cons (BE.ee (be_ix (be_var 1) (be_var 2))) ea_nil)) rfl (alen_cons (alen_cons alen_nil))) ea_nil))))) (EE.be (ee_sl (be_var 1) (bo_some (EE.be (eAdd (be_var 2) (EE.be ee_int)))) bo_none))))))) bss_nil)
  (bss_cons (bs_if (bt_tru (EE.be (ee_isi isi_tuple T.b_isinstance T.b_tuple (by decide +kernel) (be_var 1)))) (bss_one (bs_ret (be_ix (EE.be (ee_lst (ea_cons (ee_list T.b_list (be_var 1)) (ea_cons (eAdd (be_var 1) (EE.be (ee_tup (ea_cons ee_int ea_nil)))) (ea_cons (ee_sl (be_var 1) bo_none (bo_some (EE.be (ee_neg (EE.be ee_int))))) (ea_cons (ee_rev (BE.ee (be_var 1))) (ea_cons ee_non (ea_cons (ee_tup ea_nil) (ea_cons (eAdd (be_var 1) (EE.be (ee_sl (be_var 1) bo_none (bo_some (EE.be ee_int))))) (ea_cons (ee_tup (ea_cons ee_int (ea_cons ee_int ea_nil))) ea_nil)))))))))) (EE.be (ee_call (h__law_take T) (hr.mono (by show _ ≤ 2 + j; omega)) (takes_of rfl rfl rfl rfl) (ea_cons (BE.ee (be_var 0)) (ea_cons ee_int ea_nil)) rfl (alen_cons (alen_cons alen_nil))))))) bss_nil)
  (bss_one (bs_ret (EE.be (ee_if (bt_tru (EE.be (ee_isi isi_int T.b_isinstance T.b_int (by decide +kernel) (be_var 1)))) (BE.ee (be_ix (EE.be (ee_lst (ea_cons ee_int (ea_cons ee_int (ea_cons (eAdd (be_var 1) (EE.be ee_int)) (ea_cons (eSub (be_var 1) (EE.be ee_int)) (ea_cons (eEq (Room.units hr) (be_var 1) (EE.be ee_int)) (ea_cons ee_non (ea_cons ee_str (ea_cons (ee_tup (ea_cons (BE.ee (be_var 1)) ea_nil)) (ea_cons ee_int ea_nil))))))))))) (EE.be (ee_call (h__law_take T) (hr.mono (by show _ ≤ 2 + j; omega)) (takes_of rfl rfl rfl rfl) (ea_cons (BE.ee (be_var 0)) (ea_cons ee_int ea_nil)) rfl (alen_cons (alen_cons alen_nil)))))) ee_int)))))))
theorem sc__law_item : FnScope ["draw"] ["draw"] (defScope s__law_item) := ⟨rfl, rfl, rfl, by decide +kernel, rfl, by decide +kernel, by decide +kernel⟩
theorem h__law_item (T : Txt K mg) : HasFn P w K mg base 2 "_law_item" 1 f__law_item := has_at (N := ["draw"]) (ps := ["draw"]) T.d__law_item sc__law_item fun f dra cdv A outer s H E hr => (by exact
  (bss_one (bs_ret (be_ix (EE.be (ee_lst (ea_cons (ee_tup (ea_cons ee_int (ea_cons ee_int ea_nil))) (ea_cons (ee_tup (ea_cons ee_int (ea_cons ee_int ea_nil))) (ea_cons (ee_tup (ea_cons ee_int (ea_cons ee_int ea_nil))) (ea_cons (ee_tup (ea_cons ee_int (ea_cons ee_int ea_nil))) (ea_cons (ee_tup (ea_cons (eSub (EE.be ee_int) (EE.be ee_int)) (ea_cons ee_int ea_nil))) (ea_cons (ee_tup (ea_cons ee_int (ea_cons ee_int ea_nil))) (ea_cons (ee_tup (ea_cons (eSub (EE.be ee_int) (EE.be ee_int)) (ea_cons ee_int ea_nil))) (ea_cons (ee_tup (ea_cons ee_int (ea_cons ee_int ea_nil))) ea_nil)))))))))) (EE.be (ee_call (h__law_take T) (hr.mono (by omega)) (takes_of rfl rfl rfl rfl) (ea_cons (BE.ee (be_var 0)) (ea_cons ee_int ea_nil)) rfl (alen_cons (alen_cons alen_nil))))))))
theorem sc__law_table : FnScope ["draw", "size", "one", "two"] ["draw", "size"] (defScope s__law_table) := ⟨rfl, rfl, rfl, by decide +kernel, rfl, by decide +kernel, by decide +kernel⟩
theorem h__law_table (T : Txt K mg) : HasFn P w K mg base 3 "_law_table" 2 f__law_table := has_at (N := ["draw", "size", "one", "two"]) (ps := ["draw", "size"]) T.d__law_table sc__law_table fun f dra cdv A outer s H E hr => (by exact
  (bss_one (bs_ret (EE.be (ee_tuple T.b_tuple (EE.be (ee_lc (own := [("one", 2)]) rfl sc__law_table.nd (bi_rg1 T.b_range (be_var 1)) (by kernel_rfl) (fun _ _ _ _ _ => (bg_name (i := 2) sc__law_table.nd)) (fun _ _ _ _ _ => bts_nil) (fun _ _ _ _ _ => (ee_tuple T.b_tuple (EE.be (ee_lc (own := [("two", 3)]) rfl sc__law_table.nd (bi_rg1 T.b_range (be_var 1)) (by kernel_rfl) (fun _ _ _ _ _ => (bg_name (i := 3) sc__law_table.nd)) (fun _ _ _ _ _ => bts_nil) (fun _ _ _ _ _ => (ee_call (h__law_item T) (hr.mono (by omega)) takes0 (ea_cons (BE.ee (be_var 0)) ea_nil) rfl (alen_cons alen_nil))) (by decide))))) (by decide))))))))
theorem sc__law_unit : FnScope ["size", "a", "b"] ["size"] (defScope s__law_unit) := ⟨rfl, rfl, rfl, by decide +kernel, rfl, by decide +kernel, by decide +kernel⟩
theorem h__law_unit (T : Txt K mg) : HasFn P w K mg base 1 "_law_unit" 1 f__law_unit := has_at (N := ["size", "a", "b"]) (ps := ["size"]) T.d__law_unit sc__law_unit fun f dra cdv A outer s H E hr => (by exact
  (bss_one (bs_ret (EE.be (ee_tuple T.b_tuple (EE.be (ee_lc (own := [("a", 1)]) rfl sc__law_unit.nd (bi_rg1 T.b_range (be_var 0)) (by kernel_rfl) (fun _ _ _ _ _ => (bg_name (i := 1) sc__law_unit.nd)) (fun _ _ _ _ _ => bts_nil) (fun _ _ _ _ _ => (ee_tuple T.b_tuple (EE.be (ee_lc (own := [("b", 2)]) rfl sc__law_unit.nd (bi_rg1 T.b_range (be_var 0)) (by kernel_rfl) (fun _ _ _ _ _ => (bg_name (i := 2) sc__law_unit.nd)) (fun _ _ _ _ _ => bts_nil) (fun _ _ _ _ _ => (ee_if (tEq (Room.units hr) (be_var 1) (be_var 2)) (ee_tup (ea_cons ee_int (ea_cons ee_int ea_nil))) (ee_tup (ea_cons ee_int (ea_cons ee_int ea_nil))))) (by decide))))) (by decide))))))))
theorem sc__law_times_rows : FnScope ["one", "two", "many", "row", "column", "k"] ["one", "two"] (defScope s__law_times_rows) := ⟨rfl, rfl, rfl, by decide +kernel, rfl, by decide +kernel, by decide +kernel⟩
theorem h__law_times_rows (T : Txt K mg) : HasFn P w K mg base 4 "_law_times_rows" 2 f__law_times_rows := has_at (N := ["one", "two", "many", "row", "column", "k"]) (ps := ["one", "two"]) T.d__law_times_rows sc__law_times_rows fun f dra cdv A outer s H E hr => (by exact
  (bss_cons (bs_set (i := 2) sc__law_times_rows.nd (ee_listRg rfl T.b_list (brg1 T.b_range (EE.be (ee_len T.b_len (be_var 1))))))
  (bss_one (bs_ret (EE.be (ee_tuple T.b_tuple (EE.be (ee_lc (own := [("row", 3)]) rfl sc__law_times_rows.nd (bi_any (BE.ee (be_var 0))) (by kernel_rfl) (fun _ _ _ _ _ => (bg_name (i := 3) sc__law_times_rows.nd)) (fun _ _ _ _ _ => bts_nil) (fun _ _ _ _ _ => (ee_tuple T.b_tuple (EE.be (ee_lc (own := [("column", 4)]) rfl sc__law_times_rows.nd (bi_any (BE.ee (be_var 2))) (by kernel_rfl) (fun _ _ _ _ _ => (bg_name (i := 4) sc__law_times_rows.nd)) (fun _ _ _ _ _ => bts_nil) (fun _ _ _ _ _ => (ee_call (h__law_sum T) (hr.mono (by omega)) takes0 (ea_cons (ee_lc (own := [("k", 5)]) rfl sc__law_times_rows.nd (bi_any (BE.ee (be_var 2))) (by kernel_rfl) (fun _ _ _ _ _ => (bg_name (i := 5) sc__law_times_rows.nd)) (fun _ _ _ _ _ => bts_nil) (fun _ _ _ _ _ => (ee_call (h__law_times T) (hr.mono (by omega)) takes0 (ea_cons (BE.ee (be_ix (be_var 3) (be_var 5))) (ea_cons (BE.ee (be_ix (be_ix (be_var 1) (be_var 5)) (be_var 4))) ea_nil)) rfl (alen_cons (alen_cons alen_nil)))) (by decide)) ea_nil) rfl (alen_cons alen_nil))) (by decide))))) (by decide)))))))))
theorem sc__law_led : FnScope ["table", "row", "line", "k"] ["table", "row"] (defScope s__law_led) := ⟨rfl, rfl, rfl, by decide +kernel, rfl, by decide +kernel, by decide +kernel⟩
theorem h__law_led (T : Txt K mg) : HasFn P w K mg base 4 "_law_led" 2 f__law_led := has_at (N := ["table", "row", "line", "k"]) (ps := ["table", "row"]) T.d__law_led sc__law_led fun f dra cdv A outer s H E hr => (by exact
  (bss_one (bs_ret (EE.be (ee_tuple T.b_tuple (EE.be (ee_lc (own := [("line", 2)]) rfl sc__law_led.nd (bi_any (BE.ee (be_var 0))) (by kernel_rfl) (fun _ _ _ _ _ => (bg_name (i := 2) sc__law_led.nd)) (fun _ _ _ _ _ => bts_nil) (fun _ _ _ _ _ => (ee_call (h__law_sum T) (hr.mono (by omega)) takes0 (ea_cons (ee_lc (own := [("k", 3)]) rfl sc__law_led.nd (bi_rg1 T.b_range (EE.be (ee_len T.b_len (be_var 1)))) (by kernel_rfl) (fun _ _ _ _ _ => (bg_name (i := 3) sc__law_led.nd)) (fun _ _ _ _ _ => bts_nil) (fun _ _ _ _ _ => (ee_call (h__law_times T) (hr.mono (by omega)) takes0 (ea_cons (BE.ee (be_ix (be_var 2) (be_var 3))) (ea_cons (BE.ee (be_ix (be_var 1) (be_var 3))) ea_nil)) rfl (alen_cons (alen_cons alen_nil)))) (by decide)) ea_nil) rfl (alen_cons alen_nil))) (by decide))))))))
theorem sc__law_size : FnScope ["row", "item"] ["row"] (defScope s__law_size) := ⟨rfl, rfl, rfl, by decide +kernel, rfl, by decide +kernel, by decide +kernel⟩
theorem h__law_size (T : Txt K mg) : HasFn P w K mg base 3 "_law_size" 1 f__law_size := has_at (N := ["row", "item"]) (ps := ["row"]) T.d__law_size sc__law_size fun f dra cdv A outer s H E hr => (by exact
  (bss_one (bs_ret (EE.be (ee_call (h__law_most T) (hr.mono (by omega)) (takes_of rfl rfl rfl rfl) (ea_cons (ee_lc (own := [("item", 1)]) rfl sc__law_size.nd (bi_any (BE.ee (be_var 0))) (by kernel_rfl) (fun _ _ _ _ _ => (bg_name (i := 1) sc__law_size.nd)) (fun _ _ _ _ _ => bts_nil) (fun _ _ _ _ _ => (ee_tup (ea_cons (eAbs T.b_abs (be_ix (be_var 1) (EE.be ee_int))) (ea_cons (BE.ee (be_ix (be_var 1) (EE.be ee_int))) ea_nil)))) (by decide)) ea_nil) rfl (alen_cons alen_nil))))))
theorem sc__law_int : FnScope ["value"] ["value"] (defScope s__law_int) := ⟨rfl, rfl, rfl, by decide +kernel, rfl, by decide +kernel, by decide +kernel⟩
theorem h__law_int (T : Txt K mg) : HasFn P w K mg base 1 "_law_int" 1 f__law_int := has_at (N := ["value"]) (ps := ["value"]) T.d__law_int sc__law_int fun f dra cdv A outer s H E hr => (by exact
  (bss_one (bs_ret (EE.be (ee_and (EE.be (ee_isi isi_int T.b_isinstance T.b_int (by decide +kernel) (be_var 0))) (ee_one (ee_not (EE.be (ee_isi isi_bool T.b_isinstance T.b_bool (by decide +kernel) (be_var 0))))))))))
theorem sc__law_is_ratio : FnScope ["value"] ["value"] (defScope s__law_is_ratio) := ⟨rfl, rfl, rfl, by decide +kernel, rfl, by decide +kernel, by decide +kernel⟩
theorem h__law_is_ratio (T : Txt K mg) : HasFn P w K mg base 2 "_law_is_ratio" 1 f__law_is_ratio := has_at (N := ["value"]) (ps := ["value"]) T.d__law_is_ratio sc__law_is_ratio fun f dra cdv A outer s H E hr => (by exact
  (bss_cons (bs_if (BW.bt (bw_or (bt_not (bt_tru (EE.be (ee_isi isi_tuple T.b_isinstance T.b_tuple (by decide +kernel) (be_var 0))))) (bw_or (tNe (Room.units hr) (EE.be (ee_len T.b_len (be_var 0))) (EE.be ee_int)) (bw_or (bt_not (bt_tru (EE.be (ee_call (h__law_int T) (hr.mono (by omega)) (takes_of rfl rfl rfl rfl) (ea_cons (BE.ee (be_ix (be_var 0) (EE.be ee_int))) ea_nil) rfl (alen_cons alen_nil))))) (bw_or (bt_not (bt_tru (EE.be (ee_call (h__law_int T) (hr.mono (by omega)) (takes_of rfl rfl rfl rfl) (ea_cons (BE.ee (be_ix (be_var 0) (EE.be ee_int))) ea_nil) rfl (alen_cons alen_nil))))) (bw_or1 (tLt (be_ix (be_var 0) (EE.be ee_int)) (EE.be ee_int)))))))) (bss_one (bs_ret (EE.be ee_bl))) bss_nil)
  (bss_one (bs_ret (EE.be (eEq (Room.units hr) (EE.be (ee_call (h__law_low T) (hr.mono (by omega)) (takes_of rfl rfl rfl rfl) (ea_cons (BE.ee (be_ix (be_var 0) (EE.be ee_int))) (ea_cons (BE.ee (be_ix (be_var 0) (EE.be ee_int))) ea_nil)) rfl (alen_cons (alen_cons alen_nil)))) (be_var 0)))))))
theorem sc__law_is_row : FnScope ["size", "value", "item"] ["size", "value"] (defScope s__law_is_row) := ⟨rfl, rfl, rfl, by decide +kernel, rfl, by decide +kernel, by decide +kernel⟩
theorem h__law_is_row (T : Txt K mg) : HasFn P w K mg base 3 "_law_is_row" 2 f__law_is_row := has_at (N := ["size", "value", "item"]) (ps := ["size", "value"]) T.d__law_is_row sc__law_is_row fun f dra cdv A outer s H E hr => (by exact
  (bss_one (bs_ret (EE.be (ee_and (EE.be (ee_isi isi_tuple T.b_isinstance T.b_tuple (by decide +kernel) (be_var 1))) (ee_and (EE.be (eEq (Room.units hr) (EE.be (ee_len T.b_len (be_var 1))) (be_var 0))) (ee_one (eAll rfl T.b_all (EE.be (ee_lc (own := [("item", 2)]) rfl sc__law_is_row.nd (bi_any (BE.ee (be_var 1))) (by kernel_rfl) (fun _ _ _ _ _ => (bg_name (i := 2) sc__law_is_row.nd)) (fun _ _ _ _ _ => bts_nil) (fun _ _ _ _ _ => (ee_call (h__law_is_ratio T) (hr.mono (by omega)) takes0 (ea_cons (BE.ee (be_var 2)) ea_nil) rfl (alen_cons alen_nil))) (by decide)))))))))))
theorem sc__law_is_table : FnScope ["size", "value", "row"] ["size", "value"] (defScope s__law_is_table) := ⟨rfl, rfl, rfl, by decide +kernel, rfl, by decide +kernel, by decide +kernel⟩
theorem h__law_is_table (T : Txt K mg) : HasFn P w K mg base 4 "_law_is_table" 2 f__law_is_table := has_at (N := ["size", "value", "row"]) (ps := ["size", "value"]) T.d__law_is_table sc__law_is_table fun f dra cdv A outer s H E hr => (by exact
  (bss_one (bs_ret (EE.be (ee_and (EE.be (ee_isi isi_tuple T.b_isinstance T.b_tuple (by decide +kernel) (be_var 1))) (ee_and (EE.be (eEq (Room.units hr) (EE.be (ee_len T.b_len (be_var 1))) (be_var 0))) (ee_one (eAll rfl T.b_all (EE.be (ee_lc (own := [("row", 2)]) rfl sc__law_is_table.nd (bi_any (BE.ee (be_var 1))) (by kernel_rfl) (fun _ _ _ _ _ => (bg_name (i := 2) sc__law_is_table.nd)) (fun _ _ _ _ _ => bts_nil) (fun _ _ _ _ _ => (ee_call (h__law_is_row T) (hr.mono (by omega)) takes0 (ea_cons (BE.ee (be_var 0)) (ea_cons (BE.ee (be_var 2)) ea_nil)) rfl (alen_cons (alen_cons alen_nil)))) (by decide)))))))))))
theorem sc__law_rank : FnScope ["rows", "column", "left", "found", "heads", "by", "row", "head", "k"] ["rows"] (defScope s__law_rank) := ⟨rfl, rfl, rfl, by decide +kernel, rfl, by decide +kernel, by decide +kernel⟩
theorem h__law_rank (T : Txt K mg) : HasFn P w K mg base 3 "_law_rank" 1 f__law_rank := has_at (N := ["rows", "column", "left", "found", "heads", "by", "row", "head", "k"]) (ps := ["rows"]) T.d__law_rank sc__law_rank fun f dra cdv A outer s H E hr => (by exact
  (bss_cons (bs_par2 (i := 2) (j := 3) rfl sc__law_rank.nd (ea_cons (ee_lc (own := [("row", 6)]) rfl sc__law_rank.nd (bi_any (BE.ee (be_var 0))) (by kernel_rfl) (fun _ _ _ _ _ => (bg_name (i := 6) sc__law_rank.nd)) (fun _ _ _ _ _ => bts_nil) (fun _ _ _ _ _ => (ee_list T.b_list (be_var 6))) (by decide)) (ea_cons ee_int ea_nil)) rfl)
  (bss_cons (bs_for PassesOwn.leaving rfl (bi_rg1 T.b_range (EE.be (ee_len T.b_len (be_ix (be_var 0) (EE.be ee_int))))) (bg_name (i := 1) sc__law_rank.nd) (bss_cons (bs_fz (i := 2) (bs_setLc (i := 4) (own := [("row", 6)]) rfl sc__law_rank.nd (sw_true rfl rfl rfl (by kernel_rfl)) (bi_any (BE.ee (be_var 2))) (by kernel_rfl) (fun _ _ _ _ _ => (bg_name (i := 6) sc__law_rank.nd)) (fun _ _ _ _ _ => (bts_one (tNe (Room.units hr) (be_ix (be_ix (be_var 6) (be_var 1)) (EE.be ee_int)) (EE.be ee_int)))) (fun _ _ _ _ _ => (BE.ee (be_var 6))) (by decide)))
  (bss_one (bs_if (tNe (Room.units hr) (be_var 4) (EE.be (ee_lst ea_nil))) (bss_cons (bs_parN rfl (NmS.cons (i := 7) sc__law_rank.nd (NmS.cons (i := 3) sc__law_rank.nd NmS.nil)) (ea_cons (BE.ee (be_ix (be_var 4) (EE.be ee_int))) (ea_cons (eAdd (be_var 3) (EE.be ee_int)) ea_nil)))
  (bss_cons (bs_fz (i := 2) (bs_setLc (i := 2) (own := [("row", 6)]) rfl sc__law_rank.nd (sw_true rfl rfl rfl (by kernel_rfl)) (bi_any (BE.ee (be_var 2))) (by kernel_rfl) (fun _ _ _ _ _ => (bg_name (i := 6) sc__law_rank.nd)) (fun _ _ _ _ _ => (bts_one (BW.bt (bw_or (tNe (Room.units hr) (be_var 6) (be_var 7)) (bw_or1 (tEq (Room.units hr) (be_ix (be_ix (be_var 6) (be_var 1)) (EE.be ee_int)) (EE.be ee_int))))))) (fun _ _ _ _ _ => (BE.ee (be_var 6))) (by decide)))
  (bss_cons (bs_set (i := 5) sc__law_rank.nd (ee_if (tGt (be_ix (be_ix (be_var 7) (be_var 1)) (EE.be ee_int)) (EE.be ee_int)) (ee_tup (ea_cons (BE.ee (be_ix (be_ix (be_var 7) (be_var 1)) (EE.be ee_int))) (ea_cons (BE.ee (be_ix (be_ix (be_var 7) (be_var 1)) (EE.be ee_int))) ea_nil))) (ee_tup (ea_cons (eSub (EE.be ee_int) (be_ix (be_ix (be_var 7) (be_var 1)) (EE.be ee_int))) (ea_cons (eSub (EE.be ee_int) (be_ix (be_ix (be_var 7) (be_var 1)) (EE.be ee_int))) ea_nil)))))
  (bss_one (bs_fz (i := 2) (bs_setLc (i := 2) (own := [("row", 6)]) rfl sc__law_rank.nd (sw_true rfl rfl rfl (by kernel_rfl)) (bi_any (BE.ee (be_var 2))) (by kernel_rfl) (fun _ _ _ _ _ => (bg_name (i := 6) sc__law_rank.nd)) (fun _ _ _ _ _ => bts_nil) (fun _ _ _ _ _ => (ee_lc (own := [("k", 8)]) rfl sc__law_rank.nd (bi_rg1 T.b_range (EE.be (ee_len T.b_len (be_var 6)))) (by kernel_rfl) (fun _ _ _ _ _ => (bg_name (i := 8) sc__law_rank.nd)) (fun _ _ _ _ _ => bts_nil) (fun _ _ _ _ _ => (ee_call (h__law_minus T) (hr.mono (by omega)) takes0 (ea_cons (BE.ee (be_ix (be_var 6) (be_var 8))) (ea_cons (ee_call (h__law_times T) (hr.mono (by omega)) takes0 (ea_cons (ee_call (h__law_times T) (hr.mono (by omega)) takes0 (ea_cons (BE.ee (be_ix (be_var 6) (be_var 1))) (ea_cons (BE.ee (be_var 5)) ea_nil)) rfl (alen_cons (alen_cons alen_nil))) (ea_cons (BE.ee (be_ix (be_var 7) (be_var 8))) ea_nil)) rfl (alen_cons (alen_cons alen_nil))) ea_nil)) rfl (alen_cons (alen_cons alen_nil)))) (by decide))) (by decide))))))) bss_nil))))
  (bss_one (bs_ret (be_var 3))))))
theorem sc__law_power : FnScope ["a", "many", "found", "turn"] ["a", "many"] (defScope s__law_power) := ⟨rfl, rfl, rfl, by decide +kernel, rfl, by decide +kernel, by decide +kernel⟩
theorem h__law_power (T : Txt K mg) : HasFn P w K mg base 3 "_law_power" 2 f__law_power := has_at (N := ["a", "many", "found", "turn"]) (ps := ["a", "many"]) T.d__law_power sc__law_power fun f dra cdv A outer s H E hr => (by exact
  (bss_cons (bs_set (i := 2) sc__law_power.nd (ee_tup (ea_cons ee_int (ea_cons ee_int ea_nil))))
  (bss_cons (bs_for PassesOwn.leaving rfl (bi_rg1 T.b_range (be_var 1)) (bg_name (i := 3) sc__law_power.nd) (bss_one (bs_set (i := 2) sc__law_power.nd (ee_call (h__law_times T) (hr.mono (by omega)) (takes_of rfl rfl rfl rfl) (ea_cons (BE.ee (be_var 2)) (ea_cons (BE.ee (be_var 0)) ea_nil)) rfl (alen_cons (alen_cons alen_nil))))))
  (bss_one (bs_ret (be_var 2))))))
theorem sc__law_ask : FnScope ["which", "args", "asked"] ["which", "args"] (defScope s__law_ask) := ⟨rfl, rfl, rfl, by decide +kernel, rfl, by decide +kernel, by decide +kernel⟩
theorem h__law_ask (T : Txt K mg) : HasFn P w K mg base 9 "_law_ask" 2 f__law_ask := has_at (N := ["which", "args", "asked"]) (ps := ["which", "args"]) T.d__law_ask sc__law_ask fun f dra cdv A outer s H E hr => (by exact
  (bss_cons (bs_set (i := 2) sc__law_ask.nd (ee_lst (ea_cons (ee_fn (h_product T)) (ea_cons (ee_fn (h_added T)) (ea_cons (ee_fn (h_scaled T)) (ea_cons (ee_fn (h_turned T)) (ea_cons (ee_fn (h_power_tables T)) (ea_cons (ee_fn (h_led T)) (ea_cons (ee_fn (h_trace T)) (ea_cons (ee_fn (h_rank T)) (ea_cons (ee_fn (h_back T)) (ea_cons (ee_fn (h_greatest T)) (ea_cons (ee_fn (h_is_nought T)) (ea_cons (ee_fn (h_has_no_minus T)) (ea_cons (ee_fn (h_slanted T)) (ea_cons (ee_fn (h_unit T)) (ea_cons (ee_fn (h_over T)) (ea_cons (ee_fn (h_ratio T)) ea_nil))))))))))))))))))
  (bss_one (sTry T.x_Malformed (takes_of rfl rfl rfl rfl) (fun _ _ _ tk1 po1 => (bss_one (bs_ret (EE.be (ee_if (tEq (Room.units hr) (EE.be (ee_len T.b_len (be_var 1))) (EE.be ee_int)) (ee_callE (k := 8) (n := 1) (HasT.cons ((h_turned T).mono (by decide)) (HasT.cons ((h_trace T).mono (by decide)) (HasT.cons ((h_rank T).mono (by decide)) (HasT.cons ((h_back T).mono (by decide)) (HasT.cons ((h_greatest T).mono (by decide)) (HasT.cons ((h_is_nought T).mono (by decide)) (HasT.cons ((h_has_no_minus T).mono (by decide)) (HasT.cons ((h_unit T).mono (by decide)) HasT.nil)))))))) (hr.mono (by omega)) tk1 (be_ix (be_var 2) (be_var 0)) (ea_cons (BE.ee (be_ix (be_var 1) (EE.be ee_int))) ea_nil) (alen_cons alen_nil)) (ee_callE (k := 8) (n := 2) (HasT.cons ((h_product T).mono (by decide)) (HasT.cons ((h_added T).mono (by decide)) (HasT.cons ((h_scaled T).mono (by decide)) (HasT.cons ((h_power_tables T).mono (by decide)) (HasT.cons ((h_led T).mono (by decide)) (HasT.cons ((h_slanted T).mono (by decide)) (HasT.cons ((h_over T).mono (by decide)) (HasT.cons ((h_ratio T).mono (by decide)) HasT.nil)))))))) (hr.mono (by omega)) tk1 (be_ix (be_var 2) (be_var 0)) (ea_cons (BE.ee (be_ix (be_var 1) (EE.be ee_int))) (ea_cons (BE.ee (be_ix (be_var 1) (EE.be ee_int))) ea_nil)) (alen_cons (alen_cons alen_nil)))))))) (fun _ _ => (bss_one (bs_ret (EE.be ee_str))))))))
theorem sc__law_numbers : FnScope ["draw", "due", "by", "odd", "a", "b", "gap", "low", "turn", "value", "args"] ["draw"] (defScope s__law_numbers) := ⟨rfl, rfl, rfl, by decide +kernel, rfl, by decide +kernel, by decide +kernel⟩
theorem h__law_numbers (T : Txt K mg) : HasFn P w K mg base 10 "_law_numbers" 1 f__law_numbers := has_at (N := ["draw", "due", "by", "odd", "a", "b", "gap", "low", "turn", "value", "args"]) (ps := ["draw"]) T.d__law_numbers sc__law_numbers fun f dra cdv A outer s H E hr => (by exact
  (bss_cons (bs_asg (ee_lc (own := [("turn", 8)]) rfl sc__law_numbers.nd (bi_rg1 T.b_range (EE.be ee_int)) (by kernel_rfl) (fun _ _ _ _ _ => (bg_name (i := 8) sc__law_numbers.nd)) (fun _ _ _ _ _ => bts_nil) (fun _ _ _ _ _ => (ee_call (h__law_low T) (hr.mono (by omega)) takes0 (ea_cons (eSub (EE.be (ee_call (h__law_take T) (hr.mono (by omega)) takes0 (ea_cons (BE.ee (be_var 0)) (ea_cons ee_int ea_nil)) rfl (alen_cons (alen_cons alen_nil)))) (EE.be ee_int)) (ea_cons (eAdd (EE.be ee_int) (EE.be (ee_call (h__law_take T) (hr.mono (by omega)) takes0 (ea_cons (BE.ee (be_var 0)) (ea_cons ee_int ea_nil)) rfl (alen_cons (alen_cons alen_nil))))) ea_nil)) rfl (alen_cons (alen_cons alen_nil)))) (by decide)) (bg_tup rfl (bgs_cons (bg_name (i := 4) sc__law_numbers.nd) (bgs_cons (bg_name (i := 5) sc__law_numbers.nd) bgs_nil))))
  (bss_cons (bs_par2 (i := 6) (j := 7) rfl sc__law_numbers.nd (ea_cons (ee_call (h__law_minus T) (hr.mono (by omega)) (takes_of rfl rfl rfl rfl) (ea_cons (BE.ee (be_var 4)) (ea_cons (BE.ee (be_var 5)) ea_nil)) rfl (alen_cons (alen_cons alen_nil))) (ea_cons (ee_if (bt_tru (EE.be (ee_call (h__law_less T) (hr.mono (by omega)) (takes_of rfl rfl rfl rfl) (ea_cons (BE.ee (be_var 4)) (ea_cons (BE.ee (be_var 5)) ea_nil)) rfl (alen_cons (alen_cons alen_nil))))) (BE.ee (be_var 4)) (BE.ee (be_var 5))) ea_nil)) rfl)
  (bss_cons (bs_set (i := 1) sc__law_numbers.nd (ee_lst (ea_cons (ee_call (h__law_plus T) (hr.mono (by omega)) (takes_of rfl rfl rfl rfl) (ea_cons (BE.ee (be_var 4)) (ea_cons (BE.ee (be_var 5)) ea_nil)) rfl (alen_cons (alen_cons alen_nil))) (ea_cons (BE.ee (be_var 6)) (ea_cons (ee_call (h__law_times T) (hr.mono (by omega)) (takes_of rfl rfl rfl rfl) (ea_cons (BE.ee (be_var 4)) (ea_cons (BE.ee (be_var 5)) ea_nil)) rfl (alen_cons (alen_cons alen_nil))) (ea_cons (BE.ee (be_var 7)) (ea_cons (ee_if (tEq (Room.units hr) (be_var 7) (be_var 4)) (BE.ee (be_var 5)) (BE.ee (be_var 4))) (ea_cons (ee_tup (ea_cons (eAbs T.b_abs (be_ix (be_var 6) (EE.be ee_int))) (ea_cons (BE.ee (be_ix (be_var 6) (EE.be ee_int))) ea_nil))) ea_nil))))))))
  (bss_cons (bs_if (BW.bt (bw_or (tNe (Room.units hr) (EE.be (ee_lst (ea_cons (ee_call (h_plus T) (hr.mono (by omega)) (takes_of rfl rfl rfl rfl) (ea_cons (BE.ee (be_var 4)) (ea_cons (BE.ee (be_var 5)) ea_nil)) rfl (alen_cons (alen_cons alen_nil))) (ea_cons (ee_call (h_minus T) (hr.mono (by omega)) (takes_of rfl rfl rfl rfl) (ea_cons (BE.ee (be_var 4)) (ea_cons (BE.ee (be_var 5)) ea_nil)) rfl (alen_cons (alen_cons alen_nil))) (ea_cons (ee_call (h_times T) (hr.mono (by omega)) (takes_of rfl rfl rfl rfl) (ea_cons (BE.ee (be_var 4)) (ea_cons (BE.ee (be_var 5)) ea_nil)) rfl (alen_cons (alen_cons alen_nil))) (ea_cons (ee_call (h_lesser T) (hr.mono (by omega)) (takes_of rfl rfl rfl rfl) (ea_cons (BE.ee (be_var 4)) (ea_cons (BE.ee (be_var 5)) ea_nil)) rfl (alen_cons (alen_cons alen_nil))) (ea_cons (ee_call (h_greater T) (hr.mono (by omega)) (takes_of rfl rfl rfl rfl) (ea_cons (BE.ee (be_var 4)) (ea_cons (BE.ee (be_var 5)) ea_nil)) rfl (alen_cons (alen_cons alen_nil))) (ea_cons (ee_call (h_apart_by T) (hr.mono (by omega)) (takes_of rfl rfl rfl rfl) (ea_cons (BE.ee (be_var 4)) (ea_cons (BE.ee (be_var 5)) ea_nil)) rfl (alen_cons (alen_cons alen_nil))) ea_nil)))))))) (be_var 1)) (bw_or1 (bt_not (bt_tru (EE.be (ee_call (h__law_says T) (hr.mono (by omega)) (takes_of rfl rfl rfl rfl) (ea_cons (ee_call (h_below T) (hr.mono (by omega)) (takes_of rfl rfl rfl rfl) (ea_cons (BE.ee (be_var 4)) (ea_cons (BE.ee (be_var 5)) ea_nil)) rfl (alen_cons (alen_cons alen_nil))) (ea_cons (ee_call (h__law_less T) (hr.mono (by omega)) (takes_of rfl rfl rfl rfl) (ea_cons (BE.ee (be_var 4)) (ea_cons (BE.ee (be_var 5)) ea_nil)) rfl (alen_cons (alen_cons alen_nil))) ea_nil)) rfl (alen_cons (alen_cons alen_nil))))))))) (bss_one (bs_ret (EE.be ee_bl))) bss_nil)
  (bss_cons (bs_set (i := 2) sc__law_numbers.nd (ee_if (tNe (Room.units hr) (be_ix (be_var 5) (EE.be ee_int)) (EE.be ee_int)) (ee_call (h__law_low T) (hr.mono (by omega)) (takes_of rfl rfl rfl rfl) (ea_cons (eMul (EE.be (eMul (be_ix (be_var 4) (EE.be ee_int)) (be_ix (be_var 5) (EE.be ee_int)))) (EE.be (ee_if (tGt (be_ix (be_var 5) (EE.be ee_int)) (EE.be ee_int)) ee_int (eSub (EE.be ee_int) (EE.be ee_int))))) (ea_cons (eMul (be_ix (be_var 4) (EE.be ee_int)) (EE.be (eAbs T.b_abs (be_ix (be_var 5) (EE.be ee_int))))) ea_nil)) rfl (alen_cons (alen_cons alen_nil))) ee_str))
  (bss_cons (bs_if (BW.bt (bw_or (tNe (Room.units hr) (EE.be (ee_call (h__law_ask T) (hr.mono (by omega)) (takes_of rfl rfl rfl rfl) (ea_cons ee_int (ea_cons (ee_tup (ea_cons (BE.ee (be_var 4)) (ea_cons (BE.ee (be_var 5)) ea_nil))) ea_nil)) rfl (alen_cons (alen_cons alen_nil)))) (be_var 2)) (bw_or (tNe (Room.units hr) (EE.be (ee_call (h_total T) (hr.mono (by omega)) (takes_of rfl rfl rfl rfl) (ea_cons (ee_lst (ea_cons (BE.ee (be_var 4)) (ea_cons (BE.ee (be_var 5)) (ea_cons (BE.ee (be_var 4)) ea_nil)))) ea_nil) rfl (alen_cons alen_nil))) (EE.be (ee_call (h__law_sum T) (hr.mono (by omega)) (takes_of rfl rfl rfl rfl) (ea_cons (ee_lst (ea_cons (BE.ee (be_var 4)) (ea_cons (BE.ee (be_var 5)) (ea_cons (BE.ee (be_var 4)) ea_nil)))) ea_nil) rfl (alen_cons alen_nil)))) (bw_or (tNe (Room.units hr) (EE.be (ee_call (h_power_ratios T) (hr.mono (by omega)) (takes_of rfl rfl rfl rfl) (ea_cons (BE.ee (be_var 4)) (ea_cons ee_int ea_nil)) rfl (alen_cons (alen_cons alen_nil)))) (EE.be (ee_call (h__law_power T) (hr.mono (by omega)) (takes_of rfl rfl rfl rfl) (ea_cons (BE.ee (be_var 4)) (ea_cons ee_int ea_nil)) rfl (alen_cons (alen_cons alen_nil))))) (bw_or1 (tNe (Room.units hr) (EE.be (ee_call (h_power_ratios T) (hr.mono (by omega)) (takes_of rfl rfl rfl rfl) (ea_cons (BE.ee (be_var 4)) (ea_cons ee_int ea_nil)) rfl (alen_cons (alen_cons alen_nil)))) (EE.be (ee_tup (ea_cons ee_int (ea_cons ee_int ea_nil)))))))))) (bss_one (bs_ret (EE.be ee_bl))) bss_nil)
  (bss_cons (bs_if (BW.bt (bw_or (tNe (Room.units hr) (EE.be (ee_call (h_ratio_text T) (hr.mono (by omega)) (takes_of rfl rfl rfl rfl) (ea_cons (BE.ee (be_var 4)) ea_nil) rfl (alen_cons alen_nil))) (EE.be (ee_if (tEq (Room.units hr) (be_ix (be_var 4) (EE.be ee_int)) (EE.be ee_int)) (eStr T.b_str (be_ix (be_var 4) (EE.be ee_int))) (eAdd (EE.be (eAdd (EE.be (eStr T.b_str (be_ix (be_var 4) (EE.be ee_int)))) (EE.be ee_str))) (EE.be (eStr T.b_str (be_ix (be_var 4) (EE.be ee_int)))))))) (bw_or1 (tNe (Room.units hr) (EE.be (ee_call (h__law_ask T) (hr.mono (by omega)) (takes_of rfl rfl rfl rfl) (ea_cons ee_int (ea_cons (ee_tup (ea_cons (eMul (be_ix (be_var 4) (EE.be ee_int)) (EE.be ee_int)) (ea_cons (eSub (EE.be ee_int) (EE.be (eMul (be_ix (be_var 4) (EE.be ee_int)) (EE.be ee_int)))) ea_nil))) ea_nil)) rfl (alen_cons (alen_cons alen_nil)))) (EE.be (ee_tup (ea_cons (eSub (EE.be ee_int) (be_ix (be_var 4) (EE.be ee_int))) (ea_cons (BE.ee (be_ix (be_var 4) (EE.be ee_int))) ea_nil)))))))) (bss_one (bs_ret (EE.be ee_bl))) bss_nil)
  (bss_cons (bs_set (i := 3) sc__law_numbers.nd (ee_lst (ea_cons (BE.ee (be_var 4)) (ea_cons (ee_tup (ea_cons ee_int (ea_cons ee_int ea_nil))) (ea_cons (ee_tup (ea_cons ee_int (ea_cons ee_int ea_nil))) (ea_cons (ee_tup (ea_cons ee_int (ea_cons (eSub (EE.be ee_int) (EE.be ee_int)) ea_nil))) (ea_cons (ee_tup (ea_cons ee_bl (ea_cons ee_int ea_nil))) (ea_cons (ee_tup (ea_cons ee_int (ea_cons ee_int (ea_cons ee_int ea_nil)))) (ea_cons (ee_lst (ea_cons ee_int (ea_cons ee_int ea_nil))) (ea_cons ee_non (ea_cons (ee_tup (ea_cons ee_int (ea_cons ee_int ea_nil))) (ea_cons (ee_tup (ea_cons (eSub (EE.be ee_int) (EE.be ee_int)) (ea_cons ee_int ea_nil))) ea_nil))))))))))))
  (bss_cons (bs_if (tNe (Room.units hr) (EE.be (ee_lc (own := [("value", 9)]) rfl sc__law_numbers.nd (bi_any (BE.ee (be_var 3))) (by kernel_rfl) (fun _ _ _ _ _ => (bg_name (i := 9) sc__law_numbers.nd)) (fun _ _ _ _ _ => bts_nil) (fun _ _ _ _ _ => (ee_call (h_is_ratio T) (hr.mono (by omega)) takes0 (ea_cons (BE.ee (be_var 9)) ea_nil) rfl (alen_cons alen_nil))) (by decide))) (EE.be (ee_lc (own := [("value", 9)]) rfl sc__law_numbers.nd (bi_any (BE.ee (be_var 3))) (by kernel_rfl) (fun _ _ _ _ _ => (bg_name (i := 9) sc__law_numbers.nd)) (fun _ _ _ _ _ => bts_nil) (fun _ _ _ _ _ => (ee_call (h__law_is_ratio T) (hr.mono (by omega)) takes0 (ea_cons (BE.ee (be_var 9)) ea_nil) rfl (alen_cons alen_nil))) (by decide)))) (bss_one (bs_ret (EE.be ee_bl))) bss_nil)
  (bss_one (bs_ret (EE.be (ee_and (EE.be (eEq (Room.units hr) (EE.be (ee_lc (own := [("value", 9)]) rfl sc__law_numbers.nd (bi_any (ee_lst (ea_cons ee_int (ea_cons ee_bl (ea_cons ee_str (ea_cons ee_non ea_nil)))))) (by kernel_rfl) (fun _ _ _ _ _ => (bg_name (i := 9) sc__law_numbers.nd)) (fun _ _ _ _ _ => bts_nil) (fun _ _ _ _ _ => (ee_call (h_is_whole T) (hr.mono (by omega)) takes0 (ea_cons (BE.ee (be_var 9)) ea_nil) rfl (alen_cons alen_nil))) (by decide))) (EE.be (ee_lst (ea_cons ee_bl (ea_cons ee_bl (ea_cons ee_bl (ea_cons ee_bl ea_nil)))))))) (ee_one (eEq (Room.units hr) (EE.be (ee_lc (own := [("args", 10)]) rfl sc__law_numbers.nd (bi_any (ee_lst (ea_cons (ee_tup (ea_cons ee_int (ea_cons ee_int ea_nil))) (ea_cons (ee_tup (ea_cons ee_bl (ea_cons ee_int ea_nil))) (ea_cons (ee_tup (ea_cons ee_str (ea_cons ee_int ea_nil))) ea_nil))))) (by kernel_rfl) (fun _ _ _ _ _ => (bg_name (i := 10) sc__law_numbers.nd)) (fun _ _ _ _ _ => bts_nil) (fun _ _ _ _ _ => (ee_call (h__law_ask T) (hr.mono (by omega)) takes0 (ea_cons ee_int (ea_cons (BE.ee (be_var 10)) ea_nil)) rfl (alen_cons (alen_cons alen_nil)))) (by decide))) (EE.be (eMul (EE.be (ee_lst (ea_cons ee_str ea_nil))) (EE.be ee_int)))))))))))))))))))
theorem sc__law_undone : FnScope ["table"] ["table"] (defScope s__law_undone) := ⟨rfl, rfl, rfl, by decide +kernel, rfl, by decide +kernel, by decide +kernel⟩
theorem h__law_undone (T : Txt K mg) : HasFn P w K mg base 4 "_law_undone" 1 f__law_undone := has_at (N := ["table"]) (ps := ["table"]) T.d__law_undone sc__law_undone fun f dra cdv A outer s H E hr => (by exact
  (bss_one (bs_ret (EE.be (eEq (Room.units hr) (EE.be (ee_call (h__law_rank T) (hr.mono (by omega)) (takes_of rfl rfl rfl rfl) (ea_cons (BE.ee (be_var 0)) ea_nil) rfl (alen_cons alen_nil))) (EE.be (ee_len T.b_len (be_var 0))))))))
theorem sc_law : FnScope ["script", "draw", "size", "row", "value", "added_due", "factor", "turn", "undone", "flat", "line", "other", "wide", "great", "bads", "one", "two", "good", "many", "found", "place", "a", "b", "k", "which", "args", "item"] ["script"] (defScope s_law) := ⟨rfl, rfl, rfl, by decide +kernel, rfl, by decide +kernel, by decide +kernel⟩
theorem ok_law {f : Addr} {fd : FuncData} (T : Txt K mg) (Fu : Fun K "law" "law" s_law f fd) : FnOk P w K mg base (L2.CX P w) 12 f fd ["script"] (spLaw K 27 1 m_law) :=
  law_fn (N := ["script", "draw", "size", "row", "value", "added_due", "factor", "turn", "undone", "flat", "line", "other", "wide", "great", "bads", "one", "two", "good", "many", "found", "place", "a", "b", "k", "which", "args", "item"]) (k := 11) (i := 1) (R := m_law) Fu sc_law fun f cdv A outer s H E hr => (by exact law_body (i := 1) (n := 27) rfl sc_law.nd (by decide) (by decide) (h_draw T) (hr.mono (by omega)) (takes_of rfl rfl rfl rfl) rfl (by first | exact Or.inl rfl | exact Or.inr rfl) (.inl rfl) rfl (by first | exact Or.inl rfl | exact Or.inr (Or.inl rfl)) (by decide) (by decide) (by rfl) rfl rfl rfl fun dra =>
  (bss_cons (bs_set (i := 2) sc_law.nd (eAdd (EE.be ee_int) (EE.be (ee_call (h__law_take T) (hr.mono (by omega)) (takes_of rfl rfl rfl rfl) (ea_cons (BE.ee (be_var 1)) (ea_cons ee_int ea_nil)) rfl (alen_cons (alen_cons alen_nil))))))
  (bss_cons (bs_parN rfl (NmS.cons (i := 15) sc_law.nd (NmS.cons (i := 16) sc_law.nd NmS.nil)) (ea_cons (ee_call (h__law_table T) (hr.mono (by omega)) (takes_of rfl rfl rfl rfl) (ea_cons (BE.ee (be_var 1)) (ea_cons (BE.ee (be_var 2)) ea_nil)) rfl (alen_cons (alen_cons alen_nil))) (ea_cons (ee_call (h__law_table T) (hr.mono (by omega)) (takes_of rfl rfl rfl rfl) (ea_cons (BE.ee (be_var 1)) (ea_cons (BE.ee (be_var 2)) ea_nil)) rfl (alen_cons (alen_cons alen_nil))) ea_nil)))
  (bss_cons (bs_if (tEq (Room.units hr) (EE.be (ee_call (h__law_take T) (hr.mono (by omega)) (takes_of rfl rfl rfl rfl) (ea_cons (BE.ee (be_var 1)) (ea_cons ee_int ea_nil)) rfl (alen_cons (alen_cons alen_nil)))) (EE.be ee_int)) (bss_one (bs_set (i := 15) sc_law.nd (eAdd (EE.be (ee_sl (be_var 15) bo_none (bo_some (EE.be (ee_neg (EE.be ee_int)))))) (EE.be (ee_tup (ea_cons (BE.ee (be_ix (be_var 15) (EE.be ee_int))) ea_nil)))))) bss_nil)
  (bss_cons (bs_set (i := 3) sc_law.nd (ee_tuple T.b_tuple (EE.be (ee_lc (own := [("place", 20)]) rfl sc_law.nd (bi_rg1 T.b_range (be_var 2)) (by kernel_rfl) (fun _ _ _ _ _ => (bg_name (i := 20) sc_law.nd)) (fun _ _ _ _ _ => bts_nil) (fun _ _ _ _ _ => (ee_call (h__law_item T) (hr.mono (by omega)) takes0 (ea_cons (BE.ee (be_var 1)) ea_nil) rfl (alen_cons alen_nil))) (by decide)))))
  (bss_cons (bs_for PassesOwn.leaving rfl (bi_any (ee_lst (ea_cons (BE.ee (be_var 15)) (ea_cons (ee_call (h__law_bent T 5) (hr.mono (by omega)) (takes_of rfl rfl rfl rfl) (ea_cons (BE.ee (be_var 1)) (ea_cons (BE.ee (be_var 15)) ea_nil)) rfl (alen_cons (alen_cons alen_nil))) (ea_cons (ee_call (h__law_bent T 5) (hr.mono (by omega)) (takes_of rfl rfl rfl rfl) (ea_cons (BE.ee (be_var 1)) (ea_cons (BE.ee (be_var 15)) ea_nil)) rfl (alen_cons (alen_cons alen_nil))) (ea_cons (ee_tup ea_nil) (ea_cons (eAdd (be_var 15) (be_var 15)) (ea_cons (ee_list T.b_list (be_var 15)) (ea_cons ee_non (ea_cons (ee_tup (ea_cons (ee_tup ea_nil) ea_nil)) (ea_cons (eMul (EE.be (ee_tup (ea_cons (eMul (EE.be (ee_tup (ea_cons (ee_tup (ea_cons ee_int (ea_cons ee_int ea_nil))) ea_nil))) (EE.be ee_int)) ea_nil))) (EE.be ee_int)) ea_nil))))))))))) (bg_name (i := 4) sc_law.nd) (bss_cons (bs_set (i := 17) sc_law.nd (ee_and (EE.be (ee_isi isi_tuple T.b_isinstance T.b_tuple (by decide +kernel) (be_var 4))) (ee_and (EE.be (eChain o2Lt o2Lt (EE.be ee_int) (EE.be (ee_len T.b_len (be_var 4))) (EE.be ee_int))) (ee_one (ee_call (h__law_is_table T) (hr.mono (by omega)) (takes_of rfl rfl rfl rfl) (ea_cons (ee_len T.b_len (be_var 4)) (ea_cons (BE.ee (be_var 4)) ea_nil)) rfl (alen_cons (alen_cons alen_nil)))))))
  (bss_one (bs_if (BW.bt (bw_or (bt_not (bt_tru (EE.be (ee_call (h__law_says T) (hr.mono (by omega)) (takes_of rfl rfl rfl rfl) (ea_cons (ee_call (h_is_table T) (hr.mono (by omega)) (takes_of rfl rfl rfl rfl) (ea_cons (BE.ee (be_var 4)) ea_nil) rfl (alen_cons alen_nil)) (ea_cons (BE.ee (be_var 17)) ea_nil)) rfl (alen_cons (alen_cons alen_nil)))))) (bw_or1 (BW.bt (bw_and (bt_not (bt_tru (be_var 17))) (bw_and1 (tNe (Room.units hr) (EE.be (ee_lc (own := [("which", 24)]) rfl sc_law.nd (bi_any (ee_lst (ea_cons ee_int (ea_cons ee_int (ea_cons ee_int (ea_cons ee_int (ea_cons ee_int (ea_cons ee_int ea_nil)))))))) (by kernel_rfl) (fun _ _ _ _ _ => (bg_name (i := 24) sc_law.nd)) (fun _ _ _ _ _ => bts_nil) (fun _ _ _ _ _ => (ee_call (h__law_ask T) (hr.mono (by omega)) takes0 (ea_cons (BE.ee (be_var 24)) (ea_cons (ee_tup (ea_cons (BE.ee (be_var 4)) ea_nil)) ea_nil)) rfl (alen_cons (alen_cons alen_nil)))) (by decide))) (EE.be (eMul (EE.be (ee_lst (ea_cons ee_str ea_nil))) (EE.be ee_int)))))))))) (bss_one (bs_ret (EE.be ee_bl))) bss_nil))))
  (bss_cons (bs_set (i := 5) sc_law.nd (ee_tuple T.b_tuple (EE.be (ee_lc (own := [("a", 21)]) rfl sc_law.nd (bi_rg1 T.b_range (be_var 2)) (by kernel_rfl) (fun _ _ _ _ _ => (bg_name (i := 21) sc_law.nd)) (fun _ _ _ _ _ => bts_nil) (fun _ _ _ _ _ => (ee_tuple T.b_tuple (EE.be (ee_lc (own := [("b", 22)]) rfl sc_law.nd (bi_rg1 T.b_range (be_var 2)) (by kernel_rfl) (fun _ _ _ _ _ => (bg_name (i := 22) sc_law.nd)) (fun _ _ _ _ _ => bts_nil) (fun _ _ _ _ _ => (ee_call (h__law_plus T) (hr.mono (by omega)) takes0 (ea_cons (BE.ee (be_ix (be_ix (be_var 15) (be_var 21)) (be_var 22))) (ea_cons (BE.ee (be_ix (be_ix (be_var 16) (be_var 21)) (be_var 22))) ea_nil)) rfl (alen_cons (alen_cons alen_nil)))) (by decide))))) (by decide)))))
  (bss_cons (bs_if (BW.bt (bw_or (tNe (Room.units hr) (EE.be (ee_call (h__law_ask T) (hr.mono (by omega)) (takes_of rfl rfl rfl rfl) (ea_cons ee_int (ea_cons (ee_tup (ea_cons (BE.ee (be_var 15)) (ea_cons (BE.ee (be_var 16)) ea_nil))) ea_nil)) rfl (alen_cons (alen_cons alen_nil)))) (EE.be (ee_call (h__law_times_rows T) (hr.mono (by omega)) (takes_of rfl rfl rfl rfl) (ea_cons (BE.ee (be_var 15)) (ea_cons (BE.ee (be_var 16)) ea_nil)) rfl (alen_cons (alen_cons alen_nil))))) (bw_or (tNe (Room.units hr) (EE.be (ee_call (h__law_ask T) (hr.mono (by omega)) (takes_of rfl rfl rfl rfl) (ea_cons ee_int (ea_cons (ee_tup (ea_cons (BE.ee (be_var 15)) (ea_cons (BE.ee (be_var 16)) ea_nil))) ea_nil)) rfl (alen_cons (alen_cons alen_nil)))) (be_var 5)) (bw_or1 (tNe (Room.units hr) (EE.be (ee_call (h__law_ask T) (hr.mono (by omega)) (takes_of rfl rfl rfl rfl) (ea_cons ee_int (ea_cons (ee_tup (ea_cons (BE.ee (be_var 15)) (ea_cons (BE.ee (be_var 3)) ea_nil))) ea_nil)) rfl (alen_cons (alen_cons alen_nil)))) (EE.be (ee_call (h__law_led T) (hr.mono (by omega)) (takes_of rfl rfl rfl rfl) (ea_cons (BE.ee (be_var 15)) (ea_cons (BE.ee (be_var 3)) ea_nil)) rfl (alen_cons (alen_cons alen_nil))))))))) (bss_one (bs_ret (EE.be ee_bl))) bss_nil)
  (bss_cons (bs_set (i := 6) sc_law.nd (ee_call (h__law_item T) (hr.mono (by omega)) (takes_of rfl rfl rfl rfl) (ea_cons (BE.ee (be_var 1)) ea_nil) rfl (alen_cons alen_nil)))
  (bss_cons (bs_if (tNe (Room.units hr) (EE.be (ee_call (h__law_ask T) (hr.mono (by omega)) (takes_of rfl rfl rfl rfl) (ea_cons ee_int (ea_cons (ee_tup (ea_cons (BE.ee (be_var 15)) (ea_cons (BE.ee (be_var 6)) ea_nil))) ea_nil)) rfl (alen_cons (alen_cons alen_nil)))) (EE.be (ee_tuple T.b_tuple (EE.be (ee_lc (own := [("line", 10)]) rfl sc_law.nd (bi_any (BE.ee (be_var 15))) (by kernel_rfl) (fun _ _ _ _ _ => (bg_name (i := 10) sc_law.nd)) (fun _ _ _ _ _ => bts_nil) (fun _ _ _ _ _ => (ee_tuple T.b_tuple (EE.be (ee_lc (own := [("item", 26)]) rfl sc_law.nd (bi_any (BE.ee (be_var 10))) (by kernel_rfl) (fun _ _ _ _ _ => (bg_name (i := 26) sc_law.nd)) (fun _ _ _ _ _ => bts_nil) (fun _ _ _ _ _ => (ee_call (h__law_times T) (hr.mono (by omega)) takes0 (ea_cons (BE.ee (be_var 26)) (ea_cons (BE.ee (be_var 6)) ea_nil)) rfl (alen_cons (alen_cons alen_nil)))) (by decide))))) (by decide)))))) (bss_one (bs_ret (EE.be ee_bl))) bss_nil)
  (bss_cons (bs_if (BW.bt (bw_or (tNe (Room.units hr) (EE.be (ee_call (h__law_ask T) (hr.mono (by omega)) (takes_of rfl rfl rfl rfl) (ea_cons ee_int (ea_cons (ee_tup (ea_cons (BE.ee (be_var 15)) ea_nil)) ea_nil)) rfl (alen_cons (alen_cons alen_nil)))) (EE.be (ee_tuple T.b_tuple (EE.be (ee_lc (own := [("k", 23)]) rfl sc_law.nd (bi_rg1 T.b_range (be_var 2)) (by kernel_rfl) (fun _ _ _ _ _ => (bg_name (i := 23) sc_law.nd)) (fun _ _ _ _ _ => bts_nil) (fun _ _ _ _ _ => (ee_tuple T.b_tuple (EE.be (ee_lc (own := [("line", 10)]) rfl sc_law.nd (bi_any (BE.ee (be_var 15))) (by kernel_rfl) (fun _ _ _ _ _ => (bg_name (i := 10) sc_law.nd)) (fun _ _ _ _ _ => bts_nil) (fun _ _ _ _ _ => (BE.ee (be_ix (be_var 10) (be_var 23)))) (by decide))))) (by decide)))))) (bw_or1 (tNe (Room.units hr) (EE.be (ee_call (h__law_ask T) (hr.mono (by omega)) (takes_of rfl rfl rfl rfl) (ea_cons ee_int (ea_cons (ee_tup (ea_cons (BE.ee (be_var 15)) ea_nil)) ea_nil)) rfl (alen_cons (alen_cons alen_nil)))) (EE.be (ee_call (h__law_sum T) (hr.mono (by omega)) (takes_of rfl rfl rfl rfl) (ea_cons (ee_lc (own := [("k", 23)]) rfl sc_law.nd (bi_rg1 T.b_range (be_var 2)) (by kernel_rfl) (fun _ _ _ _ _ => (bg_name (i := 23) sc_law.nd)) (fun _ _ _ _ _ => bts_nil) (fun _ _ _ _ _ => (BE.ee (be_ix (be_ix (be_var 15) (be_var 23)) (be_var 23)))) (by decide)) ea_nil) rfl (alen_cons alen_nil))))))) (bss_one (bs_ret (EE.be ee_bl))) bss_nil)
  (bss_cons (bs_par2 (i := 18) (j := 19) rfl sc_law.nd (ea_cons (ee_call (h__law_take T) (hr.mono (by omega)) (takes_of rfl rfl rfl rfl) (ea_cons (BE.ee (be_var 1)) (ea_cons ee_int ea_nil)) rfl (alen_cons (alen_cons alen_nil))) (ea_cons (ee_call (h__law_unit T) (hr.mono (by omega)) (takes_of rfl rfl rfl rfl) (ea_cons (BE.ee (be_var 2)) ea_nil) rfl (alen_cons alen_nil)) ea_nil)) rfl)
  (bss_cons (bs_for PassesOwn.leaving rfl (bi_rg1 T.b_range (be_var 18)) (bg_name (i := 7) sc_law.nd) (bss_one (bs_set (i := 19) sc_law.nd (ee_call (h__law_times_rows T) (hr.mono (by omega)) (takes_of rfl rfl rfl rfl) (ea_cons (BE.ee (be_var 15)) (ea_cons (BE.ee (be_var 19)) ea_nil)) rfl (alen_cons (alen_cons alen_nil))))))
  (bss_cons (bs_if (BW.bt (bw_or (tNe (Room.units hr) (EE.be (ee_call (h__law_ask T) (hr.mono (by omega)) (takes_of rfl rfl rfl rfl) (ea_cons ee_int (ea_cons (ee_tup (ea_cons (BE.ee (be_var 15)) (ea_cons (BE.ee (be_var 18)) ea_nil))) ea_nil)) rfl (alen_cons (alen_cons alen_nil)))) (be_var 19)) (bw_or (tNe (Room.units hr) (EE.be (ee_call (h__law_ask T) (hr.mono (by omega)) (takes_of rfl rfl rfl rfl) (ea_cons ee_int (ea_cons (ee_tup (ea_cons (BE.ee (be_var 2)) ea_nil)) ea_nil)) rfl (alen_cons (alen_cons alen_nil)))) (EE.be (ee_call (h__law_unit T) (hr.mono (by omega)) (takes_of rfl rfl rfl rfl) (ea_cons (BE.ee (be_var 2)) ea_nil) rfl (alen_cons alen_nil)))) (bw_or (tNe (Room.units hr) (EE.be (ee_call (h__law_ask T) (hr.mono (by omega)) (takes_of rfl rfl rfl rfl) (ea_cons ee_int (ea_cons (ee_tup (ea_cons (BE.ee (be_var 15)) ea_nil)) ea_nil)) rfl (alen_cons (alen_cons alen_nil)))) (EE.be (ee_call (h__law_rank T) (hr.mono (by omega)) (takes_of rfl rfl rfl rfl) (ea_cons (BE.ee (be_var 15)) ea_nil) rfl (alen_cons alen_nil)))) (bw_or1 (tNe (Room.units hr) (EE.be (ee_call (h__law_ask T) (hr.mono (by omega)) (takes_of rfl rfl rfl rfl) (ea_cons ee_int (ea_cons (ee_tup (ea_cons (BE.ee (be_var 3)) ea_nil)) ea_nil)) rfl (alen_cons (alen_cons alen_nil)))) (EE.be (ee_call (h__law_size T) (hr.mono (by omega)) (takes_of rfl rfl rfl rfl) (ea_cons (BE.ee (be_var 3)) ea_nil) rfl (alen_cons alen_nil))))))))) (bss_one (bs_ret (EE.be ee_bl))) bss_nil)
  (bss_cons (bs_set (i := 8) sc_law.nd (ee_call (h__law_ask T) (hr.mono (by omega)) (takes_of rfl rfl rfl rfl) (ea_cons ee_int (ea_cons (ee_tup (ea_cons (BE.ee (be_var 15)) ea_nil)) ea_nil)) rfl (alen_cons (alen_cons alen_nil))))
  (bss_cons (bs_if (BW.bt (bw_or (tEq (Room.units hr) (EE.be (eIsN (be_var 8))) (EE.be (ee_call (h__law_undone T) (hr.mono (by omega)) (takes_of rfl rfl rfl rfl) (ea_cons (BE.ee (be_var 15)) ea_nil) rfl (alen_cons alen_nil)))) (bw_or1 (BW.bt (bw_and (tNotN (be_var 8)) (bw_and1 (BW.bt (bw_or (tNe (Room.units hr) (EE.be (ee_call (h__law_times_rows T) (hr.mono (by omega)) (takes_of rfl rfl rfl rfl) (ea_cons (BE.ee (be_var 15)) (ea_cons (BE.ee (be_var 8)) ea_nil)) rfl (alen_cons (alen_cons alen_nil)))) (EE.be (ee_call (h__law_unit T) (hr.mono (by omega)) (takes_of rfl rfl rfl rfl) (ea_cons (BE.ee (be_var 2)) ea_nil) rfl (alen_cons alen_nil)))) (bw_or1 (bt_not (bt_tru (EE.be (ee_call (h__law_is_table T) (hr.mono (by omega)) (takes_of rfl rfl rfl rfl) (ea_cons (BE.ee (be_var 2)) (ea_cons (BE.ee (be_var 8)) ea_nil)) rfl (alen_cons (alen_cons alen_nil))))))))))))))) (bss_one (bs_ret (EE.be ee_bl))) bss_nil)
  (bss_cons (bs_set (i := 9) sc_law.nd (ee_lst ea_nil))
  (bss_cons (bs_for PassesOwn.leaving rfl (bi_any (BE.ee (be_var 15))) (bg_name (i := 10) sc_law.nd) (bss_one (bs_set (i := 9) sc_law.nd (eAdd (be_var 9) (EE.be (ee_list T.b_list (be_var 10)))))))
  (bss_cons (bs_if (BW.bt (bw_or (bt_not (bt_tru (EE.be (ee_call (h__law_says T) (hr.mono (by omega)) (takes_of rfl rfl rfl rfl) (ea_cons (ee_call (h__law_ask T) (hr.mono (by omega)) (takes_of rfl rfl rfl rfl) (ea_cons ee_int (ea_cons (ee_tup (ea_cons (BE.ee (be_var 15)) ea_nil)) ea_nil)) rfl (alen_cons (alen_cons alen_nil))) (ea_cons (eAll rfl T.b_all (EE.be (ee_lc (own := [("item", 26)]) rfl sc_law.nd (bi_any (BE.ee (be_var 9))) (by kernel_rfl) (fun _ _ _ _ _ => (bg_name (i := 26) sc_law.nd)) (fun _ _ _ _ _ => bts_nil) (fun _ _ _ _ _ => (eEq (Room.units hr) (be_ix (be_var 26) (EE.be ee_int)) (EE.be ee_int))) (by decide)))) ea_nil)) rfl (alen_cons (alen_cons alen_nil)))))) (bw_or1 (bt_not (bt_tru (EE.be (ee_call (h__law_says T) (hr.mono (by omega)) (takes_of rfl rfl rfl rfl) (ea_cons (ee_call (h__law_ask T) (hr.mono (by omega)) (takes_of rfl rfl rfl rfl) (ea_cons ee_int (ea_cons (ee_tup (ea_cons (BE.ee (be_var 15)) ea_nil)) ea_nil)) rfl (alen_cons (alen_cons alen_nil))) (ea_cons (eAll rfl T.b_all (EE.be (ee_lc (own := [("item", 26)]) rfl sc_law.nd (bi_any (BE.ee (be_var 9))) (by kernel_rfl) (fun _ _ _ _ _ => (bg_name (i := 26) sc_law.nd)) (fun _ _ _ _ _ => bts_nil) (fun _ _ _ _ _ => (eGe (be_ix (be_var 26) (EE.be ee_int)) (EE.be ee_int))) (by decide)))) ea_nil)) rfl (alen_cons (alen_cons alen_nil))))))))) (bss_one (bs_ret (EE.be ee_bl))) bss_nil)
  (bss_cons (bs_set (i := 11) sc_law.nd (ee_call (h__law_table T) (hr.mono (by omega)) (takes_of rfl rfl rfl rfl) (ea_cons (BE.ee (be_var 1)) (ea_cons (eAdd (EE.be ee_int) (EE.be (ee_call (h__law_take T) (hr.mono (by omega)) (takes_of rfl rfl rfl rfl) (ea_cons (BE.ee (be_var 1)) (ea_cons ee_int ea_nil)) rfl (alen_cons (alen_cons alen_nil))))) ea_nil)) rfl (alen_cons (alen_cons alen_nil))))
  (bss_cons (bs_set (i := 12) sc_law.nd (ee_tuple T.b_tuple (EE.be (eAdd (EE.be (ee_lc (own := [("line", 10)]) rfl sc_law.nd (bi_any (BE.ee (be_var 15))) (by kernel_rfl) (fun _ _ _ _ _ => (bg_name (i := 10) sc_law.nd)) (fun _ _ _ _ _ => bts_nil) (fun _ _ _ _ _ => (eAdd (be_var 10) (EE.be (eMul (EE.be (ee_tup (ea_cons (ee_tup (ea_cons ee_int (ea_cons ee_int ea_nil))) ea_nil))) (EE.be (ee_len T.b_len (be_var 11))))))) (by decide))) (EE.be (ee_lc (own := [("line", 10)]) rfl sc_law.nd (bi_any (BE.ee (be_var 11))) (by kernel_rfl) (fun _ _ _ _ _ => (bg_name (i := 10) sc_law.nd)) (fun _ _ _ _ _ => bts_nil) (fun _ _ _ _ _ => (eAdd (EE.be (eMul (EE.be (ee_tup (ea_cons (ee_tup (ea_cons ee_int (ea_cons ee_int ea_nil))) ea_nil))) (be_var 2))) (be_var 10))) (by decide)))))))
  (bss_cons (bs_if (tNe (Room.units hr) (EE.be (ee_call (h__law_ask T) (hr.mono (by omega)) (takes_of rfl rfl rfl rfl) (ea_cons ee_int (ea_cons (ee_tup (ea_cons (BE.ee (be_var 15)) (ea_cons (BE.ee (be_var 11)) ea_nil))) ea_nil)) rfl (alen_cons (alen_cons alen_nil)))) (EE.be (ee_if (tLt (EE.be (eAdd (be_var 2) (EE.be (ee_len T.b_len (be_var 11))))) (EE.be ee_int)) (BE.ee (be_var 12)) ee_str))) (bss_one (bs_ret (EE.be ee_bl))) bss_nil)
  (bss_cons (bs_set (i := 13) sc_law.nd (ee_tup (ea_cons (ee_tup (ea_cons ee_int (ea_cons ee_int ea_nil))) ea_nil)))
  (bss_cons (bs_if (BW.bt (bw_or (tNe (Room.units hr) (EE.be (ee_call (h__law_ask T) (hr.mono (by omega)) (takes_of rfl rfl rfl rfl) (ea_cons ee_int (ea_cons (ee_tup (ea_cons (ee_tup (ea_cons (BE.ee (be_var 13)) ea_nil)) (ea_cons ee_int ea_nil))) ea_nil)) rfl (alen_cons (alen_cons alen_nil)))) (EE.be (ee_tup (ea_cons (ee_tup (ea_cons (ee_tup (ea_cons ee_int (ea_cons ee_int ea_nil))) ea_nil)) ea_nil)))) (bw_or1 (tNe (Room.units hr) (EE.be (ee_call (h__law_ask T) (hr.mono (by omega)) (takes_of rfl rfl rfl rfl) (ea_cons ee_int (ea_cons (ee_tup (ea_cons (ee_tup (ea_cons (BE.ee (be_var 13)) ea_nil)) (ea_cons ee_int ea_nil))) ea_nil)) rfl (alen_cons (alen_cons alen_nil)))) (EE.be ee_str))))) (bss_one (bs_ret (EE.be ee_bl))) bss_nil)
  (bss_cons (bs_set (i := 14) sc_law.nd (ee_lst (ea_cons (ee_tup (ea_cons ee_int (ea_cons (ee_tup (ea_cons (BE.ee (be_var 15)) (ea_cons (eAdd (be_var 15) (be_var 15)) ea_nil))) ea_nil))) (ea_cons (ee_tup (ea_cons ee_int (ea_cons (ee_tup (ea_cons (BE.ee (be_var 15)) (ea_cons ee_non ea_nil))) ea_nil))) (ea_cons (ee_tup (ea_cons ee_int (ea_cons (ee_tup (ea_cons (BE.ee (be_var 15)) (ea_cons (ee_tup (ea_cons (ee_tup (ea_cons (BE.ee (be_var 3)) ea_nil)) ea_nil)) ea_nil))) ea_nil))) (ea_cons (ee_tup (ea_cons ee_int (ea_cons (ee_tup (ea_cons (BE.ee (be_var 15)) (ea_cons ee_int ea_nil))) ea_nil))) (ea_cons (ee_tup (ea_cons ee_int (ea_cons (ee_tup (ea_cons (BE.ee (be_var 15)) (ea_cons (ee_tup (ea_cons ee_int (ea_cons ee_int ea_nil))) ea_nil))) ea_nil))) (ea_cons (ee_tup (ea_cons ee_int (ea_cons (ee_tup (ea_cons (BE.ee (be_var 15)) (ea_cons (eSub (EE.be ee_int) (EE.be ee_int)) ea_nil))) ea_nil))) (ea_cons (ee_tup (ea_cons ee_int (ea_cons (ee_tup (ea_cons (BE.ee (be_var 15)) (ea_cons ee_bl ea_nil))) ea_nil))) ea_nil)))))))))
  (bss_cons (bs_set (i := 14) sc_law.nd (eAdd (be_var 14) (EE.be (ee_lst (ea_cons (ee_tup (ea_cons ee_int (ea_cons (ee_tup (ea_cons (BE.ee (be_var 15)) (ea_cons (eAdd (be_var 3) (be_var 3)) ea_nil))) ea_nil))) (ea_cons (ee_tup (ea_cons ee_int (ea_cons (ee_tup (ea_cons (BE.ee (be_var 15)) (ea_cons ee_non ea_nil))) ea_nil))) (ea_cons (ee_tup (ea_cons ee_int (ea_cons (ee_tup (ea_cons (ee_tup ea_nil) ea_nil)) ea_nil))) (ea_cons (ee_tup (ea_cons ee_int (ea_cons (ee_tup (ea_cons (eMul (be_var 3) (EE.be ee_int)) ea_nil)) ea_nil))) (ea_cons (ee_tup (ea_cons ee_int (ea_cons (ee_tup (ea_cons ee_non ea_nil)) ea_nil))) ea_nil)))))))))
  (bss_cons (bs_set (i := 14) sc_law.nd (eAdd (be_var 14) (EE.be (ee_lst (ea_cons (ee_tup (ea_cons ee_int (ea_cons (ee_tup (ea_cons ee_int ea_nil)) ea_nil))) (ea_cons (ee_tup (ea_cons ee_int (ea_cons (ee_tup (ea_cons ee_int ea_nil)) ea_nil))) (ea_cons (ee_tup (ea_cons ee_int (ea_cons (ee_tup (ea_cons ee_bl ea_nil)) ea_nil))) (ea_cons (ee_tup (ea_cons ee_int (ea_cons (ee_tup (ea_cons (BE.ee (be_var 15)) (ea_cons ee_non ea_nil))) ea_nil))) ea_nil))))))))
  (bss_one (bs_ret (EE.be (ee_and (EE.be (ee_call (h__law_numbers T) (hr.mono (by omega)) (takes_of rfl rfl rfl rfl) (ea_cons (BE.ee (be_var 1)) ea_nil) rfl (alen_cons alen_nil))) (ee_one (eAll rfl T.b_all (EE.be (ee_lc (own := [("which", 24), ("args", 25)]) rfl sc_law.nd (bi_any (BE.ee (be_var 14))) (by kernel_rfl) (fun _ _ _ _ _ => (bg_tup rfl (bgs_cons (bg_name (i := 24) sc_law.nd) (bgs_cons (bg_name (i := 25) sc_law.nd) bgs_nil)))) (fun _ _ _ _ _ => bts_nil) (fun _ _ _ _ _ => (eEq (Room.units hr) (EE.be (ee_call (h__law_ask T) (hr.mono (by omega)) takes0 (ea_cons (BE.ee (be_var 24)) (ea_cons (BE.ee (be_var 25)) ea_nil)) rfl (alen_cons (alen_cons alen_nil)))) (EE.be ee_str))) (by decide))))))))))))))))))))))))))))))))))))
end
/-! M01a -/
/-! ### numbers -/
theorem e_common (a b : Int) (dr : Dr) : f_common [.int a, .int b] dr = .ok (.int (Int.gcd a b)) dr := by
  refine fnD_rt ?_
  have loop := gcd_loop (st := fun a b => [some (.int a), some (.int b)]) (T := (cTst (cBin gNe (cVar 1) (cK (.int 0))))) (B := cPar2 0 1 (cCons (cFrz (cVar 1)) (cCons (cBin gMod (cVar 0) (cVar 1)) cNil))) (fun a b dr => by simp) (fun a b dr hb => by
    simp [gmod_nat hb]) (b.natAbs + 1) a.natAbs b.natAbs dr (Nat.lt_succ_self _)
  simp [m_common, cWhile, fuelAbs, abs_nat, loop]
  rfl
theorem e_lowest {n d : Int} {N : Nat} (h0 : d ≠ 0) (hd : d.natAbs < 2 ^ N) (hN : N ≤ 9000) (dr : Dr) : f_lowest [.int n, .int d] dr = .ok (qD (Rat.divInt n d)) dr := by
  refine fnD_rt ?_
  obtain ⟨k1, k2⟩ := low_div (n := n) h0 hd hN
  by_cases h : d < 0
  · have e : -(Int.gcd n d : Int) = d.sign * (Int.gcd n d : Int) := by rw [Int.sign_eq_neg_one_of_neg h]; omega
    simp [m_lowest, e_common, h, e, k1, k2, qD]
  · have e : (Int.gcd n d : Int) = d.sign * (Int.gcd n d : Int) := by rw [Int.sign_eq_one_of_pos (by omega)]; omega
    rw [← e] at k1 k2
    simp [m_lowest, e_common, h, k1, k2, qD]
theorem e_plus {a b : Rat} {N M : Nat} (ha : Sm N a) (hb : Sm M b) (h : N + M ≤ 9000) (dr : Dr) : f_plus [qD a, qD b] dr = .ok (qD (a + b)) dr := by
  refine fnD_rt ?_
  have l1 := lg ha.n ha.pos
  have l2 := lg ha.d ha.pos
  have l3 := lg hb.n hb.pos
  have l4 := lg hb.d hb.pos
  have lo := fun dr => e_lowest (n := a.num * b.den + b.num * a.den) (d := a.den * b.den) (denmul_ne a b) (mulBits ha.den hb.den) h dr
  rw [← add_divInt] at lo
  simp [m_plus, qD, gmul_int (show a.num.natAbs.log2 + ((b.den : Int)).natAbs.log2 < 1000000 from by rw [Int.natAbs_natCast]; omega), gmul_int (show b.num.natAbs.log2 + ((a.den : Int)).natAbs.log2 < 1000000 from by rw [Int.natAbs_natCast]; omega),
    gmul_int (show ((a.den : Int)).natAbs.log2 + ((b.den : Int)).natAbs.log2 < 1000000 from by rw [Int.natAbs_natCast, Int.natAbs_natCast]; omega), lo]
theorem e_times {a b : Rat} {N M : Nat} (ha : Sm N a) (hb : Sm M b) (h : N + M ≤ 9000) (dr : Dr) : f_times [qD a, qD b] dr = .ok (qD (a * b)) dr := by
  refine fnD_rt ?_
  have l1 := lg ha.n ha.pos
  have l2 := lg ha.d ha.pos
  have l3 := lg hb.n hb.pos
  have l4 := lg hb.d hb.pos
  have lo := fun dr => e_lowest (n := a.num * b.num) (d := a.den * b.den) (denmul_ne a b) (mulBits ha.den hb.den) h dr
  rw [← mul_divInt] at lo
  simp [m_times, qD, gmul_int (show a.num.natAbs.log2 + b.num.natAbs.log2 < 1000000 from by omega),
    gmul_int (show ((a.den : Int)).natAbs.log2 + ((b.den : Int)).natAbs.log2 < 1000000 from by rw [Int.natAbs_natCast, Int.natAbs_natCast]; omega), lo]
/-! M01b -/
/-! ### the law's own fractions -/
theorem e__law_low {n d : Int} {N : Nat} (h0 : 0 < d) (hd : d.natAbs < 2 ^ N) (hN : N ≤ 9000) (dr : Dr) : f__law_low [.int n, .int d] dr = .ok (qD (Rat.divInt n d)) dr := by
  refine fnD_rt ?_
  obtain ⟨k1, k2⟩ := low_div (n := n) (d := d) (by omega) hd hN
  have loop := gcd_loop (st := fun a b => [some (.int n), some (.int d), some (.int a), some (.int b)]) (T := (cTst (cBin gNe (cVar 3) (cK (.int 0))))) (B := cPar2 2 3 (cCons (cFrz (cVar 3)) (cCons (cBin gMod (cVar 2) (cVar 3)) cNil))) (fun a b dr => by simp) (fun a b dr hb => by
    simp [gmod_nat hb]) (d.natAbs + 1) n.natAbs d.natAbs dr (Nat.lt_succ_self _)
  have loop : whG (cTst (cBin gNe (cVar 3) (cK (.int 0)))) (cPar2 2 3 (cCons (cFrz (cVar 3)) (cCons (cBin gMod (cVar 2) (cVar 3)) cNil))) (d.natAbs + 1) [some (.int n), some (.int d), some (.int (n.natAbs : Int)), some (.int d)] dr = .nx [some (.int n), some (.int d), some (.int (Int.gcd n d : Int)), some (.int 0)] dr := by
    have e : ((d.natAbs : Nat) : Int) = d := by omega
    rw [e] at loop
    exact loop
  have e : (Int.gcd n d : Int) = d.sign * (Int.gcd n d : Int) := by rw [Int.sign_eq_one_of_pos h0]; omega
  rw [← e] at k1 k2
  simp [m__law_low, cWhile, fuelAbs, abs_nat, loop, k1, k2, qD]
theorem denmul_pos (a b : Rat) : (0 : Int) < (a.den : Int) * b.den := Int.mul_pos (by have := a.den_pos; omega) (by have := b.den_pos; omega)
theorem e__law_plus {a b : Rat} {N M : Nat} (ha : Sm N a) (hb : Sm M b) (h : N + M ≤ 9000) (dr : Dr) : f__law_plus [qD a, qD b] dr = .ok (qD (a + b)) dr := by
  refine fnD_rt ?_
  have l1 := lg ha.n ha.pos
  have l2 := lg ha.d ha.pos
  have l3 := lg hb.n hb.pos
  have l4 := lg hb.d hb.pos
  have lo := fun dr => e__law_low (n := a.num * b.den + b.num * a.den) (d := a.den * b.den) (denmul_pos a b) (mulBits ha.den hb.den) h dr
  rw [← add_divInt] at lo
  simp [m__law_plus, qD, gmul_int (show a.num.natAbs.log2 + ((b.den : Int)).natAbs.log2 < 1000000 from by rw [Int.natAbs_natCast]; omega), gmul_int (show b.num.natAbs.log2 + ((a.den : Int)).natAbs.log2 < 1000000 from by rw [Int.natAbs_natCast]; omega),
    gmul_int (show ((a.den : Int)).natAbs.log2 + ((b.den : Int)).natAbs.log2 < 1000000 from by rw [Int.natAbs_natCast, Int.natAbs_natCast]; omega), lo]
theorem sub_divInt' (a b : Rat) : a - b = Rat.divInt (a.num * b.den - b.num * a.den) (a.den * b.den : Int) := by
  rw [Rat.sub_eq_add_neg, add_divInt, Rat.neg_num, Rat.neg_den, Int.neg_mul, Int.sub_eq_add_neg]
theorem e__law_minus {a b : Rat} {N M : Nat} (ha : Sm N a) (hb : Sm M b) (h : N + M ≤ 9000) (dr : Dr) : f__law_minus [qD a, qD b] dr = .ok (qD (a - b)) dr := by
  refine fnD_rt ?_
  have l1 := lg ha.n ha.pos
  have l2 := lg ha.d ha.pos
  have l3 := lg hb.n hb.pos
  have l4 := lg hb.d hb.pos
  have lo := fun dr => e__law_low (n := a.num * b.den - b.num * a.den) (d := a.den * b.den) (denmul_pos a b) (mulBits ha.den hb.den) h dr
  rw [← sub_divInt'] at lo
  simp [m__law_minus, qD, gmul_int (show a.num.natAbs.log2 + ((b.den : Int)).natAbs.log2 < 1000000 from by rw [Int.natAbs_natCast]; omega), gmul_int (show b.num.natAbs.log2 + ((a.den : Int)).natAbs.log2 < 1000000 from by rw [Int.natAbs_natCast]; omega),
    gmul_int (show ((a.den : Int)).natAbs.log2 + ((b.den : Int)).natAbs.log2 < 1000000 from by rw [Int.natAbs_natCast, Int.natAbs_natCast]; omega), lo]
theorem _root_.DL.Sm.sub {N M : Nat} {a b : Rat} (h : Sm N a) (k : Sm M b) : Sm (N + M + 1) (a - b) := by
  rw [Rat.sub_eq_add_neg]
  exact h.add k.neg
theorem e__law_times {a b : Rat} {N M : Nat} (ha : Sm N a) (hb : Sm M b) (h : N + M ≤ 9000) (dr : Dr) : f__law_times [qD a, qD b] dr = .ok (qD (a * b)) dr := by
  refine fnD_rt ?_
  have l1 := lg ha.n ha.pos
  have l2 := lg ha.d ha.pos
  have l3 := lg hb.n hb.pos
  have l4 := lg hb.d hb.pos
  have lo := fun dr => e__law_low (n := a.num * b.num) (d := a.den * b.den) (denmul_pos a b) (mulBits ha.den hb.den) h dr
  rw [← mul_divInt] at lo
  simp [m__law_times, qD, gmul_int (show a.num.natAbs.log2 + b.num.natAbs.log2 < 1000000 from by omega),
    gmul_int (show ((a.den : Int)).natAbs.log2 + ((b.den : Int)).natAbs.log2 < 1000000 from by rw [Int.natAbs_natCast, Int.natAbs_natCast]; omega), lo]
/-- a sum; b: bits of what is summed up so far -/
theorem sm_sumL {ι : Type} {N : Nat} (f : ι → Rat) : ∀ (I : List ι), (∀ i ∈ I, Sm N (f i)) → Sm (I.length * (N + 1) + 1) (sumL I f)
  | [], _ => by
    rw [sumL_nil]
    exact sm0.mono (by omega)
  | i :: I, h => by
    rw [sumL_cons]
    have h1 := h i List.mem_cons_self
    have h2 := sm_sumL f I fun j hj => h j (List.mem_cons_of_mem _ hj)
    refine (h1.add h2).mono ?_
    rw [List.length_cons, Nat.add_mul]
    omega
theorem fold_sumL {ι : Type} (f : ι → Rat) : ∀ (I : List ι) (s : Rat × Option D), (I.foldl (fun s i => (s.1 + f i, some (qD (f i)))) s).1 = s.1 + sumL I f
  | [], s => by rw [List.foldl_nil, sumL_nil, Rat.add_zero]
  | i :: I, s => by rw [List.foldl_cons, fold_sumL f I, sumL_cons, Rat.add_assoc]
theorem e__law_sum {ι : Type} {I : List ι} {f : ι → Rat} {N : Nat} (h : ∀ i ∈ I, Sm N (f i)) (hb : I.length * (N + 1) + N + 1 ≤ 9000) (dr : Dr) : f__law_sum [.lst false (I.map fun i => qD (f i))] dr = .ok (qD (sumL I f)) dr := by
  refine fnD_rt ?_
  have loop := forG_fold (ys := I) (e := fun i => qD (f i)) (G := gNm 2) (B := cSet 1 (cCall f__law_plus (cCons (cFrz (cVar 1)) (cCons (cFrz (cVar 2)) cNil)))) (dr := dr) (σ := Rat × Option D)
    (st := fun s => [some (.lst false (I.map fun i => qD (f i))), some (qD s.1), s.2]) (step := fun s i => (s.1 + f i, some (qD (f i)))) (P := fun ys s => (∀ i ∈ ys, Sm N (f i)) ∧ ys.length ≤ I.length ∧ Sm ((I.length - ys.length) * (N + 1) + 1) s.1) (fun s y ys ⟨p1, p2, p3⟩ => by
      have q1 := p1 y List.mem_cons_self
      rw [List.length_cons] at p2 p3
      have e1 : I.length - ys.length = (I.length - (ys.length + 1)) + 1 := by omega
      have b1 : (I.length - (ys.length + 1)) * (N + 1) ≤ I.length * (N + 1) := Nat.mul_le_mul_right _ (Nat.sub_le ..)
      refine ⟨⟨fun i hi => p1 i (List.mem_cons_of_mem _ hi), by omega, ?_⟩, _, rfl, ?_⟩
      · rw [e1, Nat.add_mul]
        exact (p3.add q1).mono (by omega)
      · simp [e__law_plus p3 q1 (by omega)]) (s := (0, none)) ⟨h, Nat.le_refl _, by rw [Nat.sub_self, Nat.zero_mul, Nat.zero_add]; exact sm0⟩
  have loop := loop.1
  simp only [show qD ((0 : Rat), (none : Option D)).1 = .tup [.int 0, .int 1] from rfl] at loop
  simp [m__law_sum, s_for, fzs_qD, loop, fold_sumL, Rat.zero_add]
/-! M01c -/
theorem range_get {ι : Type} (J : List ι) (g : Option ι → D) : (List.range J.length).map (fun k => g J[k]?) = J.map fun j => g (some j) := by
  refine List.ext_getElem (by simp) fun k h1 h2 => ?_
  simp only [List.getElem_map, List.getElem_range]
  rw [List.getElem?_eq_getElem (by simpa using h2)]
/-- an item, if there is one -/
def oD {κ : Type} (f : κ → D) (o : Option κ) : D := (o.map f).getD .non
@[simp] theorem oD_frz {κ : Type} (f : κ → D) (o : Option κ) (h : ∀ j, (f j).frz = true) : (oD f o).frz = true := by
  cases o with
  | none => rfl
  | some j => exact h j
theorem ix_row {ι : Type} (J : List ι) (r : ι → Rat) (k : Nat) (h : k < J.length) : gIx (rowL J r) (.int (k : Int)) = some (oD (fun j => qD (r j)) J[k]?) := by
  show atI (J.map fun j => qD (r j)) (k : Int) = _
  refine atI_nat ?_
  rw [List.getElem?_map, List.getElem?_eq_getElem h]
  rfl
/-! M01j -/
set_option maxHeartbeats 4000000
local macro_rules | `(tactic| walk_at "isi") => `(tactic| first | with_reducible exact isi_non_int | with_reducible exact isi_non_bool | with_reducible exact isi_non_str | with_reducible exact isi_non_tuple | with_reducible exact isi_non_list | with_reducible exact isi_bl_int | with_reducible exact isi_bl_bool | with_reducible exact isi_bl_str | with_reducible exact isi_bl_tuple | with_reducible exact isi_bl_list | with_reducible exact isi_int_int | with_reducible exact isi_int_bool | with_reducible exact isi_int_str | with_reducible exact isi_int_tuple | with_reducible exact isi_int_list | with_reducible exact isi_str_int | with_reducible exact isi_str_bool | with_reducible exact isi_str_str | with_reducible exact isi_str_tuple | with_reducible exact isi_str_list | with_reducible exact isi_tup_int | with_reducible exact isi_tup_bool | with_reducible exact isi_tup_str | with_reducible exact isi_tup_tuple | with_reducible exact isi_tup_list | with_reducible exact isi_lst_int | with_reducible exact isi_lst_bool | with_reducible exact isi_lst_str | with_reducible exact isi_lst_tuple | with_reducible exact isi_lst_list | with_reducible exact isi_qD_tuple | with_reducible exact isi_row_tuple | with_reducible exact isi_tab_tuple)
local macro_rules | `(tactic| walk_at "set") => `(tactic| first | with_reducible exact List.set_cons_zero | ((with_reducible refine' set_s ?h1); (case h1 => walk_at "set")))
local macro_rules | `(tactic| walk_at "fz") => `(tactic| first | with_reducible assumption | with_reducible exact fzs_nil | ((with_reducible refine' fzs_c ?h1 ?h2); (case h1 => walk_at "fz"); (case h2 => walk_at "fz")) | with_reducible exact fz_int | with_reducible exact fz_qD _ | with_reducible exact fz_row _ _ | with_reducible exact fz_tab _ _ _ | with_reducible exact fz_lstZ _ _ _ _ | with_reducible exact fz_lstQ _ _ _ | with_reducible exact fz_bl | with_reducible exact fz_non | with_reducible exact fz_dr | with_reducible exact fz_str | with_reducible exact fz_tup | ((with_reducible refine' fz_lstm ?h1); (case h1 => exact fun _ => rfl)) | ((with_reducible refine' fz_lst' ?h1); (case h1 => walk_at "fz")) | assumption | ((with_reducible refine' fzs_frz _ _ ?h1); (case h1 => exact fun _ => rfl)) | with_unfolding_all exact rfl)
local macro_rules | `(tactic| walk_at "wipe") => `(tactic| first | with_reducible exact wipe_nil | ((with_reducible refine' wipe_c ?h1 ?h2); (case h1 => walk_at "wipe"); (case h2 => walk_at "set")))
local macro_rules | `(tactic| walk_at "tg") => `(tactic| first | ((with_reducible refine' g_nm' ?h1); (case h1 => walk_at "set")) | ((refine' g_tp ?h1 ?h2); (case h1 => exact rfl); (case h2 => walk_at "tg")) | with_reducible exact gs_nil | ((with_reducible refine' gs_cons ?h1 ?h2); (case h1 => walk_at "tg"); (case h2 => walk_at "tg")))
local macro_rules | `(tactic| walk_at "small") => `(tactic| first | exact len_ok (Nat.le_of_ble_eq_true rfl) | exact len_ok (by simp only [List.length_map, List.length_range, List.length_cons, List.length_nil, List.length_append]; omega) | exact len_lt (by simp only [List.length_map, List.length_range, List.length_cons, List.length_nil, List.length_append]; omega))
local macro_rules | `(tactic| walk_at "op") => `(tactic| (first | ((with_reducible refine gIx' ?_); (first | with_reducible refine ow_num ?_ | with_reducible refine ow_den ?_ | ((with_reducible refine' ow_ixtab ?h1 ?_); (case h1 => omega)) | ((with_reducible refine' ow_ixrow ?h1 ?_); (case h1 => omega)) | ((with_reducible refine' ow_ixQ ?h1 ?_); (case h1 => omega)) | ((with_reducible refine' ow_ixZ ?h1 ?_); (case h1 => omega)) | ((with_reducible refine' ow_ixlst ?h1 ?_); (case h1 => omega)) | ((with_reducible refine' ow_ixtup ?h1 ?_); (case h1 => omega)) | ((with_reducible refine' ow_ixlst0 ?h1 ?_); (case h1 => omega)) | ((with_reducible refine' ow_ixtup0 ?h1 ?_); (case h1 => omega)) | with_reducible refine ow ix_0 ?_ | with_reducible refine ow ix_1 ?_ | ((with_reducible refine' ow_ixL ?h1 ?_); (case h1 => exact rfl)) | ((with_reducible refine' ow_ixT ?h1 ?_); (case h1 => exact rfl)) | ((with_reducible refine' ow ?h1 ?_); (case h1 => with_reducible assumption)))) | ((with_reducible refine gLen' ?_); (first | with_reducible refine ow_lentabR ?_ | with_reducible refine ow_lenrowR ?_ | with_reducible refine ow_lentab ?_ | with_reducible refine ow_lenrow ?_ | with_reducible refine ow_lenQ ?_ | with_reducible refine ow_lenZ ?_ | with_reducible refine ow_lenlstR ?_ | with_reducible refine ow_lenlst ?_ | with_reducible refine ow_lentup ?_ | with_reducible refine ow_lenT ?_ | with_reducible refine ow_lenL ?_ | ((with_reducible refine' ow ?h1 ?_); (case h1 => with_reducible assumption)))) | ((with_reducible refine gO1 ?_); (first | with_reducible refine ow_tupQ ?_ | ((with_reducible refine' ow_tuple ?h1 ?_); (case h1 => exact fun _ => rfl)) | ((with_reducible refine' ow_list ?h1 ?_); (case h1 => exact fun _ => rfl)) | with_reducible refine ow_listT ?_ | with_reducible refine ow_all ?_ | with_reducible refine ow_any ?_ | with_reducible refine ow_sum ?_ | with_reducible refine ow gabs_int ?_ | with_reducible refine ow gint_int ?_ | with_reducible refine ow gint_bl ?_ | ((with_reducible refine' ow ?h1 ?_); (case h1 => with_reducible assumption)))) | ((with_reducible refine gO2 ?_); (first | with_reducible refine ow gadd_int ?_ | with_reducible refine ow gsub_int ?_ | with_reducible refine ow gaddI_int ?_ | with_reducible refine ow geq_int ?_ | with_reducible refine ow gne_int ?_ | with_reducible refine ow glt_int ?_ | with_reducible refine ow gle_int ?_ | with_reducible refine ow ggt_int ?_ | with_reducible refine ow gge_int ?_ | ((with_reducible refine' ow ?h1 ?_); (case h1 => with_reducible assumption)))) | ((with_reducible refine' ow_isi ?h1 ?_); (case h1 => walk_at "isi")) | with_reducible refine ow_revQ ?_ | with_reducible refine ow_revR ?_ | ((with_reducible refine' ow ?h1 ?_); (case h1 => with_reducible assumption))))
local macro_rules | `(tactic| walk_at "fn") => `(tactic| first | ((with_reducible refine' ew_eq ?h1 ?_); (case h1 => with_reducible assumption)) | ((with_reducible refine' ew_eqx ?h1 ?_); (case h1 => with_reducible assumption)))
local macro_rules | `(tactic| walk_at "ev1") => `(tactic| (first | ((with_reducible refine gEW ?_); (first | ((with_reducible refine' ew_var ?h1 ?_); (case h1 => exact rfl)) | with_reducible refine ew_frz ?_ | with_reducible refine ew_k ?_ | with_reducible refine ew_bin ?_ | with_reducible refine ew_call ?_ | with_reducible refine ew_callE ?_ | with_reducible refine ew_cons ?_ | with_reducible refine ew_nil ?_ | with_reducible refine ew_tst ?_ | with_reducible refine ew_tru ?_ | with_reducible refine ew_yes ?_ | with_reducible refine ew_and ?_ | with_reducible refine ew_or ?_ | with_reducible refine ew_notT ?_ | with_reducible refine ew_not ?_ | with_reducible refine ew_if ?_ | with_reducible refine ew_andV ?_ | with_reducible refine ew_orV ?_ | with_reducible refine ew_chain ?_ | with_reducible refine ew_neg ?_ | with_reducible refine ew_tup ?_ | with_reducible refine ew_lst ?_ | with_reducible refine ew_b ?_ | with_reducible refine ew_isi ?_ | with_reducible refine ew_lc ?_ | with_reducible refine ew_lc2 ?_ | with_reducible refine iw_any ?_ | with_reducible refine iw_rg1 ?_ | with_reducible refine iw_rg2 ?_ | with_reducible refine iw_zip ?_ | with_reducible refine ew_sl ?_ | with_reducible refine ew_part ?_ | with_reducible refine ew_nopart ?_ | with_reducible refine ew_rev ?_ | with_reducible refine ew_lrg1 ?_ | (walk_at "fn"))) | ((with_reducible refine gSW ?_); (first | with_reducible refine sw_seq ?_ | with_reducible refine sw_set ?_ | with_reducible refine sw_setO ?_ | with_reducible refine sw_ret ?_ | with_reducible refine sw_skip ?_ | with_reducible refine sw_if ?_ | with_reducible refine sw_drop ?_ | ((with_reducible refine' sw_fz ?h1 ?_); (case h1 => exact rfl)) | with_reducible refine sw_retN ?_ | with_reducible refine sw_raise ?_ | with_reducible refine sw_par2 ?_ | with_reducible refine sw_par3 ?_ | with_reducible refine sw_parN (by decide) ?_ | ((with_reducible refine' sw_app ?h1 ?_); (case h1 => exact rfl)) | with_reducible refine sw_asg ?_ | with_reducible refine sw_try ?_ | with_reducible refine sw_bk ?_ | with_reducible refine sw_ct ?_)) | ((with_reducible refine gOW ?_); (walk_at "op")) | ((with_reducible refine gAnd ?_); (first | with_reducible refine And.intro (by with_unfolding_all exact rfl) ?_ | with_reducible refine And.intro (by assumption) ?_ | with_reducible refine And.intro (by walk_at "small") ?_)) | ((with_reducible refine gIf ?_); (first | with_reducible refine ifw_t ?_ | with_reducible refine ifw_f ?_ | with_reducible refine ifw_n ?_)) | with_reducible refine sq_nx ?_ | with_reducible refine fq_rt ?_ | with_reducible refine lq_nx ?_ | with_reducible refine fq_nx ?_ | with_reducible refine fq_ex ?_ | with_reducible refine sq_rt ?_ | with_reducible refine sq_ex ?_ | with_reducible refine lq_rt ?_ | with_reducible refine lq_ct ?_ | with_reducible refine lq_bk ?_ | with_reducible refine lq_ex ?_ | with_reducible refine tq_rt ?_ | with_reducible refine tq_nx ?_ | ((with_reducible refine' fzl ?h1 ?_); (case h1 => walk_at "fz")) | ((with_reducible refine' fzd ?h1 ?_); (case h1 => walk_at "fz")) | ((with_reducible refine' stw ?h1 ?_); (case h1 => walk_at "set")) | ((with_reducible refine' wpw ?h1 ?_); (case h1 => walk_at "wipe")) | ((with_reducible refine' tgw ?h1 ?_); (case h1 => walk_at "tg")) | ((with_reducible refine' trw ?h1 ?_); (case h1 => exact rfl)) | with_reducible refine tb_bl ?_ | ((with_reducible refine' callw ?h1 ?_); (case h1 => exact rfl)) | ((with_reducible refine' tq_ex ?h1 ?_); (case h1 => exact rfl)) | with_reducible refine int_w ?_ | with_reducible refine it_tup ?_ | with_reducible refine it_tab ?_ | with_reducible refine it_row ?_ | with_reducible refine it_lstQ ?_ | ((with_reducible refine' it_lst ?h1 ?_); (case h1 => walk_at "fz")) | with_reducible refine p2 ?_ | with_reducible refine p3 ?_ | with_reducible refine setw_cons ?_ | with_reducible refine setw_nil ?_ | ((with_reducible refine' rgw_n ?h1 ?_); (case h1 => omega)) | with_reducible refine zpw_rr ?_ | ((with_reducible refine' zpw_ll ?h1 ?h2 ?_); (case h1 => walk_at "fz"); (case h2 => walk_at "fz"))))
local macro_rules | `(tactic| walk_at "ev") => `(tactic| repeat' walk_at "ev1")
theorem e_is_whole {d : D} (h : d.cl = true) (dr : Dr) : f_is_whole [d] dr = .ok (.bl d.isW) dr := by
  cases d
  case fn => cases h
  case dr => cases h
  all_goals
    refine ew_of ?_
    unfold f_is_whole
    with_reducible refine fw1 ?_
    simp only [List.reduceReplicate]
    unfold m_is_whole
    walk_at "ev"
    rfl
theorem isQ_0 : (D.tup []).isQ = false := rfl
theorem isQ_1 (x : D) : (D.tup [x]).isQ = false := by cases x <;> rfl
theorem isQ_3 (x y z : D) (t : List D) : (D.tup (x :: y :: z :: t)).isQ = false := by cases x <;> cases y <;> rfl
theorem isQ_w {x y : D} (h : (x.isW && y.isW) = false) : (D.tup [x, y]).isQ = false := by cases x <;> cases y <;> first | rfl | cases h
theorem e_is_ratio {d : D} (h : d.cl = true) (dr : Dr) : f_is_ratio [d] dr = .ok (.bl d.isQ) dr := by
  cases d
  case fn => cases h
  case dr => cases h
  case tup xs =>
    have hx := cls_mem (xs := xs) h
    match xs, hx with
    | [], _ =>
      refine ew_of ?_
      unfold f_is_ratio
      with_reducible refine fw1 ?_
      simp only [List.reduceReplicate]
      unfold m_is_ratio
      walk_at "ev"
      with_reducible refine ifw_b (fun h => ?_) (fun h => ?_)
      · exact absurd h (by decide)
      · walk_at "ev"
        rfl
    | [x], _ =>
      refine ew_of ?_
      unfold f_is_ratio
      with_reducible refine fw1 ?_
      simp only [List.reduceReplicate]
      unfold m_is_ratio
      walk_at "ev"
      with_reducible refine ifw_b (fun h => ?_) (fun h => ?_)
      · exact absurd h (by simp)
      · walk_at "ev"
        rw [isQ_1]
    | x :: y :: z :: t, _ =>
      refine ew_of ?_
      unfold f_is_ratio
      with_reducible refine fw1 ?_
      simp only [List.reduceReplicate]
      unfold m_is_ratio
      walk_at "ev"
      with_reducible refine ifw_b (fun h => ?_) (fun h => ?_)
      · exfalso
        simp only [List.length_cons] at h
        omega
      · walk_at "ev"
        rw [isQ_3]
    | [x, y], hx =>
      have c1 := hx x List.mem_cons_self
      have c2 := hx y (List.mem_cons_of_mem _ List.mem_cons_self)
      have h1 := e_is_whole c1 dr
      have h2 := e_is_whole c2 dr
      have z1 := fz_cl x c1
      have z2 := fz_cl y c2
      have r1 := frz_cl c1
      have r2 := frz_cl c2
      refine ew_of ?_
      unfold f_is_ratio
      with_reducible refine fw1 ?_
      simp only [List.reduceReplicate]
      unfold m_is_ratio
      walk_at "ev"
      with_reducible refine ifw_b (fun h => ?_) (fun h => absurd rfl h)
      walk_at "ev"
      with_reducible refine ifw (fun h => ?_) (fun h => ?_)
      · walk_at "ev"
        with_reducible refine ifw (fun h' => ?_) (fun h' => ?_)
        · obtain ⟨a, rfl⟩ : ∃ a, x = .int a := by cases x <;> first | exact ⟨_, rfl⟩ | cases h
          obtain ⟨b, rfl⟩ : ∃ a, y = .int a := by cases y <;> first | exact ⟨_, rfl⟩ | cases h'
          have hc := e_common a b dr
          walk_at "ev"
          with_reducible refine ifw_d (fun p => ?_) (fun p => ?_)
          · walk_at "ev"
            show DL.R.ok (D.bl _) dr = .ok (.bl (decide (0 < b) && (Int.gcd a b == 1))) dr
            rw [decide_eq_true p]
            congr 2
            rw [Bool.eq_iff_iff]
            simp
            omega
          · walk_at "ev"
            show _ = DL.R.ok (D.bl (decide (0 < b) && (Int.gcd a b == 1))) dr
            rw [decide_eq_false p]
            rfl
        · walk_at "ev"
          rw [isQ_w (by rw [h']; exact Bool.and_false _)]
      · walk_at "ev"
        rw [isQ_w (by rw [h]; rfl)]
  all_goals
    refine ew_of ?_
    unfold f_is_ratio
    with_reducible refine fw1 ?_
    simp only [List.reduceReplicate]
    unfold m_is_ratio
    walk_at "ev"
    rfl
theorem e_has_shape {d : D} (h : d.cl = true) (n : Int) (dr : Dr) : f_has_shape [d, .int n] dr = .ok (.bl (match d with | .tup xs => (xs.length : Int) == n | _ => false)) dr := by
  cases d
  case fn => cases h
  case dr => cases h
  all_goals
    refine ew_of ?_
    unfold f_has_shape
    with_reducible refine fw2 ?_
    simp only [List.reduceReplicate]
    unfold m_has_shape
    walk_at "ev"
    rfl
theorem e_is_row {d : D} (h : d.cl = true) {n : Int} (hl : ∀ xs, d = .tup xs → xs.length ≤ 1000) (dr : Dr) : f_is_row [.int n, d] dr = .ok (.bl (isRow n d)) dr := by
  have hs := e_has_shape h n dr
  have z := fz_cl d h
  have r := frz_cl h
  refine ew_of ?_
  unfold f_is_row
  with_reducible refine fw2 ?_
  simp only [List.reduceReplicate]
  unfold m_is_row
  walk_at "ev"
  cases d
  case tup xs =>
    have l := hl xs rfl
    have hx := cls_mem (xs := xs) h
    with_reducible refine ifw_b (fun h => ?_) (fun h => ?_)
    · walk_at "ev"
      with_reducible refine lcw_all (fun x => x) (fun x => .bl x.isQ) xs (by simp) (len_ok l) (by walk_at "wipe") (fun x hm => ?_) ?_
      · have e := e_is_ratio (hx x hm) dr
        have z := fz_cl x (hx x hm)
        have r := frz_cl (hx x hm)
        walk_at "ev"
        rfl
      · walk_at "ev"
        show _ = DL.R.ok (D.bl (((xs.length : Int) == n) && xs.all D.isQ)) dr
        rw [h]
        simp
    · walk_at "ev"
      show _ = DL.R.ok (D.bl (((xs.length : Int) == n) && xs.all D.isQ)) dr
      simp [h]
  all_goals
    walk_at "ev"
    rfl
/-! M01k -/
/-- not too wide: tuples of tuples -/
def wide2 (d : D) : Prop := ∀ xs, d = .tup xs → xs.length ≤ 1000 ∧ ∀ x ∈ xs, ∀ ys, x = .tup ys → ys.length ≤ 1000
theorem e_is_square {d : D} (h : d.cl = true) {n : Int} (hl : wide2 d) (dr : Dr) : f_is_square [.int n, d] dr = .ok (.bl (isSq n d)) dr := by
  have hs := e_has_shape h n dr
  have z := fz_cl d h
  have r := frz_cl h
  refine ew_of ?_
  unfold f_is_square
  with_reducible refine fw2 ?_
  simp only [List.reduceReplicate]
  unfold m_is_square
  walk_at "ev"
  cases d
  case tup xs =>
    have l := (hl xs rfl).1
    have hx := cls_mem (xs := xs) h
    with_reducible refine ifw_b (fun h => ?_) (fun h => ?_)
    · walk_at "ev"
      with_reducible refine lcw_all (fun x => x) (fun x => .bl (isRow n x)) xs (by simp) (len_ok l) (by walk_at "wipe") (fun x hm => ?_) ?_
      · have e := e_is_row (hx x hm) (n := n) (fun ys hy => (hl xs rfl).2 x hm ys hy) dr
        have z := fz_cl x (hx x hm)
        have r := frz_cl (hx x hm)
        walk_at "ev"
        rfl
      · walk_at "ev"
        show _ = DL.R.ok (D.bl (((xs.length : Int) == n) && xs.all (isRow n))) dr
        rw [h]
        simp
    · walk_at "ev"
      show _ = DL.R.ok (D.bl (((xs.length : Int) == n) && xs.all (isRow n))) dr
      simp [h]
  all_goals
    walk_at "ev"
    rfl
theorem e_is_table {d : D} (h : d.cl = true) (hl : wide2 d) (dr : Dr) : f_is_table [d] dr = .ok (.bl (isTab d)) dr := by
  cases d
  case fn => cases h
  case dr => cases h
  case tup xs =>
    have hs := e_is_square h (n := xs.length) hl dr
    refine ew_of ?_
    unfold f_is_table
    with_reducible refine fw1 ?_
    simp only [List.reduceReplicate]
    unfold m_is_table
    walk_at "ev"
    with_reducible refine ifw_d (fun p => ?_) (fun p => ?_)
    · walk_at "ev"
      with_reducible refine ifw_d (fun p2 => ?_) (fun p2 => ?_)
      · walk_at "ev"
        show _ = DL.R.ok (D.bl (decide (0 < (xs.length : Int)) && decide ((xs.length : Int) ≤ 4) && isSq xs.length (.tup xs))) dr
        rw [decide_eq_true p, decide_eq_true p2]
        rfl
      · walk_at "ev"
        show _ = DL.R.ok (D.bl (decide (0 < (xs.length : Int)) && decide ((xs.length : Int) ≤ 4) && isSq xs.length (.tup xs))) dr
        rw [decide_eq_true p, decide_eq_false p2]
        rfl
    · walk_at "ev"
      show _ = DL.R.ok (D.bl (decide (0 < (xs.length : Int)) && decide ((xs.length : Int) ≤ 4) && isSq xs.length (.tup xs))) dr
      rw [decide_eq_false p]
      rfl
  all_goals
    refine ew_of ?_
    unfold f_is_table
    with_reducible refine fw1 ?_
    simp only [List.reduceReplicate]
    unfold m_is_table
    walk_at "ev"
    rfl
theorem e_check_table {d : D} (h : d.cl = true) (hl : wide2 d) (t : isTab d = true) (dr : Dr) : f_check_table [d] dr = .ok .non dr := by
  have hs := e_is_table h hl dr
  have z := fz_cl d h
  have r := frz_cl h
  rw [t] at hs
  refine ew_of ?_
  unfold f_check_table
  with_reducible refine fw1 ?_
  simp only [List.reduceReplicate]
  unfold m_check_table
  walk_at "ev"
  rfl
def mal : Exn := ⟨"Malformed", none⟩
theorem x_check_table {d : D} (h : d.cl = true) (hl : wide2 d) (t : isTab d = false) (dr : Dr) : f_check_table [d] dr = .ex mal dr := by
  have hs := e_is_table h hl dr
  have z := fz_cl d h
  have r := frz_cl h
  rw [t] at hs
  refine ew_ofx ?_
  unfold f_check_table
  with_reducible refine fw1 ?_
  simp only [List.reduceReplicate]
  unfold m_check_table
  walk_at "ev"
  rfl
/-! M01d -/
/-! fractions, both sides -/
theorem gm {x y : Int} {N M : Nat} (hx : x.natAbs < 2 ^ N) (hy : y.natAbs < 2 ^ M) (h : N + M ≤ 20000) : gMul (.int x) (.int y) = some (.int (x * y)) := gmul_int (by
  have h1 := lgle hx
  have h2 := lgle hy
  omega)
theorem e_minus {a b : Rat} {N M : Nat} (ha : Sm N a) (hb : Sm M b) (h : N + M ≤ 9000) (dr : Dr) : f_minus [qD a, qD b] dr = .ok (qD (a - b)) dr := by
  have lo := e_lowest (n := a.num * b.den - b.num * a.den) (d := a.den * b.den) (denmul_ne a b) (mulBits ha.den hb.den) h dr
  rw [← sub_divInt'] at lo
  have m1 := gm ha.n hb.den (by omega)
  have m2 := gm hb.n ha.den (by omega)
  have m3 := gm ha.den hb.den (by omega)
  refine ew_of ?_
  unfold f_minus
  with_reducible refine fw2 ?_
  simp only [List.reduceReplicate]
  unfold m_minus
  walk_at "ev"
  rfl
theorem div_divInt' (a b : Rat) (h0 : b ≠ 0) : a / b = Rat.divInt (a.num * b.den) (a.den * b.num : Int) := by
  have hb : b.num ≠ 0 := fun h => h0 (Rat.num_eq_zero.mp h)
  rw [Rat.divInt_eq_div, Rat.intCast_mul, Rat.intCast_mul]
  have e1 : a = (a.num : Rat) / ((a.den : Int) : Rat) := by rw [← Rat.divInt_eq_div, Rat.num_divInt_den]
  have e2 : b = (b.num : Rat) / ((b.den : Int) : Rat) := by rw [← Rat.divInt_eq_div, Rat.num_divInt_den]
  have d1 : ((a.den : Int) : Rat) ≠ 0 := by intro c; exact den_ne a (Rat.intCast_eq_zero_iff.mp c)
  have d2 : ((b.den : Int) : Rat) ≠ 0 := by intro c; exact den_ne b (Rat.intCast_eq_zero_iff.mp c)
  have d3 : (b.num : Rat) ≠ 0 := by intro c; exact hb (Rat.intCast_eq_zero_iff.mp c)
  conv => lhs; rw [e1, e2]
  grind
theorem _root_.DL.Sm.div {N M : Nat} {a b : Rat} (h : Sm N a) (k : Sm M b) : Sm (N + M + 1) (a / b) := by
  by_cases h0 : b = 0
  · subst h0
    rw [Rat.div_def, Rat.inv_zero, Rat.mul_zero]
    exact sm0.mono (by omega)
  rw [div_divInt' a b h0]
  refine (divInt_sm (N := N + M) (mulBits h.n k.den) (mulBits h.den k.n) ?_).mono (by omega)
  exact Int.mul_ne_zero (den_ne a) fun h => h0 (Rat.num_eq_zero.mp h)
theorem e_over {a b : Rat} {N M : Nat} (ha : Sm N a) (hb : Sm M b) (h : N + M ≤ 9000) (h0 : b ≠ 0) (dr : Dr) : f_over [qD a, qD b] dr = .ok (qD (a / b)) dr := by
  have hb0 : b.num ≠ 0 := fun h => h0 (Rat.num_eq_zero.mp h)
  have lo := e_lowest (n := a.num * b.den) (d := a.den * b.num) (Int.mul_ne_zero (den_ne a) hb0) (mulBits ha.den hb.n) h dr
  rw [← div_divInt' a b h0] at lo
  have m1 := gm ha.n hb.den (by omega)
  have m2 := gm ha.den hb.n (by omega)
  refine ew_of ?_
  unfold f_over
  with_reducible refine fw2 ?_
  simp only [List.reduceReplicate]
  unfold m_over
  walk_at "ev"
  with_reducible refine ifw_b (fun h => absurd h hb0) (fun h => ?_)
  walk_at "ev"
  rfl
theorem x_over {a b : Rat} (h0 : b = 0) (dr : Dr) : f_over [qD a, qD b] dr = .ex mal dr := by
  subst h0
  refine ew_ofx ?_
  unfold f_over
  with_reducible refine fw2 ?_
  simp only [List.reduceReplicate]
  unfold m_over
  walk_at "ev"
  with_reducible refine ifw_b (fun h => ?_) (fun h => absurd rfl h)
  walk_at "ev"
  rfl
theorem e_below {a b : Rat} {N M : Nat} (ha : Sm N a) (hb : Sm M b) (h : N + M ≤ 9000) (dr : Dr) : f_below [qD a, qD b] dr = .ok (.bl (decide (a < b))) dr := by
  have m1 := gm ha.n hb.den (by omega)
  have m2 := gm hb.n ha.den (by omega)
  have e : decide (a < b) = decide (a.num * b.den < b.num * a.den) := decide_eq_decide.mpr (Rat.lt_iff a b)
  rw [e]
  refine ew_of ?_
  unfold f_below
  with_reducible refine fw2 ?_
  simp only [List.reduceReplicate]
  unfold m_below
  walk_at "ev"
  rfl
theorem e__law_less {a b : Rat} {N M : Nat} (ha : Sm N a) (hb : Sm M b) (h : N + M ≤ 9000) (dr : Dr) : f__law_less [qD a, qD b] dr = .ok (.bl (decide (a < b))) dr := by
  have m1 := gm ha.n hb.den (by omega)
  have m2 := gm hb.n ha.den (by omega)
  have e : decide (a < b) = decide (a.num * b.den < b.num * a.den) := decide_eq_decide.mpr (Rat.lt_iff a b)
  rw [e]
  refine ew_of ?_
  unfold f__law_less
  with_reducible refine fw2 ?_
  simp only [List.reduceReplicate]
  unfold m__law_less
  walk_at "ev"
  rfl
theorem e_lesser {a b : Rat} {N M : Nat} (ha : Sm N a) (hb : Sm M b) (h : N + M ≤ 9000) (dr : Dr) : f_lesser [qD a, qD b] dr = .ok (qD (if b < a then b else a)) dr := by
  have l := e_below hb ha (by omega) dr
  refine ew_of ?_
  unfold f_lesser
  with_reducible refine fw2 ?_
  simp only [List.reduceReplicate]
  unfold m_lesser
  walk_at "ev"
  with_reducible refine ifw_d (fun h => ?_) (fun h => ?_)
  · walk_at "ev"
    rw [if_pos h]
  · walk_at "ev"
    rw [if_neg h]
theorem e_greater {a b : Rat} {N M : Nat} (ha : Sm N a) (hb : Sm M b) (h : N + M ≤ 9000) (dr : Dr) : f_greater [qD a, qD b] dr = .ok (qD (if a < b then b else a)) dr := by
  have l := e_below ha hb (by omega) dr
  refine ew_of ?_
  unfold f_greater
  with_reducible refine fw2 ?_
  simp only [List.reduceReplicate]
  unfold m_greater
  walk_at "ev"
  with_reducible refine ifw_d (fun h => ?_) (fun h => ?_)
  · walk_at "ev"
    rw [if_pos h]
  · walk_at "ev"
    rw [if_neg h]
theorem qD_abs (q : Rat) : (D.tup [.int (if q.num < 0 then -q.num else q.num), .int (q.den : Int)]) = qD q.abs := by
  unfold Rat.abs
  by_cases h : q.num < 0
  · have h2 : ¬ (0 ≤ q) := by rw [← Rat.num_nonneg]; omega
    rw [if_pos h, if_neg h2, qD, Rat.neg_num, Rat.neg_den]
  · have h2 : 0 ≤ q := by rw [← Rat.num_nonneg]; omega
    rw [if_neg h, if_pos h2]
    rfl
theorem e_apart_by {a b : Rat} {N M : Nat} (ha : Sm N a) (hb : Sm M b) (h : N + M ≤ 9000) (dr : Dr) : f_apart_by [qD a, qD b] dr = .ok (qD (a - b).abs) dr := by
  have l := e_minus ha hb (by omega) dr
  refine ew_of ?_
  unfold f_apart_by
  with_reducible refine fw2 ?_
  simp only [List.reduceReplicate]
  unfold m_apart_by
  walk_at "ev"
  rw [← qD_abs]
/-! M01e -/
theorem sumL_snoc {ι : Type} (ws : List ι) (y : ι) (f : ι → Rat) : sumL (ws ++ [y]) f = sumL ws f + f y := by
  unfold sumL; rw [List.map_append, List.sum_append, List.map_singleton, List.sum_singleton]
theorem num_ne {q : Rat} (h : q.num ≠ 0) : q ≠ 0 := fun e => h (by rw [e]; rfl)
theorem num_z {q : Rat} (h : q.num = 0) : q = 0 := Rat.num_eq_zero.mp h
theorem e_total {ι : Type} {I : List ι} {f : ι → Rat} {N : Nat} (h : ∀ i ∈ I, Sm N (f i)) (hb : I.length * (N + 1) + N + 1 ≤ 9000) (dr : Dr) : f_total [.lst false (I.map fun i => qD (f i))] dr = .ok (qD (sumL I f)) dr := by
  refine ew_of ?_
  unfold f_total
  with_reducible refine fw1 ?_
  simp only [List.reduceReplicate]
  unfold m_total
  walk_at "ev"
  with_reducible refine sw_for (fun i => qD (f i)) I (fun zs ρ d => d = dr ∧ ∃ ws x2, I = ws ++ zs ∧ ρ = [some (.lst false (I.map fun i => qD (f i))), some (qD (sumL ws f)), x2]) ?_ ?_ ?_
  · walk_at "ev"
    exact ⟨[], _, rfl, rfl⟩
  · rintro y zs ρ d ⟨rfl, ws, x2, hw, rfl⟩
    have hy := h y (hw ▸ List.mem_append_right _ List.mem_cons_self)
    have s1 := sm_sumL f ws fun i hi => h i (hw ▸ List.mem_append_left _ hi)
    have hl : ws.length ≤ I.length := by rw [hw, List.length_append]; omega
    have hm := Nat.mul_le_mul_right (N + 1) hl
    have p := e_plus s1 hy (by omega) d
    walk_at "ev"
    with_reducible refine ifw_b (fun h => ?_) (fun h => ?_)
    · walk_at "ev"
      have e : sumL (ws ++ [y]) f = sumL ws f := by rw [sumL_snoc, num_z h, Rat.add_zero]
      exact ⟨ws ++ [y], _, by rw [hw, List.append_assoc]; rfl, by rw [e]⟩
    · walk_at "ev"
      exact ⟨ws ++ [y], _, by rw [hw, List.append_assoc]; rfl, by rw [sumL_snoc]⟩
  · rintro ρ d ⟨rfl, ws, x2, hw, rfl⟩
    walk_at "ev"
    rw [hw, List.append_nil]
/-- powers of a fraction -/
def pwR (a : Rat) : Nat → Rat
  | 0 => 1
  | k + 1 => pwR a k * a
theorem sm_pwR {a : Rat} {N : Nat} (h : Sm N a) : ∀ k, Sm (k * N + 1) (pwR a k)
  | 0 => sm1.mono (by omega)
  | k + 1 => ((sm_pwR h k).mul h).mono (by rw [Nat.add_mul]; omega)
theorem rng_split {n y : Nat} {ws zs : List Nat} (h : List.range n = ws ++ y :: zs) : ws.length = y ∧ y < n := by
  have := rng_mid h
  exact ⟨this.2.2, this.2.1⟩
theorem e_power_ratios {a : Rat} {N n : Nat} (h : Sm N a) (hb : n * N + N + 1 ≤ 9000) (hn : n ≤ 1000) (dr : Dr) : f_power_ratios [qD a, .int (n : Int)] dr = .ok (qD (pwR a n)) dr := by
  refine ew_of ?_
  unfold f_power_ratios
  with_reducible refine fw2 ?_
  simp only [List.reduceReplicate]
  unfold m_power_ratios
  walk_at "ev"
  with_reducible refine sw_for (fun k : Nat => .int (k : Int)) (List.range n) (fun zs ρ d => d = dr ∧ ∃ ws x3, List.range n = ws ++ zs ∧ ρ = [some (qD a), some (.int (n : Int)), some (qD (pwR a ws.length)), x3]) ?_ ?_ ?_
  · walk_at "ev"
    exact ⟨[], _, rfl, rfl⟩
  · rintro y zs ρ d ⟨rfl, ws, x3, hw, rfl⟩
    have hl := rng_split hw
    have hm := Nat.mul_le_mul_right N (show ws.length ≤ n by omega)
    have p := e_times (sm_pwR h ws.length) h (by omega) d
    walk_at "ev"
    exact ⟨ws ++ [y], _, by rw [hw, List.append_assoc]; rfl, by rw [List.length_append]; rfl⟩
  · rintro ρ d ⟨rfl, ws, x3, hw, rfl⟩
    walk_at "ev"
    rw [List.append_nil] at hw
    rw [← hw, List.length_range]
theorem e__law_power {a : Rat} {N n : Nat} (h : Sm N a) (hb : n * N + N + 1 ≤ 9000) (hn : n ≤ 1000) (dr : Dr) : f__law_power [qD a, .int (n : Int)] dr = .ok (qD (pwR a n)) dr := by
  refine ew_of ?_
  unfold f__law_power
  with_reducible refine fw2 ?_
  simp only [List.reduceReplicate]
  unfold m__law_power
  walk_at "ev"
  with_reducible refine sw_for (fun k : Nat => .int (k : Int)) (List.range n) (fun zs ρ d => d = dr ∧ ∃ ws x3, List.range n = ws ++ zs ∧ ρ = [some (qD a), some (.int (n : Int)), some (qD (pwR a ws.length)), x3]) ?_ ?_ ?_
  · walk_at "ev"
    exact ⟨[], _, rfl, rfl⟩
  · rintro y zs ρ d ⟨rfl, ws, x3, hw, rfl⟩
    have hl := rng_split hw
    have hm := Nat.mul_le_mul_right N (show ws.length ≤ n by omega)
    have p := e__law_times (sm_pwR h ws.length) h (by omega) d
    walk_at "ev"
    exact ⟨ws ++ [y], _, by rw [hw, List.append_assoc]; rfl, by rw [List.length_append]; rfl⟩
  · rintro ρ d ⟨rfl, ws, x3, hw, rfl⟩
    walk_at "ev"
    rw [List.append_nil] at hw
    rw [← hw, List.length_range]
/-- the greatest of sizes -/
def mxR : List Rat → Rat → Rat
  | [], m => m
  | x :: l, m => mxR l (if m < x then x else m)
theorem mxR_sm {N : Nat} : ∀ (l : List Rat) (m : Rat), (∀ x ∈ l, Sm N x) → Sm N m → Sm N (mxR l m)
  | [], m, _, h => h
  | x :: l, m, h, k => mxR_sm l _ (fun y hy => h y (List.mem_cons_of_mem _ hy)) (by
    split
    · exact h x List.mem_cons_self
    · exact k)
theorem mxR_app (l k : List Rat) (m : Rat) : mxR (l ++ k) m = mxR k (mxR l m) := by
  induction l generalizing m with
  | nil => rfl
  | cons x l ih => exact ih _
theorem _root_.DL.Sm.abs {N : Nat} {q : Rat} (h : Sm N q) : Sm N q.abs := by
  unfold Rat.abs
  split
  · exact h
  · exact h.neg
theorem e_size_of {n N : Nat} {r : Nat → Rat} (h : ∀ k, k < n → Sm N (r k)) (hN : N + N ≤ 9000) (dr : Dr) : f_size_of [rowL (List.range n) r] dr = .ok (qD (mxR ((List.range n).map fun k => (r k).abs) 0)) dr := by
  refine ew_of ?_
  unfold f_size_of
  with_reducible refine fw1 ?_
  simp only [List.reduceReplicate]
  unfold m_size_of
  walk_at "ev"
  with_reducible refine sw_for (fun i => qD (r i)) (List.range n) (fun zs ρ d => d = dr ∧ ∃ ws x2, List.range n = ws ++ zs ∧ ρ = [some (rowL (List.range n) r), some (qD (mxR (ws.map fun k => (r k).abs) 0)), x2]) ?_ ?_ ?_
  · walk_at "ev"
    exact ⟨[], _, rfl, rfl⟩
  · rintro y zs ρ d ⟨rfl, ws, x2, hw, rfl⟩
    have hy := h y (rng_split hw).2
    have hws : ∀ x ∈ ws.map (fun k => (r k).abs), Sm N x := fun x hx => by
      obtain ⟨k, hk, rfl⟩ := List.mem_map.mp hx
      have : k ∈ List.range n := hw ▸ List.mem_append_left _ hk
      exact (h k (List.mem_range.mp this)).abs
    have N0 := hy.pos
    have hm := mxR_sm _ 0 hws (sm0.mono (by omega))
    have e1 : (if (r y).num < 0 then -(r y).num else (r y).num) = ((r y).abs).num := by
      have := qD_abs (r y)
      unfold qD at this
      simp only [D.tup.injEq, List.cons.injEq, D.int.injEq] at this
      exact this.1
    have e2 : ((r y).den : Int) = ((r y).abs.den : Int) := by
      have := qD_abs (r y)
      unfold qD at this
      simp only [D.tup.injEq, List.cons.injEq, D.int.injEq] at this
      exact this.2.1
    have ha := hy.abs
    have m1 := gm ha.n hm.den (by omega)
    have m2 := gm hm.n ha.den (by omega)
    rw [← e1] at m1
    rw [← e2] at m2
    walk_at "ev"
    with_reducible refine ifw_d (fun h => ?_) (fun h => ?_)
    · walk_at "ev"
      have e : mxR ((ws ++ [y]).map fun k => (r k).abs) 0 = (r y).abs := by
        rw [List.map_append, mxR_app]
        show (if mxR (ws.map fun k => (r k).abs) 0 < (r y).abs then (r y).abs else mxR (ws.map fun k => (r k).abs) 0) = _
        rw [e1, e2] at h
        exact if_pos ((Rat.lt_iff _ _).mpr h)
      exact ⟨ws ++ [y], _, by rw [hw, List.append_assoc]; rfl, by rw [e, ← qD_abs]⟩
    · walk_at "ev"
      have e : mxR ((ws ++ [y]).map fun k => (r k).abs) 0 = mxR (ws.map fun k => (r k).abs) 0 := by
        rw [List.map_append, mxR_app]
        show (if mxR (ws.map fun k => (r k).abs) 0 < (r y).abs then (r y).abs else mxR (ws.map fun k => (r k).abs) 0) = _
        rw [e1, e2] at h
        exact if_neg fun c => h ((Rat.lt_iff _ _).mp c)
      exact ⟨ws ++ [y], _, by rw [hw, List.append_assoc]; rfl, by rw [e]⟩
  · rintro ρ d ⟨rfl, ws, x2, hw, rfl⟩
    walk_at "ev"
    rw [List.append_nil] at hw
    rw [← hw]
theorem mxR_first (x : Rat) (l : List Rat) (h : 0 ≤ x) : mxR (x :: l) 0 = mxR (x :: l) x := by
  show mxR l _ = mxR l _
  congr 1
  rw [if_neg (Rat.lt_irrefl)]
  split
  · rfl
  · grind
theorem e__law_most {N : Nat} {n : Nat} {f : Nat → Rat} (h0 : 0 < n) (h : ∀ k, k < n → Sm N (f k)) (hN : N + N ≤ 9000) (dr : Dr) : f__law_most [.lst false ((List.range n).map fun k => qD (f k))] dr = .ok (qD (mxR ((List.range n).map f) (f 0))) dr := by
  refine ew_of ?_
  unfold f__law_most
  with_reducible refine fw1 ?_
  simp only [List.reduceReplicate]
  unfold m__law_most
  walk_at "ev"
  with_reducible refine sw_for (fun i => qD (f i)) (List.range n) (fun zs ρ d => d = dr ∧ ∃ ws x2, List.range n = ws ++ zs ∧ ρ = [some (.lst false ((List.range n).map fun k => qD (f k))), some (qD (mxR (ws.map f) (f 0))), x2]) ?_ ?_ ?_
  · walk_at "ev"
    exact ⟨[], _, rfl, rfl⟩
  · rintro y zs ρ d ⟨rfl, ws, x2, hw, rfl⟩
    have hy := h y (rng_split hw).2
    have hws : ∀ x ∈ ws.map f, Sm N x := fun x hx => by
      obtain ⟨k, hk, rfl⟩ := List.mem_map.mp hx
      have : k ∈ List.range n := hw ▸ List.mem_append_left _ hk
      exact h k (List.mem_range.mp this)
    have hm := mxR_sm _ (f 0) hws (h 0 h0)
    have l := e__law_less hm hy hN d
    walk_at "ev"
    with_reducible refine ifw_d (fun h => ?_) (fun h => ?_)
    · walk_at "ev"
      have e : mxR ((ws ++ [y]).map f) (f 0) = f y := by
        rw [List.map_append, mxR_app]
        exact if_pos h
      exact ⟨ws ++ [y], _, by rw [hw, List.append_assoc]; rfl, by rw [e]⟩
    · walk_at "ev"
      have e : mxR ((ws ++ [y]).map f) (f 0) = mxR (ws.map f) (f 0) := by
        rw [List.map_append, mxR_app]
        exact if_neg h
      exact ⟨ws ++ [y], _, by rw [hw, List.append_assoc]; rfl, by rw [e]⟩
  · rintro ρ d ⟨rfl, ws, x2, hw, rfl⟩
    walk_at "ev"
    rw [List.append_nil] at hw
    rw [← hw]
theorem e__law_size {n N : Nat} {r : Nat → Rat} (h0 : 0 < n) (h : ∀ k, k < n → Sm N (r k)) (hn : n ≤ 1000) (hN : N + N ≤ 9000) (dr : Dr) : f__law_size [rowL (List.range n) r] dr = .ok (qD (mxR ((List.range n).map fun k => (r k).abs) 0)) dr := by
  have l := e__law_most (f := fun k => (r k).abs) h0 (fun k hk => (h k hk).abs) hN dr
  refine ew_of ?_
  unfold f__law_size
  with_reducible refine fw1 ?_
  simp only [List.reduceReplicate]
  unfold m__law_size
  walk_at "ev"
  with_reducible refine lcw_all (fun i => qD (r i)) (fun i => qD (r i).abs) (List.range n) (by with_unfolding_all exact rfl) (by walk_at "small") (by walk_at "wipe") (fun y hy => ?_) ?_
  · walk_at "ev"
    rw [← qD_abs]
  · walk_at "ev"
    have e : List.range n = 0 :: (List.range (n - 1)).map (· + 1) := by
      obtain ⟨m, rfl⟩ : ∃ m, n = m + 1 := ⟨n - 1, by omega⟩
      rw [List.range_succ_eq_map]; rfl
    rw [e, List.map_cons, mxR_first _ _ (by rw [Rat.abs]; split <;> grind)]
/-! M01f -/
abbrev Tt (n : Nat) (A : Mq) : D := tabL (List.range n) (List.range n) A
abbrev Rw (n : Nat) (r : Nat → Rat) : D := rowL (List.range n) r
theorem unit_item (i j : Nat) : (if ((i : Int) == (j : Int)) = true then D.tup [.int 1, .int 1] else .tup [.int 0, .int 1]) = qD (idQ i j) := by
  unfold idQ
  by_cases h : i = j
  · rw [if_pos (by simp [h]), if_pos h]; rfl
  · rw [if_neg (by simp; omega), if_neg h]; rfl
theorem e_unit_of {n : Nat} (hn : n ≤ 1000) (dr : Dr) : f_unit_of [.int (n : Int)] dr = .ok (Tt n idQ) dr := by
  refine ew_of ?_
  unfold f_unit_of
  with_reducible refine fw1 ?_
  simp only [List.reduceReplicate]
  unfold m_unit_of
  walk_at "ev"
  with_reducible refine lcw_all (fun i : Nat => .int (i : Int)) (fun i => rowL (List.range n) (idQ i)) (List.range n) (by with_unfolding_all exact rfl) (by walk_at "small") (by walk_at "wipe") (fun i hi => ?_) ?_
  · walk_at "ev"
    with_reducible refine lcw_all (fun i : Nat => .int (i : Int)) (fun j => qD (idQ i j)) (List.range n) (by with_unfolding_all exact rfl) (by walk_at "small") (by walk_at "wipe") (fun j hj => ?_) ?_
    · walk_at "ev"
      with_reducible refine ifw_b (fun h => ?_) (fun h => ?_)
      · walk_at "ev"
        rw [show idQ i j = 1 from if_pos (by omega)]; rfl
      · walk_at "ev"
        rw [show idQ i j = 0 from if_neg (by omega)]; rfl
    · walk_at "ev"
      rfl
  · walk_at "ev"
    rfl
theorem e__law_unit {n : Nat} (hn : n ≤ 1000) (dr : Dr) : f__law_unit [.int (n : Int)] dr = .ok (Tt n idQ) dr := by
  refine ew_of ?_
  unfold f__law_unit
  with_reducible refine fw1 ?_
  simp only [List.reduceReplicate]
  unfold m__law_unit
  walk_at "ev"
  with_reducible refine lcw_all (fun i : Nat => .int (i : Int)) (fun i => rowL (List.range n) (idQ i)) (List.range n) (by with_unfolding_all exact rfl) (by walk_at "small") (by walk_at "wipe") (fun i hi => ?_) ?_
  · walk_at "ev"
    with_reducible refine lcw_all (fun i : Nat => .int (i : Int)) (fun j => qD (idQ i j)) (List.range n) (by with_unfolding_all exact rfl) (by walk_at "small") (by walk_at "wipe") (fun j hj => ?_) ?_
    · walk_at "ev"
      with_reducible refine ifw_b (fun h => ?_) (fun h => ?_)
      · walk_at "ev"
        rw [show idQ i j = 1 from if_pos (by omega)]; rfl
      · walk_at "ev"
        rw [show idQ i j = 0 from if_neg (by omega)]; rfl
    · walk_at "ev"
      rfl
  · walk_at "ev"
    rfl
theorem sumL_filter {ι : Type} (f : ι → Rat) (p : ι → Bool) (h : ∀ i, p i = false → f i = 0) : ∀ l : List ι, sumL (l.filter p) f = sumL l f
  | [] => rfl
  | x :: l => by
    rw [List.filter_cons]
    cases e : p x with
    | true => simp only [if_true]; rw [sumL_cons, sumL_cons, sumL_filter f p h l]
    | false => simp only [Bool.false_eq_true, if_false]; rw [sumL_cons, sumL_filter f p h l, h x e, Rat.zero_add]
theorem e_dot {ι : Type} {I : List ι} {f g : ι → Rat} {N M : Nat} (hf : ∀ i ∈ I, Sm N (f i)) (hg : ∀ i ∈ I, Sm M (g i)) (hl : I.length ≤ 1000) (hb : I.length * (N + M + 1) + (N + M) + 1 ≤ 9000) (dr : Dr) : f_dot [rowL I f, rowL I g] dr = .ok (qD (sumL I fun i => f i * g i)) dr := by
  have t := e_total (I := I.filter fun i => !((f i).num == 0) && !((g i).num == 0)) (f := fun i => f i * g i) (N := N + M) (fun i hi => (hf i (List.mem_filter.mp hi).1).mul (hg i (List.mem_filter.mp hi).1)) (by
    have h1 := List.length_filter_le (fun i => !((f i).num == 0) && !((g i).num == 0)) I
    have h2 := Nat.mul_le_mul_right (N + M + 1) h1
    omega) dr
  have e : sumL (I.filter fun i => !((f i).num == 0) && !((g i).num == 0)) (fun i => f i * g i) = sumL I fun i => f i * g i := sumL_filter _ _ (fun i hi => by
    rw [Bool.and_eq_false_iff] at hi
    rcases hi with h | h
    · rw [num_z (q := f i) (by simpa using h), Rat.zero_mul]
    · rw [num_z (q := g i) (by simpa using h), Rat.mul_zero]) I
  rw [e] at t
  refine ew_of ?_
  unfold f_dot
  with_reducible refine fw2 ?_
  simp only [List.reduceReplicate]
  unfold m_dot
  walk_at "ev"
  with_reducible refine lcw_map (fun i => .tup [qD (f i), qD (g i)]) (fun i => qD (f i * g i)) (fun i => !((f i).num == 0) && !((g i).num == 0)) I (by with_unfolding_all exact rfl) (len_ok hl) (by walk_at "wipe") (fun i hi => ?_) ?_
  · have t1 := e_times (hf i hi) (hg i hi) (by
      have := Nat.mul_le_mul_right (N + M + 1) (show 1 ≤ I.length by cases I with | nil => cases hi | cons => simp)
      omega) dr
    walk_at "ev"
    with_reducible refine ⟨?_, fun hp => ?_⟩
    · walk_at "ev"
      cases h1 : (f i).num == 0
      · walk_at "ev"
        with_unfolding_all rfl
      · walk_at "ev"
        with_unfolding_all rfl
    · walk_at "ev"
      rfl
  · walk_at "ev"
    rfl
theorem e_turned_of {n m : Nat} {A : Nat → Nat → Rat} (h0 : 0 < n) (hn : n ≤ 1000) (hm : m ≤ 1000) (dr : Dr) : f_turned_of [tabL (List.range n) (List.range m) A] dr = .ok (tabL (List.range m) (List.range n) fun j i => A i j) dr := by
  have hx : gIx (tabL (List.range n) (List.range m) A) (.int 0) = some (rowL (List.range m) (A 0)) := at_map (f := fun i => rowL (List.range m) (A i)) (k := 0) h0
  refine ew_of ?_
  unfold f_turned_of
  with_reducible refine fw1 ?_
  simp only [List.reduceReplicate]
  unfold m_turned_of
  walk_at "ev"
  with_reducible refine lcw_all (fun i : Nat => .int (i : Int)) (fun j => rowL (List.range n) (fun i => A i j)) (List.range m) (by with_unfolding_all exact rfl) (by walk_at "small") (by walk_at "wipe") (fun j hj => ?_) ?_
  · have hj := List.mem_range.mp hj
    walk_at "ev"
    with_reducible refine lcw_all (fun i => rowL (List.range m) (A i)) (fun i => qD (A i j)) (List.range n) (by with_unfolding_all exact rfl) (by walk_at "small") (by walk_at "wipe") (fun i hi => ?_) ?_
    · walk_at "ev"
      rfl
    · walk_at "ev"
      rfl
  · walk_at "ev"
    rfl
theorem e_product_of {n N M : Nat} {A B : Mq} (h0 : 0 < n) (hn : n ≤ 100) (hA : ∀ i j, i < n → j < n → Sm N (A i j)) (hB : ∀ i j, i < n → j < n → Sm M (B i j)) (hb : n * (N + M + 1) + (N + M) + 1 ≤ 9000) (dr : Dr) : f_product_of [Tt n A, Tt n B] dr = .ok (Tt n (mulQ n A B)) dr := by
  have t := e_turned_of (A := B) h0 (show n ≤ 1000 by omega) (show n ≤ 1000 by omega) dr
  refine ew_of ?_
  unfold f_product_of
  with_reducible refine fw2 ?_
  simp only [List.reduceReplicate]
  unfold m_product_of
  walk_at "ev"
  with_reducible refine lcw_all (fun i => rowL (List.range n) (A i)) (fun i => rowL (List.range n) (mulQ n A B i)) (List.range n) (by with_unfolding_all exact rfl) (by walk_at "small") (by walk_at "wipe") (fun i hi => ?_) ?_
  · have hi := List.mem_range.mp hi
    walk_at "ev"
    with_reducible refine lcw_all (fun j => rowL (List.range n) (fun i => B i j)) (fun j => qD (mulQ n A B i j)) (List.range n) (by with_unfolding_all exact rfl) (by walk_at "small") (by walk_at "wipe") (fun j hj => ?_) ?_
    · have hj := List.mem_range.mp hj
      have d := e_dot (I := List.range n) (f := A i) (g := fun k => B k j) (fun k hk => hA i k hi (List.mem_range.mp hk)) (fun k hk => hB k j (List.mem_range.mp hk) hj) (by rw [List.length_range]; omega) (by rw [List.length_range]; exact hb) dr
      walk_at "ev"
      rfl
    · walk_at "ev"
      rfl
  · walk_at "ev"
    rfl
theorem e_led_of {n N M : Nat} {A : Mq} {r : Nat → Rat} (hn : n ≤ 100) (hA : ∀ i j, i < n → j < n → Sm N (A i j)) (hr : ∀ j, j < n → Sm M (r j)) (hb : n * (N + M + 1) + (N + M) + 1 ≤ 9000) (dr : Dr) : f_led_of [Tt n A, Rw n r] dr = .ok (Rw n fun i => sumL (List.range n) fun j => A i j * r j) dr := by
  refine ew_of ?_
  unfold f_led_of
  with_reducible refine fw2 ?_
  simp only [List.reduceReplicate]
  unfold m_led_of
  walk_at "ev"
  with_reducible refine lcw_all (fun i => rowL (List.range n) (A i)) (fun i => qD (sumL (List.range n) fun j => A i j * r j)) (List.range n) (by with_unfolding_all exact rfl) (by walk_at "small") (by walk_at "wipe") (fun i hi => ?_) ?_
  · have hi := List.mem_range.mp hi
    have d := e_dot (I := List.range n) (f := A i) (g := r) (fun k hk => hA i k hi (List.mem_range.mp hk)) (fun k hk => hr k (List.mem_range.mp hk)) (by rw [List.length_range]; omega) (by rw [List.length_range]; exact hb) dr
    walk_at "ev"
    rfl
  · walk_at "ev"
    rfl
theorem zpw_TT {n : Nat} {A B : Mq} {Q : List D → Prop} (k : Q ((List.range n).map fun i => .tup [rowL (List.range n) (A i), rowL (List.range n) (B i)])) : ZpW [Tt n A, Tt n B] Q := zpw_tt k
theorem e_sum_of {n N M : Nat} {A B : Mq} (hn : n ≤ 100) (hA : ∀ i j, i < n → j < n → Sm N (A i j)) (hB : ∀ i j, i < n → j < n → Sm M (B i j)) (hb : N + M ≤ 9000) (dr : Dr) : f_sum_of [Tt n A, Tt n B] dr = .ok (Tt n fun i j => A i j + B i j) dr := by
  refine ew_of ?_
  unfold f_sum_of
  with_reducible refine fw2 ?_
  simp only [List.reduceReplicate]
  unfold m_sum_of
  walk_at "ev"
  with_reducible refine zpw_TT ?_
  walk_at "ev"
  with_reducible refine lcw_all (fun i => .tup [rowL (List.range n) (A i), rowL (List.range n) (B i)]) (fun i => rowL (List.range n) fun j => A i j + B i j) (List.range n) (by with_unfolding_all exact rfl) (by walk_at "small") (by walk_at "wipe") (fun i hi => ?_) ?_
  · have hi := List.mem_range.mp hi
    walk_at "ev"
    with_reducible refine lcw_all (fun j => .tup [qD (A i j), qD (B i j)]) (fun j => qD (A i j + B i j)) (List.range n) (by with_unfolding_all exact rfl) (by walk_at "small") (by walk_at "wipe") (fun j hj => ?_) ?_
    · have hj := List.mem_range.mp hj
      have p := e_plus (hA i j hi hj) (hB i j hi hj) hb dr
      walk_at "ev"
      rfl
    · walk_at "ev"
      rfl
  · walk_at "ev"
    rfl
theorem e_scaled_of {n N M : Nat} {A : Mq} {q : Rat} (hn : n ≤ 100) (hA : ∀ i j, i < n → j < n → Sm N (A i j)) (hq : Sm M q) (hb : N + M ≤ 9000) (dr : Dr) : f_scaled_of [Tt n A, qD q] dr = .ok (Tt n fun i j => A i j * q) dr := by
  refine ew_of ?_
  unfold f_scaled_of
  with_reducible refine fw2 ?_
  simp only [List.reduceReplicate]
  unfold m_scaled_of
  walk_at "ev"
  with_reducible refine lcw_all (fun i => rowL (List.range n) (A i)) (fun i => rowL (List.range n) fun j => A i j * q) (List.range n) (by with_unfolding_all exact rfl) (by walk_at "small") (by walk_at "wipe") (fun i hi => ?_) ?_
  · have hi := List.mem_range.mp hi
    walk_at "ev"
    with_reducible refine lcw_all (fun j => qD (A i j)) (fun j => qD (A i j * q)) (List.range n) (by with_unfolding_all exact rfl) (by walk_at "small") (by walk_at "wipe") (fun j hj => ?_) ?_
    · have hj := List.mem_range.mp hj
      have p := e_times (hA i j hi hj) hq hb dr
      walk_at "ev"
      rfl
    · walk_at "ev"
      rfl
  · walk_at "ev"
    rfl
/-! M01g -/
theorem e__law_times_rows {n N M : Nat} {A B : Mq} (hn : n ≤ 100) (hA : ∀ i j, i < n → j < n → Sm N (A i j)) (hB : ∀ i j, i < n → j < n → Sm M (B i j)) (hb : n * (N + M + 1) + (N + M) + 1 ≤ 9000) (dr : Dr) : f__law_times_rows [Tt n A, Tt n B] dr = .ok (Tt n (mulQ n A B)) dr := by
  refine ew_of ?_
  unfold f__law_times_rows
  with_reducible refine fw2 ?_
  simp only [List.reduceReplicate]
  unfold m__law_times_rows
  walk_at "ev"
  with_reducible refine lcw_all (fun i => rowL (List.range n) (A i)) (fun i => rowL (List.range n) (mulQ n A B i)) (List.range n) (by with_unfolding_all exact rfl) (by walk_at "small") (by walk_at "wipe") (fun i hi => ?_) ?_
  · have hi := List.mem_range.mp hi
    walk_at "ev"
    with_reducible refine lcw_all (fun j : Nat => .int (j : Int)) (fun j => qD (mulQ n A B i j)) (List.range n) (by with_unfolding_all exact rfl) (by walk_at "small") (by walk_at "wipe") (fun j hj => ?_) ?_
    · have hj := List.mem_range.mp hj
      have n1 := Nat.mul_le_mul_right (N + M + 1) (show 1 ≤ n by omega)
      have t := e__law_sum (I := List.range n) (f := fun k => A i k * B k j) (N := N + M) (fun k hk => (hA i k hi (List.mem_range.mp hk)).mul (hB k j (List.mem_range.mp hk) hj)) (by rw [List.length_range]; omega) dr
      walk_at "ev"
      with_reducible refine lcw_all (fun k : Nat => .int (k : Int)) (fun k => qD (A i k * B k j)) (List.range n) (by with_unfolding_all exact rfl) (by walk_at "small") (by walk_at "wipe") (fun k hk => ?_) ?_
      · have hk := List.mem_range.mp hk
        have p := e__law_times (hA i k hi hk) (hB k j hk hj) (by omega) dr
        walk_at "ev"
        rfl
      · walk_at "ev"
        rfl
    · walk_at "ev"
      rfl
  · walk_at "ev"
    rfl
theorem e__law_led {n N M : Nat} {A : Mq} {r : Nat → Rat} (hn : n ≤ 100) (hA : ∀ i j, i < n → j < n → Sm N (A i j)) (hr : ∀ j, j < n → Sm M (r j)) (hb : n * (N + M + 1) + (N + M) + 1 ≤ 9000) (dr : Dr) : f__law_led [Tt n A, Rw n r] dr = .ok (Rw n fun i => sumL (List.range n) fun j => A i j * r j) dr := by
  refine ew_of ?_
  unfold f__law_led
  with_reducible refine fw2 ?_
  simp only [List.reduceReplicate]
  unfold m__law_led
  walk_at "ev"
  with_reducible refine lcw_all (fun i => rowL (List.range n) (A i)) (fun i => qD (sumL (List.range n) fun j => A i j * r j)) (List.range n) (by with_unfolding_all exact rfl) (by walk_at "small") (by walk_at "wipe") (fun i hi => ?_) ?_
  · have hi := List.mem_range.mp hi
    have n1 := Nat.mul_le_mul_right (N + M + 1) (show 1 ≤ n by omega)
    have t := e__law_sum (I := List.range n) (f := fun k => A i k * r k) (N := N + M) (fun k hk => (hA i k hi (List.mem_range.mp hk)).mul (hr k (List.mem_range.mp hk))) (by rw [List.length_range]; omega) dr
    walk_at "ev"
    with_reducible refine lcw_all (fun k : Nat => .int (k : Int)) (fun k => qD (A i k * r k)) (List.range n) (by with_unfolding_all exact rfl) (by walk_at "small") (by walk_at "wipe") (fun k hk => ?_) ?_
    · have hk := List.mem_range.mp hk
      have p := e__law_times (hA i k hi hk) (hr k hk) (by omega) dr
      walk_at "ev"
      rfl
    · walk_at "ev"
      rfl
  · walk_at "ev"
    rfl
/-- powers of a table -/
theorem e_power_of {n m N M : Nat} {A : Mq} (h0 : 0 < n) (hn : n ≤ 100) (hm : m ≤ 1000) (hA : ∀ i j, i < n → j < n → Sm N (A i j)) (hP : ∀ k, k < m → ∀ i j, i < n → j < n → Sm M (pwM n A k i j)) (hb : n * (N + M + 1) + (N + M) + 1 ≤ 9000) (dr : Dr) : f_power_of [Tt n A, .int (m : Int)] dr = .ok (Tt n (pwM n A m)) dr := by
  have u := e_unit_of (n := n) (by omega) dr
  refine ew_of ?_
  unfold f_power_of
  with_reducible refine fw2 ?_
  simp only [List.reduceReplicate]
  unfold m_power_of
  walk_at "ev"
  with_reducible refine sw_for (fun k : Nat => .int (k : Int)) (List.range m) (fun zs ρ d => d = dr ∧ ∃ ws x3, List.range m = ws ++ zs ∧ ρ = [some (Tt n A), some (.int (m : Int)), some (Tt n (pwM n A ws.length)), x3]) ?_ ?_ ?_
  · walk_at "ev"
    exact ⟨[], _, rfl, rfl⟩
  · rintro y zs ρ d ⟨rfl, ws, x3, hw, rfl⟩
    have hl := rng_split hw
    have p := e_product_of h0 hn hA (hP ws.length (by omega)) hb d
    walk_at "ev"
    exact ⟨ws ++ [y], _, by rw [hw, List.append_assoc]; rfl, by rw [List.length_append]; rfl⟩
  · rintro ρ d ⟨rfl, ws, x3, hw, rfl⟩
    walk_at "ev"
    rw [List.append_nil] at hw
    rw [← hw, List.length_range]
theorem sm_pwM {n N : Nat} {A : Mq} (hA : ∀ i j, i < n → j < n → Sm N (A i j)) : ∀ k B, (∀ i j, i < n → j < n → Sm B (pwM n A k i j)) → ∀ i j, i < n → j < n → Sm (n * (N + B + 1) + 1) (pwM n A (k + 1) i j) := fun k B h i j hi hj => by
  have := sm_sumL (N := N + B) (fun l => A i l * pwM n A k l j) (List.range n) fun l hl => (hA i l hi (List.mem_range.mp hl)).mul (h l j (List.mem_range.mp hl) hj)
  rw [List.length_range] at this
  exact this
/-! M01h -/
theorem tab_wide {ι κ : Type} {I : List ι} {J : List κ} {A : ι → κ → Rat} (hI : I.length ≤ 1000) (hJ : J.length ≤ 1000) : wide2 (tabL I J A) := fun xs h => by
  have e : I.map (fun i => rowL J (A i)) = xs := by
    unfold tabL at h
    injection h
  subst e
  refine ⟨by rw [List.length_map]; exact hI, fun x hx ys hy => ?_⟩
  obtain ⟨i, _, rfl⟩ := List.mem_map.mp hx
  unfold rowL at hy
  have e : J.map (fun j => qD (A i j)) = ys := by injection hy
  subst e
  rw [List.length_map]; exact hJ
section
variable {n : Nat} {A B : Mq} (h0 : 0 < n) (h4 : n ≤ 4) (dr : Dr)
include h0 h4
theorem tt_wide : wide2 (Tt n A) := tab_wide (by rw [List.length_range]; omega) (by rw [List.length_range]; omega)
theorem ck : f_check_table [Tt n A] dr = .ok .non dr := e_check_table (cl_tab _ _ _) (tt_wide h0 h4) (isTab_tab A rfl (by rw [List.length_range]; exact h0) (by rw [List.length_range]; exact h4)) dr
theorem ck2 : f_check_two [Tt n A, Tt n B] dr = .ok .non dr := by
  have c1 := ck (A := A) h0 h4 dr
  have c2 := ck (A := B) h0 h4 dr
  refine ew_of ?_
  unfold f_check_two
  with_reducible refine fw2 ?_
  simp only [List.reduceReplicate]
  unfold m_check_two
  walk_at "ev"
  with_reducible refine ifw_b (fun h => ?_) (fun h => absurd rfl h)
  walk_at "ev"
  rfl
theorem ckr {r : Nat → Rat} : f_check_row [Tt n A, Rw n r] dr = .ok .non dr := by
  have c1 := ck (A := A) h0 h4 dr
  have c2 := e_is_row (d := Rw n r) (n := (n : Int)) (cl_row _ _) (fun xs h => by
    have e : (List.range n).map (fun j => qD (r j)) = xs := by injection h
    subst e
    rw [List.length_map, List.length_range]; omega) dr
  rw [isRow_row (List.range n) r (by rw [List.length_range])] at c2
  refine ew_of ?_
  unfold f_check_row
  with_reducible refine fw2 ?_
  simp only [List.reduceReplicate]
  unfold m_check_row
  walk_at "ev"
  rfl
theorem e_product {N M : Nat} (hA : ∀ i j, i < n → j < n → Sm N (A i j)) (hB : ∀ i j, i < n → j < n → Sm M (B i j)) (hb : n * (N + M + 1) + (N + M) + 1 ≤ 9000) : f_product [Tt n A, Tt n B] dr = .ok (Tt n (mulQ n A B)) dr := by
  have c := ck2 (A := A) (B := B) h0 h4 dr
  have p := e_product_of h0 (by omega) hA hB hb dr
  refine ew_of ?_
  unfold f_product
  with_reducible refine fw2 ?_
  simp only [List.reduceReplicate]
  unfold m_product
  walk_at "ev"
  rfl
theorem e_added {N M : Nat} (hA : ∀ i j, i < n → j < n → Sm N (A i j)) (hB : ∀ i j, i < n → j < n → Sm M (B i j)) (hb : N + M ≤ 9000) : f_added [Tt n A, Tt n B] dr = .ok (Tt n fun i j => A i j + B i j) dr := by
  have c := ck2 (A := A) (B := B) h0 h4 dr
  have p := e_sum_of (by omega) hA hB hb dr
  refine ew_of ?_
  unfold f_added
  with_reducible refine fw2 ?_
  simp only [List.reduceReplicate]
  unfold m_added
  walk_at "ev"
  rfl
theorem e_scaled {N M : Nat} {q : Rat} (hA : ∀ i j, i < n → j < n → Sm N (A i j)) (hq : Sm M q) (hb : N + M ≤ 9000) : f_scaled [Tt n A, qD q] dr = .ok (Tt n fun i j => A i j * q) dr := by
  have c := ck (A := A) h0 h4 dr
  have p := e_scaled_of (by omega) hA hq hb dr
  have r := e_is_ratio (d := qD q) rfl dr
  rw [isQ_qD] at r
  refine ew_of ?_
  unfold f_scaled
  with_reducible refine fw2 ?_
  simp only [List.reduceReplicate]
  unfold m_scaled
  walk_at "ev"
  rfl
theorem e_turned : f_turned [Tt n A] dr = .ok (Tt n fun i j => A j i) dr := by
  have c := ck (A := A) h0 h4 dr
  have p := e_turned_of (A := A) h0 (show n ≤ 1000 by omega) (show n ≤ 1000 by omega) dr
  refine ew_of ?_
  unfold f_turned
  with_reducible refine fw1 ?_
  simp only [List.reduceReplicate]
  unfold m_turned
  walk_at "ev"
  rfl
theorem e_led {N M : Nat} {r : Nat → Rat} (hA : ∀ i j, i < n → j < n → Sm N (A i j)) (hr : ∀ j, j < n → Sm M (r j)) (hb : n * (N + M + 1) + (N + M) + 1 ≤ 9000) : f_led [Tt n A, Rw n r] dr = .ok (Rw n fun i => sumL (List.range n) fun j => A i j * r j) dr := by
  have c := ckr (A := A) (r := r) h0 h4 dr
  have p := e_led_of (by omega) hA hr hb dr
  refine ew_of ?_
  unfold f_led
  with_reducible refine fw2 ?_
  simp only [List.reduceReplicate]
  unfold m_led
  walk_at "ev"
  rfl
theorem e_power_tables {m N M : Nat} (hm : m ≤ 64) (hA : ∀ i j, i < n → j < n → Sm N (A i j)) (hP : ∀ k, k < m → ∀ i j, i < n → j < n → Sm M (pwM n A k i j)) (hb : n * (N + M + 1) + (N + M) + 1 ≤ 9000) : f_power_tables [Tt n A, .int (m : Int)] dr = .ok (Tt n (pwM n A m)) dr := by
  have c := ck (A := A) h0 h4 dr
  have p := e_power_of h0 (by omega) (by omega) hA hP hb dr
  have w : f_is_whole [.int (m : Int)] dr = .ok (.bl true) dr := e_is_whole (d := .int (m : Int)) rfl dr
  refine ew_of ?_
  unfold f_power_tables
  with_reducible refine fw2 ?_
  simp only [List.reduceReplicate]
  unfold m_power_tables
  walk_at "ev"
  with_reducible refine ifw_d (fun h => ?_) (fun h => absurd (by omega) h)
  walk_at "ev"
  with_reducible refine ifw_d (fun h => ?_) (fun h => absurd (by omega) h)
  walk_at "ev"
  rfl
theorem e_trace {N : Nat} (hA : ∀ i j, i < n → j < n → Sm N (A i j)) (hb : n * (N + 1) + N + 1 ≤ 9000) : f_trace [Tt n A] dr = .ok (qD (sumL (List.range n) fun k => A k k)) dr := by
  have c := ck (A := A) h0 h4 dr
  have p := e_total (I := List.range n) (f := fun k => A k k) (N := N) (fun k hk => hA k k (List.mem_range.mp hk) (List.mem_range.mp hk)) (by rw [List.length_range]; exact hb) dr
  refine ew_of ?_
  unfold f_trace
  with_reducible refine fw1 ?_
  simp only [List.reduceReplicate]
  unfold m_trace
  walk_at "ev"
  with_reducible refine lcw_all (fun k : Nat => .int (k : Int)) (fun k => qD (A k k)) (List.range n) (by with_unfolding_all exact rfl) (by walk_at "small") (by walk_at "wipe") (fun k hk => ?_) ?_
  · have hk := List.mem_range.mp hk
    walk_at "ev"
    rfl
  · walk_at "ev"
    rfl
theorem e_greatest {N : Nat} {r : Nat → Rat} (hr : ∀ k, k < n → Sm N (r k)) (hN : N + N ≤ 9000) : f_greatest [Rw n r] dr = .ok (qD (mxR ((List.range n).map fun k => (r k).abs) 0)) dr := by
  have p := e_size_of hr hN dr
  have c2 := e_is_row (d := Rw n r) (n := (n : Int)) (cl_row _ _) (fun xs h => by
    have e : (List.range n).map (fun j => qD (r j)) = xs := by injection h
    subst e
    rw [List.length_map, List.length_range]; omega) dr
  rw [isRow_row (List.range n) r (by rw [List.length_range])] at c2
  refine ew_of ?_
  unfold f_greatest
  with_reducible refine fw1 ?_
  simp only [List.reduceReplicate]
  unfold m_greatest
  walk_at "ev"
  with_reducible refine ifw_d (fun h => ?_) (fun h => absurd (by omega) h)
  walk_at "ev"
  with_reducible refine ifw_d (fun h => ?_) (fun h => absurd (by omega) h)
  walk_at "ev"
  rfl
theorem e_is_nought : f_is_nought [Tt n A] dr = .ok (.bl (!((List.range n).any fun i => (List.range n).any fun j => !((A i j).num == 0)))) dr := by
  have c := ck (A := A) h0 h4 dr
  refine ew_of ?_
  unfold f_is_nought
  with_reducible refine fw1 ?_
  simp only [List.reduceReplicate]
  unfold m_is_nought
  walk_at "ev"
  with_reducible refine lcw_all (fun i => rowL (List.range n) (A i)) (fun i => .bl ((List.range n).any fun j => !((A i j).num == 0))) (List.range n) (by with_unfolding_all exact rfl) (by walk_at "small") (by walk_at "wipe") (fun i hi => ?_) ?_
  · walk_at "ev"
    with_reducible refine lcw_all (fun j => qD (A i j)) (fun j => .bl (!((A i j).num == 0))) (List.range n) (by with_unfolding_all exact rfl) (by walk_at "small") (by walk_at "wipe") (fun j hj => ?_) ?_
    · walk_at "ev"
      rfl
    · walk_at "ev"
      rfl
  · walk_at "ev"
    rfl
theorem e_has_no_minus : f_has_no_minus [Tt n A] dr = .ok (.bl (!((List.range n).any fun i => (List.range n).any fun j => decide ((A i j).num < 0)))) dr := by
  have c := ck (A := A) h0 h4 dr
  refine ew_of ?_
  unfold f_has_no_minus
  with_reducible refine fw1 ?_
  simp only [List.reduceReplicate]
  unfold m_has_no_minus
  walk_at "ev"
  with_reducible refine lcw_all (fun i => rowL (List.range n) (A i)) (fun i => .bl ((List.range n).any fun j => decide ((A i j).num < 0))) (List.range n) (by with_unfolding_all exact rfl) (by walk_at "small") (by walk_at "wipe") (fun i hi => ?_) ?_
  · walk_at "ev"
    with_reducible refine lcw_all (fun j => qD (A i j)) (fun j => .bl (decide ((A i j).num < 0))) (List.range n) (by with_unfolding_all exact rfl) (by walk_at "small") (by walk_at "wipe") (fun j hj => ?_) ?_
    · walk_at "ev"
      rfl
    · walk_at "ev"
      rfl
  · walk_at "ev"
    rfl
theorem e_unit : f_unit [.int (n : Int)] dr = .ok (Tt n idQ) dr := by
  have u := e_unit_of (n := n) (by omega) dr
  have w : f_is_whole [.int (n : Int)] dr = .ok (.bl true) dr := e_is_whole (d := .int (n : Int)) rfl dr
  refine ew_of ?_
  unfold f_unit
  with_reducible refine fw1 ?_
  simp only [List.reduceReplicate]
  unfold m_unit
  walk_at "ev"
  with_reducible refine ifw_d (fun h => ?_) (fun h => absurd (by omega) h)
  walk_at "ev"
  with_reducible refine ifw_d (fun h => ?_) (fun h => absurd (by omega) h)
  walk_at "ev"
  rfl
end
/-! M01i -/
abbrev bd : D := .str "<malformed>"
abbrev askL : List D := [.fn "product", .fn "added", .fn "scaled", .fn "turned", .fn "power_tables", .fn "led", .fn "trace", .fn "rank", .fn "back", .fn "greatest", .fn "is_nought", .fn "has_no_minus", .fn "slanted", .fn "unit", .fn "over", .fn "ratio"]
abbrev ask1T : Tbl := [("turned", f_turned), ("trace", f_trace), ("rank", f_rank), ("back", f_back), ("greatest", f_greatest), ("is_nought", f_is_nought), ("has_no_minus", f_has_no_minus), ("unit", f_unit)]
abbrev ask2T : Tbl := [("product", f_product), ("added", f_added), ("scaled", f_scaled), ("power_tables", f_power_tables), ("led", f_led), ("slanted", f_slanted), ("over", f_over), ("ratio", f_ratio)]
theorem ask_1 {k : Int} {x : Str} {K : CF} {d r : D} {dr : Dr} (hx : gIx (.lst false askL) (.int k) = some (.fn x)) (hK : fnOf ask1T (.fn x) = some K) (h : K [d] dr = .ok r dr) (z : d.fz = d) (y : d.frz = true) : f__law_ask [.int k, .tup [d]] dr = .ok r dr := by
  have zL : D.fzs askL = askL := rfl
  refine ew_of ?_
  unfold f__law_ask
  with_reducible refine fw2 ?_
  simp only [List.reduceReplicate]
  unfold m__law_ask
  walk_at "ev"
  with_reducible refine ifw_b (fun h => ?_) (fun h => absurd rfl h)
  walk_at "ev"
  with_reducible refine callw hK ?_
  walk_at "ev"
  rfl
theorem bad_1 {k : Int} {x : Str} {K : CF} {d : D} {dr : Dr} (hx : gIx (.lst false askL) (.int k) = some (.fn x)) (hK : fnOf ask1T (.fn x) = some K) (h : K [d] dr = .ex mal dr) (z : d.fz = d) (y : d.frz = true) : f__law_ask [.int k, .tup [d]] dr = .ok bd dr := by
  have zL : D.fzs askL = askL := rfl
  refine ew_of ?_
  unfold f__law_ask
  with_reducible refine fw2 ?_
  simp only [List.reduceReplicate]
  unfold m__law_ask
  walk_at "ev"
  with_reducible refine ifw_b (fun h => ?_) (fun h => absurd rfl h)
  walk_at "ev"
  with_reducible refine callw hK ?_
  walk_at "ev"
  intro e ρ d z
  cases z
theorem ask_2 {k : Int} {x : Str} {K : CF} {d e r : D} {dr : Dr} (hx : gIx (.lst false askL) (.int k) = some (.fn x)) (hK : fnOf ask2T (.fn x) = some K) (h : K [d, e] dr = .ok r dr) (z : d.fz = d) (y : d.frz = true) (z2 : e.fz = e) (y2 : e.frz = true) : f__law_ask [.int k, .tup [d, e]] dr = .ok r dr := by
  have zL : D.fzs askL = askL := rfl
  refine ew_of ?_
  unfold f__law_ask
  with_reducible refine fw2 ?_
  simp only [List.reduceReplicate]
  unfold m__law_ask
  walk_at "ev"
  with_reducible refine ifw_b (fun h => absurd h (by simp)) (fun h => ?_)
  walk_at "ev"
  with_reducible refine callw hK ?_
  walk_at "ev"
  rfl
theorem bad_2 {k : Int} {x : Str} {K : CF} {d e : D} {dr : Dr} (hx : gIx (.lst false askL) (.int k) = some (.fn x)) (hK : fnOf ask2T (.fn x) = some K) (h : K [d, e] dr = .ex mal dr) (z : d.fz = d) (y : d.frz = true) (z2 : e.fz = e) (y2 : e.frz = true) : f__law_ask [.int k, .tup [d, e]] dr = .ok bd dr := by
  have zL : D.fzs askL = askL := rfl
  refine ew_of ?_
  unfold f__law_ask
  with_reducible refine fw2 ?_
  simp only [List.reduceReplicate]
  unfold m__law_ask
  walk_at "ev"
  with_reducible refine ifw_b (fun h => absurd h (by simp)) (fun h => ?_)
  walk_at "ev"
  with_reducible refine callw hK ?_
  walk_at "ev"
  intro e ρ d z
  cases z
theorem ask_product {d e r : D} {dr : Dr} (h : f_product [d, e] dr = .ok r dr) (z : d.fz = d) (y : d.frz = true) (z2 : e.fz = e) (y2 : e.frz = true) : f__law_ask [.int 0, .tup [d, e]] dr = .ok r dr := ask_2 (x := "product") rfl rfl h z y z2 y2
theorem bad_product {d e : D} {dr : Dr} (h : f_product [d, e] dr = .ex mal dr) (z : d.fz = d) (y : d.frz = true) (z2 : e.fz = e) (y2 : e.frz = true) : f__law_ask [.int 0, .tup [d, e]] dr = .ok bd dr := bad_2 (x := "product") rfl rfl h z y z2 y2
theorem ask_added {d e r : D} {dr : Dr} (h : f_added [d, e] dr = .ok r dr) (z : d.fz = d) (y : d.frz = true) (z2 : e.fz = e) (y2 : e.frz = true) : f__law_ask [.int 1, .tup [d, e]] dr = .ok r dr := ask_2 (x := "added") rfl rfl h z y z2 y2
theorem bad_added {d e : D} {dr : Dr} (h : f_added [d, e] dr = .ex mal dr) (z : d.fz = d) (y : d.frz = true) (z2 : e.fz = e) (y2 : e.frz = true) : f__law_ask [.int 1, .tup [d, e]] dr = .ok bd dr := bad_2 (x := "added") rfl rfl h z y z2 y2
theorem ask_scaled {d e r : D} {dr : Dr} (h : f_scaled [d, e] dr = .ok r dr) (z : d.fz = d) (y : d.frz = true) (z2 : e.fz = e) (y2 : e.frz = true) : f__law_ask [.int 2, .tup [d, e]] dr = .ok r dr := ask_2 (x := "scaled") rfl rfl h z y z2 y2
theorem bad_scaled {d e : D} {dr : Dr} (h : f_scaled [d, e] dr = .ex mal dr) (z : d.fz = d) (y : d.frz = true) (z2 : e.fz = e) (y2 : e.frz = true) : f__law_ask [.int 2, .tup [d, e]] dr = .ok bd dr := bad_2 (x := "scaled") rfl rfl h z y z2 y2
theorem ask_turned {d r : D} {dr : Dr} (h : f_turned [d] dr = .ok r dr) (z : d.fz = d) (y : d.frz = true) : f__law_ask [.int 3, .tup [d]] dr = .ok r dr := ask_1 (x := "turned") rfl rfl h z y
theorem bad_turned {d : D} {dr : Dr} (h : f_turned [d] dr = .ex mal dr) (z : d.fz = d) (y : d.frz = true) : f__law_ask [.int 3, .tup [d]] dr = .ok bd dr := bad_1 (x := "turned") rfl rfl h z y
theorem ask_power_tables {d e r : D} {dr : Dr} (h : f_power_tables [d, e] dr = .ok r dr) (z : d.fz = d) (y : d.frz = true) (z2 : e.fz = e) (y2 : e.frz = true) : f__law_ask [.int 4, .tup [d, e]] dr = .ok r dr := ask_2 (x := "power_tables") rfl rfl h z y z2 y2
theorem bad_power_tables {d e : D} {dr : Dr} (h : f_power_tables [d, e] dr = .ex mal dr) (z : d.fz = d) (y : d.frz = true) (z2 : e.fz = e) (y2 : e.frz = true) : f__law_ask [.int 4, .tup [d, e]] dr = .ok bd dr := bad_2 (x := "power_tables") rfl rfl h z y z2 y2
theorem ask_led {d e r : D} {dr : Dr} (h : f_led [d, e] dr = .ok r dr) (z : d.fz = d) (y : d.frz = true) (z2 : e.fz = e) (y2 : e.frz = true) : f__law_ask [.int 5, .tup [d, e]] dr = .ok r dr := ask_2 (x := "led") rfl rfl h z y z2 y2
theorem bad_led {d e : D} {dr : Dr} (h : f_led [d, e] dr = .ex mal dr) (z : d.fz = d) (y : d.frz = true) (z2 : e.fz = e) (y2 : e.frz = true) : f__law_ask [.int 5, .tup [d, e]] dr = .ok bd dr := bad_2 (x := "led") rfl rfl h z y z2 y2
theorem ask_trace {d r : D} {dr : Dr} (h : f_trace [d] dr = .ok r dr) (z : d.fz = d) (y : d.frz = true) : f__law_ask [.int 6, .tup [d]] dr = .ok r dr := ask_1 (x := "trace") rfl rfl h z y
theorem bad_trace {d : D} {dr : Dr} (h : f_trace [d] dr = .ex mal dr) (z : d.fz = d) (y : d.frz = true) : f__law_ask [.int 6, .tup [d]] dr = .ok bd dr := bad_1 (x := "trace") rfl rfl h z y
theorem ask_rank {d r : D} {dr : Dr} (h : f_rank [d] dr = .ok r dr) (z : d.fz = d) (y : d.frz = true) : f__law_ask [.int 7, .tup [d]] dr = .ok r dr := ask_1 (x := "rank") rfl rfl h z y
theorem bad_rank {d : D} {dr : Dr} (h : f_rank [d] dr = .ex mal dr) (z : d.fz = d) (y : d.frz = true) : f__law_ask [.int 7, .tup [d]] dr = .ok bd dr := bad_1 (x := "rank") rfl rfl h z y
theorem ask_back {d r : D} {dr : Dr} (h : f_back [d] dr = .ok r dr) (z : d.fz = d) (y : d.frz = true) : f__law_ask [.int 8, .tup [d]] dr = .ok r dr := ask_1 (x := "back") rfl rfl h z y
theorem bad_back {d : D} {dr : Dr} (h : f_back [d] dr = .ex mal dr) (z : d.fz = d) (y : d.frz = true) : f__law_ask [.int 8, .tup [d]] dr = .ok bd dr := bad_1 (x := "back") rfl rfl h z y
theorem ask_greatest {d r : D} {dr : Dr} (h : f_greatest [d] dr = .ok r dr) (z : d.fz = d) (y : d.frz = true) : f__law_ask [.int 9, .tup [d]] dr = .ok r dr := ask_1 (x := "greatest") rfl rfl h z y
theorem bad_greatest {d : D} {dr : Dr} (h : f_greatest [d] dr = .ex mal dr) (z : d.fz = d) (y : d.frz = true) : f__law_ask [.int 9, .tup [d]] dr = .ok bd dr := bad_1 (x := "greatest") rfl rfl h z y
theorem ask_is_nought {d r : D} {dr : Dr} (h : f_is_nought [d] dr = .ok r dr) (z : d.fz = d) (y : d.frz = true) : f__law_ask [.int 10, .tup [d]] dr = .ok r dr := ask_1 (x := "is_nought") rfl rfl h z y
theorem bad_is_nought {d : D} {dr : Dr} (h : f_is_nought [d] dr = .ex mal dr) (z : d.fz = d) (y : d.frz = true) : f__law_ask [.int 10, .tup [d]] dr = .ok bd dr := bad_1 (x := "is_nought") rfl rfl h z y
theorem ask_has_no_minus {d r : D} {dr : Dr} (h : f_has_no_minus [d] dr = .ok r dr) (z : d.fz = d) (y : d.frz = true) : f__law_ask [.int 11, .tup [d]] dr = .ok r dr := ask_1 (x := "has_no_minus") rfl rfl h z y
theorem bad_has_no_minus {d : D} {dr : Dr} (h : f_has_no_minus [d] dr = .ex mal dr) (z : d.fz = d) (y : d.frz = true) : f__law_ask [.int 11, .tup [d]] dr = .ok bd dr := bad_1 (x := "has_no_minus") rfl rfl h z y
theorem ask_slanted {d e r : D} {dr : Dr} (h : f_slanted [d, e] dr = .ok r dr) (z : d.fz = d) (y : d.frz = true) (z2 : e.fz = e) (y2 : e.frz = true) : f__law_ask [.int 12, .tup [d, e]] dr = .ok r dr := ask_2 (x := "slanted") rfl rfl h z y z2 y2
theorem bad_slanted {d e : D} {dr : Dr} (h : f_slanted [d, e] dr = .ex mal dr) (z : d.fz = d) (y : d.frz = true) (z2 : e.fz = e) (y2 : e.frz = true) : f__law_ask [.int 12, .tup [d, e]] dr = .ok bd dr := bad_2 (x := "slanted") rfl rfl h z y z2 y2
theorem ask_unit {d r : D} {dr : Dr} (h : f_unit [d] dr = .ok r dr) (z : d.fz = d) (y : d.frz = true) : f__law_ask [.int 13, .tup [d]] dr = .ok r dr := ask_1 (x := "unit") rfl rfl h z y
theorem bad_unit {d : D} {dr : Dr} (h : f_unit [d] dr = .ex mal dr) (z : d.fz = d) (y : d.frz = true) : f__law_ask [.int 13, .tup [d]] dr = .ok bd dr := bad_1 (x := "unit") rfl rfl h z y
theorem ask_over {d e r : D} {dr : Dr} (h : f_over [d, e] dr = .ok r dr) (z : d.fz = d) (y : d.frz = true) (z2 : e.fz = e) (y2 : e.frz = true) : f__law_ask [.int 14, .tup [d, e]] dr = .ok r dr := ask_2 (x := "over") rfl rfl h z y z2 y2
theorem bad_over {d e : D} {dr : Dr} (h : f_over [d, e] dr = .ex mal dr) (z : d.fz = d) (y : d.frz = true) (z2 : e.fz = e) (y2 : e.frz = true) : f__law_ask [.int 14, .tup [d, e]] dr = .ok bd dr := bad_2 (x := "over") rfl rfl h z y z2 y2
theorem ask_ratio {d e r : D} {dr : Dr} (h : f_ratio [d, e] dr = .ok r dr) (z : d.fz = d) (y : d.frz = true) (z2 : e.fz = e) (y2 : e.frz = true) : f__law_ask [.int 15, .tup [d, e]] dr = .ok r dr := ask_2 (x := "ratio") rfl rfl h z y z2 y2
theorem bad_ratio {d e : D} {dr : Dr} (h : f_ratio [d, e] dr = .ex mal dr) (z : d.fz = d) (y : d.frz = true) (z2 : e.fz = e) (y2 : e.frz = true) : f__law_ask [.int 15, .tup [d, e]] dr = .ok bd dr := bad_2 (x := "ratio") rfl rfl h z y z2 y2
/-! M01l -/
theorem x_turned {d : D} (h : d.cl = true) (hl : wide2 d) (t : isTab d = false) (dr : Dr) : f_turned [d] dr = .ex mal dr := by
  have c := x_check_table h hl t dr
  have z := fz_cl d h
  have y := frz_cl h
  refine ew_ofx ?_
  unfold f_turned
  with_reducible refine fw1 ?_
  simp only [List.reduceReplicate]
  unfold m_turned
  walk_at "ev"
  rfl
theorem x_trace {d : D} (h : d.cl = true) (hl : wide2 d) (t : isTab d = false) (dr : Dr) : f_trace [d] dr = .ex mal dr := by
  have c := x_check_table h hl t dr
  have z := fz_cl d h
  have y := frz_cl h
  refine ew_ofx ?_
  unfold f_trace
  with_reducible refine fw1 ?_
  simp only [List.reduceReplicate]
  unfold m_trace
  walk_at "ev"
  rfl
theorem x_rank {d : D} (h : d.cl = true) (hl : wide2 d) (t : isTab d = false) (dr : Dr) : f_rank [d] dr = .ex mal dr := by
  have c := x_check_table h hl t dr
  have z := fz_cl d h
  have y := frz_cl h
  refine ew_ofx ?_
  unfold f_rank
  with_reducible refine fw1 ?_
  simp only [List.reduceReplicate]
  unfold m_rank
  walk_at "ev"
  rfl
theorem x_back {d : D} (h : d.cl = true) (hl : wide2 d) (t : isTab d = false) (dr : Dr) : f_back [d] dr = .ex mal dr := by
  have c := x_check_table h hl t dr
  have z := fz_cl d h
  have y := frz_cl h
  refine ew_ofx ?_
  unfold f_back
  with_reducible refine fw1 ?_
  simp only [List.reduceReplicate]
  unfold m_back
  walk_at "ev"
  rfl
theorem x_is_nought {d : D} (h : d.cl = true) (hl : wide2 d) (t : isTab d = false) (dr : Dr) : f_is_nought [d] dr = .ex mal dr := by
  have c := x_check_table h hl t dr
  have z := fz_cl d h
  have y := frz_cl h
  refine ew_ofx ?_
  unfold f_is_nought
  with_reducible refine fw1 ?_
  simp only [List.reduceReplicate]
  unfold m_is_nought
  walk_at "ev"
  rfl
theorem x_has_no_minus {d : D} (h : d.cl = true) (hl : wide2 d) (t : isTab d = false) (dr : Dr) : f_has_no_minus [d] dr = .ex mal dr := by
  have c := x_check_table h hl t dr
  have z := fz_cl d h
  have y := frz_cl h
  refine ew_ofx ?_
  unfold f_has_no_minus
  with_reducible refine fw1 ?_
  simp only [List.reduceReplicate]
  unfold m_has_no_minus
  walk_at "ev"
  rfl
section
variable {n : Nat} {A B : Mq} (h0 : 0 < n) (h4 : n ≤ 4) (dr : Dr)
include h0 h4
theorem x_check_two {e : D} (h : e.cl = true) (hl : wide2 e) (t : isTab e = false) : f_check_two [Tt n A, e] dr = .ex mal dr := by
  have c1 := ck (A := A) h0 h4 dr
  have c2 := x_check_table h hl t dr
  have z := fz_cl e h
  have y := frz_cl h
  refine ew_ofx ?_
  unfold f_check_two
  with_reducible refine fw2 ?_
  simp only [List.reduceReplicate]
  unfold m_check_two
  walk_at "ev"
  rfl
theorem x_product {e : D} (h : e.cl = true) (hl : wide2 e) (t : isTab e = false) : f_product [Tt n A, e] dr = .ex mal dr := by
  have c := x_check_two (A := A) h0 h4 dr h hl t
  have z := fz_cl e h
  have y := frz_cl h
  refine ew_ofx ?_
  unfold f_product
  with_reducible refine fw2 ?_
  simp only [List.reduceReplicate]
  unfold m_product
  walk_at "ev"
  rfl
theorem x_added {e : D} (h : e.cl = true) (hl : wide2 e) (t : isTab e = false) : f_added [Tt n A, e] dr = .ex mal dr := by
  have c := x_check_two (A := A) h0 h4 dr h hl t
  have z := fz_cl e h
  have y := frz_cl h
  refine ew_ofx ?_
  unfold f_added
  with_reducible refine fw2 ?_
  simp only [List.reduceReplicate]
  unfold m_added
  walk_at "ev"
  rfl
theorem x_scaled {e : D} (h : e.cl = true) (t : e.isQ = false) : f_scaled [Tt n A, e] dr = .ex mal dr := by
  have c := ck (A := A) h0 h4 dr
  have r := e_is_ratio h dr
  rw [t] at r
  have z := fz_cl e h
  have y := frz_cl h
  refine ew_ofx ?_
  unfold f_scaled
  with_reducible refine fw2 ?_
  simp only [List.reduceReplicate]
  unfold m_scaled
  walk_at "ev"
  rfl
theorem x_led {e : D} (h : e.cl = true) (hl : ∀ xs, e = .tup xs → xs.length ≤ 1000) (t : isRow (n : Int) e = false) : f_led [Tt n A, e] dr = .ex mal dr := by
  have c1 := ck (A := A) h0 h4 dr
  have r := e_is_row h (n := (n : Int)) hl dr
  rw [t] at r
  have z := fz_cl e h
  have y := frz_cl h
  have c : f_check_row [Tt n A, e] dr = .ex mal dr := by
    refine ew_ofx ?_
    unfold f_check_row
    with_reducible refine fw2 ?_
    simp only [List.reduceReplicate]
    unfold m_check_row
    walk_at "ev"
    rfl
  refine ew_ofx ?_
  unfold f_led
  with_reducible refine fw2 ?_
  simp only [List.reduceReplicate]
  unfold m_led
  walk_at "ev"
  rfl
theorem x_power_b : f_power_tables [Tt n A, .bl true] dr = .ex mal dr := by
  have c := ck (A := A) h0 h4 dr
  have w : f_is_whole [.bl true] dr = .ok (.bl false) dr := e_is_whole (d := .bl true) rfl dr
  refine ew_ofx ?_
  unfold f_power_tables
  with_reducible refine fw2 ?_
  simp only [List.reduceReplicate]
  unfold m_power_tables
  walk_at "ev"
  rfl
theorem x_power {m : Int} (hm : m < 0 ∨ 64 < m) : f_power_tables [Tt n A, .int m] dr = .ex mal dr := by
  have c := ck (A := A) h0 h4 dr
  have w : f_is_whole [.int m] dr = .ok (.bl true) dr := e_is_whole (d := .int m) rfl dr
  refine ew_ofx ?_
  unfold f_power_tables
  with_reducible refine fw2 ?_
  simp only [List.reduceReplicate]
  unfold m_power_tables
  walk_at "ev"
  with_reducible refine ifw_d (fun h => ?_) (fun h => ?_)
  · walk_at "ev"
    with_reducible refine ifw_d (fun h => absurd hm (by omega)) (fun h => ?_)
    walk_at "ev"
    rfl
  · walk_at "ev"
    rfl
theorem x_slanted {e : D} (h : e.cl = true) (hl : wide2 e) (t : isTab e = false) : f_slanted [Tt n A, e] dr = .ex mal dr := by
  have c1 := ck (A := A) h0 h4 dr
  have c2 := x_check_table h hl t dr
  have z := fz_cl e h
  have y := frz_cl h
  refine ew_ofx ?_
  unfold f_slanted
  with_reducible refine fw2 ?_
  simp only [List.reduceReplicate]
  unfold m_slanted
  walk_at "ev"
  rfl
theorem x_slanted_l {m : Nat} (m0 : 0 < m) (m4 : m ≤ 4) (hm : 4 < n + m) : f_slanted [Tt n A, Tt m B] dr = .ex mal dr := by
  have c1 := ck (A := A) h0 h4 dr
  have c2 := ck (A := B) m0 m4 dr
  refine ew_ofx ?_
  unfold f_slanted
  with_reducible refine fw2 ?_
  simp only [List.reduceReplicate]
  unfold m_slanted
  walk_at "ev"
  with_reducible refine ifw_d (fun h => ?_) (fun h => absurd (by omega) h)
  walk_at "ev"
  rfl
end
theorem x_greatest_n (dr : Dr) : f_greatest [.non] dr = .ex mal dr := by
  refine ew_ofx ?_
  unfold f_greatest
  with_reducible refine fw1 ?_
  simp only [List.reduceReplicate]
  unfold m_greatest
  walk_at "ev"
  rfl
theorem x_greatest {xs : List D} (h : (D.tup xs).cl = true) (t : xs.length = 0 ∨ 4 < xs.length) (dr : Dr) : f_greatest [.tup xs] dr = .ex mal dr := by
  have z := fz_cl _ h
  have y := frz_cl h
  refine ew_ofx ?_
  unfold f_greatest
  with_reducible refine fw1 ?_
  simp only [List.reduceReplicate]
  unfold m_greatest
  walk_at "ev"
  with_reducible refine ifw_d (fun h => ?_) (fun h => ?_)
  · walk_at "ev"
    with_reducible refine ifw_d (fun h => absurd t (by omega)) (fun h => ?_)
    walk_at "ev"
    rfl
  · walk_at "ev"
    rfl
theorem x_unit_0 (dr : Dr) : f_unit [.int 0] dr = .ex mal dr := by
  have w : f_is_whole [.int 0] dr = .ok (.bl true) dr := e_is_whole (d := .int 0) rfl dr
  refine ew_ofx ?_
  unfold f_unit
  with_reducible refine fw1 ?_
  simp only [List.reduceReplicate]
  unfold m_unit
  walk_at "ev"
  with_reducible refine ifw_d (fun h => absurd h (by decide)) (fun h => ?_)
  walk_at "ev"
  rfl
theorem x_unit_5 (dr : Dr) : f_unit [.int 5] dr = .ex mal dr := by
  have w : f_is_whole [.int 5] dr = .ok (.bl true) dr := e_is_whole (d := .int 5) rfl dr
  refine ew_ofx ?_
  unfold f_unit
  with_reducible refine fw1 ?_
  simp only [List.reduceReplicate]
  unfold m_unit
  walk_at "ev"
  with_reducible refine ifw_d (fun h => ?_) (fun h => absurd (by decide) h)
  walk_at "ev"
  with_reducible refine ifw_d (fun h => absurd h (by decide)) (fun h => ?_)
  walk_at "ev"
  rfl
theorem x_unit_b (dr : Dr) : f_unit [.bl true] dr = .ex mal dr := by
  have w : f_is_whole [.bl true] dr = .ok (.bl false) dr := e_is_whole (d := .bl true) rfl dr
  refine ew_ofx ?_
  unfold f_unit
  with_reducible refine fw1 ?_
  simp only [List.reduceReplicate]
  unfold m_unit
  walk_at "ev"
  rfl
/-! two tables put on a slant -/
def zs (m : Nat) : List D := List.replicate m (.tup [.int 0, .int 1])
def crn (n m : Nat) (A B : Mq) : List D := ((List.range n).map fun i => .tup ((List.range n).map (fun j => qD (A i j)) ++ zs m)) ++ (List.range m).map fun i => .tup (zs n ++ (List.range m).map fun j => qD (B i j))
theorem zs_mul {m : Nat} (hm : m ≤ 1000) : gMul (.tup [.tup [.int 0, .int 1]]) (.int (m : Int)) = some (.tup (zs m)) := by
  show (if decide (-(2 ^ 63) ≤ (m : Int)) && decide ((m : Int) ≤ 1000) && decide (([D.tup [.int 0, .int 1]] : List D).length ≤ 1000) then some (D.tup (List.replicate (m : Int).toNat [D.tup [.int 0, .int 1]]).flatten) else none) = _
  rw [if_pos (by
    rw [decide_eq_true (show -(2 ^ 63) ≤ (m : Int) by omega), decide_eq_true (show (m : Int) ≤ 1000 by omega)]
    rfl)]
  congr 2
  rw [Int.toNat_natCast]
  unfold zs
  rw [rep_rng, List.map_const', List.length_range]
theorem add_tups (xs ys : List D) (h : xs.length + ys.length ≤ 1000) : gAdd (.tup xs) (.tup ys) = some (.tup (xs ++ ys)) := if_pos (by rw [sizeLine_eq]; omega)
theorem add_lists (o o' : Bool) (xs ys : List D) (h : xs.length + ys.length ≤ 1000) (hx : xs.all D.frz = true) (hy : ys.all D.frz = true) : gAdd (.lst o xs) (.lst o' ys) = some (.lst true (xs ++ ys)) := by
  show (if xs.length + ys.length ≤ sizeLine && xs.all D.frz && ys.all D.frz then some (D.lst true (xs ++ ys)) else none) = _
  rw [hx, hy, sizeLine_eq, decide_eq_true (show xs.length + ys.length ≤ 16777216 by omega)]
  rfl
theorem e_corner_blocks {n m : Nat} {A B : Mq} (hn : n ≤ 100) (hm : m ≤ 100) (dr : Dr) : f_corner_blocks [Tt n A, Tt m B] dr = .ok (.tup (crn n m A B)) dr := by
  have z1 := zs_mul (m := m) (by omega)
  have z2 := zs_mul (m := n) (by omega)
  have lz : ∀ k, (zs k).length = k := fun k => List.length_replicate
  refine ew_of ?_
  unfold f_corner_blocks
  with_reducible refine fw2 ?_
  simp only [List.reduceReplicate]
  unfold m_corner_blocks
  walk_at "ev"
  with_reducible refine lcw_all (fun i => rowL (List.range n) (A i)) (fun i => .tup ((List.range n).map (fun j => qD (A i j)) ++ zs m)) (List.range n) (by with_unfolding_all exact rfl) (by walk_at "small") (by walk_at "wipe") (fun i hi => ?_) ?_
  · have a : gAdd (rowL (List.range n) (A i)) (.tup (zs m)) = some (.tup ((List.range n).map (fun j => qD (A i j)) ++ zs m)) := add_tups _ _ (by rw [List.length_map, List.length_range, lz]; omega)
    walk_at "ev"
    rfl
  · walk_at "ev"
    with_reducible refine lcw_all (fun i => rowL (List.range m) (B i)) (fun i => .tup (zs n ++ (List.range m).map (fun j => qD (B i j)))) (List.range m) (by with_unfolding_all exact rfl) (by walk_at "small") (by walk_at "wipe") (fun i hi => ?_) ?_
    · have a : gAdd (.tup (zs n)) (rowL (List.range m) (B i)) = some (.tup (zs n ++ (List.range m).map (fun j => qD (B i j)))) := add_tups _ _ (by rw [List.length_map, List.length_range, lz]; omega)
      walk_at "ev"
      rfl
    · have a : gAdd (.lst false ((List.range n).map fun i => .tup ((List.range n).map (fun j => qD (A i j)) ++ zs m))) (.lst true ((List.range m).map fun i => .tup (zs n ++ (List.range m).map (fun j => qD (B i j))))) = some (.lst true (crn n m A B)) := add_lists _ _ _ _ (by rw [List.length_map, List.length_range, List.length_map, List.length_range]; omega) (all_frz _ _ fun _ => rfl) (all_frz _ _ fun _ => rfl)
      have t : gTuple [.lst true (crn n m A B)] = some (.tup (crn n m A B)) := by
        show (if (crn n m A B).all D.frz then some (D.tup (crn n m A B)) else none) = _
        rw [show (crn n m A B).all D.frz = true from by
          unfold crn
          rw [List.all_append, all_frz _ _ fun _ => rfl, all_frz _ _ fun _ => rfl]
          rfl]
        rfl
      walk_at "ev"
      rfl
theorem e_slanted {n m : Nat} {A B : Mq} (h0 : 0 < n) (h4 : n ≤ 4) (m0 : 0 < m) (m4 : m ≤ 4) (hm : n + m ≤ 4) (dr : Dr) : f_slanted [Tt n A, Tt m B] dr = .ok (.tup (crn n m A B)) dr := by
  have c1 := ck (A := A) h0 h4 dr
  have c2 := ck (A := B) m0 m4 dr
  have b := e_corner_blocks (A := A) (B := B) (show n ≤ 100 by omega) (show m ≤ 100 by omega) dr
  refine ew_of ?_
  unfold f_slanted
  with_reducible refine fw2 ?_
  simp only [List.reduceReplicate]
  unfold m_slanted
  walk_at "ev"
  with_reducible refine ifw_d (fun h => absurd h (by omega)) (fun h => ?_)
  walk_at "ev"
  rfl
end K01
/-! MQ3 -/
/-! MQ3: one column of an elimination, all rows. -/
namespace DL
def RowsOf (n : Nat) (W : Nat → Vq) : Vq → Prop := fun r => ∃ i, i < n ∧ r = W i
def RowsIn (d n : Nat) (W : Nat → Vq) : Vq → Prop := fun r => ∃ i, d ≤ i ∧ i < n ∧ r = W i
def bN (N : Nat) : Nat → Nat
  | 0 => N
  | d + 1 => 4 * bN N d + 2
theorem bN_le {N : Nat} : ∀ {d e : Nat}, d ≤ e → bN N d ≤ bN N e := fun {d e} h => by
  induction e with
  | zero => rw [Nat.le_zero.mp h]; exact Nat.le_refl _
  | succ e ih =>
    rcases Nat.lt_succ_iff_lt_or_eq.mp (Nat.lt_succ_of_le h) with z | z
    · have := ih (Nat.lt_succ_iff.mp z)
      show _ ≤ 4 * bN N e + 2
      omega
    · rw [z]; exact Nat.le_refl _
structure Cl (n m N : Nat) (W : Nat → Vq) (c : Nat) (R : Nat → Vq) (L : List Nat) : Prop where
  hL : L = heads (RowsOf n W) c
  le : L.length ≤ n
  lft : Lft (RowsOf n W) c (RowsIn L.length n R)
  one : ∀ i t, i < L.length → t < L.length → R i (L.getD t 0) = if i = t then 1 else 0
  sp : ∀ i, i < n → Sp (RowsOf n W) (R i)
  back : ∀ j, j < n → Sp (RowsOf n R) (W j)
  sz : ∀ i k, i < n → k < m → Sm (bN N L.length) (R i k)
theorem cl_0 {n m N : Nat} {W : Nat → Vq} (h : ∀ i k, i < n → k < m → Sm N (W i k)) : Cl n m N W 0 W [] where
  hL := rfl
  le := Nat.zero_le _
  lft := by
    have e : RowsIn ([] : List Nat).length n W = RowsOf n W := by
      funext r
      refine propext ⟨fun ⟨i, _, a, b⟩ => ⟨i, a, b⟩, fun ⟨i, a, b⟩ => ⟨i, Nat.zero_le _, a, b⟩⟩
    rw [e]; exact lft_0
  one := fun i t hi _ => absurd hi (Nat.not_lt_zero _)
  sp := fun i hi => .mem ⟨i, hi, rfl⟩
  back := fun j hj => .mem ⟨j, hj, rfl⟩
  sz := h
theorem Cl.skip {n m N : Nat} {W R : Nat → Vq} {c : Nat} {L : List Nat} (C : Cl n m N W c R L) (h : ∀ i, L.length ≤ i → i < n → R i c = 0) : Cl n m N W (c + 1) R L where
  hL := by
    rw [heads_f, C.hL.symm]
    rw [C.lft.pv]
    rintro ⟨r, ⟨i, a, b, rfl⟩, k⟩
    exact k (h i a b)
  le := C.le
  lft := C.lft.skip fun r ⟨i, a, b, e⟩ => by rw [e]; exact h i a b
  one := C.one
  sp := C.sp
  back := C.back
  sz := C.sz
/-- the rows behind the exchange -/
def swp (d p : Nat) (R : Nat → Vq) : Nat → Vq := fun x => if x = p then R d else if x = d then R p else R x
/-- the rows behind the column -/
def stp (d p c : Nat) (R : Nat → Vq) : Nat → Vq := fun x => if x = d then fun k => R p k / R p c else red c (R p) (swp d p R x)
theorem Cl.piv {n m N p : Nat} {W R : Nat → Vq} {c : Nat} {L : List Nat} (C : Cl n m N W c R L) (p1 : L.length ≤ p) (p2 : p < n) (h0 : R p c ≠ 0) (hc : c < m) : Cl n m N W (c + 1) (stp L.length p c R) (L ++ [c]) := by
  have hp : RowsIn L.length n R (R p) := ⟨p, p1, p2, rfl⟩
  have ll : (L ++ [c]).length = L.length + 1 := by rw [List.length_append]; rfl
  have Lc : ∀ t, t < L.length → L.getD t 0 < c := fun t ht => by
    rw [List.getD_eq_getElem?_getD, List.getElem?_eq_getElem ht]
    have : L[t] ∈ L := List.getElem_mem ht
    have h2 : L[t] ∈ heads (RowsOf n W) c := C.hL ▸ this
    exact heads_lt h2
  have inR : ∀ i, i < n → ∀ x, x ≠ L.length → x < n → ∃ y, y < n ∧ swp L.length p R x = R y ∧ (L.length ≤ x → L.length ≤ y) := fun i hi x hx hxn => by
    unfold swp
    by_cases e : x = p
    · rw [if_pos e]; exact ⟨L.length, by omega, rfl, fun _ => Nat.le_refl _⟩
    · rw [if_neg e, if_neg hx]; exact ⟨x, hxn, rfl, fun z => z⟩
  refine ⟨?_, by rw [ll]; omega, ?_, ?_, ?_, ?_, ?_⟩
  · rw [heads_t (C.lft.pv.mpr ⟨R p, hp, h0⟩), ← C.hL]
  · rw [ll]
    refine C.lft.piv hp h0 ?_ ?_
    · rintro r' ⟨i, a, b, rfl⟩
      obtain ⟨y, y1, y2, y3⟩ := inR i b i (by omega) b
      refine ⟨R y, ⟨y, y3 (by omega), y1, rfl⟩, ?_⟩
      unfold stp
      rw [if_neg (by omega), y2]
    · rintro r ⟨i, a, b, rfl⟩
      by_cases e : i = p
      · left; rw [e]
      · right
        by_cases e2 : i = L.length
        · refine ⟨p, by omega, p2, ?_⟩
          unfold stp swp
          rw [if_neg (by omega), if_pos rfl, e2]
        · refine ⟨i, by omega, b, ?_⟩
          unfold stp swp
          rw [if_neg e2, if_neg e, if_neg e2]
  · intro i t hi ht
    rw [ll] at hi ht
    by_cases et : t = L.length
    · have eg : (L ++ [c]).getD t 0 = c := by
        rw [List.getD_eq_getElem?_getD, List.getElem?_append_right (by omega), et, Nat.sub_self]; rfl
      rw [eg]
      unfold stp
      by_cases ei : i = L.length
      · rw [if_pos ei, if_pos (by omega)]
        show R p c / R p c = 1
        rw [Rat.div_def, Rat.mul_inv_cancel _ h0]
      · rw [if_neg ei, if_neg (by omega)]
        exact red_c h0 _
    · have ht2 : t < L.length := by omega
      have eg : (L ++ [c]).getD t 0 = L.getD t 0 := by
        rw [List.getD_eq_getElem?_getD, List.getElem?_append_left ht2, ← List.getD_eq_getElem?_getD]
      rw [eg]
      have z : R p (L.getD t 0) = 0 := C.lft.zero hp (Lc t ht2)
      unfold stp
      by_cases ei : i = L.length
      · rw [if_pos ei, if_neg (by omega)]
        show R p (L.getD t 0) / R p c = 0
        rw [z, Rat.div_def, Rat.zero_mul]
      · rw [if_neg ei]
        have hi2 : i < L.length := by omega
        unfold swp red
        rw [if_neg (by omega), if_neg ei, z, Rat.mul_zero, ← C.one i t hi2 ht2]
        grind
  · intro i hi
    unfold stp
    by_cases ei : i = L.length
    · rw [if_pos ei]
      have := (C.sp p p2).smul (R p c)⁻¹
      have e : (fun k => (R p c)⁻¹ * R p k) = fun k => R p k / R p c := by funext k; rw [Rat.div_def]; grind
      rw [e] at this
      exact this
    · rw [if_neg ei]
      obtain ⟨y, y1, y2, _⟩ := inR i hi i ei hi
      rw [y2]
      have := (C.sp y y1).lin (-(R y c / R p c)) (C.sp p p2)
      have e : (fun k => R y k + -(R y c / R p c) * R p k) = red c (R p) (R y) := by funext k; unfold red; grind
      rw [e] at this
      exact this
  · intro j hj
    refine Sp.trans ?_ (C.back j hj)
    have kp : Sp (RowsOf n (stp L.length p c R)) (R p) := by
      have := (Sp.mem (S := RowsOf n (stp L.length p c R)) (w := stp L.length p c R L.length) ⟨L.length, by omega, rfl⟩).smul (R p c)
      have e : (fun k => R p c * stp L.length p c R L.length k) = R p := by
        funext k
        unfold stp
        rw [if_pos rfl]
        show R p c * (R p k / R p c) = R p k
        rw [Rat.div_def, Rat.mul_comm (R p k), ← Rat.mul_assoc, Rat.mul_inv_cancel _ h0, Rat.one_mul]
      rw [e] at this
      exact this
    rintro w ⟨i, hi, rfl⟩
    by_cases e : i = p
    · rw [e]; exact kp
    · have ex : ∃ x, x < n ∧ x ≠ L.length ∧ swp L.length p R x = R i := by
        by_cases e2 : i = L.length
        · exact ⟨p, p2, by omega, by unfold swp; rw [if_pos rfl, e2]⟩
        · exact ⟨i, hi, e2, by unfold swp; rw [if_neg e, if_neg e2]⟩
      obtain ⟨x, x1, x2, x3⟩ := ex
      have := (Sp.mem (S := RowsOf n (stp L.length p c R)) (w := stp L.length p c R x) ⟨x, x1, rfl⟩).lin (R i c / R p c) kp
      have e : (fun k => stp L.length p c R x k + R i c / R p c * R p k) = R i := by
        funext k
        unfold stp
        rw [if_neg x2, x3]
        unfold red
        grind
      rw [e] at this
      exact this
  · intro i k hi hk
    rw [ll]
    have sp := C.sz p k p2 hk
    have spc := C.sz p c p2 hc
    unfold stp
    by_cases ei : i = L.length
    · rw [if_pos ei]
      exact (sp.div spc).mono (by show _ ≤ 4 * bN N L.length + 2; omega)
    · rw [if_neg ei]
      obtain ⟨y, y1, y2, _⟩ := inR i hi i ei hi
      rw [y2]
      unfold red
      exact ((C.sz y k y1 hk).sub (((C.sz y c y1 hc).div spc).mul sp)).mono (by show _ ≤ 4 * bN N L.length + 2; omega)
end DL
/-! M01n -/
namespace K01
open PySem PySem.Spec PyProof.Rows L2 DL
set_option maxHeartbeats 4000000
local macro_rules | `(tactic| walk_at "isi") => `(tactic| first | with_reducible exact isi_non_int | with_reducible exact isi_non_bool | with_reducible exact isi_non_str | with_reducible exact isi_non_tuple | with_reducible exact isi_non_list | with_reducible exact isi_bl_int | with_reducible exact isi_bl_bool | with_reducible exact isi_bl_str | with_reducible exact isi_bl_tuple | with_reducible exact isi_bl_list | with_reducible exact isi_int_int | with_reducible exact isi_int_bool | with_reducible exact isi_int_str | with_reducible exact isi_int_tuple | with_reducible exact isi_int_list | with_reducible exact isi_str_int | with_reducible exact isi_str_bool | with_reducible exact isi_str_str | with_reducible exact isi_str_tuple | with_reducible exact isi_str_list | with_reducible exact isi_tup_int | with_reducible exact isi_tup_bool | with_reducible exact isi_tup_str | with_reducible exact isi_tup_tuple | with_reducible exact isi_tup_list | with_reducible exact isi_lst_int | with_reducible exact isi_lst_bool | with_reducible exact isi_lst_str | with_reducible exact isi_lst_tuple | with_reducible exact isi_lst_list | with_reducible exact isi_qD_tuple | with_reducible exact isi_row_tuple | with_reducible exact isi_tab_tuple)
local macro_rules | `(tactic| walk_at "set") => `(tactic| first | with_reducible exact List.set_cons_zero | ((with_reducible refine' set_s ?h1); (case h1 => walk_at "set")))
local macro_rules | `(tactic| walk_at "fz") => `(tactic| first | with_reducible assumption | with_reducible exact fzs_nil | ((with_reducible refine' fzs_c ?h1 ?h2); (case h1 => walk_at "fz"); (case h2 => walk_at "fz")) | with_reducible exact fz_int | with_reducible exact fz_qD _ | with_reducible exact fz_row _ _ | with_reducible exact fz_tab _ _ _ | with_reducible exact fz_lstZ _ _ _ _ | with_reducible exact fz_lstQ _ _ _ | with_reducible exact fz_bl | with_reducible exact fz_non | with_reducible exact fz_dr | with_reducible exact fz_str | with_reducible exact fz_tup | ((with_reducible refine' fz_lstm ?h1); (case h1 => exact fun _ => rfl)) | ((with_reducible refine' fz_lst' ?h1); (case h1 => walk_at "fz")) | assumption | ((with_reducible refine' fzs_frz _ _ ?h1); (case h1 => exact fun _ => rfl)) | with_unfolding_all exact rfl)
local macro_rules | `(tactic| walk_at "wipe") => `(tactic| first | with_reducible exact wipe_nil | ((with_reducible refine' wipe_c ?h1 ?h2); (case h1 => walk_at "wipe"); (case h2 => walk_at "set")))
local macro_rules | `(tactic| walk_at "tg") => `(tactic| first | ((with_reducible refine' g_nm' ?h1); (case h1 => walk_at "set")) | ((refine' g_tp ?h1 ?h2); (case h1 => exact rfl); (case h2 => walk_at "tg")) | with_reducible exact gs_nil | ((with_reducible refine' gs_cons ?h1 ?h2); (case h1 => walk_at "tg"); (case h2 => walk_at "tg")))
local macro_rules | `(tactic| walk_at "small") => `(tactic| first | exact len_ok (Nat.le_of_ble_eq_true rfl) | exact len_ok (by simp only [List.length_map, List.length_range, List.length_cons, List.length_nil, List.length_append]; omega) | exact len_lt (by simp only [List.length_map, List.length_range, List.length_cons, List.length_nil, List.length_append]; omega))
local macro_rules | `(tactic| walk_at "op") => `(tactic| (first | ((with_reducible refine gIx' ?_); (first | with_reducible refine ow_num ?_ | with_reducible refine ow_den ?_ | ((with_reducible refine' ow_ixtab ?h1 ?_); (case h1 => omega)) | ((with_reducible refine' ow_ixrow ?h1 ?_); (case h1 => omega)) | ((with_reducible refine' ow_ixQ ?h1 ?_); (case h1 => omega)) | ((with_reducible refine' ow_ixZ ?h1 ?_); (case h1 => omega)) | ((with_reducible refine' ow_ixlst ?h1 ?_); (case h1 => omega)) | ((with_reducible refine' ow_ixtup ?h1 ?_); (case h1 => omega)) | ((with_reducible refine' ow_ixlst0 ?h1 ?_); (case h1 => omega)) | ((with_reducible refine' ow_ixtup0 ?h1 ?_); (case h1 => omega)) | with_reducible refine ow ix_0 ?_ | with_reducible refine ow ix_1 ?_ | ((with_reducible refine' ow_ixL ?h1 ?_); (case h1 => exact rfl)) | ((with_reducible refine' ow_ixT ?h1 ?_); (case h1 => exact rfl)) | ((with_reducible refine' ow ?h1 ?_); (case h1 => with_reducible assumption)))) | ((with_reducible refine gLen' ?_); (first | with_reducible refine ow_lentabR ?_ | with_reducible refine ow_lenrowR ?_ | with_reducible refine ow_lentab ?_ | with_reducible refine ow_lenrow ?_ | with_reducible refine ow_lenQ ?_ | with_reducible refine ow_lenZ ?_ | with_reducible refine ow_lenlstR ?_ | with_reducible refine ow_lenlst ?_ | with_reducible refine ow_lentup ?_ | with_reducible refine ow_lenT ?_ | with_reducible refine ow_lenL ?_ | ((with_reducible refine' ow ?h1 ?_); (case h1 => with_reducible assumption)))) | ((with_reducible refine gO1 ?_); (first | with_reducible refine ow_tupQ ?_ | ((with_reducible refine' ow_tuple ?h1 ?_); (case h1 => exact fun _ => rfl)) | ((with_reducible refine' ow_list ?h1 ?_); (case h1 => exact fun _ => rfl)) | with_reducible refine ow_listT ?_ | with_reducible refine ow_all ?_ | with_reducible refine ow_any ?_ | with_reducible refine ow_sum ?_ | with_reducible refine ow gabs_int ?_ | with_reducible refine ow gint_int ?_ | with_reducible refine ow gint_bl ?_ | ((with_reducible refine' ow ?h1 ?_); (case h1 => with_reducible assumption)))) | ((with_reducible refine gO2 ?_); (first | with_reducible refine ow gadd_int ?_ | with_reducible refine ow gsub_int ?_ | with_reducible refine ow gaddI_int ?_ | with_reducible refine ow geq_int ?_ | with_reducible refine ow gne_int ?_ | with_reducible refine ow glt_int ?_ | with_reducible refine ow gle_int ?_ | with_reducible refine ow ggt_int ?_ | with_reducible refine ow gge_int ?_ | ((with_reducible refine' ow ?h1 ?_); (case h1 => with_reducible assumption)))) | ((with_reducible refine' ow_isi ?h1 ?_); (case h1 => walk_at "isi")) | with_reducible refine ow_revQ ?_ | with_reducible refine ow_revR ?_ | ((with_reducible refine' ow ?h1 ?_); (case h1 => with_reducible assumption))))
local macro_rules | `(tactic| walk_at "fn") => `(tactic| first | ((with_reducible refine' ew_eq ?h1 ?_); (case h1 => with_reducible assumption)) | ((with_reducible refine' ew_eqx ?h1 ?_); (case h1 => with_reducible assumption)))
local macro_rules | `(tactic| walk_at "ev1") => `(tactic| (first | ((with_reducible refine gEW ?_); (first | ((with_reducible refine' ew_var ?h1 ?_); (case h1 => exact rfl)) | with_reducible refine ew_frz ?_ | with_reducible refine ew_k ?_ | with_reducible refine ew_bin ?_ | with_reducible refine ew_call ?_ | with_reducible refine ew_callE ?_ | with_reducible refine ew_cons ?_ | with_reducible refine ew_nil ?_ | with_reducible refine ew_tst ?_ | with_reducible refine ew_tru ?_ | with_reducible refine ew_yes ?_ | with_reducible refine ew_and ?_ | with_reducible refine ew_or ?_ | with_reducible refine ew_notT ?_ | with_reducible refine ew_not ?_ | with_reducible refine ew_if ?_ | with_reducible refine ew_andV ?_ | with_reducible refine ew_orV ?_ | with_reducible refine ew_chain ?_ | with_reducible refine ew_neg ?_ | with_reducible refine ew_tup ?_ | with_reducible refine ew_lst ?_ | with_reducible refine ew_b ?_ | with_reducible refine ew_isi ?_ | with_reducible refine ew_lc ?_ | with_reducible refine ew_lc2 ?_ | with_reducible refine iw_any ?_ | with_reducible refine iw_rg1 ?_ | with_reducible refine iw_rg2 ?_ | with_reducible refine iw_zip ?_ | with_reducible refine ew_sl ?_ | with_reducible refine ew_part ?_ | with_reducible refine ew_nopart ?_ | with_reducible refine ew_rev ?_ | with_reducible refine ew_lrg1 ?_ | (walk_at "fn"))) | ((with_reducible refine gSW ?_); (first | with_reducible refine sw_seq ?_ | with_reducible refine sw_set ?_ | with_reducible refine sw_setO ?_ | with_reducible refine sw_ret ?_ | with_reducible refine sw_skip ?_ | with_reducible refine sw_if ?_ | with_reducible refine sw_drop ?_ | ((with_reducible refine' sw_fz ?h1 ?_); (case h1 => exact rfl)) | with_reducible refine sw_retN ?_ | with_reducible refine sw_raise ?_ | with_reducible refine sw_par2 ?_ | with_reducible refine sw_par3 ?_ | with_reducible refine sw_parN (by decide) ?_ | ((with_reducible refine' sw_app ?h1 ?_); (case h1 => exact rfl)) | with_reducible refine sw_asg ?_ | with_reducible refine sw_try ?_ | with_reducible refine sw_bk ?_ | with_reducible refine sw_ct ?_)) | ((with_reducible refine gOW ?_); (walk_at "op")) | ((with_reducible refine gAnd ?_); (first | with_reducible refine And.intro (by with_unfolding_all exact rfl) ?_ | with_reducible refine And.intro (by assumption) ?_ | with_reducible refine And.intro (by walk_at "small") ?_)) | ((with_reducible refine gIf ?_); (first | with_reducible refine ifw_t ?_ | with_reducible refine ifw_f ?_ | with_reducible refine ifw_n ?_)) | with_reducible refine sq_nx ?_ | with_reducible refine fq_rt ?_ | with_reducible refine lq_nx ?_ | with_reducible refine fq_nx ?_ | with_reducible refine fq_ex ?_ | with_reducible refine sq_rt ?_ | with_reducible refine sq_ex ?_ | with_reducible refine lq_rt ?_ | with_reducible refine lq_ct ?_ | with_reducible refine lq_bk ?_ | with_reducible refine lq_ex ?_ | with_reducible refine tq_rt ?_ | with_reducible refine tq_nx ?_ | ((with_reducible refine' fzl ?h1 ?_); (case h1 => walk_at "fz")) | ((with_reducible refine' fzd ?h1 ?_); (case h1 => walk_at "fz")) | ((with_reducible refine' stw ?h1 ?_); (case h1 => walk_at "set")) | ((with_reducible refine' wpw ?h1 ?_); (case h1 => walk_at "wipe")) | ((with_reducible refine' tgw ?h1 ?_); (case h1 => walk_at "tg")) | ((with_reducible refine' trw ?h1 ?_); (case h1 => exact rfl)) | with_reducible refine tb_bl ?_ | ((with_reducible refine' callw ?h1 ?_); (case h1 => exact rfl)) | ((with_reducible refine' tq_ex ?h1 ?_); (case h1 => exact rfl)) | with_reducible refine int_w ?_ | with_reducible refine it_tup ?_ | with_reducible refine it_tab ?_ | with_reducible refine it_row ?_ | with_reducible refine it_lstQ ?_ | ((with_reducible refine' it_lst ?h1 ?_); (case h1 => walk_at "fz")) | with_reducible refine p2 ?_ | with_reducible refine p3 ?_ | with_reducible refine setw_cons ?_ | with_reducible refine setw_nil ?_ | ((with_reducible refine' rgw_n ?h1 ?_); (case h1 => omega)) | with_reducible refine zpw_rr ?_ | ((with_reducible refine' zpw_ll ?h1 ?h2 ?_); (case h1 => walk_at "fz"); (case h2 => walk_at "fz"))))
local macro_rules | `(tactic| walk_at "ev") => `(tactic| repeat' walk_at "ev1")
abbrev rws (m : Nat) (R : Nat → Vq) (n : Nat) : List D := (List.range n).map fun i => lstQ false m (R i)
/-- rows as they come -/
structure RowsD (n m : Nat) (W : Nat → Vq) (X : D) : Prop where
  fz : X.fz = X
  frz : X.frz = true
  it : ∀ Q : List D → Prop, Q ((List.range n).map fun i => rowL (List.range m) (W i)) → ItW X Q
theorem gl_row {m : Nat} {r : Vq} : gList [rowL (List.range m) r] = some (lstQ true m r) := rfl
theorem rows_start {n m : Nat} {W : Nat → Vq} (hn : n ≤ 100) {x0 : Option D} {dr : Dr} : ∀ i ∈ List.range n, EW (cFzE (cB gList (cCons (cVar 7) cNil)) [x0, none, none, none, none, none, none, some (rowL (List.range m) (W i)), none, none, none, none] dr) (fun a d => R.ok a d = R.ok (lstQ false m (W i)) dr) noX := fun i hi => by
  have g := gl_row (m := m) (r := W i)
  with_reducible refine ew_fzE ?_
  walk_at "ev"
  rfl
/-- the places of the rows with something in a column -/
theorem found_ew {n m c d : Nat} {R : Nat → Vq} {x2 x4 x5 x6 x8 : Option D} (hd : d ≤ n) (hn : n ≤ 100) (hc : c < m) {dr : Dr} {P : D → Dr → Prop} {X : Exn → Dr → Prop} (k : P (.lst true (((List.range (n - d)).filter fun k => !((R (d + k) c).num == 0)).map fun k => .int ((d + k : Nat) : Int))) dr) :
    EW (cLc [6] (iRg2 (cVar 3) (cB gLen (cCons (cVar 0) cNil))) (gNm 6) (cTst (cBin gNe (cBin gIx (cBin gIx (cBin gIx (cVar 0) (cVar 6)) (cVar 1)) (cK (.int 0))) (cK (.int 0)))) (cFrz (cVar 6)) [some (.lst true (rws m R n)), some (.int (c : Int)), x2, some (.int (d : Int)), x4, x5, x6, none, x8, none, none, none] dr) P X := by
  walk_at "ev"
  with_reducible refine lcw_map (fun k : Nat => .int ((d + k : Nat) : Int)) (fun k => .int ((d + k : Nat) : Int)) (fun k => !((R (d + k) c).num == 0)) (List.range (n - d)) (by with_unfolding_all exact rfl) (by walk_at "small") (by walk_at "wipe") (fun i hi => ?_) ?_
  · have hi := List.mem_range.mp hi
    walk_at "ev"
    with_reducible refine ⟨?_, fun hp => ?_⟩
    · walk_at "ev"
      rfl
    · walk_at "ev"
      rfl
  · walk_at "ev"
    exact k
/-! M01o -/
theorem over_ew {m d c N : Nat} {n : Nat} {R : Nat → Vq} {x1 x2 x4 x6 x8 : Option D} {q : Rat} (hd : d < n) (hm : m ≤ 100) (q0 : q ≠ 0) (hq : Sm N q) (hR : ∀ k, k < m → Sm N (R d k)) (hN : N + N ≤ 9000) {dr : Dr} {P : D → Dr → Prop} {X : Exn → Dr → Prop} (k : P (lstQ false m fun k => R d k / q) dr) :
    EW (cFzE (cLc [9] (iAny (cFrz (cBin gIx (cVar 0) (cVar 3)))) (gNm 9) cYes (cCall f_over (cCons (cFrz (cVar 9)) (cCons (cFrz (cVar 5)) cNil)))) [some (.lst true (rws m R n)), x1, x2, some (.int (d : Int)), x4, some (qD q), x6, none, x8, none, none, none] dr) P X := by
  with_reducible refine ew_fzE ?_
  walk_at "ev"
  with_reducible refine lcw_all (fun k => qD (R d k)) (fun k => qD (R d k / q)) (List.range m) (by with_unfolding_all exact rfl) (by walk_at "small") (by walk_at "wipe") (fun k hk => ?_) ?_
  · have o := e_over (hR k (List.mem_range.mp hk)) hq hN q0 dr
    walk_at "ev"
    rfl
  · walk_at "ev"
    exact k
theorem zpw_qq {m : Nat} {p q : Nat → Rat} {o o' : Bool} {Q : List D → Prop} (k : Q ((List.range m).map fun j => .tup [qD (p j), qD (q j)])) : ZpW [lstQ o m p, lstQ o' m q] Q := zpw_ll (l := List.range m) (f := fun k => qD (p k)) (g := fun k => qD (q k)) (fzs_qD _ _) (fzs_qD _ _) k
theorem minus_ew {m d x N M : Nat} {n : Nat} {R : Nat → Vq} {x1 x2 x4 x5 : Option D} {q : Rat} (hd : d < n) (hx : x < n) (hm : m ≤ 100) (hq : Sm N q) (hR : ∀ k, k < m → Sm N (R x k)) (hH : ∀ k, k < m → Sm M (R d k)) (hN : N + N + M ≤ 9000) {dr : Dr} {P : D → Dr → Prop} {X : Exn → Dr → Prop} (k : P (lstQ false m fun k => R x k - q * R d k) dr) :
    EW (cFzE (cLc [10, 11] (iZipD (cCons (cFrz (cBin gIx (cVar 0) (cVar 6))) (cCons (cFrz (cBin gIx (cVar 0) (cVar 3))) cNil))) (gTp 2 (gsCons (gNm 10) (gsCons (gNm 11) gsNil))) cYes (cCall f_minus (cCons (cFrz (cVar 10)) (cCons (cCall f_times (cCons (cFrz (cVar 8)) (cCons (cFrz (cVar 11)) cNil))) cNil)))) [some (.lst true (rws m R n)), x1, x2, some (.int (d : Int)), x4, x5, some (.int (x : Int)), none, some (qD q), none, none, none] dr) P X := by
  with_reducible refine ew_fzE ?_
  walk_at "ev"
  with_reducible refine zpw_qq ?_
  walk_at "ev"
  with_reducible refine lcw_all (fun k => .tup [qD (R x k), qD (R d k)]) (fun k => qD (R x k - q * R d k)) (List.range m) (by with_unfolding_all exact rfl) (by walk_at "small") (by walk_at "wipe") (fun k hk => ?_) ?_
  · have hk := List.mem_range.mp hk
    have t1 := e_times hq (hH k hk) (by omega) dr
    have t2 := e_minus (hR k hk) (hq.mul (hH k hk)) (by omega) dr
    walk_at "ev"
    rfl
  · walk_at "ev"
    exact k
/-! M01p -/
def mid (d p c : Nat) (R : Nat → Vq) (t x : Nat) : Vq := if x < t then stp d p c R x else if x = d then fun k => R p k / R p c else swp d p R x
theorem mid_d (d p c : Nat) (R : Nat → Vq) (t : Nat) : mid d p c R t d = fun k => R p k / R p c := by
  unfold mid stp
  split
  · rw [if_pos rfl]
  · rw [if_pos rfl]
theorem mid_t {d p c t : Nat} {R : Nat → Vq} (h : t ≠ d) : mid d p c R t t = swp d p R t := by
  unfold mid
  rw [if_neg (Nat.lt_irrefl _), if_neg h]
theorem mid_up {d p c t y : Nat} {R : Nat → Vq} (h : y ≠ t) : mid d p c R (t + 1) y = mid d p c R t y := by
  unfold mid
  by_cases z : y < t
  · rw [if_pos z, if_pos (by omega)]
  · rw [if_neg z, if_neg (by omega)]
theorem mid_at {d p c t : Nat} {R : Nat → Vq} : mid d p c R (t + 1) t = stp d p c R t := by
  unfold mid; rw [if_pos (Nat.lt_succ_self _)]
theorem mid_same_d {d p c : Nat} {R : Nat → Vq} : mid d p c R (d + 1) = mid d p c R d := by
  funext y
  by_cases h : y = d
  · subst h; rw [mid_d, mid_d]
  · exact mid_up h
theorem red_q (c : Nat) (h r : Vq) : red c h r = fun k => r k - r c * (h k / h c) := by
  funext k
  unfold red
  rw [Rat.div_def, Rat.div_def]
  grind
theorem mid_same_0 {d p c t : Nat} {R : Nat → Vq} (h : t ≠ d) (z : mid d p c R t t c = 0) : mid d p c R (t + 1) = mid d p c R t := by
  funext y
  by_cases e : y = t
  · subst e
    rw [mid_at, mid_t h]
    rw [mid_t h] at z
    unfold stp
    rw [if_neg h, red_q, z]
    funext k
    grind
  · exact mid_up e
theorem mid_set {n m d p c t : Nat} {R : Nat → Vq} (h : t ≠ d) : ((List.range n).map fun y => if y = t then lstQ false m (fun k => mid d p c R t t k - mid d p c R t t c * mid d p c R t d k) else lstQ false m (mid d p c R t y)) = rws m (mid d p c R (t + 1)) n := by
  refine List.map_congr_left fun y hy => ?_
  by_cases e : y = t
  · subst e
    rw [if_pos rfl, mid_at, mid_t h, mid_d]
    unfold stp
    rw [if_neg h, red_q]
  · rw [if_neg e, mid_up e]
theorem mid_end {n m d p c : Nat} {R : Nat → Vq} : rws m (mid d p c R n) n = rws m (stp d p c R) n := by
  refine List.map_congr_left fun y hy => ?_
  unfold mid
  rw [if_pos (List.mem_range.mp hy)]
theorem mid_0 {n m d p c : Nat} {R : Nat → Vq} : ((List.range n).map fun y => if y = d then lstQ false m (fun k => swp d p R d k / R p c) else lstQ false m (swp d p R y)) = rws m (mid d p c R 0) n := by
  refine List.map_congr_left fun y hy => ?_
  unfold mid
  rw [if_neg (Nat.not_lt_zero _)]
  by_cases e : y = d
  · rw [if_pos e, if_pos e]
    have : swp d p R d = R p := by
      unfold swp
      by_cases z : d = p
      · rw [if_pos z, z]
      · rw [if_neg z, if_pos rfl]
    rw [this]
  · rw [if_neg e, if_neg e]
theorem swp_rows {n m d p : Nat} {R : Nat → Vq} : ((List.range n).map fun x => if x = p then lstQ false m (R d) else if x = d then lstQ false m (R p) else lstQ false m (R x)) = rws m (swp d p R) n := by
  refine List.map_congr_left fun y hy => ?_
  unfold swp
  split
  · rfl
  · split <;> rfl
theorem swp_d {d p : Nat} {R : Nat → Vq} : swp d p R d = R p := by
  unfold swp
  by_cases z : d = p
  · rw [if_pos z, z]
  · rw [if_neg z, if_pos rfl]
theorem mid_sm {n m d p c N : Nat} {R : Nat → Vq} (hd : d < n) (hp : p < n) (hc : c < m) (h : ∀ i k, i < n → k < m → Sm N (R i k)) {t x k : Nat} (hx : x < n) (hk : k < m) : Sm (4 * N + 2) (mid d p c R t x k) := by
  have sw : ∀ y, y < n → ∀ k, k < m → Sm N (swp d p R y k) := fun y hy k hk => by
    unfold swp
    split
    · exact h d k hd hk
    · split
      · exact h p k hp hk
      · exact h y k hy hk
  have a := ((h p k hp hk).div (h p c hp hc)).mono (show N + N + 1 ≤ 4 * N + 2 by omega)
  unfold mid
  split
  · unfold stp
    split
    · exact a
    · unfold red
      exact ((sw x hx k hk).sub (((sw x hx c hc).div (h p c hp hc)).mul (h p k hp hk))).mono (by omega)
  · split
    · exact a
    · exact (sw x hx k hk).mono (by omega)
/-! M01q -/
theorem at0 {o : Bool} (x : D) (xs : List D) : gIx (.lst o (x :: xs)) (.int 0) = some x := (show atI (x :: xs) ((0 : Nat) : Int) = some x from atI_nat rfl)
theorem sl_rng {n d : Nat} {f : Nat → D} {o : Bool} (h : d ≤ n) (hf : ∀ i, (f i).frz = true) : gSl (.lst o ((List.range n).map f)) none (some (d : Int)) = some (.lst true ((List.range d).map f)) := by
  show (if ((List.range n).map f).all D.frz then some (D.lst true (DL.cutD ((List.range n).map f) none (some (d : Int)))) else none) = _
  rw [all_frz _ _ hf]
  have e : DL.cutD ((List.range n).map f) none (some (d : Int)) = (List.range d).map f := by
    have e1 : HT.sIx ((List.range n).map f).length 0 none = 0 := rfl
    have e2 : HT.sIx ((List.range n).map f).length ((List.range n).map f).length (some (d : Int)) = d := by
      rw [List.length_map, List.length_range]
      unfold HT.sIx
      simp only []
      split <;> omega
    unfold DL.cutD
    rw [e1, e2, List.drop_zero, Nat.sub_zero, ← List.map_take, List.take_range, Nat.min_eq_left h]
  rw [e]; rfl
theorem w_cleared {n m N : Nat} {W : Nat → Vq} {X : D} (hX : RowsD n m W X) (h0 : 0 < n) (hn : n ≤ 100) (hm : m ≤ 100) (hS : ∀ i k, i < n → k < m → Sm N (W i k)) (hN : bN N n ≤ 2000) {dr : Dr} : EW (f_cleared [X] dr) (fun d dr' => dr' = dr ∧ ∃ R L, Cl n m N W m R L ∧ d = .tup [.lst false (rws m R L.length), .lst false (L.map fun k : Nat => .int (k : Int))]) noX := by
  have hz := hX.fz
  have hy := hX.frz
  unfold f_cleared
  with_reducible refine fw1 ?_
  simp only [List.reduceReplicate]
  unfold m_cleared
  walk_at "ev"
  with_reducible refine hX.it _ ?_
  with_reducible refine lcw_all (fun i => rowL (List.range m) (W i)) (fun i => lstQ false m (W i)) (List.range n) rfl (by walk_at "small") (by walk_at "wipe") (fun i hi => ?_) ?_
  · walk_at "ev"
    exact rows_start hn i hi
  walk_at "ev"
  with_reducible refine sw_for (fun k : Nat => .int (k : Int)) (List.range m) (fun zs ρ d => d = dr ∧ ∃ ws R L x1 x4 x5 x6 x8, List.range m = ws ++ zs ∧ Cl n m N W ws.length R L ∧ ρ = [some (.lst true (rws m R n)), x1, some (.lst true (L.map fun k : Nat => .int (k : Int))), some (.int (L.length : Int)), x4, x5, x6, none, x8, none, none, none]) ?_ ?_ ?_
  · walk_at "ev"
    with_reducible refine ifw_d (fun h => ?_) (fun h => absurd (by omega) h)
    walk_at "ev"
    exact ⟨[], W, [], _, _, _, _, _, rfl, cl_0 hS, rfl⟩
  · rintro c zs ρ d ⟨rfl, ws, R, L, x1, x4, x5, x6, x8, hw, C, rfl⟩
    have hc := rng_split hw
    have hle := C.le
    rw [hc.1] at C
    walk_at "ev"
    with_reducible refine lcw_map (fun k : Nat => .int ((L.length + k : Nat) : Int)) (fun k => .int ((L.length + k : Nat) : Int)) (fun k => !((R (L.length + k) c).num == 0)) (List.range (n - L.length)) (by with_unfolding_all exact rfl) (by walk_at "small") (by walk_at "wipe") (fun i hi => ?_) ?_
    · have hi := List.mem_range.mp hi
      walk_at "ev"
      with_reducible refine ⟨?_, fun hp => ?_⟩
      · walk_at "ev"
        rfl
      · walk_at "ev"
        rfl
    have hfl : ∀ k ∈ (List.range (n - L.length)).filter fun k => !((R (L.length + k) c).num == 0), L.length + k < n ∧ R (L.length + k) c ≠ 0 := fun k hk => by
      obtain ⟨a, b⟩ := List.mem_filter.mp hk
      exact ⟨by have := List.mem_range.mp a; omega, num_ne (by simpa using b)⟩
    have hno : ((List.range (n - L.length)).filter fun k => !((R (L.length + k) c).num == 0)) = [] → ∀ i, L.length ≤ i → i < n → R i c = 0 := fun e i a b => by
      have := List.filter_eq_nil_iff.mp e (i - L.length) (List.mem_range.mpr (by omega))
      rw [show L.length + (i - L.length) = i by omega] at this
      exact num_z (by simpa using this)
    generalize ((List.range (n - L.length)).filter fun k => !((R (L.length + k) c).num == 0)) = fl at hfl hno ⊢
    cases fl with
    | nil =>
      walk_at "ev"
      with_reducible refine ifw_d (fun h => absurd h (by decide)) (fun h => ?_)
      walk_at "ev"
      exact ⟨ws ++ [c], R, L, _, _, _, _, _, by rw [hw, List.append_assoc]; rfl, by rw [List.length_append, hc.1]; exact C.skip (hno rfl), rfl⟩
    | cons k0 ks =>
      obtain ⟨p2, p0⟩ := hfl k0 List.mem_cons_self
      have hd : L.length < n := by omega
      have hx0 : gIx (.lst false (List.map (fun k => .int ((L.length + k : Nat) : Int)) (k0 :: ks))) (.int 0) = some (.int ((L.length + k0 : Nat) : Int)) := at0 _ _
      have bb : 4 * bN N L.length + 2 ≤ 2000 := Nat.le_trans (bN_le (N := N) (show L.length + 1 ≤ n from hd)) hN
      have sR : ∀ i k, i < n → k < m → Sm (bN N L.length) (R i k) := C.sz
      have C' := C.piv (show L.length ≤ L.length + k0 by omega) p2 p0 hc.2
      walk_at "ev"
      with_reducible refine ifw_d (fun h => ?_) (fun h => absurd (by simp only [List.length_cons]; omega) h)
      walk_at "ev"
      with_reducible refine sw_swapR (i := 0) (n := n) (j := L.length) (k := L.length + k0) (f := fun i => lstQ false m (R i)) (d1 := lstQ false m (R (L.length + k0))) (d2 := lstQ false m (R L.length)) rfl hd p2 ?_ rfl rfl ?_ ?_ ?_
      · refine ew_of ?_
        walk_at "ev"
        rfl
      · refine ew_of ?_
        walk_at "ev"
        rfl
      · refine ew_of ?_
        with_reducible refine gEW ?_
        rw [List.set_cons_zero]
        walk_at "ev"
        rfl
      rw [swp_rows, List.set_cons_zero]
      walk_at "ev"
      rw [show swp L.length (L.length + k0) R L.length c = R (L.length + k0) c by rw [swp_d]]
      with_reducible refine sw_setIxR (n := n) (j := L.length) (f := fun i => lstQ false m (swp L.length (L.length + k0) R i)) rfl hd ?_
      with_reducible refine over_ew (c := c) (N := bN N L.length) hd hm p0 (sR _ _ p2 hc.2) (fun k hk => by rw [swp_d]; exact sR _ _ p2 hk) (by omega) ?_
      walk_at "ev"
      rw [mid_0]
      walk_at "ev"
      with_reducible refine sw_for (fun k : Nat => .int (k : Int)) (List.range n) (fun zt ρ d' => d' = d ∧ ∃ wt y6 y8, List.range n = wt ++ zt ∧ ρ = [some (.lst true (rws m (mid L.length (L.length + k0) c R wt.length) n)), some (.int (c : Int)), some (.lst true (L.map fun k : Nat => .int (k : Int))), some (.int (L.length : Int)), some (.lst false (List.map (fun k => .int ((L.length + k : Nat) : Int)) (k0 :: ks))), some (qD (R (L.length + k0) c)), y6, none, y8, none, none, none]) ?_ ?_ ?_
      · walk_at "ev"
        exact ⟨[], _, _, rfl, rfl⟩
      · rintro x zt ρ d' ⟨rfl, wt, y6, y8, hwt, rfl⟩
        have hxl := rng_split hwt
        have hmid : ∀ y k, y < n → k < m → Sm (4 * bN N L.length + 2) (mid L.length (L.length + k0) c R x y k) := fun y k hy hk => mid_sm hd p2 hc.2 sR hy hk
        rw [hxl.1]
        have fin : (wt ++ [x]).length = x + 1 := by rw [List.length_append, hxl.1]; rfl
        have hwt2 : List.range n = (wt ++ [x]) ++ zt := by rw [hwt, List.append_assoc]; rfl
        walk_at "ev"
        with_reducible refine ifw_b (fun h1 => ?_) (fun h1 => ?_)
        · walk_at "ev"
          have e : mid L.length (L.length + k0) c R (x + 1) = mid L.length (L.length + k0) c R x := by
            have hx : x = L.length := by omega
            rw [hx]; exact mid_same_d
          exact ⟨wt ++ [x], _, _, hwt2, by rw [fin, e]⟩
        · have hxd : x ≠ L.length := fun z => h1 (by rw [z])
          walk_at "ev"
          with_reducible refine ifw_b (fun h2 => ?_) (fun h2 => ?_)
          · walk_at "ev"
            exact ⟨wt ++ [x], _, _, hwt2, by rw [fin, mid_same_0 hxd (num_z h2)]⟩
          · walk_at "ev"
            with_reducible refine sw_setIxR (n := n) (j := x) (f := fun i => lstQ false m (mid L.length (L.length + k0) c R x i)) rfl hxl.2 ?_
            with_reducible refine minus_ew (N := 4 * bN N L.length + 2) (M := 4 * bN N L.length + 2) hd hxl.2 hm (hmid x c hxl.2 hc.2) (fun k hk => hmid x k hxl.2 hk) (fun k hk => hmid _ k hd hk) (by omega) ?_
            walk_at "ev"
            rw [mid_set hxd]
            walk_at "ev"
            exact ⟨wt ++ [x], _, _, hwt2, by rw [fin]⟩
      · rintro ρ d' ⟨rfl, wt, y6, y8, hwt, rfl⟩
        rw [List.append_nil] at hwt
        rw [← hwt, List.length_range, mid_end]
        walk_at "ev"
        have e1 : (L.map fun k : Nat => D.int (k : Int)) ++ [D.int (c : Int)] = (L ++ [c]).map fun k : Nat => D.int (k : Int) := by rw [List.map_append]; rfl
        have e2 : (L.length : Int) + 1 = ((L ++ [c]).length : Int) := by rw [List.length_append]; rfl
        exact ⟨ws ++ [c], stp L.length (L.length + k0) c R, L ++ [c], _, _, _, _, _, by rw [hw, List.append_assoc]; rfl, by rw [List.length_append, hc.1]; exact C', by rw [e1, e2]⟩
  · rintro ρ d ⟨rfl, ws, R, L, x1, x4, x5, x6, x8, hw, C, rfl⟩
    rw [List.append_nil] at hw
    rw [← hw, List.length_range] at C
    have hle := C.le
    have sl := sl_rng (f := fun i => lstQ false m (R i)) (o := true) hle fun _ => rfl
    walk_at "ev"
    exact ⟨R, L, C, by rw [fzs_frz _ _ fun i => fz_lstQ false m (R i)]⟩
/-! M01r -/
theorem e_cleared {n m N : Nat} {W : Nat → Vq} {X : D} (hX : RowsD n m W X) (h0 : 0 < n) (hn : n ≤ 100) (hm : m ≤ 100) (hS : ∀ i k, i < n → k < m → Sm N (W i k)) (hN : bN N n ≤ 2000) (dr : Dr) :
    ∃ R L, Cl n m N W m R L ∧ f_cleared [X] dr = .ok (.tup [.lst false (rws m R L.length), .lst false (L.map fun k : Nat => .int (k : Int))]) dr := by
  have key := w_cleared hX h0 hn hm hS hN (dr := dr)
  generalize f_cleared [X] dr = r at key ⊢
  cases r with
  | st => exact key.elim
  | ex _ _ => exact key.elim
  | ok d dr' =>
    obtain ⟨rfl, R, L, C, rfl⟩ := (show _ ∧ _ from key)
    exact ⟨R, L, C, rfl⟩
theorem rowsD_tab {n m : Nat} {A : Nat → Vq} : RowsD n m A (tabL (List.range n) (List.range m) A) := ⟨fz_tab _ _ _, rfl, fun Q k => it_tab k⟩
theorem e_rank {n N : Nat} {A : Mq} (h0 : 0 < n) (h4 : n ≤ 4) (hS : ∀ i k, i < n → k < n → Sm N (A i k)) (hN : bN N n ≤ 2000) (dr : Dr) : f_rank [Tt n A] dr = .ok (.int ((heads (RowsOf n A) n).length : Int)) dr := by
  have c := ck (A := A) h0 h4 dr
  have cl := e_cleared (rowsD_tab (n := n) (m := n) (A := A)) h0 (by omega) (by omega) hS hN dr
  have r1 : f_rank_of [Tt n A] dr = .ok (.int ((heads (RowsOf n A) n).length : Int)) dr := by
    refine ew_of ?_
    unfold f_rank_of
    with_reducible refine fw1 ?_
    simp only [List.reduceReplicate]
    unfold m_rank_of
    walk_at "ev"
    generalize f_cleared [Tt n A] dr = r at cl ⊢
    obtain ⟨R, L, C, e⟩ := cl
    with_reducible refine ew_eq e ?_
    walk_at "ev"
    rw [C.hL]
  refine ew_of ?_
  unfold f_rank
  with_reducible refine fw1 ?_
  simp only [List.reduceReplicate]
  unfold m_rank
  walk_at "ev"
  rfl
/-! M01s -/
/-- one over a fraction, as the law puts it -/
def invD (q : Rat) : D := if 0 < q.num then .tup [.int (q.den : Int), .int q.num] else .tup [.int (0 - (q.den : Int)), .int (0 - q.num)]
theorem invD_q {q : Rat} (h : q ≠ 0) : invD q = qD q⁻¹ := by
  have hn : q.num ≠ 0 := fun e => h (Rat.num_eq_zero.mp e)
  unfold invD
  by_cases z : 0 < q.num
  · rw [if_pos z]
    have e1 : q⁻¹.num = (q.den : Int) := by rw [Rat.num_inv, Int.sign_eq_one_of_pos z]; omega
    have e2 : (q⁻¹.den : Int) = q.num := by rw [Rat.den_inv, if_neg hn]; omega
    unfold qD
    rw [e1, e2]
  · rw [if_neg z]
    have e1 : q⁻¹.num = 0 - (q.den : Int) := by rw [Rat.num_inv, Int.sign_eq_neg_one_of_neg (by omega)]; omega
    have e2 : (q⁻¹.den : Int) = 0 - q.num := by rw [Rat.den_inv, if_neg hn]; omega
    unfold qD
    rw [e1, e2]
theorem _root_.DL.Sm.inv {N : Nat} {q : Rat} (h : Sm N q) : Sm N q⁻¹ := by
  by_cases z : q = 0
  · rw [z, Rat.inv_zero]; exact sm0.mono h.pos
  refine ⟨?_, ?_⟩
  · rw [Rat.num_inv, Int.natAbs_mul, Int.natAbs_natCast]
    have : q.num.sign.natAbs ≤ 1 := by rw [Int.natAbs_sign]; split <;> omega
    have := Nat.mul_le_mul_right q.den this
    have := h.d
    omega
  · rw [Rat.den_inv, if_neg fun e => z (Rat.num_eq_zero.mp e)]; exact h.n
theorem eqvs_map {ι : Type} {f g : ι → D} : ∀ {l : List ι}, D.eqvs (l.map f) (l.map g) = true → ∀ i ∈ l, D.eqv (f i) (g i) = true
  | [], _, _, h => nomatch h
  | x :: l, e, i, h => by
    have e : (D.eqv (f x) (g x) && D.eqvs (l.map f) (l.map g)) = true := e
    rw [Bool.and_eq_true] at e
    rcases List.mem_cons.mp h with z | z
    · rw [z]; exact e.1
    · exact eqvs_map e.2 i z
theorem eqv_qD {a b : Rat} (h : D.eqv (qD a) (qD b) = true) : a = b := by
  have h : ((a.num == b.num) && (((a.den : Int) == (b.den : Int)) && true)) = true := h
  simp only [Bool.and_true, Bool.and_eq_true, beq_iff_eq] at h
  exact Rat.ext h.1 (by omega)
/-- rows kept -/
def keepR (m c : Nat) (h r : Vq) : Bool := !(D.eqv (lstQ false m r) (lstQ false m h)) || ((r c).num == 0)
theorem lawrow_ew {m c N : Nat} {r h : Vq} {x0 x2 x3 x4 : Option D} (hm : m ≤ 100) (hc : c < m) (hr : ∀ k, k < m → Sm N (r k)) (hh : ∀ k, k < m → Sm N (h k)) (hN : N + N + N + N ≤ 9000) {dr : Dr} :
    EW (cLc [8] (iRg1 (cB gLen (cCons (cVar 6) cNil))) (gNm 8) cYes (cCall f__law_minus (cCons (cFrz (cBin gIx (cVar 6) (cVar 8))) (cCons (cCall f__law_times (cCons (cCall f__law_times (cCons (cFrz (cBin gIx (cVar 6) (cVar 1))) (cCons (cFrz (cVar 5)) cNil))) (cCons (cFrz (cBin gIx (cVar 7) (cVar 8))) cNil))) cNil))) [x0, some (.int (c : Int)), x2, x3, x4, some (qD (h c)⁻¹), some (lstQ false m r), some (lstQ false m h), none] dr)
      (fun a d => R.ok a d = R.ok (lstQ true m (red c h r)) dr) noX := by
  walk_at "ev"
  with_reducible refine lcw_all (fun k : Nat => .int (k : Int)) (fun k => qD (red c h r k)) (List.range m) (by with_unfolding_all exact rfl) (by walk_at "small") (by walk_at "wipe") (fun k hk => ?_) ?_
  · have hk := List.mem_range.mp hk
    have t1 := e__law_times (hr c hc) (hh c hc).inv (by omega) dr
    have t2 := e__law_times ((hr c hc).mul (hh c hc).inv) (hh k hk) (by omega) dr
    have t3 := e__law_minus (hr k hk) (((hr c hc).mul (hh c hc).inv).mul (hh k hk)) (by omega) dr
    walk_at "ev"
    have e : red c h r k = r k - r c * (h c)⁻¹ * h k := by unfold red; rw [Rat.div_def]
    rw [e]
  · walk_at "ev"
    rfl
theorem keep_no {m c : Nat} {h r : Vq} (hr : ∀ k, m ≤ k → r k = 0) (hh : ∀ k, m ≤ k → h k = 0) (e : keepR m c h r = false) : r = h := by
  unfold keepR at e
  rw [Bool.or_eq_false_iff] at e
  have e1 : D.eqv (lstQ false m r) (lstQ false m h) = true := by simpa using e.1
  have e2 : D.eqvs ((List.range m).map fun k => qD (r k)) ((List.range m).map fun k => qD (h k)) = true := e1
  funext k
  by_cases hk : k < m
  · exact eqv_qD (eqvs_map e2 k (List.mem_range.mpr hk))
  · rw [hr k (by omega), hh k (by omega)]
/-- one column of the law's elimination -/
theorem lft_law {m c : Nat} {S0 : Vq → Prop} {ls : List Vq} {h : Vq} (L : Lft S0 c (· ∈ ls)) (hm : h ∈ ls) (h0 : h c ≠ 0) (hz : ∀ r ∈ ls, ∀ k, m ≤ k → r k = 0) : Lft S0 (c + 1) (· ∈ (ls.filter (keepR m c h)).map (red c h)) := by
  refine L.piv hm h0 ?_ ?_
  · intro r' hr
    obtain ⟨r, h1, h2⟩ := List.mem_map.mp hr
    exact ⟨r, (List.mem_filter.mp h1).1, h2.symm⟩
  · intro r hr
    cases e : keepR m c h r with
    | false => exact .inl (keep_no (hz r hr) (hz h hm) e)
    | true => exact .inr (List.mem_map.mpr ⟨r, List.mem_filter.mpr ⟨hr, e⟩, rfl⟩)
/-! M01t -/
theorem pls_map {ι : Type} {f : ι → D} (h : ∀ i, (f i).pl = true) : ∀ l : List ι, D.pls (l.map f) = true
  | [] => rfl
  | x :: l => by
    rw [List.map_cons]
    show ((f x).pl && D.pls (l.map f)) = true
    rw [h x, pls_map h l]; rfl
theorem deps_map {ι : Type} {f : ι → D} {k : Nat} (h : ∀ i, (f i).dep ≤ k) : ∀ l : List ι, D.deps (l.map f) ≤ k
  | [] => Nat.zero_le _
  | x :: l => Nat.max_le.mpr ⟨h x, deps_map h l⟩
theorem ok_of {d : D} (h : d.pl = true) (k : d.dep ≤ 64) : d.ok = true := by
  unfold D.ok
  rw [h, decide_eq_true k]; rfl
theorem pl_q {o : Bool} {m : Nat} {r : Vq} : (lstQ o m r).pl = true := pls_map (f := fun j => qD (r j)) (fun _ => rfl) _
theorem dep_q {o : Bool} {m : Nat} {r : Vq} : (lstQ o m r).dep ≤ 2 := Nat.succ_le_succ (deps_map (f := fun j => qD (r j)) (k := 1) (fun _ => Nat.le_refl 1) _)
theorem ne_q {m : Nat} {r h : Vq} : gNe (lstQ false m r) (lstQ false m h) = some (.bl (!(D.eqv (lstQ false m r) (lstQ false m h)))) := by
  unfold gNe
  rw [ok_of pl_q (Nat.le_trans dep_q (by decide)), ok_of pl_q (Nat.le_trans dep_q (by decide))]
  rfl
theorem ne_nil {m : Nat} {r : Vq} {ls : List Vq} : gNe (.lst false ((r :: ls).map fun r => lstQ false m r)) (.lst true []) = some (.bl true) := by
  unfold gNe
  rw [ok_of (d := .lst false ((r :: ls).map fun r => lstQ false m r)) (pls_map (f := fun r => lstQ false m r) (fun _ => pl_q) _) (Nat.le_trans (Nat.succ_le_succ (deps_map (f := fun r => lstQ false m r) (k := 2) (fun _ => dep_q) _)) (by decide))]
  rfl
theorem heads_le {S0 : Vq → Prop} {c : Nat} : (heads S0 c).length ≤ c := by
  unfold heads
  exact Nat.le_trans (List.length_filter_le _ _) (by rw [List.length_range]; exact Nat.le_refl _)
theorem e__law_rank {n N : Nat} {A : Mq} (h0 : 0 < n) (h4 : n ≤ 4) (hz : ∀ i k, n ≤ k → A i k = 0) (hS : ∀ i k, i < n → k < n → Sm N (A i k)) (hN : bN N n ≤ 2000) (dr : Dr) : f__law_rank [Tt n A] dr = .ok (.int ((heads (RowsOf n A) n).length : Int)) dr := by
  have hx : gIx (Tt n A) (.int 0) = some (rowL (List.range n) (A 0)) := at_map (f := fun i => rowL (List.range n) (A i)) (k := 0) h0
  refine ew_of ?_
  unfold f__law_rank
  with_reducible refine fw1 ?_
  simp only [List.reduceReplicate]
  unfold m__law_rank
  walk_at "ev"
  with_reducible refine lcw_all (fun i => rowL (List.range n) (A i)) (fun i => lstQ true n (A i)) (List.range n) rfl (by walk_at "small") (by walk_at "wipe") (fun i hi => ?_) ?_
  · have g := gl_row (m := n) (r := A i)
    walk_at "ev"
    rfl
  walk_at "ev"
  with_reducible refine sw_for (fun k : Nat => .int (k : Int)) (List.range n) (fun zs ρ d => d = dr ∧ ∃ (ws : List Nat) (ls : List Vq) (l2 : D) (x1 x4 x5 x7 : Option D), List.range n = ws ++ zs ∧ l2.fz = .lst false (ls.map fun r => lstQ false n r) ∧ ls.length ≤ n ∧ Lft (RowsOf n A) ws.length (· ∈ ls) ∧ (∀ r ∈ ls, (∀ k, n ≤ k → r k = 0) ∧ ∀ k, k < n → Sm (bN N (heads (RowsOf n A) ws.length).length) (r k)) ∧ ρ = [some (Tt n A), x1, some l2, some (.int ((heads (RowsOf n A) ws.length).length : Int)), x4, x5, none, x7, none]) ?_ ?_ ?_
  · walk_at "ev"
    refine ⟨[], (List.range n).map A, .lst true ((List.range n).map fun i => lstQ true n (A i)), _, _, _, _, rfl, ?_, by rw [List.length_map, List.length_range]; exact Nat.le_refl _, ?_, ?_, rfl⟩
    · have e1 : (D.lst true ((List.range n).map fun i => lstQ true n (A i))).fz = .lst false (D.fzs ((List.range n).map fun i => lstQ true n (A i))) := rfl
      rw [e1, fzs_map, List.map_map, List.map_map]
      exact congrArg (D.lst false) (List.map_congr_left fun i _ => fz_lstQ true n (A i))
    · have e : (fun x => x ∈ (List.range n).map A) = RowsOf n A := by
        funext r
        refine propext ⟨fun h => ?_, fun ⟨i, hi, e⟩ => List.mem_map.mpr ⟨i, List.mem_range.mpr hi, e.symm⟩⟩
        obtain ⟨i, hi, e⟩ := List.mem_map.mp h
        exact ⟨i, List.mem_range.mp hi, e.symm⟩
      rw [e]
      exact lft_0
    · intro r hr
      obtain ⟨i, hi, rfl⟩ := List.mem_map.mp hr
      exact ⟨fun k hk => hz i k hk, fun k hk => hS i k (List.mem_range.mp hi) hk⟩
  · rintro c zs ρ d ⟨rfl, ws, ls, l2, x1, x4, x5, x7, hw, hl2, hln, hL, hr, rfl⟩
    have hc := rng_split hw
    rw [hc.1] at hL hr ⊢
    have fin : (ws ++ [c]).length = c + 1 := by rw [List.length_append, hc.1]; rfl
    have hw2 : List.range n = (ws ++ [c]) ++ zs := by rw [hw, List.append_assoc]; rfl
    have hzz : ∀ l : List Vq, D.fzs (l.map fun r => lstQ false n r) = l.map fun r => lstQ false n r := fun l => fzs_frz _ _ fun r => fz_lstQ false n r
    have hz1 := hzz ls
    walk_at "ev"
    with_reducible refine lcw_map (fun r : Vq => lstQ false n r) (fun r : Vq => lstQ false n r) (fun r : Vq => !((r c).num == 0)) ls rfl (len_ok (by omega)) (by walk_at "wipe") (fun r hr1 => ?_) ?_
    · have hc2 := hc.2
      walk_at "ev"
      with_reducible refine ⟨?_, fun hp => ?_⟩
      · walk_at "ev"
        rfl
      · walk_at "ev"
        rfl
    have hfl : ∀ r ∈ ls.filter fun r : Vq => !((r c).num == 0), r ∈ ls ∧ r c ≠ 0 := fun r hr1 => by
      obtain ⟨a, b⟩ := List.mem_filter.mp hr1
      exact ⟨a, num_ne (by simpa using b)⟩
    have hno : (ls.filter fun r : Vq => !((r c).num == 0)) = [] → ∀ r ∈ ls, r c = 0 := fun e r a => by
      have := List.filter_eq_nil_iff.mp e r a
      exact num_z (by simpa using this)
    generalize (ls.filter fun r : Vq => !((r c).num == 0)) = fl at hfl hno ⊢
    cases fl with
    | nil =>
      have hz5 := hzz []
      have ee : gNe (.lst false []) (.lst true []) = some (.bl false) := by kernel_rfl
      have ee2 : gNe (.lst false (List.map (fun r : Vq => lstQ false n r) [])) (.lst true []) = some (.bl false) := ee
      have hp : ¬ Pv (RowsOf n A) c := fun p => by
        obtain ⟨r, a, b⟩ := hL.pv.mp p
        exact b (hno rfl r a)
      walk_at "ev"
      have L' := hL.skip (hno rfl)
      refine ⟨ws ++ [c], ls, .lst false (ls.map fun r => lstQ false n r), some (.int (c : Int)), some (.lst false (List.map (fun r : Vq => lstQ false n r) [])), x5, x7, hw2, fz_lst' (hzz ls), hln, ?_, ?_, ?_⟩
      · rw [fin]; exact L'
      · rw [fin, heads_f hp]; exact hr
      · rw [fin, heads_f hp]
    | cons h ks =>
      obtain ⟨h1, h2⟩ := hfl h List.mem_cons_self
      have ee := ne_nil (m := n) (r := h) (ls := ks)
      have hx0 : gIx (.lst false ((h :: ks).map fun r => lstQ false n r)) (.int 0) = some (lstQ false n h) := at0 _ _
      have hc2 := hc.2
      have hq := invD_q h2
      have hz2 := hzz (h :: ks)
      have hz3 := hzz (ls.filter (keepR n c h))
      walk_at "ev"
      with_reducible refine lcw_map (fun r : Vq => lstQ false n r) (fun r : Vq => lstQ false n r) (keepR n c h) ls rfl (len_ok (by omega)) (by walk_at "wipe") (fun r hr1 => ?_) ?_
      · have q := ne_q (m := n) (r := r) (h := h)
        walk_at "ev"
        with_reducible refine ⟨?_, fun hp => ?_⟩
        · unfold keepR
          walk_at "ev"
          with_reducible refine ifw (fun h5 => ?_) (fun h5 => ?_)
          · walk_at "ev"
            rw [h5]; rfl
          · walk_at "ev"
            rw [h5]; rfl
        · walk_at "ev"
          rfl
      have L' := lft_law (m := n) hL h1 h2 fun r hr1 => (hr r hr1).1
      have hP : Pv (RowsOf n A) c := hL.pv.mpr ⟨h, h1, h2⟩
      have hB : bN N (heads (RowsOf n A) c).length ≤ 2000 := Nat.le_trans (bN_le (Nat.le_trans heads_le (Nat.le_of_lt hc.2))) hN
      have hq2 : invD (h c) = qD (h c)⁻¹ := hq
      unfold invD at hq2
      have hz4 : D.fzs ((ls.filter (keepR n c h)).map fun r => lstQ true n (red c h r)) = (ls.filter (keepR n c h)).map fun r => lstQ false n (red c h r) := by
        rw [fzs_map, List.map_map]
        exact List.map_congr_left fun r _ => fz_lstQ true n _
      walk_at "ev"
      with_reducible refine ifw_d (fun h3 => ?_) (fun h3 => ?_)
      · rw [if_pos h3] at hq2
        walk_at "ev"
        rw [hq2]
        walk_at "ev"
        with_reducible refine lcw_all (fun r : Vq => lstQ false n r) (fun r : Vq => lstQ true n (red c h r)) (ls.filter (keepR n c h)) rfl (len_ok (Nat.le_trans (List.length_filter_le _ _) (by omega))) (by walk_at "wipe") (fun r hr1 => ?_) ?_
        · have hr2 := hr r (List.mem_filter.mp hr1).1
          with_reducible refine tgw (ρ1 := [some (Tt n A), some (.int (c : Int)), some (.lst false ((ls.filter (keepR n c h)).map fun r => lstQ false n r)), some (.int ((heads (RowsOf n A) c).length + 1)), some (.lst false ((h :: ks).map fun r => lstQ false n r)), some (qD (h c)⁻¹), some (lstQ false n r), some (lstQ false n h), none]) rfl ?_
          with_reducible exact lawrow_ew (N := bN N (heads (RowsOf n A) c).length) (by omega) hc.2 hr2.2 (hr h h1).2 (by omega)
        · walk_at "ev"
          refine ⟨ws ++ [c], (ls.filter (keepR n c h)).map (red c h), .lst false ((ls.filter (keepR n c h)).map fun r => lstQ false n (red c h r)), some (.int (c : Int)), some (.lst false ((h :: ks).map fun r => lstQ false n r)), some (qD (h c)⁻¹), some (lstQ false n h), hw2, ?_, ?_, ?_, ?_, ?_⟩
          · rw [List.map_map]; exact fz_lst' (fzs_frz _ _ fun r => fz_lstQ false n _)
          · rw [List.length_map]; exact Nat.le_trans (List.length_filter_le _ _) hln
          · rw [fin]; exact L'
          · intro r' hr'
            obtain ⟨r, hr1, rfl⟩ := List.mem_map.mp hr'
            have hr2 := hr r (List.mem_filter.mp hr1).1
            have hh2 := hr h h1
            refine ⟨fun k hk => ?_, fun k hk => ?_⟩
            · unfold red
              rw [hr2.1 k hk, hh2.1 k hk, Rat.mul_zero]; grind
            · rw [fin, heads_t hP, List.length_append]
              unfold red
              exact ((hr2.2 k hk).sub (((hr2.2 c hc.2).div (hh2.2 c hc.2)).mul (hh2.2 k hk))).mono (by show _ ≤ 4 * bN N (heads (RowsOf n A) c).length + 2; omega)
          · rw [fin, heads_t hP, List.length_append]
            rfl
      · rw [if_neg h3] at hq2
        walk_at "ev"
        rw [hq2]
        walk_at "ev"
        with_reducible refine lcw_all (fun r : Vq => lstQ false n r) (fun r : Vq => lstQ true n (red c h r)) (ls.filter (keepR n c h)) rfl (len_ok (Nat.le_trans (List.length_filter_le _ _) (by omega))) (by walk_at "wipe") (fun r hr1 => ?_) ?_
        · have hr2 := hr r (List.mem_filter.mp hr1).1
          with_reducible refine tgw (ρ1 := [some (Tt n A), some (.int (c : Int)), some (.lst false ((ls.filter (keepR n c h)).map fun r => lstQ false n r)), some (.int ((heads (RowsOf n A) c).length + 1)), some (.lst false ((h :: ks).map fun r => lstQ false n r)), some (qD (h c)⁻¹), some (lstQ false n r), some (lstQ false n h), none]) rfl ?_
          with_reducible exact lawrow_ew (N := bN N (heads (RowsOf n A) c).length) (by omega) hc.2 hr2.2 (hr h h1).2 (by omega)
        · walk_at "ev"
          refine ⟨ws ++ [c], (ls.filter (keepR n c h)).map (red c h), .lst false ((ls.filter (keepR n c h)).map fun r => lstQ false n (red c h r)), some (.int (c : Int)), some (.lst false ((h :: ks).map fun r => lstQ false n r)), some (qD (h c)⁻¹), some (lstQ false n h), hw2, ?_, ?_, ?_, ?_, ?_⟩
          · rw [List.map_map]; exact fz_lst' (fzs_frz _ _ fun r => fz_lstQ false n _)
          · rw [List.length_map]; exact Nat.le_trans (List.length_filter_le _ _) hln
          · rw [fin]; exact L'
          · intro r' hr'
            obtain ⟨r, hr1, rfl⟩ := List.mem_map.mp hr'
            have hr2 := hr r (List.mem_filter.mp hr1).1
            have hh2 := hr h h1
            refine ⟨fun k hk => ?_, fun k hk => ?_⟩
            · unfold red
              rw [hr2.1 k hk, hh2.1 k hk, Rat.mul_zero]; grind
            · rw [fin, heads_t hP, List.length_append]
              unfold red
              exact ((hr2.2 k hk).sub (((hr2.2 c hc.2).div (hh2.2 c hc.2)).mul (hh2.2 k hk))).mono (by show _ ≤ 4 * bN N (heads (RowsOf n A) c).length + 2; omega)
          · rw [fin, heads_t hP, List.length_append]
            rfl
  · rintro ρ d ⟨rfl, ws, ls, l2, x1, x4, x5, x7, hw, hl2, hln, hL, hr, rfl⟩
    rw [List.append_nil] at hw
    rw [← hw, List.length_range]
    walk_at "ev"
    rfl
end K01
/-! MQ4 -/
/-! MQ4: tables undone. -/
namespace DL
open Classical in
theorem heads_all {S : Vq → Prop} {n : Nat} (h : ∀ c, c < n → Pv S c) : heads S n = List.range n := by
  unfold heads
  exact List.filter_eq_self.mpr fun k hk => decide_eq_true (h k (List.mem_range.mp hk))
open Classical in
theorem heads_len {S : Vq → Prop} {n : Nat} (h : (heads S n).length = n) : ∀ c, c < n → Pv S c := fun c hc => by
  unfold heads at h
  have e : ((List.range n).filter fun k => decide (Pv S k)).length = (List.range n).length := by rw [h, List.length_range]
  have := List.length_filter_eq_length_iff.mp e c (List.mem_range.mpr hc)
  exact of_decide_eq_true this
open Classical in
theorem heads_app {S : Vq → Prop} {n m : Nat} (h : n ≤ m) : ∃ t, heads S m = heads S n ++ t := by
  induction m with
  | zero => exact ⟨[], by rw [Nat.le_zero.mp h]; rfl⟩
  | succ m ih =>
    rcases Nat.lt_succ_iff_lt_or_eq.mp (Nat.lt_succ_of_le h) with z | z
    · obtain ⟨t, e⟩ := ih (Nat.lt_succ_iff.mp z)
      by_cases p : Pv S m
      · exact ⟨t ++ [m], by rw [heads_t p, e, List.append_assoc]⟩
      · exact ⟨t, by rw [heads_f p, e]⟩
    · exact ⟨[], by rw [z, List.append_nil]⟩
open Classical in
theorem heads_take {S : Vq → Prop} {n m : Nat} (h : n ≤ m) : (heads S m).take n = List.range n ↔ ∀ c, c < n → Pv S c := by
  constructor
  · intro e c hc
    have : c ∈ (heads S m).take n := by rw [e]; exact List.mem_range.mpr hc
    have := List.mem_of_mem_take this
    unfold heads at this
    exact of_decide_eq_true (List.mem_filter.mp this).2
  · intro k
    obtain ⟨t, e⟩ := heads_app (S := S) h
    rw [e, heads_all k]
    exact List.take_left' List.length_range
/-- beside a table the table of ones -/
def wide (n : Nat) (A : Mq) : Mq := fun i k => if k < n then A i k else idQ i (k - n)
def cut (n : Nat) (v : Vq) : Vq := fun k => if k < n then v k else 0
theorem sp_cut {n : Nat} {A : Mq} (hz : ∀ i k, n ≤ k → A i k = 0) {v : Vq} (h : Sp (RowsOf n (wide n A)) v) : Sp (RowsOf n A) (cut n v) := by
  induction h with
  | zero =>
    have e : cut n (fun _ => 0) = fun _ => 0 := by funext k; unfold cut; split <;> rfl
    rw [e]; exact .zero
  | @add v w a _ hw ih =>
    obtain ⟨i, hi, e⟩ := hw
    have := Sp.add a ih (show RowsOf n A (A i) from ⟨i, hi, rfl⟩)
    have e2 : (fun k => cut n v k + a * A i k) = cut n fun k => v k + a * w k := by
      funext k
      unfold cut
      rw [e]
      by_cases hk : k < n
      · rw [if_pos hk, if_pos hk]
        show v k + a * A i k = v k + a * wide n A i k
        unfold wide; rw [if_pos hk]
      · rw [if_neg hk, if_neg hk, hz i k (by omega), Rat.mul_zero, Rat.add_zero]
    rw [e2] at this
    exact this
theorem sp_wide {n : Nat} {A : Mq} {v : Vq} (h : Sp (RowsOf n A) v) : ∃ u, Sp (RowsOf n (wide n A)) u ∧ ∀ k, k < n → u k = v k := by
  induction h with
  | zero => exact ⟨_, .zero, fun _ _ => rfl⟩
  | @add v w a _ hw ih =>
    obtain ⟨i, hi, e⟩ := hw
    obtain ⟨u, h1, h2⟩ := ih
    refine ⟨_, Sp.add a h1 (show RowsOf n (wide n A) (wide n A i) from ⟨i, hi, rfl⟩), fun k hk => ?_⟩
    show u k + a * wide n A i k = v k + a * w k
    rw [h2 k hk, e]
    unfold wide; rw [if_pos hk]
theorem pv_wide {n c : Nat} {A : Mq} (hz : ∀ i k, n ≤ k → A i k = 0) (hc : c < n) : Pv (RowsOf n (wide n A)) c ↔ Pv (RowsOf n A) c := by
  constructor
  · intro ⟨v, a, b, d⟩
    refine ⟨cut n v, sp_cut hz a, fun k hk => ?_, ?_⟩
    · unfold cut; rw [if_pos (by omega)]; exact b k hk
    · unfold cut; rw [if_pos hc]; exact d
  · intro ⟨v, a, b, d⟩
    obtain ⟨u, h1, h2⟩ := sp_wide a
    exact ⟨u, h1, fun k hk => by rw [h2 k (by omega)]; exact b k hk, by rw [h2 c hc]; exact d⟩
theorem sp_unit {n : Nat} {R : Mq} (h : ∀ i t, i < n → t < n → R i t = if i = t then 1 else 0) {v : Vq} (k : Sp (RowsOf n R) v) : ∀ l, v l = sumL (List.range n) fun i => v i * R i l := by
  induction k with
  | zero =>
    intro l
    have : sumL (List.range n) (fun i => (0 : Rat) * R i l) = sumL (List.range n) fun _ => 0 := sumL_congr fun i _ => Rat.zero_mul _
    rw [this, sumL_zero]
  | @add v w a _ hw ih =>
    intro l
    obtain ⟨p, hp, e⟩ := hw
    have e1 : sumL (List.range n) (fun i => (v i + a * w i) * R i l) = sumL (List.range n) (fun i => v i * R i l) + sumL (List.range n) fun i => a * (w i * R i l) := by
      rw [← sumL_add]
      exact sumL_congr fun i _ => by grind
    have e2 : sumL (List.range n) (fun i => w i * R i l) = w l := by
      have : sumL (List.range n) (fun i => w i * R i l) = sumL (List.range n) fun i => if i = p then R i l else 0 := sumL_congr fun i hi => by
        rw [e, h p i hp (List.mem_range.mp hi)]
        by_cases z : i = p
        · rw [if_pos z.symm, if_pos z, Rat.one_mul]
        · rw [if_neg (fun q => z q.symm), if_neg z, Rat.zero_mul]
      rw [this, sumL_one n p hp, e]
    rw [e1, sumL_mul, ← ih l, e2]
/-- behind the elimination: the table undone -/
theorem cl_back {n N : Nat} {A R : Mq} {L : List Nat} (C : Cl n (n + n) N (wide n A) (n + n) R L) (h : L.take n = List.range n) : L.length = n ∧ EqM n (mulQ n A fun i k => R i (n + k)) idQ := by
  have hl : L.length = n := by
    have h1 : (L.take n).length = n := by rw [h, List.length_range]
    rw [List.length_take] at h1
    have := C.le
    omega
  have hg : ∀ t, t < n → L.getD t 0 = t := fun t ht => by
    have e : L = List.range n := by
      rw [← h, List.take_of_length_le (by omega)]
    rw [e, List.getD_eq_getElem?_getD, List.getElem?_range ht]; rfl
  have one : ∀ i t, i < n → t < n → R i t = if i = t then 1 else 0 := fun i t hi ht => by
    have := C.one i t (by omega) (by omega)
    rw [hg t ht] at this
    exact this
  refine ⟨hl, fun j l hj hl2 => ?_⟩
  have := sp_unit one (C.back j hj) (n + l)
  have e1 : wide n A j (n + l) = idQ j l := by
    unfold wide
    rw [if_neg (by omega), show n + l - n = l by omega]
  rw [e1] at this
  rw [this]
  unfold mulQ
  refine sumL_congr fun i hi => ?_
  unfold wide
  rw [if_pos (List.mem_range.mp hi)]
end DL
/-! M01u -/
namespace K01
open PySem PySem.Spec PyProof.Rows L2 DL
set_option maxHeartbeats 4000000
local macro_rules | `(tactic| walk_at "isi") => `(tactic| first | with_reducible exact isi_non_int | with_reducible exact isi_non_bool | with_reducible exact isi_non_str | with_reducible exact isi_non_tuple | with_reducible exact isi_non_list | with_reducible exact isi_bl_int | with_reducible exact isi_bl_bool | with_reducible exact isi_bl_str | with_reducible exact isi_bl_tuple | with_reducible exact isi_bl_list | with_reducible exact isi_int_int | with_reducible exact isi_int_bool | with_reducible exact isi_int_str | with_reducible exact isi_int_tuple | with_reducible exact isi_int_list | with_reducible exact isi_str_int | with_reducible exact isi_str_bool | with_reducible exact isi_str_str | with_reducible exact isi_str_tuple | with_reducible exact isi_str_list | with_reducible exact isi_tup_int | with_reducible exact isi_tup_bool | with_reducible exact isi_tup_str | with_reducible exact isi_tup_tuple | with_reducible exact isi_tup_list | with_reducible exact isi_lst_int | with_reducible exact isi_lst_bool | with_reducible exact isi_lst_str | with_reducible exact isi_lst_tuple | with_reducible exact isi_lst_list | with_reducible exact isi_qD_tuple | with_reducible exact isi_row_tuple | with_reducible exact isi_tab_tuple)
local macro_rules | `(tactic| walk_at "set") => `(tactic| first | with_reducible exact List.set_cons_zero | ((with_reducible refine' set_s ?h1); (case h1 => walk_at "set")))
local macro_rules | `(tactic| walk_at "fz") => `(tactic| first | with_reducible assumption | with_reducible exact fzs_nil | ((with_reducible refine' fzs_c ?h1 ?h2); (case h1 => walk_at "fz"); (case h2 => walk_at "fz")) | with_reducible exact fz_int | with_reducible exact fz_qD _ | with_reducible exact fz_row _ _ | with_reducible exact fz_tab _ _ _ | with_reducible exact fz_lstZ _ _ _ _ | with_reducible exact fz_lstQ _ _ _ | with_reducible exact fz_bl | with_reducible exact fz_non | with_reducible exact fz_dr | with_reducible exact fz_str | with_reducible exact fz_tup | ((with_reducible refine' fz_lstm ?h1); (case h1 => exact fun _ => rfl)) | ((with_reducible refine' fz_lst' ?h1); (case h1 => walk_at "fz")) | assumption | ((with_reducible refine' fzs_frz _ _ ?h1); (case h1 => exact fun _ => rfl)) | with_unfolding_all exact rfl)
local macro_rules | `(tactic| walk_at "wipe") => `(tactic| first | with_reducible exact wipe_nil | ((with_reducible refine' wipe_c ?h1 ?h2); (case h1 => walk_at "wipe"); (case h2 => walk_at "set")))
local macro_rules | `(tactic| walk_at "tg") => `(tactic| first | ((with_reducible refine' g_nm' ?h1); (case h1 => walk_at "set")) | ((refine' g_tp ?h1 ?h2); (case h1 => exact rfl); (case h2 => walk_at "tg")) | with_reducible exact gs_nil | ((with_reducible refine' gs_cons ?h1 ?h2); (case h1 => walk_at "tg"); (case h2 => walk_at "tg")))
local macro_rules | `(tactic| walk_at "small") => `(tactic| first | exact len_ok (Nat.le_of_ble_eq_true rfl) | exact len_ok (by simp only [List.length_map, List.length_range, List.length_cons, List.length_nil, List.length_append]; omega) | exact len_lt (by simp only [List.length_map, List.length_range, List.length_cons, List.length_nil, List.length_append]; omega))
local macro_rules | `(tactic| walk_at "op") => `(tactic| (first | ((with_reducible refine gIx' ?_); (first | with_reducible refine ow_num ?_ | with_reducible refine ow_den ?_ | ((with_reducible refine' ow_ixtab ?h1 ?_); (case h1 => omega)) | ((with_reducible refine' ow_ixrow ?h1 ?_); (case h1 => omega)) | ((with_reducible refine' ow_ixQ ?h1 ?_); (case h1 => omega)) | ((with_reducible refine' ow_ixZ ?h1 ?_); (case h1 => omega)) | ((with_reducible refine' ow_ixlst ?h1 ?_); (case h1 => omega)) | ((with_reducible refine' ow_ixtup ?h1 ?_); (case h1 => omega)) | ((with_reducible refine' ow_ixlst0 ?h1 ?_); (case h1 => omega)) | ((with_reducible refine' ow_ixtup0 ?h1 ?_); (case h1 => omega)) | with_reducible refine ow ix_0 ?_ | with_reducible refine ow ix_1 ?_ | ((with_reducible refine' ow_ixL ?h1 ?_); (case h1 => exact rfl)) | ((with_reducible refine' ow_ixT ?h1 ?_); (case h1 => exact rfl)) | ((with_reducible refine' ow ?h1 ?_); (case h1 => with_reducible assumption)))) | ((with_reducible refine gLen' ?_); (first | with_reducible refine ow_lentabR ?_ | with_reducible refine ow_lenrowR ?_ | with_reducible refine ow_lentab ?_ | with_reducible refine ow_lenrow ?_ | with_reducible refine ow_lenQ ?_ | with_reducible refine ow_lenZ ?_ | with_reducible refine ow_lenlstR ?_ | with_reducible refine ow_lenlst ?_ | with_reducible refine ow_lentup ?_ | with_reducible refine ow_lenT ?_ | with_reducible refine ow_lenL ?_ | ((with_reducible refine' ow ?h1 ?_); (case h1 => with_reducible assumption)))) | ((with_reducible refine gO1 ?_); (first | with_reducible refine ow_tupQ ?_ | ((with_reducible refine' ow_tuple ?h1 ?_); (case h1 => exact fun _ => rfl)) | ((with_reducible refine' ow_list ?h1 ?_); (case h1 => exact fun _ => rfl)) | with_reducible refine ow_listT ?_ | with_reducible refine ow_all ?_ | with_reducible refine ow_any ?_ | with_reducible refine ow_sum ?_ | with_reducible refine ow gabs_int ?_ | with_reducible refine ow gint_int ?_ | with_reducible refine ow gint_bl ?_ | ((with_reducible refine' ow ?h1 ?_); (case h1 => with_reducible assumption)))) | ((with_reducible refine gO2 ?_); (first | with_reducible refine ow gadd_int ?_ | with_reducible refine ow gsub_int ?_ | with_reducible refine ow gaddI_int ?_ | with_reducible refine ow geq_int ?_ | with_reducible refine ow gne_int ?_ | with_reducible refine ow glt_int ?_ | with_reducible refine ow gle_int ?_ | with_reducible refine ow ggt_int ?_ | with_reducible refine ow gge_int ?_ | ((with_reducible refine' ow ?h1 ?_); (case h1 => with_reducible assumption)))) | ((with_reducible refine' ow_isi ?h1 ?_); (case h1 => walk_at "isi")) | with_reducible refine ow_revQ ?_ | with_reducible refine ow_revR ?_ | ((with_reducible refine' ow ?h1 ?_); (case h1 => with_reducible assumption))))
local macro_rules | `(tactic| walk_at "fn") => `(tactic| first | ((with_reducible refine' ew_eq ?h1 ?_); (case h1 => with_reducible assumption)) | ((with_reducible refine' ew_eqx ?h1 ?_); (case h1 => with_reducible assumption)))
local macro_rules | `(tactic| walk_at "ev1") => `(tactic| (first | ((with_reducible refine gEW ?_); (first | ((with_reducible refine' ew_var ?h1 ?_); (case h1 => exact rfl)) | with_reducible refine ew_frz ?_ | with_reducible refine ew_k ?_ | with_reducible refine ew_bin ?_ | with_reducible refine ew_call ?_ | with_reducible refine ew_callE ?_ | with_reducible refine ew_cons ?_ | with_reducible refine ew_nil ?_ | with_reducible refine ew_tst ?_ | with_reducible refine ew_tru ?_ | with_reducible refine ew_yes ?_ | with_reducible refine ew_and ?_ | with_reducible refine ew_or ?_ | with_reducible refine ew_notT ?_ | with_reducible refine ew_not ?_ | with_reducible refine ew_if ?_ | with_reducible refine ew_andV ?_ | with_reducible refine ew_orV ?_ | with_reducible refine ew_chain ?_ | with_reducible refine ew_neg ?_ | with_reducible refine ew_tup ?_ | with_reducible refine ew_lst ?_ | with_reducible refine ew_b ?_ | with_reducible refine ew_isi ?_ | with_reducible refine ew_lc ?_ | with_reducible refine ew_lc2 ?_ | with_reducible refine iw_any ?_ | with_reducible refine iw_rg1 ?_ | with_reducible refine iw_rg2 ?_ | with_reducible refine iw_zip ?_ | with_reducible refine ew_sl ?_ | with_reducible refine ew_part ?_ | with_reducible refine ew_nopart ?_ | with_reducible refine ew_rev ?_ | with_reducible refine ew_lrg1 ?_ | (walk_at "fn"))) | ((with_reducible refine gSW ?_); (first | with_reducible refine sw_seq ?_ | with_reducible refine sw_set ?_ | with_reducible refine sw_setO ?_ | with_reducible refine sw_ret ?_ | with_reducible refine sw_skip ?_ | with_reducible refine sw_if ?_ | with_reducible refine sw_drop ?_ | ((with_reducible refine' sw_fz ?h1 ?_); (case h1 => exact rfl)) | with_reducible refine sw_retN ?_ | with_reducible refine sw_raise ?_ | with_reducible refine sw_par2 ?_ | with_reducible refine sw_par3 ?_ | with_reducible refine sw_parN (by decide) ?_ | ((with_reducible refine' sw_app ?h1 ?_); (case h1 => exact rfl)) | with_reducible refine sw_asg ?_ | with_reducible refine sw_try ?_ | with_reducible refine sw_bk ?_ | with_reducible refine sw_ct ?_)) | ((with_reducible refine gOW ?_); (walk_at "op")) | ((with_reducible refine gAnd ?_); (first | with_reducible refine And.intro (by with_unfolding_all exact rfl) ?_ | with_reducible refine And.intro (by assumption) ?_ | with_reducible refine And.intro (by walk_at "small") ?_)) | ((with_reducible refine gIf ?_); (first | with_reducible refine ifw_t ?_ | with_reducible refine ifw_f ?_ | with_reducible refine ifw_n ?_)) | with_reducible refine sq_nx ?_ | with_reducible refine fq_rt ?_ | with_reducible refine lq_nx ?_ | with_reducible refine fq_nx ?_ | with_reducible refine fq_ex ?_ | with_reducible refine sq_rt ?_ | with_reducible refine sq_ex ?_ | with_reducible refine lq_rt ?_ | with_reducible refine lq_ct ?_ | with_reducible refine lq_bk ?_ | with_reducible refine lq_ex ?_ | with_reducible refine tq_rt ?_ | with_reducible refine tq_nx ?_ | ((with_reducible refine' fzl ?h1 ?_); (case h1 => walk_at "fz")) | ((with_reducible refine' fzd ?h1 ?_); (case h1 => walk_at "fz")) | ((with_reducible refine' stw ?h1 ?_); (case h1 => walk_at "set")) | ((with_reducible refine' wpw ?h1 ?_); (case h1 => walk_at "wipe")) | ((with_reducible refine' tgw ?h1 ?_); (case h1 => walk_at "tg")) | ((with_reducible refine' trw ?h1 ?_); (case h1 => exact rfl)) | with_reducible refine tb_bl ?_ | ((with_reducible refine' callw ?h1 ?_); (case h1 => exact rfl)) | ((with_reducible refine' tq_ex ?h1 ?_); (case h1 => exact rfl)) | with_reducible refine int_w ?_ | with_reducible refine it_tup ?_ | with_reducible refine it_tab ?_ | with_reducible refine it_row ?_ | with_reducible refine it_lstQ ?_ | ((with_reducible refine' it_lst ?h1 ?_); (case h1 => walk_at "fz")) | with_reducible refine p2 ?_ | with_reducible refine p3 ?_ | with_reducible refine setw_cons ?_ | with_reducible refine setw_nil ?_ | ((with_reducible refine' rgw_n ?h1 ?_); (case h1 => omega)) | with_reducible refine zpw_rr ?_ | ((with_reducible refine' zpw_ll ?h1 ?h2 ?_); (case h1 => walk_at "fz"); (case h2 => walk_at "fz"))))
local macro_rules | `(tactic| walk_at "ev") => `(tactic| repeat' walk_at "ev1")
theorem rng_app {α : Type} {n m : Nat} (f g : Nat → α) : (List.range n).map f ++ (List.range m).map g = (List.range (n + m)).map fun k => if k < n then f k else g (k - n) := by
  rw [List.range_add, List.map_append, List.map_map]
  congr 1
  · refine List.map_congr_left fun k hk => ?_
    rw [if_pos (List.mem_range.mp hk)]
  · refine List.map_congr_left fun k hk => ?_
    show g k = if n + k < n then f (n + k) else g (n + k - n)
    rw [if_neg (by omega), show n + k - n = k by omega]
theorem wide_row {n i : Nat} {A : Mq} (hn : n ≤ 100) : gAdd (rowL (List.range n) (A i)) (rowL (List.range n) (idQ i)) = some (rowL (List.range (n + n)) (wide n A i)) := by
  have a := add_tups ((List.range n).map fun k => qD (A i k)) ((List.range n).map fun k => qD (idQ i k)) (by rw [List.length_map, List.length_map, List.length_range]; omega)
  rw [rng_app] at a
  refine a.trans ?_
  unfold rowL
  congr 2
  refine List.map_congr_left fun k hk => ?_
  unfold wide
  split <;> rfl
theorem sl_tail {n : Nat} {r : Vq} : gSl (lstQ false (n + n) r) (some (n : Int)) none = some (lstQ true n fun k => r (n + k)) := by
  have hf : ((List.range (n + n)).map fun k => qD (r k)).all D.frz = true := all_frz _ _ fun _ => rfl
  show (if ((List.range (n + n)).map fun k => qD (r k)).all D.frz then some (D.lst true (DL.cutD ((List.range (n + n)).map fun k => qD (r k)) (some (n : Int)) none)) else none) = _
  rw [hf]
  have e : DL.cutD ((List.range (n + n)).map fun k => qD (r k)) (some (n : Int)) none = (List.range n).map fun k => qD (r (n + k)) := by
    unfold DL.cutD
    rw [HT.sIx_nat, HT.sIx_none, List.length_map, List.length_range, Nat.min_eq_left (by omega), show n + n - n = n by omega, List.range_add, List.map_append, List.drop_left' (by rw [List.length_map, List.length_range]), List.take_of_length_le (by rw [List.length_map, List.length_map, List.length_range]; omega), List.map_map]
    rfl
  rw [e]; rfl
theorem ints_inj : ∀ (l k : List Nat), D.eqvs (l.map fun k : Nat => .int (k : Int)) (k.map fun k : Nat => .int (k : Int)) = decide (l = k)
  | [], [] => rfl
  | [], y :: k => rfl
  | x :: l, [] => rfl
  | x :: l, y :: k => by
    show (((x : Int) == (y : Int)) && D.eqvs (l.map fun k : Nat => .int (k : Int)) (k.map fun k : Nat => .int (k : Int))) = _
    rw [ints_inj l k]
    by_cases h : x = y
    · subst h
      by_cases z : l = k
      · subst z; simp
      · simp [z]
    · have : ((x : Int) == (y : Int)) = false := by simp; omega
      rw [this]; simp [h]
theorem ok_ints (o : Bool) (l : List Nat) : (D.lst o (l.map fun k : Nat => .int (k : Int))).ok = true := ok_of (pls_map (f := fun k : Nat => D.int (k : Int)) (fun _ => rfl) l) (Nat.le_trans (Nat.succ_le_succ (deps_map (f := fun k : Nat => D.int (k : Int)) (k := 0) (fun _ => Nat.le_refl 0) l)) (by decide))
theorem ne_ints (o o' : Bool) (l k : List Nat) : gNe (.lst o (l.map fun k : Nat => .int (k : Int))) (.lst o' (k.map fun k : Nat => .int (k : Int))) = some (.bl (!decide (l = k))) := by
  unfold gNe
  rw [ok_ints, ok_ints]
  show some (D.bl (!(D.eqvs (l.map fun k : Nat => .int (k : Int)) (k.map fun k : Nat => .int (k : Int))))) = _
  rw [ints_inj]
theorem sl_ints {o : Bool} {n : Nat} {l : List Nat} : gSl (.lst o (l.map fun k : Nat => .int (k : Int))) none (some (n : Int)) = some (.lst true ((l.take n).map fun k : Nat => .int (k : Int))) := by
  have hf : (l.map fun k : Nat => D.int (k : Int)).all D.frz = true := all_frz _ _ fun _ => rfl
  show (if (l.map fun k : Nat => D.int (k : Int)).all D.frz then some (D.lst true (DL.cutD (l.map fun k : Nat => D.int (k : Int)) none (some (n : Int)))) else none) = _
  rw [hf]
  have e : DL.cutD (l.map fun k : Nat => D.int (k : Int)) none (some (n : Int)) = (l.take n).map fun k : Nat => .int (k : Int) := by
    unfold DL.cutD
    rw [HT.sIx_nat, HT.sIx_none, List.length_map, List.drop_zero, Nat.sub_zero, ← List.map_take]
    congr 1
    rcases Nat.le_total n l.length with h | h
    · rw [Nat.min_eq_left h]
    · rw [Nat.min_eq_right h, List.take_length, List.take_of_length_le h]
  rw [e]; rfl
/-! M01v -/
theorem wide_sm {n N : Nat} {A : Mq} (h : ∀ i k, i < n → k < n → Sm N (A i k)) (hN : 0 < N) : ∀ i k, i < n → k < n + n → Sm N (wide n A i k) := fun i k hi hk => by
  unfold wide
  split
  · exact h i k hi (by assumption)
  · unfold idQ
    split
    · exact sm1.mono (by omega)
    · exact sm0.mono (by omega)
/-- what undoing comes to -/
structure Und (n : Nat) (A : Mq) (V : Mq) : Prop where
  eq : EqM n (mulQ n A V) idQ
  sm : ∀ i k, i < n → k < n → Sm 700 (V i k)
theorem ew_get {r : R D} {dr : Dr} {Q : D → Prop} (h : EW r (fun d dr' => dr' = dr ∧ Q d) noX) : ∃ d, r = .ok d dr ∧ Q d := by
  cases r with
  | st => exact h.elim
  | ex _ _ => exact h.elim
  | ok d dr' =>
    obtain ⟨b1, b2⟩ := (show _ ∧ _ from h)
    exact ⟨d, by rw [b1], b2⟩
theorem e_back_of {n N : Nat} {A : Mq} (h0 : 0 < n) (h4 : n ≤ 4) (hz : ∀ i k, n ≤ k → A i k = 0) (hS : ∀ i k, i < n → k < n → Sm N (A i k)) (hN : bN N n ≤ 700) (hN0 : 0 < N) (dr : Dr) :
    ∃ d, f_back_of [Tt n A] dr = .ok d dr ∧ (((heads (RowsOf n A) n).length = n ∧ ∃ V, Und n A V ∧ d = Tt n V) ∨ ((heads (RowsOf n A) n).length ≠ n ∧ d = .non)) := by
  with_reducible refine ew_get ?_
  have u := e_unit_of (n := n) (by omega) dr
  unfold f_back_of
  with_reducible refine fw1 ?_
  simp only [List.reduceReplicate]
  unfold m_back_of
  walk_at "ev"
  with_reducible refine zpw_TT ?_
  walk_at "ev"
  with_reducible refine lcw_all (fun i => .tup [rowL (List.range n) (A i), rowL (List.range n) (idQ i)]) (fun i => rowL (List.range (n + n)) (wide n A i)) (List.range n) rfl (by walk_at "small") (by walk_at "wipe") (fun i hi => ?_) ?_
  · have a := wide_row (i := i) (A := A) (n := n) (by omega)
    walk_at "ev"
    rfl
  have hzz : D.fzs ((List.range n).map fun i => rowL (List.range (n + n)) (wide n A i)) = (List.range n).map fun i => rowL (List.range (n + n)) (wide n A i) := fzs_frz _ _ fun i => fz_row _ _
  have hX : RowsD n (n + n) (wide n A) (.lst false ((List.range n).map fun i => rowL (List.range (n + n)) (wide n A i))) := ⟨fz_lst' hzz, rfl, fun Q k => it_lst hzz k⟩
  have cl := e_cleared hX h0 (by omega) (by omega) (wide_sm hS hN0) (Nat.le_trans hN (by decide)) dr
  walk_at "ev"
  generalize f_cleared [D.lst false ((List.range n).map fun i => rowL (List.range (n + n)) (wide n A i))] dr = r at cl ⊢
  obtain ⟨R, L, C, rfl⟩ := cl
  have s1 := sl_ints (o := false) (n := n) (l := L)
  have s2 := ne_ints true true (L.take n) (List.range n)
  have hiff : L.take n = List.range n ↔ (heads (RowsOf n A) n).length = n := by
    rw [C.hL, heads_take (Nat.le_add_left n n)]
    constructor
    · intro h
      rw [heads_all fun c hc => (pv_wide hz hc).mp (h c hc), List.length_range]
    · intro h c hc
      exact (pv_wide hz hc).mpr (heads_len h c hc)
  have hle := C.le
  have hzz2 : D.fzs (rws (n + n) R L.length) = rws (n + n) R L.length := fzs_frz _ _ fun i => fz_lstQ false _ _
  with_reducible refine ew_ok ?_
  walk_at "ev"
  with_reducible refine ifw_d (fun h => ?_) (fun h => ?_)
  · obtain ⟨hl, hV⟩ := cl_back C h
    walk_at "ev"
    with_reducible refine lcw_all (fun i => lstQ false (n + n) (R i)) (fun i => rowL (List.range n) fun k => R i (n + k)) (List.range L.length) rfl (by walk_at "small") (by walk_at "wipe") (fun i hi => ?_) ?_
    · have t := sl_tail (n := n) (r := R i)
      walk_at "ev"
      rfl
    · walk_at "ev"
      rw [hl]
      exact .inl ⟨hiff.mp h, fun i k => R i (n + k), ⟨hV, fun i k hi hk => (C.sz i (n + k) hi (by omega)).mono (Nat.le_trans (bN_le hle) hN)⟩, rfl⟩
  · walk_at "ev"
    exact .inr ⟨fun e => h (hiff.mpr e), rfl⟩
/-! M01w -/
/-- undoing: told as an equation -/
theorem e_back {n N : Nat} {A : Mq} (h0 : 0 < n) (h4 : n ≤ 4) (hz : ∀ i k, n ≤ k → A i k = 0) (hS : ∀ i k, i < n → k < n → Sm N (A i k)) (hN : bN N n ≤ 700) (hN0 : 0 < N) (dr : Dr) :
    ∃ d, f_back [Tt n A] dr = .ok d dr ∧ (((heads (RowsOf n A) n).length = n ∧ ∃ V, Und n A V ∧ d = Tt n V) ∨ ((heads (RowsOf n A) n).length ≠ n ∧ d = .non)) := by
  have c := ck (A := A) h0 h4 dr
  have key := e_back_of h0 h4 hz hS hN hN0 dr
  obtain ⟨d, e, h⟩ := key
  refine ⟨d, ?_, h⟩
  clear h
  refine ew_of ?_
  unfold f_back
  with_reducible refine fw1 ?_
  simp only [List.reduceReplicate]
  unfold m_back
  walk_at "ev"
  rfl
theorem e__law_undone {n N : Nat} {A : Mq} (h0 : 0 < n) (h4 : n ≤ 4) (hz : ∀ i k, n ≤ k → A i k = 0) (hS : ∀ i k, i < n → k < n → Sm N (A i k)) (hN : bN N n ≤ 2000) (dr : Dr) : f__law_undone [Tt n A] dr = .ok (.bl (decide ((heads (RowsOf n A) n).length = n))) dr := by
  have r := e__law_rank h0 h4 hz hS hN dr
  have e : (((heads (RowsOf n A) n).length : Int) == (n : Int)) = decide ((heads (RowsOf n A) n).length = n) := by
    by_cases h : (heads (RowsOf n A) n).length = n
    · rw [h]; simp
    · rw [decide_eq_false h]; simp; omega
  rw [← e]
  refine ew_of ?_
  unfold f__law_undone
  with_reducible refine fw1 ?_
  simp only [List.reduceReplicate]
  unfold m__law_undone
  walk_at "ev"
  rfl
/-! the law's own checks -/
theorem e__law_int {d : D} (h : d.cl = true) (dr : Dr) : f__law_int [d] dr = .ok (.bl d.isW) dr := by
  cases d
  case fn => cases h
  case dr => cases h
  all_goals
    refine ew_of ?_
    unfold f__law_int
    with_reducible refine fw1 ?_
    simp only [List.reduceReplicate]
    unfold m__law_int
    walk_at "ev"
    rfl
/-! M01x -/
/-! values that are not too wide, deep, great -/
def nc : Nat → D → Bool
  | _, .non => true
  | _, .bl _ => true
  | _, .int i => decide (i.natAbs < 2 ^ 100)
  | _, .str x => PyData.strOk x
  | _, .fn _ => false
  | _, .dr => false
  | 0, .tup _ => false
  | 0, .lst _ _ => false
  | k + 1, .tup xs => decide (xs.length ≤ 1000) && xs.all (nc k)
  | k + 1, .lst o xs => !o && (decide (xs.length ≤ 1000) && xs.all (nc k))
theorem nc_tup {k : Nat} {xs : List D} (h : nc k (.tup xs) = true) : xs.length ≤ 1000 ∧ ∀ x ∈ xs, nc (k - 1) x = true := by
  cases k with
  | zero => cases h
  | succ k =>
    have h : (decide (xs.length ≤ 1000) && xs.all (nc k)) = true := h
    rw [Bool.and_eq_true, decide_eq_true_eq, List.all_eq_true] at h
    exact h
theorem nc_lst {k : Nat} {o : Bool} {xs : List D} (h : nc k (.lst o xs) = true) : o = false ∧ xs.length ≤ 1000 ∧ ∀ x ∈ xs, nc (k - 1) x = true := by
  cases k with
  | zero => cases h
  | succ k =>
    have h : (!o && (decide (xs.length ≤ 1000) && xs.all (nc k))) = true := h
    rw [Bool.and_eq_true, Bool.and_eq_true, decide_eq_true_eq, List.all_eq_true] at h
    refine ⟨?_, h.2⟩
    cases o
    · rfl
    · exact absurd h.1 (by decide)
theorem nc_tup_of {k : Nat} {xs : List D} (h : xs.length ≤ 1000) (g : ∀ x ∈ xs, nc k x = true) : nc (k + 1) (.tup xs) = true := by
  show (decide (xs.length ≤ 1000) && xs.all (nc k)) = true
  rw [decide_eq_true h, List.all_eq_true.mpr g]; rfl
theorem nc_lst_of {k : Nat} {xs : List D} (h : xs.length ≤ 1000) (g : ∀ x ∈ xs, nc k x = true) : nc (k + 1) (.lst false xs) = true := by
  show (!false && (decide (xs.length ≤ 1000) && xs.all (nc k))) = true
  rw [decide_eq_true h, List.all_eq_true.mpr g]; rfl
theorem cls_of : ∀ {xs : List D}, (∀ x ∈ xs, x.cl = true) → D.cls xs = true
  | [], _ => rfl
  | x :: xs, h => by
    show (D.cl x && D.cls xs) = true
    rw [h x List.mem_cons_self, cls_of fun y hy => h y (List.mem_cons_of_mem _ hy)]; rfl
theorem pls_of : ∀ {xs : List D}, (∀ x ∈ xs, x.pl = true) → D.pls xs = true
  | [], _ => rfl
  | x :: xs, h => by
    show (D.pl x && D.pls xs) = true
    rw [h x List.mem_cons_self, pls_of fun y hy => h y (List.mem_cons_of_mem _ hy)]; rfl
theorem deps_of {k : Nat} : ∀ {xs : List D}, (∀ x ∈ xs, x.dep ≤ k) → D.deps xs ≤ k
  | [], _ => Nat.zero_le _
  | x :: xs, h => Nat.max_le.mpr ⟨h x List.mem_cons_self, deps_of fun y hy => h y (List.mem_cons_of_mem _ hy)⟩
theorem nc_all : ∀ (k : Nat) (d : D), nc k d = true → d.cl = true ∧ d.pl = true ∧ d.dep ≤ k
  | _, .non, _ => ⟨rfl, rfl, Nat.zero_le _⟩
  | _, .bl _, _ => ⟨rfl, rfl, Nat.zero_le _⟩
  | _, .int _, _ => ⟨rfl, rfl, Nat.zero_le _⟩
  | _, .str x, h => by
    refine ⟨rfl, ?_, Nat.zero_le _⟩
    cases ‹Nat› <;> exact h
  | k, .fn _, h => by cases k <;> cases h
  | k, .dr, h => by cases k <;> cases h
  | 0, .tup _, h => by cases h
  | 0, .lst _ _, h => by cases h
  | k + 1, .tup xs, h => by
    obtain ⟨h1, h2⟩ := nc_tup h
    have h2 : ∀ x ∈ xs, nc k x = true := h2
    exact ⟨cls_of fun x hx => (nc_all k x (h2 x hx)).1, pls_of fun x hx => (nc_all k x (h2 x hx)).2.1, Nat.succ_le_succ (deps_of fun x hx => (nc_all k x (h2 x hx)).2.2)⟩
  | k + 1, .lst o xs, h => by
    obtain ⟨rfl, h1, h2⟩ := nc_lst h
    have h2 : ∀ x ∈ xs, nc k x = true := h2
    refine ⟨?_, pls_of fun x hx => (nc_all k x (h2 x hx)).2.1, Nat.succ_le_succ (deps_of fun x hx => (nc_all k x (h2 x hx)).2.2)⟩
    show (!false && D.cls xs) = true
    rw [cls_of fun x hx => (nc_all k x (h2 x hx)).1]; rfl
theorem nc_cl {k : Nat} {d : D} (h : nc k d = true) : d.cl = true := (nc_all k d h).1
theorem nc_ok {k : Nat} {d : D} (h : nc k d = true) (hk : k ≤ 64) : d.ok = true := ok_of (nc_all k d h).2.1 (Nat.le_trans (nc_all k d h).2.2 hk)
theorem nc_up : ∀ (k : Nat) (d : D), nc k d = true → nc (k + 1) d = true
  | _, .non, _ => rfl
  | _, .bl _, _ => rfl
  | k, .int _, h => by cases k <;> exact h
  | k, .str _, h => by cases k <;> exact h
  | k, .fn _, h => by cases k <;> cases h
  | k, .dr, h => by cases k <;> cases h
  | 0, .tup _, h => by cases h
  | 0, .lst _ _, h => by cases h
  | k + 1, .tup xs, h => nc_tup_of (nc_tup h).1 fun x hx => nc_up k x ((nc_tup h).2 x hx)
  | k + 1, .lst o xs, h => by
    obtain ⟨rfl, h1, h2⟩ := nc_lst h
    exact nc_lst_of h1 fun x hx => nc_up k x (h2 x hx)
theorem nc_le {k l : Nat} (h : k ≤ l) : ∀ {d : D}, nc k d = true → nc l d = true := by
  induction h with
  | refl => exact fun h => h
  | step _ ih => exact fun h => nc_up _ _ (ih h)
theorem nc_wide {k : Nat} {d : D} (h : nc k d = true) : wide2 d := by
  rintro xs rfl
  obtain ⟨h1, h2⟩ := nc_tup h
  refine ⟨h1, ?_⟩
  rintro x hx ys rfl
  exact (nc_tup (h2 _ hx)).1
/-! the law's own checks -/
theorem div_one {a b : Int} (hb : 0 < b) (h : Int.gcd a b = 1) : (Rat.divInt a b).num = a ∧ ((Rat.divInt a b).den : Int) = b := by
  constructor
  · rw [Rat.num_divInt, Int.sign_eq_one_of_pos hb, Int.one_mul, Int.gcd_comm, h]
    simp
  · rw [Rat.den_divInt, if_neg (by omega), Int.gcd_comm, h]
    simp; omega
theorem one_div {a b : Int} (h1 : (Rat.divInt a b).num = a) (h2 : ((Rat.divInt a b).den : Int) = b) : Int.gcd a b = 1 := by
  have e : Int.gcd (Rat.divInt a b).num ((Rat.divInt a b).den : Int) = 1 := (Rat.divInt a b).reduced
  rw [h1, h2] at e
  exact e
theorem eq_low {a b : Int} (hb : 0 < b) : gEq (qD (Rat.divInt a b)) (.tup [.int a, .int b]) = some (.bl (Int.gcd a b == 1)) := by
  show some (D.bl ((Rat.divInt a b).num == a && (((Rat.divInt a b).den : Int) == b && true))) = _
  congr 2
  rw [Bool.and_true, Bool.eq_iff_iff, Bool.and_eq_true, beq_iff_eq, beq_iff_eq, beq_iff_eq]
  exact ⟨fun h => one_div h.1 h.2, fun h => div_one hb h⟩
/-- the lower number is not too great -/
def lowQ (d : D) : Prop := ∀ a b : Int, d = .tup [.int a, .int b] → b.natAbs < 2 ^ 9000
theorem e__law_is_ratio {d : D} (h : d.cl = true) (hq : lowQ d) (dr : Dr) : f__law_is_ratio [d] dr = .ok (.bl d.isQ) dr := by
  cases d
  case fn => cases h
  case dr => cases h
  case tup xs =>
    have hx := cls_mem (xs := xs) h
    match xs, hx, hq with
    | [], _, _ =>
      refine ew_of ?_
      unfold f__law_is_ratio
      with_reducible refine fw1 ?_
      simp only [List.reduceReplicate]
      unfold m__law_is_ratio
      walk_at "ev"
      with_reducible refine ifw_b (fun h => ?_) (fun h => ?_)
      · exact absurd h (by decide)
      · walk_at "ev"
        rfl
    | [x], _, _ =>
      refine ew_of ?_
      unfold f__law_is_ratio
      with_reducible refine fw1 ?_
      simp only [List.reduceReplicate]
      unfold m__law_is_ratio
      walk_at "ev"
      with_reducible refine ifw_b (fun h => ?_) (fun h => ?_)
      · exact absurd h (by simp)
      · walk_at "ev"
        rw [isQ_1]
    | x :: y :: z :: t, _, _ =>
      refine ew_of ?_
      unfold f__law_is_ratio
      with_reducible refine fw1 ?_
      simp only [List.reduceReplicate]
      unfold m__law_is_ratio
      walk_at "ev"
      with_reducible refine ifw_b (fun h => ?_) (fun h => ?_)
      · exfalso
        simp only [List.length_cons] at h
        omega
      · walk_at "ev"
        rw [isQ_3]
    | [x, y], hx, hq =>
      have c1 := hx x List.mem_cons_self
      have c2 := hx y (List.mem_cons_of_mem _ List.mem_cons_self)
      have h1 := e__law_int c1 dr
      have h2 := e__law_int c2 dr
      have z1 := fz_cl x c1
      have z2 := fz_cl y c2
      have r1 := frz_cl c1
      have r2 := frz_cl c2
      refine ew_of ?_
      unfold f__law_is_ratio
      with_reducible refine fw1 ?_
      simp only [List.reduceReplicate]
      unfold m__law_is_ratio
      walk_at "ev"
      with_reducible refine ifw_b (fun h => ?_) (fun h => absurd rfl h)
      walk_at "ev"
      with_reducible refine ifw (fun h => ?_) (fun h => ?_)
      · walk_at "ev"
        with_reducible refine ifw (fun h' => ?_) (fun h' => ?_)
        · obtain ⟨a, rfl⟩ : ∃ a, x = .int a := by cases x <;> first | exact ⟨_, rfl⟩ | cases h
          obtain ⟨b, rfl⟩ : ∃ a, y = .int a := by cases y <;> first | exact ⟨_, rfl⟩ | cases h'
          walk_at "ev"
          with_reducible refine ifw_d (fun p => ?_) (fun p => ?_)
          · walk_at "ev"
            show _ = DL.R.ok (D.bl (decide (0 < b) && (Int.gcd a b == 1))) dr
            rw [decide_eq_false (by omega)]
            rfl
          · have hc := e__law_low (n := a) (d := b) (N := 9000) (by omega) (hq a b rfl) (Nat.le_refl _) dr
            have he := eq_low (a := a) (b := b) (by omega)
            walk_at "ev"
            show DL.R.ok (D.bl _) dr = .ok (.bl (decide (0 < b) && (Int.gcd a b == 1))) dr
            rw [decide_eq_true (by omega)]
            rfl
        · walk_at "ev"
          rw [isQ_w (by rw [h']; exact Bool.and_false _)]
      · walk_at "ev"
        rw [isQ_w (by rw [h]; rfl)]
  all_goals
    refine ew_of ?_
    unfold f__law_is_ratio
    with_reducible refine fw1 ?_
    simp only [List.reduceReplicate]
    unfold m__law_is_ratio
    walk_at "ev"
    rfl
theorem e__law_is_row {d : D} (h : d.cl = true) {n : Int} (hl : ∀ xs, d = .tup xs → xs.length ≤ 1000 ∧ ∀ x ∈ xs, lowQ x) (dr : Dr) : f__law_is_row [.int n, d] dr = .ok (.bl (isRow n d)) dr := by
  have z := fz_cl d h
  have r := frz_cl h
  cases d
  case fn => cases h
  case dr => cases h
  case tup xs =>
    have l := (hl xs rfl).1
    have hx := cls_mem (xs := xs) h
    refine ew_of ?_
    unfold f__law_is_row
    with_reducible refine fw2 ?_
    simp only [List.reduceReplicate]
    unfold m__law_is_row
    walk_at "ev"
    with_reducible refine ifw_b (fun h => ?_) (fun h => ?_)
    · walk_at "ev"
      with_reducible refine lcw_all (fun x => x) (fun x => .bl x.isQ) xs (by simp) (len_ok l) (by walk_at "wipe") (fun x hm => ?_) ?_
      · have e := e__law_is_ratio (hx x hm) ((hl xs rfl).2 x hm) dr
        have z := fz_cl x (hx x hm)
        have r := frz_cl (hx x hm)
        walk_at "ev"
        rfl
      · walk_at "ev"
        show _ = DL.R.ok (D.bl (((xs.length : Int) == n) && xs.all D.isQ)) dr
        rw [h]
        simp
    · walk_at "ev"
      show _ = DL.R.ok (D.bl (((xs.length : Int) == n) && xs.all D.isQ)) dr
      simp [h]
  all_goals
    refine ew_of ?_
    unfold f__law_is_row
    with_reducible refine fw2 ?_
    simp only [List.reduceReplicate]
    unfold m__law_is_row
    walk_at "ev"
    rfl
theorem e__law_is_table {d : D} (h : d.cl = true) {n : Int} (hw : wide2 d) (hl : ∀ xs, d = .tup xs → ∀ x ∈ xs, ∀ ys, x = .tup ys → ∀ y ∈ ys, lowQ y) (dr : Dr) : f__law_is_table [.int n, d] dr = .ok (.bl (isSq n d)) dr := by
  have z := fz_cl d h
  have r := frz_cl h
  cases d
  case fn => cases h
  case dr => cases h
  case tup xs =>
    have l := (hw xs rfl).1
    have hx := cls_mem (xs := xs) h
    refine ew_of ?_
    unfold f__law_is_table
    with_reducible refine fw2 ?_
    simp only [List.reduceReplicate]
    unfold m__law_is_table
    walk_at "ev"
    with_reducible refine ifw_b (fun h => ?_) (fun h => ?_)
    · walk_at "ev"
      with_reducible refine lcw_all (fun x => x) (fun x => .bl (isRow n x)) xs (by simp) (len_ok l) (by walk_at "wipe") (fun x hm => ?_) ?_
      · have e := e__law_is_row (hx x hm) (n := n) (fun ys hy => ⟨(hw xs rfl).2 x hm ys hy, hl xs rfl x hm ys hy⟩) dr
        have z := fz_cl x (hx x hm)
        have r := frz_cl (hx x hm)
        walk_at "ev"
        rfl
      · walk_at "ev"
        show _ = DL.R.ok (D.bl (((xs.length : Int) == n) && xs.all (isRow n))) dr
        rw [h]
        simp
    · walk_at "ev"
      show _ = DL.R.ok (D.bl (((xs.length : Int) == n) && xs.all (isRow n))) dr
      simp [h]
  all_goals
    refine ew_of ?_
    unfold f__law_is_table
    with_reducible refine fw2 ?_
    simp only [List.reduceReplicate]
    unfold m__law_is_table
    walk_at "ev"
    rfl
theorem nc_lowQ {k : Nat} {d : D} (h : nc k d = true) : lowQ d := by
  rintro a b rfl
  have := (nc_tup h).2 (.int b) (by simp)
  have : b.natAbs < 2 ^ 100 := by
    cases h2 : k - 1 <;> rw [h2] at this <;> exact of_decide_eq_true this
  exact Nat.lt_of_lt_of_le this (Nat.pow_le_pow_right (by decide) (by decide))
theorem nc_law {k : Nat} {d : D} (h : nc k d = true) (n : Int) (dr : Dr) : f__law_is_table [.int n, d] dr = .ok (.bl (isSq n d)) dr := e__law_is_table (nc_cl h) (nc_wide h) (by
  rintro xs rfl x hx ys rfl y hy
  exact nc_lowQ ((nc_tup ((nc_tup h).2 _ hx)).2 y hy)) dr
theorem sq_tab {n m : Nat} {A : Mq} (h : m = n) : isSq (n : Int) (Tt m A) = true := by
  subst h
  show (((List.map (fun i => rowL (List.range m) (A i)) (List.range m)).length : Int) == (m : Int) && (List.map (fun i => rowL (List.range m) (A i)) (List.range m)).all (isRow (m : Int))) = true
  rw [List.length_map, List.length_range, Bool.and_eq_true, List.all_eq_true]
  refine ⟨by simp, fun x hx => ?_⟩
  obtain ⟨j, _, rfl⟩ := List.mem_map.mp hx
  exact isRow_row _ _ (by rw [List.length_range])
/-- a table told -/
theorem tab_law {n N : Nat} {V : Mq} (hn : n ≤ 100) (hN : N ≤ 9000) (h : ∀ i k, i < n → k < n → Sm N (V i k)) (dr : Dr) : f__law_is_table [.int (n : Int), Tt n V] dr = .ok (.bl true) dr := by
  rw [← sq_tab (n := n) (m := n) (A := V) rfl]
  refine e__law_is_table (cl_tab _ _ _) (tab_wide (by rw [List.length_range]; omega) (by rw [List.length_range]; omega)) ?_ dr
  intro xs hxs x hx ys hys y hy a b hab
  have e1 : (List.range n).map (fun i => rowL (List.range n) (V i)) = xs := by injection hxs
  subst e1
  obtain ⟨i, hi, rfl⟩ := List.mem_map.mp hx
  have e2 : (List.range n).map (fun j => qD (V i j)) = ys := by injection hys
  subst e2
  obtain ⟨j, hj, rfl⟩ := List.mem_map.mp hy
  have s := (h i j (List.mem_range.mp hi) (List.mem_range.mp hj)).d
  unfold qD at hab
  simp only [D.tup.injEq, List.cons.injEq, D.int.injEq] at hab
  rw [← hab.2.1, Int.natAbs_natCast]
  exact Nat.lt_of_lt_of_le s (Nat.pow_le_pow_right (by decide) hN)
/-! M01y -/
section
variable {P : D → Dr → Prop} {X : Exn → Dr → Prop}
theorem w_take {c : Nat} {s : Dw} {M : Int} {m : Nat} (g : Good c s) (hM : M = (m : Int)) (hc : c ≤ 2 ^ 20) (m0 : 0 < m) (m1 : m ≤ 1000) (k : ∀ (r : Nat) s', r < m → Good (c + 1) s' → P (.int (r : Int)) (some s')) : EW (f__law_take [.dr, .int M] (some s)) P X := by
  subst hM
  have hc2 : c ≤ 2 ^ 40 := Nat.le_trans hc (Nat.pow_le_pow_right (by decide) (by decide))
  have m2 : m ≤ 2 ^ 40 := Nat.le_trans m1 (by decide)
  obtain ⟨r, s', e, h1, h2⟩ := e_take g hc2 m0 m2
  exact ew_eq e (k r s' h1 h2)
end
/-! bent values -/
def Sh : Nat → D → Prop
  | 0, d => ∃ i : Int, d = .int i ∧ i.natAbs < 2 ^ 90
  | k + 1, d => ∃ xs, d = .tup xs ∧ xs.length ≤ 4 ∧ ∀ x ∈ xs, Sh k x
theorem sh_nc : ∀ (k : Nat) (d : D), Sh k d → nc k d = true
  | 0, d, h => by
    obtain ⟨i, rfl, h⟩ := h
    exact decide_eq_true (Nat.lt_of_lt_of_le h (Nat.pow_le_pow_right (by decide) (by decide)))
  | k + 1, d, h => by
    obtain ⟨xs, rfl, h1, h2⟩ := h
    exact nc_tup_of (by omega) fun x hx => sh_nc k x (h2 x hx)
theorem cut_sub {xs : List D} {lo hi : Option Int} : (∀ x ∈ DL.cutD xs lo hi, x ∈ xs) ∧ (DL.cutD xs lo hi).length ≤ xs.length := by
  unfold DL.cutD
  refine ⟨fun x h => List.mem_of_mem_drop (List.mem_of_mem_take h), ?_⟩
  rw [List.length_take, List.length_drop]
  omega
theorem nc_int {k : Nat} {i : Int} (h : i.natAbs < 2 ^ 100) : nc k (.int i) = true := by
  cases k <;> exact decide_eq_true h
theorem at_lt {α : Type} : ∀ {xs : List α} {r : Nat}, r < xs.length → ∃ x ∈ xs, atI xs (r : Int) = some x
  | xs, r, h => ⟨xs[r], List.getElem_mem h, atI_nat (List.getElem?_eq_getElem h)⟩
theorem ix_mem {o : Bool} {xs : List D} {r : Nat} (h : r < xs.length) : ∃ x ∈ xs, gIx (.lst o xs) (.int (r : Int)) = some x := at_lt h
theorem ixt_mem {xs : List D} {r : Nat} (h : r < xs.length) : ∃ x ∈ xs, gIx (.tup xs) (.int (r : Int)) = some x := at_lt h
def Bo (k c : Nat) (d : D) (dr : Dr) : Prop := ∃ s, dr = some s ∧ nc (k + 2) d.fz = true ∧ Good c s
theorem b_int {c : Nat} {s : Dw} (g : Good c s) (hc : c ≤ 2 ^ 19) {i : Int} (hi : i.natAbs < 2 ^ 90) (rec : CF) : EW (fnD 3 (m__law_bent rec) [.dr, .int i] (some s)) (Bo 0 (c + 1)) noX := by
  with_reducible refine fw2 ?_
  simp only [List.reduceReplicate]
  unfold m__law_bent
  walk_at "ev"
  with_reducible refine w_take (m := 9) g (by omega) (by omega) (by omega) (by omega) (fun r s1 hr g1 => ?_)
  obtain ⟨x, hx, e⟩ := ix_mem (o := true) (xs := [D.int 0, .int 1, .int (i + 1), .int (i - 1), .bl (i == 1), .non, .str "0", .tup [.int i], .int 2]) (r := r) hr
  have hn : x.frz = true ∧ nc 2 x.fz = true := by
    simp only [List.mem_cons, List.not_mem_nil, or_false] at hx
    have b1 : (i + 1).natAbs < 2 ^ 100 := by omega
    have b2 : (i - 1).natAbs < 2 ^ 100 := by omega
    have b3 : i.natAbs < 2 ^ 100 := by omega
    rcases hx with rfl | rfl | rfl | rfl | rfl | rfl | rfl | rfl | rfl
    · exact ⟨rfl, by decide⟩
    · exact ⟨rfl, by decide⟩
    · exact ⟨rfl, nc_int b1⟩
    · exact ⟨rfl, nc_int b2⟩
    · exact ⟨rfl, rfl⟩
    · exact ⟨rfl, rfl⟩
    · exact ⟨rfl, by kernel_rfl⟩
    · exact ⟨rfl, nc_tup_of (by simp) fun y hy => by
        rw [List.mem_singleton] at hy
        rw [hy]; exact nc_int b3⟩
    · exact ⟨rfl, by decide⟩
  have hf := hn.1
  walk_at "ev"
  exact ⟨s1, rfl, hn.2, g1⟩
theorem b_mem {k : Nat} {xs : List D} (hl : xs.length ≤ 4) (hx : ∀ x ∈ xs, nc k x = true) {r : Nat} (hr : r < 8) : ∃ x, gIx (.lst true [D.lst true xs, .tup (xs ++ [D.int 0]), .tup (DL.cutD xs none (some (-1))), .tup xs.reverse, .non, .tup [], .tup (xs ++ DL.cutD xs none (some 1)), .tup [.int 1, .int 2]]) (.int (r : Int)) = some x ∧ nc (k + 1 + 2) x.fz = true := by
  have cs : ∀ lo hi, (∀ x ∈ DL.cutD xs lo hi, x ∈ xs) ∧ (DL.cutD xs lo hi).length ≤ xs.length := fun lo hi => cut_sub
  obtain ⟨x, hx2, e⟩ := ix_mem (o := true) (xs := [D.lst true xs, .tup (xs ++ [D.int 0]), .tup (DL.cutD xs none (some (-1))), .tup xs.reverse, .non, .tup [], .tup (xs ++ DL.cutD xs none (some 1)), .tup [.int 1, .int 2]]) (r := r) hr
  refine ⟨x, e, ?_⟩
  have up : ∀ x ∈ xs, nc (k + 2) x = true := fun x h => nc_le (by omega) (hx x h)
  simp only [List.mem_cons, List.not_mem_nil, or_false] at hx2
  rcases hx2 with rfl | rfl | rfl | rfl | rfl | rfl | rfl | rfl
  · rw [fz_lst, fzs_cl xs (cls_of fun x h => nc_cl (hx x h))]
    exact nc_lst_of (by omega) up
  · refine nc_tup_of (by simp; omega) fun y hy => ?_
    rcases List.mem_append.mp hy with h | h
    · exact up y h
    · rw [List.mem_singleton] at h
      rw [h]; exact nc_int (by decide)
  · exact nc_tup_of (by have := (cs none (some (-1))).2; omega) fun y hy => up y ((cs none (some (-1))).1 y hy)
  · exact nc_tup_of (by rw [List.length_reverse]; omega) fun y hy => up y (List.mem_reverse.mp hy)
  · rfl
  · rfl
  · refine nc_tup_of (by have := (cs none (some 1)).2; rw [List.length_append]; omega) fun y hy => ?_
    rcases List.mem_append.mp hy with h | h
    · exact up y h
    · exact up y ((cs none (some 1)).1 y h)
  · refine nc_tup_of (by simp) fun y hy => ?_
    simp only [List.mem_cons, List.not_mem_nil, or_false] at hy
    rcases hy with rfl | rfl <;> exact nc_int (by decide)
/-! M01z -/
theorem sub_nc {k : Nat} {xs : List D} {e : D} {lo hi : Option Int} (hl : xs.length ≤ 4) (hx : ∀ x ∈ xs, nc k x = true) (he : nc (k + 2) e = true) : nc (k + 1 + 2) (.tup (DL.cutD xs none lo ++ [e] ++ DL.cutD xs hi none)) = true := by
  have c1 := cut_sub (xs := xs) (lo := none) (hi := lo)
  have c2 := cut_sub (xs := xs) (lo := hi) (hi := none)
  refine nc_tup_of (by rw [List.length_append, List.length_append, List.length_singleton]; omega) fun y hy => ?_
  have up : ∀ x ∈ xs, nc (k + 2) x = true := fun x h => nc_le (by omega) (hx x h)
  rcases List.mem_append.mp hy with h | h
  · rcases List.mem_append.mp h with h | h
    · exact up y (c1.1 y h)
    · rw [List.mem_singleton] at h
      rw [h]; exact he
  · exact up y (c2.1 y h)
theorem b_tup {k c : Nat} {s : Dw} (g : Good c s) (hc : c ≤ 2 ^ 19) {xs : List D} (hl : xs.length ≤ 4) (hx : ∀ x ∈ xs, nc k x = true) {rec : CF} (hr : ∀ x ∈ xs, ∀ c' s, Good c' s → c' ≤ c + 2 → EW (rec [.dr, x] (some s)) (Bo k (c' + (2 * k + 1))) noX) : EW (fnD 3 (m__law_bent rec) [.dr, .tup xs] (some s)) (Bo (k + 1) (c + (2 * (k + 1) + 1))) noX := by
  have s1 : ∀ i : Int, gSl (.tup xs) none (some i) = some (.tup (DL.cutD xs none (some i))) := fun _ => rfl
  have s2 : ∀ i : Int, gSl (.tup xs) (some i) none = some (.tup (DL.cutD xs (some i) none)) := fun _ => rfl
  have cs : ∀ lo hi, (∀ x ∈ DL.cutD xs lo hi, x ∈ xs) ∧ (DL.cutD xs lo hi).length ≤ xs.length := fun lo hi => cut_sub
  have b1 := add_tups xs [D.int 0] (by simp; omega)
  have l1 : gSl (.tup xs) none (some (-1)) = some (.tup (DL.cutD xs none (some (-1)))) := rfl
  have l2 : gSl (.tup xs) none (some 1) = some (.tup (DL.cutD xs none (some 1))) := rfl
  have rv : gRev (unO (.tup xs)) = some (.tup xs.reverse) := rfl
  have b2 := add_tups xs (DL.cutD xs none (some 1)) (by have := (cs none (some 1)).2; omega)
  with_reducible refine fw2 ?_
  simp only [List.reduceReplicate]
  unfold m__law_bent
  walk_at "ev"
  with_reducible refine ifw_d (fun h => ?_) (fun h => ?_)
  · walk_at "ev"
    with_reducible refine w_take (m := 5) g (by omega) (by omega) (by omega) (by omega) (fun r s3 hr1 g1 => ?_)
    walk_at "ev"
    with_reducible refine ifw_d (fun h2 => ?_) (fun h2 => ?_)
    · walk_at "ev"
      with_reducible refine w_take (m := xs.length) g1 rfl (by omega) (by omega) (by omega) (fun t s4 ht g2 => ?_)
      obtain ⟨x, hx1, e1⟩ := ixt_mem ht
      have zx := fz_cl x (nc_cl (hx x hx1))
      have yx := frz_cl (nc_cl (hx x hx1))
      have hrx := hr x hx1 (c + 1 + 1) s4 g2 (by omega)
      have q1 := s1 (t : Int)
      have q2 := s2 ((t : Int) + 1)
      walk_at "ev"
      generalize rec [.dr, x] (some s4) = R at hrx ⊢
      cases R with
      | st => exact hrx.elim
      | ex _ _ => exact hrx.elim
      | ok e dr' =>
        obtain ⟨s5, rfl, he, g3⟩ := (show Bo _ _ e dr' from hrx)
        have ze : D.fzs [e] = [e.fz] := rfl
        have a1 := add_tups (DL.cutD xs none (some (t : Int))) [e.fz] (by have := (cs none (some (t : Int))).2; simp only [List.length_singleton]; omega)
        have a2 := add_tups (DL.cutD xs none (some (t : Int)) ++ [e.fz]) (DL.cutD xs (some ((t : Int) + 1)) none) (by have := (cs none (some (t : Int))).2; have := (cs (some ((t : Int) + 1)) none).2; rw [List.length_append, List.length_singleton]; omega)
        with_reducible refine ew_ok ?_
        walk_at "ev"
        exact ⟨s5, rfl, sub_nc hl hx he, g3.mono (by omega)⟩
    · walk_at "ev"
      with_reducible refine w_take (m := 8) g1 (by omega) (by omega) (by omega) (by omega) (fun r s' hr8 g' => ?_)
      obtain ⟨x, e, hd⟩ := b_mem hl hx hr8
      walk_at "ev"
      exact ⟨s', rfl, hd, g'.mono (by omega)⟩
  · walk_at "ev"
    with_reducible refine w_take (m := 8) g (by omega) (by omega) (by omega) (by omega) (fun r s' hr8 g' => ?_)
    obtain ⟨x, e, hd⟩ := b_mem hl hx hr8
    walk_at "ev"
    exact ⟨s', rfl, hd, g'.mono (by omega)⟩
theorem w_bent : ∀ (k j : Nat) (d : D), Sh k d → ∀ c s, Good c s → c + 2 * k ≤ 2 ^ 18 → EW (f__law_bent (k + j + 1) [.dr, d] (some s)) (Bo k (c + (2 * k + 1))) noX
  | 0, j, d, h, c, s, g, hc => by
    obtain ⟨i, rfl, hi⟩ := h
    rw [Nat.zero_add]
    exact b_int g (by omega) hi _
  | k + 1, j, d, h, c, s, g, hc => by
    obtain ⟨xs, rfl, hl, hx⟩ := h
    rw [show k + 1 + j + 1 = (k + j + 1) + 1 by omega]
    exact b_tup g (by omega) hl (fun x h => sh_nc k x (hx x h)) (fun x h c' s g hc' => w_bent k j x (hx x h) c' s g (by omega))
theorem sh_q {q : Rat} {N : Nat} (h : Sm N q) (hN : N ≤ 90) : Sh 1 (qD q) := ⟨_, rfl, by simp, fun x hx => by
  have up := Nat.pow_le_pow_right (show 0 < 2 by decide) hN
  have h1 := h.n
  have h2 := h.d
  simp only [List.mem_cons, List.not_mem_nil, or_false] at hx
  rcases hx with rfl | rfl
  · exact ⟨_, rfl, Nat.lt_of_lt_of_le h1 up⟩
  · exact ⟨_, rfl, by rw [Int.natAbs_natCast]; exact Nat.lt_of_lt_of_le h2 up⟩⟩
theorem sh_row {n N : Nat} {r : Nat → Rat} (hn : n ≤ 4) (hN : N ≤ 90) (h : ∀ k, k < n → Sm N (r k)) : Sh 2 (Rw n r) := ⟨_, rfl, by rw [List.length_map, List.length_range]; exact hn, fun x hx => by
  obtain ⟨k, hk, rfl⟩ := List.mem_map.mp hx
  exact sh_q (h k (List.mem_range.mp hk)) hN⟩
theorem sh_tab {n N : Nat} {A : Mq} (hn : n ≤ 4) (hN : N ≤ 90) (h : ∀ i k, i < n → k < n → Sm N (A i k)) : Sh 3 (Tt n A) := ⟨_, rfl, by rw [List.length_map, List.length_range]; exact hn, fun x hx => by
  obtain ⟨i, hi, rfl⟩ := List.mem_map.mp hx
  exact sh_row hn hN fun k hk => h i k (List.mem_range.mp hi) hk⟩
theorem e_bent {n N : Nat} {A : Mq} (hn : n ≤ 4) (hN : N ≤ 90) (h : ∀ i k, i < n → k < n → Sm N (A i k)) {c : Nat} {s : Dw} (g : Good c s) (hc : c + 6 ≤ 2 ^ 18) {P : D → Dr → Prop} {X : Exn → Dr → Prop} (k : ∀ d s', nc 5 d.fz = true → Good (c + 7) s' → P d (some s')) : EW (f__law_bent 5 [.dr, Tt n A] (some s)) P X := by
  have b := w_bent 3 1 (Tt n A) (sh_tab hn hN h) c s g hc
  refine ew_mono b (fun d dr q => ?_) (fun _ _ q => q.elim)
  obtain ⟨s', rfl, h1, h2⟩ := q
  exact k d s' h1 h2
/-! M02a -/
/-! draws of the law -/
theorem qd {n : Int} {d : Int} {q : Rat} (h : Rat.divInt n d = q) (h1 : (Rat.divInt n d).num = n) (h2 : ((Rat.divInt n d).den : Int) = d) : D.tup [.int n, .int d] = qD q := by
  subst h
  unfold qD
  rw [h1, h2]
theorem item_ix {r : Nat} (hr : r < 8) : ∃ q, gIx (.lst true [D.tup [.int 0, .int 1], .tup [.int 1, .int 1], .tup [.int 0, .int 1], .tup [.int 1, .int 2], .tup [.int (0 - 1), .int 1], .tup [.int 2, .int 1], .tup [.int (0 - 1), .int 2], .tup [.int 1, .int 3]]) (.int (r : Int)) = some (qD q) ∧ Sm 2 q := by
  obtain ⟨x, hx, e⟩ := ix_mem (o := true) (xs := [D.tup [.int 0, .int 1], .tup [.int 1, .int 1], .tup [.int 0, .int 1], .tup [.int 1, .int 2], .tup [.int (0 - 1), .int 1], .tup [.int 2, .int 1], .tup [.int (0 - 1), .int 2], .tup [.int 1, .int 3]]) (r := r) hr
  simp only [List.mem_cons, List.not_mem_nil, or_false] at hx
  rcases hx with rfl | rfl | rfl | rfl | rfl | rfl | rfl | rfl
  · exact ⟨Rat.divInt 0 1, by rw [e]; kernel_rfl, divInt_sm (by decide) (by decide) (by decide)⟩
  · exact ⟨Rat.divInt 1 1, by rw [e]; kernel_rfl, divInt_sm (by decide) (by decide) (by decide)⟩
  · exact ⟨Rat.divInt 0 1, by rw [e]; kernel_rfl, divInt_sm (by decide) (by decide) (by decide)⟩
  · exact ⟨Rat.divInt 1 2, by rw [e]; kernel_rfl, divInt_sm (by decide) (by decide) (by decide)⟩
  · exact ⟨Rat.divInt (-1) 1, by rw [e]; kernel_rfl, divInt_sm (by decide) (by decide) (by decide)⟩
  · exact ⟨Rat.divInt 2 1, by rw [e]; kernel_rfl, divInt_sm (by decide) (by decide) (by decide)⟩
  · exact ⟨Rat.divInt (-1) 2, by rw [e]; kernel_rfl, divInt_sm (by decide) (by decide) (by decide)⟩
  · exact ⟨Rat.divInt 1 3, by rw [e]; kernel_rfl, divInt_sm (by decide) (by decide) (by decide)⟩
theorem w_item {c : Nat} {s : Dw} (g : Good c s) (hc : c ≤ 2 ^ 20) {P : D → Dr → Prop} {X : Exn → Dr → Prop} (k : ∀ q s', Sm 2 q → Good (c + 1) s' → P (qD q) (some s')) : EW (f__law_item [.dr] (some s)) P X := by
  unfold f__law_item
  with_reducible refine fw1 ?_
  simp only [List.reduceReplicate]
  unfold m__law_item
  walk_at "ev"
  with_reducible refine w_take (m := 8) g (by omega) (by omega) (by omega) (by omega) (fun r s1 hr g1 => ?_)
  obtain ⟨q, e, sm⟩ := item_ix hr
  walk_at "ev"
  exact k q s1 sm g1
theorem w_table {c n : Nat} {s : Dw} (g : Good c s) (hc : c ≤ 2 ^ 19) (hn : n ≤ 4) {P : D → Dr → Prop} {X : Exn → Dr → Prop} (k : ∀ A s', (∀ i j, i < n → j < n → Sm 2 (A i j)) → Good (c + 16) s' → P (Tt n A) (some s')) : EW (f__law_table [.dr, .int (n : Int)] (some s)) P X := by
  unfold f__law_table
  with_reducible refine fw2 ?_
  simp only [List.reduceReplicate]
  unfold m__law_table
  walk_at "ev"
  with_reducible refine lcw_drawn (fun i : Nat => .int (i : Int)) (fun d => ∃ r : Nat → Rat, d = Rw n r ∧ ∀ k, k < n → Sm 2 (r k)) (List.range n) (k := 4) (b := c + 16) rfl g (by rw [List.length_range]; omega) (by walk_at "small") (by walk_at "wipe") (fun i hi c1 s1 g1 hc1 => ?_) (fun ds s' hl hd g' => ?_)
  · walk_at "ev"
    with_reducible refine lcw_drawn (fun i : Nat => .int (i : Int)) (fun d => ∃ q, d = qD q ∧ Sm 2 q) (List.range n) (k := 1) (b := c1 + 4) rfl g1 (by rw [List.length_range]; omega) (by walk_at "small") (by walk_at "wipe") (fun j hj c2 s2 g2 hc2 => ?_) (fun es s3 hl hd g3 => ?_)
    · walk_at "ev"
      with_reducible refine w_item g2 (by omega) (fun q s' sm g' => ?_)
      exact ⟨s', rfl, ⟨q, rfl, sm⟩, g'⟩
    · obtain ⟨r, e1, e2⟩ := rats_of hd
      rw [hl, List.length_range] at e1 e2
      subst e1
      have t : gTuple [.lst true ((List.range n).map fun k => qD (r k))] = some (Rw n r) := gTuple_lst _ _ fun _ => rfl
      walk_at "ev"
      exact ⟨s3, rfl, ⟨r, rfl, e2⟩, g3.mono (by rw [List.length_range]; omega)⟩
  · obtain ⟨A, e1, e2⟩ := fun_of (f := fun r => Rw n r) (P := fun r : Nat → Rat => ∀ k, k < n → Sm 2 (r k)) (fun _ => 0) hd
    rw [hl, List.length_range] at e1 e2
    subst e1
    have t : gTuple [.lst true ((List.range n).map fun k => Rw n (A k))] = some (Tt n A) := gTuple_lst _ _ fun _ => rfl
    walk_at "ev"
    exact k A s' (fun i j hi hj => e2 i hi j hj) (g'.mono (by rw [List.length_range]; omega))
theorem e_says (a b : Bool) (dr : Dr) : f__law_says [.bl a, .bl b] dr = .ok (.bl (a == b)) dr := by
  have e : gEq (.bl a) (.bl b) = some (.bl (a == b)) := rfl
  refine ew_of ?_
  unfold f__law_says
  with_reducible refine fw2 ?_
  simp only [List.reduceReplicate]
  unfold m__law_says
  walk_at "ev"
  rfl
/-! values equal to themselves -/
mutual
theorem eqv_self : ∀ (d : D), d.cl = true → d.eqv d = true
  | .non, _ => rfl
  | .bl b, _ => by show (b == b) = true; exact beq_self_eq_true b
  | .int i, _ => by show (i == i) = true; exact beq_self_eq_true i
  | .str x, _ => by show (x == x) = true; exact beq_self_eq_true x
  | .tup xs, h => eqvs_self xs h
  | .lst o xs, h => by
    have h : (!o && D.cls xs) = true := h
    rw [Bool.and_eq_true] at h
    exact eqvs_self xs h.2
  | .fn _, h => by cases h
  | .dr, h => by cases h
theorem eqvs_self : ∀ (xs : List D), D.cls xs = true → D.eqvs xs xs = true
  | [], _ => rfl
  | x :: xs, h => by
    have h : (D.cl x && D.cls xs) = true := h
    rw [Bool.and_eq_true] at h
    show (D.eqv x x && D.eqvs xs xs) = true
    rw [eqv_self x h.1, eqvs_self xs h.2]; rfl
end
theorem pl_row {κ : Type} (J : List κ) (r : κ → Rat) : (rowL J r).pl = true := pls_map (f := fun j => qD (r j)) (fun _ => rfl) J
theorem dep_row {κ : Type} (J : List κ) (r : κ → Rat) : (rowL J r).dep ≤ 2 := Nat.succ_le_succ (deps_map (f := fun j => qD (r j)) (k := 1) (fun _ => Nat.le_refl 1) J)
theorem ok_row {κ : Type} (J : List κ) (r : κ → Rat) : (rowL J r).ok = true := ok_of (pl_row J r) (Nat.le_trans (dep_row J r) (by decide))
theorem ok_tab {ι κ : Type} (I : List ι) (J : List κ) (A : ι → κ → Rat) : (tabL I J A).ok = true := ok_of (pls_map (f := fun i => rowL J (A i)) (fun i => pl_row J (A i)) I) (Nat.le_trans (Nat.succ_le_succ (deps_map (f := fun i => rowL J (A i)) (k := 2) (fun i => dep_row J (A i)) I)) (by decide))
theorem ok_qD (q : Rat) : (qD q).ok = true := rfl
theorem ne_self {d : D} (h : d.cl = true) (k : d.ok = true) : gNe d d = some (.bl false) := by
  unfold gNe
  rw [k, eqv_self d h]; rfl
theorem tab_congr {ι κ : Type} {I : List ι} {J : List κ} {A B : ι → κ → Rat} (h : ∀ i ∈ I, ∀ j ∈ J, A i j = B i j) : tabL I J A = tabL I J B := by
  unfold tabL rowL
  congr 1
  refine List.map_congr_left fun i hi => ?_
  congr 1
  exact List.map_congr_left fun j hj => by rw [h i hi j hj]
/-! parts of a body -/
theorem sw_cut {S1 S2 : CSx} {ρ : Rho} {dr : Dr} {U : SR → Prop} (I : Rho → Dr → Prop) (h1 : SW (S1 ρ dr) (SQ (fun _ => False) I)) (h2 : ∀ ρ dr, I ρ dr → SW (S2 ρ dr) U) : SW (cSeq S1 S2 ρ dr) U := by
  unfold cSeq
  cases e : S1 ρ dr with
  | nx ρ' dr' => rw [e] at h1; exact h2 ρ' dr' h1
  | _ => rw [e] at h1; exact (show False from h1).elim
theorem sw_forX {I : CI} {G : CGx} {B : CSx} {ρ : Rho} {dr : Dr} {U : SR → Prop} (Inv : List D → Rho → Dr → Prop) (hi : EW (I ρ dr) (fun xs dr => Inv xs ρ dr) (fun e dr => U (.ex e ρ dr))) (hs : ∀ y zs ρ dr, Inv (y :: zs) ρ dr → TgW G ρ y fun ρ1 => SW (B ρ1 dr) (LQ U (Inv zs))) (hk : ∀ ρ dr, Inv [] ρ dr → U (.nx ρ dr)) : SW (cFor I G B ρ dr) U := by
  unfold cFor
  cases q : I ρ dr with
  | st => rw [q] at hi; exact hi.elim
  | ex x d => rw [q] at hi; exact hi
  | ok xs dr2 =>
    rw [q] at hi
    have := forG_w (e := fun y : D => y) hs hk (ys := xs) (ρ := ρ) (dr := dr2) hi
    rw [List.map_id'] at this
    exact this
/-! M02b -/
theorem e_ratio {n d : Int} {N : Nat} (h0 : d ≠ 0) (hd : d.natAbs < 2 ^ N) (hN : N ≤ 9000) (dr : Dr) : f_ratio [.int n, .int d] dr = .ok (qD (Rat.divInt n d)) dr := by
  have w1 : f_is_whole [.int n] dr = .ok (.bl true) dr := e_is_whole (d := .int n) rfl dr
  have w2 : f_is_whole [.int d] dr = .ok (.bl true) dr := e_is_whole (d := .int d) rfl dr
  have lo := e_lowest (n := n) h0 hd hN dr
  refine ew_of ?_
  unfold f_ratio
  with_reducible refine fw2 ?_
  simp only [List.reduceReplicate]
  unfold m_ratio
  walk_at "ev"
  with_reducible refine ifw_b (fun h => absurd h h0) (fun h => ?_)
  walk_at "ev"
  rfl
theorem x_ratio1 (dr : Dr) : f_ratio [.int 1, .int 0] dr = .ex mal dr := by
  have w1 : f_is_whole [.int 1] dr = .ok (.bl true) dr := e_is_whole (d := .int 1) rfl dr
  have w2 : f_is_whole [.int 0] dr = .ok (.bl true) dr := e_is_whole (d := .int 0) rfl dr
  refine ew_ofx ?_
  unfold f_ratio
  with_reducible refine fw2 ?_
  simp only [List.reduceReplicate]
  unfold m_ratio
  walk_at "ev"
  with_reducible refine ifw_b (fun h => ?_) (fun h => absurd rfl h)
  walk_at "ev"
  rfl
theorem x_ratio2 (dr : Dr) : f_ratio [.bl true, .int 2] dr = .ex mal dr := by
  have w1 : f_is_whole [.bl true] dr = .ok (.bl false) dr := e_is_whole (d := .bl true) rfl dr
  refine ew_ofx ?_
  unfold f_ratio
  with_reducible refine fw2 ?_
  simp only [List.reduceReplicate]
  unfold m_ratio
  walk_at "ev"
  rfl
theorem x_ratio3 (dr : Dr) : f_ratio [.str "1", .int 2] dr = .ex mal dr := by
  have w1 : f_is_whole [.str "1"] dr = .ok (.bl false) dr := e_is_whole (d := .str "1") rfl dr
  refine ew_ofx ?_
  unfold f_ratio
  with_reducible refine fw2 ?_
  simp only [List.reduceReplicate]
  unfold m_ratio
  walk_at "ev"
  rfl
/-! texts of small numbers -/
/-- what is told of a fraction -/
structure Txt3 (n d : Int) (x y z w : D) : Prop where
  s1 : gStr [.int n] = some x
  s2 : gStr [.int d] = some y
  a1 : gAdd x (.str "/") = some z
  a2 : gAdd z y = some w
  n1 : gNe x x = some (.bl false)
  n2 : gNe w w = some (.bl false)
def txts (n d : Int) : D × D × D × D := match gStr [.int n], gStr [.int d] with
  | some x, some y => match gAdd x (.str "/") with
    | some z => match gAdd z y with
      | some w => (x, y, z, w)
      | none => (x, y, z, .non)
    | none => (x, y, .non, .non)
  | _, _ => (.non, .non, .non, .non)
theorem txt_ex {n d : Int} (h1 : -7 ≤ n) (h2 : n ≤ 7) (h3 : 1 ≤ d) (h4 : d ≤ 7) : ∃ x y z w, Txt3 n d x y z w := by
  refine ⟨(txts n d).1, (txts n d).2.1, (txts n d).2.2.1, (txts n d).2.2.2, ?_⟩
  have hn : n = -7 ∨ n = -6 ∨ n = -5 ∨ n = -4 ∨ n = -3 ∨ n = -2 ∨ n = -1 ∨ n = 0 ∨ n = 1 ∨ n = 2 ∨ n = 3 ∨ n = 4 ∨ n = 5 ∨ n = 6 ∨ n = 7 := by omega
  have hd : d = 1 ∨ d = 2 ∨ d = 3 ∨ d = 4 ∨ d = 5 ∨ d = 6 ∨ d = 7 := by omega
  rcases hn with rfl | rfl | rfl | rfl | rfl | rfl | rfl | rfl | rfl | rfl | rfl | rfl | rfl | rfl | rfl <;> rcases hd with rfl | rfl | rfl | rfl | rfl | rfl | rfl <;> exact ⟨by kernel_rfl, by kernel_rfl, by kernel_rfl, by kernel_rfl, by kernel_rfl, by kernel_rfl⟩
/-! M02c -/
theorem eqv_q (a b : Rat) : D.eqv (qD a) (qD b) = decide (a = b) := by
  show (a.num == b.num && (((a.den : Int) == (b.den : Int)) && true)) = decide (a = b)
  rw [Bool.and_true, Bool.eq_iff_iff, Bool.and_eq_true, beq_iff_eq, beq_iff_eq, decide_eq_true_eq]
  exact ⟨fun h => Rat.ext h.1 (by omega), fun h => by rw [h]; exact ⟨rfl, rfl⟩⟩
theorem eq_q (a b : Rat) : gEq (qD a) (qD b) = some (.bl (decide (a = b))) := by
  show some (D.bl (D.eqv (qD a) (qD b))) = _
  rw [eqv_q]
theorem ne_lists {o o' : Bool} {xs : List D} (h : D.cls xs = true) (k : (D.tup xs).ok = true) : gNe (.lst o xs) (.lst o' xs) = some (.bl false) := by
  have k : ((D.lst o xs).ok && (D.lst o' xs).ok) = true := by
    have : ∀ p, (D.lst p xs).ok = (D.tup xs).ok := fun _ => rfl
    rw [this, this, k]; rfl
  unfold gNe
  rw [if_pos k]
  show some (D.bl (!D.eqvs xs xs)) = _
  rw [eqvs_self xs h]; rfl
/-- what the law reckons of two fractions -/
def lo2 (a b : Rat) : Rat := if a < b then a else b
def hi2 (a b : Rat) : Rat := if a < b then b else a
def byD (a b : Rat) : D := if b = 0 then bd else qD (a / b)
theorem by_ok (a b : Rat) : (byD a b).fz = byD a b ∧ gNe (byD a b) (byD a b) = some (.bl false) := by
  unfold byD
  split
  · exact ⟨rfl, by kernel_rfl⟩
  · exact ⟨rfl, ne_self rfl rfl⟩
theorem lesser2 (a b : Rat) : (if b < a then b else a) = lo2 a b := by
  unfold lo2
  by_cases h : a < b
  · rw [if_pos h, if_neg (by grind)]
  · rw [if_neg h]
    by_cases k : b < a
    · rw [if_pos k]
    · rw [if_neg k]; grind
theorem low_eq (a b : Rat) : (if lo2 a b = a then b else a) = hi2 a b := by
  unfold lo2 hi2
  by_cases h : a < b
  · rw [if_pos h, if_pos h, if_pos rfl]
  · rw [if_neg h, if_neg h]
    by_cases k : b = a
    · rw [if_pos k, k]
    · rw [if_neg k]
theorem by_pos {a b : Rat} (h : 0 < b.num) : Rat.divInt (a.num * (b.den : Int) * 1) ((a.den : Int) * (if b.num < 0 then -b.num else b.num)) = a / b := by
  rw [if_neg (by omega), Int.mul_one, ← div_divInt' a b]
  intro c
  rw [c] at h
  exact absurd h (by decide)
theorem by_neg {a b : Rat} (h : b.num < 0) : Rat.divInt (a.num * (b.den : Int) * (0 - 1)) ((a.den : Int) * (if b.num < 0 then -b.num else b.num)) = a / b := by
  have h0 : b ≠ 0 := by
    intro c
    rw [c] at h
    exact absurd h (by decide)
  rw [if_pos h, div_divInt' a b h0, show (0 - 1 : Int) = -1 from rfl, Int.mul_neg, Int.mul_one, Int.mul_neg, Rat.neg_divInt_neg]
theorem neg_six (a : Rat) : Rat.divInt (a.num * 6) (0 - (a.den : Int) * 6) = -a := by
  have d1 : ((a.den : Int) : Rat) ≠ 0 := by intro c; exact den_ne a (Rat.intCast_eq_zero_iff.mp c)
  have e1 : a = (a.num : Rat) / ((a.den : Int) : Rat) := by rw [← Rat.divInt_eq_div, Rat.num_divInt_den]
  rw [Rat.divInt_eq_div, Rat.intCast_sub, Rat.intCast_mul, Rat.intCast_mul]
  conv => rhs; rw [e1]
  have z : ((0 : Int) : Rat) = 0 := rfl
  have s : ((6 : Int) : Rat) = 6 := rfl
  rw [z, s]
  grind
theorem neg_pair (a : Rat) : gNe (qD (-a)) (.tup [.int (0 - a.num), .int (a.den : Int)]) = some (.bl false) := by
  have e : (D.tup [.int (0 - a.num), .int (a.den : Int)]) = qD (-a) := by
    unfold qD
    rw [Rat.neg_num, Rat.neg_den, Int.zero_sub]
  rw [e]
  exact ne_self rfl rfl
def oddL (a : Rat) : List D := [qD a, .tup [.int 2, .int 4], .tup [.int 1, .int 0], .tup [.int 1, .int (0 - 1)], .tup [.bl true, .int 1], .tup [.int 1, .int 1, .int 1], .lst false [.int 1, .int 2], .non, .tup [.int 0, .int 1], .tup [.int (0 - 1), .int 2]]
theorem odd_ok {a : Rat} (h : Sm 3 a) : ∀ y ∈ oddL a, nc 3 y = true := fun y hy => by
  unfold oddL at hy
  simp only [List.mem_cons, List.not_mem_nil, or_false] at hy
  rcases hy with rfl | rfl | rfl | rfl | rfl | rfl | rfl | rfl | rfl | rfl
  · exact nc_le (by omega) (sh_nc 1 _ (sh_q h (by decide)))
  all_goals decide
/-! M02d -/
set_option pp.maxSteps 400
theorem num_low {c : Nat} {s : Dw} (g : Good c s) (hc : c ≤ 2 ^ 19) {P : D → Dr → Prop} {X : Exn → Dr → Prop} {ρ : Rho} (h0 : ρ[0]? = some (some .dr)) (k : ∀ q s', Sm 3 q → Good (c + 2) s' → P (qD q) (some s')) : EW (cCall f__law_low (cCons (cBin gSub (cCall f__law_take (cCons (cFrz (cVar 0)) (cCons (cK (.int 13)) cNil))) (cK (.int 6))) (cCons (cBin gAdd (cK (.int 1)) (cCall f__law_take (cCons (cFrz (cVar 0)) (cCons (cK (.int 7)) cNil)))) cNil)) ρ (some s)) P X := by
  with_reducible refine ew_call ?_
  with_reducible refine ew_cons ?_
  with_reducible refine ew_bin ?_
  with_reducible refine ew_call ?_
  with_reducible refine ew_cons ?_
  with_reducible refine ew_frz ?_
  with_reducible refine ew_var h0 ?_
  walk_at "ev"
  with_reducible refine w_take (m := 13) g (by omega) (by omega) (by omega) (by omega) (fun r s1 hr g1 => ?_)
  walk_at "ev"
  with_reducible refine ew_var h0 ?_
  walk_at "ev"
  with_reducible refine w_take (m := 7) g1 (by omega) (by omega) (by omega) (by omega) (fun t s2 ht g2 => ?_)
  have lo := e__law_low (n := (r : Int) - 6) (d := 1 + (t : Int)) (N := 3) (by omega) (by omega) (by decide) (some s2)
  walk_at "ev"
  exact k _ s2 (divInt_sm (by omega) (by omega) (by omega)) g2
abbrev st4 (a b : Rat) (x1 x2 x3 x6 x7 : Option D) : Rho := [some .dr, x1, x2, x3, some (qD a), some (qD b), x6, x7, none, none, none]
theorem w_numbers {c : Nat} {s : Dw} (g : Good c s) (hc : c ≤ 2 ^ 18) {P : D → Dr → Prop} {X : Exn → Dr → Prop} (k : ∀ s', P (.bl true) (some s')) : EW (f__law_numbers [.dr] (some s)) P X := by
  unfold f__law_numbers
  with_reducible refine fw1 ?_
  simp only [List.reduceReplicate]
  unfold m__law_numbers
  with_reducible refine sw_cut (fun ρ d => ∃ a b s', Sm 3 a ∧ Sm 3 b ∧ d = some s' ∧ ρ = st4 a b none none none none none) ?_ ?_
  · walk_at "ev"
    with_reducible refine rgw (n := 2) (by omega) (by omega) ?_
    with_reducible refine lcw_drawn (fun i : Nat => .int (i : Int)) (fun d => ∃ q, d = qD q ∧ Sm 3 q) (List.range 2) (k := 2) (b := c + 4) rfl g (by rw [List.length_range]; omega) (by walk_at "small") (by walk_at "wipe") (fun i hi c1 s1 g1 hc1 => ?_) (fun ds s' hl hd g' => ?_)
    · with_reducible refine tgw (g_nm' rfl) ?_
      with_reducible refine num_low g1 (by omega) rfl (fun q s2 sm g2 => ?_)
      exact ⟨s2, rfl, ⟨q, rfl, sm⟩, g2⟩
    obtain ⟨a, b, sa, sb, rfl⟩ : ∃ a b, Sm 3 a ∧ Sm 3 b ∧ ds = [qD a, qD b] := by
      match ds, hl with
      | [x, y], _ =>
        obtain ⟨a, rfl, sa⟩ := hd x List.mem_cons_self
        obtain ⟨b, rfl, sb⟩ := hd y (List.mem_cons_of_mem _ List.mem_cons_self)
        exact ⟨a, b, sa, sb, rfl⟩
    walk_at "ev"
    exact ⟨a, b, s', sa, sb, rfl, rfl⟩
  rintro ρ d ⟨a, b, s', sa, sb, rfl, rfl⟩
  have lm := e__law_minus sa sb (by decide) (some s')
  have ll := e__law_less sa sb (by decide) (some s')
  have lp := e__law_plus sa sb (by decide) (some s')
  have lt := e__law_times sa sb (by decide) (some s')
  have mm := e_minus sa sb (by decide) (some s')
  have mb := e_below sa sb (by decide) (some s')
  have mp := e_plus sa sb (by decide) (some s')
  have mt := e_times sa sb (by decide) (some s')
  have ms := e_lesser sa sb (by decide) (some s')
  have mg := e_greater sa sb (by decide) (some s')
  have ma := e_apart_by sa sb (by decide) (some s')
  rw [lesser2] at ms
  with_reducible refine sw_cut (fun ρ d => d = some s' ∧ ρ = st4 a b none none none (some (qD (a - b))) (some (qD (lo2 a b)))) ?_ ?_
  · walk_at "ev"
    with_reducible refine ifw_d (fun h => ?_) (fun h => ?_)
    · walk_at "ev"
      rw [show lo2 a b = a from if_pos h]
    · walk_at "ev"
      rw [show lo2 a b = b from if_neg h]
  rintro ρ d ⟨rfl, rfl⟩
  have q1 := eq_q (lo2 a b) a
  have dl : D.fzs [qD (a + b), qD (a - b), qD (a * b), qD (lo2 a b), qD (hi2 a b), qD (a - b).abs] = [qD (a + b), qD (a - b), qD (a * b), qD (lo2 a b), qD (hi2 a b), qD (a - b).abs] := rfl
  with_reducible refine sw_cut (fun ρ d => d = some s' ∧ ρ = st4 a b (some (.lst false [qD (a + b), qD (a - b), qD (a * b), qD (lo2 a b), qD (hi2 a b), qD (a - b).abs])) none none (some (qD (a - b))) (some (qD (lo2 a b)))) ?_ ?_
  · walk_at "ev"
    with_reducible refine ifw_d (fun h => ?_) (fun h => ?_)
    · walk_at "ev"
      rw [qD_abs, ← low_eq, if_pos h]
    · walk_at "ev"
      rw [qD_abs, ← low_eq, if_neg h]
  rintro ρ d ⟨rfl, rfl⟩
  have n1 := ne_lists (o := true) (o' := false) (xs := [qD (a + b), qD (a - b), qD (a * b), qD (lo2 a b), qD (hi2 a b), qD (a - b).abs]) rfl rfl
  have sy : f__law_says [.bl (decide (a < b)), .bl (decide (a < b))] (some s') = .ok (.bl true) (some s') := by rw [e_says, beq_self_eq_true]
  have mg : f_greater [qD a, qD b] (some s') = .ok (qD (hi2 a b)) (some s') := mg
  with_reducible refine sw_cut (fun ρ d => d = some s' ∧ ∃ x1, ρ = st4 a b x1 none none (some (qD (a - b))) (some (qD (lo2 a b)))) ?_ ?_
  · walk_at "ev"
    exact ⟨_, rfl⟩
  rintro ρ d ⟨rfl, x1, rfl⟩
  clear n1 sy q1 lm ll lp lt mm mb mp mt ms mg ma
  have m1 := gm sa.n sb.den (by omega)
  have by' := by_ok a b
  with_reducible refine sw_cut (fun ρ d => d = some s' ∧ ∃ x1, ρ = st4 a b x1 (some (byD a b)) none (some (qD (a - b))) (some (qD (lo2 a b)))) ?_ ?_
  · walk_at "ev"
    with_reducible refine ifw_b (fun h => ?_) (fun h => ?_)
    · walk_at "ev"
      have bb : byD a b = bd := if_pos (num_z h)
      rw [bb]
      exact ⟨_, rfl⟩
    · have bb : byD a b = qD (a / b) := if_neg fun e => h (by rw [e]; rfl)
      rw [bb]
      have b7 : b.num.natAbs < 2 ^ 3 := sb.n
      have m2 : gMul (.int (a.den : Int)) (.int (if b.num < 0 then -b.num else b.num)) = some (.int ((a.den : Int) * (if b.num < 0 then -b.num else b.num))) := gm (N := 3) (M := 3) sa.den (by split <;> omega) (by omega)
      have db : ((a.den : Int) * (if b.num < 0 then -b.num else b.num)).natAbs < 2 ^ 6 := mulBits (N := 3) (M := 3) sa.den (by split <;> omega)
      have dp : 0 < (a.den : Int) * (if b.num < 0 then -b.num else b.num) := Int.mul_pos (by have := a.den_pos; omega) (by split <;> omega)
      walk_at "ev"
      with_reducible refine ifw_d (fun h => ?_) (fun h => ?_)
      · have l := e__law_low (n := a.num * (b.den : Int) * 1) dp db (by decide) (some s')
        rw [by_pos h] at l
        have m3 := gm (mulBits sa.n sb.den) (show (1 : Int).natAbs < 2 ^ 3 from by decide) (by omega)
        walk_at "ev"
        exact ⟨_, rfl⟩
      · have l := e__law_low (n := a.num * (b.den : Int) * (0 - 1)) dp db (by decide) (some s')
        rw [by_neg (by omega)] at l
        have m3 := gm (mulBits sa.n sb.den) (show (0 - 1 : Int).natAbs < 2 ^ 3 from by decide) (by omega)
        walk_at "ev"
        exact ⟨_, rfl⟩
  rintro ρ d ⟨rfl, x2, rfl⟩
  have o14 : f__law_ask [.int 14, .tup [qD a, qD b]] (some s') = .ok (byD a b) (some s') := by
    by_cases h : b = 0
    · rw [show byD a b = bd from if_pos h]
      exact bad_over (x_over h _) rfl rfl rfl rfl
    · rw [show byD a b = qD (a / b) from if_neg h]
      exact ask_over (e_over sa sb (by decide) h _) rfl rfl rfl rfl
  have n14 := by'.2
  have three : ∀ q ∈ [a, b, a], Sm 3 q := fun q hq => by
    simp only [List.mem_cons, List.not_mem_nil, or_false] at hq
    rcases hq with rfl | rfl | rfl <;> assumption
  have t1 : f_total [.lst false [qD a, qD b, qD a]] (some s') = .ok (qD (sumL [a, b, a] fun q => q)) (some s') := e_total (I := [a, b, a]) (f := fun q => q) three (by simp) _
  have t2 : f__law_sum [.lst false [qD a, qD b, qD a]] (some s') = .ok (qD (sumL [a, b, a] fun q => q)) (some s') := e__law_sum (I := [a, b, a]) (f := fun q => q) three (by simp) _
  have nq := fun q => ne_self (cl_qD q) (ok_qD q)
  have n15 := nq (sumL [a, b, a] fun q => q)
  have p1 : f_power_ratios [qD a, .int 3] (some s') = .ok (qD (pwR a 3)) (some s') := e_power_ratios (n := 3) sa (by decide) (by decide) _
  have p2 : f__law_power [qD a, .int 3] (some s') = .ok (qD (pwR a 3)) (some s') := e__law_power (n := 3) sa (by decide) (by decide) _
  have p3 : f_power_ratios [qD a, .int 0] (some s') = .ok (.tup [.int 1, .int 1]) (some s') := e_power_ratios (n := 0) sa (by decide) (by decide) _
  have n16 := nq (pwR a 3)
  have n17 : gNe (.tup [.int 1, .int 1]) (.tup [.int 1, .int 1]) = some (.bl false) := by kernel_rfl
  with_reducible refine sw_cut (fun ρ d => d = some s' ∧ ∃ x1 x2, ρ = st4 a b x1 x2 none (some (qD (a - b))) (some (qD (lo2 a b)))) ?_ ?_
  · walk_at "ev"
    exact ⟨_, _, rfl⟩
  clear o14 n14 t1 t2 n15 p1 p2 p3 n16 n17
  rintro ρ d ⟨rfl, y1, y2, rfl⟩
  have a3 := sa.n
  have a4 := sa.d
  have a5 := a.den_pos
  obtain ⟨u, v, z, w, T⟩ := txt_ex (n := a.num) (d := a.den) (by omega) (by omega) (by omega) (by omega)
  have T1 := T.s1
  have T2 := T.s2
  have T3 := T.a1
  have T4 := T.a2
  have T5 := T.n1
  have T6 := T.n2
  have o15 : f__law_ask [.int 15, .tup [.int (a.num * 6), .int (0 - (a.den : Int) * 6)]] (some s') = .ok (qD (-a)) (some s') := by
    have r := e_ratio (n := a.num * 6) (d := 0 - (a.den : Int) * 6) (N := 9) (by omega) (by omega) (by decide) (some s')
    rw [neg_six] at r
    exact ask_ratio r rfl rfl rfl rfl
  have n18 := neg_pair a
  have g1 := gm sa.n (show (6 : Int).natAbs < 2 ^ 3 from by decide) (by omega)
  have g2 := gm sa.den (show (6 : Int).natAbs < 2 ^ 3 from by decide) (by omega)
  with_reducible refine sw_cut (fun ρ d => d = some s' ∧ ∃ x1 x2, ρ = st4 a b x1 x2 none (some (qD (a - b))) (some (qD (lo2 a b)))) ?_ ?_
  · by_cases h : a.den = 1
    · have rt : f_ratio_text [qD a] (some s') = .ok u (some s') := by
        refine ew_of ?_
        unfold f_ratio_text
        with_reducible refine fw1 ?_
        simp only [List.reduceReplicate]
        unfold m_ratio_text
        walk_at "ev"
        with_reducible refine ifw_b (fun h => ?_) (fun h2 => absurd (by omega) h2)
        walk_at "ev"
        rfl
      walk_at "ev"
      with_reducible refine ifw_b (fun h => ?_) (fun h2 => absurd (by omega) h2)
      walk_at "ev"
      exact ⟨_, _, rfl⟩
    · have rt : f_ratio_text [qD a] (some s') = .ok w (some s') := by
        refine ew_of ?_
        unfold f_ratio_text
        with_reducible refine fw1 ?_
        simp only [List.reduceReplicate]
        unfold m_ratio_text
        walk_at "ev"
        with_reducible refine ifw_b (fun h2 => absurd h2 (by omega)) (fun h2 => ?_)
        walk_at "ev"
        rfl
      walk_at "ev"
      with_reducible refine ifw_b (fun h2 => absurd h2 (by omega)) (fun h2 => ?_)
      walk_at "ev"
      exact ⟨_, _, rfl⟩
  rintro ρ d ⟨rfl, y1, y2, rfl⟩
  have ol := odd_ok sa
  have zo : D.fzs [qD a, .tup [.int 2, .int 4], .tup [.int 1, .int 0], .tup [.int 1, .int (0 - 1)], .tup [.bl true, .int 1], .tup [.int 1, .int 1, .int 1], .lst true [.int 1, .int 2], .non, .tup [.int 0, .int 1], .tup [.int (0 - 1), .int 2]] = oddL a := rfl
  with_reducible refine sw_cut (fun ρ d => d = some s' ∧ ∃ x1 x2, ρ = st4 a b x1 x2 (some (.lst false (oddL a))) (some (qD (a - b))) (some (qD (lo2 a b)))) ?_ ?_
  · walk_at "ev"
    exact ⟨_, _, rfl⟩
  rintro ρ d ⟨rfl, y1, y2, rfl⟩
  have zo2 : D.fzs (oddL a) = oddL a := fzs_cl _ (cls_of fun x hx => nc_cl (ol x hx))
  have n19 : gNe (.lst true ((oddL a).map fun y => .bl y.isQ)) (.lst true ((oddL a).map fun y => .bl y.isQ)) = some (.bl false) := ne_lists (cls_map (fun _ => rfl) _) rfl
  with_reducible refine sw_cut (fun ρ d => d = some s' ∧ ∃ x1 x2, ρ = st4 a b x1 x2 (some (.lst false (oddL a))) (some (qD (a - b))) (some (qD (lo2 a b)))) ?_ ?_
  · walk_at "ev"
    with_reducible refine lcw_all (fun y => y) (fun y => .bl y.isQ) (oddL a) (by rw [List.map_id']) (len_ok (show (oddL a).length ≤ 1000 from Nat.le_of_ble_eq_true rfl)) (by walk_at "wipe") (fun y hy => ?_) ?_
    · have c := nc_cl (ol y hy)
      have e := e_is_ratio c (some s')
      have z := fz_cl y c
      have r := frz_cl c
      walk_at "ev"
      rfl
    walk_at "ev"
    with_reducible refine lcw_all (fun y => y) (fun y => .bl y.isQ) (oddL a) (by rw [List.map_id']) (len_ok (show (oddL a).length ≤ 1000 from Nat.le_of_ble_eq_true rfl)) (by walk_at "wipe") (fun y hy => ?_) ?_
    · have c := nc_cl (ol y hy)
      have e := e__law_is_ratio c (nc_lowQ (ol y hy)) (some s')
      have z := fz_cl y c
      have r := frz_cl c
      walk_at "ev"
      rfl
    walk_at "ev"
    exact ⟨_, _, rfl⟩
  rintro ρ d ⟨rfl, y1, y2, rfl⟩
  have e1 : gEq (.lst true ([D.int 3, .bl true, .str "3", .non].map fun y => .bl y.isW)) (.lst true [D.bl true, .bl false, .bl false, .bl false]) = some (.bl true) := by kernel_rfl
  have e2 : gEq (.lst true ([D.tup [.int 1, .int 0], .tup [.bl true, .int 2], .tup [.str "1", .int 2]].map fun _ => bd)) (.lst true [bd, bd, bd]) = some (.bl true) := by kernel_rfl
  have r3 : gMul (.lst true [bd]) (.int 3) = some (.lst true [bd, bd, bd]) := by kernel_rfl
  walk_at "ev"
  with_reducible refine lcw_all (fun y => y) (fun y => .bl y.isW) [D.int 3, .bl true, .str "3", .non] (by rw [List.map_id']) (len_ok (by decide)) (by walk_at "wipe") (fun y hy => ?_) ?_
  · have c : y.cl = true := by
      simp only [List.mem_cons, List.not_mem_nil, or_false] at hy
      rcases hy with rfl | rfl | rfl | rfl <;> rfl
    have e := e_is_whole c (some s')
    have z := fz_cl y c
    have r := frz_cl c
    walk_at "ev"
    rfl
  walk_at "ev"
  with_reducible refine lcw_all (fun y => y) (fun _ => bd) [D.tup [.int 1, .int 0], .tup [.bl true, .int 2], .tup [.str "1", .int 2]] (by rw [List.map_id']) (len_ok (by decide)) (by walk_at "wipe") (fun y hy => ?_) ?_
  · have c : y.cl = true ∧ f__law_ask [.int 15, y] (some s') = .ok bd (some s') := by
      simp only [List.mem_cons, List.not_mem_nil, or_false] at hy
      rcases hy with rfl | rfl | rfl
      · exact ⟨rfl, bad_ratio (x_ratio1 _) rfl rfl rfl rfl⟩
      · exact ⟨rfl, bad_ratio (x_ratio2 _) rfl rfl rfl rfl⟩
      · exact ⟨rfl, bad_ratio (x_ratio3 _) rfl rfl rfl rfl⟩
    have e := c.2
    have z := fz_cl y c.1
    have r := frz_cl c.1
    walk_at "ev"
    rfl
  walk_at "ev"
  exact k s'
/-! M02e -/
set_option pp.maxSteps 400
/-! the law's statements, one by one -/
def L1 : CSx := (cSet 2 (cBin gAdd (cK (.int 1)) (cCall f__law_take (cCons (cFrz (cVar 1)) (cCons (cK (.int 4)) cNil)))))
def L2 : CSx := (cParN [15, 16] (cCons (cCall f__law_table (cCons (cFrz (cVar 1)) (cCons (cFrz (cVar 2)) cNil))) (cCons (cCall f__law_table (cCons (cFrz (cVar 1)) (cCons (cFrz (cVar 2)) cNil))) cNil)))
def L3 : CSx := (cIfS (cTst (cBin gEq (cCall f__law_take (cCons (cFrz (cVar 1)) (cCons (cK (.int 3)) cNil))) (cK (.int 0)))) (cSet 15 (cBin gAdd (cSl (cVar 15) cNoPart (cPart (cNeg (cK (.int 1))))) (cTup (cCons (cFrz (cBin gIx (cVar 15) (cK (.int 0)))) cNil)))) cSkip)
def L4 : CSx := (cSet 3 (cB gTuple (cCons (cLc [20] (iRg1 (cVar 2)) (gNm 20) cYes (cCall f__law_item (cCons (cFrz (cVar 1)) cNil))) cNil)))
def L5 : CSx := (cFor (iAny (cLst (cCons (cFrz (cVar 15)) (cCons (cCall (f__law_bent 5) (cCons (cFrz (cVar 1)) (cCons (cFrz (cVar 15)) cNil))) (cCons (cCall (f__law_bent 5) (cCons (cFrz (cVar 1)) (cCons (cFrz (cVar 15)) cNil))) (cCons (cTup cNil) (cCons (cBin gAdd (cVar 15) (cVar 15)) (cCons (cB gList (cCons (cVar 15) cNil)) (cCons (cK .non) (cCons (cTup (cCons (cTup cNil) cNil)) (cCons (cBin gMul (cTup (cCons (cBin gMul (cTup (cCons (cTup (cCons (cK (.int 1)) (cCons (cK (.int 1)) cNil))) cNil)) (cK (.int 5))) cNil)) (cK (.int 5))) cNil))))))))))) (gNm 4) (cSeq (cSet 17 (cAndV (cIsi "tuple" (cVar 4)) (cAndV (cChain gLt gLt (cK (.int 0)) (cB gLen (cCons (cVar 4) cNil)) (cK (.int 5))) (cCall f__law_is_table (cCons (cB gLen (cCons (cVar 4) cNil)) (cCons (cFrz (cVar 4)) cNil)))))) (cIfS (cOr (cNotT (cTru (cCall f__law_says (cCons (cCall f_is_table (cCons (cFrz (cVar 4)) cNil)) (cCons (cFrz (cVar 17)) cNil))))) (cAnd (cNotT (cTru (cVar 17))) (cTst (cBin gNe (cLc [24] (iAny (cLst (cCons (cK (.int 3)) (cCons (cK (.int 6)) (cCons (cK (.int 7)) (cCons (cK (.int 8)) (cCons (cK (.int 10)) (cCons (cK (.int 11)) cNil)))))))) (gNm 24) cYes (cCall f__law_ask (cCons (cFrz (cVar 24)) (cCons (cTup (cCons (cFrz (cVar 4)) cNil)) cNil)))) (cBin gMul (cLst (cCons (cK (.str "<malformed>")) cNil)) (cK (.int 6))))))) (cRet (cK (.bl false))) cSkip)))
def L6 : CSx := (cSet 5 (cB gTuple (cCons (cLc [21] (iRg1 (cVar 2)) (gNm 21) cYes (cB gTuple (cCons (cLc [22] (iRg1 (cVar 2)) (gNm 22) cYes (cCall f__law_plus (cCons (cFrz (cBin gIx (cBin gIx (cVar 15) (cVar 21)) (cVar 22))) (cCons (cFrz (cBin gIx (cBin gIx (cVar 16) (cVar 21)) (cVar 22))) cNil)))) cNil))) cNil)))
def L7 : CSx := (cIfS (cOr (cTst (cBin gNe (cCall f__law_ask (cCons (cK (.int 0)) (cCons (cTup (cCons (cFrz (cVar 15)) (cCons (cFrz (cVar 16)) cNil))) cNil))) (cCall f__law_times_rows (cCons (cFrz (cVar 15)) (cCons (cFrz (cVar 16)) cNil))))) (cOr (cTst (cBin gNe (cCall f__law_ask (cCons (cK (.int 1)) (cCons (cTup (cCons (cFrz (cVar 15)) (cCons (cFrz (cVar 16)) cNil))) cNil))) (cVar 5))) (cTst (cBin gNe (cCall f__law_ask (cCons (cK (.int 5)) (cCons (cTup (cCons (cFrz (cVar 15)) (cCons (cFrz (cVar 3)) cNil))) cNil))) (cCall f__law_led (cCons (cFrz (cVar 15)) (cCons (cFrz (cVar 3)) cNil))))))) (cRet (cK (.bl false))) cSkip)
def L8 : CSx := (cSet 6 (cCall f__law_item (cCons (cFrz (cVar 1)) cNil)))
def L9 : CSx := (cIfS (cTst (cBin gNe (cCall f__law_ask (cCons (cK (.int 2)) (cCons (cTup (cCons (cFrz (cVar 15)) (cCons (cFrz (cVar 6)) cNil))) cNil))) (cB gTuple (cCons (cLc [10] (iAny (cFrz (cVar 15))) (gNm 10) cYes (cB gTuple (cCons (cLc [26] (iAny (cFrz (cVar 10))) (gNm 26) cYes (cCall f__law_times (cCons (cFrz (cVar 26)) (cCons (cFrz (cVar 6)) cNil)))) cNil))) cNil)))) (cRet (cK (.bl false))) cSkip)
def L10 : CSx := (cIfS (cOr (cTst (cBin gNe (cCall f__law_ask (cCons (cK (.int 3)) (cCons (cTup (cCons (cFrz (cVar 15)) cNil)) cNil))) (cB gTuple (cCons (cLc [23] (iRg1 (cVar 2)) (gNm 23) cYes (cB gTuple (cCons (cLc [10] (iAny (cFrz (cVar 15))) (gNm 10) cYes (cFrz (cBin gIx (cVar 10) (cVar 23)))) cNil))) cNil)))) (cTst (cBin gNe (cCall f__law_ask (cCons (cK (.int 6)) (cCons (cTup (cCons (cFrz (cVar 15)) cNil)) cNil))) (cCall f__law_sum (cCons (cLc [23] (iRg1 (cVar 2)) (gNm 23) cYes (cFrz (cBin gIx (cBin gIx (cVar 15) (cVar 23)) (cVar 23)))) cNil))))) (cRet (cK (.bl false))) cSkip)
def L11 : CSx := (cPar2 18 19 (cCons (cCall f__law_take (cCons (cFrz (cVar 1)) (cCons (cK (.int 6)) cNil))) (cCons (cCall f__law_unit (cCons (cFrz (cVar 2)) cNil)) cNil)))
def L12 : CSx := (cFor (iRg1 (cVar 18)) (gNm 7) (cSet 19 (cCall f__law_times_rows (cCons (cFrz (cVar 15)) (cCons (cFrz (cVar 19)) cNil)))))
def L13 : CSx := (cIfS (cOr (cTst (cBin gNe (cCall f__law_ask (cCons (cK (.int 4)) (cCons (cTup (cCons (cFrz (cVar 15)) (cCons (cFrz (cVar 18)) cNil))) cNil))) (cVar 19))) (cOr (cTst (cBin gNe (cCall f__law_ask (cCons (cK (.int 13)) (cCons (cTup (cCons (cFrz (cVar 2)) cNil)) cNil))) (cCall f__law_unit (cCons (cFrz (cVar 2)) cNil)))) (cOr (cTst (cBin gNe (cCall f__law_ask (cCons (cK (.int 7)) (cCons (cTup (cCons (cFrz (cVar 15)) cNil)) cNil))) (cCall f__law_rank (cCons (cFrz (cVar 15)) cNil)))) (cTst (cBin gNe (cCall f__law_ask (cCons (cK (.int 9)) (cCons (cTup (cCons (cFrz (cVar 3)) cNil)) cNil))) (cCall f__law_size (cCons (cFrz (cVar 3)) cNil))))))) (cRet (cK (.bl false))) cSkip)
def L14 : CSx := (cSet 8 (cCall f__law_ask (cCons (cK (.int 8)) (cCons (cTup (cCons (cFrz (cVar 15)) cNil)) cNil))))
def L15 : CSx := (cIfS (cOr (cTst (cBin gEq (cBin (gIsN false) (cVar 8) (cK .non)) (cCall f__law_undone (cCons (cFrz (cVar 15)) cNil)))) (cAnd (cTst (cBin (gIsN true) (cVar 8) (cK .non))) (cOr (cTst (cBin gNe (cCall f__law_times_rows (cCons (cFrz (cVar 15)) (cCons (cFrz (cVar 8)) cNil))) (cCall f__law_unit (cCons (cFrz (cVar 2)) cNil)))) (cNotT (cTru (cCall f__law_is_table (cCons (cFrz (cVar 2)) (cCons (cFrz (cVar 8)) cNil)))))))) (cRet (cK (.bl false))) cSkip)
def L16 : CSx := (cSet 9 (cLst cNil))
def L17 : CSx := (cFor (iAny (cFrz (cVar 15))) (gNm 10) (cSet 9 (cBin gAdd (cVar 9) (cB gList (cCons (cVar 10) cNil)))))
def L18 : CSx := (cIfS (cOr (cNotT (cTru (cCall f__law_says (cCons (cCall f__law_ask (cCons (cK (.int 10)) (cCons (cTup (cCons (cFrz (cVar 15)) cNil)) cNil))) (cCons (cB gAll (cCons (cLc [26] (iAny (cFrz (cVar 9))) (gNm 26) cYes (cBin gEq (cBin gIx (cVar 26) (cK (.int 0))) (cK (.int 0)))) cNil)) cNil))))) (cNotT (cTru (cCall f__law_says (cCons (cCall f__law_ask (cCons (cK (.int 11)) (cCons (cTup (cCons (cFrz (cVar 15)) cNil)) cNil))) (cCons (cB gAll (cCons (cLc [26] (iAny (cFrz (cVar 9))) (gNm 26) cYes (cBin gGe (cBin gIx (cVar 26) (cK (.int 0))) (cK (.int 0)))) cNil)) cNil)))))) (cRet (cK (.bl false))) cSkip)
def L19 : CSx := (cSet 11 (cCall f__law_table (cCons (cFrz (cVar 1)) (cCons (cBin gAdd (cK (.int 1)) (cCall f__law_take (cCons (cFrz (cVar 1)) (cCons (cK (.int 3)) cNil)))) cNil))))
def L20 : CSx := (cSet 12 (cB gTuple (cCons (cBin gAdd (cLc [10] (iAny (cFrz (cVar 15))) (gNm 10) cYes (cBin gAdd (cVar 10) (cBin gMul (cTup (cCons (cTup (cCons (cK (.int 0)) (cCons (cK (.int 1)) cNil))) cNil)) (cB gLen (cCons (cVar 11) cNil))))) (cLc [10] (iAny (cFrz (cVar 11))) (gNm 10) cYes (cBin gAdd (cBin gMul (cTup (cCons (cTup (cCons (cK (.int 0)) (cCons (cK (.int 1)) cNil))) cNil)) (cVar 2)) (cVar 10)))) cNil)))
def L21 : CSx := (cIfS (cTst (cBin gNe (cCall f__law_ask (cCons (cK (.int 12)) (cCons (cTup (cCons (cFrz (cVar 15)) (cCons (cFrz (cVar 11)) cNil))) cNil))) (cIf (cTst (cBin gLt (cBin gAdd (cVar 2) (cB gLen (cCons (cVar 11) cNil))) (cK (.int 5)))) (cFrz (cVar 12)) (cK (.str "<malformed>"))))) (cRet (cK (.bl false))) cSkip)
def L22 : CSx := (cSet 13 (cTup (cCons (cTup (cCons (cK (.int 2)) (cCons (cK (.int 1)) cNil))) cNil)))
def L23 : CSx := (cIfS (cOr (cTst (cBin gNe (cCall f__law_ask (cCons (cK (.int 4)) (cCons (cTup (cCons (cTup (cCons (cFrz (cVar 13)) cNil)) (cCons (cK (.int 64)) cNil))) cNil))) (cTup (cCons (cTup (cCons (cTup (cCons (cK (.int 18446744073709551616)) (cCons (cK (.int 1)) cNil))) cNil)) cNil)))) (cTst (cBin gNe (cCall f__law_ask (cCons (cK (.int 4)) (cCons (cTup (cCons (cTup (cCons (cFrz (cVar 13)) cNil)) (cCons (cK (.int 65)) cNil))) cNil))) (cK (.str "<malformed>"))))) (cRet (cK (.bl false))) cSkip)
def L24 : CSx := (cSet 14 (cLst (cCons (cTup (cCons (cK (.int 0)) (cCons (cTup (cCons (cFrz (cVar 15)) (cCons (cBin gAdd (cVar 15) (cVar 15)) cNil))) cNil))) (cCons (cTup (cCons (cK (.int 0)) (cCons (cTup (cCons (cFrz (cVar 15)) (cCons (cK .non) cNil))) cNil))) (cCons (cTup (cCons (cK (.int 1)) (cCons (cTup (cCons (cFrz (cVar 15)) (cCons (cTup (cCons (cTup (cCons (cFrz (cVar 3)) cNil)) cNil)) cNil))) cNil))) (cCons (cTup (cCons (cK (.int 2)) (cCons (cTup (cCons (cFrz (cVar 15)) (cCons (cK (.int 2)) cNil))) cNil))) (cCons (cTup (cCons (cK (.int 2)) (cCons (cTup (cCons (cFrz (cVar 15)) (cCons (cTup (cCons (cK (.int 2)) (cCons (cK (.int 4)) cNil))) cNil))) cNil))) (cCons (cTup (cCons (cK (.int 4)) (cCons (cTup (cCons (cFrz (cVar 15)) (cCons (cBin gSub (cK (.int 0)) (cK (.int 1))) cNil))) cNil))) (cCons (cTup (cCons (cK (.int 4)) (cCons (cTup (cCons (cFrz (cVar 15)) (cCons (cK (.bl true)) cNil))) cNil))) cNil)))))))))
def L25 : CSx := (cSet 14 (cBin gAdd (cVar 14) (cLst (cCons (cTup (cCons (cK (.int 5)) (cCons (cTup (cCons (cFrz (cVar 15)) (cCons (cBin gAdd (cVar 3) (cVar 3)) cNil))) cNil))) (cCons (cTup (cCons (cK (.int 5)) (cCons (cTup (cCons (cFrz (cVar 15)) (cCons (cK .non) cNil))) cNil))) (cCons (cTup (cCons (cK (.int 9)) (cCons (cTup (cCons (cTup cNil) cNil)) cNil))) (cCons (cTup (cCons (cK (.int 9)) (cCons (cTup (cCons (cBin gMul (cVar 3) (cK (.int 5))) cNil)) cNil))) (cCons (cTup (cCons (cK (.int 9)) (cCons (cTup (cCons (cK .non) cNil)) cNil))) cNil))))))))
def L26 : CSx := (cSet 14 (cBin gAdd (cVar 14) (cLst (cCons (cTup (cCons (cK (.int 13)) (cCons (cTup (cCons (cK (.int 0)) cNil)) cNil))) (cCons (cTup (cCons (cK (.int 13)) (cCons (cTup (cCons (cK (.int 5)) cNil)) cNil))) (cCons (cTup (cCons (cK (.int 13)) (cCons (cTup (cCons (cK (.bl true)) cNil)) cNil))) (cCons (cTup (cCons (cK (.int 12)) (cCons (cTup (cCons (cFrz (cVar 15)) (cCons (cK .non) cNil))) cNil))) cNil)))))))
def L27 : CSx := (cRet (cAndV (cCall f__law_numbers (cCons (cFrz (cVar 1)) cNil)) (cB gAll (cCons (cLc [24, 25] (iAny (cFrz (cVar 14))) (gTp 2 (gsCons (gNm 24) (gsCons (gNm 25) gsNil))) cYes (cBin gEq (cCall f__law_ask (cCons (cFrz (cVar 24)) (cCons (cFrz (cVar 25)) cNil))) (cK (.str "<malformed>")))) cNil))))
theorem L_eq : m_law = cSeq L1 (cSeq L2 (cSeq L3 (cSeq L4 (cSeq L5 (cSeq L6 (cSeq L7 (cSeq L8 (cSeq L9 (cSeq L10 (cSeq L11 (cSeq L12 (cSeq L13 (cSeq L14 (cSeq L15 (cSeq L16 (cSeq L17 (cSeq L18 (cSeq L19 (cSeq L20 (cSeq L21 (cSeq L22 (cSeq L23 (cSeq L24 (cSeq L25 (cSeq L26 (L27)))))))))))))))))))))))))) := rfl
abbrev sL (n : Nat) (A B : Mq) (r : Nat → Rat) (x4 x5 x6 x7 x8 x9 x10 x11 x12 x13 x14 x17 x18 x19 : Option D) : Rho := [none, some .dr, some (.int (n : Int)), some (Rw n r), x4, x5, x6, x7, x8, x9, x10, x11, x12, x13, x14, some (Tt n A), some (Tt n B), x17, x18, x19, none, none, none, none, none, none, none]
/-- what is drawn -/
structure Lw (n : Nat) (A B : Mq) (r : Nat → Rat) : Prop where
  h0 : 0 < n
  h4 : n ≤ 4
  sA : ∀ i j, i < n → j < n → Sm 2 (A i j)
  sB : ∀ i j, i < n → j < n → Sm 2 (B i j)
  sr : ∀ k, k < n → Sm 2 (r k)
  zA : ∀ i k, n ≤ k → A i k = 0
abbrev noU : SR → Prop := fun _ => False
abbrev n27 : Rho := [none, some .dr, none, none, none, none, none, none, none, none, none, none, none, none, none, none, none, none, none, none, none, none, none, none, none, none, none]
theorem s1 {s : Dw} (g : Good 0 s) : SW (L1 n27 (some s)) (SQ noU fun ρ d => ∃ n s', 0 < n ∧ n ≤ 4 ∧ Good 1 s' ∧ d = some s' ∧ ρ = n27.set 2 (some (.int ((n : Nat) : Int)))) := by
  unfold L1
  walk_at "ev"
  with_reducible refine w_take (m := 4) g (by omega) (by omega) (by omega) (by omega) (fun r s1 hr g1 => ?_)
  walk_at "ev"
  rw [show (1 : Int) + (r : Int) = ((r + 1 : Nat) : Int) from by omega]
  exact ⟨r + 1, s1, by omega, by omega, g1, rfl, rfl⟩
theorem s2 {n : Nat} {s : Dw} (g : Good 1 s) (h4 : n ≤ 4) : SW (L2 (n27.set 2 (some (.int ((n : Nat) : Int)))) (some s)) (SQ noU fun ρ d => ∃ A B s', (∀ i j, i < n → j < n → Sm 2 (A i j)) ∧ (∀ i j, i < n → j < n → Sm 2 (B i j)) ∧ Good 33 s' ∧ d = some s' ∧ ρ = ((n27.set 2 (some (.int ((n : Nat) : Int)))).set 15 (some (Tt n A))).set 16 (some (Tt n B))) := by
  unfold L2
  simp only [List.set_cons_succ, List.set_cons_zero]
  walk_at "ev"
  with_reducible refine w_table g (by omega) h4 (fun A s1 hA g1 => ?_)
  walk_at "ev"
  with_reducible refine w_table g1 (by omega) h4 (fun B s2 hB g2 => ?_)
  walk_at "ev"
  exact ⟨A, B, s2, hA, hB, g2, rfl, rfl⟩
theorem sl_last {n : Nat} {f : Nat → D} : gSl (.tup ((List.range n).map f)) none (some (-1)) = some (.tup ((List.range (n - 1)).map f)) := by
  show some (D.tup (DL.cutD ((List.range n).map f) none (some (-1)))) = _
  congr 2
  have e2 : HT.sIx ((List.range n).map f).length ((List.range n).map f).length (some (-1)) = n - 1 := by
    rw [List.length_map, List.length_range]
    unfold HT.sIx
    simp only []
    split <;> omega
  unfold DL.cutD
  rw [HT.sIx_none, e2, List.drop_zero, Nat.sub_zero, ← List.map_take, List.take_range, Nat.min_eq_left (by omega)]
def swT (n : Nat) (A : Mq) : Mq := fun i k => if i = n - 1 then A 0 k else A i k
def cutT (n : Nat) (A : Mq) : Mq := fun i k => if k < n then A i k else 0
theorem cutT_tab (n : Nat) (A : Mq) : Tt n A = Tt n (cutT n A) := tab_congr fun i _ j hj => by
  unfold cutT
  rw [if_pos (List.mem_range.mp hj)]
theorem swT_tab {n : Nat} {A : Mq} (h0 : 0 < n) : D.tup ((List.range (n - 1)).map (fun i => rowL (List.range n) (A i)) ++ [rowL (List.range n) (A 0)]) = Tt n (swT n A) := by
  obtain ⟨m, rfl⟩ : ∃ m, n = m + 1 := ⟨n - 1, by omega⟩
  unfold Tt tabL
  congr 1
  rw [List.range_succ (n := m), List.map_append]
  show _ = (List.range m).map (fun i => rowL (List.range m ++ [m]) (swT (m + 1) A i)) ++ [rowL (List.range m ++ [m]) (swT (m + 1) A m)]
  rw [show m + 1 - 1 = m by omega]
  congr 1
  · refine List.map_congr_left fun i hi => ?_
    have := List.mem_range.mp hi
    have e : swT (m + 1) A i = A i := by
      funext k
      unfold swT
      rw [if_neg (by omega)]
    rw [e]
  · have e : swT (m + 1) A m = A 0 := by
      funext k
      unfold swT
      rw [if_pos (by omega)]
    rw [e]
theorem s3 {n : Nat} {A B : Mq} {s : Dw} (g : Good 33 s) (h0 : 0 < n) (h4 : n ≤ 4) (hA : ∀ i j, i < n → j < n → Sm 2 (A i j)) : SW (L3 (((n27.set 2 (some (.int ((n : Nat) : Int)))).set 15 (some (Tt n A))).set 16 (some (Tt n B))) (some s)) (SQ noU fun ρ d => ∃ A s', (∀ i j, i < n → j < n → Sm 2 (A i j)) ∧ Good 34 s' ∧ d = some s' ∧ ρ = ((n27.set 2 (some (.int ((n : Nat) : Int)))).set 15 (some (Tt n A))).set 16 (some (Tt n B))) := by
  unfold L3
  simp only [List.set_cons_succ, List.set_cons_zero]
  have hx : gIx (Tt n A) (.int 0) = some (rowL (List.range n) (A 0)) := at_map (f := fun i => rowL (List.range n) (A i)) (k := 0) h0
  have hs : gSl (Tt n A) none (some (-1)) = some (.tup ((List.range (n - 1)).map fun i => rowL (List.range n) (A i))) := sl_last
  walk_at "ev"
  with_reducible refine w_take (m := 3) g (by omega) (by omega) (by omega) (by omega) (fun r s1 hr g1 => ?_)
  walk_at "ev"
  with_reducible refine ifw_b (fun h => ?_) (fun h => ?_)
  · have ha : gAdd (.tup ((List.range (n - 1)).map fun i => rowL (List.range n) (A i))) (.tup [rowL (List.range n) (A 0)]) = some (Tt n (swT n A)) := by
      rw [add_tups _ _ (by rw [List.length_map, List.length_range, List.length_singleton]; omega), swT_tab h0]
    walk_at "ev"
    refine ⟨swT n A, s1, fun i j hi hj => ?_, g1, rfl, rfl⟩
    unfold swT
    split
    · exact hA 0 j h0 hj
    · exact hA i j hi hj
  · walk_at "ev"
    exact ⟨A, s1, hA, g1, rfl, rfl⟩
theorem s4 {n : Nat} {A B : Mq} {s : Dw} (g : Good 34 s) (h0 : 0 < n) (h4 : n ≤ 4) (hA : ∀ i j, i < n → j < n → Sm 2 (A i j)) (hB : ∀ i j, i < n → j < n → Sm 2 (B i j)) : SW (L4 (((n27.set 2 (some (.int ((n : Nat) : Int)))).set 15 (some (Tt n A))).set 16 (some (Tt n B))) (some s)) (SQ noU fun ρ d => ∃ A r s', Lw n A B r ∧ Good 38 s' ∧ d = some s' ∧ ρ = sL n A B r none none none none none none none none none none none none none none) := by
  unfold L4
  simp only [List.set_cons_succ, List.set_cons_zero]
  walk_at "ev"
  with_reducible refine lcw_drawn (fun i : Nat => .int (i : Int)) (fun d => ∃ q, d = qD q ∧ Sm 2 q) (List.range n) (k := 1) (b := 38) rfl g (by rw [List.length_range]; omega) (by walk_at "small") (by walk_at "wipe") (fun j hj c2 s2 g2 hc2 => ?_) (fun es s3 hl hd g3 => ?_)
  · walk_at "ev"
    with_reducible refine w_item g2 (by omega) (fun q s' sm g' => ?_)
    exact ⟨s', rfl, ⟨q, rfl, sm⟩, g'⟩
  · obtain ⟨r, e1, e2⟩ := rats_of hd
    rw [hl, List.length_range] at e1 e2
    subst e1
    have t : gTuple [.lst true ((List.range n).map fun k => qD (r k))] = some (Rw n r) := gTuple_lst _ _ fun _ => rfl
    walk_at "ev"
    rw [cutT_tab n A]
    refine ⟨cutT n A, r, s3, ⟨h0, h4, fun i j hi hj => ?_, hB, e2, fun i k hk => ?_⟩, g3.mono (by rw [List.length_range]; omega), rfl, rfl⟩
    · unfold cutT
      rw [if_pos hj]
      exact hA i j hi hj
    · unfold cutT
      rw [if_neg (by omega)]
/-! M02f -/
set_option pp.maxSteps 400
abbrev rwsT (n : Nat) (A : Mq) : List D := (List.range n).map fun i => rowL (List.range n) (A i)
/-- the list of values -/
abbrev w5 : D := .tup [.tup [.int 1, .int 1], .tup [.int 1, .int 1], .tup [.int 1, .int 1], .tup [.int 1, .int 1], .tup [.int 1, .int 1]]
abbrev vals (n : Nat) (A : Mq) (b1 b2 : D) : List D := [Tt n A, b1, b2, .tup [], .tup (rwsT n A ++ rwsT n A), .lst false (rwsT n A), .non, .tup [.tup []], .tup [w5, w5, w5, w5, w5]]
theorem nc_row {n : Nat} {A : Mq} (h4 : n ≤ 4) (hA : ∀ i j, i < n → j < n → Sm 2 (A i j)) : ∀ x ∈ rwsT n A, nc 5 x = true := fun x hx => by
  obtain ⟨i, hi, rfl⟩ := List.mem_map.mp hx
  exact nc_le (by omega) (sh_nc 2 _ (sh_row h4 (by decide) fun k hk => hA i k (List.mem_range.mp hi) hk))
theorem vals_nc {n : Nat} {A : Mq} {b1 b2 : D} (h4 : n ≤ 4) (hA : ∀ i j, i < n → j < n → Sm 2 (A i j)) (h1 : nc 5 b1 = true) (h2 : nc 5 b2 = true) : ∀ z ∈ vals n A b1 b2, nc 6 z = true := fun z hz => by
  have hr := nc_row h4 hA
  simp only [vals, List.mem_cons, List.not_mem_nil, or_false] at hz
  rcases hz with rfl | rfl | rfl | rfl | rfl | rfl | rfl | rfl | rfl
  · exact nc_tup_of (by rw [List.length_map, List.length_range]; omega) hr
  · exact nc_up 5 _ h1
  · exact nc_up 5 _ h2
  · rfl
  · refine nc_tup_of (by rw [List.length_append, List.length_map, List.length_range]; omega) fun x hx => ?_
    rcases List.mem_append.mp hx with h | h <;> exact hr x h
  · exact nc_lst_of (by rw [List.length_map, List.length_range]; omega) hr
  · rfl
  · rfl
  · rfl
theorem e_good {v : D} (h : nc 6 v = true) {ρ : Rho} {dr : Dr} (h4 : ρ[4]? = some (some v)) : EW (cAndV (cIsi "tuple" (cVar 4)) (cAndV (cChain gLt gLt (cK (.int 0)) (cB gLen (cCons (cVar 4) cNil)) (cK (.int 5))) (cCall f__law_is_table (cCons (cB gLen (cCons (cVar 4) cNil)) (cCons (cFrz (cVar 4)) cNil)))) ρ dr) (fun d d' => R.ok d d' = R.ok (.bl (isTab v)) dr) noX := by
  have ev : ∀ {P : D → Dr → Prop} {X : Exn → Dr → Prop}, P v dr → EW (cVar 4 ρ dr) P X := fun k => ew_var h4 k
  have z := fz_cl v (nc_cl h)
  have y := frz_cl (nc_cl h)
  cases v
  case fn => cases h
  case dr => cases h
  case tup xs =>
    have il := nc_law h xs.length dr
    walk_at "ev"
    with_reducible refine ev ?_
    walk_at "ev"
    with_reducible refine ev ?_
    walk_at "ev"
    with_reducible refine ifw_d (fun p => ?_) (fun p => ?_)
    · walk_at "ev"
      with_reducible refine ifw_d (fun p2 => ?_) (fun p2 => ?_)
      · walk_at "ev"
        with_reducible refine ev ?_
        walk_at "ev"
        with_reducible refine ev ?_
        walk_at "ev"
        show _ = DL.R.ok (D.bl (decide (0 < (xs.length : Int)) && decide ((xs.length : Int) ≤ 4) && isSq xs.length (.tup xs))) dr
        rw [decide_eq_true p, decide_eq_true (show (xs.length : Int) ≤ 4 by omega)]
        rfl
      · walk_at "ev"
        show _ = DL.R.ok (D.bl (decide (0 < (xs.length : Int)) && decide ((xs.length : Int) ≤ 4) && isSq xs.length (.tup xs))) dr
        rw [decide_eq_true p, decide_eq_false (show ¬ (xs.length : Int) ≤ 4 by omega)]
        rfl
    · walk_at "ev"
      show _ = DL.R.ok (D.bl (decide (0 < (xs.length : Int)) && decide ((xs.length : Int) ≤ 4) && isSq xs.length (.tup xs))) dr
      rw [decide_eq_false p]
      rfl
  all_goals
    walk_at "ev"
    with_reducible refine ev ?_
    walk_at "ev"
    rfl
theorem six_ask {v : D} (h : nc 6 v = true) (t : isTab v = false) (dr : Dr) : ∀ y ∈ [(3 : Int), 6, 7, 8, 10, 11], f__law_ask [.int y, .tup [v]] dr = .ok bd dr := fun y hy => by
  have c := nc_cl h
  have w := nc_wide h
  have z := fz_cl v c
  have f := frz_cl c
  simp only [List.mem_cons, List.not_mem_nil, or_false] at hy
  rcases hy with rfl | rfl | rfl | rfl | rfl | rfl
  · exact bad_turned (x_turned c w t dr) z f
  · exact bad_trace (x_trace c w t dr) z f
  · exact bad_rank (x_rank c w t dr) z f
  · exact bad_back (x_back c w t dr) z f
  · exact bad_is_nought (x_is_nought c w t dr) z f
  · exact bad_has_no_minus (x_has_no_minus c w t dr) z f
theorem m6 : gMul (.lst true [bd]) (.int 6) = some (.lst true [bd, bd, bd, bd, bd, bd]) := by kernel_rfl
theorem n6 : gNe (.lst true ([(3 : Int), 6, 7, 8, 10, 11].map fun _ => bd)) (.lst true [bd, bd, bd, bd, bd, bd]) = some (.bl false) := by kernel_rfl
theorem m25 : gMul (.tup [w5]) (.int 5) = some (.tup [w5, w5, w5, w5, w5]) ∧ gMul (.tup [.tup [.int 1, .int 1]]) (.int 5) = some w5 := ⟨by kernel_rfl, by kernel_rfl⟩
theorem s5 {n : Nat} {A B : Mq} {r : Nat → Rat} (h : Lw n A B r) {s : Dw} (g : Good 38 s) : SW (L5 (sL n A B r none none none none none none none none none none none none none none) (some s)) (SQ noU fun ρ d => ∃ s', Good 52 s' ∧ d = some s' ∧ ∃ x4 x17, ρ = sL n A B r x4 none none none none none none none none none none x17 none none) := by
  unfold L5
  with_reducible refine sw_forX (fun zs ρ d => (∀ z ∈ zs, nc 6 z = true) ∧ ∃ s', Good 52 s' ∧ d = some s' ∧ ∃ x4 x17, ρ = sL n A B r x4 none none none none none none none none none none x17 none none) ?_ ?_ ?_
  · have ad : gAdd (Tt n A) (Tt n A) = some (.tup (rwsT n A ++ rwsT n A)) := add_tups _ _ (by rw [List.length_map, List.length_range]; have := h.h4; omega)
    have li : gList [Tt n A] = some (.lst true (rwsT n A)) := rfl
    have m1 := m25.1
    have m2 := m25.2
    have zr : (D.lst true (rwsT n A)).fz = .lst false (rwsT n A) := fz_lstm fun i => fz_row _ _
    walk_at "ev"
    with_reducible refine e_bent h.h4 (by decide) h.sA g (by omega) (fun d1 s1 h1 g1 => ?_)
    walk_at "ev"
    with_reducible refine e_bent h.h4 (by decide) h.sA g1 (by omega) (fun d2 s2 h2 g2 => ?_)
    obtain ⟨b1, e1⟩ : ∃ b, d1.fz = b := ⟨_, rfl⟩
    obtain ⟨b2, e2⟩ : ∃ b, d2.fz = b := ⟨_, rfl⟩
    rw [e1] at h1
    rw [e2] at h2
    have nc6 := vals_nc h.h4 h.sA h1 h2
    walk_at "ev"
    exact ⟨s2, g2, rfl, none, none, rfl⟩
  · rintro v zs ρ d ⟨hz, s', g', rfl, x4, x17, rfl⟩
    have hv := hz v List.mem_cons_self
    have hzs : ∀ z ∈ zs, nc 6 z = true := fun z h => hz z (List.mem_cons_of_mem _ h)
    have z := fz_cl v (nc_cl hv)
    have y := frz_cl (nc_cl hv)
    walk_at "ev1"
    with_reducible refine sw_cut (fun ρ d => d = some s' ∧ ρ = sL n A B r (some v) none none none none none none none none none none (some (.bl (isTab v))) none none) ?_ ?_
    · with_reducible refine sw_set ?_
      refine ew_mono (e_good hv rfl) (fun d d' q => ?_) (fun _ _ q => q.elim)
      cases q
      walk_at "ev"
      rfl
    rintro ρ d ⟨rfl, rfl⟩
    have it := e_is_table (nc_cl hv) (nc_wide hv) (some s')
    have sy : f__law_says [.bl (isTab v), .bl (isTab v)] (some s') = .ok (.bl true) (some s') := by rw [e_says, beq_self_eq_true]
    walk_at "ev"
    with_reducible refine ifw (fun h => ?_) (fun h => ?_)
    · walk_at "ev"
      exact ⟨s', g', rfl, _, _, rfl⟩
    · have sx := six_ask hv h (some s')
      have m6 := m6
      have n6 := n6
      walk_at "ev"
      with_reducible refine lcw_all (fun i : Int => .int i) (fun _ => bd) [(3 : Int), 6, 7, 8, 10, 11] rfl (len_ok (by decide)) (by walk_at "wipe") (fun i hi => ?_) ?_
      · have a := sx i hi
        walk_at "ev"
        rfl
      · walk_at "ev"
        exact ⟨s', g', rfl, _, _, rfl⟩
  · rintro ρ d ⟨_, s', g', rfl, x4, x17, rfl⟩
    exact ⟨s', g', rfl, x4, x17, rfl⟩
/-! M02g -/
set_option pp.maxSteps 400
section
variable {n : Nat} {A B : Mq} {r : Nat → Rat} (h : Lw n A B r) {x4 x5 x6 x7 x8 x9 x10 x11 x12 x13 x14 x17 x18 x19 : Option D} {s : Dw}
include h
theorem rng_ok : (List.range n).length ≤ 1000 := by rw [List.length_range]; have := h.h4; omega
theorem s6 : SW (L6 (sL n A B r x4 x5 x6 x7 x8 x9 x10 x11 x12 x13 x14 x17 x18 x19) (some s)) (SQ noU fun ρ d => d = some s ∧ ρ = sL n A B r x4 (some (Tt n fun i j => A i j + B i j)) x6 x7 x8 x9 x10 x11 x12 x13 x14 x17 x18 x19) := by
  unfold L6
  have hl := rng_ok h
  have h4 := h.h4
  walk_at "ev"
  with_reducible refine lcw_all (fun i : Nat => .int (i : Int)) (fun i => rowL (List.range n) fun j => A i j + B i j) (List.range n) rfl (len_ok hl) (by walk_at "wipe") (fun i hi => ?_) ?_
  · have hi := List.mem_range.mp hi
    walk_at "ev"
    with_reducible refine lcw_all (fun j : Nat => .int (j : Int)) (fun j => qD (A i j + B i j)) (List.range n) rfl (len_ok hl) (by walk_at "wipe") (fun j hj => ?_) ?_
    · have hj := List.mem_range.mp hj
      have p := e__law_plus (h.sA i j hi hj) (h.sB i j hi hj) (by decide) (some s)
      walk_at "ev"
      rfl
    · walk_at "ev"
      rfl
  · walk_at "ev"
    rfl
theorem nsT (X : Mq) : gNe (Tt n X) (Tt n X) = some (.bl false) := ne_self (cl_tab _ _ _) (ok_tab _ _ _)
theorem nsR (X : Nat → Rat) : gNe (Rw n X) (Rw n X) = some (.bl false) := ne_self (cl_row _ _) (ok_row _ _)
theorem s7 : SW (L7 (sL n A B r x4 (some (Tt n fun i j => A i j + B i j)) x6 x7 x8 x9 x10 x11 x12 x13 x14 x17 x18 x19) (some s)) (SQ noU fun ρ d => d = some s ∧ ρ = sL n A B r x4 (some (Tt n fun i j => A i j + B i j)) x6 x7 x8 x9 x10 x11 x12 x13 x14 x17 x18 x19) := by
  unfold L7
  have h4 := h.h4
  have zA := fz_tab (List.range n) (List.range n) A
  have zB := fz_tab (List.range n) (List.range n) B
  have zr := fz_row (List.range n) r
  have a0 := ask_product (e_product h.h0 h4 (some s) h.sA h.sB (by omega)) zA rfl zB rfl
  have l0 := e__law_times_rows (by omega) h.sA h.sB (by omega) (some s)
  have n0 := nsT h (mulQ n A B)
  have a1 := ask_added (e_added h.h0 h4 (some s) h.sA h.sB (by omega)) zA rfl zB rfl
  have n1 := nsT h fun i j => A i j + B i j
  have a5 := ask_led (e_led h.h0 h4 (some s) h.sA h.sr (by omega)) zA rfl zr rfl
  have l5 := e__law_led (by omega) h.sA h.sr (by omega) (some s)
  have n5 := nsR h fun i => sumL (List.range n) fun j => A i j * r j
  walk_at "ev"
  rfl
theorem s8 {c : Nat} (g : Good c s) (hc : c ≤ 1000) : SW (L8 (sL n A B r x4 x5 x6 x7 x8 x9 x10 x11 x12 x13 x14 x17 x18 x19) (some s)) (SQ noU fun ρ d => ∃ q s', Sm 2 q ∧ Good (c + 1) s' ∧ d = some s' ∧ ρ = sL n A B r x4 x5 (some (qD q)) x7 x8 x9 x10 x11 x12 x13 x14 x17 x18 x19) := by
  unfold L8
  walk_at "ev"
  with_reducible refine w_item g (by omega) (fun q s' sm g' => ?_)
  walk_at "ev"
  exact ⟨q, s', sm, g', rfl, rfl⟩
theorem s9 {q : Rat} (hq : Sm 2 q) : SW (L9 (sL n A B r x4 x5 (some (qD q)) x7 x8 x9 x10 x11 x12 x13 x14 x17 x18 x19) (some s)) (SQ noU fun ρ d => d = some s ∧ ρ = sL n A B r x4 x5 (some (qD q)) x7 x8 x9 x10 x11 x12 x13 x14 x17 x18 x19) := by
  unfold L9
  have hl := rng_ok h
  have h4 := h.h4
  have zA := fz_tab (List.range n) (List.range n) A
  have a2 := ask_scaled (e_scaled h.h0 h.h4 (some s) h.sA hq (by omega)) zA rfl (fz_qD q) rfl
  have n2 : gNe (Tt n fun i j => A i j * q) (.tup ((List.range n).map fun i => rowL (List.range n) fun j => A i j * q)) = some (.bl false) := nsT h _
  walk_at "ev"
  with_reducible refine lcw_all (fun i => rowL (List.range n) (A i)) (fun i => rowL (List.range n) fun j => A i j * q) (List.range n) rfl (len_ok hl) (by walk_at "wipe") (fun i hi => ?_) ?_
  · have hi := List.mem_range.mp hi
    walk_at "ev"
    with_reducible refine lcw_all (fun j => qD (A i j)) (fun j => qD (A i j * q)) (List.range n) rfl (len_ok hl) (by walk_at "wipe") (fun j hj => ?_) ?_
    · have hj := List.mem_range.mp hj
      have p := e__law_times (h.sA i j hi hj) hq (by decide) (some s)
      walk_at "ev"
      rfl
    · walk_at "ev"
      rfl
  · walk_at "ev"
    rfl
theorem s10 : SW (L10 (sL n A B r x4 x5 x6 x7 x8 x9 x10 x11 x12 x13 x14 x17 x18 x19) (some s)) (SQ noU fun ρ d => d = some s ∧ ρ = sL n A B r x4 x5 x6 x7 x8 x9 x10 x11 x12 x13 x14 x17 x18 x19) := by
  unfold L10
  have hl := rng_ok h
  have h4 := h.h4
  have zA := fz_tab (List.range n) (List.range n) A
  have a3 := ask_turned (e_turned (A := A) h.h0 h.h4 (some s)) zA rfl
  have n3 : gNe (Tt n fun i j => A j i) (.tup ((List.range n).map fun i => rowL (List.range n) fun j => A j i)) = some (.bl false) := nsT h _
  have a6 := ask_trace (e_trace h.h0 h.h4 (some s) h.sA (by omega)) zA rfl
  have l6 := e__law_sum (I := List.range n) (f := fun k => A k k) (N := 2) (fun k hk => h.sA k k (List.mem_range.mp hk) (List.mem_range.mp hk)) (by rw [List.length_range]; omega) (some s)
  have n6 := ne_self (cl_qD (sumL (List.range n) fun k => A k k)) (ok_qD _)
  walk_at "ev"
  with_reducible refine lcw_all (fun i : Nat => .int (i : Int)) (fun i => rowL (List.range n) fun j => A j i) (List.range n) rfl (len_ok hl) (by walk_at "wipe") (fun i hi => ?_) ?_
  · have hi := List.mem_range.mp hi
    walk_at "ev"
    with_reducible refine lcw_all (fun j => rowL (List.range n) (A j)) (fun j => qD (A j i)) (List.range n) rfl (len_ok hl) (by walk_at "wipe") (fun j hj => ?_) ?_
    · walk_at "ev"
      rfl
    · walk_at "ev"
      rfl
  · walk_at "ev"
    with_reducible refine lcw_all (fun i : Nat => .int (i : Int)) (fun k => qD (A k k)) (List.range n) rfl (len_ok hl) (by walk_at "wipe") (fun i hi => ?_) ?_
    · have hi := List.mem_range.mp hi
      walk_at "ev"
      rfl
    · walk_at "ev"
      rfl
theorem s11 {c : Nat} (g : Good c s) (hc : c ≤ 1000) : SW (L11 (sL n A B r x4 x5 x6 x7 x8 x9 x10 x11 x12 x13 x14 x17 x18 x19) (some s)) (SQ noU fun ρ d => ∃ (m : Nat) (s' : Dw), m ≤ 5 ∧ Good (c + 1) s' ∧ d = some s' ∧ ρ = sL n A B r x4 x5 x6 x7 x8 x9 x10 x11 x12 x13 x14 x17 (some (.int (m : Int))) (some (Tt n idQ))) := by
  unfold L11
  have h4 := h.h4
  walk_at "ev"
  with_reducible refine w_take (m := 6) g (by omega) (by omega) (by omega) (by omega) (fun m s1 hm g1 => ?_)
  have u := e__law_unit (n := n) (by omega) (some s1)
  walk_at "ev"
  exact ⟨m, s1, by omega, g1, rfl, rfl⟩
theorem pw_sm {k : Nat} (hk : k ≤ 4) : ∀ i j, i < n → j < n → Sm 1361 (pwM n A k i j) := by
  have h4 := h.h4
  have b0 : ∀ i j, i < n → j < n → Sm 1 (pwM n A 0 i j) := fun i j _ _ => by
    show Sm 1 (idQ i j)
    unfold idQ
    split
    · exact sm1
    · exact sm0
  have b1 := sm_pwM h.sA 0 1 b0
  have b1 : ∀ i j, i < n → j < n → Sm 17 (pwM n A 1 i j) := fun i j hi hj => (b1 i j hi hj).mono (by omega)
  have b2 := sm_pwM h.sA 1 17 b1
  have b2 : ∀ i j, i < n → j < n → Sm 81 (pwM n A 2 i j) := fun i j hi hj => (b2 i j hi hj).mono (by omega)
  have b3 := sm_pwM h.sA 2 81 b2
  have b3 : ∀ i j, i < n → j < n → Sm 337 (pwM n A 3 i j) := fun i j hi hj => (b3 i j hi hj).mono (by omega)
  have b4 := sm_pwM h.sA 3 337 b3
  have b4 : ∀ i j, i < n → j < n → Sm 1361 (pwM n A 4 i j) := fun i j hi hj => (b4 i j hi hj).mono (by omega)
  intro i j hi hj
  have : k = 0 ∨ k = 1 ∨ k = 2 ∨ k = 3 ∨ k = 4 := by omega
  rcases this with rfl | rfl | rfl | rfl | rfl
  · exact (b0 i j hi hj).mono (by omega)
  · exact (b1 i j hi hj).mono (by omega)
  · exact (b2 i j hi hj).mono (by omega)
  · exact (b3 i j hi hj).mono (by omega)
  · exact b4 i j hi hj
theorem s12 {m : Nat} (hm : m ≤ 5) : SW (L12 (sL n A B r x4 x5 x6 x7 x8 x9 x10 x11 x12 x13 x14 x17 (some (.int (m : Int))) (some (Tt n idQ))) (some s)) (SQ noU fun ρ d => d = some s ∧ ∃ x7, ρ = sL n A B r x4 x5 x6 x7 x8 x9 x10 x11 x12 x13 x14 x17 (some (.int (m : Int))) (some (Tt n (pwM n A m)))) := by
  unfold L12
  have h4 := h.h4
  with_reducible refine sw_for (fun k : Nat => .int (k : Int)) (List.range m) (fun zs ρ d => d = some s ∧ ∃ ws x7, List.range m = ws ++ zs ∧ ρ = sL n A B r x4 x5 x6 x7 x8 x9 x10 x11 x12 x13 x14 x17 (some (.int (m : Int))) (some (Tt n (pwM n A ws.length)))) ?_ ?_ ?_
  · walk_at "ev"
    exact ⟨[], x7, rfl, rfl⟩
  · rintro y zs ρ d ⟨rfl, ws, y7, hw, rfl⟩
    have hl := rng_split hw
    have p := e__law_times_rows (by omega) h.sA (pw_sm h (k := ws.length) (by omega)) (by omega) (some s)
    walk_at "ev"
    exact ⟨ws ++ [y], _, by rw [hw, List.append_assoc]; rfl, by rw [List.length_append]; rfl⟩
  · rintro ρ d ⟨rfl, ws, y7, hw, rfl⟩
    rw [List.append_nil] at hw
    rw [← hw, List.length_range]
    exact ⟨rfl, y7, rfl⟩
theorem b24 : bN 2 n ≤ 700 := Nat.le_trans (bN_le h.h4) (by decide)
theorem s13 {m : Nat} (hm : m ≤ 5) : SW (L13 (sL n A B r x4 x5 x6 x7 x8 x9 x10 x11 x12 x13 x14 x17 (some (.int (m : Int))) (some (Tt n (pwM n A m)))) (some s)) (SQ noU fun ρ d => d = some s ∧ ρ = sL n A B r x4 x5 x6 x7 x8 x9 x10 x11 x12 x13 x14 x17 (some (.int (m : Int))) (some (Tt n (pwM n A m)))) := by
  unfold L13
  have h0 := h.h0
  have h4 := h.h4
  have b24 := b24 h
  have zA := fz_tab (List.range n) (List.range n) A
  have zr := fz_row (List.range n) r
  have a4 := ask_power_tables (e_power_tables h0 h4 (some s) (m := m) (by omega) h.sA (fun k hk => pw_sm h (k := k) (by omega)) (by omega)) zA rfl fz_int rfl
  have n4 := nsT h (pwM n A m)
  have a13 := ask_unit (e_unit (n := n) h0 h4 (some s)) fz_int rfl
  have l13 := e__law_unit (n := n) (by omega) (some s)
  have n13 := nsT h idQ
  have a7 := ask_rank (e_rank h0 h4 h.sA (by omega) (some s)) zA rfl
  have l7 := e__law_rank h0 h4 h.zA h.sA (by omega) (some s)
  have a9 := ask_greatest (e_greatest h0 h4 (some s) h.sr (by omega)) zr rfl
  have l9 := e__law_size h0 h.sr (by omega) (by omega) (some s)
  have n9 := ne_self (cl_qD (mxR ((List.range n).map fun k => (r k).abs) 0)) (ok_qD _)
  walk_at "ev"
  with_reducible refine ifw_b (fun _ => ?_) (fun h => absurd rfl h)
  walk_at "ev"
  rfl
end
/-! M02h -/
set_option pp.maxSteps 400
section
variable {n : Nat} {A B : Mq} {r : Nat → Rat} (h : Lw n A B r) {x4 x5 x6 x7 x8 x9 x10 x11 x12 x13 x14 x17 x18 x19 : Option D} {s : Dw}
include h
/-- what undoing tells -/
def UnD (n : Nat) (A : Mq) (d : D) : Prop := ((heads (RowsOf n A) n).length = n ∧ ∃ V, Und n A V ∧ d = Tt n V) ∨ ((heads (RowsOf n A) n).length ≠ n ∧ d = .non)
theorem und_cl {d : D} (u : UnD n A d) : d.fz = d ∧ d.frz = true := by
  rcases u with ⟨_, V, _, rfl⟩ | ⟨_, rfl⟩
  · exact ⟨fz_tab _ _ _, rfl⟩
  · exact ⟨rfl, rfl⟩
theorem s14 : SW (L14 (sL n A B r x4 x5 x6 x7 x8 x9 x10 x11 x12 x13 x14 x17 x18 x19) (some s)) (SQ noU fun ρ d => ∃ u, UnD n A u ∧ d = some s ∧ ρ = sL n A B r x4 x5 x6 x7 (some u) x9 x10 x11 x12 x13 x14 x17 x18 x19) := by
  unfold L14
  have h4 := h.h4
  have zA := fz_tab (List.range n) (List.range n) A
  have key := e_back h.h0 h4 h.zA h.sA (b24 h) (by omega) (some s)
  obtain ⟨u, e, hu⟩ := key
  have hu : UnD n A u := hu
  have z := und_cl h hu
  have zu := z.1
  have yu := z.2
  have a8 := ask_back e zA rfl
  clear e
  walk_at "ev"
  exact ⟨u, hu, rfl, rfl⟩
theorem s15 {u : D} (hu : UnD n A u) : SW (L15 (sL n A B r x4 x5 x6 x7 (some u) x9 x10 x11 x12 x13 x14 x17 x18 x19) (some s)) (SQ noU fun ρ d => d = some s ∧ ρ = sL n A B r x4 x5 x6 x7 (some u) x9 x10 x11 x12 x13 x14 x17 x18 x19) := by
  unfold L15
  have h4 := h.h4
  have zA := fz_tab (List.range n) (List.range n) A
  have lu := e__law_undone h.h0 h4 h.zA h.sA (Nat.le_trans (b24 h) (by decide)) (some s)
  have lu1 := e__law_unit (n := n) (by omega) (some s)
  rcases hu with ⟨e, V, hV, rfl⟩ | ⟨e, rfl⟩
  · rw [decide_eq_true e] at lu
    have i1 : gIsN false (Tt n V) .non = some (.bl false) := rfl
    have i2 : gIsN true (Tt n V) .non = some (.bl true) := rfl
    have q1 : gEq (.bl false) (.bl true) = some (.bl false) := rfl
    have zV := fz_tab (List.range n) (List.range n) V
    have t := e__law_times_rows (by omega) h.sA hV.sm (by omega) (some s)
    have tc : Tt n (mulQ n A V) = Tt n idQ := tab_congr fun i hi j hj => hV.eq i j (List.mem_range.mp hi) (List.mem_range.mp hj)
    rw [tc] at t
    have n1 := nsT h idQ
    have l := tab_law (n := n) (by omega) (by decide) hV.sm (some s)
    walk_at "ev"
    rfl
  · rw [decide_eq_false e] at lu
    have i1 : gIsN false .non .non = some (.bl true) := rfl
    have i2 : gIsN true .non .non = some (.bl false) := rfl
    have q1 : gEq (.bl true) (.bl false) = some (.bl false) := rfl
    walk_at "ev"
    rfl
theorem s16 : SW (L16 (sL n A B r x4 x5 x6 x7 x8 x9 x10 x11 x12 x13 x14 x17 x18 x19) (some s)) (SQ noU fun ρ d => d = some s ∧ ρ = sL n A B r x4 x5 x6 x7 x8 (some (.lst false [])) x10 x11 x12 x13 x14 x17 x18 x19) := by
  unfold L16
  walk_at "ev"
  rfl
abbrev flt (n : Nat) (ws : List Nat) : List (Nat × Nat) := ws.flatMap fun i => (List.range n).map fun j => (i, j)
abbrev fltD (A : Mq) (l : List (Nat × Nat)) : D := .lst false (l.map fun p => qD (A p.1 p.2))
theorem flt_len (ws : List Nat) : (flt n ws).length = ws.length * n := by
  unfold flt
  induction ws with
  | nil => simp
  | cons x ws ih => rw [List.flatMap_cons, List.length_append, ih, List.length_map, List.length_range, List.length_cons, Nat.add_mul]; omega
theorem flt_snoc (ws : List Nat) (i : Nat) : (flt n ws).map (fun p => qD (A p.1 p.2)) ++ (List.range n).map (fun j => qD (A i j)) = (flt n (ws ++ [i])).map fun p => qD (A p.1 p.2) := by
  unfold flt
  rw [List.flatMap_append, List.map_append]
  congr 1
  rw [List.flatMap_cons, List.flatMap_nil, List.append_nil, List.map_map]
  rfl
theorem s17 : SW (L17 (sL n A B r x4 x5 x6 x7 x8 (some (.lst false [])) x10 x11 x12 x13 x14 x17 x18 x19) (some s)) (SQ noU fun ρ d => d = some s ∧ ∃ x10, ρ = sL n A B r x4 x5 x6 x7 x8 (some (fltD A (flt n (List.range n)))) x10 x11 x12 x13 x14 x17 x18 x19) := by
  unfold L17
  have h4 := h.h4
  with_reducible refine sw_for (fun i => rowL (List.range n) (A i)) (List.range n) (fun zs ρ d => d = some s ∧ ∃ ws x10, List.range n = ws ++ zs ∧ ρ = sL n A B r x4 x5 x6 x7 x8 (some (fltD A (flt n ws))) x10 x11 x12 x13 x14 x17 x18 x19) ?_ ?_ ?_
  · walk_at "ev"
    exact ⟨[], x10, rfl, rfl⟩
  · rintro i zs ρ d ⟨rfl, ws, y10, hw, rfl⟩
    have hl := rng_split hw
    have gl : gList [rowL (List.range n) (A i)] = some (.lst true ((List.range n).map fun j => qD (A i j))) := rfl
    have fl := flt_len h ws
    have hm : ws.length * n ≤ 4 * 4 := Nat.mul_le_mul (by omega) h4
    have ad := add_lists false true ((flt n ws).map fun p => qD (A p.1 p.2)) ((List.range n).map fun j => qD (A i j)) (by rw [List.length_map, List.length_map, List.length_range, fl]; omega) (all_frz _ _ fun _ => rfl) (all_frz _ _ fun _ => rfl)
    rw [flt_snoc h] at ad
    walk_at "ev"
    exact ⟨ws ++ [i], _, by rw [hw, List.append_assoc]; rfl, rfl⟩
  · rintro ρ d ⟨rfl, ws, y10, hw, rfl⟩
    rw [List.append_nil] at hw
    rw [hw]
    exact ⟨rfl, y10, rfl⟩
theorem flt_all (f : Rat → Bool) : (flt n (List.range n)).all (fun p => f (A p.1 p.2)) = !((List.range n).any fun i => (List.range n).any fun j => !f (A i j)) := by
  rw [Bool.eq_iff_iff, List.all_eq_true]
  simp only [Bool.not_eq_true', List.any_eq_false, List.mem_flatMap, List.mem_map, List.mem_range]
  constructor
  · intro k i hi
    simp only [Bool.not_eq_true, List.any_eq_false, List.mem_range]
    intro j hj
    have := k (i, j) ⟨i, hi, j, hj, rfl⟩
    simp [this]
  · rintro k p ⟨i, hi, j, hj, rfl⟩
    have := k i hi
    simp only [Bool.not_eq_true, List.any_eq_false, List.mem_range] at this
    have := this j hj
    simpa using this
theorem s18 : SW (L18 (sL n A B r x4 x5 x6 x7 x8 (some (fltD A (flt n (List.range n)))) x10 x11 x12 x13 x14 x17 x18 x19) (some s)) (SQ noU fun ρ d => d = some s ∧ ρ = sL n A B r x4 x5 x6 x7 x8 (some (fltD A (flt n (List.range n)))) x10 x11 x12 x13 x14 x17 x18 x19) := by
  unfold L18
  have h4 := h.h4
  have zA := fz_tab (List.range n) (List.range n) A
  have hm : n * n ≤ 4 * 4 := Nat.mul_le_mul h4 h4
  have fl := flt_len h (List.range n)
  rw [List.length_range] at fl
  have a10 := ask_is_nought (e_is_nought (A := A) h.h0 h4 (some s)) zA rfl
  have a11 := ask_has_no_minus (e_has_no_minus (A := A) h.h0 h4 (some s)) zA rfl
  rw [← flt_all h fun q => q.num == 0] at a10
  have e11 : (!(List.range n).any fun i => (List.range n).any fun j => decide ((A i j).num < 0)) = (flt n (List.range n)).all (fun p => decide ((A p.1 p.2).num ≥ 0)) := by
    rw [flt_all h fun q => decide (q.num ≥ 0)]
    congr 2
    funext i
    congr 1
    funext j
    rcases Int.lt_or_le (A i j).num 0 with c | c
    · rw [decide_eq_true c, decide_eq_false (by omega)]; rfl
    · rw [decide_eq_false (by omega), decide_eq_true c]; rfl
  rw [e11] at a11
  have y10 : ∀ b : Bool, f__law_says [.bl b, .bl b] (some s) = .ok (.bl true) (some s) := fun b => by rw [e_says, beq_self_eq_true]
  have y1 := y10 ((flt n (List.range n)).all fun p => (A p.1 p.2).num == 0)
  have y2 := y10 ((flt n (List.range n)).all fun p => decide ((A p.1 p.2).num ≥ 0))
  have zf : D.fzs ((flt n (List.range n)).map fun p => qD (A p.1 p.2)) = (flt n (List.range n)).map fun p => qD (A p.1 p.2) := fzs_frz _ _ fun _ => rfl
  walk_at "ev"
  with_reducible refine lcw_all (fun p : Nat × Nat => qD (A p.1 p.2)) (fun p => .bl ((A p.1 p.2).num == 0)) (flt n (List.range n)) rfl (len_ok (by rw [fl]; omega)) (by walk_at "wipe") (fun p hp => ?_) ?_
  · walk_at "ev"
    rfl
  walk_at "ev"
  with_reducible refine lcw_all (fun p : Nat × Nat => qD (A p.1 p.2)) (fun p => .bl (decide ((A p.1 p.2).num ≥ 0))) (flt n (List.range n)) rfl (len_ok (by rw [fl]; omega)) (by walk_at "wipe") (fun p hp => ?_) ?_
  · walk_at "ev"
    rfl
  walk_at "ev"
  rfl
end
/-! M02i -/
set_option pp.maxSteps 400
/-! a table of one number, to the power of 64 -/
def twoT : Mq := fun _ _ => 2
theorem two_tab : (D.tup [.tup [.tup [.int 2, .int 1]]]) = Tt 1 twoT := by kernel_rfl
theorem pw_two : ∀ k, pwM 1 twoT k 0 0 = ((2 ^ k : Nat) : Rat)
  | 0 => by
    show idQ 0 0 = _
    unfold idQ
    rw [if_pos rfl]; rfl
  | k + 1 => by
    show mulQ 1 twoT (pwM 1 twoT k) 0 0 = _
    show sumL (List.range 1) (fun l => twoT 0 l * pwM 1 twoT k l 0) = _
    rw [show List.range 1 = [0] from rfl, sumL_cons, sumL_nil, pw_two k, Rat.add_zero, Nat.pow_succ, Nat.mul_comm, Rat.natCast_mul]
    rfl
theorem two_sm : ∀ k, k < 64 → ∀ i j, i < 1 → j < 1 → Sm 64 (pwM 1 twoT k i j) := fun k hk i j hi hj => by
  have : i = 0 := by omega
  subst this
  have : j = 0 := by omega
  subst this
  rw [pw_two]
  have lt : 2 ^ k < 2 ^ 64 := Nat.pow_lt_pow_right (by decide) hk
  refine ⟨?_, ?_⟩
  · rw [Rat.num_natCast]; rw [Int.natAbs_natCast]; exact lt
  · rw [Rat.den_natCast]; decide
theorem two_64 : Tt 1 (pwM 1 twoT 64) = .tup [.tup [.tup [.int 18446744073709551616, .int 1]]] := by
  show D.tup [.tup [qD (pwM 1 twoT 64 0 0)]] = _
  rw [pw_two]
  kernel_rfl
section
variable {n : Nat} {A B : Mq} {r : Nat → Rat} (h : Lw n A B r) {x4 x5 x6 x7 x8 x9 x10 x11 x12 x13 x14 x17 x18 x19 : Option D} {s : Dw}
include h
theorem s19 {c : Nat} (g : Good c s) (hc : c ≤ 1000) : SW (L19 (sL n A B r x4 x5 x6 x7 x8 x9 x10 x11 x12 x13 x14 x17 x18 x19) (some s)) (SQ noU fun ρ d => ∃ m C s', 0 < m ∧ m ≤ 3 ∧ Good (c + 17) s' ∧ d = some s' ∧ ρ = sL n A B r x4 x5 x6 x7 x8 x9 x10 (some (Tt m C)) x12 x13 x14 x17 x18 x19) := by
  unfold L19
  walk_at "ev"
  with_reducible refine w_take (m := 3) g (by omega) (by omega) (by omega) (by omega) (fun t s1 ht g1 => ?_)
  walk_at "ev"
  rw [show (1 : Int) + (t : Int) = ((t + 1 : Nat) : Int) from by omega]
  with_reducible refine w_table g1 (by omega) (by omega) (fun C s2 hC g2 => ?_)
  walk_at "ev"
  exact ⟨t + 1, C, s2, by omega, by omega, g2, rfl, rfl⟩
theorem s20 {m : Nat} {C : Mq} (m3 : m ≤ 3) : SW (L20 (sL n A B r x4 x5 x6 x7 x8 x9 x10 (some (Tt m C)) x12 x13 x14 x17 x18 x19) (some s)) (SQ noU fun ρ d => d = some s ∧ ρ = sL n A B r x4 x5 x6 x7 x8 x9 x10 (some (Tt m C)) (some (.tup (crn n m A C))) x13 x14 x17 x18 x19) := by
  unfold L20
  have h4 := h.h4
  have z1 := zs_mul (m := m) (by omega)
  have z2 := zs_mul (m := n) (by omega)
  have lz : ∀ k, (zs k).length = k := fun k => List.length_replicate
  walk_at "ev"
  with_reducible refine lcw_all (fun i => rowL (List.range n) (A i)) (fun i => .tup ((List.range n).map (fun j => qD (A i j)) ++ zs m)) (List.range n) rfl (by walk_at "small") (by walk_at "wipe") (fun i hi => ?_) ?_
  · have a : gAdd (rowL (List.range n) (A i)) (.tup (zs m)) = some (.tup ((List.range n).map (fun j => qD (A i j)) ++ zs m)) := add_tups _ _ (by rw [List.length_map, List.length_range, lz]; omega)
    walk_at "ev"
    rfl
  · walk_at "ev"
    with_reducible refine lcw_all (fun i => rowL (List.range m) (C i)) (fun i => .tup (zs n ++ (List.range m).map (fun j => qD (C i j)))) (List.range m) rfl (by walk_at "small") (by walk_at "wipe") (fun i hi => ?_) ?_
    · have a : gAdd (.tup (zs n)) (rowL (List.range m) (C i)) = some (.tup (zs n ++ (List.range m).map (fun j => qD (C i j)))) := add_tups _ _ (by rw [List.length_map, List.length_range, lz]; omega)
      walk_at "ev"
      rfl
    · have a : gAdd (.lst true ((List.range n).map fun i => .tup ((List.range n).map (fun j => qD (A i j)) ++ zs m))) (.lst true ((List.range m).map fun i => .tup (zs n ++ (List.range m).map (fun j => qD (C i j))))) = some (.lst true (crn n m A C)) := add_lists _ _ _ _ (by rw [List.length_map, List.length_range, List.length_map, List.length_range]; omega) (all_frz _ _ fun _ => rfl) (all_frz _ _ fun _ => rfl)
      have t : gTuple [.lst true (crn n m A C)] = some (.tup (crn n m A C)) := by
        show (if (crn n m A C).all D.frz then some (D.tup (crn n m A C)) else none) = _
        rw [show (crn n m A C).all D.frz = true from by
          unfold crn
          rw [List.all_append, all_frz _ _ fun _ => rfl, all_frz _ _ fun _ => rfl]
          rfl]
        rfl
      walk_at "ev"
      rfl
theorem crn_ok {m : Nat} {C : Mq} : (D.tup (crn n m A C)).cl = true ∧ (D.tup (crn n m A C)).ok = true := by
  have hz : ∀ k, ∀ x ∈ zs k, x = .tup [.int 0, .int 1] := fun k x hx => List.eq_of_mem_replicate hx
  have key : ∀ y ∈ crn n m A C, y.cl = true ∧ y.pl = true ∧ y.dep ≤ 2 := fun y hy => by
    unfold crn at hy
    have row : ∀ ys : List D, (∀ x ∈ ys, x.cl = true ∧ x.pl = true ∧ x.dep ≤ 1) → (D.tup ys).cl = true ∧ (D.tup ys).pl = true ∧ (D.tup ys).dep ≤ 2 := fun ys k => ⟨cls_of fun x hx => (k x hx).1, pls_of fun x hx => (k x hx).2.1, Nat.succ_le_succ (deps_of fun x hx => (k x hx).2.2)⟩
    rcases List.mem_append.mp hy with hy | hy
    · obtain ⟨i, _, rfl⟩ := List.mem_map.mp hy
      refine row _ fun x hx => ?_
      rcases List.mem_append.mp hx with hx | hx
      · obtain ⟨j, _, rfl⟩ := List.mem_map.mp hx
        exact ⟨rfl, rfl, Nat.le_refl _⟩
      · rw [hz _ x hx]; exact ⟨rfl, rfl, Nat.le_refl _⟩
    · obtain ⟨i, _, rfl⟩ := List.mem_map.mp hy
      refine row _ fun x hx => ?_
      rcases List.mem_append.mp hx with hx | hx
      · rw [hz _ x hx]; exact ⟨rfl, rfl, Nat.le_refl _⟩
      · obtain ⟨j, _, rfl⟩ := List.mem_map.mp hx
        exact ⟨rfl, rfl, Nat.le_refl _⟩
  exact ⟨cls_of fun x hx => (key x hx).1, ok_of (pls_of fun x hx => (key x hx).2.1) (Nat.le_trans (Nat.succ_le_succ (deps_of fun x hx => (key x hx).2.2)) (by decide))⟩
theorem s21 {m : Nat} {C : Mq} (m0 : 0 < m) (m3 : m ≤ 3) : SW (L21 (sL n A B r x4 x5 x6 x7 x8 x9 x10 (some (Tt m C)) (some (.tup (crn n m A C))) x13 x14 x17 x18 x19) (some s)) (SQ noU fun ρ d => d = some s ∧ ρ = sL n A B r x4 x5 x6 x7 x8 x9 x10 (some (Tt m C)) (some (.tup (crn n m A C))) x13 x14 x17 x18 x19) := by
  unfold L21
  have h4 := h.h4
  have zA := fz_tab (List.range n) (List.range n) A
  have zC := fz_tab (List.range m) (List.range m) C
  have ck := crn_ok h (m := m) (C := C)
  have n1 := ne_self ck.1 ck.2
  have n2 : gNe bd bd = some (.bl false) := by kernel_rfl
  by_cases hm : n + m ≤ 4
  · have a := ask_slanted (e_slanted (A := A) (B := C) h.h0 h4 m0 (by omega) hm (some s)) zA rfl zC rfl
    walk_at "ev"
    with_reducible refine ifw_d (fun _ => ?_) (fun q => absurd (by omega) q)
    walk_at "ev"
    rfl
  · have a := bad_slanted (x_slanted_l (A := A) (B := C) h.h0 h4 (some s) m0 (by omega) (by omega)) zA rfl zC rfl
    walk_at "ev"
    with_reducible refine ifw_d (fun q => absurd q (by omega)) (fun q => ?_)
    walk_at "ev"
    rfl
theorem s22 : SW (L22 (sL n A B r x4 x5 x6 x7 x8 x9 x10 x11 x12 x13 x14 x17 x18 x19) (some s)) (SQ noU fun ρ d => d = some s ∧ ρ = sL n A B r x4 x5 x6 x7 x8 x9 x10 x11 x12 (some (.tup [.tup [.int 2, .int 1]])) x14 x17 x18 x19) := by
  unfold L22
  walk_at "ev"
  rfl
theorem s23 : SW (L23 (sL n A B r x4 x5 x6 x7 x8 x9 x10 x11 x12 (some (.tup [.tup [.int 2, .int 1]])) x14 x17 x18 x19) (some s)) (SQ noU fun ρ d => d = some s ∧ ρ = sL n A B r x4 x5 x6 x7 x8 x9 x10 x11 x12 (some (.tup [.tup [.int 2, .int 1]])) x14 x17 x18 x19) := by
  unfold L23
  have sm2 : ∀ i j, i < 1 → j < 1 → Sm 2 (twoT i j) := fun i j _ _ => (divInt_sm (n := 2) (d := 1) (N := 2) (by decide) (by decide) (by decide) : Sm 2 (Rat.divInt 2 1))
  have a1 := ask_power_tables (e_power_tables (n := 1) (A := twoT) (by decide) (by decide) (some s) (m := 64) (by decide) sm2 two_sm (by decide)) (fz_tab _ _ _) rfl fz_int rfl
  rw [two_64, ← two_tab] at a1
  have a1 : f__law_ask [.int 4, .tup [.tup [.tup [.tup [.int 2, .int 1]]], .int 64]] (some s) = .ok (.tup [.tup [.tup [.int 18446744073709551616, .int 1]]]) (some s) := a1
  have a2 := bad_power_tables (x_power (n := 1) (A := twoT) (by decide) (by decide) (some s) (m := 65) (.inr (by decide))) (fz_tab _ _ _) rfl fz_int rfl
  rw [← two_tab] at a2
  have n1 : gNe (.tup [.tup [.tup [.int 18446744073709551616, .int 1]]]) (.tup [.tup [.tup [.int 18446744073709551616, .int 1]]]) = some (.bl false) := ne_self rfl rfl
  have n2 : gNe bd bd = some (.bl false) := by kernel_rfl
  walk_at "ev"
  rfl
end
/-! M02j -/
set_option pp.maxSteps 400
abbrev rowI (n : Nat) (r : Nat → Rat) : List D := (List.range n).map fun j => qD (r j)
abbrev ooD (n : Nat) (A : Mq) : D := .tup (rwsT n A ++ rwsT n A)
abbrev rrD (n : Nat) (r : Nat → Rat) : D := .tup (rowI n r ++ rowI n r)
abbrev r5D (n : Nat) (r : Nat → Rat) : D := .tup (List.replicate (5 : Int).toNat (rowI n r)).flatten
abbrev prD (y : Int × D) : D := .tup [.int y.1, y.2]
abbrev bs1 (n : Nat) (A : Mq) (r : Nat → Rat) : List (Int × D) := [(0, .tup [Tt n A, ooD n A]), (0, .tup [Tt n A, .non]), (1, .tup [Tt n A, .tup [.tup [Rw n r]]]), (2, .tup [Tt n A, .int 2]), (2, .tup [Tt n A, .tup [.int 2, .int 4]]), (4, .tup [Tt n A, .int (0 - 1)]), (4, .tup [Tt n A, .bl true])]
abbrev bs2 (n : Nat) (A : Mq) (r : Nat → Rat) : List (Int × D) := [(5, .tup [Tt n A, rrD n r]), (5, .tup [Tt n A, .non]), (9, .tup [.tup []]), (9, .tup [r5D n r]), (9, .tup [.non])]
abbrev bs3 (n : Nat) (A : Mq) : List (Int × D) := [(13, .tup [.int 0]), (13, .tup [.int 5]), (13, .tup [.bl true]), (12, .tup [Tt n A, .non])]
def bads (n : Nat) (A : Mq) (r : Nat → Rat) : List (Int × D) := bs1 n A r ++ bs2 n A r ++ bs3 n A
section
variable {n : Nat} {A B : Mq} {r : Nat → Rat} (h : Lw n A B r) {x4 x5 x6 x7 x8 x9 x10 x11 x12 x13 x14 x17 x18 x19 : Option D} {s : Dw}
include h
theorem s24 : SW (L24 (sL n A B r x4 x5 x6 x7 x8 x9 x10 x11 x12 x13 x14 x17 x18 x19) (some s)) (SQ noU fun ρ d => d = some s ∧ ρ = sL n A B r x4 x5 x6 x7 x8 x9 x10 x11 x12 x13 (some (.lst false ((bs1 n A r).map prD))) x17 x18 x19) := by
  unfold L24
  have h4 := h.h4
  have ad : gAdd (Tt n A) (Tt n A) = some (ooD n A) := add_tups _ _ (by rw [List.length_map, List.length_range]; omega)
  walk_at "ev"
  rfl
theorem s25 : SW (L25 (sL n A B r x4 x5 x6 x7 x8 x9 x10 x11 x12 x13 (some (.lst false ((bs1 n A r).map prD))) x17 x18 x19) (some s)) (SQ noU fun ρ d => d = some s ∧ ρ = sL n A B r x4 x5 x6 x7 x8 x9 x10 x11 x12 x13 (some (.lst false ((bs1 n A r ++ bs2 n A r).map prD))) x17 x18 x19) := by
  unfold L25
  have h4 := h.h4
  have ad : gAdd (Rw n r) (Rw n r) = some (rrD n r) := add_tups _ _ (by rw [List.length_map, List.length_range]; omega)
  have mu : gMul (Rw n r) (.int 5) = some (r5D n r) := by
    show (if decide (-(2 ^ 63) ≤ (5 : Int)) && decide ((5 : Int) ≤ 1000) && decide ((rowI n r).length ≤ 1000) then some (D.tup (List.replicate (5 : Int).toNat (rowI n r)).flatten) else none) = _
    rw [if_pos]
    rw [List.length_map, List.length_range, decide_eq_true (show n ≤ 1000 by omega)]
    rfl
  have ad2 : gAdd (.lst false ((bs1 n A r).map prD)) (.lst true [prD (5, .tup [Tt n A, rrD n r]), prD (5, .tup [Tt n A, .non]), prD (9, .tup [.tup []]), prD (9, .tup [r5D n r]), prD (9, .tup [.non])]) = some (.lst true ((bs1 n A r ++ bs2 n A r).map prD)) := add_lists false true _ _ (by simp) (all_frz _ _ fun _ => rfl) rfl
  have zf : (D.lst true ((bs1 n A r ++ bs2 n A r).map prD)).fz = .lst false ((bs1 n A r ++ bs2 n A r).map prD) := fz_lstm fun _ => rfl
  walk_at "ev"
  rfl
theorem s26 : SW (L26 (sL n A B r x4 x5 x6 x7 x8 x9 x10 x11 x12 x13 (some (.lst false ((bs1 n A r ++ bs2 n A r).map prD))) x17 x18 x19) (some s)) (SQ noU fun ρ d => d = some s ∧ ρ = sL n A B r x4 x5 x6 x7 x8 x9 x10 x11 x12 x13 (some (.lst false ((bads n A r).map prD))) x17 x18 x19) := by
  unfold L26
  have h4 := h.h4
  have ad2 : gAdd (.lst false ((bs1 n A r ++ bs2 n A r).map prD)) (.lst true [prD (13, .tup [.int 0]), prD (13, .tup [.int 5]), prD (13, .tup [.bl true]), prD (12, .tup [Tt n A, .non])]) = some (.lst true ((bads n A r).map prD)) := add_lists false true _ _ (by simp) (all_frz _ _ fun _ => rfl) rfl
  have zf : (D.lst true ((bads n A r).map prD)).fz = .lst false ((bads n A r).map prD) := fz_lstm fun _ => rfl
  walk_at "ev"
  rfl
theorem isTab_bad {xs : List D} {x : D} (hx : x ∈ xs) (h : isRow xs.length x = false) : isTab (.tup xs) = false := by
  have : xs.all (isRow xs.length) = false := by
    rw [Bool.eq_false_iff]
    intro c
    have := List.all_eq_true.mp c x hx
    rw [h] at this
    exact Bool.noConfusion this
  show (decide (0 < (xs.length : Int)) && decide ((xs.length : Int) ≤ 4) && (((xs.length : Int) == xs.length) && xs.all (isRow xs.length))) = false
  rw [this, Bool.and_false, Bool.and_false]
theorem isRow_len {m : Int} {xs : List D} (k : (xs.length : Int) ≠ m) : isRow m (.tup xs) = false := by
  show (((xs.length : Int) == m) && xs.all D.isQ) = false
  have : ((xs.length : Int) == m) = false := by simpa using k
  rw [this]; rfl
theorem oo_bad : nc 4 (ooD n A) = true ∧ isTab (ooD n A) = false := by
  have h0 := h.h0
  have h4 := h.h4
  have hr : ∀ x ∈ rwsT n A, nc 3 x = true := fun x hx => by
    obtain ⟨i, hi, rfl⟩ := List.mem_map.mp hx
    exact nc_le (by omega) (sh_nc 2 _ (sh_row h4 (by decide) fun k hk => h.sA i k (List.mem_range.mp hi) hk))
  refine ⟨nc_tup_of (by rw [List.length_append, List.length_map, List.length_range]; omega) fun x hx => ?_, ?_⟩
  · rcases List.mem_append.mp hx with k | k <;> exact hr x k
  · refine isTab_bad h (x := rowL (List.range n) (A 0)) (List.mem_append_left _ (List.mem_map.mpr ⟨0, List.mem_range.mpr h0, rfl⟩)) (isRow_len h ?_)
    rw [List.length_append, List.length_map, List.length_map, List.length_range]
    omega
theorem row_nc : nc 2 (Rw n r) = true := sh_nc 2 _ (sh_row h.h4 (by decide) h.sr)
theorem rowI_nc : ∀ x ∈ rowI n r, nc 1 x = true := fun x hx => by
  obtain ⟨i, hi, rfl⟩ := List.mem_map.mp hx
  exact sh_nc 1 _ (sh_q (h.sr i (List.mem_range.mp hi)) (by decide))
theorem rr_nc : nc 2 (rrD n r) = true := nc_tup_of (by rw [List.length_append, List.length_map, List.length_range]; have := h.h4; omega) fun x hx => by
  rcases List.mem_append.mp hx with k | k <;> exact rowI_nc h x k
theorem r5_nc : nc 2 (r5D n r) = true := nc_tup_of (by
  have : (List.replicate (5 : Int).toNat (rowI n r)).flatten.length = 5 * n := by
    show (List.replicate 5 (rowI n r)).flatten.length = 5 * n
    rw [List.length_flatten, List.map_replicate, List.sum_replicate_nat, List.length_map, List.length_range]
  have := h.h4
  omega) fun x hx => by
  obtain ⟨l, hl, hx⟩ := List.mem_flatten.mp hx
  rw [List.eq_of_mem_replicate hl] at hx
  exact rowI_nc h x hx
theorem r5_len : (List.replicate (5 : Int).toNat (rowI n r)).flatten.length = 5 * n := by
  show (List.replicate 5 (rowI n r)).flatten.length = 5 * n
  rw [List.length_flatten, List.map_replicate, List.sum_replicate_nat, List.length_map, List.length_range]
theorem row_notQ : (Rw n r).isQ = false := by
  have h0 := h.h0
  have h4 := h.h4
  have : n = 1 ∨ n = 2 ∨ n = 3 ∨ n = 4 := by omega
  rcases this with rfl | rfl | rfl | rfl <;> rfl
theorem bads_all (dr : Dr) : ∀ y ∈ bads n A r, y.2.cl = true ∧ f__law_ask [.int y.1, y.2] dr = .ok bd dr := fun y hy => by
  have h0 := h.h0
  have h4 := h.h4
  have zA := fz_tab (List.range n) (List.range n) A
  have cA := cl_tab (List.range n) (List.range n) A
  have co := nc_cl (oo_bad h).1
  have crw := nc_cl (row_nc h)
  have crr := nc_cl (rr_nc h)
  have c5 := nc_cl (r5_nc h)
  have pair : ∀ {d e : D}, d.cl = true → e.cl = true → (D.tup [d, e]).cl = true := fun a b => cls_of fun x hx => by
    simp only [List.mem_cons, List.not_mem_nil, or_false] at hx
    rcases hx with rfl | rfl <;> assumption
  have one1 : ∀ {d : D}, d.cl = true → (D.tup [d]).cl = true := fun a => cls_of fun x hx => by
    rw [List.mem_singleton] at hx
    rw [hx]; exact a
  unfold bads at hy
  simp only [List.mem_append, List.mem_cons, List.not_mem_nil, or_false] at hy
  rcases hy with ((rfl | rfl | rfl | rfl | rfl | rfl | rfl) | (rfl | rfl | rfl | rfl | rfl)) | (rfl | rfl | rfl | rfl)
  · exact ⟨pair cA co, bad_product (x_product h0 h4 dr co (nc_wide (oo_bad h).1) (oo_bad h).2) zA rfl (fz_cl _ co) rfl⟩
  · exact ⟨pair cA rfl, bad_product (x_product h0 h4 dr (e := .non) rfl (fun _ z => nomatch z) rfl) zA rfl rfl rfl⟩
  · have n1 : nc 4 (.tup [.tup [Rw n r]]) = true := nc_tup_of (by simp) fun x hx => by
      rw [List.mem_singleton] at hx
      rw [hx]
      exact nc_tup_of (by simp) fun x hx => by
        rw [List.mem_singleton] at hx
        rw [hx]; exact row_nc h
    have t : isTab (.tup [.tup [Rw n r]]) = false := isTab_bad h (x := .tup [Rw n r]) List.mem_cons_self (by
      show (((1 : Nat) : Int) == ((1 : Nat) : Int) && ([Rw n r].all D.isQ)) = false
      rw [show ([Rw n r].all D.isQ) = false from by rw [List.all_cons, row_notQ h]; rfl, Bool.and_false])
    exact ⟨pair cA (nc_cl n1), bad_added (x_added h0 h4 dr (nc_cl n1) (nc_wide n1) t) zA rfl rfl rfl⟩
  · exact ⟨pair cA rfl, bad_scaled (x_scaled h0 h4 dr (e := .int 2) rfl rfl) zA rfl rfl rfl⟩
  · exact ⟨pair cA rfl, bad_scaled (x_scaled h0 h4 dr (e := .tup [.int 2, .int 4]) rfl rfl) zA rfl rfl rfl⟩
  · exact ⟨pair cA rfl, bad_power_tables (x_power h0 h4 dr (m := 0 - 1) (.inl (by decide))) zA rfl rfl rfl⟩
  · exact ⟨pair cA rfl, bad_power_tables (x_power_b h0 h4 dr) zA rfl rfl rfl⟩
  · refine ⟨pair cA crr, bad_led (x_led h0 h4 dr crr ?_ (isRow_len h ?_)) zA rfl (fz_cl _ crr) rfl⟩
    · intro xs hxs
      have e : rowI n r ++ rowI n r = xs := by injection hxs
      rw [← e, List.length_append, List.length_map, List.length_range]
      omega
    · rw [List.length_append, List.length_map, List.length_range]
      omega
  · exact ⟨pair cA rfl, bad_led (x_led h0 h4 dr (e := .non) rfl (fun _ z => nomatch z) rfl) zA rfl rfl rfl⟩
  · exact ⟨rfl, bad_greatest (x_greatest (xs := []) rfl (.inl rfl) dr) rfl rfl⟩
  · exact ⟨one1 c5, bad_greatest (x_greatest c5 (.inr (by rw [r5_len h]; omega)) dr) (fz_cl _ c5) rfl⟩
  · exact ⟨rfl, bad_greatest (x_greatest_n dr) rfl rfl⟩
  · exact ⟨rfl, bad_unit (x_unit_0 dr) rfl rfl⟩
  · exact ⟨rfl, bad_unit (x_unit_5 dr) rfl rfl⟩
  · exact ⟨rfl, bad_unit (x_unit_b dr) rfl rfl⟩
  · exact ⟨pair cA rfl, bad_slanted (x_slanted h0 h4 dr (e := .non) rfl (fun _ z => nomatch z) rfl) zA rfl rfl rfl⟩
def Won (r : SR) : Prop := ∃ dr', r = .rt (.bl true) dr'
theorem s27 {c : Nat} (g : Good c s) (hc : c ≤ 1000) : SW (L27 (sL n A B r x4 x5 x6 x7 x8 x9 x10 x11 x12 x13 (some (.lst false ((bads n A r).map prD))) x17 x18 x19) (some s)) Won := by
  unfold L27
  walk_at "ev"
  with_reducible refine w_numbers g (by omega) (fun s' => ?_)
  have ba := bads_all h (some s')
  have zf : D.fzs ((bads n A r).map prD) = (bads n A r).map prD := fzs_frz _ _ fun _ => rfl
  have q1 : gEq bd bd = some (.bl true) := by kernel_rfl
  walk_at "ev"
  with_reducible refine lcw_all prD (fun _ => .bl true) (bads n A r) rfl (len_ok (show (bads n A r).length ≤ 1000 from Nat.le_of_ble_eq_true rfl)) (by walk_at "wipe") (fun y hy => ?_) ?_
  · have a := ba y hy
    have a2 := a.2
    have z := fz_cl _ a.1
    have f := frz_cl a.1
    walk_at "ev"
    rfl
  walk_at "ev"
  exact ⟨_, rfl⟩
end
theorem law_math {ns : List Int} (hl : ns.length ≤ 63) : ∃ dr', m_law (rho0 27 1) (some (drawOf ns)) = .rt (.bl true) dr' := by
  have g := good_0 hl
  generalize drawOf ns = s0 at g
  show SW (m_law n27 (some s0)) Won
  rw [L_eq]
  with_reducible refine sw_cut _ (s1 g) ?_
  rintro _ _ ⟨n, s1, h0, h4, g1, rfl, rfl⟩
  with_reducible refine sw_cut _ (s2 g1 h4) ?_
  rintro _ _ ⟨A, B, s2, hA, hB, g2, rfl, rfl⟩
  with_reducible refine sw_cut _ (s3 g2 h0 h4 hA) ?_
  rintro _ _ ⟨A, s3, hA, g3, rfl, rfl⟩
  with_reducible refine sw_cut _ (s4 g3 h0 h4 hA hB) ?_
  rintro _ _ ⟨A, r, s4, h, g4, rfl, rfl⟩
  with_reducible refine sw_cut _ (s5 h g4) ?_
  rintro _ _ ⟨s5, g5, rfl, x4, x17, rfl⟩
  with_reducible refine sw_cut _ (s6 h) ?_
  rintro _ _ ⟨rfl, rfl⟩
  with_reducible refine sw_cut _ (s7 h) ?_
  rintro _ _ ⟨rfl, rfl⟩
  with_reducible refine sw_cut _ (s8 h g5 (by omega)) ?_
  rintro _ _ ⟨q, s8, hq, g8, rfl, rfl⟩
  with_reducible refine sw_cut _ (s9 h hq) ?_
  rintro _ _ ⟨rfl, rfl⟩
  with_reducible refine sw_cut _ (s10 h) ?_
  rintro _ _ ⟨rfl, rfl⟩
  with_reducible refine sw_cut _ (s11 h g8 (by omega)) ?_
  rintro _ _ ⟨m, s11, hm, g11, rfl, rfl⟩
  with_reducible refine sw_cut _ (s12 h hm) ?_
  rintro _ _ ⟨rfl, x7, rfl⟩
  with_reducible refine sw_cut _ (s13 h hm) ?_
  rintro _ _ ⟨rfl, rfl⟩
  with_reducible refine sw_cut _ (s14 h) ?_
  rintro _ _ ⟨u, hu, rfl, rfl⟩
  with_reducible refine sw_cut _ (s15 h hu) ?_
  rintro _ _ ⟨rfl, rfl⟩
  with_reducible refine sw_cut _ (s16 h) ?_
  rintro _ _ ⟨rfl, rfl⟩
  with_reducible refine sw_cut _ (s17 h) ?_
  rintro _ _ ⟨rfl, x10, rfl⟩
  with_reducible refine sw_cut _ (s18 h) ?_
  rintro _ _ ⟨rfl, rfl⟩
  with_reducible refine sw_cut _ (s19 h g11 (by omega)) ?_
  rintro _ _ ⟨m2, C, s19, m0, m3, g19, rfl, rfl⟩
  with_reducible refine sw_cut _ (s20 h m3) ?_
  rintro _ _ ⟨rfl, rfl⟩
  with_reducible refine sw_cut _ (s21 h m0 m3) ?_
  rintro _ _ ⟨rfl, rfl⟩
  with_reducible refine sw_cut _ (s22 h) ?_
  rintro _ _ ⟨rfl, rfl⟩
  with_reducible refine sw_cut _ (s23 h) ?_
  rintro _ _ ⟨rfl, rfl⟩
  with_reducible refine sw_cut _ (s24 h) ?_
  rintro _ _ ⟨rfl, rfl⟩
  with_reducible refine sw_cut _ (s25 h) ?_
  rintro _ _ ⟨rfl, rfl⟩
  with_reducible refine sw_cut _ (s26 h) ?_
  rintro _ _ ⟨rfl, rfl⟩
  exact s27 h g19 (by omega)
end K01
/-! Z01 -/
open PySem PySem.W PyProof.Rows
set_option pp.maxSteps 300
set_option maxHeartbeats 0 in
theorem PySem.Challenge.cw_tablesswitched_k01_whole_tables_holds : PySem.Challenge.rw_tablesswitched_k01_whole_tables.Holds := by
  w_on; o_law; k_head; (case hw => w_witness2)
  k_fill
  refine L2.walk_ofB (l := PySem.Challenge.rw_tablesswitched_k01_whole_tables) (n := 63) (k := 12) (x := "script") (CX := fun w => L2.CX PySem.Challenge.rw_tablesswitched_k01_whole_tables.prog w) (sp := fun w => DL.spLaw _ 27 1 K01.m_law) rfl (by decide) rfl ⟨rfl, by decide, by decide⟩ (fun w h Y => PySem.W.kIn_of Y) ?F (fun w H a ns hl hb _ hS => DL.sp_law_of hl hS (K01.law_math hl)) (fun _ _ _ _ _ h => DL.cx_out h)
  case F =>
    intro w mg fa h KX G hmg
    refine' DL.wDef "is_whole" K01.s_is_whole ["value"] KX G ?a6 ?l6 ?c6 ?k6 ?b6 ?z6
    (case a6 => k_is); (case l6 => k_is); (case c6 => k_is); (case k6 => k_is); (case b6 => exact fun _ _ _ _ _ _ us hl => match us, hl with | [_], _ => rfl)
    intro d_is_whole
    refine' DL.wDef "common" K01.s_common ["a", "b"] KX G ?a7 ?l7 ?c7 ?k7 ?b7 ?z7
    (case a7 => k_is); (case l7 => k_is); (case c7 => k_is); (case k7 => k_is); (case b7 => exact fun _ _ _ _ _ _ us hl => match us, hl with | [_, _], _ => rfl)
    intro d_common
    refine' DL.wDef "lowest" K01.s_lowest ["n", "d"] KX G ?a8 ?l8 ?c8 ?k8 ?b8 ?z8
    (case a8 => k_is); (case l8 => k_is); (case c8 => k_is); (case k8 => k_is); (case b8 => exact fun _ _ _ _ _ _ us hl => match us, hl with | [_, _], _ => rfl)
    intro d_lowest
    refine' DL.wDef "ratio" K01.s_ratio ["n", "d"] KX G ?a9 ?l9 ?c9 ?k9 ?b9 ?z9
    (case a9 => k_is); (case l9 => k_is); (case c9 => k_is); (case k9 => k_is); (case b9 => exact fun _ _ _ _ _ _ us hl => match us, hl with | [_, _], _ => rfl)
    intro d_ratio
    refine' DL.wDef "is_ratio" K01.s_is_ratio ["value"] KX G ?a10 ?l10 ?c10 ?k10 ?b10 ?z10
    (case a10 => k_is); (case l10 => k_is); (case c10 => k_is); (case k10 => k_is); (case b10 => exact fun _ _ _ _ _ _ us hl => match us, hl with | [_], _ => rfl)
    intro d_is_ratio
    refine' DL.wDef "plus" K01.s_plus ["a", "b"] KX G ?a11 ?l11 ?c11 ?k11 ?b11 ?z11
    (case a11 => k_is); (case l11 => k_is); (case c11 => k_is); (case k11 => k_is); (case b11 => exact fun _ _ _ _ _ _ us hl => match us, hl with | [_, _], _ => rfl)
    intro d_plus
    refine' DL.wDef "minus" K01.s_minus ["a", "b"] KX G ?a12 ?l12 ?c12 ?k12 ?b12 ?z12
    (case a12 => k_is); (case l12 => k_is); (case c12 => k_is); (case k12 => k_is); (case b12 => exact fun _ _ _ _ _ _ us hl => match us, hl with | [_, _], _ => rfl)
    intro d_minus
    refine' DL.wDef "times" K01.s_times ["a", "b"] KX G ?a13 ?l13 ?c13 ?k13 ?b13 ?z13
    (case a13 => k_is); (case l13 => k_is); (case c13 => k_is); (case k13 => k_is); (case b13 => exact fun _ _ _ _ _ _ us hl => match us, hl with | [_, _], _ => rfl)
    intro d_times
    refine' DL.wDef "over" K01.s_over ["a", "b"] KX G ?a14 ?l14 ?c14 ?k14 ?b14 ?z14
    (case a14 => k_is); (case l14 => k_is); (case c14 => k_is); (case k14 => k_is); (case b14 => exact fun _ _ _ _ _ _ us hl => match us, hl with | [_, _], _ => rfl)
    intro d_over
    refine' DL.wDef "below" K01.s_below ["a", "b"] KX G ?a15 ?l15 ?c15 ?k15 ?b15 ?z15
    (case a15 => k_is); (case l15 => k_is); (case c15 => k_is); (case k15 => k_is); (case b15 => exact fun _ _ _ _ _ _ us hl => match us, hl with | [_, _], _ => rfl)
    intro d_below
    refine' DL.wDef "total" K01.s_total ["items"] KX G ?a16 ?l16 ?c16 ?k16 ?b16 ?z16
    (case a16 => k_is); (case l16 => k_is); (case c16 => k_is); (case k16 => k_is); (case b16 => exact fun _ _ _ _ _ _ us hl => match us, hl with | [_], _ => rfl)
    intro d_total
    refine' DL.wDef "lesser" K01.s_lesser ["a", "b"] KX G ?a17 ?l17 ?c17 ?k17 ?b17 ?z17
    (case a17 => k_is); (case l17 => k_is); (case c17 => k_is); (case k17 => k_is); (case b17 => exact fun _ _ _ _ _ _ us hl => match us, hl with | [_, _], _ => rfl)
    intro d_lesser
    refine' DL.wDef "greater" K01.s_greater ["a", "b"] KX G ?a18 ?l18 ?c18 ?k18 ?b18 ?z18
    (case a18 => k_is); (case l18 => k_is); (case c18 => k_is); (case k18 => k_is); (case b18 => exact fun _ _ _ _ _ _ us hl => match us, hl with | [_, _], _ => rfl)
    intro d_greater
    refine' DL.wDef "ratio_text" K01.s_ratio_text ["a"] KX G ?a19 ?l19 ?c19 ?k19 ?b19 ?z19
    (case a19 => k_is); (case l19 => k_is); (case c19 => k_is); (case k19 => k_is); (case b19 => exact fun _ _ _ _ _ _ us hl => match us, hl with | [_], _ => rfl)
    intro d_ratio_text
    refine' DL.wDefA "power_ratios" "power" K01.s_power_ratios ["a", "many"] KX G ?a20 ?l20 ?c20 ?k20 ?b20 ?z20
    (case a20 => k_is); (case l20 => k_is); (case c20 => k_is); (case k20 => k_is); (case b20 => exact fun _ _ _ _ _ _ us hl => match us, hl with | [_, _], _ => rfl)
    intro d_power_ratios
    refine' DL.wDef "apart_by" K01.s_apart_by ["a", "b"] KX G ?a21 ?l21 ?c21 ?k21 ?b21 ?z21
    (case a21 => k_is); (case l21 => k_is); (case c21 => k_is); (case k21 => k_is); (case b21 => exact fun _ _ _ _ _ _ us hl => match us, hl with | [_, _], _ => rfl)
    intro d_apart_by
    refine' DL.wDef "has_shape" K01.s_has_shape ["value", "size"] KX G ?a22 ?l22 ?c22 ?k22 ?b22 ?z22
    (case a22 => k_is); (case l22 => k_is); (case c22 => k_is); (case k22 => k_is); (case b22 => exact fun _ _ _ _ _ _ us hl => match us, hl with | [_, _], _ => rfl)
    intro d_has_shape
    refine' DL.wDef "is_row" K01.s_is_row ["size", "value"] KX G ?a23 ?l23 ?c23 ?k23 ?b23 ?z23
    (case a23 => k_is); (case l23 => k_is); (case c23 => k_is); (case k23 => k_is); (case b23 => exact fun _ _ _ _ _ _ us hl => match us, hl with | [_, _], _ => rfl)
    intro d_is_row
    refine' DL.wDef "is_square" K01.s_is_square ["size", "value"] KX G ?a24 ?l24 ?c24 ?k24 ?b24 ?z24
    (case a24 => k_is); (case l24 => k_is); (case c24 => k_is); (case k24 => k_is); (case b24 => exact fun _ _ _ _ _ _ us hl => match us, hl with | [_, _], _ => rfl)
    intro d_is_square
    refine' DL.wDef "is_table" K01.s_is_table ["value"] KX G ?a25 ?l25 ?c25 ?k25 ?b25 ?z25
    (case a25 => k_is); (case l25 => k_is); (case c25 => k_is); (case k25 => k_is); (case b25 => exact fun _ _ _ _ _ _ us hl => match us, hl with | [_], _ => rfl)
    intro d_is_table
    refine' DL.wDef "check_table" K01.s_check_table ["value"] KX G ?a26 ?l26 ?c26 ?k26 ?b26 ?z26
    (case a26 => k_is); (case l26 => k_is); (case c26 => k_is); (case k26 => k_is); (case b26 => exact fun _ _ _ _ _ _ us hl => match us, hl with | [_], _ => rfl)
    intro d_check_table
    refine' DL.wDef "check_two" K01.s_check_two ["one", "two"] KX G ?a27 ?l27 ?c27 ?k27 ?b27 ?z27
    (case a27 => k_is); (case l27 => k_is); (case c27 => k_is); (case k27 => k_is); (case b27 => exact fun _ _ _ _ _ _ us hl => match us, hl with | [_, _], _ => rfl)
    intro d_check_two
    refine' DL.wDef "check_row" K01.s_check_row ["table", "row"] KX G ?a28 ?l28 ?c28 ?k28 ?b28 ?z28
    (case a28 => k_is); (case l28 => k_is); (case c28 => k_is); (case k28 => k_is); (case b28 => exact fun _ _ _ _ _ _ us hl => match us, hl with | [_, _], _ => rfl)
    intro d_check_row
    refine' DL.wDef "unit_of" K01.s_unit_of ["size"] KX G ?a29 ?l29 ?c29 ?k29 ?b29 ?z29
    (case a29 => k_is); (case l29 => k_is); (case c29 => k_is); (case k29 => k_is); (case b29 => exact fun _ _ _ _ _ _ us hl => match us, hl with | [_], _ => rfl)
    intro d_unit_of
    refine' DL.wDef "unit" K01.s_unit ["size"] KX G ?a30 ?l30 ?c30 ?k30 ?b30 ?z30
    (case a30 => k_is); (case l30 => k_is); (case c30 => k_is); (case k30 => k_is); (case b30 => exact fun _ _ _ _ _ _ us hl => match us, hl with | [_], _ => rfl)
    intro d_unit
    refine' DL.wDef "dot" K01.s_dot ["one", "two"] KX G ?a31 ?l31 ?c31 ?k31 ?b31 ?z31
    (case a31 => k_is); (case l31 => k_is); (case c31 => k_is); (case k31 => k_is); (case b31 => exact fun _ _ _ _ _ _ us hl => match us, hl with | [_, _], _ => rfl)
    intro d_dot
    refine' DL.wDef "turned_of" K01.s_turned_of ["table"] KX G ?a32 ?l32 ?c32 ?k32 ?b32 ?z32
    (case a32 => k_is); (case l32 => k_is); (case c32 => k_is); (case k32 => k_is); (case b32 => exact fun _ _ _ _ _ _ us hl => match us, hl with | [_], _ => rfl)
    intro d_turned_of
    refine' DL.wDef "product_of" K01.s_product_of ["one", "two"] KX G ?a33 ?l33 ?c33 ?k33 ?b33 ?z33
    (case a33 => k_is); (case l33 => k_is); (case c33 => k_is); (case k33 => k_is); (case b33 => exact fun _ _ _ _ _ _ us hl => match us, hl with | [_, _], _ => rfl)
    intro d_product_of
    refine' DL.wDef "led_of" K01.s_led_of ["table", "row"] KX G ?a34 ?l34 ?c34 ?k34 ?b34 ?z34
    (case a34 => k_is); (case l34 => k_is); (case c34 => k_is); (case k34 => k_is); (case b34 => exact fun _ _ _ _ _ _ us hl => match us, hl with | [_, _], _ => rfl)
    intro d_led_of
    refine' DL.wDef "sum_of" K01.s_sum_of ["one", "two"] KX G ?a35 ?l35 ?c35 ?k35 ?b35 ?z35
    (case a35 => k_is); (case l35 => k_is); (case c35 => k_is); (case k35 => k_is); (case b35 => exact fun _ _ _ _ _ _ us hl => match us, hl with | [_, _], _ => rfl)
    intro d_sum_of
    refine' DL.wDef "scaled_of" K01.s_scaled_of ["table", "factor"] KX G ?a36 ?l36 ?c36 ?k36 ?b36 ?z36
    (case a36 => k_is); (case l36 => k_is); (case c36 => k_is); (case k36 => k_is); (case b36 => exact fun _ _ _ _ _ _ us hl => match us, hl with | [_, _], _ => rfl)
    intro d_scaled_of
    refine' DL.wDef "product" K01.s_product ["one", "two"] KX G ?a37 ?l37 ?c37 ?k37 ?b37 ?z37
    (case a37 => k_is); (case l37 => k_is); (case c37 => k_is); (case k37 => k_is); (case b37 => exact fun _ _ _ _ _ _ us hl => match us, hl with | [_, _], _ => rfl)
    intro d_product
    refine' DL.wDef "added" K01.s_added ["one", "two"] KX G ?a38 ?l38 ?c38 ?k38 ?b38 ?z38
    (case a38 => k_is); (case l38 => k_is); (case c38 => k_is); (case k38 => k_is); (case b38 => exact fun _ _ _ _ _ _ us hl => match us, hl with | [_, _], _ => rfl)
    intro d_added
    refine' DL.wDef "scaled" K01.s_scaled ["table", "factor"] KX G ?a39 ?l39 ?c39 ?k39 ?b39 ?z39
    (case a39 => k_is); (case l39 => k_is); (case c39 => k_is); (case k39 => k_is); (case b39 => exact fun _ _ _ _ _ _ us hl => match us, hl with | [_, _], _ => rfl)
    intro d_scaled
    refine' DL.wDef "turned" K01.s_turned ["table"] KX G ?a40 ?l40 ?c40 ?k40 ?b40 ?z40
    (case a40 => k_is); (case l40 => k_is); (case c40 => k_is); (case k40 => k_is); (case b40 => exact fun _ _ _ _ _ _ us hl => match us, hl with | [_], _ => rfl)
    intro d_turned
    refine' DL.wDef "led" K01.s_led ["table", "row"] KX G ?a41 ?l41 ?c41 ?k41 ?b41 ?z41
    (case a41 => k_is); (case l41 => k_is); (case c41 => k_is); (case k41 => k_is); (case b41 => exact fun _ _ _ _ _ _ us hl => match us, hl with | [_, _], _ => rfl)
    intro d_led
    refine' DL.wDef "power_of" K01.s_power_of ["table", "many"] KX G ?a42 ?l42 ?c42 ?k42 ?b42 ?z42
    (case a42 => k_is); (case l42 => k_is); (case c42 => k_is); (case k42 => k_is); (case b42 => exact fun _ _ _ _ _ _ us hl => match us, hl with | [_, _], _ => rfl)
    intro d_power_of
    refine' DL.wDefA "power_tables" "power" K01.s_power_tables ["table", "many"] KX G ?a43 ?l43 ?c43 ?k43 ?b43 ?z43
    (case a43 => k_is); (case l43 => k_is); (case c43 => k_is); (case k43 => k_is); (case b43 => exact fun _ _ _ _ _ _ us hl => match us, hl with | [_, _], _ => rfl)
    intro d_power_tables
    refine' DL.wDef "trace" K01.s_trace ["table"] KX G ?a44 ?l44 ?c44 ?k44 ?b44 ?z44
    (case a44 => k_is); (case l44 => k_is); (case c44 => k_is); (case k44 => k_is); (case b44 => exact fun _ _ _ _ _ _ us hl => match us, hl with | [_], _ => rfl)
    intro d_trace
    refine' DL.wDef "cleared" K01.s_cleared ["rows"] KX G ?a45 ?l45 ?c45 ?k45 ?b45 ?z45
    (case a45 => k_is); (case l45 => k_is); (case c45 => k_is); (case k45 => k_is); (case b45 => exact fun _ _ _ _ _ _ us hl => match us, hl with | [_], _ => rfl)
    intro d_cleared
    refine' DL.wDef "rank_of" K01.s_rank_of ["rows"] KX G ?a46 ?l46 ?c46 ?k46 ?b46 ?z46
    (case a46 => k_is); (case l46 => k_is); (case c46 => k_is); (case k46 => k_is); (case b46 => exact fun _ _ _ _ _ _ us hl => match us, hl with | [_], _ => rfl)
    intro d_rank_of
    refine' DL.wDef "rank" K01.s_rank ["table"] KX G ?a47 ?l47 ?c47 ?k47 ?b47 ?z47
    (case a47 => k_is); (case l47 => k_is); (case c47 => k_is); (case k47 => k_is); (case b47 => exact fun _ _ _ _ _ _ us hl => match us, hl with | [_], _ => rfl)
    intro d_rank
    refine' DL.wDef "back_of" K01.s_back_of ["table"] KX G ?a48 ?l48 ?c48 ?k48 ?b48 ?z48
    (case a48 => k_is); (case l48 => k_is); (case c48 => k_is); (case k48 => k_is); (case b48 => exact fun _ _ _ _ _ _ us hl => match us, hl with | [_], _ => rfl)
    intro d_back_of
    refine' DL.wDef "back" K01.s_back ["table"] KX G ?a49 ?l49 ?c49 ?k49 ?b49 ?z49
    (case a49 => k_is); (case l49 => k_is); (case c49 => k_is); (case k49 => k_is); (case b49 => exact fun _ _ _ _ _ _ us hl => match us, hl with | [_], _ => rfl)
    intro d_back
    refine' DL.wDef "size_of" K01.s_size_of ["row"] KX G ?a50 ?l50 ?c50 ?k50 ?b50 ?z50
    (case a50 => k_is); (case l50 => k_is); (case c50 => k_is); (case k50 => k_is); (case b50 => exact fun _ _ _ _ _ _ us hl => match us, hl with | [_], _ => rfl)
    intro d_size_of
    refine' DL.wDef "greatest" K01.s_greatest ["row"] KX G ?a51 ?l51 ?c51 ?k51 ?b51 ?z51
    (case a51 => k_is); (case l51 => k_is); (case c51 => k_is); (case k51 => k_is); (case b51 => exact fun _ _ _ _ _ _ us hl => match us, hl with | [_], _ => rfl)
    intro d_greatest
    refine' DL.wDef "is_nought" K01.s_is_nought ["table"] KX G ?a52 ?l52 ?c52 ?k52 ?b52 ?z52
    (case a52 => k_is); (case l52 => k_is); (case c52 => k_is); (case k52 => k_is); (case b52 => exact fun _ _ _ _ _ _ us hl => match us, hl with | [_], _ => rfl)
    intro d_is_nought
    refine' DL.wDef "has_no_minus" K01.s_has_no_minus ["table"] KX G ?a53 ?l53 ?c53 ?k53 ?b53 ?z53
    (case a53 => k_is); (case l53 => k_is); (case c53 => k_is); (case k53 => k_is); (case b53 => exact fun _ _ _ _ _ _ us hl => match us, hl with | [_], _ => rfl)
    intro d_has_no_minus
    refine' DL.wDef "corner_blocks" K01.s_corner_blocks ["one", "two"] KX G ?a54 ?l54 ?c54 ?k54 ?b54 ?z54
    (case a54 => k_is); (case l54 => k_is); (case c54 => k_is); (case k54 => k_is); (case b54 => exact fun _ _ _ _ _ _ us hl => match us, hl with | [_, _], _ => rfl)
    intro d_corner_blocks
    refine' DL.wDef "slanted" K01.s_slanted ["one", "two"] KX G ?a55 ?l55 ?c55 ?k55 ?b55 ?z55
    (case a55 => k_is); (case l55 => k_is); (case c55 => k_is); (case k55 => k_is); (case b55 => exact fun _ _ _ _ _ _ us hl => match us, hl with | [_, _], _ => rfl)
    intro d_slanted
    refine' DL.wDef "_law_draw" K01.s__law_draw ["script"] KX G ?a56 ?l56 ?c56 ?k56 ?b56 ?z56
    (case a56 => k_is); (case l56 => k_is); (case c56 => k_is); (case k56 => k_is); (case b56 => exact fun _ _ _ _ _ _ us hl => match us, hl with | [_], _ => rfl)
    intro d__law_draw
    refine' DL.wDef "_law_take" K01.s__law_take ["draw", "many"] KX G ?a57 ?l57 ?c57 ?k57 ?b57 ?z57
    (case a57 => k_is); (case l57 => k_is); (case c57 => k_is); (case k57 => k_is); (case b57 => exact fun _ _ _ _ _ _ us hl => match us, hl with | [_, _], _ => rfl)
    intro d__law_take
    refine' DL.wDef "_law_says" K01.s__law_says ["value", "due"] KX G ?a58 ?l58 ?c58 ?k58 ?b58 ?z58
    (case a58 => k_is); (case l58 => k_is); (case c58 => k_is); (case k58 => k_is); (case b58 => exact fun _ _ _ _ _ _ us hl => match us, hl with | [_, _], _ => rfl)
    intro d__law_says
    refine' DL.wDef "_law_less" K01.s__law_less ["a", "b"] KX G ?a59 ?l59 ?c59 ?k59 ?b59 ?z59
    (case a59 => k_is); (case l59 => k_is); (case c59 => k_is); (case k59 => k_is); (case b59 => exact fun _ _ _ _ _ _ us hl => match us, hl with | [_, _], _ => rfl)
    intro d__law_less
    refine' DL.wDef "_law_low" K01.s__law_low ["n", "d"] KX G ?a60 ?l60 ?c60 ?k60 ?b60 ?z60
    (case a60 => k_is); (case l60 => k_is); (case c60 => k_is); (case k60 => k_is); (case b60 => exact fun _ _ _ _ _ _ us hl => match us, hl with | [_, _], _ => rfl)
    intro d__law_low
    refine' DL.wDef "_law_plus" K01.s__law_plus ["a", "b"] KX G ?a61 ?l61 ?c61 ?k61 ?b61 ?z61
    (case a61 => k_is); (case l61 => k_is); (case c61 => k_is); (case k61 => k_is); (case b61 => exact fun _ _ _ _ _ _ us hl => match us, hl with | [_, _], _ => rfl)
    intro d__law_plus
    refine' DL.wDef "_law_minus" K01.s__law_minus ["a", "b"] KX G ?a62 ?l62 ?c62 ?k62 ?b62 ?z62
    (case a62 => k_is); (case l62 => k_is); (case c62 => k_is); (case k62 => k_is); (case b62 => exact fun _ _ _ _ _ _ us hl => match us, hl with | [_, _], _ => rfl)
    intro d__law_minus
    refine' DL.wDef "_law_times" K01.s__law_times ["a", "b"] KX G ?a63 ?l63 ?c63 ?k63 ?b63 ?z63
    (case a63 => k_is); (case l63 => k_is); (case c63 => k_is); (case k63 => k_is); (case b63 => exact fun _ _ _ _ _ _ us hl => match us, hl with | [_, _], _ => rfl)
    intro d__law_times
    refine' DL.wDef "_law_sum" K01.s__law_sum ["items"] KX G ?a64 ?l64 ?c64 ?k64 ?b64 ?z64
    (case a64 => k_is); (case l64 => k_is); (case c64 => k_is); (case k64 => k_is); (case b64 => exact fun _ _ _ _ _ _ us hl => match us, hl with | [_], _ => rfl)
    intro d__law_sum
    refine' DL.wDef "_law_most" K01.s__law_most ["items"] KX G ?a65 ?l65 ?c65 ?k65 ?b65 ?z65
    (case a65 => k_is); (case l65 => k_is); (case c65 => k_is); (case k65 => k_is); (case b65 => exact fun _ _ _ _ _ _ us hl => match us, hl with | [_], _ => rfl)
    intro d__law_most
    refine' DL.wDef "_law_bent" K01.s__law_bent ["draw", "data"] KX G ?a66 ?l66 ?c66 ?k66 ?b66 ?z66
    (case a66 => k_is); (case l66 => k_is); (case c66 => k_is); (case k66 => k_is); (case b66 => exact fun _ _ _ _ _ _ us hl => match us, hl with | [_, _], _ => rfl)
    intro d__law_bent
    refine' DL.wDef "_law_item" K01.s__law_item ["draw"] KX G ?a67 ?l67 ?c67 ?k67 ?b67 ?z67
    (case a67 => k_is); (case l67 => k_is); (case c67 => k_is); (case k67 => k_is); (case b67 => exact fun _ _ _ _ _ _ us hl => match us, hl with | [_], _ => rfl)
    intro d__law_item
    refine' DL.wDef "_law_table" K01.s__law_table ["draw", "size"] KX G ?a68 ?l68 ?c68 ?k68 ?b68 ?z68
    (case a68 => k_is); (case l68 => k_is); (case c68 => k_is); (case k68 => k_is); (case b68 => exact fun _ _ _ _ _ _ us hl => match us, hl with | [_, _], _ => rfl)
    intro d__law_table
    refine' DL.wDef "_law_unit" K01.s__law_unit ["size"] KX G ?a69 ?l69 ?c69 ?k69 ?b69 ?z69
    (case a69 => k_is); (case l69 => k_is); (case c69 => k_is); (case k69 => k_is); (case b69 => exact fun _ _ _ _ _ _ us hl => match us, hl with | [_], _ => rfl)
    intro d__law_unit
    refine' DL.wDef "_law_times_rows" K01.s__law_times_rows ["one", "two"] KX G ?a70 ?l70 ?c70 ?k70 ?b70 ?z70
    (case a70 => k_is); (case l70 => k_is); (case c70 => k_is); (case k70 => k_is); (case b70 => exact fun _ _ _ _ _ _ us hl => match us, hl with | [_, _], _ => rfl)
    intro d__law_times_rows
    refine' DL.wDef "_law_led" K01.s__law_led ["table", "row"] KX G ?a71 ?l71 ?c71 ?k71 ?b71 ?z71
    (case a71 => k_is); (case l71 => k_is); (case c71 => k_is); (case k71 => k_is); (case b71 => exact fun _ _ _ _ _ _ us hl => match us, hl with | [_, _], _ => rfl)
    intro d__law_led
    refine' DL.wDef "_law_size" K01.s__law_size ["row"] KX G ?a72 ?l72 ?c72 ?k72 ?b72 ?z72
    (case a72 => k_is); (case l72 => k_is); (case c72 => k_is); (case k72 => k_is); (case b72 => exact fun _ _ _ _ _ _ us hl => match us, hl with | [_], _ => rfl)
    intro d__law_size
    refine' DL.wDef "_law_int" K01.s__law_int ["value"] KX G ?a73 ?l73 ?c73 ?k73 ?b73 ?z73
    (case a73 => k_is); (case l73 => k_is); (case c73 => k_is); (case k73 => k_is); (case b73 => exact fun _ _ _ _ _ _ us hl => match us, hl with | [_], _ => rfl)
    intro d__law_int
    refine' DL.wDef "_law_is_ratio" K01.s__law_is_ratio ["value"] KX G ?a74 ?l74 ?c74 ?k74 ?b74 ?z74
    (case a74 => k_is); (case l74 => k_is); (case c74 => k_is); (case k74 => k_is); (case b74 => exact fun _ _ _ _ _ _ us hl => match us, hl with | [_], _ => rfl)
    intro d__law_is_ratio
    refine' DL.wDef "_law_is_row" K01.s__law_is_row ["size", "value"] KX G ?a75 ?l75 ?c75 ?k75 ?b75 ?z75
    (case a75 => k_is); (case l75 => k_is); (case c75 => k_is); (case k75 => k_is); (case b75 => exact fun _ _ _ _ _ _ us hl => match us, hl with | [_, _], _ => rfl)
    intro d__law_is_row
    refine' DL.wDef "_law_is_table" K01.s__law_is_table ["size", "value"] KX G ?a76 ?l76 ?c76 ?k76 ?b76 ?z76
    (case a76 => k_is); (case l76 => k_is); (case c76 => k_is); (case k76 => k_is); (case b76 => exact fun _ _ _ _ _ _ us hl => match us, hl with | [_, _], _ => rfl)
    intro d__law_is_table
    refine' DL.wDef "_law_rank" K01.s__law_rank ["rows"] KX G ?a77 ?l77 ?c77 ?k77 ?b77 ?z77
    (case a77 => k_is); (case l77 => k_is); (case c77 => k_is); (case k77 => k_is); (case b77 => exact fun _ _ _ _ _ _ us hl => match us, hl with | [_], _ => rfl)
    intro d__law_rank
    refine' DL.wDef "_law_power" K01.s__law_power ["a", "many"] KX G ?a78 ?l78 ?c78 ?k78 ?b78 ?z78
    (case a78 => k_is); (case l78 => k_is); (case c78 => k_is); (case k78 => k_is); (case b78 => exact fun _ _ _ _ _ _ us hl => match us, hl with | [_, _], _ => rfl)
    intro d__law_power
    refine' DL.wDef "_law_ask" K01.s__law_ask ["which", "args"] KX G ?a79 ?l79 ?c79 ?k79 ?b79 ?z79
    (case a79 => k_is); (case l79 => k_is); (case c79 => k_is); (case k79 => k_is); (case b79 => exact fun _ _ _ _ _ _ us hl => match us, hl with | [_, _], _ => rfl)
    intro d__law_ask
    refine' DL.wDef "_law_numbers" K01.s__law_numbers ["draw"] KX G ?a80 ?l80 ?c80 ?k80 ?b80 ?z80
    (case a80 => k_is); (case l80 => k_is); (case c80 => k_is); (case k80 => k_is); (case b80 => exact fun _ _ _ _ _ _ us hl => match us, hl with | [_], _ => rfl)
    intro d__law_numbers
    refine' DL.wDef "_law_undone" K01.s__law_undone ["table"] KX G ?a81 ?l81 ?c81 ?k81 ?b81 ?z81
    (case a81 => k_is); (case l81 => k_is); (case c81 => k_is); (case k81 => k_is); (case b81 => exact fun _ _ _ _ _ _ us hl => match us, hl with | [_], _ => rfl)
    intro d__law_undone
    refine' DL.wNone "abs" KX G ?q82 ?z82
    (case q82 => k_is)
    intro b_abs
    refine' DL.wNone "all" KX G ?q83 ?z83
    (case q83 => k_is)
    intro b_all
    refine' DL.wNone "any" KX G ?q84 ?z84
    (case q84 => k_is)
    intro b_any
    refine' DL.wNone "bool" KX G ?q85 ?z85
    (case q85 => k_is)
    intro b_bool
    refine' DL.wNone "int" KX G ?q86 ?z86
    (case q86 => k_is)
    intro b_int
    refine' DL.wNone "isinstance" KX G ?q87 ?z87
    (case q87 => k_is)
    intro b_isinstance
    refine' DL.wNone "len" KX G ?q88 ?z88
    (case q88 => k_is)
    intro b_len
    refine' DL.wNone "list" KX G ?q89 ?z89
    (case q89 => k_is)
    intro b_list
    refine' DL.wNone "range" KX G ?q90 ?z90
    (case q90 => k_is)
    intro b_range
    refine' DL.wNone "str" KX G ?q91 ?z91
    (case q91 => k_is)
    intro b_str
    refine' DL.wNone "tuple" KX G ?q92 ?z92
    (case q92 => k_is)
    intro b_tuple
    refine' DL.wNone "zip" KX G ?q93 ?z93
    (case q93 => k_is)
    intro b_zip
    refine' DL.wInt "MOST_POWER" 64 KX G ?q94 ?z94
    (case q94 => k_is)
    intro c_MOST_POWER
    refine' DL.wInt "MOST_SIZE" 4 KX G ?q95 ?z95
    (case q95 => k_is)
    intro c_MOST_SIZE
    refine' DL.wTup "ONE" [1, 1] KX G ?q96 ?l96 ?c96 ?d96 ?s96 ?v96 ?z96
    (case q96 => k_is); (case l96 => k_is); (case c96 => rfl); (case d96 => rfl); (case s96 => decide); (case v96 => exact .cons ⟨_, rfl⟩ (.cons ⟨_, rfl⟩ (.nil)))
    intro c_ONE
    refine' DL.wTup "ZERO" [0, 1] KX G ?q97 ?l97 ?c97 ?d97 ?s97 ?v97 ?z97
    (case q97 => k_is); (case l97 => k_is); (case c97 => rfl); (case d97 => rfl); (case s97 => decide); (case v97 => exact .cons ⟨_, rfl⟩ (.cons ⟨_, rfl⟩ (.nil)))
    intro c_ZERO
    refine' DL.wExc "Malformed" KX G PySem.F.excBase_ValueError ?a98 ?e98 ?k98 ?s98 ?t98 ?z98
    (case a98 => k_is); (case e98 => k_exc); (case k98 => k_is); (case s98 => k_is); (case t98 => k_is)
    intro e_Malformed
    refine' DL.wClause1 "Malformed" KX G ?a99 ?s99 ?d99 ?t99 ?ss99 ?z99
    (case a99 => k_is); (case s99 => k_is); (case d99 => k_is); (case t99 => k_is); (case ss99 => first | rfl | k_is)
    intro x_Malformed
    refine' DL.wLaw K01.s_law KX G ?a100 ?l100 ?c100 ?k100 ?b100 ?z100
    (case a100 => k_is); (case l100 => k_is); (case c100 => k_is); (case k100 => k_is); (case b100 => exact fun _ _ _ _ _ _ s u => .of_eq rfl)
    intro f fd g Fu b
    have e := hmg.symm.trans g
    cases e
    exact ⟨fd, b, fun base _ _ => K01.ok_law (K01.Txt.mk d_is_whole d_common d_lowest d_ratio d_is_ratio d_plus d_minus d_times d_over d_below d_total d_lesser d_greater d_ratio_text d_power_ratios d_apart_by d_has_shape d_is_row d_is_square d_is_table d_check_table d_check_two d_check_row d_unit_of d_unit d_dot d_turned_of d_product_of d_led_of d_sum_of d_scaled_of d_product d_added d_scaled d_turned d_led d_power_of d_power_tables d_trace d_cleared d_rank_of d_rank d_back_of d_back d_size_of d_greatest d_is_nought d_has_no_minus d_corner_blocks d_slanted d__law_draw d__law_take d__law_says d__law_less d__law_low d__law_plus d__law_minus d__law_times d__law_sum d__law_most d__law_bent d__law_item d__law_table d__law_unit d__law_times_rows d__law_led d__law_size d__law_int d__law_is_ratio d__law_is_row d__law_is_table d__law_rank d__law_power d__law_ask d__law_numbers d__law_undone b_abs b_all b_any b_bool b_int b_isinstance b_len b_list b_range b_str b_tuple b_zip c_MOST_POWER c_MOST_SIZE c_ONE c_ZERO e_Malformed x_Malformed) Fu⟩
