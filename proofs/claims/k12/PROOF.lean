import PyProof.Rows.All
import Wide.All
import OpenK.AllK
import Wide.FinOn
import HandS.ForMost
import HandS.Wide
import HandS.Walk
import HandS.Style
import HandS.IsInst
import HandS.WordsExc
import HandS.ExcIs
import HandS.FStr
import PySem.Challenge.RW_ladderwalks_k12_errors
set_option Elab.async false
set_option linter.all false
set_option maxRecDepth 100000
set_option maxHeartbeats 4000000
/-! A layer of data over HandS: values are told by what they are worth (PyData), mutable lists by their owner. -/
namespace LW
open PySem L2

/-! ### frozen data -/
mutual
inductive Dn (O : Addr → Prop) (H : Hp) : V → PyData → Prop
  | non : Dn O H .non .none
  | bl (b : Bool) : Dn O H (.bl b) (.bool b)
  | int (i : Int) : Dn O H (.int i) (.int i)
  | str (x : Str) : Dn O H (.str x) (.str x)
  | lst {a : Addr} {xs : List V} {ds : List PyData} : ¬ O a → H a = some (.lst xs) → DnAll O H xs ds → Dn O H (.ref a) (.list ds)
  | tup {a : Addr} {xs : List V} {ds : List PyData} : ¬ O a → H a = some (.tup xs) → DnAll O H xs ds → Dn O H (.ref a) (.tuple ds)
inductive DnAll (O : Addr → Prop) (H : Hp) : List V → List PyData → Prop
  | nil : DnAll O H [] []
  | cons {v : V} {vs : List V} {d : PyData} {ds : List PyData} : Dn O H v d → DnAll O H vs ds → DnAll O H (v :: vs) (d :: ds)
end

mutual
theorem Dn.imp {O O' : Addr → Prop} {H H' : Hp} (h : ∀ a o, ¬ O a → H a = some o → ¬ O' a ∧ H' a = some o) : ∀ (d : PyData) (v : V), Dn O H v d → Dn O' H' v d
  | .none, _, x => by cases x; exact .non
  | .bool b, _, x => by cases x; exact .bl b
  | .int i, _, x => by cases x; exact .int i
  | .str s, _, x => by cases x; exact .str s
  | .list ds, _, x => by
    cases x with
    | lst n e r => exact .lst (h _ _ n e).1 (h _ _ n e).2 (DnAll.imp h ds _ r)
  | .tuple ds, _, x => by
    cases x with
    | tup n e r => exact .tup (h _ _ n e).1 (h _ _ n e).2 (DnAll.imp h ds _ r)
  | .dict _, _, x => by cases x
theorem DnAll.imp {O O' : Addr → Prop} {H H' : Hp} (h : ∀ a o, ¬ O a → H a = some o → ¬ O' a ∧ H' a = some o) : ∀ (ds : List PyData) (vs : List V), DnAll O H vs ds → DnAll O' H' vs ds
  | [], _, x => by cases x; exact .nil
  | d :: ds, _, x => by
    cases x with
    | cons a r => exact .cons (Dn.imp h d _ a) (DnAll.imp h ds _ r)
end
mutual
theorem Dn.dp {K : PySem.W.Frag} {O : Addr → Prop} {H : Hp} : ∀ (d : PyData) (v : V), Dn O H v d → Dp K H v d
  | .none, _, x => by cases x; exact .non
  | .bool b, _, x => by cases x; exact .bl b
  | .int i, _, x => by cases x; exact .int i
  | .str s, _, x => by cases x; exact .str s
  | .list ds, _, x => by
    cases x with
    | lst n e r => exact .lst (SqL.of e) (DnAll.dp ds _ r)
  | .tuple ds, _, x => by
    cases x with
    | tup n e r => exact .tup (SqT.of e) (DnAll.dp ds _ r)
  | .dict _, _, x => by cases x
theorem DnAll.dp {K : PySem.W.Frag} {O : Addr → Prop} {H : Hp} : ∀ (ds : List PyData) (vs : List V), DnAll O H vs ds → DpAll K H vs ds
  | [], _, x => by cases x; exact .nil
  | d :: ds, _, x => by
    cases x with
    | cons a r => exact .cons (Dn.dp d _ a) (DnAll.dp ds _ r)
end
/-- all but the hidden stays -/
def Keep (O : Addr → Prop) (H H' : Hp) : Prop := ∀ a o, ¬ O a → H a = some o → H' a = some o
theorem Keep.refl (O : Addr → Prop) (H : Hp) : Keep O H H := fun _ _ _ h => h
theorem Keep.trans {O : Addr → Prop} {H H1 H2 : Hp} (x : Keep O H H1) (y : Keep O H1 H2) : Keep O H H2 := fun a o n e => y a o n (x a o n e)
theorem Keep.of {O : Addr → Prop} {H H' : Hp} (s : Same H H') : Keep O H H' := fun a o _ e => s a o e
theorem Dn.keep {O : Addr → Prop} {H H' : Hp} {v : V} {d : PyData} (k : Keep O H H') (x : Dn O H v d) : Dn O H' v d := Dn.imp (fun a o n e => ⟨n, k a o n e⟩) d v x
theorem DnAll.keep {O : Addr → Prop} {H H' : Hp} {vs : List V} {ds : List PyData} (k : Keep O H H') (x : DnAll O H vs ds) : DnAll O H' vs ds := DnAll.imp (fun a o n e => ⟨n, k a o n e⟩) ds vs x
theorem Dn.sub {O O' : Addr → Prop} {H : Hp} {v : V} {d : PyData} (h : ∀ a, O' a → O a) (x : Dn O H v d) : Dn O' H v d := Dn.imp (fun a o n e => ⟨fun z => n (h a z), e⟩) d v x
theorem DnAll.sub {O O' : Addr → Prop} {H : Hp} {vs : List V} {ds : List PyData} (h : ∀ a, O' a → O a) (x : DnAll O H vs ds) : DnAll O' H vs ds := DnAll.imp (fun a o n e => ⟨fun z => n (h a z), e⟩) ds vs x
theorem DnAll.length {O : Addr → Prop} {H : Hp} : ∀ {ds : List PyData} {vs : List V}, DnAll O H vs ds → vs.length = ds.length
  | [], _, x => by cases x; rfl
  | d :: ds, _, x => by
    cases x with
    | cons a r => simp only [List.length_cons, DnAll.length r]
theorem DnAll.get {O : Addr → Prop} {H : Hp} : ∀ {ds : List PyData} {vs : List V} {i : Nat} {d : PyData}, DnAll O H vs ds → ds[i]? = some d → ∃ v, vs[i]? = some v ∧ Dn O H v d
  | [], _, _, _, x, e => by simp at e
  | d :: ds, _, 0, d', x, e => by
    cases x with
    | cons a r => simp at e; subst e; exact ⟨_, rfl, a⟩
  | d :: ds, _, i + 1, d', x, e => by
    cases x with
    | cons a r =>
      obtain ⟨v, h1, h2⟩ := DnAll.get (i := i) r (by simpa using e)
      exact ⟨v, by simpa using h1, h2⟩
theorem DnAll.get' {O : Addr → Prop} {H : Hp} : ∀ {ds : List PyData} {vs : List V} {i : Nat} {v : V}, DnAll O H vs ds → vs[i]? = some v → ∃ d, ds[i]? = some d ∧ Dn O H v d
  | [], _, _, _, x, e => by cases x; simp at e
  | d :: ds, _, 0, d', x, e => by
    cases x with
    | cons a r => simp at e; subst e; exact ⟨_, rfl, a⟩
  | d :: ds, _, i + 1, d', x, e => by
    cases x with
    | cons a r =>
      obtain ⟨v, h1, h2⟩ := DnAll.get' (i := i) r (by simpa using e)
      exact ⟨v, by simpa using h1, h2⟩
theorem DnAll.append {O : Addr → Prop} {H : Hp} : ∀ {ds es : List PyData} {vs us : List V}, DnAll O H vs ds → DnAll O H us es → DnAll O H (vs ++ us) (ds ++ es)
  | [], _, _, _, x, y => by cases x; exact y
  | d :: ds, _, _, _, x, y => by
    cases x with
    | cons a r => exact .cons a (DnAll.append r y)
theorem DnAll.take {O : Addr → Prop} {H : Hp} : ∀ {ds : List PyData} {vs : List V} (n : Nat), DnAll O H vs ds → DnAll O H (vs.take n) (ds.take n)
  | _, _, 0, _ => by simp; exact .nil
  | [], _, _ + 1, x => by cases x; exact .nil
  | d :: ds, _, n + 1, x => by
    cases x with
    | cons a r => exact .cons a (DnAll.take n r)
theorem DnAll.drop {O : Addr → Prop} {H : Hp} : ∀ {ds : List PyData} {vs : List V} (n : Nat), DnAll O H vs ds → DnAll O H (vs.drop n) (ds.drop n)
  | _, _, 0, x => by simpa using x
  | [], _, _ + 1, x => by cases x; exact .nil
  | d :: ds, _, n + 1, x => by
    cases x with
    | cons a r => exact DnAll.drop n r
theorem DnAll.set {O : Addr → Prop} {H : Hp} {v : V} {d : PyData} (y : Dn O H v d) : ∀ {ds : List PyData} {vs : List V} (i : Nat), DnAll O H vs ds → DnAll O H (vs.set i v) (ds.set i d)
  | [], _, _, x => by cases x; exact .nil
  | e :: ds, _, 0, x => by
    cases x with
    | cons a r => exact .cons y r
  | e :: ds, _, i + 1, x => by
    cases x with
    | cons a r => exact .cons a (DnAll.set y i r)
theorem DnAll.one {O : Addr → Prop} {H : Hp} {v : V} {d : PyData} (y : Dn O H v d) : DnAll O H [v] [d] := .cons y .nil
theorem DnAll.reverse {O : Addr → Prop} {H : Hp} : ∀ {ds : List PyData} {vs : List V}, DnAll O H vs ds → DnAll O H vs.reverse ds.reverse
  | [], _, x => by cases x; exact .nil
  | d :: ds, _, x => by
    cases x with
    | cons a r =>
      rw [List.reverse_cons, List.reverse_cons]
      exact (DnAll.reverse r).append (.one a)
theorem DnAll.rep {O : Addr → Prop} {H : Hp} {ds : List PyData} {vs : List V} (x : DnAll O H vs ds) : ∀ k : Nat, DnAll O H (List.replicate k vs).flatten (List.replicate k ds).flatten
  | 0 => .nil
  | k + 1 => by
    rw [List.replicate_succ, List.replicate_succ, List.flatten_cons, List.flatten_cons]
    exact x.append (DnAll.rep x k)
theorem DnAll.ints {O : Addr → Prop} {H : Hp} : ∀ (ns : List Int), DnAll O H (ns.map V.int) (ns.map PyData.int)
  | [] => .nil
  | n :: ns => .cons (.int n) (DnAll.ints ns)
theorem DnAll.ints_eq {O : Addr → Prop} {H : Hp} : ∀ {ns : List Int} {vs : List V}, DnAll O H vs (ns.map PyData.int) → vs = ns.map V.int
  | [], _, x => by cases x; rfl
  | n :: ns, _, x => by
    cases x with
    | cons a r => cases a; rw [DnAll.ints_eq r]; rfl
theorem DnAll.bls_eq {O : Addr → Prop} {H : Hp} : ∀ {ns : List Bool} {vs : List V}, DnAll O H vs (ns.map PyData.bool) → vs = ns.map V.bl
  | [], _, x => by cases x; rfl
  | n :: ns, _, x => by
    cases x with
    | cons a r => cases a; rw [DnAll.bls_eq r]; rfl
theorem DnAll.strs_eq {O : Addr → Prop} {H : Hp} : ∀ {ns : List Str} {vs : List V}, DnAll O H vs (ns.map PyData.str) → vs = ns.map V.str
  | [], _, x => by cases x; rfl
  | n :: ns, _, x => by
    cases x with
    | cons a r => cases a; rw [DnAll.strs_eq r]; rfl
/-- a fresh address stands in no data -/
theorem DnAll.hide {O : Addr → Prop} {H : Hp} {p : Addr} {vs : List V} {ds : List PyData} (n : H p = none) (x : DnAll O H vs ds) : DnAll (fun a => O a ∨ a = p) H vs ds :=
  DnAll.imp (fun a o na e => ⟨fun z => z.elim na fun z => (ne_of_none e n) z, e⟩) ds vs x
theorem Dn.hide {O : Addr → Prop} {H : Hp} {p : Addr} {v : V} {d : PyData} (n : H p = none) (x : Dn O H v d) : Dn (fun a => O a ∨ a = p) H v d :=
  Dn.imp (fun a o na e => ⟨fun z => z.elim na fun z => (ne_of_none e n) z, e⟩) d v x

/-! ### slots -/
inductive Slot where
  | no
  | dat (d : PyData)
  | own (p : Addr) (ds : List PyData)
  | drw
  | raw (v : V)
  /-- a caught error of the class at D -/
  | exc (D : Addr)
  /-- a walker: its ladder is data, its two lists are its own -/
  | wlk (C p aL aI aM : Addr) (lad : PyData) (line mov : List PyData)
  /-- a walker that nobody changes here -/
  | ins (C : Addr) (lad line mov : PyData)
/-- the drawer: [numbers, counter] -/
def Drw (H : Hp) (p b : Addr) : Prop := p ≠ b ∧ ∃ (k : Int) (ns : List Int), H p = some (.lst [.ref b, .int k]) ∧ 0 ≤ k ∧ H b = some (.lst (ns.map V.int)) ∧ ns ≠ []
/-- an error that is kept -/
def excO (a D : Addr) : HO := .ext fun h => ∃ ox, PySem.W.InstAt h a ox D none
def wfs (aL aI aM : Addr) : List (Str × V) := [("ladder", .ref aL), ("line", .ref aI), ("moves", .ref aM)]
/-- what a slot may write -/
def foot : Slot → Addr → Prop
  | .own p _, a => a = p
  | .wlk _ _ _ aI aM _ _ _, a => a = aI ∨ a = aM
  | _, _ => False

structure Ctx where
  O0 : Addr → Prop
  L : Addr → Prop
  HD : Addr → Prop
  H0 : Hp
  dr : Option (Addr × Addr)

def SlotOk (C : Ctx) (O : Addr → Prop) (H : Hp) : Slot → Option V → Prop
  | .no, _ => True
  | .dat d, x => ∃ v, x = some v ∧ Dn O H v d
  | .own p ds, x => x = some (.ref p) ∧ ∃ vs, H p = some (.lst vs) ∧ DnAll O H vs ds
  | .drw, x => ∃ p b, C.dr = some (p, b) ∧ x = some (.ref p)
  | .raw v, x => x = some v
  | .exc D, x => ∃ a, x = some (.ref a) ∧ ¬ O a ∧ H a = some (excO a D)
  | .wlk Cl p aL aI aM lad line mov, x => x = some (.ref p) ∧ ¬ O p ∧ aI ≠ aM ∧ Dn O H (.ref aL) lad ∧ (∃ dx, H p = some (.ins Cl dx (wfs aL aI aM))) ∧ (∃ vs, H aI = some (.lst vs) ∧ DnAll O H vs line) ∧ ∃ us, H aM = some (.lst us) ∧ DnAll O H us mov
  | .ins Cl lad line mov, x => ∃ p dx aL aI aM, x = some (.ref p) ∧ ¬ O p ∧ H p = some (.ins Cl dx (wfs aL aI aM)) ∧ Dn O H (.ref aL) lad ∧ Dn O H (.ref aI) line ∧ Dn O H (.ref aM) mov

structure Rel (C : Ctx) (O : Addr → Prop) (ρ : List Slot) (σ : L2.St) (H : Hp) : Prop where
  len : σ.length = ρ.length
  slot : ∀ (i : Nat) (s : Slot), ρ[i]? = some s → ∃ x, σ[i]? = some x ∧ SlotOk C O H s x
  frame : ∀ a o, C.H0 a = some o → ¬ C.L a → H a = some o
  dom : ∀ p, O p → ∃ o, H p = some o
  sub : ∀ p, C.O0 p → O p
  mine : ∀ (i : Nat) (s : Slot) (a : Addr), ρ[i]? = some s → foot s a → O a ∧ ¬ C.O0 a ∧ (C.H0 a = none ∨ C.L a)
  sep : ∀ (i j : Nat) (s s' : Slot) (a : Addr), ρ[i]? = some s → ρ[j]? = some s' → foot s a → foot s' a → i = j
  drk : ∀ p b, C.dr = some (p, b) → Drw H p b ∧ C.L p ∧ C.L b ∧ C.O0 p ∧ C.O0 b
  hid : ∀ p, O p → C.HD p ∨ C.H0 p = none
  stay : ∀ p, H p = none → C.H0 p = none

theorem Drw.keep {H H' : Hp} {p b : Addr} (x : Drw H p b) (hp : H' p = H p) (hb : H' b = H b) : Drw H' p b := by
  obtain ⟨n, k, ns, e1, e2, e3, e4⟩ := x
  exact ⟨n, k, ns, by rw [hp]; exact e1, e2, by rw [hb]; exact e3, e4⟩
theorem Drw.same {H H' : Hp} {p b : Addr} (x : Drw H p b) (s : Same H H') : Drw H' p b := by
  obtain ⟨n, k, ns, e1, e2, e3, e4⟩ := x
  exact ⟨n, k, ns, s _ _ e1, e2, s _ _ e3, e4⟩

section
variable {C : Ctx} {O O' : Addr → Prop} {ρ ρ' : List Slot} {σ σ' : L2.St} {H H' : Hp}

theorem SlotOk.imp {s : Slot} {x : Option V} (h : ∀ a o, ¬ O a → H a = some o → ¬ O' a ∧ H' a = some o) (f : ∀ a o, foot s a → H a = some o → H' a = some o) (z : SlotOk C O H s x) : SlotOk C O' H' s x := by
  cases s with
  | no => trivial
  | dat d => obtain ⟨v, e, y⟩ := z; exact ⟨v, e, Dn.imp h d v y⟩
  | own p ds => obtain ⟨e, vs, e2, y⟩ := z; exact ⟨e, vs, f p _ rfl e2, DnAll.imp h ds vs y⟩
  | drw => exact z
  | raw v => exact z
  | exc D => obtain ⟨a, e, n, e2⟩ := z; exact ⟨a, e, (h a _ n e2).1, (h a _ n e2).2⟩
  | wlk Cl p aL aI aM lad line mov =>
    obtain ⟨e, n, ne, y, ⟨dx, e1⟩, ⟨vs, e2, y2⟩, us, e3, y3⟩ := z
    exact ⟨e, (h p _ n e1).1, ne, Dn.imp h _ _ y, ⟨dx, (h p _ n e1).2⟩, ⟨vs, f aI _ (.inl rfl) e2, DnAll.imp h _ _ y2⟩, us, f aM _ (.inr rfl) e3, DnAll.imp h _ _ y3⟩
  | ins Cl lad line mov =>
    obtain ⟨p, dx, aL, aI, aM, e, n, e1, y1, y2, y3⟩ := z
    exact ⟨p, dx, aL, aI, aM, e, (h p _ n e1).1, (h p _ n e1).2, Dn.imp h _ _ y1, Dn.imp h _ _ y2, Dn.imp h _ _ y3⟩
theorem SlotOk.grow {s : Slot} {x : Option V} (h : SlotOk C O H s x) (g : Same H H') : SlotOk C O H' s x := h.imp (fun a o n e => ⟨n, g a o e⟩) fun a o _ e => g a o e
theorem SlotOk.hide {s : Slot} {x : Option V} {F : Addr → Prop} (h : SlotOk C O H s x) (g : Same H H') (n : ∀ a, F a → H a = none) : SlotOk C (fun a => O a ∨ F a) H' s x :=
  h.imp (fun a o na e => ⟨fun z => z.elim na fun z => (by rw [n a z] at e; cases e), g a o e⟩) fun a o _ e => g a o e
theorem Rel.grow (r : Rel C O ρ σ H) (g : Same H H') : Rel C O ρ σ H' where
  len := r.len
  slot := fun i s e => let ⟨x, e1, y⟩ := r.slot i s e; ⟨x, e1, y.grow g⟩
  frame := fun a o e n => g _ _ (r.frame a o e n)
  dom := fun p h => let ⟨o, e⟩ := r.dom p h; ⟨o, g _ _ e⟩
  sub := r.sub
  mine := r.mine
  sep := r.sep
  drk := fun p b e => let ⟨h, t⟩ := r.drk p b e; ⟨h.same g, t⟩
  hid := r.hid
  stay := fun p e => r.stay p (g.free e)
theorem Rel.notO (r : Rel C O ρ σ H) {p : Addr} (h : H p = none) : ¬ O p := fun z => by
  obtain ⟨o, e⟩ := r.dom p z
  rw [h] at e; cases e
theorem Rel.lt (r : Rel C O ρ σ H) {i : Nat} {s : Slot} (e : ρ[i]? = some s) : i < σ.length := by
  obtain ⟨x, e1, _⟩ := r.slot i s e
  exact (List.getElem?_eq_some_iff.mp e1).1
theorem look_set {ρ : List Slot} {i : Nat} {s0 : Slot} {m : Nat} {s : Slot} (e : (ρ.set i s0)[m]? = some s) : (m = i ∧ s = s0 ∧ i < ρ.length) ∨ (m ≠ i ∧ ρ[m]? = some s) := by
  by_cases h : i = m
  · subst h
    by_cases hl : i < ρ.length
    · rw [List.getElem?_set_self hl] at e; cases e; exact .inl ⟨rfl, rfl, hl⟩
    · rw [List.getElem?_eq_none (by simpa using hl)] at e; cases e
  · rw [List.getElem?_set_ne h] at e; exact .inr ⟨fun z => h z.symm, e⟩
/-- a name gets a thing without a foot -/
theorem Rel.setP (r : Rel C O ρ σ H) {i : Nat} {s : Slot} {x : Option V} (hs : ∀ a, ¬ foot s a) (y : SlotOk C O H s x) : Rel C O (ρ.set i s) (σ.set i x) H where
  len := by simp [r.len]
  slot := fun j s' e => by
    rcases look_set e with ⟨rfl, rfl, hl⟩ | ⟨hj, e⟩
    · exact ⟨x, by rw [List.getElem?_set_self (by rw [r.len]; exact hl)], y⟩
    · obtain ⟨x', e1, z⟩ := r.slot j s' e
      exact ⟨x', by rw [List.getElem?_set_ne (Ne.symm hj)]; exact e1, z⟩
  frame := r.frame
  dom := r.dom
  sub := r.sub
  mine := fun j s' a e f => by
    rcases look_set e with ⟨rfl, rfl, hl⟩ | ⟨hj, e⟩
    · exact absurd f (hs a)
    · exact r.mine j s' a e f
  sep := fun j k s1 s2 a e1 e2 f1 f2 => by
    rcases look_set e1 with ⟨rfl, rfl, _⟩ | ⟨_, e1⟩
    · exact absurd f1 (hs a)
    · rcases look_set e2 with ⟨rfl, rfl, _⟩ | ⟨_, e2⟩
      · exact absurd f2 (hs a)
      · exact r.sep j k s1 s2 a e1 e2 f1 f2
  drk := r.drk
  hid := r.hid
  stay := r.stay
/-- a name gets data -/
theorem Rel.setD (r : Rel C O ρ σ H) {i : Nat} {v : V} {d : PyData} (y : Dn O H v d) : Rel C O (ρ.set i (.dat d)) (σ.set i (some v)) H := r.setP (fun _ h => h) ⟨v, rfl, y⟩
/-- forgetting a slot, changing what stands there -/
theorem Rel.setN (r : Rel C O ρ σ H) {i : Nat} {x : Option V} : Rel C O (ρ.set i .no) (σ.set i x) H := r.setP (fun _ h => h) trivial
/-- a name gets a new thing that is its own -/
theorem Rel.setF (r : Rel C O ρ σ H) {i : Nat} {s : Slot} {x : Option V} (g : Same H H') (n : ∀ a, foot s a → H a = none) (d : ∀ a, foot s a → ∃ o, H' a = some o) (y : SlotOk C (fun a => O a ∨ foot s a) H' s x) :
    Rel C (fun a => O a ∨ foot s a) (ρ.set i s) (σ.set i x) H' := by
  have nO : ∀ a, foot s a → ¬ O a := fun a f => r.notO (n a f)
  have r2 := r.grow g
  refine ⟨by simp [r.len], fun j s' e1 => ?_, r2.frame, fun q z => ?_, fun q z => .inl (r.sub q z), fun j s' a e1 f => ?_, fun j k s1 s2 a e1 e2 f1 f2 => ?_, r2.drk, fun q z => z.elim (r.hid q) fun z => .inr (r.stay q (n q z)), r2.stay⟩
  · rcases look_set e1 with ⟨rfl, rfl, hl⟩ | ⟨hj, e1⟩
    · exact ⟨_, by rw [List.getElem?_set_self (by rw [r.len]; exact hl)], y⟩
    · obtain ⟨x', e2, z⟩ := r.slot j s' e1
      exact ⟨x', by rw [List.getElem?_set_ne (Ne.symm hj)]; exact e2, z.hide g n⟩
  · rcases z with z | z
    · exact r2.dom q z
    · exact d q z
  · rcases look_set e1 with ⟨rfl, rfl, hl⟩ | ⟨hj, e1⟩
    · refine ⟨.inr f, fun z => nO a f (r.sub _ z), ?_⟩
      cases q0 : C.H0 a with
      | none => exact .inl rfl
      | some o =>
        by_cases hL : C.L a
        · exact .inr hL
        · have := n a f
          rw [r.frame a o q0 hL] at this; cases this
    · obtain ⟨h1, h2, h3⟩ := r.mine j s' a e1 f
      exact ⟨.inl h1, h2, h3⟩
  · rcases look_set e1 with ⟨rfl, rfl, hl⟩ | ⟨hj, e0⟩
    · rcases look_set e2 with ⟨rfl, _⟩ | ⟨_, e2⟩
      · rfl
      · exact absurd (r.mine k s2 a e2 f2).1 (nO a f1)
    · rcases look_set e2 with ⟨rfl, rfl, _⟩ | ⟨_, e2⟩
      · exact absurd (r.mine j s1 a e0 f1).1 (nO a f2)
      · exact r.sep j k s1 s2 a e0 e2 f1 f2
/-- a name gets a new list that is its own -/
theorem Rel.setO (r : Rel C O ρ σ H) {i : Nat} {p : Addr} {vs : List V} {ds : List PyData} (g : Same H H') (n : H p = none) (e : H' p = some (.lst vs)) (y : DnAll O H' vs ds) (nin : DnAll (fun a => O a ∨ a = p) H' vs ds) :
    Rel C (fun a => O a ∨ a = p) (ρ.set i (.own p ds)) (σ.set i (some (.ref p))) H' :=
  r.setF (s := .own p ds) g (fun a f => by have f : a = p := f; rw [f]; exact n) (fun a f => by have f : a = p := f; rw [f]; exact ⟨_, e⟩) ⟨rfl, vs, e, nin⟩
/-- what is owned is changed -/
theorem Rel.mutF (r : Rel C O ρ σ H) {i : Nat} {s s' : Slot} {x : Option V} (hi : ρ[i]? = some s) (hx : σ[i]? = some x) (ff : ∀ a, foot s' a → foot s a) (k : ∀ a o, ¬ foot s a → H a = some o → H' a = some o) (d : ∀ a, foot s a → ∃ o, H' a = some o) (y : SlotOk C O H' s' x) :
    Rel C O (ρ.set i s') σ H' := by
  obtain ⟨hl, _⟩ := List.getElem?_eq_some_iff.mp hi
  have kO : Keep O H H' := fun a o n e => k a o (fun z => n (r.mine i s a hi z).1) e
  have nd : ∀ a o, H a = some o → ∃ o', H' a = some o' := fun a o e => by
    by_cases f : foot s a
    · exact d a f
    · exact ⟨o, k a o f e⟩
  refine ⟨by simp [r.len], fun j s1 e1 => ?_, fun a o e n => ?_, fun q z => ?_, r.sub, fun j s1 a e1 f => ?_, fun j m s1 s2 a e1 e2 f1 f2 => ?_, fun q b e => ?_, r.hid, fun q e => ?_⟩
  · rcases look_set e1 with ⟨rfl, rfl, _⟩ | ⟨hj, e1⟩
    · exact ⟨x, hx, y⟩
    · obtain ⟨x', e2, z⟩ := r.slot j s1 e1
      exact ⟨x', e2, z.imp (fun a o n e => ⟨n, kO a o n e⟩) fun a o f e => k a o (fun z => hj (r.sep j i s1 s a e1 hi f z)) e⟩
  · refine k a o (fun z => ?_) (r.frame a o e n)
    rcases (r.mine i s a hi z).2.2 with h | h
    · rw [e] at h; cases h
    · exact n h
  · obtain ⟨o, e⟩ := r.dom q z
    exact nd q o e
  · rcases look_set e1 with ⟨rfl, rfl, _⟩ | ⟨hj, e1⟩
    · exact r.mine j s a hi (ff a f)
    · exact r.mine j s1 a e1 f
  · rcases look_set e1 with ⟨rfl, rfl, _⟩ | ⟨hj, e0⟩
    · rcases look_set e2 with ⟨rfl, _⟩ | ⟨_, e2⟩
      · rfl
      · exact r.sep _ _ _ _ a hi e2 (ff a f1) f2
    · rcases look_set e2 with ⟨rfl, rfl, _⟩ | ⟨_, e2⟩
      · exact r.sep _ _ _ _ a e0 hi f1 (ff a f2)
      · exact r.sep j m s1 s2 a e0 e2 f1 f2
  · obtain ⟨⟨h1, n, ns, e1, e2, e3, e4⟩, h2, h3, h4, h5⟩ := r.drk q b e
    exact ⟨⟨h1, n, ns, k _ _ (fun z => (r.mine i s q hi z).2.1 h4) e1, e2, k _ _ (fun z => (r.mine i s b hi z).2.1 h5) e3, e4⟩, h2, h3, h4, h5⟩
  · cases q0 : H q with
    | none => exact r.stay q q0
    | some o =>
      obtain ⟨o', e'⟩ := nd q o q0
      rw [e'] at e; cases e
/-- an own list is changed -/
theorem Rel.mut (r : Rel C O ρ σ H) {i : Nat} {p : Addr} {ds ds' : List PyData} {vs : List V} (hi : ρ[i]? = some (.own p ds)) (y : DnAll O H vs ds') : Rel C O (ρ.set i (.own p ds')) σ (upd H p (.lst vs)) := by
  obtain ⟨x, e, e2, _⟩ := r.slot i _ hi
  have hO := (r.mine i _ p hi rfl).1
  have k : Keep O H (upd H p (.lst vs)) := fun a o n e => by
    rw [upd_ne (fun z => n (by rw [z]; exact hO))]; exact e
  refine r.mutF hi e (fun a f => f) (fun a o n e => by rw [upd_ne (fun z => n z)]; exact e) (fun a f => ?_) ⟨e2, vs, upd_same, y.keep k⟩
  have f : a = p := f
  rw [f, upd_same]; exact ⟨_, rfl⟩
/-- an own list becomes data -/
theorem Rel.freeze (r : Rel C O ρ σ H) {i : Nat} {p : Addr} {ds : List PyData} (hi : ρ[i]? = some (.own p ds)) : Rel C (fun a => O a ∧ a ≠ p) (ρ.set i (.dat (.list ds))) σ H := by
  obtain ⟨hO, nO0, hm⟩ := r.mine i _ p hi rfl
  have w : ∀ a, (O a ∧ a ≠ p) → O a := fun a z => z.1
  refine ⟨by simp [r.len], fun j s e1 => ?_, r.frame, fun q z => r.dom q z.1, fun q z => ⟨r.sub q z, fun e => nO0 (by rw [← e]; exact z)⟩, fun j s a e1 f => ?_, fun j k s1 s2 a e1 e2 f1 f2 => ?_, r.drk, fun q z => r.hid q z.1, r.stay⟩
  · rcases look_set e1 with ⟨rfl, rfl, _⟩ | ⟨hj, e1⟩
    · obtain ⟨x, e2, e3, vs, e4, y⟩ := r.slot j _ hi
      exact ⟨x, e2, .ref p, e3, .lst (fun z => z.2 rfl) e4 (y.sub w)⟩
    · obtain ⟨x, e2, z⟩ := r.slot j s e1
      exact ⟨x, e2, z.imp (fun a o n e => ⟨fun z => n z.1, e⟩) fun a o _ e => e⟩
  · rcases look_set e1 with ⟨_, rfl, _⟩ | ⟨hj, e1⟩
    · exact f.elim
    · obtain ⟨h1, h2, h3⟩ := r.mine j s a e1 f
      exact ⟨⟨h1, fun e => hj (by subst e; exact r.sep _ _ _ _ _ e1 hi f rfl)⟩, h2, h3⟩
  · rcases look_set e1 with ⟨_, rfl, _⟩ | ⟨hj, e1⟩
    · exact f1.elim
    · rcases look_set e2 with ⟨_, rfl, _⟩ | ⟨_, e2⟩
      · exact f2.elim
      · exact r.sep j k s1 s2 a e1 e2 f1 f2
/-- the drawer has turned -/
theorem Rel.drawn (r : Rel C O ρ σ H) {p b : Addr} (hd : C.dr = some (p, b)) (k : ∀ a o, a ≠ p → a ≠ b → H a = some o → H' a = some o) (x : Drw H' p b) : Rel C O ρ σ H' := by
  obtain ⟨h1, h2, h3, h4, h5⟩ := r.drk p b hd
  have kk : Keep O H H' := fun a o n e => k a o (fun z => n (by rw [z]; exact r.sub _ h4)) (fun z => n (by rw [z]; exact r.sub _ h5)) e
  have xx : ∀ a, a = p ∨ a = b → ∃ o, H' a = some o := fun a z => by
    obtain ⟨_, _, _, e1, _, e2, _⟩ := x
    rcases z with z | z
    · rw [z]; exact ⟨_, e1⟩
    · rw [z]; exact ⟨_, e2⟩
  refine ⟨r.len, fun j s e1 => ?_, fun a o e n => ?_, fun q z => ?_, r.sub, r.mine, r.sep, fun q c e => ?_, r.hid, fun q e => ?_⟩
  · obtain ⟨y, e2, z⟩ := r.slot j s e1
    exact ⟨y, e2, z.imp (fun a o n e => ⟨n, kk a o n e⟩) fun a o f e => by
      have nO0 := (r.mine j s a e1 f).2.1
      exact k _ _ (fun z => nO0 (by rw [z]; exact h4)) (fun z => nO0 (by rw [z]; exact h5)) e⟩
  · exact k a o (fun z => n (by rw [z]; exact h2)) (fun z => n (by rw [z]; exact h3)) (r.frame a o e n)
  · by_cases h : q = p ∨ q = b
    · exact xx q h
    · obtain ⟨o, e⟩ := r.dom q z
      exact ⟨o, k q o (fun z => h (.inl z)) (fun z => h (.inr z)) e⟩
  · rw [hd] at e; cases e
    exact ⟨x, h2, h3, h4, h5⟩
  · by_cases h : q = p ∨ q = b
    · obtain ⟨o, e1⟩ := xx q h
      rw [e1] at e; cases e
    · cases q0 : H q with
      | none => exact r.stay q q0
      | some o =>
        rw [k q o (fun z => h (.inl z)) (fun z => h (.inr z)) q0] at e; cases e
/-- the context of a loop that begins here -/
def Ctx.at_ (C : Ctx) (O : Addr → Prop) (ρ : List Slot) (H : Hp) : Ctx where
  O0 := C.O0
  L := fun p => (∃ (i : Nat) (s : Slot), ρ[i]? = some s ∧ foot s p) ∨ ∃ q b, C.dr = some (q, b) ∧ (p = q ∨ p = b)
  HD := O
  H0 := H
  dr := C.dr
theorem SlotOk.ctx {C C' : Ctx} {s : Slot} {x : Option V} (h : SlotOk C O H s x) (e : C'.dr = C.dr) : SlotOk C' O H s x := by
  cases s with
  | drw => obtain ⟨p, b, e1, e2⟩ := h; exact ⟨p, b, e.trans e1, e2⟩
  | _ => exact h
theorem Rel.at_ (r : Rel C O ρ σ H) : Rel (C.at_ O ρ H) O ρ σ H where
  len := r.len
  slot := fun i s e => let ⟨x, e1, z⟩ := r.slot i s e; ⟨x, e1, z.ctx rfl⟩
  frame := fun a o e _ => e
  dom := r.dom
  sub := r.sub
  mine := fun i s a e f => ⟨(r.mine i s a e f).1, (r.mine i s a e f).2.1, .inr (.inl ⟨i, s, e, f⟩)⟩
  sep := r.sep
  drk := fun p b e => let ⟨h1, h2, h3, h4, h5⟩ := r.drk p b e; ⟨h1, .inr ⟨p, b, e, .inl rfl⟩, .inr ⟨p, b, e, .inr rfl⟩, h4, h5⟩
  hid := fun p h => .inl h
  stay := fun p e => e
theorem Rel.lO (r : Rel C O ρ σ H) {a : Addr} (h : (C.at_ O ρ H).L a) : O a := by
  rcases h with ⟨i, s, e, f⟩ | ⟨q, b, e, z⟩
  · exact (r.mine i s a e f).1
  · obtain ⟨_, _, _, h4, h5⟩ := r.drk q b e
    rcases z with z | z
    · rw [z]; exact r.sub _ h4
    · rw [z]; exact r.sub _ h5
theorem Rel.frame_back (r : Rel C O ρ σ H) (f : ∀ a o, (C.at_ O ρ H).H0 a = some o → ¬ (C.at_ O ρ H).L a → H' a = some o) : ∀ a o, C.H0 a = some o → ¬ C.L a → H' a = some o := fun a o e n => by
  refine f a o (r.frame a o e n) fun z => ?_
  rcases z with ⟨i, s, e1, f1⟩ | ⟨q, b, e1, z⟩
  · rcases (r.mine i s a e1 f1).2.2 with h | h
    · rw [e] at h; cases h
    · exact n h
  · obtain ⟨_, h2, h3, _, _⟩ := r.drk q b e1
    rcases z with z | z
    · exact n (by rw [z]; exact h2)
    · exact n (by rw [z]; exact h3)
theorem Rel.back (r : Rel C O ρ σ H) (x : Rel (C.at_ O ρ H) O' ρ' σ' H') : Rel C O' ρ' σ' H' where
  len := x.len
  slot := fun i s e => let ⟨y, e1, z⟩ := x.slot i s e; ⟨y, e1, z.ctx rfl⟩
  frame := r.frame_back x.frame
  dom := x.dom
  sub := x.sub
  mine := fun i s p e f => by
    obtain ⟨h1, h2, h3⟩ := x.mine i s p e f
    refine ⟨h1, h2, ?_⟩
    rcases h3 with h | h
    · cases q : C.H0 p with
      | none => exact .inl rfl
      | some o =>
        by_cases hL : C.L p
        · exact .inr hL
        · have h' : H p = none := h
          rw [r.frame p o q hL] at h'; cases h'
    · rcases h with ⟨j, s', e1, f1⟩ | ⟨q, b, e1, z⟩
      · exact (r.mine j s' p e1 f1).2.2
      · obtain ⟨_, h2, h3, _, _⟩ := r.drk q b e1
        rcases z with z | z
        · exact .inr (by rw [z]; exact h2)
        · exact .inr (by rw [z]; exact h3)
  sep := x.sep
  drk := fun p b e => by
    obtain ⟨h1, _, _, _, _⟩ := x.drk p b e
    obtain ⟨_, h2, h3, h4, h5⟩ := r.drk p b e
    exact ⟨h1, h2, h3, h4, h5⟩
  hid := fun p h => by
    rcases x.hid p h with z | z
    · exact r.hid p z
    · exact .inr (r.stay p z)
  stay := fun p e => r.stay p (x.stay p e)
end
end LW

namespace LW
open PySem L2

/-! ### judgements over data -/
abbrev EK := L2.St → XK
abbrev XP := List Slot → Addr → Prop
abbrev RK := List Slot → PyData → Prop
/-- where an exception may leave -/
def EOk (E : EK) (Xc : XP) (C : Ctx) : Prop := ∀ c O ρ σ H, Rel C O ρ σ H → Xc ρ c → E σ (.ref c) none H
theorem EOk.at_ {E : EK} {Xc : XP} {C : Ctx} {O : Addr → Prop} {ρ : List Slot} {σ : L2.St} {H : Hp} (e : EOk E Xc C) (r : Rel C O ρ σ H) : EOk E Xc (C.at_ O ρ H) := fun c O' ρ' σ' H' x y => e c O' ρ' σ' H' (r.back x) y

section
variable (E : EK) (Xc : XP)
def EvP (te : TE) (ρ : List Slot) (P : PyData → Prop) : Prop := ∀ C O σ H, Rel C O ρ σ H → EOk E Xc C → ∀ Q : VK, (∀ v d H', Rel C O ρ σ H' → Keep O H H' → Dn O H' v d → P d → Q v H') → te σ H Q
def EvT (tt : TT) (ρ : List Slot) (P : Bool → Prop) : Prop := ∀ C O σ H, Rel C O ρ σ H → EOk E Xc C → ∀ Q : Bool → Hp → Prop, (∀ b H', Rel C O ρ σ H' → Keep O H H' → P b → Q b H') → tt σ H Q
def EvA (ta : TA) (ρ : List Slot) (P : List PyData → Prop) : Prop := ∀ C O σ H, Rel C O ρ σ H → EOk E Xc C → ∀ Q : List V → Hp → Prop, (∀ vs ds H', Rel C O ρ σ H' → Keep O H H' → DnAll O H' vs ds → P ds → Q vs H') → ta σ H Q
def EvO (to : TO) (ρ : List Slot) (P : Option Int → Prop) : Prop := ∀ C O σ H, Rel C O ρ σ H → EOk E Xc C → ∀ Q : Option Int → Hp → Prop, (∀ o H', Rel C O ρ σ H' → Keep O H H' → P o → Q o H') → to σ H Q
/-- a new list: its items are data, the list itself is nobody's yet -/
def EvN (te : TE) (ρ : List Slot) (P : List PyData → Prop) : Prop := ∀ C O σ H, Rel C O ρ σ H → EOk E Xc C → ∀ Q : VK,
  (∀ p vs ds H' H'', Rel C O ρ σ H' → Keep O H H' → H' p = none → Same H' H'' → H'' p = some (.lst vs) → DnAll O H' vs ds → P ds → Q (.ref p) H'') → te σ H Q
/-- an item as the iterator gives it: data of the loop's start, or a new pair of such -/
def Item (O : Addr → Prop) (H1 H2 : Hp) (x : V) (H3 : Hp) (d : PyData) : Prop :=
  (H3 = H2 ∧ Dn O H1 x d) ∨ ∃ T x1 x2 d1 d2, x = .ref T ∧ H2 T = none ∧ H3 = upd H2 T (.tup [x1, x2]) ∧ d = .tuple [d1, d2] ∧ Dn O H1 x1 d1 ∧ Dn O H1 x2 d2
def Wk (O : Addr → Prop) (J : It) (H1 : Hp) (items : List PyData) : Prop :=
  ∃ Y, Walk J items.length (fun H2 => Keep O H1 H2) Y ∧ ∀ i H2 x H3, i < items.length → Keep O H1 H2 → Y i H2 x H3 → ∃ d, items[i]? = some d ∧ Item O H1 H2 x H3 d
def EvI (wi : TI) (ρ : List Slot) (P : List PyData → Prop) : Prop := ∀ C O σ H, Rel C O ρ σ H → EOk E Xc C → ∀ Rk : It → Hp → Prop, (∀ J items H', Rel C O ρ σ H' → Keep O H H' → Wk O J H' items → P items → Rk J H') → wi σ H Rk
def DG (g : TG) (J : Nat → Prop) (d : PyData) (ρ : List Slot) (N : List Slot → Prop) : Prop := ∀ C O σ H, Rel C O ρ σ H → ∀ v, Dn O H v d → ∀ Q : L2.St → Hp → Prop,
  (∀ ρ' σ', Rel C O ρ' σ' H → (∀ vs : List Nat, (∀ j, J j → j ∈ vs) → wipe σ' vs = wipe σ vs) → (∀ i : Nat, ¬ J i → ρ'[i]? = ρ[i]?) → N ρ' → Q σ' H) → g v σ H Q
def DS (ts : TS) (ρ : List Slot) (N : List Slot → Prop) (R : RK) : Prop := ∀ C O σ H (D : Ends), Rel C O ρ σ H → EOk E Xc C →
  (∀ O' ρ' σ' H', Rel C O' ρ' σ' H' → N ρ' → D.nx σ' H') → (∀ O' ρ' σ' v d H', Rel C O' ρ' σ' H' → Dn O' H' v d → R ρ' d → D.rt v H') → ts D σ H
end
/-- operations by values: pure, they may make new things -/
def RP (r : R2) (x y : PyData) (P : PyData → Prop) : Prop := ∀ (O : Addr → Prop) (H : Hp) (vx vy : V), (∀ p, O p → H p ≠ none) → Dn O H vx x → Dn O H vy y → ∀ Q : VK, (∀ v d H', Same H H' → Dn O H' v d → P d → Q v H') → r vx vy H Q
def RU (r : V → Hp → VK → Prop) (x : PyData) (P : PyData → Prop) : Prop := ∀ (O : Addr → Prop) (H : Hp) (vx : V), (∀ p, O p → H p ≠ none) → Dn O H vx x → ∀ Q : VK, (∀ v d H', Same H H' → Dn O H' v d → P d → Q v H') → r vx H Q
def RC (r : List V → Hp → VK → Prop) (ds : List PyData) (P : PyData → Prop) : Prop := ∀ (O : Addr → Prop) (H : Hp) (vs : List V), (∀ p, O p → H p ≠ none) → DnAll O H vs ds → ∀ Q : VK, (∀ v d H', Same H H' → Dn O H' v d → P d → Q v H') → r vs H Q

theorem same_upd {H : Hp} {p : Addr} {o : HO} (h : H p = none) : Same H (upd H p o) := fun b x e => by
  rw [upd_ne (ne_of_none e h)]
  exact e
section
variable {E : EK} {Xc : XP} {K : PySem.W.Frag} {ρ : List Slot} {P : PyData → Prop} {ta tb te : TE} {t u : TT} {r : R2}

theorem Rel.domN {C : Ctx} {O : Addr → Prop} {σ : L2.St} {H : Hp} (x : Rel C O ρ σ H) : ∀ p, O p → H p ≠ none := fun p h e => by
  obtain ⟨o, z⟩ := x.dom p h
  rw [e] at z; cases z
theorem EvP.mono {P' : PyData → Prop} (h : EvP E Xc te ρ P) (w : ∀ d, P d → P' d) : EvP E Xc te ρ P' := fun C O σ H x e Q q => h C O σ H x e Q fun v d H' a b c z => q v d H' a b c (w d z)
theorem ev_var {i : Nat} {d : PyData} (h : ρ[i]? = some (.dat d)) (p : P d) : EvP E Xc (tVar i) ρ P := fun C O σ H x _ Q q => by
  obtain ⟨y, e, v, e2, z⟩ := x.slot i _ h
  subst e2
  exact ⟨v, e, q v d H x (.refl O H) z p⟩
theorem ev_int {i : Int} (p : P (.int i)) : EvP E Xc (tC (.int i)) ρ P := fun C O σ H x _ Q q => q _ _ H x (.refl O H) (.int i) p
theorem ev_bl {i : Bool} (p : P (.bool i)) : EvP E Xc (tC (.bl i)) ρ P := fun C O σ H x _ Q q => q _ _ H x (.refl O H) (.bl i) p
theorem ev_str {i : Str} (p : P (.str i)) : EvP E Xc (tC (.str i)) ρ P := fun C O σ H x _ Q q => q _ _ H x (.refl O H) (.str i) p
theorem ev_non (p : P .none) : EvP E Xc (tC .non) ρ P := fun C O σ H x _ Q q => q _ _ H x (.refl O H) .non p
theorem ev_op (h : EvP E Xc ta ρ fun x => EvP E Xc tb ρ fun y => RP r x y P) : EvP E Xc (tOp r ta tb) ρ P := fun C O σ H x e Q q =>
  h C O σ H x e _ fun v1 d1 H1 x1 k1 y1 h1 => h1 C O σ H1 x1 e _ fun v2 d2 H2 x2 k2 y2 h2 =>
    h2 O H2 v1 v2 x2.domN (y1.keep k2) y2 Q fun v d H3 s z p => q v d H3 (x2.grow s) ((k1.trans k2).trans (.of s)) z p
theorem ev_un {r : V → Hp → VK → Prop} (h : EvP E Xc ta ρ fun x => RU r x P) : EvP E Xc (tUn r ta) ρ P := fun C O σ H x e Q q =>
  h C O σ H x e _ fun v1 d1 H1 x1 k1 y1 h1 => h1 O H1 v1 x1.domN y1 Q fun v d H3 s z p => q v d H3 (x1.grow s) (k1.trans (.of s)) z p
theorem ea_nil {P : List PyData → Prop} (p : P []) : EvA E Xc tNil ρ P := fun C O σ H x _ Q q => q [] [] H x (.refl O H) .nil p
theorem ea_cons {P : List PyData → Prop} {tr : TA} (h : EvP E Xc ta ρ fun d => EvA E Xc tr ρ fun ds => P (d :: ds)) : EvA E Xc (tCons ta tr) ρ P := fun C O σ H x e Q q =>
  h C O σ H x e _ fun v1 d1 H1 x1 k1 y1 h1 => h1 C O σ H1 x1 e _ fun vs ds H2 x2 k2 y2 p => q (v1 :: vs) (d1 :: ds) H2 x2 (k1.trans k2) (.cons (y1.keep k2) y2) p
theorem ev_cb {r : List V → Hp → VK → Prop} {ta : TA} (h : EvA E Xc ta ρ fun ds => RC r ds P) : EvP E Xc (tCB r ta) ρ P := fun C O σ H x e Q q =>
  h C O σ H x e _ fun vs ds H1 x1 k1 y1 h1 => h1 O H1 vs x1.domN y1 Q fun v d H3 s z p => q v d H3 (x1.grow s) (k1.trans (.of s)) z p
theorem ev_tup {ta : TA} (h : EvA E Xc ta ρ fun ds => ds.length ≤ 100000 ∧ P (.tuple ds)) : EvP E Xc (tTup ta) ρ P := fun C O σ H x e Q q =>
  h C O σ H x e _ fun vs ds H1 x1 k1 y1 ⟨hl, p⟩ => ⟨by rw [y1.length]; exact Nat.le_trans hl (by decide), fun a n => q _ _ _ (x1.grow (same_upd n)) (k1.trans (.of (same_upd n))) (.tup (x1.notO n) upd_same (y1.keep (.of (same_upd n)))) p⟩
theorem ev_lst {ta : TA} (h : EvA E Xc ta ρ fun ds => ds.length ≤ 100000 ∧ P (.list ds)) : EvP E Xc (tLst ta) ρ P := fun C O σ H x e Q q =>
  h C O σ H x e _ fun vs ds H1 x1 k1 y1 ⟨hl, p⟩ => ⟨by rw [y1.length]; exact Nat.le_trans hl (by decide), fun a n => q _ _ _ (x1.grow (same_upd n)) (k1.trans (.of (same_upd n))) (.lst (x1.notO n) upd_same (y1.keep (.of (same_upd n)))) p⟩
/-- a new list, for its owner -/
theorem en_lst {P : List PyData → Prop} {ta : TA} (h : EvA E Xc ta ρ fun ds => ds.length ≤ 100000 ∧ P ds) : EvN E Xc (tLst ta) ρ P := fun C O σ H x e Q q =>
  h C O σ H x e _ fun vs ds H1 x1 k1 y1 ⟨hl, p⟩ => ⟨by rw [y1.length]; exact Nat.le_trans hl (by decide), fun a n => q a vs ds H1 _ x1 k1 n (same_upd n) upd_same y1 p⟩
/-- a constant pair -/
theorem ev_if (h : EvT E Xc t ρ fun b => if b = true then EvP E Xc ta ρ P else EvP E Xc tb ρ P) : EvP E Xc (tIf t ta tb) ρ P := fun C O σ H x e Q q =>
  h C O σ H x e _ fun b H1 x1 k1 p => by
    cases b with
    | true => exact p C O σ H1 x1 e Q fun v d H2 x2 k2 => q v d H2 x2 (k1.trans k2)
    | false => exact p C O σ H1 x1 e Q fun v d H2 x2 k2 => q v d H2 x2 (k1.trans k2)
/-! ### tests -/
theorem et_test {P : Bool → Prop} (h : EvP E Xc te ρ fun d => ∃ b, d = .bool b ∧ P b) : EvT E Xc (tTest te) ρ P := fun C O σ H x e Q q =>
  h C O σ H x e _ fun v d H1 x1 k1 y ⟨b, eb, p⟩ => by
    subst eb; cases y
    exact ⟨b, rfl, q b H1 x1 k1 p⟩
theorem et_B {P : Bool → Prop} (h : EvP E Xc te ρ fun d => ∃ b, d = .bool b ∧ P b) : EvT E Xc (tB te) ρ P := fun C O σ H x e Q q =>
  h C O σ H x e _ fun v d H1 x1 k1 y ⟨b, eb, p⟩ => by
    subst eb; cases y
    exact ⟨b, rfl, q b H1 x1 k1 p⟩
theorem et_and {P : Bool → Prop} (h : EvT E Xc t ρ fun c => if c = true then EvT E Xc u ρ P else P false) : EvT E Xc (tAnd t u) ρ P := fun C O σ H x e Q q =>
  h C O σ H x e _ fun b H1 x1 k1 p => by
    cases b with
    | true => exact p C O σ H1 x1 e Q fun v H2 x2 k2 => q v H2 x2 (k1.trans k2)
    | false => exact q false H1 x1 k1 p
theorem et_or {P : Bool → Prop} (h : EvT E Xc t ρ fun c => if c = true then P true else EvT E Xc u ρ P) : EvT E Xc (tOr t u) ρ P := fun C O σ H x e Q q =>
  h C O σ H x e _ fun b H1 x1 k1 p => by
    cases b with
    | false => exact p C O σ H1 x1 e Q fun v H2 x2 k2 => q v H2 x2 (k1.trans k2)
    | true => exact q true H1 x1 k1 p
theorem et_not {P : Bool → Prop} (h : EvT E Xc t ρ fun c => P (!c)) : EvT E Xc (tNot t) ρ P := fun C O σ H x e Q q => h C O σ H x e _ fun b H1 x1 k1 p => q (!b) H1 x1 k1 p
theorem et_yes {P : Bool → Prop} (h : P true) : EvT E Xc tYes ρ P := fun C O σ H x e Q q => q true H x (.refl O H) h
theorem ev_andV (h : EvP E Xc ta ρ fun d => ∃ c, d = .bool c ∧ if c = true then EvP E Xc tb ρ P else P (.bool false)) : EvP E Xc (tAndV ta tb) ρ P := fun C O σ H x e Q q =>
  h C O σ H x e _ fun v d H1 x1 k1 y ⟨b, eb, p⟩ => by
    subst eb; cases y
    refine ⟨b, rfl, ?_⟩
    cases b with
    | true => exact p C O σ H1 x1 e Q fun v d H2 x2 k2 => q v d H2 x2 (k1.trans k2)
    | false => exact q _ _ H1 x1 k1 (.bl false) p
theorem ev_orV (h : EvP E Xc ta ρ fun d => ∃ c, d = .bool c ∧ if c = true then P (.bool true) else EvP E Xc tb ρ P) : EvP E Xc (tOrV ta tb) ρ P := fun C O σ H x e Q q =>
  h C O σ H x e _ fun v d H1 x1 k1 y ⟨b, eb, p⟩ => by
    subst eb; cases y
    refine ⟨b, rfl, ?_⟩
    cases b with
    | false => exact p C O σ H1 x1 e Q fun v d H2 x2 k2 => q v d H2 x2 (k1.trans k2)
    | true => exact q _ _ H1 x1 k1 (.bl true) p
theorem ev_notV (h : EvP E Xc ta ρ fun d => ∃ c, d = .bool c ∧ P (.bool (!c))) : EvP E Xc (tNotV ta) ρ P := fun C O σ H x e Q q =>
  h C O σ H x e _ fun v d H1 x1 k1 y ⟨b, eb, p⟩ => by
    subst eb; cases y
    exact ⟨b, rfl, q _ _ H1 x1 k1 (.bl _) p⟩
theorem ev_chain {r r' : R2} {tc : TE} (h : EvP E Xc ta ρ fun x => EvP E Xc tb ρ fun y => RP r x y fun z => ∃ c, z = .bool c ∧ if c = true then EvP E Xc tc ρ (fun w => RP r' y w P) else P (.bool false)) : EvP E Xc (tChain r r' ta tb tc) ρ P := fun C O σ H x e Q q =>
  h C O σ H x e _ fun v1 d1 H1 x1 k1 y1 h1 => h1 C O σ H1 x1 e _ fun v2 d2 H2 x2 k2 y2 h2 =>
    h2 O H2 v1 v2 x2.domN (y1.keep k2) y2 _ fun v d H3 s z ⟨c, ec, p⟩ => by
      subst ec; cases z
      have x3 := x2.grow s
      have k3 : Keep O H H3 := (k1.trans k2).trans (.of s)
      refine ⟨c, rfl, ?_⟩
      cases c with
      | false => exact q _ _ H3 x3 k3 (.bl false) p
      | true => exact p C O σ H3 x3 e _ fun v4 d4 H4 x4 k4 y4 h4 => h4 O H4 v2 v4 x4.domN ((y2.keep (.of s)).keep k4) y4 Q fun v d H5 s5 z5 p5 => q v d H5 (x4.grow s5) ((k3.trans k4).trans (.of s5)) z5 p5

/-! ### operations -/
theorem rp_int {f : Int → Int → Int} {a b : Int} (p : P (.int (f a b))) : RP (rI0 fun i j => .int (f i j)) (.int a) (.int b) P := fun O H vx vy _ x y Q q => by
  cases x; cases y
  exact ⟨a, b, rfl, rfl, q _ _ H (Same.refl H) (.int _) p⟩
theorem rp_bl {f : Int → Int → Bool} {a b : Int} (p : P (.bool (f a b))) : RP (rI0 fun i j => .bl (f i j)) (.int a) (.int b) P := fun O H vx vy _ x y Q q => by
  cases x; cases y
  exact ⟨a, b, rfl, rfl, q _ _ H (Same.refl H) (.bl _) p⟩
theorem rp_intC {f : Int → Int → Int} {Cd : Int → Int → Prop} {a b : Int} (h : Cd a b) (p : P (.int (f a b))) : RP (rI Cd fun i j => .int (f i j)) (.int a) (.int b) P := fun O H vx vy _ x y Q q => by
  cases x; cases y
  exact ⟨a, b, rfl, rfl, h, q _ _ H (Same.refl H) (.int _) p⟩
theorem rp_or1 {r r' : R2} {x y : PyData} (h : RP r x y P) : RP (fun x y H Q => r x y H Q ∨ r' x y H Q) x y P := fun O H vx vy d x y Q q => .inl (h O H vx vy d x y Q q)
theorem rp_or2 {r r' : R2} {x y : PyData} (h : RP r' x y P) : RP (fun x y H Q => r x y H Q ∨ r' x y H Q) x y P := fun O H vx vy d x y Q q => .inr (h O H vx vy d x y Q q)
theorem ru_neg {a : Int} (p : P (.int (-a))) : RU (rU fun i => .int (-i)) (.int a) P := fun O H vx _ x Q q => by
  cases x
  exact ⟨a, rfl, q _ _ H (Same.refl H) (.int _) p⟩
theorem rp_eq {x y : PyData} (hx : SeqAt.shaped x = true) (hy : SeqAt.shaped y = true) (p : P (.bool (PyData.eqv x y))) : RP (rEqD K) x y P := fun O H vx vy _ zx zy Q q =>
  ⟨x, y, Dn.dp _ _ zx, Dn.dp _ _ zy, hx, hy, q _ _ H (Same.refl H) (.bl _) p⟩
theorem rp_ne {x y : PyData} (hx : SeqAt.shaped x = true) (hy : SeqAt.shaped y = true) (p : P (.bool (!PyData.eqv x y))) : RP (rNeD K) x y P := fun O H vx vy _ zx zy Q q =>
  ⟨x, y, Dn.dp _ _ zx, Dn.dp _ _ zy, hx, hy, q _ _ H (Same.refl H) (.bl _) p⟩
theorem atI_dn {O : Addr → Prop} {H : Hp} {vs : List V} {ds : List PyData} {i : Int} {d : PyData} (y : DnAll O H vs ds) (h : atI ds i = some d) : ∃ v, atI vs i = some v ∧ Dn O H v d := by
  unfold atI at h ⊢
  rw [y.length]
  cases e : ixN ds.length i with
  | none => rw [e] at h; cases h
  | some j =>
    rw [e] at h
    obtain ⟨v, h1, h2⟩ := y.get (i := j) h
    exact ⟨v, h1, h2⟩
theorem rp_ixL {ds : List PyData} {i : Int} {d : PyData} (h : atI ds i = some d) (p : P d) : RP (rIx K) (.list ds) (.int i) P := fun O H vx vy _ x y Q q => by
  cases x with
  | lst n e r =>
    cases y
    obtain ⟨v, h1, h2⟩ := atI_dn r h
    exact .inl ⟨_, _, i, v, rfl, rfl, SqL.of e, h1, q v d H (Same.refl H) h2 p⟩
theorem rp_ixT {ds : List PyData} {i : Int} {d : PyData} (h : atI ds i = some d) (p : P d) : RP (rIx K) (.tuple ds) (.int i) P := fun O H vx vy _ x y Q q => by
  cases x with
  | tup n e r =>
    cases y
    obtain ⟨v, h1, h2⟩ := atI_dn r h
    exact .inr (.inl ⟨_, _, i, v, rfl, rfl, SqT.of e, h1, q v d H (Same.refl H) h2 p⟩)
/-- an item of an own list -/
theorem ev_ixO {i : Nat} {a : Addr} {ds : List PyData} (h : ρ[i]? = some (.own a ds)) (p : EvP E Xc tb ρ fun y => ∃ k d, y = .int k ∧ atI ds k = some d ∧ P d) : EvP E Xc (tOp (rIx K) (tVar i) tb) ρ P := fun C O σ H x e Q q => by
  obtain ⟨y, e1, e2, _⟩ := x.slot i _ h
  subst e2
  refine ⟨_, e1, p C O σ H x e _ fun v1 d1 H1 x1 k1 y1 ⟨k, d, ek, ha, pd⟩ => ?_⟩
  subst ek; cases y1
  obtain ⟨y, f1, f2, vs, f3, f4⟩ := x1.slot i _ h
  obtain ⟨v, g1, g2⟩ := atI_dn f4 ha
  exact .inl ⟨a, vs, k, v, rfl, rfl, SqL.of f3, g1, q v d H1 x1 k1 g2 pd⟩
theorem inV_ints (i : Int) (ns : List Int) : inV (.int i) (ns.map V.int) = decide (i ∈ ns) := by
  unfold inV
  induction ns with
  | nil => rfl
  | cons n ns ih =>
    rw [List.map_cons, List.any_cons, ih]
    show (eqV (.int n) (.int i) || decide (i ∈ ns)) = _
    have : eqV (.int n) (.int i) = (n == i) := rfl
    rw [this, Bool.eq_iff_iff]
    simp only [Bool.or_eq_true, beq_iff_eq, decide_eq_true_eq, List.mem_cons]
    constructor
    · rintro (h | h)
      · exact .inl h.symm
      · exact .inr h
    · rintro (h | h)
      · exact .inl h.symm
      · exact .inr h
theorem flat_ints (ns : List Int) : (ns.map V.int).all flatV = true := by
  rw [List.all_eq_true]
  intro x hx
  obtain ⟨n, _, rfl⟩ := List.mem_map.mp hx
  rfl
theorem rp_in {neg : Bool} {i : Int} {ns : List Int} (p : P (.bool (if neg then !decide (i ∈ ns) else decide (i ∈ ns)))) : RP (rIn K neg) (.int i) (.tuple (ns.map .int)) P := fun O H vx vy _ x y Q q => by
  cases x
  cases y with
  | tup n e r =>
    have e2 := r.ints_eq
    subst e2
    refine ⟨_, _, rfl, .inr (SqT.of e), rfl, flat_ints ns, q _ _ H (Same.refl H) (.bl _) ?_⟩
    rw [inV_ints]; exact p
theorem rp_is {a b : Bool} (p : P (.bool (decide (a = b)))) : RP rIsB (.bool a) (.bool b) P := fun O H vx vy _ x y Q q => by
  cases x; cases y
  exact ⟨a, b, rfl, rfl, q _ _ H (Same.refl H) (.bl _) p⟩
theorem rp_isnot {a b : Bool} (p : P (.bool (!decide (a = b)))) : RP rNotB (.bool a) (.bool b) P := fun O H vx vy _ x y Q q => by
  cases x; cases y
  exact ⟨a, b, rfl, rfl, q _ _ H (Same.refl H) (.bl _) p⟩
def isNone : PyData → Bool
  | .none => true
  | _ => false
theorem none_dn {O : Addr → Prop} {H : Hp} {v : V} {d : PyData} (x : Dn O H v d) : decide (v = .non) = isNone d := by
  cases x <;> simp [isNone]
theorem rp_isN {x : PyData} (p : P (.bool (isNone x))) : RP (fun x y H Q => y = .non ∧ Q (.bl (decide (x = .non))) H) x .none P := fun O H vx vy _ x y Q q => by
  cases y
  refine ⟨rfl, ?_⟩
  rw [none_dn x]
  exact q _ _ H (Same.refl H) (.bl _) p
theorem rp_notN {x : PyData} (p : P (.bool (!isNone x))) : RP (fun x y H Q => y = .non ∧ Q (.bl (!decide (x = .non))) H) x .none P := fun O H vx vy _ x y Q q => by
  cases y
  refine ⟨rfl, ?_⟩
  rw [none_dn x]
  exact q _ _ H (Same.refl H) (.bl _) p
theorem no_of {O : Addr → Prop} {H : Hp} {p : Addr} (h : ∀ p, O p → H p ≠ none) (n : H p = none) : ¬ O p := fun z => h p z n
theorem rp_cat {ds es : List PyData} (hl : ds.length + es.length ≤ 100000) (p : P (.list (ds ++ es))) : RP rCat (.list ds) (.list es) P := fun O H vx vy hd x y Q q => by
  cases x with
  | lst n e r =>
    cases y with
    | lst n2 e2 r2 =>
      refine ⟨_, _, _, _, rfl, rfl, e, e2, ?_, fun a na => q _ _ _ (same_upd na) (.lst (no_of hd na) upd_same ((r.append r2).keep (.of (same_upd na)))) p⟩
      rw [r.length, r2.length]; exact Nat.le_trans hl (by decide)
theorem rp_rep {ds : List PyData} {k : Int} (h1 : -(2 ^ 62) ≤ k ∧ k < 2 ^ 62) (hl : ds.length * k.toNat ≤ 100000) (p : P (.list (List.replicate k.toNat ds).flatten)) : RP rRep (.list ds) (.int k) P := fun O H vx vy hd x y Q q => by
  cases x with
  | lst n e r =>
    cases y
    refine ⟨_, k, _, rfl, rfl, e, by omega, by omega, ?_, fun a na => q _ _ _ (same_upd na) (.lst (no_of hd na) upd_same ((r.rep k.toNat).keep (.of (same_upd na)))) p⟩
    rw [r.length]; exact Nat.le_trans hl (by decide)
/-- [..] * k, for its owner -/
theorem en_rep {P : List PyData → Prop} (h : EvP E Xc ta ρ fun x => EvP E Xc tb ρ fun y => ∃ ds k, x = .list ds ∧ y = .int k ∧ (-(2 ^ 62) ≤ k ∧ k < 2 ^ 62) ∧ ds.length * k.toNat ≤ 100000 ∧ P (List.replicate k.toNat ds).flatten) :
    EvN E Xc (tOp rRep ta tb) ρ P := fun C O σ H x e Q q =>
  h C O σ H x e _ fun v1 d1 H1 x1 k1 y1 h1 => h1 C O σ H1 x1 e _ fun v2 d2 H2 x2 k2 y2 ⟨ds, k, e1, e2, hk, hl, p⟩ => by
    subst e1; subst e2
    have y1 := y1.keep k2
    cases y1 with
    | lst n e r =>
      cases y2
      refine ⟨_, k, _, rfl, rfl, e, by omega, by omega, ?_, fun a na => q a _ _ H2 _ x2 (k1.trans k2) na (same_upd na) upd_same (r.rep k.toNat) p⟩
      rw [r.length]; exact Nat.le_trans hl (by decide)
theorem addStr_rp {x y : Str} (hl : x.length + y.length ≤ 100000) (p : P (.str (x ++ y))) : RP (fun x y H Q => ∃ i j, x = .str i ∧ y = .str j ∧ i.length + j.length ≤ sizeLine ∧ Q (.str (i ++ j)) H) (.str x) (.str y) P := fun O H vx vy _ a b Q q => by
  cases a; cases b
  exact ⟨x, y, rfl, rfl, Nat.le_trans hl (by decide), q _ _ H (Same.refl H) (.str _) p⟩
end
end LW

namespace LW
open PySem L2
section
variable {E : EK} {Xc : XP} {K : PySem.W.Frag} {ρ : List Slot} {P : PyData → Prop} {ta tb te : TE} {t u : TT} {r : R2}
/-! ### built-ins -/
def lenD : PyData → Option Nat
  | .list ds => some ds.length
  | .tuple ds => some ds.length
  | .str x => if x.length ≤ 100000 then some x.length else none
  | _ => none
theorem rc_len {d : PyData} {n : Nat} (h : lenD d = some n) (p : P (.int n)) : RC (fun xs H Q => ∃ x n, xs = [x] ∧ LenV K x H n ∧ Q (.int n) H) [d] P := fun O H vs _ y Q q => by
  cases y with
  | cons y yr =>
    cases yr
    cases y with
    | lst a e r => cases h; exact ⟨_, _, rfl, .inl ⟨_, SqL.of e, rfl⟩, q _ _ H (Same.refl H) (.int _) (by rw [r.length]; exact p)⟩
    | tup a e r => cases h; exact ⟨_, _, rfl, .inr ⟨_, SqT.of e, rfl⟩, q _ _ H (Same.refl H) (.int _) (by rw [r.length]; exact p)⟩
    | str x =>
      have h : (if x.length ≤ 100000 then some x.length else none) = some n := h
      by_cases hx : x.length ≤ 100000
      · rw [if_pos hx] at h; cases h; exact ⟨_, _, rfl, ⟨Nat.le_trans hx (by decide), rfl⟩, q _ _ H (Same.refl H) (.int _) p⟩
      · rw [if_neg hx] at h; cases h
    | _ => cases h
/-- len of an own list -/
theorem ev_lenO {i : Nat} {a : Addr} {ds : List PyData} (h : ρ[i]? = some (.own a ds)) (p : P (.int ds.length)) : EvP E Xc (tCB (fun xs H Q => ∃ x n, xs = [x] ∧ LenV K x H n ∧ Q (.int n) H) (tCons (tVar i) tNil)) ρ P := fun C O σ H x e Q q => by
  obtain ⟨y, e1, e2, vs, e3, e4⟩ := x.slot i _ h
  subst e2
  refine ⟨_, e1, _, _, rfl, .inl ⟨vs, SqL.of e3, rfl⟩, q _ (.int ds.length) H x (.refl O H) ?_ p⟩
  rw [e4.length]; exact .int _
theorem rc_abs {i : Int} (p : P (.int i.natAbs)) : RC (fun xs H Q => ∃ i, xs = [.int i] ∧ Q (.int (if i < 0 then -i else i)) H) [.int i] P := fun O H vs _ y Q q => by
  cases y with
  | cons y yr =>
    cases yr; cases y
    refine ⟨i, rfl, q _ (.int i.natAbs) H (Same.refl H) ?_ p⟩
    have e : (if i < 0 then -i else i) = (i.natAbs : Int) := by split <;> omega
    rw [e]; exact .int _
theorem rc_min {i j : Int} (p : P (.int (min i j))) : RC (fun xs H Q => ∃ i j, xs = [.int i, .int j] ∧ Q (.int (if j < i then j else i)) H) [.int i, .int j] P := fun O H vs _ y Q q => by
  cases y with
  | cons y yr =>
    cases yr with
    | cons y2 yr =>
      cases yr; cases y; cases y2
      refine ⟨i, j, rfl, q _ (.int (min i j)) H (Same.refl H) ?_ p⟩
      have e : (if j < i then j else i) = min i j := by split <;> omega
      rw [e]; exact .int _
theorem rc_all {bs : List Bool} (p : P (.bool (bs.all id))) : RC (rAll K) [.list (bs.map .bool)] P := fun O H vs _ y Q q => by
  cases y with
  | cons y yr =>
    cases yr
    cases y with
    | lst a e r => rw [r.bls_eq] at e; exact ⟨_, bs, rfl, SqL.of e, q _ _ H (Same.refl H) (.bl _) p⟩
theorem rc_any {bs : List Bool} (p : P (.bool (bs.any id))) : RC (rAny K) [.list (bs.map .bool)] P := fun O H vs _ y Q q => by
  cases y with
  | cons y yr =>
    cases yr
    cases y with
    | lst a e r => rw [r.bls_eq] at e; exact ⟨_, bs, rfl, SqL.of e, q _ _ H (Same.refl H) (.bl _) p⟩
theorem rc_sum {ns : List Int} (p : P (.int ns.sum)) : RC (rSum K) [.list (ns.map .int)] P := fun O H vs _ y Q q => by
  cases y with
  | cons y yr =>
    cases yr
    cases y with
    | lst a e r => rw [r.ints_eq] at e; exact ⟨_, ns, rfl, SqL.of e, q _ _ H (Same.refl H) (.int _) p⟩
theorem rc_list {d : PyData} {ds : List PyData} (h : d = .list ds ∨ d = .tuple ds) (p : P (.list ds)) : RC (fun xs H Q => ∃ p ys, xs = [.ref p] ∧ (SqL K H p ys ∨ SqT K H p ys) ∧ ∀ l, H l = none → Q (.ref l) (upd H l (.lst ys))) [d] P := fun O H vs hd y Q q => by
  cases y with
  | cons y yr =>
    cases yr
    rcases h with h | h <;> subst h
    · cases y with
      | lst a e r => exact ⟨_, _, rfl, .inl (SqL.of e), fun l n => q _ _ _ (same_upd n) (.lst (no_of hd n) upd_same (r.keep (.of (same_upd n)))) p⟩
    · cases y with
      | tup a e r => exact ⟨_, _, rfl, .inr (SqT.of e), fun l n => q _ _ _ (same_upd n) (.lst (no_of hd n) upd_same (r.keep (.of (same_upd n)))) p⟩
/-- list(xs), for its owner -/
theorem en_list {P : List PyData → Prop} {ta : TA} (h : EvA E Xc ta ρ fun es => ∃ ds, es = [.list ds] ∧ P ds) : EvN E Xc (tCB (fun xs H Q => ∃ p ys, xs = [.ref p] ∧ (SqL K H p ys ∨ SqT K H p ys) ∧ ∀ l, H l = none → Q (.ref l) (upd H l (.lst ys))) ta) ρ P := fun C O σ H x e Q q =>
  h C O σ H x e _ fun vs es H1 x1 k1 y1 ⟨ds, e1, p⟩ => by
    subst e1
    cases y1 with
    | cons y yr =>
      cases yr
      cases y with
      | lst a e r => exact ⟨_, _, rfl, .inl (SqL.of e), fun l n => q l _ ds H1 _ x1 k1 n (same_upd n) upd_same r p⟩
/-! isinstance -/
def tyD : PyData → String
  | .none => "NoneType"
  | .bool _ => "bool"
  | .int _ => "int"
  | .str _ => "str"
  | .list _ => "list"
  | .tuple _ => "tuple"
  | .dict _ => "dict"
theorem tyX_dn {O : Addr → Prop} {H : Hp} {v : V} {d : PyData} (x : Dn O H v d) : TyX K H v (.type (tyD d)) := by
  cases x with
  | non => exact .base .non
  | bl b => exact .base (.bl b)
  | int i => exact .base (.int i)
  | str s => exact .base (.str s)
  | lst n e r => exact .base (.lst e)
  | tup n e r => exact .base (.tup e)
theorem ev_isi {T : String} {b : PyData → Bool} (hb : ∀ d : PyData, kitB (tyD d) T = some (b d)) (h : EvP E Xc ta ρ fun d => P (.bool (b d))) : EvP E Xc (tCB (rIsi K) (tCons ta (tCons (tC (.ty T)) tNil))) ρ P := fun C O σ H x e Q q =>
  h C O σ H x e _ fun v d H1 x1 k1 y p => ⟨v, .ty T, _, _, b d, rfl, .ty T, tyX_dn y, kit_ty (hb d), q _ _ H1 x1 k1 (.bl _) p⟩
def isIntD : PyData → Bool
  | .int _ => true
  | .bool _ => true
  | _ => false
def isBoolD : PyData → Bool
  | .bool _ => true
  | _ => false
def isListD : PyData → Bool
  | .list _ => true
  | _ => false
def isTupD : PyData → Bool
  | .tuple _ => true
  | _ => false
def isStrD : PyData → Bool
  | .str _ => true
  | _ => false
theorem kit_int (d : PyData) : kitB (tyD d) "int" = some (isIntD d) := by
  cases d with
  | none => show kitB "NoneType" "int" = some false; decide +kernel
  | bool => show kitB "bool" "int" = some true; decide +kernel
  | int => show kitB "int" "int" = some true; decide +kernel
  | str => show kitB "str" "int" = some false; decide +kernel
  | list => show kitB "list" "int" = some false; decide +kernel
  | tuple => show kitB "tuple" "int" = some false; decide +kernel
  | dict => show kitB "dict" "int" = some false; decide +kernel
theorem kit_bool (d : PyData) : kitB (tyD d) "bool" = some (isBoolD d) := by
  cases d with
  | none => show kitB "NoneType" "bool" = some false; decide +kernel
  | bool => show kitB "bool" "bool" = some true; decide +kernel
  | int => show kitB "int" "bool" = some false; decide +kernel
  | str => show kitB "str" "bool" = some false; decide +kernel
  | list => show kitB "list" "bool" = some false; decide +kernel
  | tuple => show kitB "tuple" "bool" = some false; decide +kernel
  | dict => show kitB "dict" "bool" = some false; decide +kernel
theorem kit_list (d : PyData) : kitB (tyD d) "list" = some (isListD d) := by
  cases d with
  | none => show kitB "NoneType" "list" = some false; decide +kernel
  | bool => show kitB "bool" "list" = some false; decide +kernel
  | int => show kitB "int" "list" = some false; decide +kernel
  | str => show kitB "str" "list" = some false; decide +kernel
  | list => show kitB "list" "list" = some true; decide +kernel
  | tuple => show kitB "tuple" "list" = some false; decide +kernel
  | dict => show kitB "dict" "list" = some false; decide +kernel
theorem kit_tup (d : PyData) : kitB (tyD d) "tuple" = some (isTupD d) := by
  cases d with
  | none => show kitB "NoneType" "tuple" = some false; decide +kernel
  | bool => show kitB "bool" "tuple" = some false; decide +kernel
  | int => show kitB "int" "tuple" = some false; decide +kernel
  | str => show kitB "str" "tuple" = some false; decide +kernel
  | list => show kitB "list" "tuple" = some false; decide +kernel
  | tuple => show kitB "tuple" "tuple" = some true; decide +kernel
  | dict => show kitB "dict" "tuple" = some false; decide +kernel
theorem kit_str (d : PyData) : kitB (tyD d) "str" = some (isStrD d) := by
  cases d with
  | none => show kitB "NoneType" "str" = some false; decide +kernel
  | bool => show kitB "bool" "str" = some false; decide +kernel
  | int => show kitB "int" "str" = some false; decide +kernel
  | str => show kitB "str" "str" = some true; decide +kernel
  | list => show kitB "list" "str" = some false; decide +kernel
  | tuple => show kitB "tuple" "str" = some false; decide +kernel
  | dict => show kitB "dict" "str" = some false; decide +kernel
theorem ev_isInt (h : EvP E Xc ta ρ fun d => P (.bool (isIntD d))) : EvP E Xc (tCB (rIsi K) (tCons ta (tCons (tC (.ty "int")) tNil))) ρ P := ev_isi kit_int h
theorem ev_isBool (h : EvP E Xc ta ρ fun d => P (.bool (isBoolD d))) : EvP E Xc (tCB (rIsi K) (tCons ta (tCons (tC (.ty "bool")) tNil))) ρ P := ev_isi kit_bool h
theorem ev_isList (h : EvP E Xc ta ρ fun d => P (.bool (isListD d))) : EvP E Xc (tCB (rIsi K) (tCons ta (tCons (tC (.ty "list")) tNil))) ρ P := ev_isi kit_list h
theorem ev_isTup (h : EvP E Xc ta ρ fun d => P (.bool (isTupD d))) : EvP E Xc (tCB (rIsi K) (tCons ta (tCons (tC (.ty "tuple")) tNil))) ρ P := ev_isi kit_tup h
theorem ev_isStr (h : EvP E Xc ta ρ fun d => P (.bool (isStrD d))) : EvP E Xc (tCB (rIsi K) (tCons ta (tCons (tC (.ty "str")) tNil))) ρ P := ev_isi kit_str h
/-! ### slices -/
def cutD (ds : List PyData) (lo hi : Option Int) : List PyData := (ds.drop (HT.sIx ds.length 0 lo)).take (HT.sIx ds.length ds.length hi - HT.sIx ds.length 0 lo)
theorem eo_none {P : Option Int → Prop} (p : P none) : EvO E Xc tNoPart ρ P := fun C O σ H x _ Q q => q none H x (.refl O H) p
theorem eo_some {P : Option Int → Prop} (h : EvP E Xc te ρ fun d => ∃ i, d = .int i ∧ P (some i)) : EvO E Xc (tPart te) ρ P := fun C O σ H x e Q q =>
  h C O σ H x e _ fun v d H1 x1 k1 y ⟨i, ei, p⟩ => by subst ei; cases y; exact ⟨i, rfl, q _ H1 x1 k1 p⟩
theorem ev_sl {tl th : TO} (h : EvP E Xc te ρ fun d => EvO E Xc tl ρ fun lo => EvO E Xc th ρ fun hi => ∃ ds, d = .list ds ∧ P (.list (cutD ds lo hi))) : EvP E Xc (tSl (rSlL K) te tl th) ρ P := fun C O σ H x e Q q =>
  h C O σ H x e _ fun v d H1 x1 k1 y h1 => h1 C O σ H1 x1 e _ fun lo H2 x2 k2 h2 => h2 C O σ H2 x2 e _ fun hi H3 x3 k3 ⟨ds, ed, p⟩ => by
    subst ed
    have y3 := (y.keep k2).keep k3
    cases y3 with
    | lst n e r =>
      refine ⟨_, _, rfl, SqL.of e, fun a na => q _ _ _ (x3.grow (same_upd na)) (((k1.trans k2).trans k3).trans (.of (same_upd na))) (.lst (x3.notO na) upd_same ?_) p⟩
      unfold cutV cutD
      rw [r.length]
      exact ((r.drop _).take _).keep (.of (same_upd na))
theorem ev_rev (h : EvP E Xc te ρ fun d => ∃ ds, d = .list ds ∧ P (.list ds.reverse)) : EvP E Xc (tRevL K te) ρ P := fun C O σ H x e Q q =>
  h C O σ H x e _ fun v d H1 x1 k1 y ⟨ds, ed, p⟩ => by
    subst ed
    cases y with
    | lst n e r => exact ⟨_, _, rfl, SqL.of e, fun a na => q _ _ _ (x1.grow (same_upd na)) (k1.trans (.of (same_upd na))) (.lst (x1.notO na) upd_same (r.reverse.keep (.of (same_upd na)))) p⟩
/-! ### calls of the text's own defs -/
def PSp (R : List PyData → (PyData → Prop) → Prop) : Sp := fun vs H Q _ => ∃ (O : Addr → Prop) (ds : List PyData) (P : PyData → Prop), (∀ p, O p → H p ≠ none) ∧ DnAll O H vs ds ∧ R ds P ∧ ∀ v d H', Same H H' → Dn O H' v d → P d → Q v H'
def DSp (R : List PyData → (PyData → Prop) → Prop) : Sp := fun vs H Q _ => ∃ (O : Addr → Prop) (p b : Addr) (ws : List V) (ds : List PyData) (P : PyData → Prop), vs = .ref p :: ws ∧ (∀ p, O p → H p ≠ none) ∧ Drw H p b ∧ O p ∧ O b ∧ DnAll O H ws ds ∧ R ds P ∧
  ∀ v d H', (∀ a o, a ≠ p → a ≠ b → H a = some o → H' a = some o) → Drw H' p b → Dn O H' v d → P d → Q v H'
theorem ev_call {R : List PyData → (PyData → Prop) → Prop} {E' : XK} {ta : TA} (h : EvA E Xc ta ρ fun ds => R ds P) : EvP E Xc (tCall (PSp R) [] E' ta) ρ P := fun C O σ H x e Q q =>
  h C O σ H x e _ fun vs ds H1 x1 k1 y1 h1 => ⟨O, ds, P, x1.domN, by rw [List.append_nil]; exact y1, h1, fun v d H2 s z p => q v d H2 (x1.grow s) (k1.trans (.of s)) z p⟩
theorem ev_draw {R : List PyData → (PyData → Prop) → Prop} {E' : XK} {i : Nat} {tr : TA} (hi : ρ[i]? = some .drw) (h : EvA E Xc tr ρ fun ds => R ds P) : EvP E Xc (tCall (DSp R) [] E' (tCons (tVar i) tr)) ρ P := fun C O σ H x e Q q => by
  obtain ⟨y, e1, p, b, e2, e3⟩ := x.slot i _ hi
  subst e3
  refine ⟨_, e1, h C O σ H x e _ fun vs ds H1 x1 k1 y1 h1 => ?_⟩
  obtain ⟨d1, d2, d3, d4, d5⟩ := x1.drk p b e2
  have o1 := x1.sub _ d4
  have o2 := x1.sub _ d5
  refine ⟨O, p, b, vs, ds, P, by rw [List.append_nil], x1.domN, d1, o1, o2, y1, h1, fun v d H2 s dr z pz => q v d H2 (x1.drawn e2 s dr) (k1.trans fun a o n ea => s a o (fun z => n (by rw [z]; exact o1)) (fun z => n (by rw [z]; exact o2)) ea) z pz⟩
/-! ### what is walked -/
theorem wk_list {O : Addr → Prop} {H : Hp} {a : Addr} {vs : List V} {ds : List PyData} (n : ¬ O a) (e : H a = some (.lst vs)) (r : DnAll O H vs ds) : Wk O (Itl K a) H ds := by
  refine ⟨YAt vs, ?_, fun i H2 x H3 hi k y => ?_⟩
  · rw [← r.length]
    exact walk_list.mono (fun H2 k => SqL.of (k a _ n e)) fun i H x H' _ _ y => y
  · obtain ⟨d, h1, h2⟩ := r.get' y.2
    exact ⟨d, h1, .inl ⟨y.1, h2⟩⟩
theorem wk_tup {O : Addr → Prop} {H : Hp} {a : Addr} {vs : List V} {ds : List PyData} (n : ¬ O a) (e : H a = some (.tup vs)) (r : DnAll O H vs ds) : Wk O (Itt K a) H ds := by
  refine ⟨YAt vs, ?_, fun i H2 x H3 hi k y => ?_⟩
  · rw [← r.length]
    exact walk_tup.mono (fun H2 k => SqT.of (k a _ n e)) fun i H x H' _ _ y => y
  · obtain ⟨d, h1, h2⟩ := r.get' y.2
    exact ⟨d, h1, .inl ⟨y.1, h2⟩⟩
abbrev rangeD (lo : Int) (n : Nat) : List PyData := (List.range n).map fun (i : Nat) => PyData.int (lo + i)
theorem rangeD_get {lo : Int} {n i : Nat} (h : i < n) : (rangeD lo n)[i]? = some (.int (lo + i)) := by
  unfold rangeD
  rw [List.getElem?_map, List.getElem?_range h]; rfl
theorem rangeD_len (lo : Int) (n : Nat) : (rangeD lo n).length = n := by unfold rangeD; rw [List.length_map, List.length_range]
theorem wk_range {O : Addr → Prop} {H : Hp} {lo : Int} {n : Nat} : Wk O (Itr lo n) H (rangeD lo n) := by
  refine ⟨YFn fun i => .int (lo + i), ?_, fun i H2 x H3 hi k y => ?_⟩
  · rw [rangeD_len]
    exact walk_range.mono (fun _ _ => trivial) fun i H x H' _ _ y => y
  · rw [rangeD_len] at hi
    obtain ⟨y1, y2⟩ := y
    subst y2
    exact ⟨_, rangeD_get hi, .inl ⟨y1, .int _⟩⟩
def enumD (ds : List PyData) : List PyData := ds.mapIdx fun i d => .tuple [.int (i : Nat), d]
theorem enumD_len (ds : List PyData) : (enumD ds).length = ds.length := by unfold enumD; rw [List.length_mapIdx]
theorem enumD_get {ds : List PyData} {i : Nat} {d : PyData} (h : ds[i]? = some d) : (enumD ds)[i]? = some (.tuple [.int (i : Nat), d]) := by
  unfold enumD; rw [List.getElem?_mapIdx, h]; rfl
theorem wk_enum {O : Addr → Prop} {H : Hp} {a : Addr} {vs : List V} {ds : List PyData} (n : ¬ O a) (e : H a = some (.lst vs)) (r : DnAll O H vs ds) : Wk O (Ite K a) H (enumD ds) := by
  refine ⟨_, (by rw [enumD_len, ← r.length]; exact walk_enum.mono (fun H2 k => SqL.of (k a _ n e)) fun i H x H' _ _ y => y), fun i H2 x H3 hi k y => ?_⟩
  obtain ⟨T, x1, x2, e1, e2, e3, e4, e5⟩ := y
  obtain ⟨d, h1, h2⟩ := r.get' e5
  cases e4
  exact ⟨_, enumD_get h1, .inr ⟨T, _, _, _, _, e1, e2, e3, rfl, .int _, h2⟩⟩
def zipD (xs ys : List PyData) : List PyData := List.zipWith (fun a b => .tuple [a, b]) xs ys
theorem zipD_len (xs ys : List PyData) : (zipD xs ys).length = min xs.length ys.length := by unfold zipD; rw [List.length_zipWith]
theorem zipD_get {xs ys : List PyData} {i : Nat} {a b : PyData} (h : xs[i]? = some a) (h2 : ys[i]? = some b) : (zipD xs ys)[i]? = some (.tuple [a, b]) := by
  unfold zipD; rw [List.getElem?_zipWith, h, h2]
theorem wk_zip {O : Addr → Prop} {H : Hp} {a b : Addr} {vs us : List V} {ds es : List PyData} (n : ¬ O a) (e : H a = some (.lst vs)) (r : DnAll O H vs ds) (n2 : ¬ O b) (e2 : H b = some (.lst us)) (r2 : DnAll O H us es) : Wk O (Itz K a b) H (zipD ds es) := by
  refine ⟨_, (walk_zip (K := K) (a := a) (b := b) (xs := vs) (ys := us) (by rw [zipD_len, r.length, r2.length])).mono (fun H2 k => ⟨SqL.of (k a _ n e), SqL.of (k b _ n2 e2)⟩) (fun i H x H' _ _ y => y), fun i H2 x H3 hi k y => ?_⟩
  obtain ⟨T, x1, x2, e1, e2, e3, e4, e5⟩ := y
  obtain ⟨d, h1, h2⟩ := r.get' e4
  obtain ⟨d', h1', h2'⟩ := r2.get' e5
  exact ⟨_, zipD_get h1 h1', .inr ⟨T, _, _, _, _, e1, e2, e3, rfl, h2, h2'⟩⟩
theorem ei_list {P : List PyData → Prop} (h : EvP E Xc te ρ fun d => ∃ ds, d = .list ds ∧ P ds) : EvI E Xc (iList K te) ρ P := fun C O σ H x e Rk q =>
  h C O σ H x e _ fun v d H1 x1 k1 y ⟨ds, ed, p⟩ => by
    subst ed
    cases y with
    | lst n e r => exact ⟨_, rfl, ⟨_, SqL.of e⟩, q _ _ H1 x1 k1 (wk_list n e r) p⟩
theorem ei_tup {P : List PyData → Prop} (h : EvP E Xc te ρ fun d => ∃ ds, d = .tuple ds ∧ P ds) : EvI E Xc (iTup K te) ρ P := fun C O σ H x e Rk q =>
  h C O σ H x e _ fun v d H1 x1 k1 y ⟨ds, ed, p⟩ => by
    subst ed
    cases y with
    | tup n e r => exact ⟨_, rfl, ⟨_, SqT.of e⟩, q _ _ H1 x1 k1 (wk_tup n e r) p⟩
theorem ei_rng1 {P : List PyData → Prop} {ta : TA} (h : EvA E Xc ta ρ fun ds => ∃ n : Int, ds = [.int n] ∧ (-(2 ^ 62) ≤ n ∧ n < 2 ^ 62) ∧ P (rangeD 0 n.toNat)) : EvI E Xc (iRng1 ta) ρ P := fun C O σ H x e Rk q =>
  h C O σ H x e _ fun vs ds H1 x1 k1 y ⟨n, ed, hn, p⟩ => by
    subst ed
    cases y with
    | cons y yr =>
      cases yr; cases y
      exact ⟨n, rfl, hn.1, hn.2, q _ _ H1 x1 k1 wk_range p⟩
theorem ei_rng2 {P : List PyData → Prop} {ta : TA} (h : EvA E Xc ta ρ fun ds => ∃ lo n : Int, ds = [.int lo, .int n] ∧ (-(2 ^ 62) ≤ lo ∧ lo < 2 ^ 62 ∧ -(2 ^ 62) ≤ n ∧ n < 2 ^ 62) ∧ P (rangeD lo (n - lo).toNat)) : EvI E Xc (iRng2 ta) ρ P := fun C O σ H x e Rk q =>
  h C O σ H x e _ fun vs ds H1 x1 k1 y ⟨lo, n, ed, hn, p⟩ => by
    subst ed
    cases y with
    | cons y yr =>
      cases yr with
      | cons y2 yr =>
        cases yr; cases y; cases y2
        exact ⟨lo, n, rfl, hn, q _ _ H1 x1 k1 wk_range p⟩
theorem ei_enum {P : List PyData → Prop} {ta : TA} (h : EvA E Xc ta ρ fun es => ∃ ds, es = [.list ds] ∧ P (enumD ds)) : EvI E Xc (iEnum K ta) ρ P := fun C O σ H x e Rk q =>
  h C O σ H x e _ fun vs es H1 x1 k1 y ⟨ds, ed, p⟩ => by
    subst ed
    cases y with
    | cons y yr =>
      cases yr
      cases y with
      | lst n e r => exact ⟨_, _, rfl, SqL.of e, q _ _ H1 x1 k1 (wk_enum n e r) p⟩
theorem ei_zip {P : List PyData → Prop} {ta : TA} (h : EvA E Xc ta ρ fun es => ∃ xs ys, es = [.list xs, .list ys] ∧ P (zipD xs ys)) : EvI E Xc (iZip K ta) ρ P := fun C O σ H x e Rk q =>
  h C O σ H x e _ fun vs es H1 x1 k1 y ⟨xs, ys, ed, p⟩ => by
    subst ed
    cases y with
    | cons y yr =>
      cases yr with
      | cons y2 yr =>
        cases yr
        cases y with
        | lst n e r =>
          cases y2 with
          | lst n2 e2 r2 => exact ⟨_, _, _, _, rfl, SqL.of e, SqL.of e2, q _ _ H1 x1 k1 (wk_zip n e r n2 e2 r2) p⟩
/-- an item of the walk as it lies at a turn -/
theorem Rel.item {C : Ctx} {O O' : Addr → Prop} {ρ' : List Slot} {σ σ' : L2.St} {H1 H2 H3 : Hp} {x : V} {d : PyData} (r : Rel C O ρ σ H1) (w : Rel (C.at_ O ρ H1) O' ρ' σ' H2) (i : Item O H1 H2 x H3 d) :
    Rel (C.at_ O ρ H1) O' ρ' σ' H3 ∧ Dn O' H3 x d := by
  have im : ∀ a o, ¬ O a → H1 a = some o → ¬ O' a ∧ H2 a = some o := fun a o n e => by
    refine ⟨fun z => ?_, w.frame a o e fun z => n (r.lO z)⟩
    rcases w.hid a z with h | h
    · exact n h
    · have h' : H1 a = none := h
      rw [e] at h'
      cases h'
  rcases i with ⟨e, y⟩ | ⟨T, x1, x2, d1, d2, e1, e2, e3, e4, y1, y2⟩
  · subst e
    exact ⟨w, Dn.imp im _ _ y⟩
  · subst e1; subst e3; subst e4
    have s := same_upd (o := .tup [x1, x2]) e2
    exact ⟨w.grow s, .tup (w.notO e2) upd_same (.cons ((Dn.imp im _ _ y1).keep (.of s)) (.cons ((Dn.imp im _ _ y2).keep (.of s)) .nil))⟩
/-! ### targets -/
theorem wipe_set (σ : L2.St) (i : Nat) (x : Option V) : ∀ vs : List Nat, i ∈ vs → wipe (σ.set i x) vs = wipe σ vs
  | [], h => by cases h
  | v :: vs, h => by
    show (wipe (σ.set i x) vs).set v none = (wipe σ vs).set v none
    by_cases hv : i ∈ vs
    · rw [wipe_set σ i x vs hv]
    · have e : i = v := by
        rcases List.mem_cons.mp h with h | h
        · exact h
        · exact absurd h hv
      subst e
      have hh : ∀ (ws : List Nat) (τ : L2.St), (wipe (τ.set i x) ws).set i none = (wipe τ ws).set i none := by
        intro ws
        induction ws with
        | nil => intro τ; show (τ.set i x).set i none = τ.set i none; rw [List.set_set]
        | cons w ws ih =>
          intro τ
          show ((wipe (τ.set i x) ws).set w none).set i none = ((wipe τ ws).set w none).set i none
          by_cases hw : w = i
          · subst hw; rw [List.set_set, List.set_set]; exact ih τ
          · rw [List.set_comm _ _ hw, List.set_comm _ _ hw, ih τ]
      exact hh vs σ
theorem dg_name {J : Nat → Prop} {i : Nat} {d : PyData} {N : List Slot → Prop} (hi : J i) (h : N (ρ.set i (.dat d))) : DG (gName i) J d ρ N := fun C O σ H x v y Q q =>
  q _ _ (x.setD y) (fun vs hv => wipe_set σ i _ vs (hv i hi)) (fun k hk => List.getElem?_set_ne (fun e => hk (by rw [← e]; exact hi))) h
theorem dg_tup2 {J : Nat → Prop} {i j : Nat} {a b : PyData} {N : List Slot → Prop} (hi : J i) (hj : J j) (h : N ((ρ.set i (.dat a)).set j (.dat b))) : DG (gTup K 2 (gCons (gName i) (gCons (gName j) gNil))) J (.tuple [a, b]) ρ N := fun C O σ H x v y Q q => by
  cases y with
  | tup n e r =>
    cases r with
    | cons r1 r =>
      cases r with
      | cons r2 r =>
        cases r
        refine ⟨_, _, rfl, SqT.of e, rfl, _, _, rfl, _, _, rfl, rfl, ?_⟩
        exact q _ _ ((x.setD r1).setD r2) (fun vs hv => by rw [wipe_set _ j _ vs (hv j hj), wipe_set _ i _ vs (hv i hi)])
          (fun k hk => by rw [List.getElem?_set_ne (fun e => hk (by rw [← e]; exact hj)), List.getElem?_set_ne (fun e => hk (by rw [← e]; exact hi))]) h
theorem dg_tup3 {J : Nat → Prop} {i j k : Nat} {a b c : PyData} {N : List Slot → Prop} (hi : J i) (hj : J j) (hk' : J k) (h : N (((ρ.set i (.dat a)).set j (.dat b)).set k (.dat c))) : DG (gTup K 3 (gCons (gName i) (gCons (gName j) (gCons (gName k) gNil)))) J (.tuple [a, b, c]) ρ N := fun C O σ H x v y Q q => by
  cases y with
  | tup n e r =>
    cases r with
    | cons r1 r =>
      cases r with
      | cons r2 r =>
        cases r with
        | cons r3 r =>
          cases r
          refine ⟨_, _, rfl, SqT.of e, rfl, _, _, rfl, _, _, rfl, _, _, rfl, rfl, ?_⟩
          exact q _ _ (((x.setD r1).setD r2).setD r3) (fun vs hv => by rw [wipe_set _ k _ vs (hv k hk'), wipe_set _ j _ vs (hv j hj), wipe_set _ i _ vs (hv i hi)])
            (fun m hk => by rw [List.getElem?_set_ne (fun e => hk (by rw [← e]; exact hk')), List.getElem?_set_ne (fun e => hk (by rw [← e]; exact hj)), List.getElem?_set_ne (fun e => hk (by rw [← e]; exact hi))]) h
/-! ### comprehensions -/
def wipeS (ρ : List Slot) : List Nat → List Slot
  | [] => ρ
  | v :: vs => (wipeS ρ vs).set v .no
theorem Rel.wipe {C : Ctx} {O : Addr → Prop} {σ : L2.St} {H : Hp} (r : Rel C O ρ σ H) : ∀ vs : List Nat, Rel C O (wipeS ρ vs) (L2.wipe σ vs) H
  | [] => r
  | v :: vs => (Rel.wipe r vs).setN
theorem wipe_wipe (σ : L2.St) : ∀ vs : List Nat, L2.wipe (L2.wipe σ vs) vs = L2.wipe σ vs := by
  have h : ∀ (ws vs : List Nat), (∀ w ∈ ws, w ∈ vs) → L2.wipe (L2.wipe σ ws) vs = L2.wipe σ vs := by
    intro ws
    induction ws with
    | nil => intro vs _; rfl
    | cons w ws ih =>
      intro vs hv
      show L2.wipe ((L2.wipe σ ws).set w none) vs = _
      rw [wipe_set _ w _ vs (hv w (by simp)), ih vs fun x hx => hv x (by simp [hx])]
  exact fun vs => h vs vs fun _ h => h
theorem wipeS_in {vs : List Nat} {i : Nat} {s : Slot} (h : i ∈ vs) (e : (wipeS ρ vs)[i]? = some s) : s = .no := by
  induction vs with
  | nil => cases h
  | cons v vs ih =>
    have e : ((wipeS ρ vs).set v .no)[i]? = some s := e
    by_cases hv : v = i
    · subst hv
      by_cases hl : v < (wipeS ρ vs).length
      · rw [List.getElem?_set_self hl] at e; cases e; rfl
      · rw [List.getElem?_eq_none (by simpa using hl)] at e; cases e
    · rw [List.getElem?_set_ne hv] at e
      rcases List.mem_cons.mp h with h | h
      · exact absurd h.symm hv
      · exact ih h e
theorem wipeS_own {vs : List Nat} {i : Nat} {s : Slot} {a : Addr} (f : foot s a) : (wipeS ρ vs)[i]? = some s → ρ[i]? = some s := by
  induction vs with
  | nil => exact fun h => h
  | cons v vs ih =>
    intro h
    apply ih
    have h : ((wipeS ρ vs).set v .no)[i]? = some s := h
    rcases look_set h with ⟨_, rfl, _⟩ | ⟨_, h⟩
    · exact f.elim
    · exact h
/-- the names of a comprehension own nothing outside -/
def plainAt (ρ : List Slot) (vs : List Nat) : Prop := ∀ (i : Nat) (s : Slot) (a : Addr), i ∈ vs → ρ[i]? = some s → ¬ foot s a
theorem plain_of {vs : List Nat} (h : vs.all (fun i => match ρ[i]? with | some (Slot.own _ _) => false | some (Slot.wlk _ _ _ _ _ _ _ _) => false | _ => true) = true) : plainAt ρ vs := fun i s a hi e f => by
  have := List.all_eq_true.mp h i hi
  rw [e] at this
  cases s with
  | own p ds => cases this
  | wlk => cases this
  | _ => exact f.elim
theorem wipeS_out {vs : List Nat} {i : Nat} (h : i ∉ vs) : (wipeS ρ vs)[i]? = ρ[i]? := by
  induction vs with
  | nil => rfl
  | cons v vs ih =>
    have hv : v ≠ i := fun e => h (by simp [e])
    show ((wipeS ρ vs).set v .no)[i]? = _
    rw [List.getElem?_set_ne hv, ih fun z => h (List.mem_cons_of_mem _ z)]
end
end LW

namespace LW
open PySem L2
/-- back from a part that was run in its own context, the hidden as before -/
theorem Rel.home {C : Ctx} {O : Addr → Prop} {ρ ρ' : List Slot} {τ τ' : L2.St} {H H' : Hp} (w : Rel C O ρ τ H) (w' : Rel (C.at_ O ρ H) O ρ' τ' H') (hown : ∀ (i : Nat) (s : Slot) (a : Addr), foot s a → ρ[i]? = some s → ρ'[i]? = some s) : Rel C O ρ τ H' := by
  have kk : Keep O H H' := fun a o n e => w'.frame a o e fun z => n (w.lO z)
  refine ⟨w.len, fun i s e => ?_, w.frame_back w'.frame, w'.dom, w.sub, w.mine, w.sep, fun p b e => ?_, w.hid, fun p e => w.stay p (w'.stay p e)⟩
  · obtain ⟨x, e1, z⟩ := w.slot i s e
    refine ⟨x, e1, ?_⟩
    cases s with
    | own p ds =>
      obtain ⟨x', e1', z1, us, z2, z3⟩ := w'.slot i _ (hown i (.own p ds) p rfl e)
      exact ⟨z.1, us, z2, z3⟩
    | wlk Cl p aL aI aM lad line mov =>
      obtain ⟨x', e1', z1, z2⟩ := w'.slot i _ (hown i (.wlk Cl p aL aI aM lad line mov) aI (Or.inl rfl) e)
      exact ⟨z.1, z2⟩
    | _ => exact z.imp (fun a o n e => ⟨n, kk a o n e⟩) fun a o f _ => f.elim
  · exact ⟨(w'.drk p b e).1, (w.drk p b e).2⟩
/-- a hidden new thing changes -/
theorem Rel.updHid {C : Ctx} {O : Addr → Prop} {ρ : List Slot} {τ : L2.St} {H : Hp} {D : Addr} {o : HO} (w : Rel C O ρ τ H) (hO : O D) (h0 : C.H0 D = none) (hn : ¬ C.O0 D) (hown : ∀ (i : Nat) (s : Slot), ρ[i]? = some s → ¬ foot s D) : Rel C O ρ τ (upd H D o) := by
  have kk : Keep O H (upd H D o) := fun a o n e => by rw [upd_ne (fun z => n (by rw [z]; exact hO))]; exact e
  refine ⟨w.len, fun i s e => ?_, fun a o e n => ?_, fun p h => ?_, w.sub, w.mine, w.sep, fun p b e => ?_, w.hid, fun p e => ?_⟩
  · obtain ⟨x, e1, z⟩ := w.slot i s e
    exact ⟨x, e1, z.imp (fun a o n e => ⟨n, kk a o n e⟩) fun a o f e2 => by rw [upd_ne (fun z => hown i s e (by rw [← z]; exact f))]; exact e2⟩
  · rw [upd_ne (ne_of_none e h0)]; exact w.frame a o e n
  · by_cases hp : p = D
    · rw [hp, upd_same]; exact ⟨_, rfl⟩
    · rw [upd_ne hp]; exact w.dom p h
  · obtain ⟨h1, h2, h3, h4, h5⟩ := w.drk p b e
    exact ⟨h1.keep (upd_ne fun z => hn (by rw [← z]; exact h4)) (upd_ne fun z => hn (by rw [← z]; exact h5)), h2, h3, h4, h5⟩
  · by_cases hp : p = D
    · rw [hp]; exact h0
    · rw [upd_ne hp] at e; exact w.stay p e
section
variable {E : EK} {Xc : XP} {K : PySem.W.Frag} {ρ : List Slot} {P : PyData → Prop} {ta tb te : TE} {tt u : TT} {r : R2} {g : TG} {wi : TI} {vs : List Nat}
theorem ev_lc0 (hp : plainAt ρ vs) (C : Ctx) (O : Addr → Prop) (σ : L2.St) (H : Hp) (x : Rel C O ρ σ H) (e : EOk E Xc C) (Q : VK)
   (h : EvI E Xc wi ρ fun items => items.length ≤ 100000 ∧ ∃ Pv : Nat → List PyData → Prop, Pv 0 [] ∧
      (∀ i d acc, items[i]? = some d → Pv i acc → acc.length ≤ i → DG g (· ∈ vs) d (wipeS ρ vs) fun ρ' => EvT E Xc tt ρ' fun b => if b = true then EvP E Xc te ρ' (fun e => Pv (i + 1) (acc ++ [e])) else Pv (i + 1) acc) ∧
      ∀ acc, Pv items.length acc → acc.length ≤ items.length → P (.list acc))
   (q : ∀ p us acc H1 H2, Rel C O ρ σ H1 → Keep O H H1 → H1 p = none → Rel C O ρ σ H2 → Keep O H1 H2 → H2 p = some (.lst us) → DnAll (fun a => O a ∨ a = p) H2 us acc → P (.list acc) → Q (.ref p) H2) : tLc wi g tt te vs σ H Q := by
  refine h C O σ H x e _ fun J items H1 x1 k1 w1 ⟨hl, Pv, p0, ps, pd⟩ D nD => ?_
  obtain ⟨Y, wk, yi⟩ := w1
  have sD : Same H1 (upd H1 D (.lst [])) := same_upd nD
  have nO : ¬ O D := x1.notO nD
  have nO0 : ¬ C.O0 D := fun z => nO (x1.sub _ z)
  have nown : ∀ (i : Nat) (s : Slot), (wipeS ρ vs)[i]? = some s → ¬ foot s D := fun i s e f => nO (x1.mine i s D (wipeS_own f e) f).1
  have xw : Rel (C.at_ O ρ H1) (fun a => O a ∨ a = D) (wipeS ρ vs) (L2.wipe σ vs) (upd H1 D (.lst [])) := by
    have y := (x1.at_.grow sD).wipe vs
    refine ⟨y.len, fun i s e => ?_, y.frame, fun p h => ?_, fun p h => .inl (y.sub p h), fun i s p e f => ?_, y.sep, y.drk, fun p h => ?_, y.stay⟩
    · obtain ⟨z, e1, z2⟩ := (x1.at_.wipe vs).slot i s e
      exact ⟨z, e1, z2.hide (F := fun a => a = D) sD fun a z => by rw [z]; exact nD⟩
    · rcases h with h | h
      · exact y.dom p h
      · rw [h, upd_same]; exact ⟨_, rfl⟩
    · obtain ⟨a1, a2, a3⟩ := y.mine i s p e f
      exact ⟨.inl a1, a2, a3⟩
    · rcases h with h | h
      · exact .inl h
      · exact .inr (by rw [h]; exact nD)
  have keepI : ∀ {H2 : Hp}, Rel (C.at_ O ρ H1) (fun a => O a ∨ a = D) (wipeS ρ vs) (L2.wipe σ vs) H2 → Keep O H1 H2 := fun {H2} w a o n e => w.frame a o e fun z => n (x1.lO z)
  refine lc_it wk (fun i H2 => i ≤ items.length ∧ ∃ acc us, Rel (C.at_ O ρ H1) (fun a => O a ∨ a = D) (wipeS ρ vs) (L2.wipe σ vs) H2 ∧ H2 D = some (.lst us) ∧ DnAll (fun a => O a ∨ a = D) H2 us acc ∧ Pv i acc ∧ acc.length ≤ i)
    ⟨Nat.zero_le _, [], [], xw, upd_same, .nil, p0, Nat.le_refl _⟩ (fun i H2 _ ⟨_, acc, us, w, _⟩ => keepI w) (fun i xx H2 H3 hi ⟨_, acc, us, w, eD, ya, pa, la⟩ hy => ?_) (fun H2 ⟨_, acc, us, w, eD, ya, pa, la⟩ => ?_)
  · obtain ⟨d, hd, it⟩ := yi i H2 xx H3 hi (keepI w) hy
    have it2 : Rel (C.at_ O ρ H1) (fun a => O a ∨ a = D) (wipeS ρ vs) (L2.wipe σ vs) H3 ∧ Dn (fun a => O a ∨ a = D) H3 xx d ∧ Same H2 H3 := by
      have im : ∀ a o, ¬ O a → H1 a = some o → ¬ (O a ∨ a = D) ∧ H2 a = some o := fun a o n e => ⟨fun z => z.elim n fun z => ne_of_none e nD z, keepI w a o n e⟩
      rcases it with ⟨e, y⟩ | ⟨T, x1', x2', d1, d2, e1, e2, e3, e4, y1, y2⟩
      · subst e
        exact ⟨w, Dn.imp im _ _ y, Same.refl _⟩
      · subst e1; subst e3; subst e4
        have s := same_upd (o := .tup [x1', x2']) e2
        exact ⟨w.grow s, .tup (w.notO e2) upd_same (.cons ((Dn.imp im _ _ y1).keep (.of s)) (.cons ((Dn.imp im _ _ y2).keep (.of s)) .nil)), s⟩
    obtain ⟨w3, y3, s3⟩ := it2
    have eD3 : H3 D = some (.lst us) := s3 _ _ eD
    have ya3 := ya.keep (.of s3)
    have e3 : EOk E Xc ((C.at_ O ρ H1).at_ (fun a => O a ∨ a = D) (wipeS ρ vs) H3) := (e.at_ x1).at_ w3
    refine ps i d acc hd pa la _ _ _ _ w3.at_ xx y3 _ fun ρ' σ' w4 hw hr n4 => ⟨(hw vs fun _ h => h).trans (wipe_wipe σ vs), ?_⟩
    have hown : ∀ (i : Nat) (s : Slot) (a : Addr), foot s a → (wipeS ρ vs)[i]? = some s → ρ'[i]? = some s := fun i s a f e => by
      rw [hr i fun z => by have := wipeS_in z e; subst this; exact f.elim]
      exact e
    have nL : ¬ ((C.at_ O ρ H1).at_ (fun a => O a ∨ a = D) (wipeS ρ vs) H3).L D := fun z => by
      rcases z with ⟨i, s, e, f⟩ | ⟨q, b, e, z⟩
      · exact nown i s e f
      · obtain ⟨_, _, _, h4, h5⟩ := x1.drk q b e
        rcases z with z | z
        · exact nO0 (by rw [z]; exact h4)
        · exact nO0 (by rw [z]; exact h5)
    refine n4 _ _ _ _ w4 e3 _ fun b H4 w5 k5 n5 => ?_
    cases b with
    | false =>
      have w6 := w3.home w5 hown
      exact ⟨hi, acc, us, w6, w5.frame _ _ eD3 nL, ya3.keep k5, n5, by omega⟩
    | true =>
      refine n5 _ _ _ _ w5 e3 _ fun y dy H5 w6 k6 y6 n6 => ?_
      have eD5 : H5 D = some (.lst us) := w6.frame _ _ eD3 nL
      have w7 := w3.home w6 hown
      have ya5 := (ya3.keep k5).keep k6
      have hu : us.length < sizeLine := by
        rw [ya.length]
        exact Nat.lt_of_le_of_lt la (Nat.lt_of_lt_of_le hi (Nat.le_trans hl (by decide)))
      refine ⟨us, eD5, hu, hi, acc ++ [dy], us ++ [y], w7.updHid (.inr rfl) nD nO0 nown, upd_same, (ya5.append (.one y6)).keep fun a o n e => by rw [upd_ne (fun z => n (.inr z))]; exact e, n6, by simp; omega⟩
  · -- the end
    have xe : Rel C O ρ σ H2 := by
      refine ⟨x1.len, fun i s e => ?_, x1.frame_back w.frame, fun p h => w.dom p (.inl h), x1.sub, x1.mine, x1.sep, fun p b e => ?_, x1.hid, fun p e => x1.stay p (w.stay p e)⟩
      · obtain ⟨z0, e1, z⟩ := x1.slot i s e
        refine ⟨z0, e1, ?_⟩
        cases s with
        | own p ds =>
          have hi : i ∉ vs := fun h => hp i (.own p ds) p h e rfl
          obtain ⟨x', e1', z1, us, z2, z3⟩ := w.slot i _ ((wipeS_out hi).trans e)
          exact ⟨z.1, us, z2, z3.sub fun a h => .inl h⟩
        | wlk Cl p aL aI aM lad line mov =>
          have hi : i ∉ vs := fun h => hp i (.wlk Cl p aL aI aM lad line mov) aI h e (Or.inl rfl)
          obtain ⟨x', e1', z1⟩ := w.slot i _ ((wipeS_out hi).trans e)
          obtain ⟨_, z2⟩ := z1.imp (O' := O) (H' := H2) (fun a o n e => ⟨fun z => n (.inl z), e⟩) fun a o _ e => e
          exact ⟨z.1, z2⟩
        | _ => exact z.imp (fun a o n e => ⟨n, keepI w a o n e⟩) fun a o f _ => f.elim
      · exact ⟨(w.drk p b e).1, (x1.drk p b e).2⟩
    exact q D us acc H1 H2 x1 k1 nD xe (keepI w) eD ya (pd acc pa la)
/-- [e for target in iter if test]; Pv by the turn and the list made so far -/
theorem ev_lc (hp : plainAt ρ vs) (h : EvI E Xc wi ρ fun items => items.length ≤ 100000 ∧ ∃ Pv : Nat → List PyData → Prop, Pv 0 [] ∧
      (∀ i d acc, items[i]? = some d → Pv i acc → acc.length ≤ i → DG g (· ∈ vs) d (wipeS ρ vs) fun ρ' => EvT E Xc tt ρ' fun b => if b = true then EvP E Xc te ρ' (fun e => Pv (i + 1) (acc ++ [e])) else Pv (i + 1) acc) ∧
      ∀ acc, Pv items.length acc → acc.length ≤ items.length → P (.list acc)) : EvP E Xc (tLc wi g tt te vs) ρ P := fun C O σ H x e Q q =>
  ev_lc0 hp C O σ H x e Q h fun p us acc H1 H2 x1 k1 n1 x2 k2 e2 y2 pz => q _ _ H2 x2 (k1.trans k2) (.lst (x1.notO n1) e2 (y2.sub fun a h => .inl h)) pz
/-! ### statements -/
variable {t s : TS} {N : List Slot → Prop} {R : RK}
theorem ds_seq (h : DS E Xc t ρ (fun ρ' => DS E Xc s ρ' N R) R) : DS E Xc (tSeq t s) ρ N R := fun C O σ H D x e nx rt =>
  h C O σ H { D with nx := s D } x e (fun O' ρ' σ' H' x' n => n C O' σ' H' D x' e nx rt) rt
theorem ds_next (h : N ρ) : DS E Xc tNext ρ N R := fun C O σ H D x e nx rt => nx O ρ σ H x h
theorem ds_never (h : False) : DS E Xc tNever ρ N R := h.elim
theorem ds_asg {i : Nat} (h : EvP E Xc te ρ fun d => N (ρ.set i (.dat d))) : DS E Xc (tAsg te (gName i)) ρ N R := fun C O σ H D x e nx rt =>
  h C O σ H x e _ fun v d H1 x1 k1 y n => nx O _ _ H1 (x1.setD y) n
theorem ds_asgG (h : EvP E Xc te ρ fun d => DG g (fun _ => True) d ρ N) : DS E Xc (tAsg te g) ρ N R := fun C O σ H D x e nx rt =>
  h C O σ H x e _ fun v d H1 x1 k1 y n => n C O σ H1 x1 v y _ fun ρ' σ' x2 _ _ n2 => nx O ρ' σ' H1 x2 n2
theorem ds_own {i : Nat} (h : EvN E Xc te ρ fun ds => ∀ p, N (ρ.set i (.own p ds))) : DS E Xc (tAsg te (gName i)) ρ N R := fun C O σ H D x e nx rt =>
  h C O σ H x e _ fun p vs ds H1 H2 x1 k1 n1 s1 e1 y n => nx _ _ _ H2 (x1.setO s1 n1 e1 (y.keep (.of s1)) ((y.hide n1).keep (.of s1))) (n p)
theorem ds_par {i j : Nat} {ta : TA} (h : EvA E Xc ta ρ fun ds => ∃ a b, ds = [a, b] ∧ N ((ρ.set i (.dat a)).set j (.dat b))) : DS E Xc (tPar i j ta) ρ N R := fun C O σ H D x e nx rt =>
  h C O σ H x e _ fun vs ds H1 x1 k1 y ⟨a, b, ed, n⟩ => by
    subst ed
    cases y with
    | cons y1 y =>
      cases y with
      | cons y2 y =>
        cases y
        exact ⟨_, _, rfl, nx O _ _ H1 ((x1.setD y1).setD y2) n⟩
theorem ds_if {c : TT} (h : EvT E Xc c ρ fun b => if b = true then DS E Xc t ρ N R else DS E Xc s ρ N R) : DS E Xc (tIfS c t s) ρ N R := fun C O σ H D x e nx rt =>
  h C O σ H x e _ fun b H1 x1 k1 p => by
    cases b with
    | true => exact p C O σ H1 D x1 e nx rt
    | false => exact p C O σ H1 D x1 e nx rt
theorem ds_ret (h : EvP E Xc te ρ (R ρ)) : DS E Xc (tRet te) ρ N R := fun C O σ H D x e nx rt =>
  h C O σ H x e _ fun v d H1 x1 k1 y n => rt O ρ σ v d H1 x1 y n
theorem ds_retO {i : Nat} {p : Addr} {ds : List PyData} (hi : ρ[i]? = some (.own p ds)) (h : R (ρ.set i (.dat (.list ds))) (.list ds)) : DS E Xc (tRet (tVar i)) ρ N R := fun C O σ H D x e nx rt => by
  have x2 := x.freeze hi
  obtain ⟨y, e1, e2, vs, e3, e4⟩ := x.slot i _ hi
  subst e2
  exact ⟨_, e1, rt _ _ _ _ _ H x2 (.lst (fun z => z.2 rfl) e3 (e4.sub fun a z => z.1)) h⟩
theorem ds_drop (h : EvP E Xc te ρ fun _ => N ρ) : DS E Xc (tDrop te) ρ N R := fun C O σ H D x e nx rt =>
  h C O σ H x e _ fun v d H1 x1 k1 y n => nx O ρ σ H1 x1 n
theorem ds_freeze {i : Nat} {p : Addr} {ds : List PyData} (hi : ρ[i]? = some (.own p ds)) (h : DS E Xc t (ρ.set i (.dat (.list ds))) N R) : DS E Xc t ρ N R := fun C O σ H D x e nx rt =>
  h C _ σ H D (x.freeze hi) e nx rt
theorem ds_app {i : Nat} {p : Addr} {ds : List PyData} (hi : ρ[i]? = some (.own p ds)) (hl : ds.length < 100000) (h : EvP E Xc te ρ fun d => N (ρ.set i (.own p (ds ++ [d])))) : DS E Xc (tDrop (tBM K "list" rAppend (tVar i) (tCons te tNil))) ρ N R := fun C O σ H D x e nx rt => by
  obtain ⟨y, e1, e2, vs, e3, e4⟩ := x.slot i _ hi
  subst e2
  refine ⟨_, e1, .inl ⟨rfl, _, SqL.of e3⟩, h C O σ H x e _ fun v d H1 x1 k1 y1 n => ?_⟩
  obtain ⟨y', f1, f2, us, f3, f4⟩ := x1.slot i _ hi
  refine ⟨p, us, v, rfl, rfl, f3, ?_, nx O _ σ _ (x1.mut hi (f4.append (.one y1))) n⟩
  rw [f4.length]; exact Nat.lt_of_lt_of_le hl (by decide)
theorem ds_setI {i : Nat} {p : Addr} {ds : List PyData} (hi : ρ[i]? = some (.own p ds)) (h : EvP E Xc te ρ fun d => EvP E Xc tb ρ fun y => ∃ k j, y = .int k ∧ ixN ds.length k = some j ∧ N (ρ.set i (.own p (ds.set j d)))) :
    DS E Xc (tAsg te (gSub (tVar i) tb rSetL)) ρ N R := fun C O σ H D x e nx rt => by
  refine h C O σ H x e _ fun v d H1 x1 k1 y1 h1 => ?_
  obtain ⟨y, e1, e2, vs, e3, e4⟩ := x1.slot i _ hi
  subst e2
  refine ⟨_, e1, h1 C O σ H1 x1 e _ fun v2 d2 H2 x2 k2 y2 ⟨k, j, ek, hj, n⟩ => ?_⟩
  subst ek; cases y2
  obtain ⟨y', f1, f2, us, f3, f4⟩ := x2.slot i _ hi
  exact ⟨p, us, k, j, rfl, rfl, f3, by rw [f4.length]; exact hj, nx O _ σ _ (x2.mut hi (f4.set (y1.keep k2) j)) n⟩
theorem ds_while {c : TT} (W : Nat → List Slot → Prop) (m0 : Nat) (h0 : W m0 ρ)
    (hs : ∀ m ρ', W m ρ' → EvT E Xc c ρ' fun b => if b = true then DS E Xc t ρ' (fun ρ'' => ∃ m', m' < m ∧ W m' ρ'') R else N ρ') : DS E Xc (tWhile c t) ρ N R := fun C O σ H D x e nx rt => by
  refine ⟨fun m σ' H' => ∃ O' ρ', Rel C O' ρ' σ' H' ∧ W m ρ', ⟨m0, O, ρ, x, h0⟩, fun m σ' H' ⟨O', ρ', x', w'⟩ => ?_⟩
  refine hs m ρ' w' C O' σ' H' x' e _ fun b H1 x1 k1 p => ?_
  cases b with
  | true =>
    refine ⟨fun σ2 H2 => ∃ O2 ρ2, Rel C O2 ρ2 σ2 H2 ∧ ∃ m', m' < m ∧ W m' ρ2, fun σ2 H2 ⟨O2, ρ2, x2, m', hm, w2⟩ => ⟨m', hm, O2, ρ2, x2, w2⟩, ?_⟩
    exact p C O' σ' H1 _ x1 e (fun O2 ρ2 σ2 H2 x2 n2 => ⟨O2, ρ2, x2, n2⟩) rt
  | false => exact nx O' ρ' σ' H1 x1 p
theorem ds_for (h : EvI E Xc wi ρ fun items => ∃ Pv : Nat → List Slot → Prop, Pv 0 ρ ∧ (∀ i d ρ', items[i]? = some d → Pv i ρ' → DG g (fun _ => True) d ρ' fun ρ'' => DS E Xc t ρ'' (Pv (i + 1)) R) ∧ ∀ ρ', Pv items.length ρ' → N ρ') :
    DS E Xc (tFor wi g t) ρ N R := fun C O σ H D x e nx rt => by
  refine h C O σ H x e _ fun J items H1 x1 k1 w1 ⟨Pv, p0, ps, pd⟩ => ?_
  obtain ⟨Y, wk, yi⟩ := w1
  have keepI : ∀ {O' : Addr → Prop} {ρ' : List Slot} {σ' : L2.St} {H2 : Hp}, Rel (C.at_ O ρ H1) O' ρ' σ' H2 → Keep O H1 H2 := fun {O' ρ' σ' H2} w a o n e => w.frame a o e fun z => n (x1.lO z)
  refine for_it wk (fun i σ' H' => ∃ O' ρ', Rel (C.at_ O ρ H1) O' ρ' σ' H' ∧ Pv i ρ') ⟨O, ρ, x1.at_, p0⟩ (fun i σ' H' _ ⟨O', ρ', w, _⟩ => keepI w) (fun i xx σ' H2 H3 hi ⟨O', ρ', w, pv⟩ hy => ?_) (fun σ' H' ⟨O', ρ', w, pv⟩ => nx O' ρ' σ' H' (x1.back w) (pd ρ' pv))
  obtain ⟨d, hd, it⟩ := yi i H2 xx H3 hi (keepI w) hy
  obtain ⟨w3, y3⟩ := x1.item w it
  refine ps i d ρ' hd pv _ _ _ _ w3 xx y3 _ fun ρ2 σ2 w4 _ _ n4 => ?_
  exact n4 _ O' σ2 H3 _ w4 (e.at_ x1) (fun O5 ρ5 σ5 H5 w5 n5 => ⟨O5, ρ5, w5, n5⟩) fun O5 ρ5 σ5 v d H5 r5 y5 p5 => rt O5 ρ5 σ5 v d H5 (x1.back r5) y5 p5
/-- a loop's invariant, to be said -/
def ForI (E : EK) (Xc : XP) (g : TG) (t : TS) (N : List Slot → Prop) (R : RK) (ρ : List Slot) (items : List PyData) : Prop :=
  ∃ Pv : Nat → List Slot → Prop, Pv 0 ρ ∧ (∀ i d ρ', items[i]? = some d → Pv i ρ' → DG g (fun _ => True) d ρ' fun ρ'' => DS E Xc t ρ'' (Pv (i + 1)) R) ∧ ∀ ρ', Pv items.length ρ' → N ρ'
theorem ds_forI (h : EvI E Xc wi ρ (ForI E Xc g t N R ρ)) : DS E Xc (tFor wi g t) ρ N R := ds_for h
theorem forI {items : List PyData} (Pv : Nat → List Slot → Prop) (h0 : Pv 0 ρ) (hs : ∀ i d ρ', items[i]? = some d → Pv i ρ' → DG g (fun _ => True) d ρ' fun ρ'' => DS E Xc t ρ'' (Pv (i + 1)) R) (hd : ∀ ρ', Pv items.length ρ' → N ρ') : ForI E Xc g t N R ρ items := ⟨Pv, h0, hs, hd⟩
/-- a loop over written-out things: by the turn, the state a function of it -/
theorem forI_map {α : Type} {xs : List α} {e : α → PyData} (Pv : Nat → List Slot → Prop) (h0 : Pv 0 ρ) (hs : ∀ i x ρ', xs[i]? = some x → Pv i ρ' → DG g (fun _ => True) (e x) ρ' fun ρ'' => DS E Xc t ρ'' (Pv (i + 1)) R) (hd : ∀ ρ', Pv xs.length ρ' → N ρ') : ForI E Xc g t N R ρ (xs.map e) := by
  refine ⟨Pv, h0, fun i d ρ' hi p => ?_, fun ρ' p => hd ρ' (by rwa [List.length_map] at p)⟩
  rw [List.getElem?_map] at hi
  cases q : xs[i]? with
  | none => rw [q] at hi; cases hi
  | some x => rw [q] at hi; cases hi; exact hs i x ρ' q p
def LcI (E : EK) (Xc : XP) (g : TG) (tt : TT) (te : TE) (vs : List Nat) (P : PyData → Prop) (ρ : List Slot) (items : List PyData) : Prop :=
  items.length ≤ 100000 ∧ ∃ Pv : Nat → List PyData → Prop, Pv 0 [] ∧
      (∀ i d acc, items[i]? = some d → Pv i acc → acc.length ≤ i → DG g (· ∈ vs) d (wipeS ρ vs) fun ρ' => EvT E Xc tt ρ' fun b => if b = true then EvP E Xc te ρ' (fun e => Pv (i + 1) (acc ++ [e])) else Pv (i + 1) acc) ∧
      ∀ acc, Pv items.length acc → acc.length ≤ items.length → P (.list acc)
theorem ev_lcI (hp : plainAt ρ vs) (h : EvI E Xc wi ρ (LcI E Xc g tt te vs P ρ)) : EvP E Xc (tLc wi g tt te vs) ρ P := ev_lc hp h
theorem lcI {items : List PyData} (hl : items.length ≤ 100000) (Pv : Nat → List PyData → Prop) (h0 : Pv 0 []) (hs : ∀ i d acc, items[i]? = some d → Pv i acc → acc.length ≤ i → DG g (· ∈ vs) d (wipeS ρ vs) fun ρ' => EvT E Xc tt ρ' fun b => if b = true then EvP E Xc te ρ' (fun e => Pv (i + 1) (acc ++ [e])) else Pv (i + 1) acc)
    (hd : ∀ acc, Pv items.length acc → acc.length ≤ items.length → P (.list acc)) : LcI E Xc g tt te vs P ρ items := ⟨hl, Pv, h0, hs, hd⟩
/-- [f x for x in xs] -/
theorem lcI_map {α : Type} {xs : List α} {e : α → PyData} (f : α → PyData) (hl : xs.length ≤ 100000) (hs : ∀ (i : Nat) (x : α), xs[i]? = some x → DG g (· ∈ vs) (e x) (wipeS ρ vs) fun ρ' => EvP E Xc te ρ' fun d => d = f x) (hd : P (.list (xs.map f))) : LcI E Xc g tYes te vs P ρ (xs.map e) := by
  refine ⟨by rwa [List.length_map], fun i acc => acc = (xs.take i).map f, by simp, fun i d acc hi ha _ => ?_, fun acc ha _ => ?_⟩
  · rw [List.getElem?_map] at hi
    cases q : xs[i]? with
    | none => rw [q] at hi; cases hi
    | some x =>
      rw [q] at hi; cases hi
      refine fun C O σ H w v y Q k => hs i x q C O σ H w v y Q fun ρ' σ' a b c n => k ρ' σ' a b c ?_
      refine et_yes ?_
      rw [if_pos rfl]
      refine n.mono fun d hd => ?_
      show acc ++ [d] = (xs.take (i + 1)).map f
      rw [hd, ha, List.take_add_one, q, List.map_append]; rfl
  · rw [List.length_map] at ha
    rw [ha, List.take_length]; exact hd
/-- [f x for x in xs if b x] -/
theorem lcI_filter {α : Type} {xs : List α} {e : α → PyData} (b : α → Bool) (f : α → PyData) (hl : xs.length ≤ 100000)
    (hs : ∀ (i : Nat) (x : α), xs[i]? = some x → DG g (· ∈ vs) (e x) (wipeS ρ vs) fun ρ' => EvT E Xc tt ρ' fun c => c = b x ∧ (c = true → EvP E Xc te ρ' fun d => d = f x)) (hd : P (.list ((xs.filter b).map f))) : LcI E Xc g tt te vs P ρ (xs.map e) := by
  refine ⟨by rwa [List.length_map], fun i acc => acc = ((xs.take i).filter b).map f, by simp, fun i d acc hi ha _ => ?_, fun acc ha _ => ?_⟩
  · rw [List.getElem?_map] at hi
    cases q : xs[i]? with
    | none => rw [q] at hi; cases hi
    | some x =>
      rw [q] at hi; cases hi
      refine fun C O σ H w v y Q k => hs i x q C O σ H w v y Q fun ρ' σ' a b' c n => k ρ' σ' a b' c ?_
      refine fun C O σ H w e Q k => n C O σ H w e Q fun bb H' r1 k1 z => k bb H' r1 k1 ?_
      obtain ⟨z1, z2⟩ := z
      cases bb with
      | true =>
        rw [if_pos rfl]
        refine (z2 rfl).mono fun d hd => ?_
        show acc ++ [d] = ((xs.take (i + 1)).filter b).map f
        rw [hd, ha, List.take_add_one, q, Option.toList_some, List.filter_append, List.map_append, List.filter_cons_of_pos (z1.symm)]; rfl
      | false =>
        rw [if_neg Bool.false_ne_true]
        show acc = ((xs.take (i + 1)).filter b).map f
        rw [ha, List.take_add_one, q, Option.toList_some, List.filter_append, List.filter_cons_of_neg (by rw [← z1]; exact Bool.false_ne_true)]
        simp
  · rw [List.length_map] at ha
    rw [ha, List.take_length]; exact hd
end
end LW

namespace LW
open PySem PySem.Spec PyProof.Rows L2
/-! ### operators by kinds -/
def rAddS : R2 := fun x y H Q => ∃ i j, x = .str i ∧ y = .str j ∧ i.length + j.length ≤ sizeLine ∧ Q (.str (i ++ j)) H
def rPlus : R2 := fun x y H Q => rI0 (fun i j => .int (i + j)) x y H Q ∨ (rCat x y H Q ∨ rAddS x y H Q)
def CM (i j : Int) : Prop := CMul i j ∨ CMulW i j
def rTimes : R2 := fun x y H Q => rI CM (fun i j => .int (i * j)) x y H Q ∨ rRep x y H Q
section
variable {X : Cx}
theorem op_plus : OpR X (binaryOp .Add) rPlus := op_add.or (op_cat.or op_add_str)
theorem op_mulE : OpR X (binaryOp .Mult) (rI CM fun i j => .int (i * j)) := opI fun _ _ _ _ _ _ _ hc q => mul_int q (hc.elim CMul.ok CMulW.ok)
theorem op_times : OpR X (binaryOp .Mult) rTimes := op_mulE.or op_rep
end
section
variable {E : EK} {Xc : XP} {K : PySem.W.Frag} {ρ : List Slot} {P : PyData → Prop} {ta tb te : TE}
theorem rp_plusI {a b : Int} (p : P (.int (a + b))) : RP rPlus (.int a) (.int b) P := fun O H vx vy d x y Q q => .inl (rp_int (f := fun i j => i + j) p O H vx vy d x y Q q)
theorem rp_plusL {a b : List PyData} (h : a.length + b.length ≤ 100000) (p : P (.list (a ++ b))) : RP rPlus (.list a) (.list b) P := fun O H vx vy d x y Q q => .inr (.inl (rp_cat h p O H vx vy d x y Q q))
theorem rp_plusS {a b : Str} (h : a.length + b.length ≤ 100000) (p : P (.str (a ++ b))) : RP rPlus (.str a) (.str b) P := fun O H vx vy d x y Q q => .inr (.inr (addStr_rp h p O H vx vy d x y Q q))
theorem rp_timesI {a b : Int} (h : CMulW a b) (p : P (.int (a * b))) : RP rTimes (.int a) (.int b) P := fun O H vx vy d x y Q q => .inl (rp_intC (f := fun i j => i * j) (Cd := CM) (.inr h) p O H vx vy d x y Q q)
theorem rp_timesL {a : List PyData} {k : Int} (h1 : -(2 ^ 62) ≤ k ∧ k < 2 ^ 62) (hl : a.length * k.toNat ≤ 100000) (p : P (.list (List.replicate k.toNat a).flatten)) : RP rTimes (.list a) (.int k) P := fun O H vx vy d x y Q q => .inr (rp_rep h1 hl p O H vx vy d x y Q q)
theorem en_times {P : List PyData → Prop} (h : EvP E Xc ta ρ fun x => EvP E Xc tb ρ fun y => ∃ ds k, x = .list ds ∧ y = .int k ∧ (-(2 ^ 62) ≤ k ∧ k < 2 ^ 62) ∧ ds.length * k.toNat ≤ 100000 ∧ P (List.replicate k.toNat ds).flatten) :
    EvN E Xc (tOp rTimes ta tb) ρ P := fun C O σ H x e Q q =>
  h C O σ H x e _ fun v1 d1 H1 x1 k1 y1 h1 => h1 C O σ H1 x1 e _ fun v2 d2 H2 x2 k2 y2 ⟨ds, k, e1, e2, hk, hl, p⟩ => by
    subst e1; subst e2
    have y1 := y1.keep k2
    cases y1 with
    | lst n e r =>
      cases y2
      refine .inr ⟨_, k, _, rfl, rfl, e, by omega, by omega, ?_, fun a na => q a _ _ H2 _ x2 (k1.trans k2) na (same_upd na) upd_same (r.rep k.toNat) p⟩
      rw [r.length]; exact Nat.le_trans hl (by decide)
theorem rp_fdiv {a b : Int} (h : CDivW a b) (p : P (.int (a / b))) : RP (rI CDivW fun i j => .int (i / j)) (.int a) (.int b) P := rp_intC (f := fun i j => i / j) h p
theorem rp_mod {a b : Int} (h : 0 < b) (p : P (.int (a % b))) : RP (rI (fun _ j => 0 < j) fun i j => .int (i % j)) (.int a) (.int b) P := rp_intC (f := fun i j => i % j) (Cd := fun _ j => 0 < j) h p
theorem rp_sub {a b : Int} (p : P (.int (a - b))) : RP (rI0 fun i j => .int (i - j)) (.int a) (.int b) P := rp_int (f := fun i j => i - j) p
theorem rp_lt {a b : Int} (p : P (.bool (decide (a < b)))) : RP (rI0 fun i j => .bl (decide (i < j))) (.int a) (.int b) P := rp_bl (f := fun i j => decide (i < j)) p
theorem rp_le {a b : Int} (p : P (.bool (decide (a ≤ b)))) : RP (rI0 fun i j => .bl (decide (i ≤ j))) (.int a) (.int b) P := rp_bl (f := fun i j => decide (i ≤ j)) p
theorem rp_gt {a b : Int} (p : P (.bool (decide (b < a)))) : RP (rI0 fun i j => .bl (decide (j < i))) (.int a) (.int b) P := rp_bl (f := fun i j => decide (j < i)) p
theorem rp_ge {a b : Int} (p : P (.bool (decide (b ≤ a)))) : RP (rI0 fun i j => .bl (decide (j ≤ i))) (.int a) (.int b) P := rp_bl (f := fun i j => decide (j ≤ i)) p
end
/-! ### defs -/
def DefIn (K : PySem.W.Frag) (mg : Str → Option Value) (x : Str) (st : Stmt) (ps : List Str) : Prop := ∃ (f : Addr) (fd : FuncData), Fun K x x st f fd ∧ mg x = some (.ref f) ∧ Binds K fd ps []
def Has (P : Program) (w : World) (K : PySem.W.Frag) (mg : Str → Option Value) (base : Heap) (CX : CXT) (x : Str) (ps : List Str) (k : Nat) (sp : Sp) : Prop :=
  ∃ (f : Addr) (fd : FuncData), FnOk P w K mg base CX k f fd ps sp ∧ mg x = some (.ref f) ∧ PySem.W.keepIn K (.ref f) = true ∧ Binds K fd ps []
theorem pe_h {X : Cx} {x : Str} {ps : List Str} {k j : Nat} {sp : Sp} {p pos : Pos} {e : Expr} {es : List Expr} {t : TA} (h : Has X.prog X.w X.K X.mg X.base CX0 x ps k sp) (hr : Room j X.A) (hj : k ≤ j) (hg : Gl X x) (ha : PA X (e :: es) t)
    (hdb : (x == ("__debug__" : Str)) = false := by decide) (he : starEach (e :: es) X.env = (false, eval e X.env) :: starEach es X.env := by rfl) (hpl : (backTo pos (starEach es X.env)).any (·.1) = false := by rfl) :
    PE X (.Call (.Name x p) (e :: es) [] pos) (tCall sp [] E0 t) := by
  obtain ⟨f, fd, F, m, kp, b⟩ := h
  exact pe_call F (hr.mono hj) hg m kp b .nil pass0 ha hdb he hpl
def entry (n : Nat) (ds : List PyData) : List Slot := ds.map .dat ++ List.replicate (n - ds.length) .no
theorem rel_entry {O : Addr → Prop} {H : Hp} {N : List Str} {vs : List V} {ds : List PyData} (hd : ∀ p, O p → H p ≠ none) (y : DnAll O H vs ds) : Rel ⟨O, fun _ => False, O, H, none⟩ O (entry N.length ds) (start N vs) H := by
  have len : (start N vs).length = (entry N.length ds).length := by
    unfold L2.start entry
    rw [List.length_append, List.length_append, List.length_map, List.length_map, List.length_replicate, List.length_replicate, y.length]
  have nown : ∀ (i : Nat) (s : Slot) (p : Addr), (entry N.length ds)[i]? = some s → ¬ foot s p := fun i s p e f => by
    have hm := List.mem_of_getElem? e
    unfold entry at hm
    rcases List.mem_append.mp hm with h | h
    · obtain ⟨d, _, e⟩ := List.mem_map.mp h; subst e; exact f.elim
    · have := List.eq_of_mem_replicate h; subst this; exact f.elim
  refine ⟨len, fun i s e => ?_, fun a o e _ => e, fun p h => ?_, fun p h => h, fun i s p e f => absurd f (nown i s p e), fun i j s s' p e _ f => absurd f (nown i s p e), fun p b e => (nomatch e), fun p h => .inl h, fun p h => h⟩
  · unfold entry at e
    unfold L2.start
    by_cases hi : i < ds.length
    · rw [List.getElem?_append_left (by simpa using hi), List.getElem?_map, List.getElem?_eq_getElem hi] at e
      cases e
      obtain ⟨v, h1, h2⟩ := y.get (i := i) (List.getElem?_eq_getElem hi)
      refine ⟨some v, ?_, v, rfl, h2⟩
      rw [List.getElem?_append_left (by rw [List.length_map, y.length]; exact hi), List.getElem?_map, h1]; rfl
    · rw [List.getElem?_append_right (by simpa using hi)] at e
      rw [List.getElem?_replicate] at e
      split at e
      · cases e
        rename_i hl
        refine ⟨none, ?_, trivial⟩
        rw [List.length_map] at hl
        rw [List.getElem?_append_right (by rw [List.length_map, y.length]; omega), List.length_map, List.getElem?_replicate, y.length]
        exact if_pos hl
      · cases e
  · cases q : H p with
    | none => exact absurd q (hd p h)
    | some o => exact ⟨o, rfl⟩
theorem rel_entryD {O : Addr → Prop} {H : Hp} {N : List Str} {ws : List V} {ds : List PyData} {p b : Addr} (hd : ∀ p, O p → H p ≠ none) (y : DnAll O H ws ds) (dr : Drw H p b) (hp : O p) (hb : O b) :
    Rel ⟨O, fun a => a = p ∨ a = b, O, H, some (p, b)⟩ O (.drw :: entry (N.length - 1) ds) (start N (.ref p :: ws)) H := by
  have r := rel_entry (N := N.tail) hd y
  have es : start N (.ref p :: ws) = some (.ref p) :: start N.tail ws := by
    unfold L2.start
    rw [List.map_cons, List.cons_append, List.length_cons, List.length_tail, Nat.add_comm ws.length 1, Nat.sub_sub]
  have el : entry (N.length - 1) ds = entry N.tail.length ds := by rw [List.length_tail]
  rw [es, el]
  have nown : ∀ (i : Nat) (s : Slot) (q : Addr), (Slot.drw :: entry N.tail.length ds)[i]? = some s → ¬ foot s q := fun i s q e f => by
    cases i with
    | zero => cases e; exact f.elim
    | succ i =>
      have e : (entry N.tail.length ds)[i]? = some s := e
      have hm := List.mem_of_getElem? e
      unfold entry at hm
      rcases List.mem_append.mp hm with h | h
      · obtain ⟨d, _, e⟩ := List.mem_map.mp h; subst e; exact f.elim
      · have := List.eq_of_mem_replicate h; subst this; exact f.elim
  refine ⟨by rw [List.length_cons, List.length_cons, r.len], fun i s e => ?_, fun a o e _ => e, r.dom, fun p h => h, fun i s p e f => absurd f (nown i s p e), fun i j s s' p e _ f => absurd f (nown i s p e), fun q c e => ?_, fun p h => .inl h, fun p h => h⟩
  · cases i with
    | zero => cases e; exact ⟨_, rfl, p, b, rfl, rfl⟩
    | succ i =>
      obtain ⟨x, e1, z⟩ := r.slot i s e
      refine ⟨x, e1, ?_⟩
      cases s with
      | drw => obtain ⟨_, _, z, _⟩ := z; cases z
      | _ => exact z
  · cases e
    exact ⟨dr, .inl rfl, .inr rfl, hp, hb⟩
section
variable {P : Program} {w : World} {K : PySem.W.Frag} {mg : Str → Option Value} {base : Heap}
abbrev X0 : XP := fun _ _ => False
abbrev EE : EK := fun _ => E0
theorem eok0 {C : Ctx} : EOk EE X0 C := fun _ _ _ _ _ _ h => h.elim
theorem has_pure {x : Str} {st : Stmt} {N ps : List Str} {k : Nat} {R : List PyData → (PyData → Prop) → Prop} (F : DefIn K mg x st ps) (S : FnScope N ps (defScope st)) (len : ∀ ds Q, R ds Q → ds.length = ps.length)
    (hb : ∀ (f : Addr) (cdv : Value) (A : Around) (outer : List Env) (s : Shared) (H : Hp) (E : XK), Room k (A.deeper (envOfC x (defScope st) s.heap.objs.size f cdv)) →
      ∃ t, PSs (cxOf CX0 P w K mg base N x (defScope st) f cdv A outer s H E).nox (defBody st) t ∧ ∀ ds Q, R ds Q → DS EE X0 t (entry N.length ds) (fun _ => Q .none) (fun _ => Q)) : Has P w K mg base CX0 x ps (k + 1) (PSp R) := by
  obtain ⟨f, fd, F, m, b⟩ := F
  refine ⟨f, fd, F.ok S (fun vs H Q E h => ?_) (fun cdv A outer s H vs Q E hr h => ?_), m, F.kp, b⟩
  · obtain ⟨O, ds, P', _, y, r, _⟩ := h
    rw [y.length]; exact len ds P' r
  · obtain ⟨O, ds, P', hd, y, r, q⟩ := h
    obtain ⟨t, ht, h⟩ := hb f cdv A outer s H E hr
    refine ⟨t, ht, h ds P' r _ O _ H _ (rel_entry hd y) eok0 (fun O' ρ' σ' H' x n => ?_) fun O' ρ' σ' v d H' x z p => ?_⟩
    · exact q .non .none H' (fun a o e => x.frame a o e id) .non n
    · exact q v d H' (fun a o e => x.frame a o e id) (z.sub x.sub) p
theorem has_draw {x : Str} {st : Stmt} {N ps : List Str} {k : Nat} {R : List PyData → (PyData → Prop) → Prop} (F : DefIn K mg x st ps) (S : FnScope N ps (defScope st)) (len : ∀ ds Q, R ds Q → ds.length + 1 = ps.length)
    (hb : ∀ (f : Addr) (cdv : Value) (A : Around) (outer : List Env) (s : Shared) (H : Hp) (E : XK), Room k (A.deeper (envOfC x (defScope st) s.heap.objs.size f cdv)) →
      ∃ t, PSs (cxOf CX0 P w K mg base N x (defScope st) f cdv A outer s H E).nox (defBody st) t ∧ ∀ ds Q, R ds Q → DS EE X0 t (.drw :: entry (N.length - 1) ds) (fun _ => Q .none) (fun _ => Q)) : Has P w K mg base CX0 x ps (k + 1) (DSp R) := by
  obtain ⟨f, fd, F, m, b⟩ := F
  refine ⟨f, fd, F.ok S (fun vs H Q E h => ?_) (fun cdv A outer s H vs Q E hr h => ?_), m, F.kp, b⟩
  · obtain ⟨O, p, b, ws, ds, P', e, _, _, _, _, y, r, _⟩ := h
    rw [e, List.length_cons, y.length]; exact len ds P' r
  · obtain ⟨O, p, b, ws, ds, P', e, hd, dr, hp, hb', y, r, q⟩ := h
    subst e
    obtain ⟨t, ht, h⟩ := hb f cdv A outer s H E hr
    refine ⟨t, ht, h ds P' r _ O _ H _ (rel_entryD hd y dr hp hb') eok0 (fun O' ρ' σ' H' x n => ?_) fun O' ρ' σ' v d H' x z p => ?_⟩
    · exact q .non .none H' (fun a o n1 n2 e => x.frame a o e fun z => z.elim n1 n2) (x.drk _ _ rfl).1 .non n
    · exact q v d H' (fun a o n1 n2 e => x.frame a o e fun z => z.elim n1 n2) (x.drk _ _ rfl).1 (z.sub x.sub) p
end
end LW

namespace LW
open PySem PySem.Spec PyProof.Rows L2
/-! ### the rules with the written part by its own name -/
section
variable {X : Cx} {K : PySem.W.Frag}
theorem ixS (hK : X.K = K) : IxR X (rIx K) := by subst hK; exact ix_seq
theorem opEq (hK : X.K = K) (hu : X.A.units + 64 < cLine) : OpR X (compareOp .Eq) (rEqD K) := by subst hK; exact op_eqD hu
theorem opNe (hK : X.K = K) (hu : X.A.units + 64 < cLine) : OpR X (compareOp .NotEq) (rNeD K) := by subst hK; exact op_neD hu
theorem opIn (hK : X.K = K) : OpR X (compareOp .In) (rIn K false) := by subst hK; exact op_in_seq
theorem opNotIn (hK : X.K = K) : OpR X (compareOp .NotIn) (rIn K true) := by subst hK; exact op_notIn_seq
theorem cLen (hK : X.K = K) : CallR X (.builtin "len") (fun xs H Q => ∃ x n, xs = [x] ∧ LenV K x H n ∧ Q (.int n) H) := by subst hK; exact call_len
theorem cIsi (hK : X.K = K) : CallR X (.builtin "isinstance") (rIsi K) := by subst hK; exact call_isi
theorem cAll (hK : X.K = K) (hc : X.calm = true) : CallR X (.builtin "all") (rAll K) := by subst hK; exact cr_all hc
theorem cAny (hK : X.K = K) (hc : X.calm = true) : CallR X (.builtin "any") (rAny K) := by subst hK; exact cr_any hc
theorem cSum (hK : X.K = K) (hc : X.calm = true) : CallR X (.builtin "sum") (rSum K) := by subst hK; exact cr_sum hc
theorem cList (hK : X.K = K) : CallR X (.type "list") (fun xs H Q => ∃ p ys, xs = [.ref p] ∧ (SqL K H p ys ∨ SqT K H p ys) ∧ ∀ l, H l = none → Q (.ref l) (upd H l (.lst ys))) := by subst hK; exact call_list_of
theorem slL (hK : X.K = K) : SlR X (rSlL K) := by subst hK; exact sl_list
variable {tg : Expr}
theorem pi_listK (hK : X.K = K) {l : Expr} {tl : TE} (hl : PE X l tl) : PI X tg l (iList K tl) := by subst hK; exact pi_list hl
theorem pi_tupK (hK : X.K = K) {l : Expr} {tl : TE} (hl : PE X l tl) : PI X tg l (iTup K tl) := by subst hK; exact pi_tup hl
theorem pi_enumK (hK : X.K = K) {e : Expr} {ta : TA} {p pos tpos : Pos} {elts : List Expr} {kk : Nat} (hg : Gl X "enumerate") (hm : X.mg "enumerate" = none) (ha : PA X [e] ta) (hs : starEach [e] X.env = [(false, eval e X.env)] := by rfl) :
    PI X (.Tuple elts kk tpos) (.Call (.Name "enumerate" p) [e] [] pos) (iEnum K ta) := by subst hK; exact pi_enum hg hm ha hs
theorem pi_zipK (hK : X.K = K) {e e2 : Expr} {ta : TA} {p pos tpos : Pos} {elts : List Expr} {kk : Nat} (hg : Gl X "zip") (hm : X.mg "zip" = none) (ha : PA X [e, e2] ta) (hs : starEach [e, e2] X.env = (false, eval e X.env) :: starEach [e2] X.env := by rfl) (hp : (backTo pos (starEach [e2] X.env)).any (·.1) = false := by rfl) :
    PI X (.Tuple elts kk tpos) (.Call (.Name "zip" p) [e, e2] [] pos) (iZip K ta) := by subst hK; exact pi_zip hg hm ha hs hp
theorem pe_revK (hK : X.K = K) {e : Expr} {te : TE} {k : Nat} {p1 p2 p3 pos : Pos} (he : PE X e te) : PE X (.Subscript e (.Slice none none (some (.UnaryOp .USub (.Constant (.int 1) k p1) p2)) p3) pos) (tRevL K te) := by subst hK; exact pe_revL he
theorem pg_tupK (hK : X.K = K) {es : List Expr} {k : Nat} {t : TGs} {n : Nat} {pos : Pos} (hc : X.calm = true) (h : PGs X es t) (hn : (assignEach es X.env).length = n := by rfl) (hst : (assignEach es X.env).findIdx? (·.1) = none := by rfl) : PG X (.Tuple es k pos) (gTup K n t) := by
  subst hK; exact pg_tup hc h hn hst
theorem pe_appK (hK : X.K = K) {o e : Expr} {to : TE} {t : TA} {apos cpos : Pos} (ho : PE X o to) (ha : PA X [e] t)
    (hbase : attributeBase o "append" X.env (eval o X.env) = eval o X.env := by rfl)
    (hfew : ((backTo cpos (starEach [e] X.env)).all (fun x => !x.1) && (backToKw cpos (keywordEach [] X.env)).all (fun x => x.1.isSome)
      && decide ([e].length + ([] : List Keyword).length + (if ([] : List Keyword).isEmpty then 0 else 1) < 30)) = true := by rfl)
    (hline : (apos.endLine == cpos.line) = true := by rfl) (hs : starEach [e] X.env = (false, eval e X.env) :: starEach [] X.env := by rfl) (hplain : (backTo cpos (starEach [] X.env)).any (·.1) = false := by rfl) :
    PE X (.Call (.Attribute o "append" apos) [e] [] cpos) (tBM K "list" rAppend to t) := by
  subst hK
  exact pe_bm PySem.F.plainAttrs_list PySem.F.slot_list_append PySem.F.type_list_append mt_append ho ha hbase hfew hline hs hplain
/-- a comprehension within another's block -/
theorem blkOk_in {N : List Str} {scope sc scope1 : Scope} {own : List (Str × Nat)} {env : Env} {cl : List (Str × Addr)} {C : Addr} (he : relabel scope env = relS scope sc) (h : blkC N (relS scope sc) scope1 own = true) : BlkOk N (compEnvC scope cl C env).scope scope1 own := by
  show BlkOk N (relabel scope env) scope1 own
  rw [he]; exact blkOk_by h
/-- o[i] of a list at a place from the front, by values -/
def rGetL (K : PySem.W.Frag) : V → V → Hp → VK → Prop := fun x y H Q => ∃ (p : Addr) (xs : List V) (k : Int) (v : V), x = .ref p ∧ y = .int k ∧ 0 ≤ k ∧ SqL K H p xs ∧ xs[k.toNat]? = some v ∧ Q v H
theorem get_list (hK : X.K = K) : PGet X (rGetL K) := by
  subst hK
  intro pins s σ H o i ov iv Q I r1 r2 h
  obtain ⟨p, xs, k, v, rfl, rfl, h0, hq, hx, q⟩ := h
  cases r1
  obtain ⟨t, rfl⟩ := r2
  obtain ⟨its, rv, pl, hz⟩ := I.list hq
  obtain ⟨w, ew, rw'⟩ := rv.get hx
  have hlt := (List.getElem?_eq_some_iff.mp hx).1
  have hn := line63
  exact wpAny_getItem_list pl.isList h0 (by omega) (by simpa using ew) ⟨v, H, I, rw', q⟩
end
/-! small existences, by their shape -/
theorem ex_bool {c : Bool} {P : Bool → Prop} (h : P c) : ∃ b, PyData.bool c = .bool b ∧ P b := ⟨c, rfl, h⟩
theorem ex_int {c : Int} {P : Int → Prop} (h : P c) : ∃ b, PyData.int c = .int b ∧ P b := ⟨c, rfl, h⟩
theorem ex_list {c : List PyData} {P : List PyData → Prop} (h : P c) : ∃ b, PyData.list c = .list b ∧ P b := ⟨c, rfl, h⟩
theorem ex_tuple {c : List PyData} {P : List PyData → Prop} (h : P c) : ∃ b, PyData.tuple c = .tuple b ∧ P b := ⟨c, rfl, h⟩
theorem ex_arg1 {c : Int} {P : Int → Prop} (h : P c) : ∃ b, [PyData.int c] = [.int b] ∧ P b := ⟨c, rfl, h⟩
theorem ex_arg2 {a b : Int} {P : Int → Int → Prop} (h : P a b) : ∃ x y, [PyData.int a, .int b] = [.int x, .int y] ∧ P x y := ⟨a, b, rfl, h⟩
theorem ex_argL {c : List PyData} {P : List PyData → Prop} (h : P c) : ∃ b, [PyData.list c] = [.list b] ∧ P b := ⟨c, rfl, h⟩
theorem ex_argLL {a b : List PyData} {P : List PyData → List PyData → Prop} (h : P a b) : ∃ x y, [PyData.list a, .list b] = [.list x, .list y] ∧ P x y := ⟨a, b, rfl, h⟩
theorem ex_pair {a b : PyData} {P : PyData → PyData → Prop} (h : P a b) : ∃ x y, [a, b] = [x, y] ∧ P x y := ⟨a, b, rfl, h⟩
theorem and_len {n : Nat} {P : Prop} (h1 : n ≤ 100000) (h : P) : n ≤ 100000 ∧ P := ⟨h1, h⟩
theorem and_rng {n : Int} {P : Prop} (h1 : -(2 ^ 62) ≤ n ∧ n < 2 ^ 62) (h : P) : (-(2 ^ 62) ≤ n ∧ n < 2 ^ 62) ∧ P := ⟨h1, h⟩
theorem and_rng2 {a b : Int} {P : Prop} (h1 : -(2 ^ 62) ≤ a ∧ a < 2 ^ 62 ∧ -(2 ^ 62) ≤ b ∧ b < 2 ^ 62) (h : P) : (-(2 ^ 62) ≤ a ∧ a < 2 ^ 62 ∧ -(2 ^ 62) ≤ b ∧ b < 2 ^ 62) ∧ P := ⟨h1, h⟩
theorem rc_lenM {K : PySem.W.Frag} {α : Type} {f : α → PyData} {xs : List α} {P : PyData → Prop} (p : P (.int xs.length)) : RC (fun xs H Q => ∃ x n, xs = [x] ∧ LenV K x H n ∧ Q (.int n) H) [.list (xs.map f)] P := rc_len (n := xs.length) (by show some (xs.map f).length = _; rw [List.length_map]) p
theorem notDec {c : Prop} [Decidable c] (h : c) : (!decide c) = false := by rw [decide_eq_true h]; rfl
theorem range_get {n i x : Nat} (h : (List.range n)[i]? = some x) : x = i ∧ i < n := by
  obtain ⟨h1, h2⟩ := List.getElem?_eq_some_iff.mp h
  rw [List.length_range] at h1
  rw [List.getElem_range] at h2
  exact ⟨h2.symm, h1⟩
theorem atI_int {α : Type} {xs : List α} {k : Int} {j : Nat} (e : k = (j : Int)) (hl : j < xs.length) : atI xs k = some xs[j] := by
  rw [e]; exact atI_nat (List.getElem?_eq_getElem hl)
section
variable {E : EK} {Xc : XP} {ρ : List Slot} {N : List Slot → Prop} {R : RK}
theorem Rel.forget {C : Ctx} {O : Addr → Prop} {σ : L2.St} {H : Hp} (r : Rel C O ρ σ H) (i : Nat) : Rel C O (ρ.set i .no) σ H := by
  have h := r.setN (i := i) (x := (σ[i]?).getD none)
  have e : σ.set i ((σ[i]?).getD none) = σ := by
    apply List.ext_getElem?
    intro j
    by_cases hj : i = j
    · subst hj
      by_cases hl : i < σ.length
      · rw [List.getElem?_set_self hl, List.getElem?_eq_getElem hl]; rfl
      · rw [List.getElem?_eq_none (by simpa using hl), List.getElem?_eq_none (by simpa using hl)]
    · rw [List.getElem?_set_ne hj]
  rwa [e] at h
theorem ds_forget {t : TS} (i : Nat) (h : DS E Xc t (ρ.set i .no) N R) : DS E Xc t ρ N R := fun C O σ H D x e nx rt => h C O σ H D (x.forget i) e nx rt
theorem ds_guard {c : TT} {t : TS} (h : EvT E Xc c ρ fun b => b = false) (k : N ρ) : DS E Xc (tIfS c t tNext) ρ N R := ds_if fun C O σ H x e Q q => h C O σ H x e Q fun b H' x' k' eb => q b H' x' k' (by subst eb; exact iteF (ds_next k))
theorem ds_dropC {sp : Sp} {dvs : List V} {E' : XK} {ta : TA} (h : EvP E Xc (tCall sp dvs E' ta) ρ fun _ => N ρ) : DS E Xc (tDrop (tCall sp dvs E' ta)) ρ N R := ds_drop h
end
end LW

namespace LW
open PySem PySem.Spec PyProof.Rows L2
/-! ### fractions -/
/-- a fraction as the text has it: a tuple in lowest terms -/
def enc (r : Rat) : PyData := .tuple [.int r.num, .int (r.den : Int)]
theorem enc_inj {r s : Rat} (h : enc r = enc s) : r = s := by
  unfold enc at h
  injection h with h
  injection h with h1 h2
  injection h2 with h2 _
  injection h1 with h1
  injection h2 with h2
  exact Rat.ext h1 (by omega)
def Bd (n : Nat) (r : Rat) : Prop := r.num.natAbs < 2 ^ n ∧ r.den < 2 ^ n
theorem Bd.mono {n m : Nat} {r : Rat} (h : Bd n r) (hl : n ≤ m) : Bd m r := ⟨Nat.lt_of_lt_of_le h.1 (Nat.pow_le_pow_right (by decide) hl), Nat.lt_of_lt_of_le h.2 (Nat.pow_le_pow_right (by decide) hl)⟩
theorem natAbs_div_le (a : Int) (g : Nat) : (a / (g : Int)).natAbs ≤ a.natAbs := by
  exact Int.natAbs_ediv_le_natAbs a g
/-- a quotient of ints in lowest terms -/
theorem den_pos (r : Rat) : (0 : Int) < r.den := by have := r.den_pos; omega
theorem div_eq (a : Int) {b : Int} (hb : 0 < b) : (a : Rat) / (b : Rat) = mkRat a b.toNat := by
  rw [Rat.mkRat_eq_div]
  have e : ((b.toNat : Nat) : Int) = b := Int.toNat_of_nonneg (Int.le_of_lt hb)
  rw [← e]; rfl
theorem num_div (a : Int) {b : Int} (hb : 0 < b) : ((a : Rat) / (b : Rat)).num = a / ((Nat.gcd a.natAbs b.toNat : Nat) : Int) := by
  rw [div_eq a hb, Rat.num_mkRat, if_neg (by omega), Nat.gcd_comm]
theorem den_div (a : Int) {b : Int} (hb : 0 < b) : (((a : Rat) / (b : Rat)).den : Int) = b / ((Nat.gcd a.natAbs b.toNat : Nat) : Int) := by
  rw [div_eq a hb, Rat.den_mkRat, if_neg (by omega), Nat.gcd_comm]
  have e : ((b.toNat : Nat) : Int) = b := Int.toNat_of_nonneg (Int.le_of_lt hb)
  rw [Int.natCast_ediv, e]
theorem Bd.div {a b : Int} {n : Nat} (hb : 0 < b) (h1 : a.natAbs < 2 ^ n) (h2 : b.natAbs < 2 ^ n) : Bd n ((a : Rat) / (b : Rat)) := by
  refine ⟨?_, ?_⟩
  · rw [num_div a hb]; exact Nat.lt_of_le_of_lt (natAbs_div_le _ _) h1
  · have e := den_div a hb
    have h3 : (((a : Rat) / (b : Rat)).den) ≤ b.natAbs := by
      have := natAbs_div_le b (Nat.gcd a.natAbs b.toNat)
      rw [← e] at this
      simpa using this
    exact Nat.lt_of_le_of_lt h3 h2
theorem rat_eq (r : Rat) : r = (r.num : Rat) / ((r.den : Int) : Rat) := by
  have h := div_eq r.num (den_pos r)
  rw [h]
  simp [Rat.mkRat_self]
theorem den_ne (r : Rat) : (((r.den : Int) : Rat)) ≠ 0 := by
  have h := r.den_pos
  have : (0 : Rat) < ((r.den : Int) : Rat) := Rat.intCast_pos.mpr (by omega)
  exact Rat.ne_of_gt this
theorem cast_mul (a b : Int) : ((a * b : Int) : Rat) = (a : Rat) * (b : Rat) := by grind
theorem add_frac (r s : Rat) : ((r.num * (s.den : Int) + s.num * (r.den : Int) : Int) : Rat) / (((r.den : Int) * (s.den : Int) : Int) : Rat) = r + s := by
  have h1 := rat_eq r
  have h2 := rat_eq s
  have h3 := den_ne r
  have h4 := den_ne s
  rw [Rat.intCast_add, cast_mul, cast_mul, cast_mul]
  generalize ((r.den : Int) : Rat) = a at *
  generalize ((s.den : Int) : Rat) = b at *
  generalize ((r.num : Int) : Rat) = c at *
  generalize ((s.num : Int) : Rat) = d at *
  rw [h1, h2]
  grind
theorem sub_frac (r s : Rat) : ((r.num * (s.den : Int) - s.num * (r.den : Int) : Int) : Rat) / (((r.den : Int) * (s.den : Int) : Int) : Rat) = r - s := by
  have h1 := rat_eq r
  have h2 := rat_eq s
  have h3 := den_ne r
  have h4 := den_ne s
  rw [Rat.intCast_sub, cast_mul, cast_mul, cast_mul]
  generalize ((r.den : Int) : Rat) = a at *
  generalize ((s.den : Int) : Rat) = b at *
  generalize ((r.num : Int) : Rat) = c at *
  generalize ((s.num : Int) : Rat) = d at *
  rw [h1, h2]
  grind
theorem mul_frac (r s : Rat) : ((r.num * s.num : Int) : Rat) / (((r.den : Int) * (s.den : Int) : Int) : Rat) = r * s := by
  have h1 := rat_eq r
  have h2 := rat_eq s
  have h3 := den_ne r
  have h4 := den_ne s
  rw [cast_mul, cast_mul]
  generalize ((r.den : Int) : Rat) = a at *
  generalize ((s.den : Int) : Rat) = b at *
  generalize ((r.num : Int) : Rat) = c at *
  generalize ((s.num : Int) : Rat) = d at *
  rw [h1, h2]
  grind
theorem div_frac (r s : Rat) (hs : 0 < s) : ((r.num * (s.den : Int) : Int) : Rat) / (((r.den : Int) * s.num : Int) : Rat) = r / s := by
  have h1 := rat_eq r
  have h2 := rat_eq s
  have h3 := den_ne r
  have h4 := den_ne s
  have h5 : ((s.num : Int) : Rat) ≠ 0 := fun h => by
    rw [h] at h2
    rw [h2] at hs
    grind
  rw [cast_mul, cast_mul]
  generalize ((r.den : Int) : Rat) = a at *
  generalize ((s.den : Int) : Rat) = b at *
  generalize ((r.num : Int) : Rat) = c at *
  generalize ((s.num : Int) : Rat) = d at *
  rw [h1, h2]
  grind
theorem num_pos {s : Rat} (h : 0 < s) : 0 < s.num := by
  have h1 : 0 ≤ s.num := Rat.num_nonneg.mpr (Rat.le_of_lt h)
  have h2 : s.num ≠ 0 := fun e => by
    rw [Rat.num_eq_zero] at e
    rw [e] at h
    exact absurd h Rat.lt_irrefl
  omega
theorem lt_frac (r s : Rat) : decide (r.num * (s.den : Int) < s.num * (r.den : Int)) = decide (r < s) := by
  rw [Bool.eq_iff_iff]
  simp only [decide_eq_true_eq]
  exact (Rat.lt_iff r s).symm
section
variable {n m : Nat} {r s : Rat}
theorem Bd.add (h1 : Bd n r) (h2 : Bd m s) : Bd (n + m + 1) (r + s) := by
  rw [← add_frac r s]
  refine Bd.div (Int.mul_pos (den_pos r) (den_pos s)) ?_ ?_
  · have a := wide_lt (i := r.num) (j := (s.den : Int)) h1.1 (by simpa using h2.2)
    have b := wide_lt (i := s.num) (j := (r.den : Int)) h2.1 (by simpa using h1.2)
    rw [Nat.add_comm m n] at b
    have c := Int.natAbs_add_le (r.num * (s.den : Int)) (s.num * (r.den : Int))
    rw [Nat.pow_succ]
    omega
  · have a := wide_lt (i := (r.den : Int)) (j := (s.den : Int)) (a := n) (b := m) (by simpa using h1.2) (by simpa using h2.2)
    rw [Nat.pow_succ]
    omega
theorem Bd.sub (h1 : Bd n r) (h2 : Bd m s) : Bd (n + m + 1) (r - s) := by
  rw [← sub_frac r s]
  refine Bd.div (Int.mul_pos (den_pos r) (den_pos s)) ?_ ?_
  · have a := wide_lt (i := r.num) (j := (s.den : Int)) h1.1 (by simpa using h2.2)
    have b := wide_lt (i := s.num) (j := (r.den : Int)) h2.1 (by simpa using h1.2)
    rw [Nat.add_comm m n] at b
    have c := Int.natAbs_sub_le (r.num * (s.den : Int)) (s.num * (r.den : Int))
    rw [Nat.pow_succ]
    omega
  · have a := wide_lt (i := (r.den : Int)) (j := (s.den : Int)) (a := n) (b := m) (by simpa using h1.2) (by simpa using h2.2)
    rw [Nat.pow_succ]
    omega
theorem Bd.mul (h1 : Bd n r) (h2 : Bd m s) : Bd (n + m) (r * s) := by
  rw [← mul_frac r s]
  exact Bd.div (Int.mul_pos (den_pos r) (den_pos s)) (wide_lt h1.1 h2.1) (wide_lt (by simpa using h1.2) (by simpa using h2.2))
theorem Bd.quo (h1 : Bd n r) (h2 : Bd m s) (hs : 0 < s) : Bd (n + m) (r / s) := by
  rw [← div_frac r s hs]
  exact Bd.div (Int.mul_pos (den_pos r) (num_pos hs)) (wide_lt h1.1 (by simpa using h2.2)) (wide_lt (by simpa using h1.2) h2.1)
theorem Bd.zero : Bd 1 0 := ⟨by decide, by decide⟩
theorem Bd.one : Bd 1 1 := ⟨by decide, by decide⟩
end
end LW

namespace LW
open PySem PySem.Spec PyProof.Rows L2
/-! ### what the small defs promise -/
def R_common (ds : List PyData) (P : PyData → Prop) : Prop := ∃ a b : Int, ds = [.int a, .int b] ∧ 0 ≤ a ∧ 0 ≤ b ∧ P (.int (Nat.gcd a.toNat b.toNat : Nat))
theorem S_common {a b : Int} {P : PyData → Prop} (ha : 0 ≤ a) (hb : 0 ≤ b) (p : P (.int (Nat.gcd a.toNat b.toNat : Nat))) : R_common [.int a, .int b] P := ⟨a, b, rfl, ha, hb, p⟩
def R_low (ds : List PyData) (P : PyData → Prop) : Prop := ∃ a b : Int, ds = [.int a, .int b] ∧ 0 < b ∧ b.natAbs < 2 ^ 9000 ∧ P (enc ((a : Rat) / (b : Rat)))
theorem S_low {a b : Int} {n : Nat} {P : PyData → Prop} (hb : 0 < b) (h : b.natAbs < 2 ^ n) (hn : n ≤ 9000) (p : P (enc ((a : Rat) / (b : Rat)))) : R_low [.int a, .int b] P := ⟨a, b, rfl, hb, Nat.lt_of_lt_of_le h (Nat.pow_le_pow_right (by decide) hn), p⟩
def R_add (ds : List PyData) (P : PyData → Prop) : Prop := ∃ (r s : Rat) (n m : Nat), ds = [enc r, enc s] ∧ Bd n r ∧ Bd m s ∧ n + m ≤ 9000 ∧ P (enc (r + s))
def R_sub (ds : List PyData) (P : PyData → Prop) : Prop := ∃ (r s : Rat) (n m : Nat), ds = [enc r, enc s] ∧ Bd n r ∧ Bd m s ∧ n + m ≤ 9000 ∧ P (enc (r - s))
def R_mul (ds : List PyData) (P : PyData → Prop) : Prop := ∃ (r s : Rat) (n m : Nat), ds = [enc r, enc s] ∧ Bd n r ∧ Bd m s ∧ n + m ≤ 9000 ∧ P (enc (r * s))
def R_div (ds : List PyData) (P : PyData → Prop) : Prop := ∃ (r s : Rat) (n m : Nat), ds = [enc r, enc s] ∧ 0 < s ∧ Bd n r ∧ Bd m s ∧ n + m ≤ 9000 ∧ P (enc (r / s))
def R_less (ds : List PyData) (P : PyData → Prop) : Prop := ∃ (r s : Rat) (n m : Nat), ds = [enc r, enc s] ∧ Bd n r ∧ Bd m s ∧ n + m ≤ 9000 ∧ P (.bool (decide (r < s)))
section
variable {r s : Rat} {n m : Nat} {P : PyData → Prop}
theorem S_add (h1 : Bd n r) (h2 : Bd m s) (h : n + m ≤ 9000) (p : P (enc (r + s))) : R_add [enc r, enc s] P := ⟨r, s, n, m, rfl, h1, h2, h, p⟩
theorem S_sub (h1 : Bd n r) (h2 : Bd m s) (h : n + m ≤ 9000) (p : P (enc (r - s))) : R_sub [enc r, enc s] P := ⟨r, s, n, m, rfl, h1, h2, h, p⟩
theorem S_mul (h1 : Bd n r) (h2 : Bd m s) (h : n + m ≤ 9000) (p : P (enc (r * s))) : R_mul [enc r, enc s] P := ⟨r, s, n, m, rfl, h1, h2, h, p⟩
theorem S_div (hs : 0 < s) (h1 : Bd n r) (h2 : Bd m s) (h : n + m ≤ 9000) (p : P (enc (r / s))) : R_div [enc r, enc s] P := ⟨r, s, n, m, rfl, hs, h1, h2, h, p⟩
theorem S_less (h1 : Bd n r) (h2 : Bd m s) (h : n + m ≤ 9000) (p : P (.bool (decide (r < s)))) : R_less [enc r, enc s] P := ⟨r, s, n, m, rfl, h1, h2, h, p⟩
end
def R_sum (ds : List PyData) (P : PyData → Prop) : Prop := ∃ xs : List Rat, ds = [.list (xs.map enc)] ∧ (∀ (i : Nat) (x : Rat), xs[i]? = some x → ∃ n m, Bd n (xs.take i).sum ∧ Bd m x ∧ n + m ≤ 9000) ∧ P (enc xs.sum)
theorem sum_take_succ {xs : List Rat} {i : Nat} {x : Rat} (h : xs[i]? = some x) : (xs.take (i + 1)).sum = (xs.take i).sum + x := by
  rw [List.take_add_one, h, List.sum_append]
  simp [Rat.add_zero]
theorem Bd.sumTake {xs : List Rat} {n : Nat} (h : ∀ x ∈ xs, Bd n x) : ∀ i, i ≤ xs.length → Bd (1 + i * (n + 1)) (xs.take i).sum
  | 0, _ => by simpa using Bd.zero
  | i + 1, hi => by
    have e : xs[i]? = some xs[i] := List.getElem?_eq_getElem (by omega)
    rw [sum_take_succ e]
    have h1 := Bd.sumTake h i (by omega)
    have h2 := h xs[i] (List.getElem_mem _)
    refine (h1.add h2).mono ?_
    rw [Nat.succ_mul]; omega
theorem Bd.sum {xs : List Rat} {n : Nat} (h : ∀ x ∈ xs, Bd n x) : Bd (1 + xs.length * (n + 1)) xs.sum := by
  have := Bd.sumTake h xs.length (Nat.le_refl _)
  rwa [List.take_length] at this
theorem S_sum {xs : List Rat} {n : Nat} {P : PyData → Prop} (h : ∀ x ∈ xs, Bd n x) (hl : 1 + xs.length * (n + 1) + n ≤ 9000) (p : P (enc xs.sum)) : R_sum [.list (xs.map enc)] P := ⟨xs, rfl, fun i x hi => by
  have hlt := (List.getElem?_eq_some_iff.mp hi).1
  have : i * (n + 1) ≤ xs.length * (n + 1) := Nat.mul_le_mul_right _ (by omega)
  exact ⟨_, _, Bd.sumTake h i (by omega), h x (List.mem_of_getElem? hi), by omega⟩, p⟩
theorem S_sumG {xs : List Rat} {P : PyData → Prop} (h : ∀ (i : Nat) (x : Rat), xs[i]? = some x → ∃ n m, Bd n (xs.take i).sum ∧ Bd m x ∧ n + m ≤ 9000) (p : P (enc xs.sum)) : R_sum [.list (xs.map enc)] P := ⟨xs, rfl, h, p⟩
/-! items of fractions -/
section
variable {E : EK} {Xc : XP} {K : PySem.W.Frag} {ρ : List Slot} {P : PyData → Prop}
theorem rp_enc0 {r : Rat} (p : P (.int r.num)) : RP (rIx K) (enc r) (.int 0) P := rp_ixT rfl p
theorem rp_enc1 {r : Rat} (p : P (.int (r.den : Int))) : RP (rIx K) (enc r) (.int 1) P := rp_ixT rfl p
theorem dg_enc {J : Nat → Prop} {i j : Nat} {r : Rat} {N : List Slot → Prop} (hi : J i) (hj : J j) (h : N ((ρ.set i (.dat (.int r.num))).set j (.dat (.int (r.den : Int))))) : DG (gTup K 2 (gCons (gName i) (gCons (gName j) gNil))) J (enc r) ρ N := dg_tup2 hi hj h
theorem ev_zero (p : P (enc 0)) : EvP E Xc (tTup (tCons (tC (.int 0)) (tCons (tC (.int 1)) tNil))) ρ P := ev_tup (ea_cons (ev_int (ea_cons (ev_int (ea_nil ⟨by decide, p⟩)))))
theorem ev_one (p : P (enc 1)) : EvP E Xc (tTup (tCons (tC (.int 1)) (tCons (tC (.int 1)) tNil))) ρ P := ev_tup (ea_cons (ev_int (ea_cons (ev_int (ea_nil ⟨by decide, p⟩)))))
end
/-- [a fraction for x in xs] -/
theorem lcI_enc {E : EK} {Xc : XP} {ρ : List Slot} {P : PyData → Prop} {te : TE} {g : TG} {vs : List Nat} {α : Type} {xs : List α} {e : α → PyData} (f : α → Rat) (hl : xs.length ≤ 100000)
    (hs : ∀ (i : Nat) (x : α), xs[i]? = some x → DG g (· ∈ vs) (e x) (wipeS ρ vs) fun ρ' => EvP E Xc te ρ' fun d => d = enc (f x)) (hd : P (.list ((xs.map f).map enc))) : LcI E Xc g tYes te vs P ρ (xs.map e) :=
  lcI_map (fun x => enc (f x)) hl hs (by rw [List.map_map] at hd; exact hd)
end LW

namespace LW
open PySem PySem.Spec PyProof.Rows L2
/-! ### == -/
theorem eqv_int (a b : Int) : PyData.eqv (.int a) (.int b) = decide (a = b) := by
  rw [PyData.eqv, Bool.eq_iff_iff]; simp
theorem eqv_bool (a b : Bool) : PyData.eqv (.bool a) (.bool b) = decide (a = b) := by
  rw [PyData.eqv, Bool.eq_iff_iff]; simp
theorem eqv_str (a b : Str) : PyData.eqv (.str a) (.str b) = decide (a = b) := by
  rw [PyData.eqv, Bool.eq_iff_iff]; simp
theorem eqv_enc (r s : Rat) : PyData.eqv (enc r) (enc s) = decide (r = s) := by
  unfold enc
  rw [PyData.eqv, PyData.eqvAll, PyData.eqvAll, PyData.eqvAll, eqv_int, eqv_int, Bool.eq_iff_iff]
  simp only [Bool.and_true, Bool.and_eq_true, decide_eq_true_eq]
  constructor
  · rintro ⟨h1, h2⟩; exact Rat.ext h1 (by omega)
  · rintro rfl; exact ⟨rfl, rfl⟩
/-- a way of writing that == sees through -/
theorem eqvAll_map {α : Type} {f : α → PyData} (hf : ∀ a b, (PyData.eqv (f a) (f b) = true ↔ a = b)) : ∀ xs ys : List α, (PyData.eqvAll (xs.map f) (ys.map f) = true ↔ xs = ys)
  | [], [] => by simp [PyData.eqvAll]
  | [], _ :: _ => by simp [PyData.eqvAll]
  | _ :: _, [] => by simp [PyData.eqvAll]
  | x :: xs, y :: ys => by
    rw [List.map_cons, List.map_cons, PyData.eqvAll, Bool.and_eq_true, hf, eqvAll_map hf xs ys]
    simp
theorem eqv_list {α : Type} [DecidableEq α] {f : α → PyData} (hf : ∀ a b, (PyData.eqv (f a) (f b) = true ↔ a = b)) (xs ys : List α) : PyData.eqv (.list (xs.map f)) (.list (ys.map f)) = decide (xs = ys) := by
  rw [PyData.eqv, Bool.eq_iff_iff, eqvAll_map hf]; simp
theorem enc_iff (a b : Rat) : PyData.eqv (enc a) (enc b) = true ↔ a = b := by rw [eqv_enc]; simp
theorem int_iff (a b : Int) : PyData.eqv (.int a) (.int b) = true ↔ a = b := by rw [eqv_int]; simp
theorem eqv_encs (xs ys : List Rat) : PyData.eqv (.list (xs.map enc)) (.list (ys.map enc)) = decide (xs = ys) := eqv_list enc_iff xs ys
/-! shapes -/
def Shp (n : Nat) (d : PyData) : Prop := d.canLay0 = true ∧ d.depth ≤ n
theorem Shp.shaped {n : Nat} {d : PyData} (h : Shp n d) (hn : n ≤ 64) : SeqAt.shaped d = true := by
  unfold SeqAt.shaped
  rw [h.1, decide_eq_true (Nat.le_trans h.2 hn)]; rfl
theorem canLayAll {n : Nat} : ∀ {ds : List PyData}, (∀ d ∈ ds, Shp n d) → PyData.canLayAll0 ds = true ∧ PyData.depthAll ds ≤ n
  | [], _ => ⟨rfl, Nat.zero_le _⟩
  | d :: ds, h => by
    obtain ⟨h1, h2⟩ := h d List.mem_cons_self
    obtain ⟨h3, h4⟩ := canLayAll (ds := ds) fun x hx => h x (List.mem_cons_of_mem _ hx)
    refine ⟨by rw [PyData.canLayAll0, h1, h3]; rfl, ?_⟩
    rw [PyData.depthAll]
    exact Nat.max_le.mpr ⟨h2, h4⟩
theorem Shp.list {n : Nat} {ds : List PyData} (h : ∀ d ∈ ds, Shp n d) : Shp (n + 1) (.list ds) := by
  obtain ⟨h1, h2⟩ := canLayAll h
  refine ⟨by rw [PyData.canLay0]; exact h1, ?_⟩
  rw [PyData.depth]; omega
theorem Shp.tuple {n : Nat} {ds : List PyData} (h : ∀ d ∈ ds, Shp n d) : Shp (n + 1) (.tuple ds) := by
  obtain ⟨h1, h2⟩ := canLayAll h
  refine ⟨by rw [PyData.canLay0]; exact h1, ?_⟩
  rw [PyData.depth]; omega
theorem Shp.int (i : Int) : Shp 1 (.int i) := ⟨rfl, by simp [PyData.depth]⟩
theorem Shp.mono {n m : Nat} {d : PyData} (h : Shp n d) (hl : n ≤ m) : Shp m d := ⟨h.1, Nat.le_trans h.2 hl⟩
theorem Shp.enc (r : Rat) : Shp 2 (enc r) := Shp.tuple fun d hd => by
  simp only [List.mem_cons, List.not_mem_nil, or_false] at hd
  rcases hd with rfl | rfl <;> exact Shp.int _
theorem shaped_enc (r : Rat) : SeqAt.shaped (LW.enc r) = true := (Shp.enc r).shaped (by decide)
theorem shaped_encs (xs : List Rat) : SeqAt.shaped (.list (xs.map LW.enc)) = true := (Shp.list (n := 2) fun d hd => by
  obtain ⟨r, _, rfl⟩ := List.mem_map.mp hd
  exact Shp.enc r).shaped (by decide)
theorem shaped_ints (xs : List Int) : SeqAt.shaped (.list (xs.map PyData.int)) = true := (Shp.list (n := 1) fun d hd => by
  obtain ⟨r, _, rfl⟩ := List.mem_map.mp hd
  exact Shp.int r).shaped (by decide)
/-! ### ladders -/
abbrev Lad := List (Rat × Rat)
abbrev encR (x : Rat × Rat) : PyData := .tuple [enc x.1, enc x.2]
abbrev encL (L : Lad) : PyData := .list (L.map encR)
theorem Shp.encR (x : Rat × Rat) : Shp 3 (encR x) := Shp.tuple fun d hd => by
  simp only [List.mem_cons, List.not_mem_nil, or_false] at hd
  rcases hd with rfl | rfl <;> exact Shp.enc _
theorem shaped_encL (L : Lad) : SeqAt.shaped (encL L) = true := (Shp.list (n := 3) fun d hd => by
  obtain ⟨r, _, rfl⟩ := List.mem_map.mp hd
  exact Shp.encR r).shaped (by decide)
theorem encR_iff (a b : Rat × Rat) : PyData.eqv (encR a) (encR b) = true ↔ a = b := by
  rw [PyData.eqv, PyData.eqvAll, PyData.eqvAll, PyData.eqvAll, eqv_enc, eqv_enc]
  simp only [Bool.and_true, Bool.and_eq_true, decide_eq_true_eq]
  exact Prod.ext_iff.symm
theorem eqv_encL (xs ys : Lad) : PyData.eqv (encL xs) (encL ys) = decide (xs = ys) := eqv_list encR_iff xs ys
structure Sh (u : Rat) : Prop where
  pos : 0 < u
  le : u ≤ 1
  den : u.den ≤ 1000
structure Lok (L : Lad) : Prop where
  ge : 1 ≤ L.length
  le : L.length ≤ 8
  sh : ∀ x ∈ L, Sh x.1 ∧ Sh x.2 ∧ x.1 + x.2 ≤ 1
/-- what the reckoning needs -/
structure Lw (L : Lad) : Prop where
  le : L.length ≤ 8
  sh : ∀ x ∈ L, 0 < x.1 ∧ 0 < x.2 ∧ Bd 10 x.1 ∧ Bd 10 x.2
theorem Sh.num_le {u : Rat} (h : Sh u) : 0 < u.num ∧ u.num ≤ u.den := by
  refine ⟨num_pos h.pos, ?_⟩
  have := (Rat.le_iff u 1).mp h.le
  simpa using this
theorem Sh.bd {u : Rat} (h : Sh u) : Bd 10 u := by
  obtain ⟨h1, h2⟩ := h.num_le
  have h3 := h.den
  refine ⟨?_, ?_⟩
  · show u.num.natAbs < 1024; omega
  · show u.den < 1024; omega
theorem Lok.lw {L : Lad} (h : Lok L) : Lw L := ⟨h.le, fun x hx => ⟨(h.sh x hx).1.pos, (h.sh x hx).2.1.pos, (h.sh x hx).1.bd, (h.sh x hx).2.1.bd⟩⟩
def qs (L : Lad) : List Rat := L.map fun x => x.2 / x.1
def prodsFrom : Rat → List Rat → List Rat
  | p, [] => [p]
  | p, q :: r => p :: prodsFrom (p * q) r
def prods (xs : List Rat) : List Rat := prodsFrom 1 xs
/-- the share of the first k of the products -/
def hB (L : Lad) (k : Nat) : Rat := ((prods (qs L)).take k).sum / (prods (qs L)).sum
def hs (L : Lad) : List Rat := (List.range (L.length + 2)).map (hB L)
theorem prodsFrom_len : ∀ (p : Rat) (xs : List Rat), (prodsFrom p xs).length = xs.length + 1
  | _, [] => rfl
  | p, q :: r => by show (prodsFrom (p * q) r).length + 1 = _; rw [prodsFrom_len]; rfl
theorem prods_len (xs : List Rat) : (prods xs).length = xs.length + 1 := prodsFrom_len 1 xs
theorem prodsFrom_zero (p : Rat) (xs : List Rat) : (prodsFrom p xs)[0]? = some p := by cases xs <;> rfl
theorem prods_zero (xs : List Rat) : (prods xs)[0]? = some 1 := prodsFrom_zero 1 xs
theorem prodsFrom_succ : ∀ (xs : List Rat) (p : Rat) (i : Nat) (a q : Rat), (prodsFrom p xs)[i]? = some a → xs[i]? = some q → (prodsFrom p xs)[i + 1]? = some (a * q)
  | [], _, _, _, _, _, h => by simp at h
  | q :: r, p, 0, a, b, h, h2 => by
    have e1 : p = a := Option.some.inj h
    have e2 : q = b := Option.some.inj h2
    subst e1; subst e2
    exact prodsFrom_zero _ r
  | q :: r, p, i + 1, a, b, h, h2 => prodsFrom_succ r (p * q) i a b h h2
theorem prods_succ {xs : List Rat} {i : Nat} {a q : Rat} (h : (prods xs)[i]? = some a) (h2 : xs[i]? = some q) : (prods xs)[i + 1]? = some (a * q) := prodsFrom_succ xs 1 i a q h h2
theorem prodsFrom_pos : ∀ (xs : List Rat) (p : Rat), 0 < p → (∀ x ∈ xs, 0 < x) → ∀ y ∈ prodsFrom p xs, 0 < y
  | [], p, hp, _, y, hy => by
    have : y = p := by simpa [prodsFrom] using hy
    rw [this]; exact hp
  | q :: r, p, hp, h, y, hy => by
    rcases List.mem_cons.mp (show y ∈ p :: prodsFrom (p * q) r from hy) with e | hy
    · rw [e]; exact hp
    · exact prodsFrom_pos r (p * q) (Rat.mul_pos hp (h q List.mem_cons_self)) (fun x hx => h x (List.mem_cons_of_mem _ hx)) y hy
theorem prodsFrom_bd {n : Nat} : ∀ (xs : List Rat) (p : Rat) (m : Nat), Bd m p → (∀ x ∈ xs, Bd n x) → ∀ y ∈ prodsFrom p xs, Bd (m + xs.length * n) y
  | [], p, m, hp, _, y, hy => by
    have : y = p := by simpa [prodsFrom] using hy
    rw [this]; simpa using hp
  | q :: r, p, m, hp, h, y, hy => by
    rcases List.mem_cons.mp (show y ∈ p :: prodsFrom (p * q) r from hy) with e | hy
    · rw [e]; exact hp.mono (Nat.le_add_right _ _)
    · have := prodsFrom_bd r (p * q) (m + n) (hp.mul (h q List.mem_cons_self)) (fun x hx => h x (List.mem_cons_of_mem _ hx)) y hy
      refine this.mono ?_
      rw [List.length_cons, Nat.succ_mul]; omega
theorem prods_bd {n : Nat} {xs : List Rat} (h : ∀ x ∈ xs, Bd n x) : ∀ y ∈ prods xs, Bd (1 + xs.length * n) y := prodsFrom_bd xs 1 1 Bd.one h
theorem prods_pos {xs : List Rat} (h : ∀ x ∈ xs, 0 < x) : ∀ y ∈ prods xs, 0 < y := prodsFrom_pos xs 1 (by decide) h
theorem div_pos {a b : Rat} (ha : 0 < a) (hb : 0 < b) : 0 < a / b := by
  rw [Rat.div_def]; exact Rat.mul_pos ha (Rat.inv_pos.mpr hb)
theorem qs_pos {L : Lad} (h : Lw L) : ∀ q ∈ qs L, 0 < q := fun q hq => by
  obtain ⟨x, hx, rfl⟩ := List.mem_map.mp hq
  exact div_pos (h.sh x hx).2.1 (h.sh x hx).1
theorem qs_bd {L : Lad} {n : Nat} (h : ∀ x ∈ L, 0 < x.1 ∧ Bd n x.1 ∧ Bd n x.2) : ∀ q ∈ qs L, Bd (n + n) q := fun q hq => by
  obtain ⟨x, hx, rfl⟩ := List.mem_map.mp hq
  exact (h x hx).2.2.quo (h x hx).2.1 (h x hx).1
theorem sum_pos : ∀ {xs : List Rat}, (∀ x ∈ xs, 0 < x) → xs ≠ [] → 0 < xs.sum
  | [], _, h => absurd rfl h
  | [x], h, _ => by
    have := h x List.mem_cons_self
    rw [List.sum_cons, List.sum_nil]
    grind
  | x :: y :: r, h, _ => by
    have h1 := h x List.mem_cons_self
    have h2 := sum_pos (xs := y :: r) (fun z hz => h z (List.mem_cons_of_mem _ hz)) (List.cons_ne_nil _ _)
    rw [List.sum_cons]
    grind
theorem prods_ne (xs : List Rat) : prods xs ≠ [] := fun e => by have := prods_len xs; rw [e] at this; simp at this
theorem prods_sum_pos {L : Lad} (h : Lw L) : 0 < (prods (qs L)).sum := sum_pos (prods_pos (qs_pos h)) (prods_ne _)
theorem qs_len (L : Lad) : (qs L).length = L.length := List.length_map ..
theorem Lw.sub {L M : Lad} (h : Lw L) (hl : M.length ≤ L.length) (hs : ∀ x ∈ M, x ∈ L) : Lw M := ⟨Nat.le_trans hl h.le, fun x hx => h.sh x (hs x hx)⟩
theorem Lw.cut {L : Lad} (h : Lw L) (a b : Nat) : Lw ((L.take a).drop b) := h.sub (by rw [List.length_drop, List.length_take]; omega) fun x hx => List.mem_of_mem_take (List.mem_of_mem_drop hx)
theorem cutD_nat (ds : List PyData) (lo hi : Nat) : cutD ds (some (lo : Int)) (some (hi : Int)) = (ds.take hi).drop lo := by
  unfold cutD
  rw [HT.sIx_nat, HT.sIx_nat]
  apply List.ext_getElem?
  intro i
  rw [List.getElem?_take, List.getElem?_drop, List.getElem?_drop, List.getElem?_take]
  by_cases h1 : lo ≤ ds.length
  · rw [Nat.min_eq_left h1]
    by_cases h2 : hi ≤ ds.length
    · rw [Nat.min_eq_left h2]
      by_cases h3 : i < hi - lo
      · rw [if_pos h3, if_pos (by omega)]
      · rw [if_neg h3, if_neg (by omega)]
    · rw [Nat.min_eq_right (by omega)]
      by_cases h3 : i < ds.length - lo
      · rw [if_pos h3, if_pos (by omega)]
      · rw [if_neg h3]
        split
        · rw [List.getElem?_eq_none (by omega)]
        · rfl
  · have hm : min lo ds.length = ds.length := Nat.min_eq_right (by omega)
    rw [hm]
    have e1 : ds[ds.length + i]? = none := List.getElem?_eq_none (by omega)
    have e2 : ds[lo + i]? = none := List.getElem?_eq_none (by omega)
    rw [e1, e2]; simp
theorem cutD_to (ds : List PyData) (hi : Nat) : cutD ds none (some (hi : Int)) = ds.take hi := by
  unfold cutD
  rw [HT.sIx_none, HT.sIx_nat, List.drop_zero, Nat.sub_zero]
  by_cases h : hi ≤ ds.length
  · rw [Nat.min_eq_left h]
  · rw [Nat.min_eq_right (by omega), List.take_of_length_le (Nat.le_refl _), List.take_of_length_le (by omega)]
theorem cutD_from (ds : List PyData) (lo : Nat) : cutD ds (some (lo : Int)) none = ds.drop lo := by
  unfold cutD
  rw [HT.sIx_none, HT.sIx_nat]
  by_cases h1 : lo ≤ ds.length
  · rw [Nat.min_eq_left h1]
    exact List.take_of_length_le (by rw [List.length_drop]; omega)
  · rw [Nat.min_eq_right (by omega), List.drop_of_length_le (Nat.le_refl _), List.drop_of_length_le (by omega)]; simp
theorem at_map {α : Type} {f : α → PyData} {xs : List α} {i : Int} {j : Nat} {x : α} (e : i = (j : Int)) (h : xs[j]? = some x) : atI (xs.map f) i = some (f x) := by
  rw [e]; exact atI_nat (by rw [List.getElem?_map, h]; rfl)
theorem at_last {α : Type} {f : α → PyData} {xs : List α} {x : α} (h : xs.getLast? = some x) : atI (xs.map f) (-1) = some (f x) := by
  obtain ⟨ys, rfl⟩ := List.getLast?_eq_some_iff.mp h
  rw [List.map_append, List.map_singleton]
  exact atI_last _ _
/-! tests -/
theorem iteD {c : Prop} [Decidable c] {A B : Prop} (h1 : c → A) (h2 : ¬ c → B) : if decide c = true then A else B := by
  by_cases h : c
  · rw [decide_eq_true h]; exact iteT (h1 h)
  · rw [decide_eq_false h]; exact iteF (h2 h)
theorem iteN {c : Prop} [Decidable c] {A B : Prop} (h1 : ¬ c → A) (h2 : c → B) : if (!decide c) = true then A else B := by
  by_cases h : c
  · rw [decide_eq_true h]; exact iteF (h2 h)
  · rw [decide_eq_false h]; exact iteT (h1 h)
theorem iteB {b : Bool} {A B : Prop} (h1 : b = true → A) (h2 : b = false → B) : if b = true then A else B := by
  cases b with
  | true => exact iteT (h1 rfl)
  | false => exact iteF (h2 rfl)
theorem iteY {b : Bool} {A B : Prop} (e : b = true) (h : A) : if b = true then A else B := by subst e; exact iteT h
theorem iteX {b : Bool} {A B : Prop} (e : b = false) (h : B) : if b = true then A else B := by subst e; exact iteF h
/-! ### what they promise -/
def isIntIn (d : PyData) (lo hi : Int) : Bool := match d with
  | .int i => decide (lo ≤ i) && decide (i ≤ hi)
  | _ => false
def R_is_int (ds : List PyData) (P : PyData → Prop) : Prop := ∃ d lo hi, ds = [d, .int lo, .int hi] ∧ P (.bool (isIntIn d lo hi))
theorem S_is_int {d : PyData} {lo hi : Int} {P : PyData → Prop} (p : P (.bool (isIntIn d lo hi))) : R_is_int [d, .int lo, .int hi] P := ⟨d, lo, hi, rfl, p⟩
def isShareD : PyData → Bool
  | .tuple [a, b] => isIntIn b 1 1000 && (match b with
    | .int y => isIntIn a 1 y && (match a with
      | .int x => Nat.gcd x.toNat y.toNat == 1
      | _ => false)
    | _ => false)
  | _ => false
def R_is_share (ds : List PyData) (P : PyData → Prop) : Prop := ∃ d, ds = [d] ∧ P (.bool (isShareD d))
theorem S_is_share {d : PyData} {P : PyData → Prop} (p : P (.bool (isShareD d))) : R_is_share [d] P := ⟨d, rfl, p⟩
def numD : PyData → Int
  | .tuple (.int a :: _) => a
  | _ => 0
def denD : PyData → Int
  | .tuple [_, .int a] => a
  | _ => 0
def rungD : PyData → Bool
  | .tuple [a, b] => isShareD a && isShareD b && decide (numD a * denD b + numD b * denD a ≤ denD a * denD b)
  | _ => false
def isLadderD : PyData → Bool
  | .list ds => decide (1 ≤ ds.length) && decide (ds.length ≤ 8) && ds.all rungD
  | _ => false
def R_is_ladder (ds : List PyData) (P : PyData → Prop) : Prop := ∃ d, ds = [d] ∧ P (.bool (isLadderD d))
theorem S_is_ladder {d : PyData} {P : PyData → Prop} (p : P (.bool (isLadderD d))) : R_is_ladder [d] P := ⟨d, rfl, p⟩
theorem share_enc {u : Rat} (h : Sh u) : isShareD (enc u) = true := by
  obtain ⟨h1, h2⟩ := h.num_le
  have h3 := h.den
  have hg := u.reduced
  have e : u.num.toNat = u.num.natAbs := by omega
  show (isIntIn (.int (u.den : Int)) 1 1000 && (isIntIn (.int u.num) 1 (u.den : Int) && (Nat.gcd u.num.toNat ((u.den : Int)).toNat == 1))) = true
  unfold isIntIn
  have e2 : Nat.gcd u.num.toNat ((u.den : Int)).toNat = 1 := by
    rw [e, Int.toNat_natCast]; exact hg
  rw [e2]
  have := u.den_pos
  simp only [Bool.and_eq_true, decide_eq_true_eq, beq_self_eq_true, and_true]
  omega
theorem ladder_enc {L : Lad} (h : Lok L) : isLadderD (encL L) = true := by
  show (decide (1 ≤ (L.map encR).length) && decide ((L.map encR).length ≤ 8) && (L.map encR).all rungD) = true
  rw [List.length_map, decide_eq_true h.ge, decide_eq_true h.le, Bool.and_self, Bool.true_and, List.all_eq_true]
  intro d hd
  obtain ⟨x, hx, rfl⟩ := List.mem_map.mp hd
  obtain ⟨h1, h2, h3⟩ := h.sh x hx
  show (isShareD (enc x.1) && isShareD (enc x.2) && decide (x.1.num * (x.2.den : Int) + x.2.num * (x.1.den : Int) ≤ (x.1.den : Int) * (x.2.den : Int))) = true
  rw [share_enc h1, share_enc h2]
  have h4 := h3
  rw [← add_frac, Rat.div_def] at h4
  have hp : (0 : Int) < (x.1.den : Int) * (x.2.den : Int) := Int.mul_pos (den_pos _) (den_pos _)
  have hq : (0 : Rat) < (((x.1.den : Int) * (x.2.den : Int) : Int) : Rat) := Rat.intCast_pos.mpr hp
  simp only [Bool.and_self, Bool.true_and, decide_eq_true_eq]
  have h5 := Rat.mul_le_mul_of_nonneg_right h4 (Rat.le_of_lt hq)
  rw [Rat.mul_assoc, Rat.inv_mul_cancel _ (Rat.ne_of_gt hq), Rat.mul_one, Rat.one_mul] at h5
  exact Rat.intCast_le_intCast.mp h5
def R_check_ladder (ds : List PyData) (P : PyData → Prop) : Prop := ∃ L, ds = [encL L] ∧ Lok L ∧ P .none
theorem S_check_ladder {L : Lad} {P : PyData → Prop} (h : Lok L) (p : P .none) : R_check_ladder [encL L] P := ⟨L, rfl, h, p⟩
def R_check_rung (ds : List PyData) (P : PyData → Prop) : Prop := ∃ (L : Lad) (r : Int), ds = [encL L, .int r] ∧ 0 ≤ r ∧ r ≤ L.length + 1 ∧ P .none
theorem S_check_rung {L : Lad} {r : Int} {P : PyData → Prop} (h1 : 0 ≤ r) (h2 : r ≤ L.length + 1) (p : P .none) : R_check_rung [encL L, .int r] P := ⟨L, r, rfl, h1, h2, p⟩
def R_quotients_of (ds : List PyData) (P : PyData → Prop) : Prop := ∃ L, ds = [encL L] ∧ Lw L ∧ P (.list ((qs L).map enc))
theorem S_quotients_of {L : Lad} {P : PyData → Prop} (h : Lw L) (p : P (.list ((qs L).map enc))) : R_quotients_of [encL L] P := ⟨L, rfl, h, p⟩
def R_quotients (ds : List PyData) (P : PyData → Prop) : Prop := ∃ L, ds = [encL L] ∧ Lok L ∧ P (.list ((qs L).map enc))
theorem S_quotients {L : Lad} {P : PyData → Prop} (h : Lok L) (p : P (.list ((qs L).map enc))) : R_quotients [encL L] P := ⟨L, rfl, h, p⟩
def R_products_of (ds : List PyData) (P : PyData → Prop) : Prop := ∃ xs : List Rat, ds = [.list (xs.map enc)] ∧ xs.length ≤ 8 ∧ (∀ x ∈ xs, Bd 20 x) ∧ P (.list ((prods xs).map enc))
theorem S_products_of {xs : List Rat} {P : PyData → Prop} (h : xs.length ≤ 8) (hb : ∀ x ∈ xs, Bd 20 x) (p : P (.list ((prods xs).map enc))) : R_products_of [.list (xs.map enc)] P := ⟨xs, rfl, h, hb, p⟩
def R_between_of (ds : List PyData) (P : PyData → Prop) : Prop := ∃ (L : Lad) (lo hi r : Int), ds = [encL L, .int lo, .int hi, .int r] ∧ Lw L ∧ 0 ≤ lo ∧ lo ≤ r ∧ r ≤ hi ∧ lo < hi ∧ hi ≤ L.length + 1 ∧ P (enc (hB ((L.take (hi.toNat - 1)).drop lo.toNat) (r - lo).toNat))
theorem S_between_of {L : Lad} {lo hi r : Int} {P : PyData → Prop} (h : Lw L) (h0 : 0 ≤ lo) (h1 : lo ≤ r) (h2 : r ≤ hi) (h3 : lo < hi) (h4 : hi ≤ L.length + 1) (p : P (enc (hB ((L.take (hi.toNat - 1)).drop lo.toNat) (r - lo).toNat))) : R_between_of [encL L, .int lo, .int hi, .int r] P := ⟨L, lo, hi, r, rfl, h, h0, h1, h2, h3, h4, p⟩
def R_top_of (ds : List PyData) (P : PyData → Prop) : Prop := ∃ (L : Lad) (r : Int), ds = [encL L, .int r] ∧ Lw L ∧ 0 ≤ r ∧ r ≤ L.length + 1 ∧ P (enc (hB L r.toNat))
theorem S_top_of {L : Lad} {r : Int} {P : PyData → Prop} (h : Lw L) (h1 : 0 ≤ r) (h2 : r ≤ L.length + 1) (p : P (enc (hB L r.toNat))) : R_top_of [encL L, .int r] P := ⟨L, r, rfl, h, h1, h2, p⟩
def R_top_chance (ds : List PyData) (P : PyData → Prop) : Prop := ∃ (L : Lad) (r : Int), ds = [encL L, .int r] ∧ Lok L ∧ 0 ≤ r ∧ r ≤ L.length + 1 ∧ P (enc (hB L r.toNat))
theorem S_top_chance {L : Lad} {r : Int} {P : PyData → Prop} (h : Lok L) (h1 : 0 ≤ r) (h2 : r ≤ L.length + 1) (p : P (enc (hB L r.toNat))) : R_top_chance [encL L, .int r] P := ⟨L, r, rfl, h, h1, h2, p⟩
def R_bottom_chance (ds : List PyData) (P : PyData → Prop) : Prop := ∃ (L : Lad) (r : Int), ds = [encL L, .int r] ∧ Lok L ∧ 0 ≤ r ∧ r ≤ L.length + 1 ∧ P (enc (1 - hB L r.toNat))
theorem S_bottom_chance {L : Lad} {r : Int} {P : PyData → Prop} (h : Lok L) (h1 : 0 ≤ r) (h2 : r ≤ L.length + 1) (p : P (enc (1 - hB L r.toNat))) : R_bottom_chance [encL L, .int r] P := ⟨L, r, rfl, h, h1, h2, p⟩
def R_mean_end (ds : List PyData) (P : PyData → Prop) : Prop := ∃ (L : Lad) (r : Int), ds = [encL L, .int r] ∧ Lok L ∧ 0 ≤ r ∧ r ≤ L.length + 1 ∧ P (enc (((L.length + 1 : Int) : Rat) * hB L r.toNat))
theorem S_mean_end {L : Lad} {r : Int} {P : PyData → Prop} (h : Lok L) (h1 : 0 ≤ r) (h2 : r ≤ L.length + 1) (p : P (enc (((L.length + 1 : Int) : Rat) * hB L r.toNat))) : R_mean_end [encL L, .int r] P := ⟨L, r, rfl, h, h1, h2, p⟩
def R_top_chances (ds : List PyData) (P : PyData → Prop) : Prop := ∃ L, ds = [encL L] ∧ Lok L ∧ P (.list ((hs L).map enc))
theorem S_top_chances {L : Lad} {P : PyData → Prop} (h : Lok L) (p : P (.list ((hs L).map enc))) : R_top_chances [encL L] P := ⟨L, rfl, h, p⟩
def R_is_fair (ds : List PyData) (P : PyData → Prop) : Prop := ∃ L : Lad, ds = [encL L] ∧ Lok L ∧ P (.bool (L.all fun x => decide (x.1 = x.2)))
theorem S_is_fair {L : Lad} {P : PyData → Prop} (h : Lok L) (p : P (.bool (L.all fun x => decide (x.1 = x.2)))) : R_is_fair [encL L] P := ⟨L, rfl, h, p⟩
def R_end_alike (ds : List PyData) (P : PyData → Prop) : Prop := ∃ L M : Lad, ds = [encL L, encL M] ∧ Lok L ∧ Lok M ∧ P (.bool (decide (qs L = qs M)))
theorem S_end_alike {L M : Lad} {P : PyData → Prop} (h : Lok L) (h2 : Lok M) (p : P (.bool (decide (qs L = qs M)))) : R_end_alike [encL L, encL M] P := ⟨L, M, rfl, h, h2, p⟩
/-! the law's own helpers -/
def restL (L : Lad) (r : Nat) : Rat := if r = 0 ∨ r = L.length + 1 then 1 else match L[r - 1]? with
  | some x => 1 - (x.1 + x.2)
  | none => 1
def R_law_rest (ds : List PyData) (P : PyData → Prop) : Prop := ∃ (L : Lad) (r : Int), ds = [encL L, .int r] ∧ Lok L ∧ 0 ≤ r ∧ r ≤ L.length + 1 ∧ P (enc (restL L r.toNat))
theorem S_law_rest {L : Lad} {r : Int} {P : PyData → Prop} (h : Lok L) (h1 : 0 ≤ r) (h2 : r ≤ L.length + 1) (p : P (enc (restL L r.toNat))) : R_law_rest [encL L, .int r] P := ⟨L, r, rfl, h, h1, h2, p⟩
def R_law_true (ds : List PyData) (P : PyData → Prop) : Prop := ∃ a b : Bool, ds = [.bool a, .bool b] ∧ P (.bool (decide (a = b)))
theorem S_law_true {a b : Bool} {P : PyData → Prop} (p : P (.bool (decide (a = b)))) : R_law_true [.bool a, .bool b] P := ⟨a, b, rfl, p⟩
def R_law_draw (ds : List PyData) (P : PyData → Prop) : Prop := ∃ n : Int, ds = [.int n] ∧ 1 ≤ n ∧ n < 1000000 ∧ ∀ k : Int, 0 ≤ k → k < n → P (.int k)
theorem S_law_draw {n : Int} {P : PyData → Prop} (h : 1 ≤ n) (h2 : n < 1000000) (p : ∀ k : Int, 0 ≤ k → k < n → P (.int k)) : R_law_draw [.int n] P := ⟨n, rfl, h, h2, p⟩
def R_law_pick (ds : List PyData) (P : PyData → Prop) : Prop := ∃ cs : List PyData, ds = [.list cs] ∧ 1 ≤ cs.length ∧ cs.length < 1000000 ∧ ∀ c ∈ cs, P c
theorem S_law_pick {cs : List PyData} {P : PyData → Prop} (h : 1 ≤ cs.length) (h2 : cs.length < 1000000) (p : ∀ c ∈ cs, P c) : R_law_pick [.list cs] P := ⟨cs, rfl, h, h2, p⟩
/-- a rung that was drawn: twelfths -/
structure Gs (x : Rat × Rat) : Prop where
  p1 : 0 < x.1
  p2 : 0 < x.2
  le : x.1 + x.2 ≤ 1
  d1 : ∃ a : Int, x.1 = (a : Rat) / 12
  d2 : ∃ a : Int, x.2 = (a : Rat) / 12
structure GL (L : Lad) : Prop where
  ge : 1 ≤ L.length
  sh : ∀ x ∈ L, Gs x
def R_law_ladder (ds : List PyData) (P : PyData → Prop) : Prop := ∃ n : Int, ds = [.int n] ∧ 1 ≤ n ∧ n ≤ 8 ∧ ∀ L : Lad, GL L → (L.length : Int) ≤ n → P (encL L)
theorem S_law_ladder {n : Int} {P : PyData → Prop} (h : 1 ≤ n) (h2 : n ≤ 8) (p : ∀ L : Lad, GL L → (L.length : Int) ≤ n → P (encL L)) : R_law_ladder [.int n] P := ⟨n, rfl, h, h2, p⟩
theorem twelfth {u : Rat} (h0 : 0 < u) (h1 : u ≤ 1) (hd : ∃ a : Int, u = (a : Rat) / 12) : Sh u ∧ Bd 4 u := by
  obtain ⟨a, ha⟩ := hd
  have e : (12 : Rat) = ((12 : Int) : Rat) := rfl
  rw [e] at ha
  have hden : (u.den : Int) ≤ 12 := by
    rw [ha, den_div a (by decide)]
    have := natAbs_div_le 12 (Nat.gcd a.natAbs ((12 : Int)).toNat)
    omega
  have s : Sh u := ⟨h0, h1, by omega⟩
  obtain ⟨n1, n2⟩ := s.num_le
  exact ⟨s, by show u.num.natAbs < 16; omega, by show u.den < 16; omega⟩
theorem Gs.sh {x : Rat × Rat} (g : Gs x) : Sh x.1 ∧ Sh x.2 ∧ Bd 4 x.1 ∧ Bd 4 x.2 := by
  have h1 := g.p1
  have h2 := g.p2
  have h3 := g.le
  have a := twelfth g.p1 (by grind) g.d1
  have b := twelfth g.p2 (by grind) g.d2
  exact ⟨a.1, b.1, a.2, b.2⟩
theorem GL.ok {L : Lad} (g : GL L) (h : L.length ≤ 8) : Lok L := ⟨g.ge, h, fun x hx => ⟨(g.sh x hx).sh.1, (g.sh x hx).sh.2.1, (g.sh x hx).le⟩⟩
end LW
namespace LW
open PySem PySem.Spec PyProof.Rows L2
theorem take_sub {α : Type} {xs : List α} {k : Nat} {x : α} (h : x ∈ xs.take k) : x ∈ xs := List.mem_of_mem_take h
theorem hB_bdn {L : Lad} {n : Nat} (hw : Lw L) (h : ∀ x ∈ L, 0 < x.1 ∧ Bd n x.1 ∧ Bd n x.2) (k : Nat) : Bd (2 * (1 + (L.length + 1) * (1 + L.length * (n + n) + 1))) (hB L k) := by
  have b := prods_bd (qs_bd h)
  rw [qs_len] at b
  have b1 := Bd.sum (xs := prods (qs L)) b
  rw [prods_len, qs_len] at b1
  have b2 := Bd.sum (xs := (prods (qs L)).take k) fun x hx => b x (take_sub hx)
  have hl : ((prods (qs L)).take k).length ≤ L.length + 1 := by rw [List.length_take, prods_len, qs_len]; omega
  have b3 := b2.mono (m := 1 + (L.length + 1) * (1 + L.length * (n + n) + 1)) (by
    have := Nat.mul_le_mul_right (1 + L.length * (n + n) + 1) hl
    omega)
  have := b3.quo b1 (prods_sum_pos hw)
  unfold hB
  rw [Nat.two_mul]
  exact this
theorem hB_bd {L : Lad} (h : Lw L) (k : Nat) : Bd 2918 (hB L k) := by
  have h1 := hB_bdn (n := 10) h (fun x hx => ⟨(h.sh x hx).1, (h.sh x hx).2.2.1, (h.sh x hx).2.2.2⟩) k
  refine h1.mono ?_
  have h2 := h.le
  have h3 : L.length * (10 + 10) ≤ 160 := by omega
  have h4 : (L.length + 1) * (1 + L.length * (10 + 10) + 1) ≤ 9 * 162 := Nat.mul_le_mul (by omega) (by omega)
  omega
end LW
namespace LW
open PySem PySem.Spec PyProof.Rows L2
section
variable {K : PySem.W.Frag} {P : PyData → Prop}
theorem rp_in2 {i a b : Int} (p : P (.bool (decide (i = a ∨ i = b)))) : RP (rIn K false) (.int i) (.tuple [.int a, .int b]) P := by
  have h : decide (i ∈ [a, b]) = decide (i = a ∨ i = b) := by rw [Bool.eq_iff_iff]; simp
  exact rp_in (neg := false) (ns := [a, b]) (by rw [if_neg Bool.false_ne_true, h]; exact p)
theorem rp_notin2 {i a b : Int} (p : P (.bool (!decide (i = a ∨ i = b)))) : RP (rIn K true) (.int i) (.tuple [.int a, .int b]) P := by
  have h : decide (i ∈ [a, b]) = decide (i = a ∨ i = b) := by rw [Bool.eq_iff_iff]; simp
  exact rp_in (neg := true) (ns := [a, b]) (by rw [if_pos rfl, h]; exact p)
end
theorem cmul_of {a b : Int} (h1 : a.natAbs ≤ 1000000) (h2 : b.natAbs ≤ 1000000) : CMulW a b := wide_mul (a := 20) (b := 20) (by show a.natAbs < 1048576; omega) (by show b.natAbs < 1048576; omega) (by decide) (by decide) (by decide)
theorem intIn_form {d : PyData} {lo hi : Int} (h : isIntIn d lo hi = true) : ∃ i, d = .int i ∧ lo ≤ i ∧ i ≤ hi := by
  cases d with
  | int i =>
    have h : (decide (lo ≤ i) && decide (i ≤ hi)) = true := h
    simp only [Bool.and_eq_true, decide_eq_true_eq] at h
    exact ⟨i, rfl, h.1, h.2⟩
  | _ => cases h
theorem share_form {d : PyData} (h : isShareD d = true) : ∃ x y : Int, d = .tuple [.int x, .int y] ∧ 1 ≤ x ∧ x ≤ y ∧ y ≤ 1000 ∧ Nat.gcd x.toNat y.toNat = 1 := by
  unfold isShareD at h
  split at h
  · rename_i a b
    rw [Bool.and_eq_true] at h
    obtain ⟨y, rfl, h1, h2⟩ := intIn_form h.1
    have h3 := h.2
    simp only [Bool.and_eq_true] at h3
    obtain ⟨x, rfl, h4, h5⟩ := intIn_form h3.1
    exact ⟨x, y, rfl, h4, h5, h2, by simpa using h3.2⟩
  · cases h
theorem not_pair {ds : List PyData} (h : ∀ a b, PyData.tuple ds ≠ .tuple [a, b]) : ds.length ≠ 2 := by
  intro e
  match ds, e with
  | [a, b], _ => exact h a b rfl
end LW
namespace LW
open PySem PySem.Spec PyProof.Rows L2
/-- the drawer is made of the script -/
def Sp_start (K : PySem.W.Frag) : Sp := fun vs H Q _ => ∃ (a : Addr) (ns : List Int), vs = [.ref a] ∧ SqL K H a (ns.map V.int) ∧ ∀ p b H', Same H H' → H p = none → H b = none → Drw H' p b → Q (.ref p) H'
end LW
namespace LW
open PySem PySem.Spec PyProof.Rows L2
theorem dpAll_ints {K : PySem.W.Frag} {H : Hp} : ∀ ns : List Int, DpAll K H (ns.map V.int) (ns.map .int)
  | [] => .nil
  | n :: ns => .cons (.int n) (dpAll_ints ns)
end LW
namespace LW
open PySem PySem.Spec PyProof.Rows L2
section
variable {K : PySem.W.Frag} {P : PyData → Prop}
theorem rp_eqI {a b : Int} (p : P (.bool (decide (a = b)))) : RP (rEqD K) (.int a) (.int b) P := rp_eq rfl rfl (by rw [eqv_int]; exact p)
theorem rp_neI {a b : Int} (p : P (.bool (!decide (a = b)))) : RP (rNeD K) (.int a) (.int b) P := rp_ne rfl rfl (by rw [eqv_int]; exact p)
theorem rp_eqB {a b : Bool} (p : P (.bool (decide (a = b)))) : RP (rEqD K) (.bool a) (.bool b) P := rp_eq rfl rfl (by rw [eqv_bool]; exact p)
theorem rp_neB {a b : Bool} (p : P (.bool (!decide (a = b)))) : RP (rNeD K) (.bool a) (.bool b) P := rp_ne rfl rfl (by rw [eqv_bool]; exact p)
theorem rp_eqE {a b : Rat} (p : P (.bool (decide (a = b)))) : RP (rEqD K) (enc a) (enc b) P := rp_eq (shaped_enc _) (shaped_enc _) (by rw [eqv_enc]; exact p)
theorem rp_neE {a b : Rat} (p : P (.bool (!decide (a = b)))) : RP (rNeD K) (enc a) (enc b) P := rp_ne (shaped_enc _) (shaped_enc _) (by rw [eqv_enc]; exact p)
theorem rp_eqEs {a b : List Rat} (p : P (.bool (decide (a = b)))) : RP (rEqD K) (.list (a.map enc)) (.list (b.map enc)) P := rp_eq (shaped_encs _) (shaped_encs _) (by rw [eqv_encs]; exact p)
theorem rp_neEs {a b : List Rat} (p : P (.bool (!decide (a = b)))) : RP (rNeD K) (.list (a.map enc)) (.list (b.map enc)) P := rp_ne (shaped_encs _) (shaped_encs _) (by rw [eqv_encs]; exact p)
theorem rp_eqL {a b : Lad} (p : P (.bool (decide (a = b)))) : RP (rEqD K) (encL a) (encL b) P := rp_eq (shaped_encL _) (shaped_encL _) (by rw [eqv_encL]; exact p)
theorem rp_neL {a b : Lad} (p : P (.bool (!decide (a = b)))) : RP (rNeD K) (encL a) (encL b) P := rp_ne (shaped_encL _) (shaped_encL _) (by rw [eqv_encL]; exact p)
theorem eqv_ints (xs ys : List Int) : PyData.eqv (.list (xs.map PyData.int)) (.list (ys.map PyData.int)) = decide (xs = ys) := eqv_list int_iff xs ys
theorem rp_eqIs {a b : List Int} (p : P (.bool (decide (a = b)))) : RP (rEqD K) (.list (a.map .int)) (.list (b.map .int)) P := rp_eq (shaped_ints _) (shaped_ints _) (by rw [eqv_ints]; exact p)
theorem rp_neIs {a b : List Int} (p : P (.bool (!decide (a = b)))) : RP (rNeD K) (.list (a.map .int)) (.list (b.map .int)) P := rp_ne (shaped_ints _) (shaped_ints _) (by rw [eqv_ints]; exact p)
end
/-! ### the chances of the top -/
theorem hB_zero (L : Lad) : hB L 0 = 0 := by
  unfold hB
  rw [List.take_zero, List.sum_nil, Rat.div_def, Rat.zero_mul]
theorem hB_top {L : Lad} (h : Lw L) {k : Nat} (hk : k = L.length + 1) : hB L k = 1 := by
  unfold hB
  rw [List.take_of_length_le (by rw [prods_len, qs_len]; omega), Rat.div_def, Rat.mul_inv_cancel _ (Rat.ne_of_gt (prods_sum_pos h))]
theorem hB_succ {L : Lad} {k : Nat} {a : Rat} (h : (prods (qs L))[k]? = some a) : hB L (k + 1) = hB L k + a / (prods (qs L)).sum := by
  unfold hB
  rw [sum_take_succ h]
  grind
/-- the products at two rungs next to each other -/
theorem prods_step {L : Lad} (h : Lw L) {r : Nat} {x : Rat × Rat} (hx : L[r]? = some x) : ∃ a, 0 < a ∧ (prods (qs L))[r]? = some a ∧ (prods (qs L))[r + 1]? = some (a * (x.2 / x.1)) := by
  have hr : r < L.length := (List.getElem?_eq_some_iff.mp hx).1
  have hp : r < (prods (qs L)).length := by rw [prods_len, qs_len]; omega
  have e1 : (prods (qs L))[r]? = some (prods (qs L))[r] := List.getElem?_eq_getElem hp
  have e2 : (qs L)[r]? = some (x.2 / x.1) := by unfold qs; rw [List.getElem?_map, hx]; rfl
  exact ⟨_, prods_pos (qs_pos h) _ (List.getElem_mem hp), e1, prods_succ e1 e2⟩
theorem hB_step {L : Lad} (h : Lw L) {r : Nat} {x : Rat × Rat} (hx : L[r]? = some x) : x.1 * hB L (r + 2) + x.2 * hB L r + (1 - (x.1 + x.2)) * hB L (r + 1) = hB L (r + 1) := by
  obtain ⟨a, ha, e1, e2⟩ := prods_step h hx
  have h1 := (h.sh x (List.mem_of_getElem? hx)).1
  have hn : x.1 ≠ 0 := Rat.ne_of_gt h1
  rw [hB_succ e2, hB_succ e1]
  generalize (prods (qs L)).sum = S
  generalize hB L r = b
  have e : x.1 * (a * (x.2 / x.1)) = a * x.2 := by grind
  grind
theorem hB_lt {L : Lad} (h : Lw L) {r : Nat} (hr : r ≤ L.length) : hB L r < hB L (r + 1) := by
  have hp : r < (prods (qs L)).length := by rw [prods_len, qs_len]; omega
  have e1 : (prods (qs L))[r]? = some (prods (qs L))[r] := List.getElem?_eq_getElem hp
  rw [hB_succ e1]
  have := div_pos (prods_pos (qs_pos h) _ (List.getElem_mem hp)) (prods_sum_pos h)
  grind
theorem hs_len (L : Lad) : (hs L).length = L.length + 2 := by unfold hs; rw [List.length_map, List.length_range]
theorem hs_get {L : Lad} {r : Nat} (h : r ≤ L.length + 1) : (hs L)[r]? = some (hB L r) := by
  unfold hs
  rw [List.getElem?_map, List.getElem?_range (by omega)]; rfl
theorem at_hs {L : Lad} {i : Int} {r : Nat} (e : i = (r : Int)) (h : r ≤ L.length + 1) : atI ((hs L).map enc) i = some (enc (hB L r)) := at_map e (hs_get h)
theorem GL.bd {L : Lad} (g : GL L) : ∀ x ∈ L, 0 < x.1 ∧ Bd 4 x.1 ∧ Bd 4 x.2 := fun x hx => ⟨(g.sh x hx).p1, (g.sh x hx).sh.2.2.1, (g.sh x hx).sh.2.2.2⟩
theorem hB_bd4 {L : Lad} (g : GL L) (h : L.length ≤ 8) (k : Nat) : Bd 1190 (hB L k) := by
  have h1 := hB_bdn (g.ok h).lw g.bd k
  refine h1.mono ?_
  have h3 : L.length * (4 + 4) ≤ 64 := by omega
  have h4 : (L.length + 1) * (1 + L.length * (4 + 4) + 1) ≤ 9 * 66 := Nat.mul_le_mul (by omega) (by omega)
  omega
end LW
namespace LW
open PySem PySem.Spec PyProof.Rows L2
section
variable {K : PySem.W.Frag} {P : PyData → Prop}
theorem eqv_nil (ds : List PyData) : PyData.eqv (.list ds) (.list []) = ds.isEmpty := by
  cases ds with
  | nil => rfl
  | cons d ds => rw [PyData.eqv, PyData.eqvAll]; rfl
theorem rp_eqNilE {xs : List Rat} (p : P (.bool xs.isEmpty)) : RP (rEqD K) (.list (xs.map enc)) (.list []) P := rp_eq (shaped_encs _) rfl (by rw [eqv_nil, List.isEmpty_map]; exact p)
end
/-! ### fair ladders; chances and quotients -/
theorem hs_diff {L : Lad} (h : Lw L) {r : Nat} (hr : r < L.length) : ∃ a S : Rat, 0 < a ∧ 0 < S ∧ hB L (r + 1) - hB L r = a / S ∧ hB L (r + 2) - hB L (r + 1) = a * ((qs L)[r]'(by rw [qs_len]; exact hr)) / S := by
  have hx : L[r]? = some L[r] := List.getElem?_eq_getElem hr
  obtain ⟨a, ha, e1, e2⟩ := prods_step h hx
  refine ⟨a, (prods (qs L)).sum, ha, prods_sum_pos h, ?_, ?_⟩
  · rw [hB_succ e1]; grind
  · rw [hB_succ e2]
    have : (qs L)[r]'(by rw [qs_len]; exact hr) = L[r].2 / L[r].1 := by unfold qs; rw [List.getElem_map]
    rw [this]; grind
theorem alike_iff {L M : Lad} (h : Lw L) (h2 : Lw M) : hs M = hs L ↔ qs L = qs M := by
  constructor
  · intro e
    have hl : L.length = M.length := by
      have := congrArg List.length e
      rw [hs_len, hs_len] at this
      omega
    have hv : ∀ r, r ≤ L.length + 1 → hB M r = hB L r := fun r hr => by
      have e1 := hs_get (L := L) hr
      have e2 := hs_get (L := M) (r := r) (by omega)
      rw [e, e1] at e2
      exact (Option.some.inj e2).symm
    apply List.ext_getElem
    · rw [qs_len, qs_len, hl]
    · intro r h3 h4
      rw [qs_len] at h3 h4
      obtain ⟨a, S, ha, hS, e1, e2⟩ := hs_diff h h3
      obtain ⟨b, T, hb, hT, e3, e4⟩ := hs_diff h2 h4
      rw [hv _ (by omega), hv _ (by omega)] at e3 e4
      rw [e1] at e3
      rw [e2] at e4
      have hSn : S ≠ 0 := Rat.ne_of_gt hS
      have hTn : T ≠ 0 := Rat.ne_of_gt hT
      have han : a ≠ 0 := Rat.ne_of_gt ha
      have hbn : b ≠ 0 := Rat.ne_of_gt hb
      generalize (qs L)[r] = x at *
      generalize (qs M)[r] = y at *
      grind
  · intro e
    have hl : L.length = M.length := by
      have := congrArg List.length e
      rwa [qs_len, qs_len] at this
    unfold hs hB
    rw [e, hl]
theorem prodsFrom_one : ∀ (xs : List Rat), (∀ x ∈ xs, x = 1) → prodsFrom 1 xs = List.replicate (xs.length + 1) 1
  | [], _ => rfl
  | q :: r, h => by
    have e := h q List.mem_cons_self
    subst e
    show 1 :: prodsFrom (1 * 1) r = _
    rw [Rat.mul_one, prodsFrom_one r fun x hx => h x (List.mem_cons_of_mem _ hx)]; rfl
theorem sum_rep (n : Nat) : (List.replicate n (1 : Rat)).sum = (n : Rat) := by
  induction n with
  | zero => rfl
  | succ n ih =>
    rw [List.replicate_succ, List.sum_cons, ih]
    grind
theorem hB_fair {L : Lad} (h : ∀ q ∈ qs L, q = 1) {k : Nat} (hk : k ≤ L.length + 1) : hB L k = ((k : Int) : Rat) / ((L.length + 1 : Int) : Rat) := by
  unfold hB prods
  rw [prodsFrom_one _ h, List.take_replicate, qs_len, sum_rep, sum_rep, Nat.min_eq_left hk]
  rfl
theorem fair_iff {L : Lad} (h : Lw L) : ((qs L).filter fun q => !decide (q = 1)).isEmpty = L.all fun x => decide (x.1 = x.2) := by
  rw [Bool.eq_iff_iff, List.isEmpty_iff, List.filter_eq_nil_iff, List.all_eq_true]
  simp only [Bool.not_eq_true', decide_eq_false_iff_not, Decidable.not_not, decide_eq_true_eq]
  constructor
  · intro hq x hx
    have := hq (x.2 / x.1) (List.mem_map.mpr ⟨x, hx, rfl⟩)
    have h1 := Rat.ne_of_gt (h.sh x hx).1
    grind
  · intro hx q hq
    obtain ⟨x, hm, rfl⟩ := List.mem_map.mp hq
    have h1 := Rat.ne_of_gt (h.sh x hm).1
    have := hx x hm
    grind
theorem qs_one {L : Lad} (h : Lw L) (hf : (L.all fun x => decide (x.1 = x.2)) = true) : ∀ q ∈ qs L, q = 1 := fun q hq => by
  obtain ⟨x, hm, rfl⟩ := List.mem_map.mp hq
  have h1 := Rat.ne_of_gt (h.sh x hm).1
  have := List.all_eq_true.mp hf x hm
  simp only [decide_eq_true_eq] at this
  grind
theorem enc_frac {a b : Int} (hb : 0 < b) (hg : Nat.gcd a.natAbs b.toNat = 1) : PyData.tuple [.int a, .int b] = enc ((a : Rat) / (b : Rat)) := by
  unfold enc
  rw [num_div a hb, den_div a hb, hg]
  simp
theorem sum3 (a b c : Rat) : [a, b, c].sum = a + b + c := by
  rw [List.sum_cons, List.sum_cons, List.sum_cons, List.sum_nil]; grind
theorem bd3 {n : Nat} {a b c : Rat} (h1 : Bd n a) (h2 : Bd n b) (h3 : Bd n c) : ∀ x ∈ [a, b, c], Bd n x := fun x hx => by
  simp only [List.mem_cons, List.not_mem_nil, or_false] at hx
  rcases hx with rfl | rfl | rfl
  · exact h1
  · exact h2
  · exact h3
end LW

namespace LW
open PySem PySem.Spec PyProof.Rows L2
/-! ### a law as a whole -/
def spLaw (K : PySem.W.Frag) : Sp := fun vs H Q _ => ∃ (a : Addr) (ns : List Int), vs = [.ref a] ∧ SqL K H a (ns.map V.int) ∧ ∀ H', Q (.bl true) H'
theorem rel_law {H : Hp} {p b a : Addr} {n : Nat} (dr : Drw H p b) : Rel ⟨fun x => x = p ∨ x = b, fun x => x = p ∨ x = b, fun x => x = p ∨ x = b, H, some (p, b)⟩ (fun x => x = p ∨ x = b) (.no :: .drw :: List.replicate n .no) (some (.ref a) :: some (.ref p) :: List.replicate n none) H := by
  have nown : ∀ (i : Nat) (s : Slot) (q : Addr), (Slot.no :: .drw :: List.replicate n .no)[i]? = some s → ¬ foot s q := fun i s q e f => by
    have hm := List.mem_of_getElem? e
    simp only [List.mem_cons] at hm
    rcases hm with h | h | h
    · subst h; exact f.elim
    · subst h; exact f.elim
    · have := List.eq_of_mem_replicate h; subst this; exact f.elim
  refine ⟨by simp, fun i s e => ?_, fun a o e _ => e, fun q h => ?_, fun q h => h, fun i s q e f => absurd f (nown i s q e), fun i j s s' q e _ f => absurd f (nown i s q e), fun q c e => ?_, fun q h => .inl h, fun q h => h⟩
  · match i, e with
    | 0, e => cases e; exact ⟨_, rfl, trivial⟩
    | 1, e => cases e; exact ⟨_, rfl, p, b, rfl, rfl⟩
    | i + 2, e =>
      have e : (List.replicate n Slot.no)[i]? = some s := e
      have hs := List.eq_of_mem_replicate (List.mem_of_getElem? e)
      subst hs
      have hl := (List.getElem?_eq_some_iff.mp e).1
      rw [List.length_replicate] at hl
      exact ⟨none, by show (List.replicate n none)[i]? = _; rw [List.getElem?_replicate, if_pos hl], trivial⟩
  · obtain ⟨_, k, ns, e1, _, e2, _⟩ := dr
    rcases h with h | h
    · rw [h]; exact ⟨_, e1⟩
    · rw [h]; exact ⟨_, e2⟩
  · cases e
    exact ⟨dr, .inl rfl, .inr rfl, .inl rfl, .inr rfl⟩
section
variable {P : Program} {w : World} {K : PySem.W.Frag} {mg : Str → Option Value} {base : Heap}
theorem law_ok {st : Stmt} {f : Addr} {fd : FuncData} {N : List Str} {k n : Nat} (F : Fun K "law" "law" st f fd) (S : FnScope N ["script"] (defScope st)) (hN : N.length = n + 2)
    (hb : ∀ (cdv : Value) (A : Around) (outer : List Env) (s : Shared) (H : Hp) (E : XK), Room k (A.deeper (envOfC "law" (defScope st) s.heap.objs.size f cdv)) →
      ∃ t, PSs (cxOf CX0 P w K mg base N "law" (defScope st) f cdv A outer s H E).nox (defBody st) (tSeq (tAsg (tCall (Sp_start K) [] E0 (tCons (tVar 0) tNil)) (gName 1)) t) ∧ DS EE X0 t (.no :: .drw :: List.replicate n .no) (fun _ => False) (fun _ d => d = .bool true)) : FnOk P w K mg base CX0 (k + 1) f fd ["script"] (spLaw K) := by
  refine F.ok S (fun vs H Q E h => ?_) (fun cdv A outer s H vs Q E hr h => ?_)
  · obtain ⟨a, ns, rfl, _⟩ := h; rfl
  · obtain ⟨a, ns, rfl, hS, q⟩ := h
    obtain ⟨t, ht, h⟩ := hb cdv A outer s H E hr
    refine ⟨_, ht, ?_⟩
    have es : L2.start N [.ref a] = some (.ref a) :: none :: List.replicate n none := by
      unfold L2.start
      rw [hN]; rfl
    rw [es]
    refine ⟨_, rfl, a, ns, rfl, hS, fun p b H1 s1 np nb dr => ?_⟩
    refine h _ _ _ H1 _ (rel_law dr) eok0 (fun _ _ _ _ _ z => z.elim) fun O' ρ' σ' v d H' x z e => ?_
    subst e
    cases z
    exact q H'
theorem defIn_mk {h : Heap} {x : Str} {st : Stmt} {ps : List Str} {f : Addr} {oc : Value} {od an : Option Addr} {osl : Array (Option Value)} {kV doc pm cdv ct : Value} (X : K.In h) (G : h.Ns mainGlobals mg)
    (a : PySem.W.nsIn K mainGlobals x = some (some (.ref f)))
    (l : K.lookup f = some ⟨oc, od, .func (PySem.W.fnOf x x (defArgs st) (defBody st) (defScope st) .none kV doc pm an cdv ct), osl⟩)
    (c : PySem.W.codeIn K cdv x = true) (k : PySem.W.keepIn K (.ref f) = true)
    (hb : ∀ (kV doc pm : Value) (an : Option Addr) (cdv ct : Value) (us : List Value), us.length = ps.length → bindArgs (PySem.W.fnOf x x (defArgs st) (defBody st) (defScope st) .none kV doc pm an cdv ct) ⟨us, []⟩ = pure (ps.zip us)) : DefIn K mg x st ps :=
  ⟨f, _, fun_mk l c k, PySem.W.mg_of X G a, (fun_mk l c k).binds hb⟩
end
end LW

namespace LW
open PySem PySem.Spec PyProof.Rows L2
/-! ### sizes by a common denominator -/
/-- r is a whole number of D-ths, and below B in size -/
structure Fz (D B : Nat) (r : Rat) : Prop where
  int : ∃ a : Int, r * ((D : Int) : Rat) = (a : Rat)
  lo : -((B : Int) : Rat) ≤ r
  hi : r ≤ ((B : Int) : Rat)
theorem Fz.bd {D B k : Nat} {r : Rat} (h : Fz D B r) (hD : 0 < D) (hk : D * (B + 1) < 2 ^ k) : Bd k r := by
  obtain ⟨⟨a, ha⟩, h1, h2⟩ := h
  have hDp : (0 : Rat) < ((D : Int) : Rat) := Rat.intCast_pos.mpr (by omega)
  have hDn : ((D : Int) : Rat) ≠ 0 := Rat.ne_of_gt hDp
  have e : r = (a : Rat) / ((D : Int) : Rat) := by rw [← ha]; grind
  have hden : r.den ≤ D := by
    have h3 := den_div a (b := (D : Int)) (by omega)
    rw [← e] at h3
    have h4 := natAbs_div_le (D : Int) (Nat.gcd a.natAbs ((D : Int)).toNat)
    omega
  have hDB : D ≤ D * (B + 1) := Nat.le_mul_of_pos_right D (by omega)
  have hnum : r.num.natAbs ≤ B * r.den := by
    have l1 := (Rat.le_iff _ _).mp h1
    have l2 := (Rat.le_iff _ _).mp h2
    have e1 : (-((B : Int) : Rat)).num = -(B : Int) := rfl
    have e2 : (-((B : Int) : Rat)).den = 1 := rfl
    have e3 : (((B : Int) : Rat)).num = (B : Int) := rfl
    have e4 : (((B : Int) : Rat)).den = 1 := rfl
    rw [e1, e2] at l1
    rw [e3, e4] at l2
    have e5 : ((B * r.den : Nat) : Int) = (B : Int) * (r.den : Int) := by rw [Int.natCast_mul]
    rw [Int.neg_mul] at l1
    omega
  have hBD : B * r.den ≤ B * D := Nat.mul_le_mul_left B hden
  have e6 : D * (B + 1) = B * D + D := by rw [Nat.mul_add, Nat.mul_comm B D, Nat.mul_one]
  exact ⟨by omega, by omega⟩
theorem Fz.mono {D B C : Nat} {r : Rat} (h : Fz D B r) (hl : B ≤ C) : Fz D C r := by
  have : ((B : Int) : Rat) ≤ ((C : Int) : Rat) := Rat.intCast_le_intCast.mpr (by omega)
  exact ⟨h.int, by have := h.lo; grind, by have := h.hi; grind⟩
theorem Fz.mulD {D B k : Nat} {r : Rat} (h : Fz D B r) : Fz (D * k) B r := by
  obtain ⟨⟨a, ha⟩, h1, h2⟩ := h
  refine ⟨⟨a * k, ?_⟩, h1, h2⟩
  rw [cast_mul, ← ha, Int.natCast_mul, cast_mul]; grind
theorem Fz.add {D B C : Nat} {r s : Rat} (h : Fz D B r) (h' : Fz D C s) : Fz D (B + C) (r + s) := by
  obtain ⟨⟨a, ha⟩, h1, h2⟩ := h
  obtain ⟨⟨b, hb⟩, h3, h4⟩ := h'
  have e : (((B + C : Nat) : Int) : Rat) = ((B : Int) : Rat) + ((C : Int) : Rat) := by rw [Int.natCast_add, Rat.intCast_add]
  refine ⟨⟨a + b, by rw [Rat.intCast_add, ← ha, ← hb]; grind⟩, by rw [e]; grind, by rw [e]; grind⟩
theorem Fz.neg {D B : Nat} {r : Rat} (h : Fz D B r) : Fz D B (-r) := by
  obtain ⟨⟨a, ha⟩, h1, h2⟩ := h
  exact ⟨⟨-a, by rw [Rat.intCast_neg, ← ha]; grind⟩, by grind, by grind⟩
theorem Fz.sub {D B C : Nat} {r s : Rat} (h : Fz D B r) (h' : Fz D C s) : Fz D (B + C) (r - s) := by
  have := h.add h'.neg
  rwa [← Rat.sub_eq_add_neg] at this
theorem mul_abs {a b x y : Rat} (h1 : -a ≤ x) (h2 : x ≤ a) (h3 : -b ≤ y) (h4 : y ≤ b) : -(a * b) ≤ x * y ∧ x * y ≤ a * b := by
  have p1 := Rat.mul_nonneg (show 0 ≤ a - x by grind) (show 0 ≤ b - y by grind)
  have p2 := Rat.mul_nonneg (show 0 ≤ a + x by grind) (show 0 ≤ b + y by grind)
  have p3 := Rat.mul_nonneg (show 0 ≤ a - x by grind) (show 0 ≤ b + y by grind)
  have p4 := Rat.mul_nonneg (show 0 ≤ a + x by grind) (show 0 ≤ b - y by grind)
  constructor <;> grind
theorem Fz.mul {D D' B C : Nat} {r s : Rat} (h : Fz D B r) (h' : Fz D' C s) : Fz (D * D') (B * C) (r * s) := by
  obtain ⟨⟨a, ha⟩, h1, h2⟩ := h
  obtain ⟨⟨b, hb⟩, h3, h4⟩ := h'
  have e : (((B * C : Nat) : Int) : Rat) = ((B : Int) : Rat) * ((C : Int) : Rat) := by rw [Int.natCast_mul, cast_mul]
  have e2 : (((D * D' : Nat) : Int) : Rat) = ((D : Int) : Rat) * ((D' : Int) : Rat) := by rw [Int.natCast_mul, cast_mul]
  obtain ⟨m1, m2⟩ := mul_abs h1 h2 h3 h4
  refine ⟨⟨a * b, by rw [cast_mul, ← ha, ← hb, e2]; grind⟩, by rw [e]; exact m1, by rw [e]; exact m2⟩
theorem Fz.zero (D : Nat) : Fz D 0 0 := ⟨⟨0, by grind⟩, by decide, by decide⟩
theorem Fz.one (D : Nat) : Fz D 1 1 := ⟨⟨D, by grind⟩, by decide, by decide⟩
theorem Fz.unit {D : Nat} {r : Rat} (h : ∃ a : Int, r * ((D : Int) : Rat) = (a : Rat)) (h0 : 0 ≤ r) (h1 : r ≤ 1) : Fz D 1 r := ⟨h, by show -(1 : Rat) ≤ r; grind, by show r ≤ (1 : Rat); exact h1⟩
theorem Fz.sumTake {D B : Nat} {xs : List Rat} (h : ∀ x ∈ xs, Fz D B x) : ∀ i, i ≤ xs.length → Fz D (i * B) (xs.take i).sum
  | 0, _ => by simpa using Fz.zero D
  | i + 1, hi => by
    have e : xs[i]? = some xs[i] := List.getElem?_eq_getElem (by omega)
    rw [sum_take_succ e, Nat.succ_mul]
    exact (Fz.sumTake h i (by omega)).add (h _ (List.getElem_mem _))
theorem Fz.sum {D B : Nat} {xs : List Rat} (h : ∀ x ∈ xs, Fz D B x) : Fz D (xs.length * B) xs.sum := by
  have := Fz.sumTake h xs.length (Nat.le_refl _)
  rwa [List.take_length] at this
theorem S_sumF {D B k : Nat} {xs : List Rat} {P : PyData → Prop} (hD : 0 < D) (h : ∀ x ∈ xs, Fz D B x) (hk : D * (xs.length * B + B + 1) < 2 ^ k) (hk2 : k ≤ 4500) (p : P (enc xs.sum)) : R_sum [.list (xs.map enc)] P := by
  refine ⟨xs, rfl, fun i x hi => ?_, p⟩
  have hlt := (List.getElem?_eq_some_iff.mp hi).1
  refine ⟨k, k, ((Fz.sumTake h i (by omega)).mono (C := xs.length * B) (Nat.mul_le_mul_right B (by omega))).bd hD ?_, (h x (List.mem_of_getElem? hi)).bd hD ?_, by omega⟩
  · exact Nat.lt_of_le_of_lt (Nat.mul_le_mul_left D (by omega)) hk
  · exact Nat.lt_of_le_of_lt (Nat.mul_le_mul_left D (by omega)) hk
end LW

namespace LW
open PySem PySem.Spec PyProof.Rows L2
/-! ### finite sums -/
def sumR : Nat → (Nat → Rat) → Rat
  | 0, _ => 0
  | n + 1, f => sumR n f + f n
theorem sumR_congr {n : Nat} {f g : Nat → Rat} (h : ∀ i, i < n → f i = g i) : sumR n f = sumR n g := by
  induction n with
  | zero => rfl
  | succ n ih =>
    show sumR n f + f n = sumR n g + g n
    rw [ih fun i hi => h i (by omega), h n (by omega)]
theorem sumR_add (n : Nat) (f g : Nat → Rat) : sumR n (fun i => f i + g i) = sumR n f + sumR n g := by
  induction n with
  | zero => show (0 : Rat) = 0 + 0; grind
  | succ n ih => show sumR n _ + _ = (sumR n f + f n) + (sumR n g + g n); rw [ih]; grind
theorem sumR_sub (n : Nat) (f g : Nat → Rat) : sumR n (fun i => f i - g i) = sumR n f - sumR n g := by
  induction n with
  | zero => show (0 : Rat) = 0 - 0; grind
  | succ n ih => show sumR n _ + _ = (sumR n f + f n) - (sumR n g + g n); rw [ih]; grind
theorem sumR_mul (n : Nat) (c : Rat) (f : Nat → Rat) : sumR n (fun i => c * f i) = c * sumR n f := by
  induction n with
  | zero => show (0 : Rat) = c * 0; grind
  | succ n ih => show sumR n _ + _ = c * (sumR n f + f n); rw [ih]; grind
theorem sumR_mulr (n : Nat) (c : Rat) (f : Nat → Rat) : sumR n (fun i => f i * c) = sumR n f * c := by
  induction n with
  | zero => show (0 : Rat) = 0 * c; grind
  | succ n ih => show sumR n _ + _ = (sumR n f + f n) * c; rw [ih]; grind
theorem sumR_zero (n : Nat) {f : Nat → Rat} (h : ∀ i, i < n → f i = 0) : sumR n f = 0 := by
  induction n with
  | zero => rfl
  | succ n ih => show sumR n f + f n = 0; rw [ih fun i hi => h i (by omega), h n (by omega)]; grind
theorem sumR_one {n k : Nat} {f : Nat → Rat} (hk : k < n) (h : ∀ i, i < n → i ≠ k → f i = 0) : sumR n f = f k := by
  induction n with
  | zero => omega
  | succ n ih =>
    show sumR n f + f n = f k
    by_cases e : k = n
    · subst e
      rw [sumR_zero k fun i hi => h i (by omega) (by omega)]; grind
    · rw [ih (by omega) fun i hi hn => h i (by omega) hn, h n (by omega) (by omega)]; grind
theorem sumR_comm (n m : Nat) (f : Nat → Nat → Rat) : sumR n (fun i => sumR m fun j => f i j) = sumR m fun j => sumR n fun i => f i j := by
  induction n with
  | zero => show (0 : Rat) = _; rw [sumR_zero]; intro i _; rfl
  | succ n ih =>
    show sumR n _ + _ = _
    rw [ih, ← sumR_add]; rfl
theorem sumR_nonneg {n : Nat} {f : Nat → Rat} (h : ∀ i, i < n → 0 ≤ f i) : 0 ≤ sumR n f := by
  induction n with
  | zero => exact Rat.le_refl
  | succ n ih => exact Rat.add_nonneg (ih fun i hi => h i (by omega)) (h n (by omega))
theorem sumR_le {n : Nat} {f g : Nat → Rat} (h : ∀ i, i < n → f i ≤ g i) : sumR n f ≤ sumR n g := by
  have := sumR_nonneg (n := n) (f := fun i => g i - f i) fun i hi => by have := h i hi; grind
  rw [sumR_sub] at this
  grind
theorem le_sumR {n k : Nat} {f : Nat → Rat} (hk : k < n) (h : ∀ i, i < n → 0 ≤ f i) : f k ≤ sumR n f := by
  have := sumR_le (n := n) (f := fun i => if i = k then f k else 0) (g := f) fun i hi => by
    by_cases e : i = k
    · subst e; simp [Rat.le_refl]
    · simp only [e, if_false]; exact h i hi
  rw [sumR_one hk (fun i _ hn => if_neg hn), if_pos rfl] at this
  exact this
theorem sum_rng (n : Nat) (f : Nat → Rat) : ((List.range n).map f).sum = sumR n f := by
  induction n with
  | zero => rfl
  | succ n ih =>
    rw [List.range_succ, List.map_append, List.sum_append, ih]
    show sumR n f + (f n + 0) = sumR n f + f n
    grind
theorem sum_get (xs : List Rat) : xs.sum = sumR xs.length fun i => xs.getD i 0 := by
  rw [← sum_rng]
  congr 1
  apply List.ext_getElem?
  intro i
  rw [List.getElem?_map]
  by_cases h : i < xs.length
  · rw [List.getElem?_range h, List.getElem?_eq_getElem h]
    simp [List.getD_eq_getElem?_getD, List.getElem?_eq_getElem h]
  · rw [List.getElem?_eq_none (by omega), List.getElem?_eq_none (by rw [List.length_range]; omega)]; rfl
theorem sumR_succ' (n : Nat) (f : Nat → Rat) : sumR (n + 1) f = f 0 + sumR n fun i => f (i + 1) := by
  induction n with
  | zero => show 0 + f 0 = f 0 + 0; grind
  | succ n ih =>
    show sumR (n + 1) f + f (n + 1) = f 0 + (sumR n _ + f (n + 1))
    rw [ih]; grind
theorem sumR_rev (n : Nat) (f : Nat → Rat) : sumR n (fun i => f (n - 1 - i)) = sumR n f := by
  induction n with
  | zero => rfl
  | succ n ih =>
    rw [sumR_succ']
    show f n + _ = sumR n f + f n
    rw [← ih, sumR_congr (f := fun i => f (n + 1 - 1 - (i + 1))) (g := fun i => f (n - 1 - i)) fun i hi => by congr 1; omega]
    grind
/-! ### one step -/
/-- the chance of a step from r to j -/
def TL (L : Lad) (r j : Nat) : Rat :=
  if r = 0 ∨ L.length < r then (if j = r then 1 else 0)
  else match L[r - 1]? with
    | some x => if j = r + 1 then x.1 else if j + 1 = r then x.2 else if j = r then 1 - (x.1 + x.2) else 0
    | none => 0
theorem TL_end {L : Lad} {r j : Nat} (h : r = 0 ∨ L.length < r) : TL L r j = if j = r then 1 else 0 := by unfold TL; rw [if_pos h]
theorem TL_in {L : Lad} {r j : Nat} {x : Rat × Rat} (hx : L[r]? = some x) : TL L (r + 1) j = if j = r + 2 then x.1 else if j = r then x.2 else if j = r + 1 then 1 - (x.1 + x.2) else 0 := by
  unfold TL
  have hl := (List.getElem?_eq_some_iff.mp hx).1
  rw [if_neg (by omega), Nat.add_sub_cancel, hx]
  simp only [Nat.add_right_cancel_iff]
/-- what a step makes of a function of the rungs -/
theorem TL_sum {L : Lad} {r : Nat} {x : Rat × Rat} (hx : L[r]? = some x) (f : Nat → Rat) : sumR (L.length + 2) (fun j => TL L (r + 1) j * f j) = x.1 * f (r + 2) + x.2 * f r + (1 - (x.1 + x.2)) * f (r + 1) := by
  have hl := (List.getElem?_eq_some_iff.mp hx).1
  have e : ∀ j, j < L.length + 2 → TL L (r + 1) j * f j = ((if j = r + 2 then x.1 * f (r + 2) else 0) + (if j = r then x.2 * f r else 0)) + (if j = r + 1 then (1 - (x.1 + x.2)) * f (r + 1) else 0) := fun j _ => by
    rw [TL_in hx]
    by_cases h1 : j = r + 2
    · subst h1
      rw [if_pos rfl, if_pos rfl, if_neg (by omega), if_neg (by omega)]; grind
    · rw [if_neg h1, if_neg h1]
      by_cases h2 : j = r
      · subst h2
        rw [if_pos rfl, if_pos rfl, if_neg (by omega)]; grind
      · rw [if_neg h2, if_neg h2]
        by_cases h3 : j = r + 1
        · subst h3
          rw [if_pos rfl, if_pos rfl]; grind
        · rw [if_neg h3, if_neg h3]; grind
  rw [sumR_congr e, sumR_add, sumR_add, sumR_one (k := r + 2) (by omega) (fun i _ h => if_neg h), sumR_one (k := r) (by omega) (fun i _ h => if_neg h), sumR_one (k := r + 1) (by omega) (fun i _ h => if_neg h), if_pos rfl, if_pos rfl, if_pos rfl]
theorem TL_sumE {L : Lad} {r : Nat} (hr : r = 0 ∨ L.length < r) (hl : r < L.length + 2) (f : Nat → Rat) : sumR (L.length + 2) (fun j => TL L r j * f j) = f r := by
  rw [sumR_one (k := r) hl fun i _ h => by rw [TL_end hr, if_neg h]; grind, TL_end hr, if_pos rfl]; grind
theorem TL_sum1 {L : Lad} {r : Nat} (hl : r < L.length + 2) : sumR (L.length + 2) (TL L r) = 1 := by
  have h : sumR (L.length + 2) (TL L r) = sumR (L.length + 2) fun j => TL L r j * 1 := sumR_congr fun j _ => by grind
  rw [h]
  by_cases hr : r = 0 ∨ L.length < r
  · exact TL_sumE hr hl _
  · have hlt : r - 1 < L.length := by omega
    have hx : L[r - 1]? = some L[r - 1] := List.getElem?_eq_getElem hlt
    have := TL_sum hx (fun _ => 1)
    rw [show r - 1 + 1 = r by omega] at this
    rw [this]; grind
structure Lst (L : Lad) : Prop where
  sh : ∀ x ∈ L, 0 ≤ x.1 ∧ 0 ≤ x.2 ∧ x.1 + x.2 ≤ 1
theorem Lok.st {L : Lad} (h : Lok L) : Lst L := ⟨fun x hx => ⟨Rat.le_of_lt (h.sh x hx).1.pos, Rat.le_of_lt (h.sh x hx).2.1.pos, (h.sh x hx).2.2⟩⟩
theorem TL_nonneg {L : Lad} (h : Lst L) (r j : Nat) : 0 ≤ TL L r j := by
  unfold TL
  split
  · split <;> decide
  · split
    · rename_i x hx
      obtain ⟨h1, h2, h3⟩ := h.sh x (List.mem_of_getElem? hx)
      split
      · exact h1
      · split
        · exact h2
        · split
          · grind
          · exact Rat.le_refl
    · exact Rat.le_refl
def rowF (row : List Rat) (i : Nat) : Rat := row.getD i 0
theorem rowF_get {row : List Rat} {i : Nat} {x : Rat} (h : row[i]? = some x) : rowF row i = x := by unfold rowF; rw [List.getD_eq_getElem?_getD, h]; rfl
theorem rowF_rng {n i : Nat} {f : Nat → Rat} (h : i < n) : rowF ((List.range n).map f) i = f i := rowF_get (by rw [List.getElem?_map, List.getElem?_range h]; rfl)
def stepL (L : Lad) (row : List Rat) : List Rat := (List.range (L.length + 2)).map fun j => sumR (L.length + 2) fun r => rowF row r * TL L r j
def unitRow (n k : Nat) : List Rat := (List.range n).map fun j => if j = k then 1 else 0
def afterL (L : Lad) (k : Nat) : Nat → List Rat
  | 0 => unitRow (L.length + 2) k
  | t + 1 => stepL L (afterL L k t)
theorem stepL_len (L : Lad) (row : List Rat) : (stepL L row).length = L.length + 2 := by unfold stepL; rw [List.length_map, List.length_range]
theorem afterL_len (L : Lad) (k t : Nat) : (afterL L k t).length = L.length + 2 := by
  cases t with
  | zero => show (unitRow _ _).length = _; unfold unitRow; rw [List.length_map, List.length_range]
  | succ t => exact stepL_len _ _
/-- the chance of rung j after t steps from k -/
def aft (L : Lad) (k t j : Nat) : Rat := rowF (afterL L k t) j
theorem aft_zero {L : Lad} {k j : Nat} (hj : j < L.length + 2) : aft L k 0 j = if j = k then 1 else 0 := rowF_rng hj
theorem aft_succ {L : Lad} {k t j : Nat} (hj : j < L.length + 2) : aft L k (t + 1) j = sumR (L.length + 2) fun r => aft L k t r * TL L r j := rowF_rng hj
theorem aft_get {L : Lad} {k t j : Nat} (hj : j < L.length + 2) : (afterL L k t)[j]? = some (aft L k t j) := by
  have h : j < (afterL L k t).length := by rw [afterL_len]; exact hj
  rw [List.getElem?_eq_getElem h]
  unfold aft
  rw [rowF_get (List.getElem?_eq_getElem h)]
theorem afterL_eq (L : Lad) (k t : Nat) : afterL L k t = (List.range (L.length + 2)).map (aft L k t) := by
  apply List.ext_getElem?
  intro j
  by_cases h : j < L.length + 2
  · rw [aft_get h, List.getElem?_map, List.getElem?_range h]; rfl
  · rw [List.getElem?_eq_none (by rw [afterL_len]; omega), List.getElem?_eq_none (by rw [List.length_map, List.length_range]; omega)]
/-- what is wanted of a function of the rungs goes through the steps -/
theorem aft_exp {L : Lad} {k t : Nat} (f : Nat → Rat) : sumR (L.length + 2) (fun j => aft L k (t + 1) j * f j) = sumR (L.length + 2) fun r => aft L k t r * sumR (L.length + 2) fun j => TL L r j * f j := by
  rw [sumR_congr (f := fun j => aft L k (t + 1) j * f j) (g := fun j => sumR (L.length + 2) fun r => aft L k t r * (TL L r j * f j)) fun j hj => by
    rw [aft_succ hj, ← sumR_mulr]
    exact sumR_congr fun r _ => by grind]
  rw [sumR_comm]
  exact sumR_congr fun r _ => by rw [sumR_mul]
theorem aft_nonneg {L : Lad} (h : Lst L) (k t : Nat) : ∀ j, j < L.length + 2 → 0 ≤ aft L k t j := by
  induction t with
  | zero => intro j hj; rw [aft_zero hj]; split <;> decide
  | succ t ih => intro j hj; rw [aft_succ hj]; exact sumR_nonneg fun r hr => Rat.mul_nonneg (ih r hr) (TL_nonneg h r j)
theorem aft_sum {L : Lad} {k : Nat} (hk : k < L.length + 2) (t : Nat) : sumR (L.length + 2) (aft L k t) = 1 := by
  induction t with
  | zero => rw [sumR_congr fun j hj => aft_zero hj, sumR_one (k := k) hk fun i _ h => if_neg h, if_pos rfl]
  | succ t ih =>
    have h : sumR (L.length + 2) (aft L k (t + 1)) = sumR (L.length + 2) fun j => aft L k (t + 1) j * 1 := sumR_congr fun j _ => by grind
    rw [h, aft_exp]
    refine Eq.trans (sumR_congr fun r hr => ?_) ih
    rw [sumR_congr (f := fun j => TL L r j * 1) (g := TL L r) fun j _ => by grind, TL_sum1 hr]; grind
theorem aft_le {L : Lad} (h : Lst L) {k : Nat} (hk : k < L.length + 2) (t : Nat) {j : Nat} (hj : j < L.length + 2) : aft L k t j ≤ 1 := by
  rw [← aft_sum hk t]
  exact le_sumR hj (aft_nonneg h k t)
/-! the denominators -/
def LD (E : Nat) (L : Lad) : Prop := ∀ x ∈ L, (∃ a : Int, x.1 * ((E : Int) : Rat) = (a : Rat)) ∧ ∃ a : Int, x.2 * ((E : Int) : Rat) = (a : Rat)
theorem int_add {a b c : Rat} (h : ∃ x : Int, a * c = (x : Rat)) (h2 : ∃ x : Int, b * c = (x : Rat)) : ∃ x : Int, (a + b) * c = (x : Rat) := by
  obtain ⟨x, hx⟩ := h
  obtain ⟨y, hy⟩ := h2
  exact ⟨x + y, by rw [Rat.intCast_add, ← hx, ← hy]; grind⟩
theorem int_sumR {n : Nat} {f : Nat → Rat} {c : Rat} (h : ∀ i, i < n → ∃ x : Int, f i * c = (x : Rat)) : ∃ x : Int, sumR n f * c = (x : Rat) := by
  induction n with
  | zero => exact ⟨0, by show 0 * c = 0; grind⟩
  | succ n ih => exact int_add (ih fun i hi => h i (by omega)) (h n (by omega))
theorem TL_int {L : Lad} {E : Nat} (h : LD E L) (r j : Nat) : ∃ a : Int, TL L r j * ((E : Int) : Rat) = (a : Rat) := by
  unfold TL
  split
  · split
    · exact ⟨E, by grind⟩
    · exact ⟨0, by grind⟩
  · split
    · rename_i x hx
      obtain ⟨⟨a, ha⟩, ⟨b, hb⟩⟩ := h x (List.mem_of_getElem? hx)
      split
      · exact ⟨a, ha⟩
      · split
        · exact ⟨b, hb⟩
        · split
          · exact ⟨E - (a + b), by rw [Rat.intCast_sub, Rat.intCast_add, ← ha, ← hb]; grind⟩
          · exact ⟨0, by grind⟩
    · exact ⟨0, by grind⟩
theorem cast_pow (E t : Nat) : (((E ^ (t + 1) : Nat) : Int) : Rat) = (((E ^ t : Nat) : Int) : Rat) * ((E : Int) : Rat) := by rw [Nat.pow_succ, Int.natCast_mul, cast_mul]
theorem int_mul {a b c d : Rat} (h : ∃ x : Int, a * c = (x : Rat)) (h2 : ∃ x : Int, b * d = (x : Rat)) : ∃ x : Int, (a * b) * (c * d) = (x : Rat) := by
  obtain ⟨x, hx⟩ := h
  obtain ⟨y, hy⟩ := h2
  exact ⟨x * y, by rw [cast_mul, ← hx, ← hy]; grind⟩
theorem aft_int {L : Lad} {E : Nat} (h : LD E L) (k t : Nat) : ∀ j, j < L.length + 2 → ∃ a : Int, aft L k t j * (((E ^ t : Nat) : Int) : Rat) = (a : Rat) := by
  induction t with
  | zero =>
    intro j hj
    rw [aft_zero hj]
    split
    · exact ⟨1, by rw [Nat.pow_zero]; decide +kernel⟩
    · exact ⟨0, by grind⟩
  | succ t ih =>
    intro j hj
    rw [aft_succ hj, cast_pow]
    exact int_sumR fun r hr => int_mul (ih r hr) (TL_int h r j)
theorem aft_fz {L : Lad} {E : Nat} (hs : Lst L) (h : LD E L) {k : Nat} (hk : k < L.length + 2) (t : Nat) {j : Nat} (hj : j < L.length + 2) : Fz (E ^ t) 1 (aft L k t j) :=
  Fz.unit (aft_int h k t j hj) (aft_nonneg hs k t j hj) (aft_le hs hk t hj)
theorem GL.ld {L : Lad} (g : GL L) : LD 12 L := fun x hx => by
  obtain ⟨a, ha⟩ := (g.sh x hx).d1
  obtain ⟨b, hb⟩ := (g.sh x hx).d2
  have e : (((12 : Nat) : Int) : Rat) = 12 := rfl
  exact ⟨⟨a, by rw [ha, e]; grind⟩, ⟨b, by rw [hb, e]; grind⟩⟩
/-! lists by places -/
theorem set_rng {α : Type} {n k : Nat} {f : Nat → α} {v : α} : ((List.range n).map f).set k v = (List.range n).map fun j => if j = k then v else f j := by
  apply List.ext_getElem?
  intro j
  by_cases hj : j < n
  · rw [List.getElem?_map, List.getElem?_range hj]
    by_cases e : k = j
    · subst e
      rw [List.getElem?_set_self (by rw [List.length_map, List.length_range]; exact hj)]; simp
    · rw [List.getElem?_set_ne e, List.getElem?_map, List.getElem?_range hj]
      simp [Ne.symm e]
  · rw [List.getElem?_eq_none (by simp; omega), List.getElem?_eq_none (by simp; omega)]
theorem at_rng {α : Type} {n : Nat} {f : Nat → α} {i : Int} {j : Nat} (e : i = (j : Int)) (h : j < n) : atI ((List.range n).map f) i = some (f j) := by
  rw [e]; exact atI_nat (by rw [List.getElem?_map, List.getElem?_range h]; rfl)
theorem ix_rng {α : Type} {n : Nat} {f : Nat → α} {i : Int} {j : Nat} (e : i = (j : Int)) (h : j < n) : ixN ((List.range n).map f).length i = some j := by
  unfold ixN
  rw [List.length_map, List.length_range, if_pos (by omega), if_pos (by omega), e, Int.toNat_natCast]
theorem map_rng_congr {α : Type} {n : Nat} {f g : Nat → α} (h : ∀ j, j < n → f j = g j) : (List.range n).map f = (List.range n).map g := List.map_congr_left fun j hj => h j (List.mem_range.mp hj)
theorem list_rng {α : Type} (xs : List α) (d : α) : xs = (List.range xs.length).map fun i => xs.getD i d := by
  apply List.ext_getElem?
  intro i
  rw [List.getElem?_map]
  by_cases h : i < xs.length
  · rw [List.getElem?_range h, List.getElem?_eq_getElem h]
    simp [List.getD_eq_getElem?_getD, List.getElem?_eq_getElem h]
  · rw [List.getElem?_eq_none (by omega), List.getElem?_eq_none (by rw [List.length_range]; omega)]; rfl
/-! ### what they promise -/
def R_next_of (ds : List PyData) (P : PyData → Prop) : Prop := ∃ (L : Lad) (row : List Rat) (D E k : Nat), ds = [encL L, .list (row.map enc)] ∧ Lw L ∧ row.length = L.length + 2 ∧ (∀ x ∈ row, Fz D 1 x) ∧ LD E L ∧ Lst L ∧ 0 < D ∧ 0 < E ∧ D * E * 16 < 2 ^ k ∧ k ≤ 4000 ∧ P (.list ((stepL L row).map enc))
def R_after_of (ds : List PyData) (P : PyData → Prop) : Prop := ∃ (L : Lad) (r t : Int) (E k : Nat), ds = [encL L, .int r, .int t] ∧ Lw L ∧ 0 ≤ r ∧ r ≤ L.length + 1 ∧ 0 ≤ t ∧ t ≤ 60 ∧ LD E L ∧ Lst L ∧ 0 < E ∧ E ^ t.toNat * 16 < 2 ^ k ∧ k ≤ 4000 ∧ P (.list ((afterL L r.toNat t.toNat).map enc))
theorem S_after_of {L : Lad} {r t : Int} {E k : Nat} {P : PyData → Prop} (h : Lw L) (h1 : 0 ≤ r) (h2 : r ≤ L.length + 1) (h3 : 0 ≤ t) (h4 : t ≤ 60) (hE : LD E L) (hs : Lst L) (h0 : 0 < E) (hk : E ^ t.toNat * 16 < 2 ^ k) (hk2 : k ≤ 4000)
    (p : P (.list ((afterL L r.toNat t.toNat).map enc))) : R_after_of [encL L, .int r, .int t] P := ⟨L, r, t, E, k, rfl, h, h1, h2, h3, h4, hE, hs, h0, hk, hk2, p⟩
def R_after (ds : List PyData) (P : PyData → Prop) : Prop := ∃ (L : Lad) (r t : Int) (E k : Nat), ds = [encL L, .int r, .int t] ∧ Lok L ∧ 0 ≤ r ∧ r ≤ L.length + 1 ∧ 0 ≤ t ∧ t ≤ 60 ∧ LD E L ∧ 0 < E ∧ E ^ t.toNat * 16 < 2 ^ k ∧ k ≤ 4000 ∧ P (.list ((afterL L r.toNat t.toNat).map enc))
theorem S_after {L : Lad} {r t : Int} {E k : Nat} {P : PyData → Prop} (h : Lok L) (h1 : 0 ≤ r) (h2 : r ≤ L.length + 1) (h3 : 0 ≤ t) (h4 : t ≤ 60) (hE : LD E L) (h0 : 0 < E) (hk : E ^ t.toNat * 16 < 2 ^ k) (hk2 : k ≤ 4000)
    (p : P (.list ((afterL L r.toNat t.toNat).map enc))) : R_after [encL L, .int r, .int t] P := ⟨L, r, t, E, k, rfl, h, h1, h2, h3, h4, hE, h0, hk, hk2, p⟩
def R_check_many (ds : List PyData) (P : PyData → Prop) : Prop := ∃ t : Int, ds = [.int t] ∧ 0 ≤ t ∧ t ≤ 60 ∧ P .none
theorem S_check_many {t : Int} {P : PyData → Prop} (h1 : 0 ≤ t) (h2 : t ≤ 60) (p : P .none) : R_check_many [.int t] P := ⟨t, rfl, h1, h2, p⟩
def R_check_inner (ds : List PyData) (P : PyData → Prop) : Prop := ∃ (L : Lad) (r : Int), ds = [encL L, .int r] ∧ 1 ≤ r ∧ r ≤ L.length ∧ P .none
theorem S_check_inner {L : Lad} {r : Int} {P : PyData → Prop} (h1 : 1 ≤ r) (h2 : r ≤ L.length) (p : P .none) : R_check_inner [encL L, .int r] P := ⟨L, r, rfl, h1, h2, p⟩
def R_check_share (ds : List PyData) (P : PyData → Prop) : Prop := ∃ u : Rat, ds = [enc u] ∧ Sh u ∧ P .none
theorem S_check_share {u : Rat} {P : PyData → Prop} (h : Sh u) (p : P .none) : R_check_share [enc u] P := ⟨u, rfl, h, p⟩
end LW

namespace LW
open PySem PySem.Spec PyProof.Rows L2
/-- what a statement leaves, told more widely -/
theorem ds_mono {E : EK} {Xc : XP} {t : TS} {ρ : List Slot} {N : List Slot → Prop} {R : RK} (N' : List Slot → Prop) (h : DS E Xc t ρ N' R) (w : ∀ ρ', N' ρ' → N ρ') : DS E Xc t ρ N R := fun C O σ H D x e nx rt => h C O σ H D x e (fun O' ρ' σ' H' x' n => nx O' ρ' σ' H' x' (w ρ' n)) rt
theorem enumD_map {α : Type} {xs : List α} {e : α → PyData} : enumD (xs.map e) = xs.zipIdx.map fun q => PyData.tuple [.int (q.2 : Nat), e q.1] := by
  apply List.ext_getElem?
  intro i
  unfold enumD
  rw [List.getElem?_mapIdx, List.getElem?_map, List.getElem?_map, List.getElem?_zipIdx]
  cases xs[i]? with
  | none => rfl
  | some x => simp
theorem zipIdx_get {α : Type} {xs : List α} {i : Nat} {q : α × Nat} (h : xs.zipIdx[i]? = some q) : xs[i]? = some q.1 ∧ q.2 = i := by
  rw [List.getElem?_zipIdx] at h
  cases e : xs[i]? with
  | none => rw [e] at h; cases h
  | some x =>
    rw [e] at h
    cases h
    exact ⟨rfl, by simp⟩
theorem Fz.sumR {D B n : Nat} {f : Nat → Rat} (h : ∀ i, i < n → Fz D B (f i)) : Fz D (n * B) (sumR n f) := by
  induction n with
  | zero => rw [Nat.zero_mul]; exact Fz.zero D
  | succ n ih => rw [Nat.succ_mul]; exact (ih fun i hi => h i (by omega)).add (h n (by omega))
theorem TL_le {L : Lad} (h : Lst L) {r j : Nat} (hr : r < L.length + 2) (hj : j < L.length + 2) : TL L r j ≤ 1 := by
  rw [← TL_sum1 hr]
  exact le_sumR hj fun i _ => TL_nonneg h r i
theorem TL_fz {L : Lad} {E : Nat} (h : Lst L) (hE : LD E L) {r j : Nat} (hr : r < L.length + 2) (hj : j < L.length + 2) : Fz E 1 (TL L r j) := Fz.unit (TL_int hE r j) (TL_nonneg h r j) (TL_le h hr hj)
theorem rowF_fz {D : Nat} {row : List Rat} (h : ∀ x ∈ row, Fz D 1 x) (i : Nat) : Fz D 1 (rowF row i) := by
  unfold rowF
  rw [List.getD_eq_getElem?_getD]
  cases e : row[i]? with
  | none => exact (Fz.zero D).mono (by decide)
  | some x => exact h x (List.mem_of_getElem? e)
theorem part_bd {L : Lad} {row : List Rat} {D E k : Nat} (hl : L.length ≤ 8) (hr : ∀ x ∈ row, Fz D 1 x) (hE : LD E L) (hs : Lst L) (h0 : 0 < D) (h1 : 0 < E) (hk : D * E * 16 < 2 ^ k) {i j : Nat} (hi : i ≤ L.length + 2) (hj : j < L.length + 2) :
    Bd k (sumR i fun r => rowF row r * TL L r j) := by
  have h : Fz (D * E) (i * (1 * 1)) (sumR i fun r => rowF row r * TL L r j) := Fz.sumR fun r h => (rowF_fz hr r).mul (TL_fz hs hE (by omega) hj)
  refine h.bd (Nat.mul_pos h0 h1) (Nat.lt_of_le_of_lt (Nat.mul_le_mul_left _ ?_) hk)
  omega
theorem row_bd {D E k : Nat} {x : Rat} (h : Fz D 1 x) (h0 : 0 < D) (h1 : 0 < E) (hk : D * E * 16 < 2 ^ k) : Bd k x := by
  refine h.bd h0 (Nat.lt_of_le_of_lt ?_ hk)
  have : D ≤ D * E := Nat.le_mul_of_pos_right D h1
  omega
theorem S_next_of {L : Lad} {row : List Rat} {D E k : Nat} {P : PyData → Prop} (h : Lw L) (hl : row.length = L.length + 2) (hr : ∀ x ∈ row, Fz D 1 x) (hE : LD E L) (hs : Lst L) (h0 : 0 < D) (h1 : 0 < E) (hk : D * E * 16 < 2 ^ k) (hk2 : k ≤ 4000)
    (p : P (.list ((stepL L row).map enc))) : R_next_of [encL L, .list (row.map enc)] P := ⟨L, row, D, E, k, rfl, h, hl, hr, hE, hs, h0, h1, hk, hk2, p⟩
theorem afterL_fz {L : Lad} {E : Nat} (hs : Lst L) (h : LD E L) {k : Nat} (hk : k < L.length + 2) (t : Nat) : ∀ x ∈ afterL L k t, Fz (E ^ t) 1 x := fun x hx => by
  rw [afterL_eq] at hx
  obtain ⟨j, hj, rfl⟩ := List.mem_map.mp hx
  exact aft_fz hs h hk t (List.mem_range.mp hj)
/-! ended by -/
def endedL (L : Lad) (r t : Nat) : Rat := aft L r t 0 + aft L r t (L.length + 1)
theorem at_aft {L : Lad} {r t j : Nat} {i : Int} (e : i = (j : Int)) (h : j < L.length + 2) : atI ((afterL L r t).map enc) i = some (enc (aft L r t j)) := at_map e (aft_get h)
theorem at_aftL {L : Lad} {r t : Nat} : atI ((afterL L r t).map enc) (-1) = some (enc (aft L r t (L.length + 1))) := at_last (by
  rw [List.getLast?_eq_getElem?, afterL_len]
  exact aft_get (by omega))
section
variable {L : Lad} {r t : Int} {E k : Nat} {P : PyData → Prop}
/-- what all of them ask -/
structure Tm (L : Lad) (r t : Int) (E k : Nat) : Prop where
  ok : Lok L
  r0 : 0 ≤ r
  r1 : r ≤ L.length + 1
  t0 : 0 ≤ t
  t1 : t ≤ 60
  ld : LD E L
  E0 : 0 < E
  hk : E ^ t.toNat * 16 < 2 ^ k
  k1 : k ≤ 4000
theorem Tm.aftS (h : Tm L r t E k) (p : P (.list ((afterL L r.toNat t.toNat).map enc))) : R_after_of [encL L, .int r, .int t] P := S_after_of h.ok.lw h.r0 h.r1 h.t0 h.t1 h.ld h.ok.st h.E0 h.hk h.k1 p
theorem Tm.pred (h : Tm L r t E k) (ht : t ≠ 0) : Tm L r (t - 1) E k := ⟨h.ok, h.r0, h.r1, by have := h.t0; omega, by have := h.t1; omega, h.ld, h.E0, by
  refine Nat.lt_of_le_of_lt (Nat.mul_le_mul_right 16 (Nat.pow_le_pow_right h.E0 ?_)) h.hk
  have := h.t0; omega, h.k1⟩
theorem Tm.bd (h : Tm L r t E k) {j : Nat} (hj : j < L.length + 2) : Bd k (aft L r.toNat t.toNat j) := by
  have hr := h.r1
  have h0 := h.r0
  refine (aft_fz h.ok.st h.ld (k := r.toNat) (by omega) t.toNat hj).bd (Nat.pow_pos h.E0) (Nat.lt_of_le_of_lt ?_ h.hk)
  exact Nat.mul_le_mul_left _ (by decide)
theorem Tm.bdE (h : Tm L r t E k) : Bd k (endedL L r.toNat t.toNat) := by
  have hr := h.r1
  have h0 := h.r0
  refine ((aft_fz h.ok.st h.ld (k := r.toNat) (by omega) t.toNat (by omega)).add (aft_fz h.ok.st h.ld (k := r.toNat) (by omega) t.toNat (by omega))).bd (Nat.pow_pos h.E0) (Nat.lt_of_le_of_lt ?_ h.hk)
  exact Nat.mul_le_mul_left _ (by decide)
def R_ended_by (ds : List PyData) (P : PyData → Prop) : Prop := ∃ (L : Lad) (r t : Int) (E k : Nat), ds = [encL L, .int r, .int t] ∧ Tm L r t E k ∧ P (enc (endedL L r.toNat t.toNat))
theorem S_ended_by (h : Tm L r t E k) (p : P (enc (endedL L r.toNat t.toNat))) : R_ended_by [encL L, .int r, .int t] P := ⟨L, r, t, E, k, rfl, h, p⟩
def endsL (L : Lad) (r t : Nat) : Rat := if t = 0 then endedL L r 0 else endedL L r t - endedL L r (t - 1)
def R_ends_at (ds : List PyData) (P : PyData → Prop) : Prop := ∃ (L : Lad) (r t : Int) (E k : Nat), ds = [encL L, .int r, .int t] ∧ Tm L r t E k ∧ P (enc (endsL L r.toNat t.toNat))
theorem S_ends_at (h : Tm L r t E k) (p : P (enc (endsL L r.toNat t.toNat))) : R_ends_at [encL L, .int r, .int t] P := ⟨L, r, t, E, k, rfl, h, p⟩
def topL (L : Lad) (r t : Nat) : Rat := if t = 0 then aft L r 0 (L.length + 1) else aft L r t (L.length + 1) - aft L r (t - 1) (L.length + 1)
def R_top_at (ds : List PyData) (P : PyData → Prop) : Prop := ∃ (L : Lad) (r t : Int) (E k : Nat), ds = [encL L, .int r, .int t] ∧ Tm L r t E k ∧ P (enc (topL L r.toNat t.toNat))
theorem S_top_at (h : Tm L r t E k) (p : P (enc (topL L r.toNat t.toNat))) : R_top_at [encL L, .int r, .int t] P := ⟨L, r, t, E, k, rfl, h, p⟩
def likeL (L : Lad) (r t : Nat) : List Nat := (List.range (L.length + 2)).filter fun j => !((afterL L r t).any fun y => decide (aft L r t j < y))
def R_likeliest (ds : List PyData) (P : PyData → Prop) : Prop := ∃ (L : Lad) (r t : Int) (E k : Nat), ds = [encL L, .int r, .int t] ∧ Tm L r t E k ∧ P (.list ((likeL L r.toNat t.toNat).map fun j => .int (j : Nat)))
theorem S_likeliest (h : Tm L r t E k) (p : P (.list ((likeL L r.toNat t.toNat).map fun j => .int (j : Nat)))) : R_likeliest [encL L, .int r, .int t] P := ⟨L, r, t, E, k, rfl, h, p⟩
def R_first_by (ds : List PyData) (P : PyData → Prop) : Prop := ∃ (L : Lad) (r : Int) (u : Rat) (E k : Nat), ds = [encL L, .int r, enc u] ∧ Lok L ∧ 0 ≤ r ∧ r ≤ L.length + 1 ∧ Sh u ∧ LD E L ∧ 0 < E ∧ E ^ 61 * 16 < 2 ^ k ∧ k ≤ 4000 ∧
  (∀ m : Nat, m ≤ 60 → (∀ j, j < m → endedL L r.toNat j < u) → ¬ endedL L r.toNat m < u → P (.int m)) ∧ ((∀ j, j ≤ 60 → endedL L r.toNat j < u) → P .none)
theorem S_first_by {u : Rat} (h : Lok L) (h1 : 0 ≤ r) (h2 : r ≤ L.length + 1) (hu : Sh u) (hE : LD E L) (h0 : 0 < E) (hk : E ^ 61 * 16 < 2 ^ k) (hk2 : k ≤ 4000)
    (p : ∀ m : Nat, m ≤ 60 → (∀ j, j < m → endedL L r.toNat j < u) → ¬ endedL L r.toNat m < u → P (.int m)) (p2 : (∀ j, j ≤ 60 → endedL L r.toNat j < u) → P .none) : R_first_by [encL L, .int r, enc u] P :=
  ⟨L, r, u, E, k, rfl, h, h1, h2, hu, hE, h0, hk, hk2, p, p2⟩
end
/-! the law's own rows -/
theorem sumR_TLcol {L : Lad} {row : List Rat} {j : Nat} (hj : j < L.length + 2) :
    sumR (L.length + 2) (fun r => rowF row r * TL L r j) = rowF row j * restL L j + (if 2 ≤ j then rowF row (j - 1) * ((L.getD (j - 2) (0, 0)).1) else 0) + (if j + 2 < L.length + 2 then rowF row (j + 1) * ((L.getD j (0, 0)).2) else 0) := by
  have e : ∀ r, r < L.length + 2 → rowF row r * TL L r j = ((if r = j then rowF row j * restL L j else 0) + (if r + 1 = j then (if 2 ≤ j then rowF row (j - 1) * ((L.getD (j - 2) (0, 0)).1) else 0) else 0)) + (if r = j + 1 then (if j + 2 < L.length + 2 then rowF row (j + 1) * ((L.getD j (0, 0)).2) else 0) else 0) := fun r hr => by
    by_cases hE : r = 0 ∨ L.length < r
    · rw [TL_end hE]
      by_cases h1 : j = r
      · subst h1
        have : restL L j = 1 := by unfold restL; rw [if_pos (by omega)]
        rw [if_pos rfl, if_pos rfl, if_neg (by omega), if_neg (by omega), this]; grind
      · rw [if_neg h1, if_neg (fun e => h1 e.symm)]
        by_cases h2 : r + 1 = j
        · rw [if_pos h2, if_neg (by omega), if_neg (by omega)]; grind
        · rw [if_neg h2]
          by_cases h3 : r = j + 1
          · rw [if_pos h3, if_neg (by omega)]; grind
          · rw [if_neg h3]; grind
    · obtain ⟨s, rfl⟩ : ∃ s, r = s + 1 := ⟨r - 1, by omega⟩
      have hs : s < L.length := by omega
      have hx : L[s]? = some L[s] := List.getElem?_eq_getElem hs
      generalize L[s] = x at hx
      rw [TL_in hx]
      by_cases h1 : j = s + 2
      · subst h1
        rw [if_pos rfl, if_neg (by omega), if_pos (by omega), if_pos (by omega), if_neg (by omega), show s + 2 - 2 = s by omega, show s + 2 - 1 = s + 1 by omega, List.getD_eq_getElem?_getD, hx]
        show rowF row (s + 1) * x.1 = 0 + rowF row (s + 1) * x.1 + 0
        grind
      · rw [if_neg h1]
        by_cases h2 : j = s
        · subst h2
          rw [if_pos rfl, if_neg (by omega), if_neg (by omega), if_pos rfl, if_pos (by omega), List.getD_eq_getElem?_getD, hx]
          show rowF row (j + 1) * x.2 = 0 + 0 + rowF row (j + 1) * x.2
          grind
        · rw [if_neg h2]
          by_cases h3 : j = s + 1
          · subst h3
            have : restL L (s + 1) = 1 - (x.1 + x.2) := by unfold restL; rw [if_neg (by omega), Nat.add_sub_cancel, hx]
            rw [if_pos rfl, if_pos rfl, if_neg (by omega), if_neg (by omega), this]; grind
          · rw [if_neg h3, if_neg (by omega), if_neg (by omega), if_neg (by omega)]; grind
  rw [sumR_congr e, sumR_add, sumR_add, sumR_one (k := j) hj (fun i _ h => if_neg h), if_pos rfl]
  congr 1
  · congr 1
    by_cases h : 2 ≤ j
    · rw [sumR_one (k := j - 1) (by omega) (fun i _ hi => if_neg (by omega)), if_pos (by omega)]
    · rw [if_neg h, sumR_zero]
      intro i _; split <;> rfl
  · by_cases h : j + 2 < L.length + 2
    · rw [sumR_one (k := j + 1) (by omega) (fun i _ hi => if_neg hi), if_pos rfl]
    · rw [if_neg h, sumR_zero]
      intro i _; split <;> rfl
theorem rest_bd {L : Lad} (h : Lw L) (r : Nat) : Bd 23 (restL L r) := by
  unfold restL
  split
  · exact Bd.one.mono (by decide)
  · split
    · rename_i x hx
      obtain ⟨_, _, g3, g4⟩ := h.sh x (List.mem_of_getElem? hx)
      exact (Bd.one.sub (g3.add g4)).mono (by decide)
    · exact Bd.one.mono (by decide)
theorem rest_fz {L : Lad} {E : Nat} (h : Lst L) (hE : LD E L) (r : Nat) : Fz E 1 (restL L r) := by
  unfold restL
  split
  · exact Fz.one E
  · split
    · rename_i x hx
      obtain ⟨⟨a, ha⟩, b, hb⟩ := hE x (List.mem_of_getElem? hx)
      obtain ⟨h1, h2, h3⟩ := h.sh x (List.mem_of_getElem? hx)
      exact Fz.unit ⟨E - (a + b), by rw [Rat.intCast_sub, Rat.intCast_add, ← ha, ← hb]; grind⟩ (by grind) (by grind)
    · exact Fz.one E
theorem up_fz {L : Lad} {E : Nat} (h : Lst L) (hE : LD E L) {x : Rat × Rat} (hx : x ∈ L) : Fz E 1 x.1 ∧ Fz E 1 x.2 := by
  obtain ⟨h1, h2, h3⟩ := h.sh x hx
  exact ⟨Fz.unit (hE x hx).1 h1 (by grind), Fz.unit (hE x hx).2 h2 (by grind)⟩
def R_law_next (ds : List PyData) (P : PyData → Prop) : Prop := ∃ (L : Lad) (row : List Rat) (D E k : Nat), ds = [encL L, .list (row.map enc)] ∧ Lok L ∧ row.length = L.length + 2 ∧ (∀ x ∈ row, Fz D 1 x) ∧ LD E L ∧ 0 < D ∧ 0 < E ∧ D * E * 16 < 2 ^ k ∧ k ≤ 4000 ∧ P (.list ((stepL L row).map enc))
theorem S_law_next {L : Lad} {row : List Rat} {D E k : Nat} {P : PyData → Prop} (h : Lok L) (hl : row.length = L.length + 2) (hr : ∀ x ∈ row, Fz D 1 x) (hE : LD E L) (h0 : 0 < D) (h1 : 0 < E) (hk : D * E * 16 < 2 ^ k) (hk2 : k ≤ 4000)
    (p : P (.list ((stepL L row).map enc))) : R_law_next [encL L, .list (row.map enc)] P := ⟨L, row, D, E, k, rfl, h, hl, hr, hE, h0, h1, hk, hk2, p⟩
abbrev encRows (L : Lad) (r t : Nat) : PyData := .list ((List.range (t + 1)).map fun i => PyData.list ((afterL L r i).map enc))
def R_law_rows (ds : List PyData) (P : PyData → Prop) : Prop := ∃ (L : Lad) (r t : Int) (E k : Nat), ds = [encL L, .int r, .int t] ∧ Tm L r t E k ∧ P (encRows L r.toNat t.toNat)
theorem S_law_rows {L : Lad} {r t : Int} {E k : Nat} {P : PyData → Prop} (h : Tm L r t E k) (p : P (encRows L r.toNat t.toNat)) : R_law_rows [encL L, .int r, .int t] P := ⟨L, r, t, E, k, rfl, h, p⟩
theorem at_neg {α : Type} {f : α → PyData} {xs : List α} {x : α} {i : Int} {j : Nat} (hi : i < 0) (e : i + (xs.length : Int) = (j : Int)) (h : xs[j]? = some x) : atI (xs.map f) i = some (f x) := by
  have hj := (List.getElem?_eq_some_iff.mp h).1
  unfold atI ixN
  rw [List.length_map, if_neg (by omega), if_pos (by omega)]
  show (xs.map f)[(i + (xs.length : Int)).toNat]? = _
  rw [e, Int.toNat_natCast, List.getElem?_map, h]; rfl
/-! lists of small numbers -/
abbrev natD (j : Nat) : PyData := .int (j : Int)
theorem natD_iff (a b : Nat) : PyData.eqv (natD a) (natD b) = true ↔ a = b := by
  rw [eqv_int, decide_eq_true_eq]; omega
theorem shaped_nats (xs : List Nat) : SeqAt.shaped (.list (xs.map natD)) = true := (Shp.list (n := 1) fun d hd => by
  obtain ⟨r, _, rfl⟩ := List.mem_map.mp hd
  exact Shp.int r).shaped (by decide)
section
variable {K : PySem.W.Frag} {P : PyData → Prop}
theorem rp_eqNs {a b : List Nat} (p : P (.bool (decide (a = b)))) : RP (rEqD K) (.list (a.map natD)) (.list (b.map natD)) P := rp_eq (shaped_nats _) (shaped_nats _) (by rw [eqv_list natD_iff]; exact p)
theorem rp_neNs {a b : List Nat} (p : P (.bool (!decide (a = b)))) : RP (rNeD K) (.list (a.map natD)) (.list (b.map natD)) P := rp_ne (shaped_nats _) (shaped_nats _) (by rw [eqv_list natD_iff]; exact p)
theorem rp_eqNilN {xs : List Nat} (p : P (.bool xs.isEmpty)) : RP (rEqD K) (.list (xs.map natD)) (.list []) P := rp_eq (shaped_nats _) rfl (by rw [eqv_nil, List.isEmpty_map]; exact p)
end
theorem afterL_sum {L : Lad} {r : Nat} (hr : r < L.length + 2) (t : Nat) : (afterL L r t).sum = 1 := by rw [afterL_eq, sum_rng, aft_sum hr]
theorem filter_first {n m : Nat} {b : Nat → Bool} (hm : m < n) (h : b m = true) (hl : ∀ j, j < m → b j = false) : ((List.range n).filter b)[0]? = some m := by
  have e : List.range n = List.range m ++ (List.range (n - m)).map (m + ·) := by rw [← List.range_add, Nat.add_sub_cancel' (Nat.le_of_lt hm)]
  rw [e, List.filter_append, List.filter_eq_nil_iff.mpr (fun a ha => by rw [hl a (List.mem_range.mp ha)]; exact Bool.false_ne_true), List.nil_append]
  obtain ⟨q, hq⟩ : ∃ q, n - m = q + 1 := ⟨n - m - 1, by omega⟩
  rw [hq, List.range_succ_eq_map, List.map_cons, List.filter_cons_of_pos (by simpa using h)]
  simp
theorem share_of {a b : Int} (ha : 1 ≤ a) (hb : a ≤ b) (hc : b ≤ 1000) : Sh ((a : Rat) / (b : Rat)) := by
  have hB : (0 : Rat) < (b : Rat) := Rat.intCast_pos.mpr (by omega)
  have hA : (0 : Rat) < (a : Rat) := Rat.intCast_pos.mpr (by omega)
  have hAB : (a : Rat) ≤ (b : Rat) := Rat.intCast_le_intCast.mpr hb
  refine ⟨div_pos hA hB, ?_, ?_⟩
  · have e2 : (1 : Rat) = (b : Rat) * (b : Rat)⁻¹ := by grind
    rw [Rat.div_def, e2]
    exact Rat.mul_le_mul_of_nonneg_right hAB (Rat.le_of_lt (Rat.inv_pos.mpr hB))
  · have h3 := den_div a (b := b) (by omega)
    have h4 := natAbs_div_le b (Nat.gcd a.natAbs b.toNat)
    omega
end LW

namespace LW
open PySem PySem.Spec PyProof.Rows L2
/-! ### two new lists at once -/
def PureN (te : TE) (ds : List PyData) : Prop := ∀ (σ : L2.St) (H : Hp) (Q : VK), (∀ p vs H3 H4, Same H H3 → H3 p = none → Same H3 H4 → H4 p = some (.lst vs) → (∀ O : Addr → Prop, (∀ p, O p → H p ≠ none) → DnAll O H3 vs ds) → Q (.ref p) H4) → te σ H Q
theorem pureN_nil : PureN (tLst tNil) [] := fun σ H Q q => ⟨by decide, fun a n => q a [] H _ (Same.refl H) n (same_upd n) upd_same fun O _ => .nil⟩
theorem pureN_pair {a b : Int} : PureN (tLst (tCons (tTup (tCons (tC (.int a)) (tCons (tC (.int b)) tNil))) tNil)) [.tuple [.int a, .int b]] := fun σ H Q q => by
  refine ⟨Nat.le_trans (show 2 ≤ 100000 by decide) (by decide), fun t nt => ⟨Nat.le_trans (show 1 ≤ 100000 by decide) (by decide), fun l nl => q l _ _ _ (same_upd nt) nl (same_upd nl) upd_same fun O hO => .cons (.tup (fun z => hO t z nt) upd_same (.cons (.int a) (.cons (.int b) .nil))) .nil⟩⟩
theorem ds_parOO {E : EK} {Xc : XP} {ρ : List Slot} {N : List Slot → Prop} {R : RK} {i j : Nat} {t1 t2 : TE} {es : List PyData} (h2 : PureN t2 es) (h : EvN E Xc t1 ρ fun ds => ∀ p p', N ((ρ.set i (.own p ds)).set j (.own p' es))) : DS E Xc (tPar i j (tCons t1 (tCons t2 tNil))) ρ N R := fun C O σ H D x e nx rt =>
  h C O σ H x e _ fun p vs ds H1 H2 x1 k1 n1 s1 e1 y n => h2 σ H2 _ fun p' vs' H3 H4 s3 n3 s4 e4 y' => by
    have r1 := x1.setO (i := i) s1 n1 e1 (y.keep (.of s1)) ((y.hide n1).keep (.of s1))
    have r3 := r1.grow s3
    have d1 : DnAll (fun a => O a ∨ a = p) H3 vs' es := y' _ fun q z => by
      obtain ⟨o, eo⟩ := r1.dom q z
      rw [eo]; exact fun h => by cases h
    have r4 := r3.setO (i := j) s4 n3 e4 (d1.keep (.of s4)) ((d1.hide n3).keep (.of s4))
    exact ⟨_, _, rfl, nx _ _ _ _ r4 (n p p')⟩
/-! ### the mean steps -/
def othFrom : Rat → Lad → List Rat
  | b, [] => [b]
  | b, x :: r => b :: othFrom ((x.2 * b + 1) / x.1) r
def oth (L : Lad) : List Rat := othFrom 0 L
theorem othFrom_len : ∀ (b : Rat) (L : Lad), (othFrom b L).length = L.length + 1
  | _, [] => rfl
  | b, x :: r => by show (othFrom _ r).length + 1 = _; rw [othFrom_len]; rfl
theorem oth_len (L : Lad) : (oth L).length = L.length + 1 := othFrom_len 0 L
theorem othFrom_zero (b : Rat) (L : Lad) : (othFrom b L)[0]? = some b := by cases L <;> rfl
theorem oth_zero (L : Lad) : (oth L)[0]? = some 0 := othFrom_zero 0 L
theorem othFrom_succ : ∀ (L : Lad) (p : Rat) (i : Nat) (b : Rat) (x : Rat × Rat), (othFrom p L)[i]? = some b → L[i]? = some x → (othFrom p L)[i + 1]? = some ((x.2 * b + 1) / x.1)
  | [], _, _, _, _, _, h => by simp at h
  | y :: r, p, 0, b, x, h, h2 => by
    have e1 : p = b := Option.some.inj h
    have e2 : y = x := Option.some.inj h2
    subst e1; subst e2
    exact othFrom_zero _ r
  | y :: r, p, i + 1, b, x, h, h2 => othFrom_succ r _ i b x h h2
theorem oth_succ {L : Lad} {i : Nat} {b : Rat} {x : Rat × Rat} (h : (oth L)[i]? = some b) (h2 : L[i]? = some x) : (oth L)[i + 1]? = some ((x.2 * b + 1) / x.1) := othFrom_succ L 0 i b x h h2
def mF (L : Lad) : Rat := (oth L).sum / (prods (qs L)).sum
def mM (L : Lad) (r : Nat) : Rat := ((prods (qs L)).take r).sum * mF L - ((oth L).take r).sum
def mms (L : Lad) : List Rat := (List.range (L.length + 2)).map (mM L)
theorem mM_zero (L : Lad) : mM L 0 = 0 := by
  unfold mM
  rw [List.take_zero, List.take_zero, List.sum_nil]; grind
theorem mM_top {L : Lad} (h : Lw L) {k : Nat} (hk : k = L.length + 1) : mM L k = 0 := by
  unfold mM mF
  rw [List.take_of_length_le (by rw [prods_len, qs_len]; omega), List.take_of_length_le (by rw [oth_len]; omega)]
  have := Rat.ne_of_gt (prods_sum_pos h)
  grind
theorem mM_succ {L : Lad} {k : Nat} {a b : Rat} (h : (prods (qs L))[k]? = some a) (h2 : (oth L)[k]? = some b) : mM L (k + 1) = mM L k + (a * mF L - b) := by
  unfold mM
  rw [sum_take_succ h, sum_take_succ h2]; grind
theorem mM_step {L : Lad} (h : Lw L) {r : Nat} {x : Rat × Rat} (hx : L[r]? = some x) : 1 + x.1 * mM L (r + 2) + x.2 * mM L r + (1 - (x.1 + x.2)) * mM L (r + 1) = mM L (r + 1) := by
  obtain ⟨a, ha, e1, e2⟩ := prods_step h hx
  have h1 := (h.sh x (List.mem_of_getElem? hx)).1
  have hn : x.1 ≠ 0 := Rat.ne_of_gt h1
  have hr : r < L.length := (List.getElem?_eq_some_iff.mp hx).1
  have e3 : (oth L)[r]? = some ((oth L)[r]'(by rw [oth_len]; omega)) := List.getElem?_eq_getElem _
  generalize (oth L)[r]'(by rw [oth_len]; omega) = b at e3
  have e4 := oth_succ e3 hx
  rw [mM_succ e2 e4, mM_succ e1 e3]
  generalize mF L = F
  generalize mM L r = m
  have e : x.1 * (a * (x.2 / x.1)) = a * x.2 := by grind
  have e' : x.1 * ((x.2 * b + 1) / x.1) = x.2 * b + 1 := by grind
  grind
theorem mms_len (L : Lad) : (mms L).length = L.length + 2 := by unfold mms; rw [List.length_map, List.length_range]
theorem mms_get {L : Lad} {r : Nat} (h : r ≤ L.length + 1) : (mms L)[r]? = some (mM L r) := by
  unfold mms
  rw [List.getElem?_map, List.getElem?_range (by omega)]; rfl
theorem at_mms {L : Lad} {i : Int} {r : Nat} (e : i = (r : Int)) (h : r ≤ L.length + 1) : atI ((mms L).map enc) i = some (enc (mM L r)) := at_map e (mms_get h)
/-- what a step does not raise and is not negative at the ends is not negative -/
theorem superh {L : Lad} (hp : ∀ x ∈ L, 0 < x.1 ∧ 0 < x.2) {f : Nat → Rat} (h0 : 0 ≤ f 0) (h1 : 0 ≤ f (L.length + 1)) (hs : ∀ (r : Nat) (x : Rat × Rat), L[r]? = some x → x.1 * f (r + 2) + x.2 * f r ≤ (x.1 + x.2) * f (r + 1)) : ∀ r, r ≤ L.length + 1 → 0 ≤ f r := by
  have down : ∀ r, r < L.length → f (r + 1) < f r → f (r + 2) < f (r + 1) := fun r hr hd => by
    have hx : L[r]? = some L[r] := List.getElem?_eq_getElem hr
    have h3 := hs r _ hx
    obtain ⟨p1, p2⟩ := hp _ (List.mem_of_getElem? hx)
    generalize L[r] = x at *
    have h4 : 0 < x.2 * (f r - f (r + 1)) := Rat.mul_pos p2 (by grind)
    have h5 : 0 < x.1 * (f (r + 1) - f (r + 2)) := by grind
    have h6 : ¬ f (r + 1) - f (r + 2) ≤ 0 := fun z => by
      have := Rat.mul_nonneg (Rat.le_of_lt p1) (show 0 ≤ -(f (r + 1) - f (r + 2)) by grind)
      grind
    grind
  have run : ∀ r, r ≤ L.length → f (r + 1) < f r → f r ≤ 0 → ∀ n, r + 1 + n ≤ L.length + 1 → f (r + 1 + n) < 0 ∧ f (r + 1 + n) < f (r + n) := fun r hr hd hneg n => by
    induction n with
    | zero => intro _; exact ⟨by show f (r + 1) < 0; grind, hd⟩
    | succ n ih =>
      intro hn
      obtain ⟨i1, i2⟩ := ih (by omega)
      have e1 : r + 1 + n = r + n + 1 := by omega
      rw [e1] at i1 i2
      have := down (r + n) (by omega) i2
      have e2 : r + 1 + (n + 1) = r + n + 2 := by omega
      have e3 : r + (n + 1) = r + n + 1 := by omega
      rw [e2, e3]
      exact ⟨by grind, this⟩
  intro r hr
  induction r with
  | zero => exact h0
  | succ r ih =>
    have ih := ih (by omega)
    refine Classical.byContradiction fun hn => ?_
    have hneg : f (r + 1) < 0 := by grind
    by_cases hl : r = L.length
    · subst hl; grind
    · have hd : f (r + 2) < f (r + 1) := down r (by omega) (by grind)
      have := (run (r + 1) (by omega) hd (Rat.le_of_lt hneg) (L.length - (r + 1)) (by omega)).1
      rw [show r + 1 + 1 + (L.length - (r + 1)) = L.length + 1 by omega] at this
      grind
theorem Lw.pos {L : Lad} (h : Lw L) : ∀ x ∈ L, 0 < x.1 ∧ 0 < x.2 := fun x hx => ⟨(h.sh x hx).1, (h.sh x hx).2.1⟩
theorem mM_nonneg {L : Lad} (h : Lw L) : ∀ r, r ≤ L.length + 1 → 0 ≤ mM L r := by
  refine superh h.pos (by rw [mM_zero]; exact Rat.le_refl) (by rw [mM_top h rfl]; exact Rat.le_refl) fun r x hx => ?_
  have h2 : 1 + x.1 * mM L (r + 2) + x.2 * mM L r + (1 - (x.1 + x.2)) * mM L (r + 1) ≤ mM L (r + 1) := by rw [mM_step h hx]; exact Rat.le_refl
  grind
/-- two that a step treats alike, alike at the ends, are the same -/
theorem harm_eq {L : Lad} (hp : ∀ x ∈ L, 0 < x.1 ∧ 0 < x.2) {f g : Nat → Rat} (c : Nat → Rat) (h0 : f 0 = g 0) (h1 : f (L.length + 1) = g (L.length + 1)) (hf : ∀ (r : Nat) (x : Rat × Rat), L[r]? = some x → x.1 * f (r + 2) + x.2 * f r + c r = (x.1 + x.2) * f (r + 1))
    (hg : ∀ (r : Nat) (x : Rat × Rat), L[r]? = some x → x.1 * g (r + 2) + x.2 * g r + c r = (x.1 + x.2) * g (r + 1)) : ∀ r, r ≤ L.length + 1 → f r = g r := by
  intro r hr
  have a := superh hp (f := fun r => f r - g r) (by show 0 ≤ f 0 - g 0; rw [h0]; grind) (by show 0 ≤ f _ - g _; rw [h1]; grind) (fun r x hx => by
    have := hf r x hx; have := hg r x hx; show x.1 * (f (r + 2) - g (r + 2)) + x.2 * (f r - g r) ≤ (x.1 + x.2) * (f (r + 1) - g (r + 1)); grind) r hr
  have b := superh hp (f := fun r => g r - f r) (by show 0 ≤ g 0 - f 0; rw [h0]; grind) (by show 0 ≤ g _ - f _; rw [h1]; grind) (fun r x hx => by
    have := hf r x hx; have := hg r x hx; show x.1 * (g (r + 2) - f (r + 2)) + x.2 * (g r - f r) ≤ (x.1 + x.2) * (g (r + 1) - f (r + 1)); grind) r hr
  have a : 0 ≤ f r - g r := a
  have b : 0 ≤ g r - f r := b
  grind
theorem mM_one_pos {L : Lad} (h : Lw L) (h1 : 1 ≤ L.length) : 0 < mM L 1 := by
  have hx : L[0]? = some L[0] := List.getElem?_eq_getElem (by omega)
  have hs := mM_step h hx
  obtain ⟨p1, p2, _⟩ := h.sh _ (List.mem_of_getElem? hx)
  have h2 := mM_nonneg h 2 (by omega)
  have h3 := Rat.mul_nonneg (Rat.le_of_lt p1) h2
  rw [mM_zero] at hs
  generalize L[0] = x at *
  refine Classical.byContradiction fun hn => ?_
  have hn : mM L 1 ≤ 0 := by grind
  have h4 := Rat.mul_nonneg (show 0 ≤ x.1 + x.2 by grind) (show 0 ≤ -mM L 1 by grind)
  have hs : 1 + x.1 * mM L 2 + x.2 * 0 + (1 - (x.1 + x.2)) * mM L 1 = mM L 1 := hs
  grind
end LW

namespace LW
open PySem PySem.Spec PyProof.Rows L2
/-! ### sizes by whole numbers over one denominator -/
abbrev cN (n : Nat) : Rat := ((n : Int) : Rat)
def Gz (D M : Nat) (r : Rat) : Prop := ∃ z : Int, r * cN D = (z : Rat) ∧ z.natAbs ≤ M
theorem cN_mul (a b : Nat) : cN (a * b) = cN a * cN b := by show (((a * b : Nat) : Int) : Rat) = _; rw [Int.natCast_mul, cast_mul]
theorem Gz.bd {D M k : Nat} {r : Rat} (h : Gz D M r) (hD : 0 < D) (h1 : D < 2 ^ k) (h2 : M < 2 ^ k) : Bd k r := by
  obtain ⟨a, ha, hM⟩ := h
  have hDp : (0 : Rat) < cN D := Rat.intCast_pos.mpr (by omega)
  have hDn : cN D ≠ 0 := Rat.ne_of_gt hDp
  have e : r = (a : Rat) / ((D : Int) : Rat) := by rw [← ha]; show r = r * cN D / cN D; grind
  have h3 := den_div a (b := (D : Int)) (by omega)
  have h4 := num_div a (b := (D : Int)) (by omega)
  rw [← e] at h3 h4
  have h5 := natAbs_div_le (D : Int) (Nat.gcd a.natAbs ((D : Int)).toNat)
  have h6 := natAbs_div_le a (Nat.gcd a.natAbs ((D : Int)).toNat)
  refine ⟨?_, ?_⟩
  · rw [h4]; exact Nat.lt_of_le_of_lt (Nat.le_trans h6 hM) h2
  · omega
theorem Gz.mono {D M M' : Nat} {r : Rat} (h : Gz D M r) (hl : M ≤ M') : Gz D M' r := by
  obtain ⟨z, h1, h2⟩ := h
  exact ⟨z, h1, Nat.le_trans h2 hl⟩
theorem Gz.scale {D M : Nat} {r : Rat} (h : Gz D M r) (k : Nat) : Gz (D * k) (M * k) r := by
  obtain ⟨z, h1, h2⟩ := h
  refine ⟨z * k, by rw [cN_mul, cast_mul, ← h1]; grind, ?_⟩
  rw [Int.natAbs_mul, Int.natAbs_natCast]; exact Nat.mul_le_mul_right k h2
theorem Gz.add {D M M' : Nat} {r s : Rat} (h : Gz D M r) (h' : Gz D M' s) : Gz D (M + M') (r + s) := by
  obtain ⟨z, h1, h2⟩ := h
  obtain ⟨y, h3, h4⟩ := h'
  exact ⟨z + y, by rw [Rat.intCast_add, ← h1, ← h3]; grind, by omega⟩
theorem Gz.sub {D M M' : Nat} {r s : Rat} (h : Gz D M r) (h' : Gz D M' s) : Gz D (M + M') (r - s) := by
  obtain ⟨z, h1, h2⟩ := h
  obtain ⟨y, h3, h4⟩ := h'
  exact ⟨z - y, by rw [Rat.intCast_sub, ← h1, ← h3]; grind, by omega⟩
theorem Gz.mul {D D' M M' : Nat} {r s : Rat} (h : Gz D M r) (h' : Gz D' M' s) : Gz (D * D') (M * M') (r * s) := by
  obtain ⟨z, h1, h2⟩ := h
  obtain ⟨y, h3, h4⟩ := h'
  exact ⟨z * y, by rw [cast_mul, ← h1, ← h3, cN_mul]; grind, by rw [Int.natAbs_mul]; exact Nat.mul_le_mul h2 h4⟩
theorem Gz.zero (D : Nat) : Gz D 0 0 := ⟨0, by grind, by decide⟩
theorem Gz.one : Gz 1 1 1 := ⟨1, by decide +kernel, by decide⟩
theorem Gz.sumTake {D M : Nat} {xs : List Rat} (h : ∀ x ∈ xs, Gz D M x) : ∀ i, i ≤ xs.length → Gz D (i * M) (xs.take i).sum
  | 0, _ => by simpa using Gz.zero D
  | i + 1, hi => by
    have e : xs[i]? = some xs[i] := List.getElem?_eq_getElem (by omega)
    rw [sum_take_succ e, Nat.succ_mul]
    exact (Gz.sumTake h i (by omega)).add (h _ (List.getElem_mem _))
theorem Gz.take {D M : Nat} {xs : List Rat} (h : ∀ x ∈ xs, Gz D M x) (i : Nat) : Gz D (xs.length * M) (xs.take i).sum := by
  by_cases hi : i ≤ xs.length
  · exact (Gz.sumTake h i hi).mono (Nat.mul_le_mul_right M hi)
  · rw [List.take_of_length_le (by omega)]
    have := Gz.sumTake h xs.length (Nat.le_refl _)
    rwa [List.take_length] at this
theorem Gz.sum {D M : Nat} {xs : List Rat} (h : ∀ x ∈ xs, Gz D M x) : Gz D (xs.length * M) xs.sum := by
  have := Gz.take h xs.length
  rwa [List.take_length] at this
/-- the shares as whole numbers of E-ths -/
theorem ld_nat {L : Lad} {E : Nat} (h : Lst L) (hp : ∀ x ∈ L, 0 < x.1 ∧ 0 < x.2) (hE : LD E L) (h0 : 0 < E) {x : Rat × Rat} (hx : x ∈ L) : ∃ p q : Nat, 0 < p ∧ p ≤ E ∧ q ≤ E ∧ x.1 * cN E = cN p ∧ x.2 * cN E = cN q := by
  obtain ⟨⟨a, ha⟩, b, hb⟩ := hE x hx
  obtain ⟨h1, h2, h3⟩ := h.sh x hx
  obtain ⟨p1, p2⟩ := hp x hx
  have hEn : (0 : Rat) ≤ cN E := by have : ((0 : Int) : Rat) ≤ ((E : Int) : Rat) := Rat.intCast_le_intCast.mpr (by omega); exact this
  have l1 : (a : Rat) ≤ ((E : Int) : Rat) := by
    rw [← ha]
    have := Rat.mul_le_mul_of_nonneg_right (show x.1 ≤ 1 by grind) hEn
    rwa [Rat.one_mul] at this
  have l2 : (b : Rat) ≤ ((E : Int) : Rat) := by
    rw [← hb]
    have := Rat.mul_le_mul_of_nonneg_right (show x.2 ≤ 1 by grind) hEn
    rwa [Rat.one_mul] at this
  have g1 : ((0 : Int) : Rat) ≤ (a : Rat) := by rw [← ha]; exact Rat.mul_nonneg h1 hEn
  have g2 : ((0 : Int) : Rat) ≤ (b : Rat) := by rw [← hb]; exact Rat.mul_nonneg h2 hEn
  have i1 := Rat.intCast_le_intCast.mp l1
  have i2 := Rat.intCast_le_intCast.mp l2
  have i3 := Rat.intCast_le_intCast.mp g1
  have i4 := Rat.intCast_le_intCast.mp g2
  have e1 : cN a.toNat = (a : Rat) := by show ((a.toNat : Int) : Rat) = _; rw [Int.toNat_of_nonneg i3]
  have e2 : cN b.toNat = (b : Rat) := by show ((b.toNat : Int) : Rat) = _; rw [Int.toNat_of_nonneg i4]
  have hE0 : E ≠ 0 ∨ E = 0 := by omega
  have i5 : a ≠ 0 ∨ a = 0 := by omega
  refine ⟨a.toNat, b.toNat, ?_, by omega, by omega, by rw [e1]; exact ha, by rw [e2]; exact hb⟩
  have : (0 : Rat) < (a : Rat) := by rw [← ha]; exact Rat.mul_pos p1 (Rat.intCast_pos.mpr (by omega))
  have := Rat.intCast_pos.mp this
  omega
/-- each rung in its own parts -/
def LDR (E : Nat) (L : Lad) : Prop := ∀ x ∈ L, ∃ e : Nat, 0 < e ∧ e ≤ E ∧ (∃ a : Int, x.1 * ((e : Int) : Rat) = (a : Rat)) ∧ ∃ a : Int, x.2 * ((e : Int) : Rat) = (a : Rat)
theorem LD.r {E : Nat} {L : Lad} (h : LD E L) (h0 : 0 < E) : LDR E L := fun x hx => ⟨E, h0, Nat.le_refl _, (h x hx).1, (h x hx).2⟩
theorem rep_step {L : Lad} {E : Nat} (h0 : 0 < E) : Lst L → (∀ x ∈ L, 0 < x.1 ∧ 0 < x.2) → LDR E L → ∃ P : Nat, 0 < P ∧ P ≤ E ^ L.length ∧
    (∀ (D M : Nat) (p : Rat), Gz D M p → ∀ y ∈ prodsFrom p (qs L), Gz (D * P) (M * E ^ L.length) y) ∧
    (∀ (D M : Nat) (b : Rat), Gz D M b → ∀ y ∈ othFrom b L, Gz (D * P) (M * E ^ L.length + D * (L.length * E ^ L.length)) y) := by
  induction L with
  | nil =>
    intro _ _ _
    refine ⟨1, by decide, Nat.le_refl 1, fun D M p hp y hy => ?_, fun D M b hb y hy => ?_⟩
    · have e : y = p := by simpa [prodsFrom, qs] using hy
      rw [e, Nat.mul_one]; exact hp.mono (by show M ≤ M * 1; omega)
    · have e : y = b := by simpa [othFrom] using hy
      rw [e, Nat.mul_one]; exact hb.mono (by show M ≤ M * 1 + _; omega)
  | cons x r ih =>
    intro hs hp hE
    obtain ⟨P, hP0, hP1, ih1, ih2⟩ := ih ⟨fun y hy => hs.sh y (List.mem_cons_of_mem _ hy)⟩ (fun y hy => hp y (List.mem_cons_of_mem _ hy)) (fun y hy => hE y (List.mem_cons_of_mem _ hy))
    obtain ⟨e0, he0, heE, hia, hib⟩ := hE x List.mem_cons_self
    obtain ⟨p, q, p0, p1', q1', ep, eq⟩ := ld_nat (L := [x]) (E := e0) ⟨fun y hy => hs.sh y (by rw [List.mem_singleton.mp hy]; exact List.mem_cons_self)⟩ (fun y hy => hp y (by rw [List.mem_singleton.mp hy]; exact List.mem_cons_self)) (fun y hy => by rw [List.mem_singleton.mp hy]; exact ⟨hia, hib⟩) he0 List.mem_cons_self
    have p1 : p ≤ E := Nat.le_trans p1' heE
    have q1 : q ≤ E := Nat.le_trans q1' heE
    obtain ⟨x1, x2⟩ := hp x List.mem_cons_self
    have hpn : cN p ≠ 0 := Rat.ne_of_gt (Rat.intCast_pos.mpr (by omega))
    have hEn : cN e0 ≠ 0 := Rat.ne_of_gt (Rat.intCast_pos.mpr (by omega))
    have hx1 : x.1 ≠ 0 := Rat.ne_of_gt x1
    have hlen : E ^ (x :: r).length = E ^ r.length * E := Nat.pow_succ _ _
    have hpP : p * P ≤ E ^ (x :: r).length := by
      rw [hlen, Nat.mul_comm]; exact Nat.mul_le_mul hP1 p1
    refine ⟨p * P, Nat.mul_pos p0 hP0, hpP, fun D M a ha y hy => ?_, fun D M b hb y hy => ?_⟩
    · rcases List.mem_cons.mp (show y ∈ a :: prodsFrom (a * (x.2 / x.1)) (qs r) from hy) with e | hy
      · rw [e]
        exact (ha.scale (p * P)).mono (Nat.mul_le_mul_left M hpP)
      · have hq : Gz (D * p) (M * q) (a * (x.2 / x.1)) := by
          obtain ⟨z, h1, h2⟩ := ha
          refine ⟨z * q, ?_, ?_⟩
          · rw [cast_mul, ← h1, cN_mul]
            show a * (x.2 / x.1) * (cN D * cN p) = a * cN D * cN q
            rw [← ep, ← eq]; grind
          · rw [Int.natAbs_mul, Int.natAbs_natCast]; exact Nat.mul_le_mul_right q h2
        have := ih1 _ _ _ hq y hy
        rw [Nat.mul_assoc] at this
        refine this.mono ?_
        rw [hlen, Nat.mul_assoc, Nat.mul_comm q]
        exact Nat.mul_le_mul_left M (Nat.mul_le_mul_left _ q1)
    · rcases List.mem_cons.mp (show y ∈ b :: othFrom ((x.2 * b + 1) / x.1) r from hy) with e | hy
      · rw [e]
        exact (hb.scale (p * P)).mono (Nat.le_trans (Nat.mul_le_mul_left M hpP) (Nat.le_add_right _ _))
      · have hq : Gz (D * p) (M * q + D * E) ((x.2 * b + 1) / x.1) := by
          obtain ⟨z, h1, h2⟩ := hb
          refine ⟨z * q + D * e0, ?_, ?_⟩
          · rw [Rat.intCast_add, cast_mul, cast_mul, ← h1, cN_mul]
            show (x.2 * b + 1) / x.1 * (cN D * cN p) = b * cN D * cN q + cN D * cN e0
            rw [← ep, ← eq]; grind
          · have e1 : (z * (q : Int)).natAbs ≤ M * q := by rw [Int.natAbs_mul, Int.natAbs_natCast]; exact Nat.mul_le_mul_right q h2
            have e2 : ((D : Int) * (e0 : Int)).natAbs = D * e0 := by rw [Int.natAbs_mul, Int.natAbs_natCast, Int.natAbs_natCast]
            have e3 : D * e0 ≤ D * E := Nat.mul_le_mul_left D heE
            omega
        have := ih2 _ _ _ hq y hy
        rw [Nat.mul_assoc] at this
        refine this.mono ?_
        have b1 : M * q * E ^ r.length ≤ M * E ^ (x :: r).length := by
          rw [hlen, Nat.mul_assoc, Nat.mul_comm q]
          exact Nat.mul_le_mul_left M (Nat.mul_le_mul_left _ q1)
        have b2 : D * E * E ^ r.length = D * E ^ (x :: r).length := by rw [hlen, Nat.mul_assoc, Nat.mul_comm E]
        have b3 : D * p * (r.length * E ^ r.length) ≤ D * (r.length * E ^ (x :: r).length) := by
          rw [hlen, Nat.mul_assoc]
          refine Nat.mul_le_mul_left D ?_
          rw [Nat.mul_comm p, Nat.mul_assoc]
          exact Nat.mul_le_mul_left _ (Nat.mul_le_mul_left _ p1)
        have b4 : D * ((x :: r).length * E ^ (x :: r).length) = D * E ^ (x :: r).length + D * (r.length * E ^ (x :: r).length) := by
          rw [show (x :: r).length = r.length + 1 from rfl, Nat.succ_mul, Nat.mul_add]; omega
        rw [Nat.add_mul, b2, b4]
        omega
/-- ladders whose shares are told in at most 36ths -/
structure Sz (L : Lad) : Prop where
  lw : Lw L
  st : Lst L
  ge : ∃ E : Nat, 0 < E ∧ E ≤ 36 ∧ LDR E L
theorem GL.sz {L : Lad} (g : GL L) (h : L.length ≤ 8) : Sz L := ⟨(g.ok h).lw, (g.ok h).st, 12, by decide, by decide, g.ld.r (by decide)⟩
theorem Sz.rep {L : Lad} (h : Sz L) : ∃ P N : Nat, 0 < P ∧ P ≤ 2821109907456 ∧ 0 < N ∧ N ≤ 25389989167104 ∧ (prods (qs L)).sum * cN P = cN N ∧ (∀ a ∈ prods (qs L), Gz P 2821109907456 a) ∧ (∀ b ∈ oth L, Gz P 22568879259648 b) := by
  obtain ⟨E, h0, h1, hE⟩ := h.ge
  have hl := h.lw.le
  obtain ⟨P, p0, p1, a1, a2⟩ := rep_step h0 h.st h.lw.pos hE
  have hEl : E ^ L.length ≤ 2821109907456 := Nat.le_trans (Nat.pow_le_pow_left h1 _) (Nat.le_trans (Nat.pow_le_pow_right (by decide) hl) (by decide))
  have b1 : ∀ a ∈ prods (qs L), Gz P 2821109907456 a := fun a ha => by
    have := a1 1 1 1 Gz.one a ha
    rw [Nat.one_mul, Nat.one_mul] at this
    exact this.mono hEl
  have b2 : ∀ b ∈ oth L, Gz P 22568879259648 b := fun b hb => by
    have := a2 1 0 0 (Gz.zero 1) b hb
    rw [Nat.one_mul, Nat.one_mul, Nat.zero_mul, Nat.zero_add] at this
    exact this.mono (Nat.le_trans (Nat.mul_le_mul hl hEl) (by decide))
  have b3 := Gz.sum b1
  rw [prods_len, qs_len] at b3
  obtain ⟨z, hz, hzM⟩ := b3
  have hS := prods_sum_pos h.lw
  have hzp : (0 : Rat) < (z : Rat) := by rw [← hz]; exact Rat.mul_pos hS (Rat.intCast_pos.mpr (by omega))
  have hzp := Rat.intCast_pos.mp hzp
  have hzM2 : z.natAbs ≤ 9 * 2821109907456 := Nat.le_trans hzM (Nat.mul_le_mul_right _ (by omega))
  refine ⟨P, z.toNat, p0, Nat.le_trans p1 hEl, by omega, by omega, ?_, b1, b2⟩
  rw [hz]
  show (z : Rat) = ((z.toNat : Int) : Rat)
  rw [Int.toNat_of_nonneg (by omega)]
/-- what is over the whole sum -/
theorem Gz.over {P N M : Nat} {S A : Rat} (hN : 0 < N) (hP : 0 < P) (hS : S * cN P = cN N) (h : Gz P M A) : Gz N M (A / S) := by
  obtain ⟨z, h1, h2⟩ := h
  refine ⟨z, ?_, h2⟩
  have hPn : cN P ≠ 0 := Rat.ne_of_gt (Rat.intCast_pos.mpr (by omega))
  have hNn : cN N ≠ 0 := Rat.ne_of_gt (Rat.intCast_pos.mpr (by omega))
  have hSn : S ≠ 0 := by intro e; rw [e] at hS; grind
  rw [← hS, ← h1]; grind
structure Szb (L : Lad) (P N : Nat) : Prop where
  p0 : 0 < P
  p1 : P ≤ 2821109907456
  n0 : 0 < N
  n1 : N ≤ 25389989167104
  eq : (prods (qs L)).sum * cN P = cN N
  a : ∀ a ∈ prods (qs L), Gz P 2821109907456 a
  b : ∀ b ∈ oth L, Gz P 22568879259648 b
  A : ∀ r, Gz P 25389989167104 ((prods (qs L)).take r).sum
  B : ∀ r, Gz P 203119913336832 ((oth L).take r).sum
  S : Gz P 25389989167104 (prods (qs L)).sum
  Y : Gz P 203119913336832 (oth L).sum
  F : Gz N 203119913336832 (mF L)
  h : ∀ r, Gz N 25389989167104 (hB L r)
  m : ∀ r, Gz (P * N) (25389989167104 * 203119913336832 + 203119913336832 * 25389989167104) (mM L r)
theorem Sz.szb {L : Lad} (h : Sz L) : ∃ P N, Szb L P N := by
  obtain ⟨P, N, p0, p1, n0, n1, e, a, b⟩ := h.rep
  have hl := h.lw.le
  have hA : ∀ r, Gz P 25389989167104 ((prods (qs L)).take r).sum := fun r => (Gz.take a r).mono (by rw [prods_len, qs_len]; omega)
  have hBB : ∀ r, Gz P 203119913336832 ((oth L).take r).sum := fun r => (Gz.take b r).mono (by rw [oth_len]; omega)
  have hS : Gz P 25389989167104 (prods (qs L)).sum := (Gz.sum a).mono (by rw [prods_len, qs_len]; omega)
  have hY : Gz P 203119913336832 (oth L).sum := (Gz.sum b).mono (by rw [oth_len]; omega)
  have hF : Gz N 203119913336832 (mF L) := Gz.over n0 p0 e hY
  refine ⟨P, N, p0, p1, n0, n1, e, a, b, hA, hBB, hS, hY, hF, fun r => Gz.over n0 p0 e (hA r), fun r => ?_⟩
  exact (((hA r).mul hF).sub ((hBB r).scale N)).mono (Nat.add_le_add_left (Nat.mul_le_mul_left _ n1) _)
section
variable {L : Lad}
theorem Sz.hBd (h : Sz L) (r : Nat) : Bd 50 (hB L r) := by
  obtain ⟨P, N, z⟩ := h.szb
  have := z.n1
  exact (z.h r).bd z.n0 (by omega) (by decide)
theorem Sz.mBd (h : Sz L) (r : Nat) : Bd 100 (mM L r) := by
  obtain ⟨P, N, z⟩ := h.szb
  exact (z.m r).bd (Nat.mul_pos z.p0 z.n0) (Nat.lt_of_le_of_lt (Nat.mul_le_mul z.p1 z.n1) (by decide)) (by decide)
end
end LW

namespace LW
open PySem PySem.Spec PyProof.Rows L2
section
variable {L : Lad}
theorem Sz.aBd (h : Sz L) : ∀ a ∈ prods (qs L), Bd 50 a := fun a ha => by
  obtain ⟨P, N, z⟩ := h.szb
  have := z.p1
  exact (z.a a ha).bd z.p0 (by omega) (by decide)
theorem Sz.bBd (h : Sz L) : ∀ a ∈ oth L, Bd 50 a := fun a ha => by
  obtain ⟨P, N, z⟩ := h.szb
  have := z.p1
  exact (z.b a ha).bd z.p0 (by omega) (by decide)
theorem Sz.SBd (h : Sz L) : Bd 50 (prods (qs L)).sum := by
  obtain ⟨P, N, z⟩ := h.szb
  have := z.p1
  exact z.S.bd z.p0 (by omega) (by decide)
theorem Sz.YBd (h : Sz L) : Bd 50 (oth L).sum := by
  obtain ⟨P, N, z⟩ := h.szb
  have := z.p1
  exact z.Y.bd z.p0 (by omega) (by decide)
theorem Sz.FBd (h : Sz L) : Bd 50 (mF L) := by
  obtain ⟨P, N, z⟩ := h.szb
  have := z.n1
  exact z.F.bd z.n0 (by omega) (by decide)
end
theorem zipD_map {α β : Type} {xs : List α} {ys : List β} {f : α → PyData} {g : β → PyData} : zipD (xs.map f) (ys.map g) = (xs.zip ys).map fun q => PyData.tuple [f q.1, g q.2] := by
  unfold zipD
  rw [List.zipWith_map, List.zip, List.map_zipWith]
theorem zip_get {α β : Type} {xs : List α} {ys : List β} {i : Nat} {q : α × β} (h : (xs.zip ys)[i]? = some q) : xs[i]? = some q.1 ∧ ys[i]? = some q.2 := by
  rw [List.getElem?_zip_eq_some] at h
  exact h
def R_means_of (ds : List PyData) (P : PyData → Prop) : Prop := ∃ L : Lad, ds = [encL L] ∧ Sz L ∧ P (.list ((mms L).map enc))
theorem S_means_of {L : Lad} {P : PyData → Prop} (h : Sz L) (p : P (.list ((mms L).map enc))) : R_means_of [encL L] P := ⟨L, rfl, h, p⟩
def R_all_mean_steps (ds : List PyData) (P : PyData → Prop) : Prop := ∃ L : Lad, ds = [encL L] ∧ Lok L ∧ Sz L ∧ P (.list ((mms L).map enc))
theorem S_all_mean_steps {L : Lad} {P : PyData → Prop} (h : Lok L) (hz : Sz L) (p : P (.list ((mms L).map enc))) : R_all_mean_steps [encL L] P := ⟨L, rfl, h, hz, p⟩
def R_mean_steps (ds : List PyData) (P : PyData → Prop) : Prop := ∃ (L : Lad) (r : Int), ds = [encL L, .int r] ∧ Lok L ∧ Sz L ∧ 0 ≤ r ∧ r ≤ L.length + 1 ∧ P (enc (mM L r.toNat))
theorem S_mean_steps {L : Lad} {r : Int} {P : PyData → Prop} (h : Lok L) (hz : Sz L) (h1 : 0 ≤ r) (h2 : r ≤ L.length + 1) (p : P (enc (mM L r.toNat))) : R_mean_steps [encL L, .int r] P := ⟨L, r, rfl, h, hz, h1, h2, p⟩
def R_longest_rung (ds : List PyData) (P : PyData → Prop) : Prop := ∃ L : Lad, ds = [encL L] ∧ Lok L ∧ Sz L ∧ ∀ b : Nat, b ≤ L.length + 1 → (∀ j, j ≤ L.length + 1 → mM L j ≤ mM L b) → (∀ j, j < b → mM L j < mM L b) → P (.int (b : Nat))
theorem S_longest_rung {L : Lad} {P : PyData → Prop} (h : Lok L) (hz : Sz L) (p : ∀ b : Nat, b ≤ L.length + 1 → (∀ j, j ≤ L.length + 1 → mM L j ≤ mM L b) → (∀ j, j < b → mM L j < mM L b) → P (.int (b : Nat))) : R_longest_rung [encL L] P := ⟨L, rfl, h, hz, p⟩
def stayL (L : Lad) (r : Nat) : Rat := match L[r - 1]? with
  | some x => 1 / (x.1 + x.2)
  | none => 0
def R_mean_stay (ds : List PyData) (P : PyData → Prop) : Prop := ∃ (L : Lad) (r : Int), ds = [encL L, .int r] ∧ Lok L ∧ 1 ≤ r ∧ r ≤ L.length ∧ P (enc (stayL L r.toNat))
theorem S_mean_stay {L : Lad} {r : Int} {P : PyData → Prop} (h : Lok L) (h1 : 1 ≤ r) (h2 : r ≤ L.length) (p : P (enc (stayL L r.toNat))) : R_mean_stay [encL L, .int r] P := ⟨L, r, rfl, h, h1, h2, p⟩
section
variable {K : PySem.W.Frag} {P : PyData → Prop}
theorem rp_neNilN {xs : List Nat} (p : P (.bool (!xs.isEmpty))) : RP (rNeD K) (.list (xs.map natD)) (.list []) P := rp_ne (shaped_nats _) rfl (by rw [eqv_nil, List.isEmpty_map]; exact p)
end
theorem enc_inv {w : Rat} (h : 0 < w) : PyData.tuple [.int (w.den : Int), .int w.num] = enc (1 / w) := by
  have hn := num_pos h
  have e := enc_frac (a := (w.den : Int)) (b := w.num) hn (by
    have := w.reduced
    rw [Int.natAbs_natCast, Nat.gcd_comm]
    have e : w.num.toNat = w.num.natAbs := by omega
    rw [e]; exact this)
  rw [e]
  congr 1
  have h3 := den_ne w
  have h4 := rat_eq w
  have hnn : ((w.num : Int) : Rat) ≠ 0 := Rat.ne_of_gt (Rat.intCast_pos.mpr hn)
  generalize ((w.den : Int) : Rat) = a at *
  generalize ((w.num : Int) : Rat) = b at *
  rw [h4]; grind
/-- what has not ended after t steps, with the mean steps to come -/
theorem near_step {L : Lad} (h : Lw L) (k t : Nat) : sumR (L.length + 2) (fun j => aft L k (t + 1) j * mM L j) + sumR L.length (fun i => aft L k t (i + 1)) = sumR (L.length + 2) fun j => aft L k t j * mM L j := by
  rw [aft_exp]
  have e : ∀ r, r < L.length + 2 → aft L k t r * (sumR (L.length + 2) fun j => TL L r j * mM L j) = aft L k t r * mM L r - (if r = 0 ∨ L.length < r then 0 else aft L k t r) := fun r hr => by
    by_cases he : r = 0 ∨ L.length < r
    · rw [TL_sumE he hr, if_pos he]; grind
    · obtain ⟨s, rfl⟩ : ∃ s, r = s + 1 := ⟨r - 1, by omega⟩
      have hx : L[s]? = some L[s] := List.getElem?_eq_getElem (by omega)
      rw [TL_sum hx, if_neg he]
      have := mM_step h hx
      generalize L[s] = x at *
      have e2 : x.1 * mM L (s + 2) + x.2 * mM L s + (1 - (x.1 + x.2)) * mM L (s + 1) = mM L (s + 1) - 1 := by grind
      rw [e2]; grind
  rw [sumR_congr e, sumR_sub]
  have e3 : sumR (L.length + 2) (fun r => if r = 0 ∨ L.length < r then 0 else aft L k t r) = sumR L.length fun i => aft L k t (i + 1) := by
    show sumR (L.length + 1) _ + (if L.length + 1 = 0 ∨ L.length < L.length + 1 then 0 else aft L k t (L.length + 1)) = _
    rw [if_pos (by omega), sumR_succ', if_pos (by omega)]
    rw [sumR_congr (g := fun i => aft L k t (i + 1)) fun i hi => by rw [if_neg (by omega)]]
    grind
  rw [e3]; grind
theorem near_le {L : Lad} (h : Lw L) (hs : Lst L) {k : Nat} (hk : k < L.length + 2) (n : Nat) : sumR n (fun t => sumR L.length fun i => aft L k t (i + 1)) ≤ mM L k := by
  have e : ∀ n, sumR n (fun t => sumR L.length fun i => aft L k t (i + 1)) + sumR (L.length + 2) (fun j => aft L k n j * mM L j) = mM L k := fun n => by
    induction n with
    | zero =>
      show 0 + _ = _
      rw [sumR_one (k := k) hk fun i hi hn => by rw [aft_zero hi, if_neg hn]; grind, aft_zero hk, if_pos rfl]; grind
    | succ n ih =>
      show (sumR n _ + _) + _ = _
      rw [← ih, ← near_step h k n]; grind
  have h2 : 0 ≤ sumR (L.length + 2) (fun j => aft L k n j * mM L j) := sumR_nonneg fun j hj => Rat.mul_nonneg (aft_nonneg hs k n j hj) (mM_nonneg h j (by omega))
  have := e n
  grind
theorem inner_list (L : Lad) (k t : Nat) : ((afterL L k t).take (L.length + 1)).drop 1 = (List.range L.length).map fun i => aft L k t (i + 1) := by
  rw [afterL_eq, ← List.map_take, List.take_range, Nat.min_eq_left (by omega), List.range_succ_eq_map, List.map_cons, List.drop_succ_cons, List.drop_zero, List.map_map]
  rfl
end LW

namespace LW
open PySem PySem.Spec PyProof.Rows L2
/-! ### the ladder turned over -/
def turn (L : Lad) : Lad := (L.map fun x => (x.2, x.1)).reverse
theorem turn_len (L : Lad) : (turn L).length = L.length := by unfold turn; rw [List.length_reverse, List.length_map]
theorem turn_get {L : Lad} {s : Nat} {x : Rat × Rat} (h : L[s]? = some x) : (turn L)[L.length - 1 - s]? = some (x.2, x.1) := by
  have hs := (List.getElem?_eq_some_iff.mp h).1
  unfold turn
  rw [List.getElem?_reverse (by rw [List.length_map]; omega), List.length_map, show L.length - 1 - (L.length - 1 - s) = s by omega, List.getElem?_map, h]; rfl
theorem turn_mem {L : Lad} {y : Rat × Rat} (h : y ∈ turn L) : (y.2, y.1) ∈ L := by
  unfold turn at h
  obtain ⟨x, hx, rfl⟩ := List.mem_map.mp (List.mem_reverse.mp h)
  exact hx
theorem turn_turn (L : Lad) : turn (turn L) = L := by
  unfold turn
  rw [List.map_reverse, List.reverse_reverse, List.map_map]
  exact List.map_id _
theorem Lok.turn {L : Lad} (h : Lok L) : Lok (turn L) := ⟨by rw [turn_len]; exact h.ge, by rw [turn_len]; exact h.le, fun x hx => by
  have := h.sh _ (turn_mem hx)
  exact ⟨this.2.1, this.1, by have := this.2.2; grind⟩⟩
theorem LD.turn {E : Nat} {L : Lad} (h : LD E L) : LD E (turn L) := fun x hx => by
  have := h _ (turn_mem hx)
  exact ⟨this.2, this.1⟩
theorem TL_turn {L : Lad} {r j : Nat} (hr : r ≤ L.length + 1) (hj : j ≤ L.length + 1) : TL (turn L) (L.length + 1 - r) (L.length + 1 - j) = TL L r j := by
  by_cases he : r = 0 ∨ L.length < r
  · rw [TL_end he, TL_end (by rw [turn_len]; omega)]
    by_cases e : j = r
    · rw [if_pos e, if_pos (by omega)]
    · rw [if_neg e, if_neg (by omega)]
  · obtain ⟨s, rfl⟩ : ∃ s, r = s + 1 := ⟨r - 1, by omega⟩
    have hx : L[s]? = some L[s] := List.getElem?_eq_getElem (by omega)
    generalize L[s] = x at hx
    have hy := turn_get hx
    rw [show L.length + 1 - (s + 1) = L.length - 1 - s + 1 by omega, TL_in hy, TL_in hx]
    by_cases h1 : j = s + 2
    · rw [if_pos h1, if_neg (by omega), if_pos (by omega)]
    · rw [if_neg h1]
      by_cases h2 : j = s
      · rw [if_pos h2, if_pos (by omega)]
      · rw [if_neg h2, if_neg (by omega), if_neg (by omega)]
        by_cases h3 : j = s + 1
        · rw [if_pos h3, if_pos (by omega)]; grind
        · rw [if_neg h3, if_neg (by omega)]
theorem aft_turn {L : Lad} {r : Nat} (hr : r ≤ L.length + 1) (t : Nat) : ∀ j, j ≤ L.length + 1 → aft (turn L) (L.length + 1 - r) t (L.length + 1 - j) = aft L r t j := by
  induction t with
  | zero =>
    intro j hj
    rw [aft_zero (by rw [turn_len]; omega), aft_zero (by omega)]
    by_cases e : j = r
    · rw [if_pos e, if_pos (by omega)]
    · rw [if_neg e, if_neg (by omega)]
  | succ t ih =>
    intro j hj
    rw [aft_succ (by rw [turn_len]; omega), aft_succ (by omega), turn_len, ← sumR_rev]
    refine sumR_congr fun q hq => ?_
    show aft (turn L) (L.length + 1 - r) t (L.length + 2 - 1 - q) * TL (turn L) (L.length + 2 - 1 - q) (L.length + 1 - j) = _
    rw [show L.length + 2 - 1 - q = L.length + 1 - q by omega, ih q (by omega), TL_turn (by omega) hj]
theorem afterL_turn {L : Lad} {r : Nat} (hr : r ≤ L.length + 1) (t : Nat) : afterL (turn L) (L.length + 1 - r) t = (afterL L r t).reverse := by
  apply List.ext_getElem?
  intro i
  by_cases hi : i < L.length + 2
  · rw [List.getElem?_reverse (by rw [afterL_len]; omega), afterL_len, aft_get (by rw [turn_len]; omega), aft_get (by omega)]
    have := aft_turn hr t (L.length + 1 - i) (by omega)
    rw [show L.length + 1 - (L.length + 1 - i) = i by omega] at this
    rw [this]; congr 2
  · rw [List.getElem?_eq_none (by rw [afterL_len, turn_len]; omega), List.getElem?_eq_none (by rw [List.length_reverse, afterL_len]; omega)]
/-! ### steps after steps -/
theorem aft_add {L : Lad} {r : Nat} (hr : r < L.length + 2) (n m : Nat) : ∀ k, k < L.length + 2 → aft L r (n + m) k = sumR (L.length + 2) fun o => aft L r n o * aft L o m k := by
  induction m with
  | zero =>
    intro k hk
    rw [sumR_one (k := k) hk fun i hi hn => by rw [aft_zero hk, if_neg (fun e => hn e.symm)]; grind, aft_zero hk, if_pos rfl, Nat.add_zero]; grind
  | succ m ih =>
    intro k hk
    show aft L r (n + m + 1) k = _
    rw [aft_succ hk, sumR_congr fun q hq => by rw [ih q hq, ← sumR_mulr], sumR_comm]
    refine sumR_congr fun o ho => ?_
    rw [aft_succ hk, ← sumR_mul]
    exact sumR_congr fun q _ => by grind
/-- the chance of the top is the same after steps -/
theorem aft_hB {L : Lad} (h : Lw L) {r : Nat} (hr : r < L.length + 2) (t : Nat) : sumR (L.length + 2) (fun j => aft L r t j * hB L j) = hB L r := by
  induction t with
  | zero => rw [sumR_one (k := r) hr fun i hi hn => by rw [aft_zero hi, if_neg hn]; grind, aft_zero hr, if_pos rfl]; grind
  | succ t ih =>
    rw [aft_exp]
    refine Eq.trans (sumR_congr fun q hq => ?_) ih
    congr 1
    by_cases he : q = 0 ∨ L.length < q
    · exact TL_sumE he hq _
    · obtain ⟨s, rfl⟩ : ∃ s, q = s + 1 := ⟨q - 1, by omega⟩
      have hx : L[s]? = some L[s] := List.getElem?_eq_getElem (by omega)
      rw [TL_sum hx]
      exact hB_step h hx
theorem hB_nonneg {L : Lad} (h : Lw L) : ∀ r, r ≤ L.length + 1 → 0 ≤ hB L r := by
  intro r
  induction r with
  | zero => intro _; rw [hB_zero]; exact Rat.le_refl
  | succ r ih => intro hr; have := ih (by omega); have := hB_lt h (r := r) (by omega); grind
theorem aft_top_le {L : Lad} (h : Lw L) (hs : Lst L) {r : Nat} (hr : r < L.length + 2) (t : Nat) : aft L r t (L.length + 1) ≤ hB L r := by
  rw [← aft_hB h hr t]
  have := le_sumR (n := L.length + 2) (k := L.length + 1) (f := fun j => aft L r t j * hB L j) (by omega) fun i hi => Rat.mul_nonneg (aft_nonneg hs r t i hi) (hB_nonneg h i (by omega))
  have e : aft L r t (L.length + 1) * hB L (L.length + 1) = aft L r t (L.length + 1) := by rw [hB_top h rfl]; grind
  rw [← e]; exact this
/-! ### how far it goes -/
theorem TL_far {L : Lad} {q j : Nat} (h : q + 1 < j ∨ j + 1 < q) : TL L q j = 0 := by
  by_cases he : q = 0 ∨ L.length < q
  · rw [TL_end he, if_neg (by omega)]
  · obtain ⟨s, rfl⟩ : ∃ s, q = s + 1 := ⟨q - 1, by omega⟩
    have hx : L[s]? = some L[s] := List.getElem?_eq_getElem (by omega)
    rw [TL_in hx, if_neg (by omega), if_neg (by omega), if_neg (by omega)]
theorem aft_far {L : Lad} {r : Nat} (t : Nat) : ∀ j, j < L.length + 2 → (r + t < j ∨ j + t < r) → aft L r t j = 0 := by
  induction t with
  | zero => intro j hj h; rw [aft_zero hj, if_neg (by omega)]
  | succ t ih =>
    intro j hj h
    rw [aft_succ hj]
    refine sumR_zero _ fun q hq => ?_
    by_cases hf : q + 1 < j ∨ j + 1 < q
    · rw [TL_far hf]; grind
    · rw [ih q hq (by omega)]; grind
theorem aft_up {L : Lad} (h : Lok L) {r : Nat} (h1 : 1 ≤ r) (t : Nat) : r + t ≤ L.length + 1 → 0 < aft L r t (r + t) := by
  induction t with
  | zero => intro hr; rw [aft_zero (by omega), if_pos (by omega)]; decide
  | succ t ih =>
    intro hr
    have ih := ih (by omega)
    rw [aft_succ (by omega)]
    have hl := le_sumR (n := L.length + 2) (k := r + t) (f := fun q => aft L r t q * TL L q (r + (t + 1))) (by omega) fun q hq => Rat.mul_nonneg (aft_nonneg h.st r t q hq) (TL_nonneg h.st q _)
    have hx : L[r + t - 1]? = some L[r + t - 1] := List.getElem?_eq_getElem (by omega)
    have hp := (h.sh _ (List.mem_of_getElem? hx)).1.pos
    have e : TL L (r + t) (r + (t + 1)) = L[r + t - 1].1 := by
      have := TL_in (j := r + (t + 1)) hx
      rw [show r + t - 1 + 1 = r + t by omega, if_pos (by omega)] at this
      exact this
    have hm := Rat.mul_pos ih hp
    have hl : aft L r t (r + t) * TL L (r + t) (r + (t + 1)) ≤ _ := hl
    rw [e] at hl
    grind
theorem aft_down {L : Lad} (h : Lok L) {r : Nat} (h1 : r ≤ L.length) (t : Nat) : t ≤ r → 0 < aft L r t (r - t) := by
  intro ht
  have := aft_up h.turn (r := L.length + 1 - r) (by omega) t (by rw [turn_len]; omega)
  rw [show L.length + 1 - r + t = L.length + 1 - (r - t) by omega, aft_turn (by omega) t _ (by omega)] at this
  exact this
/-! ### sums of ends -/
theorem sum_ends (L : Lad) (r n : Nat) : ((List.range (n + 1)).map (endsL L r)).sum = endedL L r n := by
  rw [sum_rng]
  induction n with
  | zero => show 0 + endsL L r 0 = _; unfold endsL; rw [if_pos rfl]; grind
  | succ n ih => show sumR (n + 1) _ + endsL L r (n + 1) = _; rw [ih]; unfold endsL; rw [if_neg (by omega), Nat.add_sub_cancel]; grind
theorem sum_tops (L : Lad) (r n : Nat) : ((List.range (n + 1)).map (topL L r)).sum = aft L r n (L.length + 1) := by
  rw [sum_rng]
  induction n with
  | zero => show 0 + topL L r 0 = _; unfold topL; rw [if_pos rfl]; grind
  | succ n ih => show sumR (n + 1) _ + topL L r (n + 1) = _; rw [ih]; unfold topL; rw [if_neg (by omega), Nat.add_sub_cancel]; grind
theorem tops_turn {L : Lad} {r : Nat} (hr : r ≤ L.length + 1) (k : Nat) : topL L r k + topL (turn L) (L.length + 1 - r) k = endsL L r k := by
  have e : ∀ t, aft (turn L) (L.length + 1 - r) t (L.length + 1) = aft L r t 0 := fun t => by
    have := aft_turn hr t 0 (by omega)
    rwa [Nat.sub_zero] at this
  unfold topL endsL endedL
  rw [turn_len]
  by_cases h : k = 0
  · subst h; rw [if_pos rfl, if_pos rfl, if_pos rfl, e]; grind
  · rw [if_neg h, if_neg h, if_neg h, e, e]; grind
theorem ends_far {L : Lad} {r k : Nat} (h1 : k < r) (h2 : r + k < L.length + 1) : endsL L r k = 0 := by
  unfold endsL endedL
  by_cases h : k = 0
  · subst h
    rw [if_pos rfl, aft_far 0 0 (by omega) (by omega), aft_far 0 _ (by omega) (by omega)]; grind
  · rw [if_neg h, aft_far k 0 (by omega) (by omega), aft_far k _ (by omega) (by omega), aft_far (k - 1) 0 (by omega) (by omega), aft_far (k - 1) _ (by omega) (by omega)]; grind
theorem ends_near {L : Lad} (h : Lok L) {r : Nat} (hr : r ≤ L.length + 1) {k : Nat} (hk : k = min r (L.length + 1 - r)) : endsL L r k ≠ 0 := by
  have hp : 0 < endsL L r k := by
    unfold endsL endedL
    have n1 := aft_nonneg h.st r k 0 (by omega)
    have n2 := aft_nonneg h.st r k (L.length + 1) (by omega)
    by_cases h0 : k = 0
    · subst h0
      rw [if_pos rfl, aft_zero (by omega), aft_zero (by omega)]
      by_cases e : r = 0
      · subst e; rw [if_pos rfl, if_neg (by omega)]; decide +kernel
      · rw [if_neg (by omega), if_pos (by omega)]; decide +kernel
    · rw [if_neg h0, aft_far (k - 1) 0 (by omega) (by omega), aft_far (k - 1) (L.length + 1) (by omega) (by omega)]
      by_cases e : k = r
      · have := aft_down h (r := r) (by omega) r (Nat.le_refl _)
        rw [Nat.sub_self, ← e] at this
        rw [← e] at n2 ⊢
        grind
      · have := aft_up h (r := r) (by omega) k (by omega)
        rw [show r + k = L.length + 1 by omega] at this
        grind
  exact Rat.ne_of_gt hp
/-! ### the likeliest, turned over -/
theorem range_turn (n : Nat) : ((List.range (n + 1)).map fun j => n - j).reverse = List.range (n + 1) := by
  apply List.ext_getElem?
  intro i
  by_cases hi : i < n + 1
  · rw [List.getElem?_reverse (by rw [List.length_map, List.length_range]; omega), List.length_map, List.length_range, List.getElem?_map, List.getElem?_range (by omega), List.getElem?_range hi]
    show some (n - (n + 1 - 1 - i)) = some i
    congr 1; omega
  · rw [List.getElem?_eq_none (by rw [List.length_reverse, List.length_map, List.length_range]; omega), List.getElem?_eq_none (by rw [List.length_range]; omega)]
theorem likeL_turn {L : Lad} {r : Nat} (hr : r ≤ L.length + 1) (t : Nat) : likeL (turn L) (L.length + 1 - r) t = ((likeL L r t).map fun j => L.length + 1 - j).reverse := by
  unfold likeL
  rw [turn_len]
  have e : List.range (L.length + 2) = ((List.range (L.length + 1 + 1)).map fun j => L.length + 1 - j).reverse := (range_turn (L.length + 1)).symm
  rw [e, List.filter_reverse, List.filter_map, ← e]
  congr 2
  refine List.filter_congr fun j hj => ?_
  have hj := List.mem_range.mp hj
  show (!((afterL (turn L) (L.length + 1 - r) t).any fun y => decide (aft (turn L) (L.length + 1 - r) t (L.length + 1 - j) < y))) = _
  rw [aft_turn hr t j (by omega), afterL_turn hr, List.any_reverse]
def R_turned_over (ds : List PyData) (P : PyData → Prop) : Prop := ∃ L : Lad, ds = [encL L] ∧ Lok L ∧ P (encL (turn L))
theorem S_turned_over {L : Lad} {P : PyData → Prop} (h : Lok L) (p : P (encL (turn L))) : R_turned_over [encL L] P := ⟨L, rfl, h, p⟩
def optD : Option Nat → PyData
  | none => .none
  | some a => .int (a : Int)
theorem rp_neNilE {K : PySem.W.Frag} {P : PyData → Prop} {xs : List Rat} (p : P (.bool (!xs.isEmpty))) : RP (rNeD K) (.list (xs.map enc)) (.list []) P := rp_ne (shaped_encs _) rfl (by rw [eqv_nil, List.isEmpty_map]; exact p)
end LW

namespace LW
open PySem PySem.Spec PyProof.Rows L2
/-! ### ever at a rung, visits -/
/-- the first k products, together -/
def pA (L : Lad) (k : Nat) : Rat := ((prods (qs L)).take k).sum
theorem pA_zero (L : Lad) : pA L 0 = 0 := by unfold pA; rw [List.take_zero, List.sum_nil]
theorem pA_succ {L : Lad} {k : Nat} {a : Rat} (h : (prods (qs L))[k]? = some a) : pA L (k + 1) = pA L k + a := by unfold pA; rw [sum_take_succ h]
theorem pA_top {L : Lad} {k : Nat} (h : L.length + 1 ≤ k) : pA L k = (prods (qs L)).sum := by unfold pA; rw [List.take_of_length_le (by rw [prods_len, qs_len]; omega)]
theorem prods_at {L : Lad} (h : Lw L) {k : Nat} (hk : k ≤ L.length) : ∃ a, 0 < a ∧ (prods (qs L))[k]? = some a := by
  have hp : k < (prods (qs L)).length := by rw [prods_len, qs_len]; omega
  exact ⟨_, prods_pos (qs_pos h) _ (List.getElem_mem hp), List.getElem?_eq_getElem hp⟩
theorem pA_lt {L : Lad} (h : Lw L) {k : Nat} (hk : k ≤ L.length) : pA L k < pA L (k + 1) := by
  obtain ⟨a, ha, e⟩ := prods_at h hk
  rw [pA_succ e]; grind
theorem pA_mono {L : Lad} (h : Lw L) {i j : Nat} (hij : i < j) (hj : j ≤ L.length + 1) : pA L i < pA L j := by
  induction j with
  | zero => omega
  | succ j ih =>
    have := pA_lt h (k := j) (by omega)
    by_cases e : i = j
    · subst e; exact this
    · have := ih (by omega) (by omega); grind
theorem pA_pos {L : Lad} (h : Lw L) {j : Nat} (h0 : 0 < j) (hj : j ≤ L.length + 1) : 0 < pA L j := by
  have := pA_mono h h0 hj
  rwa [pA_zero] at this
theorem hB_pA {L : Lad} (r : Nat) : hB L r = pA L r / pA L (L.length + 1) := by rw [pA_top (Nat.le_refl _)]; rfl
theorem pA_step {L : Lad} (h : Lw L) {r : Nat} {x : Rat × Rat} (hx : L[r]? = some x) : x.1 * (pA L (r + 2) - pA L (r + 1)) = x.2 * (pA L (r + 1) - pA L r) := by
  obtain ⟨a, ha, e1, e2⟩ := prods_step h hx
  have hn : x.1 ≠ 0 := Rat.ne_of_gt (h.sh x (List.mem_of_getElem? hx)).1
  rw [pA_succ e2, pA_succ e1]; grind
/-! parts of ladders -/
theorem prodsFrom_take : ∀ (xs : List Rat) (p : Rat) (m : Nat), prodsFrom p (xs.take m) = (prodsFrom p xs).take (m + 1)
  | [], p, m => by rw [List.take_nil]; show [p] = [p].take (m + 1); rw [List.take_of_length_le (by show 1 ≤ m + 1; omega)]
  | x :: xs, p, 0 => rfl
  | x :: xs, p, m + 1 => by
    show p :: prodsFrom (p * x) (xs.take m) = p :: (prodsFrom (p * x) xs).take (m + 1)
    rw [prodsFrom_take]
theorem prodsFrom_drop : ∀ (xs : List Rat) (p a : Rat) (o : Nat), (prodsFrom p xs)[o]? = some a → (prodsFrom p xs).drop o = prodsFrom a (xs.drop o)
  | xs, p, a, 0, h => by
    rw [prodsFrom_zero] at h
    cases h; rfl
  | [], p, a, o + 1, h => by simp [prodsFrom] at h
  | x :: xs, p, a, o + 1, h => prodsFrom_drop xs (p * x) a o h
theorem prodsFrom_mul : ∀ (xs : List Rat) (c p : Rat), prodsFrom (c * p) xs = (prodsFrom p xs).map (c * ·)
  | [], c, p => rfl
  | x :: xs, c, p => by
    show c * p :: prodsFrom (c * p * x) xs = c * p :: (prodsFrom (p * x) xs).map (c * ·)
    rw [← prodsFrom_mul xs c (p * x), Rat.mul_assoc]
theorem sum_map_mul (c : Rat) : ∀ xs : List Rat, (xs.map (c * ·)).sum = c * xs.sum
  | [] => by simp
  | x :: xs => by rw [List.map_cons, List.sum_cons, List.sum_cons, sum_map_mul c xs]; grind
theorem hB_take {L : Lad} {m r : Nat} (hm : m ≤ L.length) (hr : r ≤ m + 1) : hB (L.take m) r = pA L r / pA L (m + 1) := by
  unfold hB pA prods
  have e : qs (L.take m) = (qs L).take m := by unfold qs; rw [List.map_take]
  rw [e, prodsFrom_take, List.take_take, Nat.min_eq_left hr]
theorem hB_drop {L : Lad} (h : Lw L) {o k : Nat} (ho : o ≤ L.length) (hk : o + k ≤ L.length + 1) : hB (L.drop o) k = (pA L (o + k) - pA L o) / (pA L (L.length + 1) - pA L o) := by
  obtain ⟨a, ha, e⟩ := prods_at h ho
  have hn : a ≠ 0 := Rat.ne_of_gt ha
  have e1 : qs (L.drop o) = (qs L).drop o := by unfold qs; rw [List.map_drop]
  have e2 : (prods (qs L)).drop o = (prods ((qs L).drop o)).map (a * ·) := by
    unfold prods
    rw [prodsFrom_drop _ _ _ _ e, ← prodsFrom_mul, Rat.mul_one]
  have e3 : ∀ j, pA L (o + j) - pA L o = a * ((prods ((qs L).drop o)).take j).sum := fun j => by
    unfold pA
    rw [List.take_add, List.sum_append, e2, ← List.map_take, sum_map_mul]; grind
  have e4 : pA L (L.length + 1) - pA L o = a * (prods ((qs L).drop o)).sum := by
    have := e3 (L.length + 1 - o)
    rw [show o + (L.length + 1 - o) = L.length + 1 by omega, List.take_of_length_le (by rw [prods_len, List.length_drop, qs_len]; omega)] at this
    exact this
  unfold hB
  rw [e1, e3, e4]
  have hS : a * (prods ((qs L).drop o)).sum ≠ 0 := by
    rw [← e4]
    have := pA_mono h (i := o) (j := L.length + 1) (by omega) (Nat.le_refl _)
    grind
  have hS2 : (prods ((qs L).drop o)).sum ≠ 0 := fun z => hS (by rw [z]; grind)
  grind
def evL (L : Lad) (r o : Nat) : Rat := if r = o then 1 else if r < o then pA L r / pA L o else (pA L (L.length + 1) - pA L r) / (pA L (L.length + 1) - pA L o)
theorem evL_self (L : Lad) (o : Nat) : evL L o o = 1 := if_pos rfl
theorem evL_lo {L : Lad} (h : Lw L) {r o : Nat} (hr : r ≤ o) (h0 : 0 < o) (ho : o ≤ L.length + 1) : evL L r o = pA L r / pA L o := by
  unfold evL
  by_cases e : r = o
  · subst e
    have := Rat.ne_of_gt (pA_pos h h0 ho)
    rw [if_pos rfl]; grind
  · rw [if_neg e, if_pos (by omega)]
theorem evL_hi {L : Lad} (h : Lw L) {r o : Nat} (hr : o ≤ r) (ho : o ≤ L.length) (hr2 : r ≤ L.length + 1) : evL L r o = (pA L (L.length + 1) - pA L r) / (pA L (L.length + 1) - pA L o) := by
  unfold evL
  by_cases e : r = o
  · subst e
    have := pA_mono h (i := r) (j := L.length + 1) (by omega) (Nat.le_refl _)
    have hn : pA L (L.length + 1) - pA L r ≠ 0 := by grind
    rw [if_pos rfl]; grind
  · rw [if_neg e, if_neg (by omega)]
theorem evL_bot {L : Lad} {o : Nat} (h : o ≠ 0) : evL L 0 o = 0 := by
  unfold evL
  rw [if_neg (fun e => h e.symm), if_pos (by omega), pA_zero]; grind
theorem evL_topr {L : Lad} {o : Nat} (h : o ≤ L.length) : evL L (L.length + 1) o = 0 := by
  unfold evL
  rw [if_neg (by omega), if_neg (by omega)]; grind
/-- one step, away from the rung -/
theorem evL_step {L : Lad} (h : Lw L) {o r : Nat} (ho : o ≤ L.length + 1) {x : Rat × Rat} (hx : L[r]? = some x) (hne : r + 1 ≠ o) : x.1 * evL L (r + 2) o + x.2 * evL L r o + (1 - (x.1 + x.2)) * evL L (r + 1) o = evL L (r + 1) o := by
  have hr := (List.getElem?_eq_some_iff.mp hx).1
  have hs := pA_step h hx
  by_cases hlt : r + 1 < o
  · rw [evL_lo h (r := r + 2) (by omega) (by omega) ho, evL_lo h (r := r) (by omega) (by omega) ho, evL_lo h (r := r + 1) (by omega) (by omega) ho]
    have := Rat.ne_of_gt (pA_pos h (j := o) (by omega) ho)
    generalize pA L (r + 2) = a2 at *
    generalize pA L (r + 1) = a1 at *
    generalize pA L r = a0 at *
    generalize pA L o = b at *
    grind
  · rw [evL_hi h (r := r + 2) (by omega) (by omega) (by omega), evL_hi h (r := r) (by omega) (by omega) (by omega), evL_hi h (r := r + 1) (by omega) (by omega) (by omega)]
    have hm := pA_mono h (i := o) (j := L.length + 1) (by omega) (Nat.le_refl _)
    have hn : pA L (L.length + 1) - pA L o ≠ 0 := by grind
    generalize pA L (L.length + 1) - pA L o = b at *
    generalize pA L (r + 2) = a2 at *
    generalize pA L (r + 1) = a1 at *
    generalize pA L r = a0 at *
    generalize pA L (L.length + 1) = S at *
    grind
theorem evL_nonneg {L : Lad} (h : Lw L) {r o : Nat} (hr : r ≤ L.length + 1) (ho : o ≤ L.length + 1) : 0 ≤ evL L r o := by
  unfold evL
  split
  · decide
  · split
    · have h1 : 0 ≤ pA L r := by
        by_cases e : r = 0
        · subst e; rw [pA_zero]; exact Rat.le_refl
        · exact Rat.le_of_lt (pA_pos h (by omega) hr)
      rw [Rat.div_def]
      exact Rat.mul_nonneg h1 (Rat.le_of_lt (Rat.inv_pos.mpr (pA_pos h (by omega) ho)))
    · have h2 := pA_mono h (i := o) (j := L.length + 1) (by omega) (Nat.le_refl _)
      have h3 : pA L r ≤ pA L (L.length + 1) := by
        by_cases e : r = L.length + 1
        · subst e; exact Rat.le_refl
        · exact Rat.le_of_lt (pA_mono h (by omega) (Nat.le_refl _))
      rw [Rat.div_def]
      exact Rat.mul_nonneg (by grind) (Rat.le_of_lt (Rat.inv_pos.mpr (by grind)))
theorem evL_le {L : Lad} (h : Lw L) {r o : Nat} (hr : r ≤ L.length + 1) (ho : o ≤ L.length + 1) (hne : r ≠ o) : evL L r o < 1 := by
  have key : ∀ a b : Rat, 0 < b → a < b → a / b < 1 := fun a b hb hab => by
    have e : a / b = 1 - (b - a) / b := by have := Rat.ne_of_gt hb; grind
    have := div_pos (show 0 < b - a by grind) hb
    rw [e]; grind
  unfold evL
  rw [if_neg hne]
  split
  · exact key _ _ (pA_pos h (by omega) ho) (pA_mono h (by omega) ho)
  · have h2 := pA_mono h (i := o) (j := L.length + 1) (by omega) (Nat.le_refl _)
    have h3 := pA_mono h (i := o) (j := r) (by omega) hr
    exact key _ _ (by grind) (by grind)
/-- how often the rung is left for good at a step -/
def lvL (L : Lad) (o : Nat) : Rat := match L[o - 1]? with
  | some x => x.1 * (1 - evL L (o + 1) o) + x.2 * (1 - evL L (o - 1) o)
  | none => 1
def viL (L : Lad) (r o : Nat) : Rat := evL L r o / lvL L o
theorem lvL_eq {L : Lad} {s : Nat} {x : Rat × Rat} (hx : L[s]? = some x) : lvL L (s + 1) = x.1 * (1 - evL L (s + 2) (s + 1)) + x.2 * (1 - evL L s (s + 1)) := by
  unfold lvL
  rw [Nat.add_sub_cancel, hx]
theorem lvL_pos {L : Lad} (h : Lw L) {s : Nat} {x : Rat × Rat} (hx : L[s]? = some x) : 0 < lvL L (s + 1) := by
  have hs := (List.getElem?_eq_some_iff.mp hx).1
  obtain ⟨h1, h2, _⟩ := h.sh x (List.mem_of_getElem? hx)
  rw [lvL_eq hx]
  have a := evL_le h (r := s + 2) (o := s + 1) (by omega) (by omega) (by omega)
  have b := evL_le h (r := s) (o := s + 1) (by omega) (by omega) (by omega)
  have c := Rat.mul_pos h1 (show 0 < 1 - evL L (s + 2) (s + 1) by grind)
  have d := Rat.mul_pos h2 (show 0 < 1 - evL L s (s + 1) by grind)
  grind
theorem viL_step {L : Lad} (h : Lw L) {o r : Nat} (ho1 : 1 ≤ o) (ho : o ≤ L.length) {x : Rat × Rat} (hx : L[r]? = some x) : x.1 * viL L (r + 2) o + x.2 * viL L r o + (1 - (x.1 + x.2)) * viL L (r + 1) o + (if r + 1 = o then 1 else 0) = viL L (r + 1) o := by
  obtain ⟨s, rfl⟩ : ∃ s, o = s + 1 := ⟨o - 1, by omega⟩
  have hy : L[s]? = some L[s] := List.getElem?_eq_getElem (by omega)
  have hp := lvL_pos h hy
  have hn := Rat.ne_of_gt hp
  unfold viL
  by_cases e : r + 1 = s + 1
  · have e : r = s := by omega
    subst e
    have exy : x = L[r] := by rw [hy] at hx; exact (Option.some.inj hx).symm
    subst exy
    have e2 := lvL_eq hy
    rw [if_pos rfl, evL_self]
    generalize lvL L (r + 1) = v at *
    generalize L[r] = x at *
    rw [e2] at hn ⊢
    grind
  · have e2 := evL_step h (by omega) hx e
    rw [if_neg e]
    generalize lvL L (s + 1) = v at *
    grind
theorem viL_bot {L : Lad} {o : Nat} (h : 1 ≤ o) : viL L 0 o = 0 := by unfold viL; rw [evL_bot (by omega)]; grind
theorem viL_top {L : Lad} {o : Nat} (h : o ≤ L.length) : viL L (L.length + 1) o = 0 := by unfold viL; rw [evL_topr h]; grind
theorem viL_ev {L : Lad} (r o : Nat) : viL L r o = evL L r o * viL L o o := by unfold viL; rw [evL_self]; grind
theorem viL_sum {L : Lad} (h : Lw L) : ∀ r, r ≤ L.length + 1 → sumR L.length (fun i => viL L r (i + 1)) = mM L r := by
  refine harm_eq h.pos (fun _ => 1) ?_ ?_ (fun r x hx => ?_) (fun r x hx => ?_)
  · rw [mM_zero, sumR_zero]; intro i _; exact viL_bot (by omega)
  · rw [mM_top h rfl, sumR_zero]; intro i hi; exact viL_top (by omega)
  · have hr := (List.getElem?_eq_some_iff.mp hx).1
    have e : ∀ i, i < L.length → (x.1 + x.2) * viL L (r + 1) (i + 1) = (x.1 * viL L (r + 2) (i + 1) + x.2 * viL L r (i + 1)) + (if i = r then 1 else 0) := fun i hi => by
      have := viL_step h (o := i + 1) (by omega) (by omega) hx
      by_cases e : i = r
      · subst e
        rw [if_pos rfl] at this ⊢
        grind
      · rw [if_neg (by omega)] at this
        rw [if_neg e]
        grind
    rw [← sumR_mul L.length (x.1 + x.2), sumR_congr e, sumR_add, sumR_add, sumR_mul, sumR_mul, sumR_one (k := r) hr fun i _ hn => if_neg hn, if_pos rfl]
  · have := mM_step h hx
    grind
/-! sizes -/
theorem Sz.evBd {L : Lad} (h : Sz L) {r o : Nat} (hr : r ≤ L.length + 1) (ho : o ≤ L.length + 1) : Bd 50 (evL L r o) := by
  obtain ⟨P, N, z⟩ := h.szb
  have key : ∀ A B : Rat, Gz P 50779978334208 A → Gz P 50779978334208 B → 0 < B → Bd 50 (A / B) := fun A B hA hB hp => by
    obtain ⟨y, h1, h2⟩ := hB
    have hyp : (0 : Rat) < (y : Rat) := by rw [← h1]; exact Rat.mul_pos hp (Rat.intCast_pos.mpr (by have := z.p0; omega))
    have hyp := Rat.intCast_pos.mp hyp
    have e : B * cN P = cN y.toNat := by rw [h1]; show (y : Rat) = ((y.toNat : Int) : Rat); rw [Int.toNat_of_nonneg (by omega)]
    exact (Gz.over (by omega) z.p0 e hA).bd (by omega) (by omega) (by decide)
  unfold evL
  split
  · exact Bd.one.mono (by decide)
  · split
    · exact key _ _ ((z.A r).mono (by decide)) ((z.A o).mono (by decide)) (pA_pos h.lw (by omega) ho)
    · have h2 := pA_mono h.lw (i := o) (j := L.length + 1) (by omega) (Nat.le_refl _)
      exact key _ _ (((z.A _).sub (z.A r)).mono (by decide)) (((z.A _).sub (z.A o)).mono (by decide)) (by show 0 < pA L _ - pA L _; grind)
theorem Sz.lvBd {L : Lad} (h : Sz L) {o : Nat} (h1 : 1 ≤ o) (ho : o ≤ L.length) : Bd 125 (lvL L o) := by
  obtain ⟨s, rfl⟩ : ∃ s, o = s + 1 := ⟨o - 1, by omega⟩
  have hy : L[s]? = some L[s] := List.getElem?_eq_getElem (by omega)
  rw [lvL_eq hy]
  obtain ⟨_, _, g1, g2⟩ := h.lw.sh _ (List.mem_of_getElem? hy)
  exact ((g1.mul (Bd.one.sub (h.evBd (by omega) (by omega)))).add (g2.mul (Bd.one.sub (h.evBd (by omega) (by omega))))).mono (by decide)
theorem Sz.viBd {L : Lad} (h : Sz L) {r o : Nat} (hr : r ≤ L.length + 1) (h1 : 1 ≤ o) (ho : o ≤ L.length) : Bd 175 (viL L r o) := by
  obtain ⟨s, rfl⟩ : ∃ s, o = s + 1 := ⟨o - 1, by omega⟩
  have hy : L[s]? = some L[s] := List.getElem?_eq_getElem (by omega)
  exact ((h.evBd hr (by omega)).quo (h.lvBd (by omega) ho) (lvL_pos h.lw hy)).mono (by decide)
/-! what they promise -/
def R_ever_of (ds : List PyData) (P : PyData → Prop) : Prop := ∃ (L : Lad) (r o : Int), ds = [encL L, .int r, .int o] ∧ Sz L ∧ 0 ≤ r ∧ r ≤ L.length + 1 ∧ 0 ≤ o ∧ o ≤ L.length + 1 ∧ P (enc (evL L r.toNat o.toNat))
theorem S_ever_of {L : Lad} {r o : Int} {P : PyData → Prop} (h : Sz L) (h1 : 0 ≤ r) (h2 : r ≤ L.length + 1) (h3 : 0 ≤ o) (h4 : o ≤ L.length + 1) (p : P (enc (evL L r.toNat o.toNat))) : R_ever_of [encL L, .int r, .int o] P := ⟨L, r, o, rfl, h, h1, h2, h3, h4, p⟩
def R_ever_at (ds : List PyData) (P : PyData → Prop) : Prop := ∃ (L : Lad) (r o : Int), ds = [encL L, .int r, .int o] ∧ Lok L ∧ Sz L ∧ 0 ≤ r ∧ r ≤ L.length + 1 ∧ 0 ≤ o ∧ o ≤ L.length + 1 ∧ P (enc (evL L r.toNat o.toNat))
theorem S_ever_at {L : Lad} {r o : Int} {P : PyData → Prop} (hok : Lok L) (h : Sz L) (h1 : 0 ≤ r) (h2 : r ≤ L.length + 1) (h3 : 0 ≤ o) (h4 : o ≤ L.length + 1) (p : P (enc (evL L r.toNat o.toNat))) : R_ever_at [encL L, .int r, .int o] P := ⟨L, r, o, rfl, hok, h, h1, h2, h3, h4, p⟩
def R_visits (ds : List PyData) (P : PyData → Prop) : Prop := ∃ (L : Lad) (r o : Int), ds = [encL L, .int r, .int o] ∧ Lok L ∧ Sz L ∧ 0 ≤ r ∧ r ≤ L.length + 1 ∧ 1 ≤ o ∧ o ≤ L.length ∧ P (enc (viL L r.toNat o.toNat))
theorem S_visits {L : Lad} {r o : Int} {P : PyData → Prop} (hok : Lok L) (h : Sz L) (h1 : 0 ≤ r) (h2 : r ≤ L.length + 1) (h3 : 1 ≤ o) (h4 : o ≤ L.length) (p : P (enc (viL L r.toNat o.toNat))) : R_visits [encL L, .int r, .int o] P := ⟨L, r, o, rfl, hok, h, h1, h2, h3, h4, p⟩
end LW
namespace LW
open PySem PySem.Spec PyProof.Rows L2
def R_law_through (ds : List PyData) (P : PyData → Prop) : Prop := ∃ L : Lad, ds = [encL L, .int ((L.length : Int) + 1)] ∧ GL L ∧ L.length ≤ 8 ∧ P (.bool true)
theorem S_law_through {L : Lad} {P : PyData → Prop} (h : GL L) (h8 : L.length ≤ 8) (p : P (.bool true)) : R_law_through [encL L, .int ((L.length : Int) + 1)] P := ⟨L, rfl, h, h8, p⟩
end LW

namespace LW
open PySem PySem.Spec PyProof.Rows L2
/-! ### a rung made slower -/
def slowL (L : Lad) (k : Nat) (s : Rat) : Lad := L.modify k fun x => (x.1 * s, x.2 * s)
theorem modify_eq {α : Type} {f : α → α} : ∀ {L : List α} {k : Nat} {x : α}, L[k]? = some x → L.take k ++ [f x] ++ L.drop (k + 1) = L.modify k f
  | [], k, x, h => by simp at h
  | y :: L, 0, x, h => by cases h; rfl
  | y :: L, k + 1, x, h => by
    have ih := modify_eq (f := f) (L := L) (k := k) (x := x) h
    rw [List.take_succ_cons, List.drop_succ_cons, List.modify_succ_cons, ← ih]; rfl
theorem slowL_len (L : Lad) (k : Nat) (s : Rat) : (slowL L k s).length = L.length := by unfold slowL; rw [List.length_modify]
theorem slowL_get {L : Lad} {k : Nat} {s : Rat} {i : Nat} {x : Rat × Rat} (h : L[i]? = some x) : (slowL L k s)[i]? = some (if i = k then (x.1 * s, x.2 * s) else x) := by
  unfold slowL
  rw [List.getElem?_modify, h]
  by_cases e : k = i
  · subst e; simp
  · simp [e, Ne.symm e]
theorem slowL_mem {L : Lad} {k : Nat} {s : Rat} {y : Rat × Rat} (h : y ∈ slowL L k s) : ∃ x ∈ L, y = x ∨ y = (x.1 * s, x.2 * s) := by
  obtain ⟨i, hi, e⟩ := List.getElem_of_mem h
  rw [slowL_len] at hi
  have hx : L[i]? = some L[i] := List.getElem?_eq_getElem hi
  have h2 := slowL_get (k := k) (s := s) hx
  rw [List.getElem?_eq_getElem (by rw [slowL_len]; exact hi), e] at h2
  have h2 := Option.some.inj h2
  refine ⟨L[i], List.getElem_mem hi, ?_⟩
  by_cases e2 : i = k
  · rw [if_pos e2] at h2; exact .inr h2
  · rw [if_neg e2] at h2; exact .inl h2
theorem slowL_qs {L : Lad} {k : Nat} {s : Rat} (hs : s ≠ 0) (hp : ∀ x ∈ L, 0 < x.1 ∧ 0 < x.2) : qs (slowL L k s) = qs L := by
  apply List.ext_getElem?
  intro i
  unfold qs
  rw [List.getElem?_map, List.getElem?_map]
  by_cases hi : i < L.length
  · have hx : L[i]? = some L[i] := List.getElem?_eq_getElem hi
    rw [slowL_get hx, hx]
    show some _ = some _
    congr 1
    by_cases e : i = k
    · rw [if_pos e]
      have := Rat.ne_of_gt (hp _ (List.mem_of_getElem? hx)).1
      generalize L[i] = x at *
      show x.2 * s / (x.1 * s) = x.2 / x.1
      grind
    · rw [if_neg e]
  · rw [List.getElem?_eq_none (by rw [slowL_len]; omega), List.getElem?_eq_none (by omega)]
theorem evL_congr {L M : Lad} (h : qs L = qs M) : evL L = evL M := by
  have hl : L.length = M.length := by
    have := congrArg List.length h
    rwa [qs_len, qs_len] at this
  unfold evL pA
  rw [h, hl]
theorem hB_congr {L M : Lad} (h : qs L = qs M) : hB L = hB M := by unfold hB; rw [h]
/-- a drawn ladder, one rung slower by 1 / q -/
theorem slow_ok {L : Lad} (g : GL L) (h8 : L.length ≤ 8) {k q : Nat} {s : Rat} (hs : s * cN q = 1) (q0 : 0 < q) (q3 : q ≤ 3) : Lok (slowL L k s) ∧ Sz (slowL L k s) ∧ LD (12 * q) (slowL L k s) := by
  have ok := g.ok h8
  have hq : (1 : Rat) ≤ cN q := by have : ((1 : Int) : Rat) ≤ ((q : Int) : Rat) := Rat.intCast_le_intCast.mpr (by omega); exact this
  have hqn : cN q ≠ 0 := by grind
  have es : s = (cN q)⁻¹ := by grind
  have hs0 : 0 < s := by rw [es]; exact Rat.inv_pos.mpr (by grind)
  have hs1 : s ≤ 1 := by
    have := Rat.mul_le_mul_of_nonneg_left hq (Rat.le_of_lt hs0)
    grind
  have hld : LD (12 * q) (slowL L k s) := fun y hy => by
    obtain ⟨x, hx, e⟩ := slowL_mem hy
    obtain ⟨⟨a, ha⟩, b, hb⟩ := g.ld x hx
    have e12 : (((12 * q : Nat) : Int) : Rat) = ((12 : Nat) : Int) * cN q := by rw [Int.natCast_mul, cast_mul]
    rw [e12]
    rcases e with rfl | rfl
    · exact ⟨⟨a * q, by rw [cast_mul, ← ha]; show y.1 * (_ * cN q) = y.1 * _ * cN q; grind⟩, ⟨b * q, by rw [cast_mul, ← hb]; show y.2 * (_ * cN q) = y.2 * _ * cN q; grind⟩⟩
    · refine ⟨⟨a, ?_⟩, ⟨b, ?_⟩⟩
      · rw [← ha]
        show x.1 * s * (_ * cN q) = x.1 * _
        grind
      · rw [← hb]
        show x.2 * s * (_ * cN q) = x.2 * _
        grind
  have hsh : ∀ u : Rat, 0 < u → u ≤ 1 → (∃ a : Int, u * (((12 * q : Nat) : Int) : Rat) = (a : Rat)) → Sh u := fun u h0 h1 ⟨a, ha⟩ => by
    have hc : (((12 * q : Nat) : Int) : Rat) ≠ 0 := Rat.ne_of_gt (Rat.intCast_pos.mpr (by omega))
    have eu : u = (a : Rat) / (((12 * q : Nat) : Int) : Rat) := by rw [← ha]; grind
    refine ⟨h0, h1, ?_⟩
    have h3 := den_div a (b := ((12 * q : Nat) : Int)) (by omega)
    rw [← eu] at h3
    have h4 := natAbs_div_le ((12 * q : Nat) : Int) (Nat.gcd a.natAbs (((12 * q : Nat) : Int)).toNat)
    omega
  have hok : Lok (slowL L k s) := by
    refine ⟨by rw [slowL_len]; exact ok.ge, by rw [slowL_len]; exact ok.le, fun y hy => ?_⟩
    obtain ⟨x, hx, e⟩ := slowL_mem hy
    obtain ⟨s1, s2, s3⟩ := ok.sh x hx
    rcases e with rfl | rfl
    · exact ⟨s1, s2, s3⟩
    · have p1 := Rat.mul_pos s1.pos hs0
      have p2 := Rat.mul_pos s2.pos hs0
      have l1 := Rat.mul_le_mul_of_nonneg_left hs1 (show 0 ≤ x.1 + x.2 by have := s1.pos; have := s2.pos; grind)
      have hl : x.1 * s + x.2 * s ≤ 1 := by grind
      have := hld _ hy
      exact ⟨hsh _ p1 (by grind) this.1, hsh _ p2 (by grind) this.2, hl⟩
  exact ⟨hok, ⟨hok.lw, hok.st, 12 * q, by omega, by omega, hld.r (by omega)⟩, hld⟩
def R_checked (ds : List PyData) (P : PyData → Prop) : Prop := ∃ L : Lad, ds = [encL L] ∧ Lok L ∧ P (encL L)
theorem S_checked {L : Lad} {P : PyData → Prop} (h : Lok L) (p : P (encL L)) : R_checked [encL L] P := ⟨L, rfl, h, p⟩
def R_slower (ds : List PyData) (P : PyData → Prop) : Prop := ∃ (L : Lad) (r : Int) (s : Rat), ds = [encL L, .int r, enc s] ∧ Lok L ∧ 1 ≤ r ∧ r ≤ L.length ∧ Sh s ∧ Lok (slowL L (r.toNat - 1) s) ∧ P (encL (slowL L (r.toNat - 1) s))
theorem S_slower {L : Lad} {r : Int} {s : Rat} {P : PyData → Prop} (h : Lok L) (h1 : 1 ≤ r) (h2 : r ≤ L.length) (hs : Sh s) (h3 : Lok (slowL L (r.toNat - 1) s)) (p : P (encL (slowL L (r.toNat - 1) s))) : R_slower [encL L, .int r, enc s] P := ⟨L, r, s, rfl, h, h1, h2, hs, h3, p⟩
theorem slow_stay {L : Lad} {k : Nat} {s : Rat} (hs : s ≠ 0) {x : Rat × Rat} (hx : L[k]? = some x) (hp : 0 < x.1 + x.2) : stayL (slowL L k s) (k + 1) * s = stayL L (k + 1) := by
  unfold stayL
  rw [Nat.add_sub_cancel, slowL_get hx, hx, if_pos rfl]
  have := Rat.ne_of_gt hp
  show 1 / (x.1 * s + x.2 * s) * s = 1 / (x.1 + x.2)
  grind
theorem slow_lv {L : Lad} {k : Nat} {s : Rat} (hs : s ≠ 0) (hp : ∀ x ∈ L, 0 < x.1 ∧ 0 < x.2) {x : Rat × Rat} (hx : L[k]? = some x) : lvL (slowL L k s) (k + 1) = lvL L (k + 1) * s := by
  have h2 := slowL_get (k := k) (s := s) hx
  rw [if_pos rfl] at h2
  rw [lvL_eq h2, lvL_eq hx, evL_congr (slowL_qs hs hp)]
  grind
/-! ### visits after steps -/
theorem viL_nonneg {L : Lad} (h : Lw L) {r o : Nat} (hr : r ≤ L.length + 1) (h1 : 1 ≤ o) (ho : o ≤ L.length) : 0 ≤ viL L r o := by
  obtain ⟨s, rfl⟩ : ∃ s, o = s + 1 := ⟨o - 1, by omega⟩
  have hy : L[s]? = some L[s] := List.getElem?_eq_getElem (by omega)
  unfold viL
  rw [Rat.div_def]
  exact Rat.mul_nonneg (evL_nonneg h hr (by omega)) (Rat.le_of_lt (Rat.inv_pos.mpr (lvL_pos h hy)))
theorem vis_near {L : Lad} (h : Lw L) (hs : Lst L) {k o : Nat} (hk : k < L.length + 2) (h1 : 1 ≤ o) (ho : o ≤ L.length) (n : Nat) : sumR n (fun t => aft L k t o) ≤ viL L k o := by
  have st : ∀ t, sumR (L.length + 2) (fun j => aft L k (t + 1) j * viL L j o) + aft L k t o = sumR (L.length + 2) fun j => aft L k t j * viL L j o := fun t => by
    rw [aft_exp]
    have e : ∀ r, r < L.length + 2 → aft L k t r * (sumR (L.length + 2) fun j => TL L r j * viL L j o) = aft L k t r * viL L r o - (if r = o then aft L k t o else 0) := fun r hr => by
      by_cases he : r = 0 ∨ L.length < r
      · rw [TL_sumE he hr, if_neg (by omega)]; grind
      · obtain ⟨s, rfl⟩ : ∃ s, r = s + 1 := ⟨r - 1, by omega⟩
        have hx : L[s]? = some L[s] := List.getElem?_eq_getElem (by omega)
        have := viL_step h h1 ho hx
        rw [TL_sum hx]
        generalize L[s] = x at *
        by_cases e : s + 1 = o
        · rw [if_pos e] at this ⊢
          have e2 : x.1 * viL L (s + 2) o + x.2 * viL L s o + (1 - (x.1 + x.2)) * viL L (s + 1) o = viL L (s + 1) o - 1 := by grind
          rw [e2, ← e]; grind
        · rw [if_neg e] at this ⊢
          have e2 : x.1 * viL L (s + 2) o + x.2 * viL L s o + (1 - (x.1 + x.2)) * viL L (s + 1) o = viL L (s + 1) o := by grind
          rw [e2]; grind
    rw [sumR_congr e, sumR_sub, sumR_one (k := o) (by omega) (fun i _ hn => if_neg hn), if_pos rfl]; grind
  have e : ∀ n, sumR n (fun t => aft L k t o) + sumR (L.length + 2) (fun j => aft L k n j * viL L j o) = viL L k o := fun n => by
    induction n with
    | zero =>
      show 0 + _ = _
      rw [sumR_one (k := k) hk fun i hi hn => by rw [aft_zero hi, if_neg hn]; grind, aft_zero hk, if_pos rfl]; grind
    | succ n ih =>
      show (sumR n _ + _) + _ = _
      rw [← ih, ← st n]; grind
  have h2 : 0 ≤ sumR (L.length + 2) (fun j => aft L k n j * viL L j o) := sumR_nonneg fun j hj => Rat.mul_nonneg (aft_nonneg hs k n j hj) (viL_nonneg h (by omega) h1 ho)
  have := e n
  grind
theorem div_le_div {a b c d : Rat} (hb : 0 < b) (hd : 0 < d) (h : a * d ≤ c * b) : a / b ≤ c / d := by
  have hbn := Rat.ne_of_gt hb
  have hdn := Rat.ne_of_gt hd
  have e : c / d - a / b = (c * b - a * d) * (b * d)⁻¹ := by
    have : b * d ≠ 0 := Rat.ne_of_gt (Rat.mul_pos hb hd)
    grind
  have := Rat.mul_nonneg (show 0 ≤ c * b - a * d by grind) (Rat.le_of_lt (Rat.inv_pos.mpr (Rat.mul_pos hb hd)))
  rw [← e] at this
  grind
theorem ev_rise {L : Lad} (h : Lw L) {r o : Nat} (hr : r ≤ L.length + 1) (ho : o < r) : evL L r o ≤ evL L r (o + 1) := by
  rw [evL_hi h (by omega) (by omega) hr]
  have l0 : pA L r ≤ pA L (L.length + 1) := by
    by_cases e : r = L.length + 1
    · subst e; exact Rat.le_refl
    · exact Rat.le_of_lt (pA_mono h (by omega) (Nat.le_refl _))
  have l1 := pA_lt h (k := o) (by omega)
  have l2 := pA_mono h (i := o) (j := L.length + 1) (by omega) (Nat.le_refl _)
  by_cases e : o + 1 = r
  · subst e
    rw [evL_self]
    have := div_le_div (a := pA L (L.length + 1) - pA L (o + 1)) (b := pA L (L.length + 1) - pA L o) (c := 1) (d := 1) (by grind) (by decide) (by grind)
    have e2 : (1 : Rat) / 1 = 1 := by decide +kernel
    rw [e2] at this; exact this
  · rw [evL_hi h (by omega) (by omega) hr]
    have l3 := pA_mono h (i := o + 1) (j := L.length + 1) (by omega) (Nat.le_refl _)
    refine div_le_div (by grind) (by grind) ?_
    exact Rat.mul_le_mul_of_nonneg_left (by grind) (by grind)
theorem ev_fall {L : Lad} (h : Lw L) {r o : Nat} (h0 : 0 < r) (hr : r ≤ o) (ho : o ≤ L.length) : evL L r (o + 1) ≤ evL L r o := by
  rw [evL_lo h (by omega) (by omega) (by omega), evL_lo h (by omega) (by omega) (by omega)]
  have p1 := pA_pos h (j := o) (by omega) (by omega)
  have p2 := pA_pos h (j := o + 1) (by omega) (by omega)
  have p3 := pA_pos h (j := r) (by omega) (by omega)
  refine div_le_div p2 p1 (Rat.mul_le_mul_of_nonneg_left (Rat.le_of_lt (pA_lt h (by omega))) (Rat.le_of_lt p3))
def R_law_more20 (ds : List PyData) (P : PyData → Prop) : Prop := ∃ (L : Lad) (k : Nat), ds = [encL L, .int ((L.length : Int) + 1), .int (1 + (k : Int)), enc (viL L (k + 1) (k + 1))] ∧ GL L ∧ L.length ≤ 8 ∧ k < L.length ∧ P (.bool true)
theorem S_law_more20 {L : Lad} {k : Nat} {P : PyData → Prop} (h : GL L) (h8 : L.length ≤ 8) (hk : k < L.length) (p : P (.bool true)) : R_law_more20 [encL L, .int ((L.length : Int) + 1), .int (1 + (k : Int)), enc (viL L (k + 1) (k + 1))] P := ⟨L, k, rfl, h, h8, hk, p⟩
end LW

namespace LW
open PySem PySem.Spec PyProof.Rows L2
/-! ### xs[i] += e on an own list of numbers -/
theorem ds_augS {E : EK} {Xc : XP} {K : PySem.W.Frag} {ρ : List Slot} {N : List Slot → Prop} {R : RK} {tb te : TE} {i : Nat} {p : Addr} {ds : List PyData} (hi : ρ[i]? = some (.own p ds))
    (h : EvP E Xc tb ρ fun y => ∃ (k : Int) (a : Int), y = .int k ∧ 0 ≤ k ∧ ds[k.toNat]? = some (.int a) ∧ EvP E Xc te ρ fun z => ∃ b, z = .int b ∧ N (ρ.set i (.own p (ds.set k.toNat (.int (a + b)))))) :
    DS E Xc (tAugS (tVar i) tb te (rGetL K) (ipI fun i j => i + j) rSetL) ρ N R := fun C O σ H D x e nx rt => by
  obtain ⟨y, e1, e2, vs, e3, e4⟩ := x.slot i _ hi
  subst e2
  refine ⟨_, e1, h C O σ H x e _ fun v2 d2 H2 x2 k2 y2 ⟨k, a, ek, h0, hk, h2⟩ => ?_⟩
  subst ek; cases y2
  obtain ⟨y', f1, f2, us, f3, f4⟩ := x2.slot i _ hi
  obtain ⟨v, g1, g2⟩ := f4.get hk
  cases g2
  refine ⟨p, us, k, _, rfl, rfl, h0, SqL.of f3, g1, h2 C O σ H2 x2 e _ fun v4 d4 H4 x4 k4 y4 ⟨b, eb, n⟩ => ?_⟩
  subst eb; cases y4
  obtain ⟨y'', f1', f2', ws, f3', f4'⟩ := x4.slot i _ hi
  refine ⟨a, b, rfl, rfl, p, ws, k, k.toNat, rfl, rfl, f3', ?_, nx O _ σ _ (x4.mut hi (f4'.set (.int _) k.toNat)) n⟩
  have hlt := (List.getElem?_eq_some_iff.mp hk).1
  unfold ixN
  rw [f4'.length, if_pos h0, if_pos (by omega)]
/-! ### ways -/
def prodR : Nat → (Nat → Rat) → Rat
  | 0, _ => 1
  | n + 1, f => prodR n f * f n
theorem prodR_congr {n : Nat} {f g : Nat → Rat} (h : ∀ i, i < n → f i = g i) : prodR n f = prodR n g := by
  induction n with
  | zero => rfl
  | succ n ih => show prodR n f * f n = prodR n g * g n; rw [ih fun i hi => h i (by omega), h n (by omega)]
theorem prodR_zero {n : Nat} {f : Nat → Rat} : prodR n f = 0 ↔ ∃ i, i < n ∧ f i = 0 := by
  induction n with
  | zero => exact ⟨fun h => absurd (show (1 : Rat) = 0 from h) (by decide), fun ⟨i, h, _⟩ => absurd h (by omega)⟩
  | succ n ih =>
    show prodR n f * f n = 0 ↔ _
    constructor
    · intro h
      rcases Rat.mul_eq_zero.mp h with h | h
      · obtain ⟨i, h1, h2⟩ := ih.mp h
        exact ⟨i, by omega, h2⟩
      · exact ⟨n, by omega, h⟩
    · rintro ⟨i, h1, h2⟩
      by_cases e : i = n
      · subst e; rw [h2]; grind
      · rw [ih.mpr ⟨i, by omega, h2⟩]; grind
theorem Fz.prodR {E : Nat} {n : Nat} {f : Nat → Rat} (h : ∀ i, i < n → Fz E 1 (f i)) : Fz (E ^ n) 1 (prodR n f) := by
  induction n with
  | zero => exact Fz.one 1
  | succ n ih => rw [Nat.pow_succ]; exact (ih fun i hi => h i (by omega)).mul (h n (by omega))
/-- the chance of a way -/
def wstep (L : Lad) (w : List Nat) (i : Nat) : Rat := TL L (w.getD i 0) (w.getD (i + 1) 0)
def wayP (L : Lad) (w : List Nat) : Rat := prodR (w.length - 1) (wstep L w)
structure WayOk (L : Lad) (w : List Nat) : Prop where
  ge : 1 ≤ w.length
  le : w.length ≤ 60
  r : ∀ x ∈ w, x ≤ L.length + 1
theorem getD_get {w : List Nat} {i : Nat} (h : i < w.length) : w[i]? = some (w.getD i 0) := by
  rw [List.getElem?_eq_getElem h, List.getD_eq_getElem?_getD, List.getElem?_eq_getElem h]; rfl
theorem WayOk.at {L : Lad} {w : List Nat} (h : WayOk L w) {i : Nat} (hi : i < w.length) : w.getD i 0 ≤ L.length + 1 := h.r _ (List.mem_of_getElem? (getD_get hi))
abbrev encW (w : List Nat) : PyData := .list (w.map natD)
def R_check_way (ds : List PyData) (P : PyData → Prop) : Prop := ∃ (L : Lad) (w : List Nat), ds = [encL L, encW w] ∧ WayOk L w ∧ P .none
theorem S_check_way {L : Lad} {w : List Nat} {P : PyData → Prop} (h : WayOk L w) (p : P .none) : R_check_way [encL L, encW w] P := ⟨L, w, rfl, h, p⟩
def R_chance_of_step (ds : List PyData) (P : PyData → Prop) : Prop := ∃ (L : Lad) (r o : Nat), ds = [encL L, natD r, natD o] ∧ Lw L ∧ r ≤ L.length + 1 ∧ o ≤ L.length + 1 ∧ P (enc (TL L r o))
theorem S_chance_of_step {L : Lad} {r o : Nat} {P : PyData → Prop} (h : Lw L) (h1 : r ≤ L.length + 1) (h2 : o ≤ L.length + 1) (p : P (enc (TL L r o))) : R_chance_of_step [encL L, natD r, natD o] P := ⟨L, r, o, rfl, h, h1, h2, p⟩
def R_chance_of_way (ds : List PyData) (P : PyData → Prop) : Prop := ∃ (L : Lad) (w : List Nat) (E k : Nat), ds = [encL L, encW w] ∧ Lok L ∧ WayOk L w ∧ LD E L ∧ 0 < E ∧ E ^ w.length * 2 < 2 ^ k ∧ k ≤ 4000 ∧ P (enc (wayP L w))
theorem S_chance_of_way {L : Lad} {w : List Nat} {E k : Nat} {P : PyData → Prop} (h : Lok L) (hw : WayOk L w) (hE : LD E L) (h0 : 0 < E) (hk : E ^ w.length * 2 < 2 ^ k) (hk2 : k ≤ 4000) (p : P (enc (wayP L w))) : R_chance_of_way [encL L, encW w] P := ⟨L, w, E, k, rfl, h, hw, hE, h0, hk, hk2, p⟩
def isWay (L : Lad) (w : List Nat) : Bool := !decide (wayP L w = 0)
def R_is_way (ds : List PyData) (P : PyData → Prop) : Prop := ∃ (L : Lad) (w : List Nat), ds = [encL L, encW w] ∧ Lok L ∧ WayOk L w ∧ P (.bool (isWay L w))
theorem S_is_way {L : Lad} {w : List Nat} {P : PyData → Prop} (h : Lok L) (hw : WayOk L w) (p : P (.bool (isWay L w))) : R_is_way [encL L, encW w] P := ⟨L, w, rfl, h, hw, p⟩
def upsW (w : List Nat) : Nat := ((List.range (w.length - 1)).filter fun i => decide (w.getD i 0 < w.getD (i + 1) 0)).length
def R_steps_up (ds : List PyData) (P : PyData → Prop) : Prop := ∃ (L : Lad) (w : List Nat), ds = [encL L, encW w] ∧ Lok L ∧ WayOk L w ∧ P (natD (upsW w))
theorem S_steps_up {L : Lad} {w : List Nat} {P : PyData → Prop} (h : Lok L) (hw : WayOk L w) (p : P (natD (upsW w))) : R_steps_up [encL L, encW w] P := ⟨L, w, rfl, h, hw, p⟩
theorem zip_tail (w : List Nat) : w.zip (w.drop 1) = (List.range (w.length - 1)).map fun i => (w.getD i 0, w.getD (i + 1) 0) := by
  apply List.ext_getElem?
  intro i
  rw [List.getElem?_map]
  by_cases h : i < w.length - 1
  · have e1 := getD_get (w := w) (i := i) (by omega)
    have e2 : (w.drop 1)[i]? = some (w.getD (i + 1) 0) := by rw [List.getElem?_drop, Nat.add_comm]; exact getD_get (by omega)
    have e3 : (w.zip (w.drop 1))[i]? = some (w.getD i 0, w.getD (i + 1) 0) := List.getElem?_zip_eq_some.mpr ⟨e1, e2⟩
    rw [List.getElem?_range h, e3]; rfl
  · rw [List.getElem?_eq_none (by rw [List.length_zip, List.length_drop]; omega), List.getElem?_eq_none (by rw [List.length_range]; omega)]; rfl
/-! ### counted ways -/
def cstep (n : Nat) (f : Nat → Nat) (j : Nat) : Nat := (if 2 ≤ j then f (j - 1) else 0) + (if j + 2 ≤ n then f (j + 1) else 0)
def cnt (n r : Nat) : Nat → Nat → Nat
  | 0, j => if j = r then 1 else 0
  | t + 1, j => cstep n (cnt n r t) j
def cnts (n r t : Nat) : List Nat := (List.range (n + 1)).map (cnt n r t)
def R_counts_of (ds : List PyData) (P : PyData → Prop) : Prop := ∃ n r t : Nat, ds = [natD n, natD r, natD t] ∧ 2 ≤ n ∧ n ≤ 9 ∧ r ≤ n ∧ t ≤ 60 ∧ P (encW (cnts n r t))
theorem S_counts_of {n r t : Nat} {P : PyData → Prop} (h1 : 2 ≤ n) (h2 : n ≤ 9) (h3 : r ≤ n) (h4 : t ≤ 60) (p : P (encW (cnts n r t))) : R_counts_of [natD n, natD r, natD t] P := ⟨n, r, t, rfl, h1, h2, h3, h4, p⟩
def R_all_counts (ds : List PyData) (P : PyData → Prop) : Prop := R_counts_of ds P
theorem S_all_counts {n r t : Nat} {P : PyData → Prop} (h1 : 2 ≤ n) (h2 : n ≤ 9) (h3 : r ≤ n) (h4 : t ≤ 60) (p : P (encW (cnts n r t))) : R_all_counts [natD n, natD r, natD t] P := S_counts_of h1 h2 h3 h4 p
def R_count_ways (ds : List PyData) (P : PyData → Prop) : Prop := ∃ n r o t : Nat, ds = [natD n, natD r, natD o, natD t] ∧ 2 ≤ n ∧ n ≤ 9 ∧ r ≤ n ∧ o ≤ n ∧ t ≤ 60 ∧ P (natD (cnt n r t o))
theorem S_count_ways {n r o t : Nat} {P : PyData → Prop} (h1 : 2 ≤ n) (h2 : n ≤ 9) (h3 : r ≤ n) (h5 : o ≤ n) (h4 : t ≤ 60) (p : P (natD (cnt n r t o))) : R_count_ways [natD n, natD r, natD o, natD t] P := ⟨n, r, o, t, rfl, h1, h2, h3, h5, h4, p⟩
theorem cnts_get {n r t j : Nat} (h : j ≤ n) : (cnts n r t)[j]? = some (cnt n r t j) := by unfold cnts; rw [List.getElem?_map, List.getElem?_range (by omega)]; rfl
theorem at_cnts {n r t j : Nat} {i : Int} (e : i = (j : Int)) (h : j ≤ n) : atI ((cnts n r t).map natD) i = some (natD (cnt n r t j)) := at_map e (cnts_get h)
/-- the part of a step's counts that comes from the first i rungs -/
def cpart (n : Nat) (f : Nat → Nat) (i j : Nat) : Nat := (if 2 ≤ j ∧ j - 1 < i then f (j - 1) else 0) + (if j + 2 ≤ n ∧ j + 1 < i then f (j + 1) else 0)
theorem cpart_zero (n : Nat) (f : Nat → Nat) (j : Nat) : cpart n f 0 j = 0 := by
  unfold cpart
  rw [if_neg (by omega), if_neg (by omega)]
theorem cpart_all {n : Nat} {f : Nat → Nat} {j : Nat} (hj : j ≤ n) : cpart n f (n + 1) j = cstep n f j := by
  unfold cpart cstep
  congr 1
  · by_cases h : 2 ≤ j
    · rw [if_pos ⟨h, by omega⟩, if_pos h]
    · rw [if_neg (by omega), if_neg h]
  · by_cases h : j + 2 ≤ n
    · rw [if_pos ⟨h, by omega⟩, if_pos h]
    · rw [if_neg (by omega), if_neg h]
theorem cpart_end {n : Nat} {f : Nat → Nat} {i j : Nat} (h : ¬ (0 < i ∧ i < n)) (hj : j ≤ n) (hi : i ≤ n) : cpart n f (i + 1) j = cpart n f i j := by
  unfold cpart
  congr 1
  · by_cases e : 2 ≤ j ∧ j - 1 < i
    · rw [if_pos e, if_pos (by omega)]
    · rw [if_neg e, if_neg (by omega)]
  · by_cases e : j + 2 ≤ n ∧ j + 1 < i
    · rw [if_pos e, if_pos (by omega)]
    · rw [if_neg e, if_neg (by omega)]
theorem cpart_in {n : Nat} {f : Nat → Nat} {i j : Nat} (h : 0 < i ∧ i < n) (hj : j ≤ n) : cpart n f (i + 1) j = if j = i - 1 then cpart n f i j + f i else if j = i + 1 then cpart n f i j + f i else cpart n f i j := by
  unfold cpart
  by_cases e1 : j = i - 1
  · rw [if_pos e1, if_neg (c := j + 2 ≤ n ∧ j + 1 < i) (by omega), if_pos (c := j + 2 ≤ n ∧ j + 1 < i + 1) (by omega), show j + 1 = i by omega]
    by_cases e : 2 ≤ j
    · rw [if_pos (by omega), if_pos (by omega)]; omega
    · rw [if_neg (by omega), if_neg (by omega)]; try omega
  · rw [if_neg e1]
    by_cases e2 : j = i + 1
    · rw [if_pos e2, if_pos (c := 2 ≤ j ∧ j - 1 < i + 1) (by omega), if_neg (c := 2 ≤ j ∧ j - 1 < i) (by omega), show j - 1 = i by omega, if_neg (c := j + 2 ≤ n ∧ j + 1 < i + 1) (by omega), if_neg (by omega)]; omega
    · rw [if_neg e2]
      congr 1
      · by_cases e : 2 ≤ j ∧ j - 1 < i
        · rw [if_pos e, if_pos (by omega)]
        · rw [if_neg e, if_neg (by omega)]
      · by_cases e : j + 2 ≤ n ∧ j + 1 < i
        · rw [if_pos e, if_pos (by omega)]
        · rw [if_neg e, if_neg (by omega)]
theorem cnt_turn {n r : Nat} (hr : r ≤ n) (t : Nat) : ∀ j, j ≤ n → cnt n (n - r) t (n - j) = cnt n r t j := by
  induction t with
  | zero =>
    intro j hj
    show (if n - j = n - r then 1 else 0) = if j = r then 1 else 0
    by_cases e : j = r
    · rw [if_pos e, if_pos (by omega)]
    · rw [if_neg e, if_neg (by omega)]
  | succ t ih =>
    intro j hj
    show cstep n (cnt n (n - r) t) (n - j) = cstep n (cnt n r t) j
    unfold cstep
    rw [Nat.add_comm]
    congr 1
    · by_cases e : 2 ≤ j
      · rw [if_pos e, if_pos (by omega), show n - j + 1 = n - (j - 1) by omega, ih _ (by omega)]
      · rw [if_neg e, if_neg (by omega)]
    · by_cases e : j + 2 ≤ n
      · rw [if_pos e, if_pos (by omega), show n - j - 1 = n - (j + 1) by omega, ih _ (by omega)]
      · rw [if_neg e, if_neg (by omega)]
end LW
namespace LW
open PySem PySem.Spec PyProof.Rows L2
theorem TL_bd {L : Lad} (h : Lw L) (r j : Nat) : Bd 23 (TL L r j) := by
  unfold TL
  split
  · split
    · exact Bd.one.mono (by decide)
    · exact Bd.zero.mono (by decide)
  · split
    · rename_i x hx
      obtain ⟨_, _, g3, g4⟩ := h.sh x (List.mem_of_getElem? hx)
      split
      · exact g3.mono (by decide)
      · split
        · exact g4.mono (by decide)
        · split
          · exact (Bd.one.sub (g3.add g4)).mono (by decide)
          · exact Bd.zero.mono (by decide)
    · exact Bd.zero.mono (by decide)
end LW

namespace LW
open PySem PySem.Spec PyProof.Rows L2
/-! ### all ways of some steps -/
def lastW (w : List Nat) : Nat := w.getD (w.length - 1) 0
def nxtW (n : Nat) (w : List Nat) : List (List Nat) := ((List.range 3).filter fun i => decide (1 ≤ lastW w + i) && decide (lastW w + i ≤ n + 1)).map fun i => w ++ [lastW w + i - 1]
def waysT (n r : Nat) : Nat → List (List Nat)
  | 0 => [[r]]
  | t + 1 => (waysT n r t).flatMap (nxtW n)
theorem lastW_app (w : List Nat) (x : Nat) : lastW (w ++ [x]) = x := by
  unfold lastW
  rw [List.length_append, List.getD_eq_getElem?_getD]
  show ((w ++ [x])[w.length + 1 - 1]?).getD 0 = x
  rw [Nat.add_sub_cancel, List.getElem?_append_right (Nat.le_refl _), Nat.sub_self]; rfl
theorem getD_app {w : List Nat} {x i : Nat} (h : i < w.length) : (w ++ [x]).getD i 0 = w.getD i 0 := by
  rw [List.getD_eq_getElem?_getD, List.getD_eq_getElem?_getD, List.getElem?_append_left h]
theorem wayP_app {L : Lad} {w : List Nat} (h : 1 ≤ w.length) (x : Nat) : wayP L (w ++ [x]) = wayP L w * TL L (lastW w) x := by
  unfold wayP
  have e : (w ++ [x]).length - 1 = (w.length - 1) + 1 := by rw [List.length_append]; show w.length + 1 - 1 = _; omega
  rw [e]
  show prodR (w.length - 1) (wstep L (w ++ [x])) * wstep L (w ++ [x]) (w.length - 1) = _
  congr 1
  · refine prodR_congr fun i hi => ?_
    unfold wstep
    rw [getD_app (by omega), getD_app (by omega)]
  · unfold wstep
    rw [getD_app (by omega), show w.length - 1 + 1 = w.length by omega]
    have e2 := lastW_app w x
    unfold lastW at e2
    rw [List.length_append] at e2
    have e2 : (w ++ [x]).getD w.length 0 = x := e2
    rw [e2]; rfl
structure WOk (n t : Nat) (w : List Nat) : Prop where
  len : w.length = t + 1
  r : ∀ x ∈ w, x ≤ n
theorem WOk.last {n t : Nat} {w : List Nat} (h : WOk n t w) : lastW w ≤ n := h.r _ (List.mem_of_getElem? (getD_get (by rw [h.len]; omega)))
theorem waysT_ok {n r : Nat} (hr : r ≤ n) (t : Nat) : ∀ w ∈ waysT n r t, WOk n t w := by
  induction t with
  | zero =>
    intro w hw
    have e : w = [r] := by simpa [waysT] using hw
    subst e
    exact ⟨rfl, fun x hx => by have : x = r := by simpa using hx
                               omega⟩
  | succ t ih =>
    intro w hw
    obtain ⟨v, hv, hw⟩ := List.mem_flatMap.mp (show w ∈ (waysT n r t).flatMap (nxtW n) from hw)
    have hvo := ih v hv
    unfold nxtW at hw
    obtain ⟨i, hi, rfl⟩ := List.mem_map.mp hw
    have hi := (List.mem_filter.mp hi).2
    simp only [Bool.and_eq_true, decide_eq_true_eq] at hi
    refine ⟨by rw [List.length_append, hvo.len]; rfl, fun x hx => ?_⟩
    rcases List.mem_append.mp hx with hx | hx
    · exact hvo.r x hx
    · have : x = lastW v + i - 1 := by simpa using hx
      omega
theorem nxtW_len (n : Nat) (w : List Nat) : (nxtW n w).length ≤ 3 := by
  unfold nxtW
  rw [List.length_map]
  exact Nat.le_trans (List.length_filter_le _ _) (by rw [List.length_range]; exact Nat.le_refl _)
theorem flatMap_len (n : Nat) : ∀ ws : List (List Nat), (ws.flatMap (nxtW n)).length ≤ 3 * ws.length
  | [] => by simp
  | w :: ws => by
    rw [List.flatMap_cons, List.length_append, List.length_cons]
    have := nxtW_len n w
    have := flatMap_len n ws
    omega
theorem waysT_len (n r t : Nat) : (waysT n r t).length ≤ 3 ^ t := by
  induction t with
  | zero => exact Nat.le_refl 1
  | succ t ih =>
    have := flatMap_len n (waysT n r t)
    rw [Nat.pow_succ]
    show ((waysT n r t).flatMap (nxtW n)).length ≤ _
    omega
theorem sum_filter {α : Type} (p : α → Bool) (f : α → Rat) : ∀ xs : List α, ((xs.filter p).map f).sum = (xs.map fun x => f x * (if p x = true then 1 else 0)).sum
  | [] => rfl
  | x :: xs => by
    by_cases h : p x = true
    · rw [List.filter_cons_of_pos h, List.map_cons, List.map_cons, List.sum_cons, List.sum_cons, sum_filter p f xs, if_pos h]; grind
    · rw [List.filter_cons_of_neg h, List.map_cons, List.sum_cons, sum_filter p f xs, if_neg h]; grind
theorem filter3 (b : Nat → Bool) (f : Nat → Rat) : (((List.range 3).filter b).map f).sum = f 0 * (if b 0 = true then 1 else 0) + f 1 * (if b 1 = true then 1 else 0) + f 2 * (if b 2 = true then 1 else 0) := by
  rw [sum_filter, sum_rng]
  show 0 + _ + _ + _ = _
  grind
/-- a step's mean, by the near rungs -/
theorem near_sum {L : Lad} {q : Nat} (hq : q ≤ L.length + 1) (g : Nat → Rat) : (((List.range 3).filter fun i => decide (1 ≤ q + i) && decide (q + i ≤ L.length + 1 + 1)).map fun i => TL L q (q + i - 1) * g (q + i - 1)).sum = sumR (L.length + 2) fun j => TL L q j * g j := by
  rw [filter3]
  by_cases he : q = 0 ∨ L.length < q
  · rw [TL_sumE he (by omega)]
    rcases Nat.eq_zero_or_pos q with h0 | h0
    · subst h0
      have d1 : (decide (1 ≤ 0 + 0) && decide (0 + 0 ≤ L.length + 1 + 1)) = false := rfl
      have d2 : (decide (1 ≤ 0 + 1) && decide (0 + 1 ≤ L.length + 1 + 1)) = true := by simp
      have d3 : (decide (1 ≤ 0 + 2) && decide (0 + 2 ≤ L.length + 1 + 1)) = true := by simp
      rw [if_neg (by rw [d1]; exact Bool.false_ne_true), if_pos d2, if_pos d3]
      show _ * 0 + TL L 0 0 * g 0 * 1 + TL L 0 1 * g 1 * 1 = g 0
      rw [TL_end (.inl rfl), TL_end (.inl rfl), if_pos rfl, if_neg (by omega)]; grind
    · have hq2 : q = L.length + 1 := by omega
      subst hq2
      have d1 : (decide (1 ≤ L.length + 1 + 0) && decide (L.length + 1 + 0 ≤ L.length + 1 + 1)) = true := by simp
      have d2 : (decide (1 ≤ L.length + 1 + 1) && decide (L.length + 1 + 1 ≤ L.length + 1 + 1)) = true := by simp
      have d3 : (decide (1 ≤ L.length + 1 + 2) && decide (L.length + 1 + 2 ≤ L.length + 1 + 1)) = false := by simp
      rw [if_pos d1, if_pos d2, if_neg (by rw [d3]; exact Bool.false_ne_true)]
      show TL L (L.length + 1) L.length * g L.length * 1 + TL L (L.length + 1) (L.length + 1) * g (L.length + 1) * 1 + _ * 0 = _
      rw [TL_end he, TL_end he, if_pos rfl, if_neg (by omega)]; grind
  · obtain ⟨s, rfl⟩ : ∃ s, q = s + 1 := ⟨q - 1, by omega⟩
    have hx : L[s]? = some L[s] := List.getElem?_eq_getElem (by omega)
    rw [TL_sum hx]
    have d1 : (decide (1 ≤ s + 1 + 0) && decide (s + 1 + 0 ≤ L.length + 1 + 1)) = true := by simp; omega
    have d2 : (decide (1 ≤ s + 1 + 1) && decide (s + 1 + 1 ≤ L.length + 1 + 1)) = true := by simp; omega
    have d3 : (decide (1 ≤ s + 1 + 2) && decide (s + 1 + 2 ≤ L.length + 1 + 1)) = true := by simp; omega
    rw [if_pos d1, if_pos d2, if_pos d3]
    show TL L (s + 1) s * g s * 1 + TL L (s + 1) (s + 1) * g (s + 1) * 1 + TL L (s + 1) (s + 2) * g (s + 2) * 1 = _
    rw [TL_in hx, TL_in hx, TL_in hx, if_neg (by omega), if_pos rfl, if_neg (by omega), if_neg (by omega), if_pos rfl, if_pos rfl]
    grind
theorem sum_flatMap {α : Type} (f : α → List Rat) : ∀ xs : List α, (xs.flatMap f).sum = (xs.map fun x => (f x).sum).sum
  | [] => rfl
  | x :: xs => by rw [List.flatMap_cons, List.sum_append, List.map_cons, List.sum_cons, sum_flatMap f xs]
theorem ways_mean {L : Lad} {r : Nat} (hr : r ≤ L.length + 1) (t : Nat) : ∀ g : Nat → Rat, ((waysT (L.length + 1) r t).map fun w => wayP L w * g (lastW w)).sum = sumR (L.length + 2) fun j => aft L r t j * g j := by
  induction t with
  | zero =>
    intro g
    show ([[r]].map fun w => wayP L w * g (lastW w)).sum = _
    rw [List.map_cons, List.map_nil, List.sum_cons, List.sum_nil, sumR_one (k := r) (by omega) fun i hi hn => by rw [aft_zero hi, if_neg hn]; grind, aft_zero (by omega), if_pos rfl]
    show 1 * g r + 0 = 1 * g r
    grind
  | succ t ih =>
    intro g
    rw [aft_exp, ← ih fun q => sumR (L.length + 2) fun j => TL L q j * g j]
    show (((waysT (L.length + 1) r t).flatMap (nxtW (L.length + 1))).map _).sum = _
    rw [List.map_flatMap, sum_flatMap]
    congr 1
    refine List.map_congr_left fun w hw => ?_
    have ho := waysT_ok hr t w hw
    rw [← near_sum ho.last]
    unfold nxtW
    rw [List.map_map, ← sum_map_mul, List.map_map]
    congr 1
    refine List.map_congr_left fun i hi => ?_
    show wayP L (w ++ [lastW w + i - 1]) * g (lastW (w ++ [lastW w + i - 1])) = wayP L w * (TL L (lastW w) (lastW w + i - 1) * g (lastW w + i - 1))
    rw [wayP_app (by rw [ho.len]; omega), lastW_app]; grind
theorem ways_at {L : Lad} {r : Nat} (hr : r ≤ L.length + 1) (t : Nat) {k : Nat} (hk : k ≤ L.length + 1) : (((waysT (L.length + 1) r t).filter fun w => decide (lastW w = k)).map (wayP L)).sum = aft L r t k := by
  rw [sum_filter]
  have := ways_mean hr t (fun j => if decide (j = k) = true then 1 else 0)
  rw [this, sumR_one (k := k) (by omega) fun i hi hn => by rw [if_neg (by simpa using hn)]; grind, if_pos (by simp)]; grind
def R_law_counted (ds : List PyData) (P : PyData → Prop) : Prop := ∃ _ : Unit, ds = [] ∧ P (.bool true)
theorem S_law_counted {P : PyData → Prop} (p : P (.bool true)) : R_law_counted [] P := ⟨(), rfl, p⟩
def R_law_all (ds : List PyData) (P : PyData → Prop) : Prop := ∃ L : Lad, ds = [encL L, .int ((L.length : Int) + 1)] ∧ GL L ∧ L.length ≤ 8 ∧ P (.bool true)
theorem S_law_all {L : Lad} {P : PyData → Prop} (h : GL L) (h8 : L.length ≤ 8) (p : P (.bool true)) : R_law_all [encL L, .int ((L.length : Int) + 1)] P := ⟨L, rfl, h, h8, p⟩
theorem at_lastW {w : List Nat} (h : 1 ≤ w.length) : atI (w.map natD) (-1) = some (natD (lastW w)) := at_neg (f := natD) (j := w.length - 1) (by decide) (by omega) (getD_get (by omega))
end LW
namespace LW
open PySem PySem.Spec PyProof.Rows L2
theorem restL_TL {L : Lad} {r : Nat} (h : r ≤ L.length + 1) : restL L r = TL L r r := by
  by_cases he : r = 0 ∨ L.length < r
  · rw [TL_end he, if_pos rfl]
    unfold restL
    rw [if_pos (by omega)]
  · obtain ⟨s, rfl⟩ : ∃ s, r = s + 1 := ⟨r - 1, by omega⟩
    have hx : L[s]? = some L[s] := List.getElem?_eq_getElem (by omega)
    rw [TL_in hx, if_neg (by omega), if_neg (by omega), if_pos rfl]
    unfold restL
    rw [if_neg (by omega), Nat.add_sub_cancel, hx]
end LW

namespace LW
open PySem PySem.Spec PyProof.Rows L2
/-! ### plain ladders -/
def plainL (n : Nat) : Lad := List.replicate (n - 1) (1 / 2, 1 / 2)
theorem plainL_len (n : Nat) : (plainL n).length = n - 1 := by unfold plainL; rw [List.length_replicate]
theorem plainL_mem {n : Nat} {x : Rat × Rat} (h : x ∈ plainL n) : x = (1 / 2, 1 / 2) := List.eq_of_mem_replicate h
theorem plainL_get {n i : Nat} (h : i < n - 1) : (plainL n)[i]? = some (1 / 2, 1 / 2) := by unfold plainL; rw [List.getElem?_replicate, if_pos h]
theorem half_sh : Sh (1 / 2) := share_of (a := 1) (b := 2) (by decide) (by decide) (by decide)
theorem plain_ok {n : Nat} (h1 : 2 ≤ n) (h2 : n ≤ 9) : Lok (plainL n) := ⟨by rw [plainL_len]; omega, by rw [plainL_len]; omega, fun x hx => by
  rw [plainL_mem hx]; exact ⟨half_sh, half_sh, by decide +kernel⟩⟩
theorem plain_ld (n : Nat) : LD 2 (plainL n) := fun x hx => by
  rw [plainL_mem hx]
  exact ⟨⟨1, by decide +kernel⟩, ⟨1, by decide +kernel⟩⟩
theorem plain_getD {n i : Nat} (h : i < n - 1) : (plainL n).getD i (0, 0) = (1 / 2, 1 / 2) := by rw [List.getD_eq_getElem?_getD, plainL_get h]; rfl
theorem plain_rest {n j : Nat} (h0 : 1 ≤ j) (h : j + 1 ≤ n) : restL (plainL n) j = 0 := by
  unfold restL
  rw [if_neg (by rw [plainL_len]; omega), plainL_get (by omega)]
  show 1 - ((1 / 2 : Rat) + 1 / 2) = 0
  decide +kernel
theorem plain_end {n j : Nat} (hn : 2 ≤ n) (h : j = 0 ∨ j = n) : restL (plainL n) j = 1 := by
  unfold restL
  rw [if_pos (by rw [plainL_len]; omega)]
/-- a step on a plain ladder -/
theorem plain_step {n r t j : Nat} (hn : 2 ≤ n) (hj : j ≤ n) : aft (plainL n) r (t + 1) j = aft (plainL n) r t j * restL (plainL n) j + (if 2 ≤ j then aft (plainL n) r t (j - 1) * (1 / 2) else 0) + (if j + 2 ≤ n then aft (plainL n) r t (j + 1) * (1 / 2) else 0) := by
  have hl := plainL_len n
  rw [aft_succ (by omega)]
  have := sumR_TLcol (L := plainL n) (row := afterL (plainL n) r t) (j := j) (by omega)
  rw [show sumR ((plainL n).length + 2) (fun q => aft (plainL n) r t q * TL (plainL n) q j) = sumR ((plainL n).length + 2) (fun q => rowF (afterL (plainL n) r t) q * TL (plainL n) q j) from rfl, this]
  congr 1
  · congr 1
    by_cases h : 2 ≤ j
    · rw [if_pos h, if_pos h, plain_getD (by omega)]; rfl
    · rw [if_neg h, if_neg h]
  · by_cases h : j + 2 ≤ n
    · rw [if_pos (by omega), if_pos h, plain_getD (by omega)]; rfl
    · rw [if_neg (by omega), if_neg h]
theorem cN_pow (t : Nat) : cN (2 ^ (t + 1)) = cN (2 ^ t) * 2 := by rw [Nat.pow_succ, cN_mul]; rfl
theorem cN_pow_ne (t : Nat) : cN (2 ^ t) ≠ 0 := Rat.ne_of_gt (Rat.intCast_pos.mpr (by have := Nat.pow_pos (n := t) (show 0 < 2 by decide); omega))
theorem cN_add (a b : Nat) : cN (a + b) = cN a + cN b := by show (((a + b : Nat) : Int) : Rat) = _; rw [Int.natCast_add, Rat.intCast_add]
theorem plain_aft {n r : Nat} (hn : 2 ≤ n) (hr : r ≤ n) (t : Nat) : ∀ j, 1 ≤ j → j + 1 ≤ n → aft (plainL n) r t j * cN (2 ^ t) = cN (cnt n r t j) := by
  have hl := plainL_len n
  induction t with
  | zero =>
    intro j h1 h2
    rw [aft_zero (by omega)]
    show _ = cN (if j = r then 1 else 0)
    by_cases e : j = r
    · rw [if_pos e, if_pos e]; decide +kernel
    · rw [if_neg e, if_neg e]; decide +kernel
  | succ t ih =>
    intro j h1 h2
    rw [plain_step hn (by omega), plain_rest h1 h2]
    show _ = cN (cstep n (cnt n r t) j)
    unfold cstep
    rw [cN_add, cN_pow]
    have a1 : (if 2 ≤ j then aft (plainL n) r t (j - 1) * (1 / 2) else 0) * (cN (2 ^ t) * 2) = cN (if 2 ≤ j then cnt n r t (j - 1) else 0) := by
      by_cases h : 2 ≤ j
      · rw [if_pos h, if_pos h, ← ih (j - 1) (by omega) (by omega)]; grind
      · rw [if_neg h, if_neg h]; show 0 * _ = (0 : Rat); grind
    have a2 : (if j + 2 ≤ n then aft (plainL n) r t (j + 1) * (1 / 2) else 0) * (cN (2 ^ t) * 2) = cN (if j + 2 ≤ n then cnt n r t (j + 1) else 0) := by
      by_cases h : j + 2 ≤ n
      · rw [if_pos h, if_pos h, ← ih (j + 1) (by omega) (by omega)]; grind
      · rw [if_neg h, if_neg h]; show 0 * _ = (0 : Rat); grind
    rw [← a1, ← a2]; grind
/-- what comes to an end just then -/
theorem plain_in {n r : Nat} (hn : 2 ≤ n) (hr : r ≤ n) (t : Nat) {j : Nat} (hj : j = 0 ∨ j = n) : (aft (plainL n) r (t + 1) j - aft (plainL n) r t j) * cN (2 ^ (t + 1)) = cN (cnt n r (t + 1) j) := by
  rw [plain_step hn (by omega), plain_end hn hj]
  show _ = cN (cstep n (cnt n r t) j)
  unfold cstep
  rw [cN_add, cN_pow]
  have a1 : (if 2 ≤ j then aft (plainL n) r t (j - 1) * (1 / 2) else 0) * (cN (2 ^ t) * 2) = cN (if 2 ≤ j then cnt n r t (j - 1) else 0) := by
    by_cases h : 2 ≤ j
    · rw [if_pos h, if_pos h, ← plain_aft hn hr t (j - 1) (by omega) (by omega)]; grind
    · rw [if_neg h, if_neg h]; show 0 * _ = (0 : Rat); grind
  have a2 : (if j + 2 ≤ n then aft (plainL n) r t (j + 1) * (1 / 2) else 0) * (cN (2 ^ t) * 2) = cN (if j + 2 ≤ n then cnt n r t (j + 1) else 0) := by
    by_cases h : j + 2 ≤ n
    · rw [if_pos h, if_pos h, ← plain_aft hn hr t (j + 1) (by omega) (by omega)]; grind
    · rw [if_neg h, if_neg h]; show 0 * _ = (0 : Rat); grind
  rw [← a1, ← a2]; grind
theorem plain_zero {n r j : Nat} (hn : 2 ≤ n) (hj : j ≤ n) : aft (plainL n) r 0 j * cN (2 ^ 0) = cN (cnt n r 0 j) := by
  rw [aft_zero (by rw [plainL_len]; omega)]
  show _ = cN (if j = r then 1 else 0)
  by_cases e : j = r
  · rw [if_pos e, if_pos e]; decide +kernel
  · rw [if_neg e, if_neg e]; decide +kernel
theorem plain_top {n r : Nat} (hn : 2 ≤ n) (hr : r ≤ n) (t : Nat) : topL (plainL n) r t = cN (cnt n r t n) / cN (2 ^ t) := by
  have hl : (plainL n).length + 1 = n := by rw [plainL_len]; omega
  have hp := cN_pow_ne t
  unfold topL
  rw [hl]
  cases t with
  | zero => rw [if_pos rfl, ← plain_zero hn (Nat.le_refl n)]; grind
  | succ t => rw [if_neg (by omega), Nat.add_sub_cancel, ← plain_in hn hr t (.inr rfl)]; grind
theorem plain_ends {n r : Nat} (hn : 2 ≤ n) (hr : r ≤ n) (t : Nat) : endsL (plainL n) r t = cN (cnt n r t n + cnt n r t 0) / cN (2 ^ t) := by
  have hl : (plainL n).length + 1 = n := by rw [plainL_len]; omega
  have hp := cN_pow_ne t
  unfold endsL endedL
  rw [hl, cN_add]
  cases t with
  | zero => rw [if_pos rfl, ← plain_zero hn (Nat.le_refl n), ← plain_zero hn (Nat.zero_le n)]; grind
  | succ t => rw [if_neg (by omega), Nat.add_sub_cancel, ← plain_in hn hr t (.inr rfl), ← plain_in hn hr t (.inl rfl)]; grind
/-! counts -/
theorem cnt_le (n r t : Nat) : ∀ j, cnt n r t j ≤ 2 ^ t := by
  induction t with
  | zero => intro j; show (if j = r then 1 else 0) ≤ 1; split <;> omega
  | succ t ih =>
    intro j
    show cstep n (cnt n r t) j ≤ _
    unfold cstep
    rw [Nat.pow_succ]
    have a := ih (j - 1)
    have b := ih (j + 1)
    split <;> split <;> omega
def sumN : Nat → (Nat → Nat) → Nat
  | 0, _ => 0
  | n + 1, f => sumN n f + f n
theorem sumN_congr {n : Nat} {f g : Nat → Nat} (h : ∀ i, i < n → f i = g i) : sumN n f = sumN n g := by
  induction n with
  | zero => rfl
  | succ n ih => show sumN n f + f n = sumN n g + g n; rw [ih fun i hi => h i (by omega), h n (by omega)]
theorem sumN_add (n : Nat) (f g : Nat → Nat) : sumN n (fun i => f i + g i) = sumN n f + sumN n g := by
  induction n with
  | zero => rfl
  | succ n ih => show sumN n _ + (f n + g n) = (sumN n f + f n) + (sumN n g + g n); rw [ih]; omega
theorem sumN_zero (n : Nat) {f : Nat → Nat} (h : ∀ i, i < n → f i = 0) : sumN n f = 0 := by
  induction n with
  | zero => rfl
  | succ n ih => show sumN n f + f n = 0; rw [ih fun i hi => h i (by omega), h n (by omega)]
theorem sumN_one {n k : Nat} {f : Nat → Nat} (hk : k < n) (h : ∀ i, i < n → i ≠ k → f i = 0) : sumN n f = f k := by
  induction n with
  | zero => omega
  | succ n ih =>
    show sumN n f + f n = f k
    by_cases e : k = n
    · subst e
      rw [sumN_zero k fun i hi => h i (by omega) (by omega)]; omega
    · rw [ih (by omega) fun i hi hn => h i (by omega) hn, h n (by omega) (by omega)]; rfl
theorem cnt_split {n r : Nat} (hn : 2 ≤ n) (s m : Nat) : ∀ o, o ≤ n → cnt n r (s + m) o = sumN (n - 1) (fun i => cnt n r s (i + 1) * cnt n (i + 1) m o) + (if m = 0 ∧ (o = 0 ∨ o = n) then cnt n r s o else 0) := by
  induction m with
  | zero =>
    intro o ho
    by_cases he : o = 0 ∨ o = n
    · rw [if_pos ⟨rfl, he⟩, sumN_zero, Nat.zero_add, Nat.add_zero]
      intro i hi
      show _ * (if o = i + 1 then 1 else 0) = 0
      rw [if_neg (by omega), Nat.mul_zero]
    · rw [if_neg (fun h => he h.2), Nat.add_zero, sumN_one (k := o - 1) (by omega) fun i hi hne => by
        show _ * (if o = i + 1 then 1 else 0) = 0
        rw [if_neg (by omega), Nat.mul_zero]]
      show _ = _ * (if o = o - 1 + 1 then 1 else 0)
      rw [if_pos (by omega), Nat.mul_one, show o - 1 + 1 = o by omega]
  | succ m ih =>
    intro o ho
    rw [if_neg (by omega), Nat.add_zero]
    show cstep n (cnt n r (s + m)) o = sumN (n - 1) fun i => cnt n r s (i + 1) * cstep n (cnt n (i + 1) m) o
    unfold cstep
    rw [sumN_congr (f := fun i => cnt n r s (i + 1) * _) (g := fun i => (cnt n r s (i + 1) * (if 2 ≤ o then cnt n (i + 1) m (o - 1) else 0)) + (cnt n r s (i + 1) * (if o + 2 ≤ n then cnt n (i + 1) m (o + 1) else 0))) fun i hi => Nat.mul_add _ _ _, sumN_add]
    congr 1
    · by_cases h : 2 ≤ o
      · rw [if_pos h, ih (o - 1) (by omega), if_neg (by omega), Nat.add_zero]
        exact sumN_congr fun i hi => by rw [if_pos h]
      · rw [if_neg h, sumN_zero]
        intro i hi; rw [if_neg h, Nat.mul_zero]
    · by_cases h : o + 2 ≤ n
      · rw [if_pos h, ih (o + 1) (by omega), if_neg (by omega), Nat.add_zero]
        exact sumN_congr fun i hi => by rw [if_pos h]
      · rw [if_neg h, sumN_zero]
        intro i hi; rw [if_neg h, Nat.mul_zero]
theorem cnt_odd {n r : Nat} (t : Nat) : ∀ j, (j + r + t) % 2 = 1 → cnt n r t j = 0 := by
  induction t with
  | zero => intro j h; show (if j = r then 1 else 0) = 0; rw [if_neg (by omega)]
  | succ t ih =>
    intro j h
    show cstep n (cnt n r t) j = 0
    unfold cstep
    have a : (if 2 ≤ j then cnt n r t (j - 1) else 0) = 0 := by
      split
      · exact ih _ (by omega)
      · rfl
    have b : (if j + 2 ≤ n then cnt n r t (j + 1) else 0) = 0 := by
      split
      · exact ih _ (by omega)
      · rfl
    omega
theorem ups_app {w : List Nat} (h : 1 ≤ w.length) (y : Nat) : upsW (w ++ [y]) = upsW w + if lastW w < y then 1 else 0 := by
  unfold upsW
  have e : (w ++ [y]).length - 1 = (w.length - 1) + 1 := by rw [List.length_append]; show w.length + 1 - 1 = _; omega
  rw [e, List.range_succ, List.filter_append, List.length_append]
  congr 1
  · congr 1
    refine List.filter_congr fun i hi => ?_
    have := List.mem_range.mp hi
    rw [getD_app (by omega), getD_app (by omega)]
  · have e2 := lastW_app w y
    unfold lastW at e2
    rw [List.length_append] at e2
    have e2 : (w ++ [y]).getD w.length 0 = y := e2
    have e3 : (w ++ [y]).getD (w.length - 1) 0 = lastW w := getD_app (by omega)
    by_cases hlt : lastW w < y
    · rw [List.filter_cons_of_pos (by rw [show w.length - 1 + 1 = w.length by omega, e2, e3]; exact decide_eq_true hlt), if_pos hlt]; rfl
    · rw [List.filter_cons_of_neg (by rw [show w.length - 1 + 1 = w.length by omega, e2, e3, decide_eq_false hlt]; exact Bool.false_ne_true), if_neg hlt]; rfl
abbrev halfD (t : Nat) : PyData := .tuple [.int 1, .int ((2 ^ t : Nat) : Int)]
theorem half_enc (t : Nat) : halfD t = enc (1 / cN (2 ^ t)) := by
  have := enc_frac (a := 1) (b := ((2 ^ t : Nat) : Int)) (by have := Nat.pow_pos (n := t) (show 0 < 2 by decide); omega) (by rw [show (1 : Int).natAbs = 1 from rfl, Nat.gcd_one_left])
  exact this
def R_law_line (ds : List PyData) (P : PyData → Prop) : Prop := ∃ n r t : Nat, ds = [encL (plainL n), natD n, natD r, natD t, halfD t] ∧ 2 ≤ n ∧ n ≤ 9 ∧ r ≤ n ∧ t ≤ 13 ∧ P (.bool true)
theorem S_law_line {n r t : Nat} {P : PyData → Prop} (h1 : 2 ≤ n) (h2 : n ≤ 9) (h3 : r ≤ n) (h4 : t ≤ 13) (p : P (.bool true)) : R_law_line [encL (plainL n), natD n, natD r, natD t, halfD t] P := ⟨n, r, t, rfl, h1, h2, h3, h4, p⟩
/-- a line of single steps -/
structure LineOk (n r : Nat) (w : List Nat) : Prop where
  ge : 1 ≤ w.length
  le : ∀ x ∈ w, x ≤ n
  ch : wayP (plainL n) w = 1 / cN (2 ^ (w.length - 1))
  ct : 1 ≤ cnt n r (w.length - 1) (lastW w)
  up : 2 * upsW w + r = (w.length - 1) + lastW w
theorem LineOk.one {n r : Nat} (h : r ≤ n) : LineOk n r [r] := ⟨Nat.le_refl 1, fun x hx => by
  have : x = r := by simpa using hx
  omega, by show (1 : Rat) = 1 / cN (2 ^ 0); decide +kernel, by show 1 ≤ (if r = r then 1 else 0); rw [if_pos rfl]; exact Nat.le_refl 1, by show 2 * 0 + r = 0 + r; omega⟩
theorem LineOk.app {n r : Nat} {w : List Nat} (h : LineOk n r w) (h0 : 0 < lastW w) (hn : lastW w < n) {y : Nat} (hy : y = lastW w + 1 ∨ y + 1 = lastW w) : LineOk n r (w ++ [y]) := by
  have hg := h.ge
  have el : (w ++ [y]).length - 1 = (w.length - 1) + 1 := by rw [List.length_append]; show w.length + 1 - 1 = _; omega
  refine ⟨by rw [List.length_append]; omega, fun x hx => ?_, ?_, ?_, ?_⟩
  · rcases List.mem_append.mp hx with hx | hx
    · exact h.le x hx
    · have : x = y := by simpa using hx
      omega
  · rw [wayP_app hg, h.ch, el]
    obtain ⟨s, hs⟩ : ∃ s, lastW w = s + 1 := ⟨lastW w - 1, by omega⟩
    have et : TL (plainL n) (lastW w) y = 1 / 2 := by
      rw [hs, TL_in (plainL_get (by omega))]
      rcases hy with hy | hy
      · rw [if_pos (by omega)]
      · rw [if_neg (by omega), if_pos (by omega)]
    have := cN_pow_ne (w.length - 1)
    rw [et, cN_pow]; grind
  · rw [el, lastW_app]
    show 1 ≤ cstep n (cnt n r (w.length - 1)) y
    have hc := h.ct
    unfold cstep
    rcases hy with hy | hy
    · rw [if_pos (by omega), show y - 1 = lastW w by omega]; omega
    · rw [if_pos (c := y + 2 ≤ n) (by omega), hy]; omega
  · rw [ups_app hg, el, lastW_app]
    have := h.up
    rcases hy with hy | hy
    · rw [if_pos (by omega)]; omega
    · rw [if_neg (by omega)]; omega
end LW

namespace LW
open PySem PySem.Spec PyProof.Rows L2
/-! ### a def under another name -/
def DefInA (K : PySem.W.Frag) (mg : Str → Option Value) (key x : Str) (st : Stmt) (ps : List Str) : Prop := ∃ (f : Addr) (fd : FuncData), Fun K x x st f fd ∧ mg key = some (.ref f) ∧ Binds K fd ps []
section
variable {P : Program} {w : World} {K : PySem.W.Frag} {mg : Str → Option Value} {base : Heap}
theorem has_pureA {key x : Str} {st : Stmt} {N ps : List Str} {k : Nat} {R : List PyData → (PyData → Prop) → Prop} (F : DefInA K mg key x st ps) (S : FnScope N ps (defScope st)) (len : ∀ ds Q, R ds Q → ds.length = ps.length)
    (hb : ∀ (f : Addr) (cdv : Value) (A : Around) (outer : List Env) (s : Shared) (H : Hp) (E : XK), Room k (A.deeper (envOfC x (defScope st) s.heap.objs.size f cdv)) →
      ∃ t, PSs (cxOf CX0 P w K mg base N x (defScope st) f cdv A outer s H E).nox (defBody st) t ∧ ∀ ds Q, R ds Q → DS EE X0 t (entry N.length ds) (fun _ => Q .none) (fun _ => Q)) : Has P w K mg base CX0 key ps (k + 1) (PSp R) := by
  obtain ⟨f, fd, F, m, b⟩ := F
  refine ⟨f, fd, F.ok S (fun vs H Q E h => ?_) (fun cdv A outer s H vs Q E hr h => ?_), m, F.kp, b⟩
  · obtain ⟨O, ds, P', _, y, r, _⟩ := h
    rw [y.length]; exact len ds P' r
  · obtain ⟨O, ds, P', hd, y, r, q⟩ := h
    obtain ⟨t, ht, h⟩ := hb f cdv A outer s H E hr
    refine ⟨t, ht, h ds P' r _ O _ H _ (rel_entry hd y) eok0 (fun O' ρ' σ' H' x n => ?_) fun O' ρ' σ' v d H' x z p => ?_⟩
    · exact q .non .none H' (fun a o e => x.frame a o e id) .non n
    · exact q v d H' (fun a o e => x.frame a o e id) (z.sub x.sub) p
theorem defInA_mk {h : Heap} {key x : Str} {st : Stmt} {ps : List Str} {f : Addr} {oc : Value} {od an : Option Addr} {osl : Array (Option Value)} {kV doc pm cdv ct : Value} (X : K.In h) (G : h.Ns mainGlobals mg)
    (a : PySem.W.nsIn K mainGlobals key = some (some (.ref f)))
    (l : K.lookup f = some ⟨oc, od, .func (PySem.W.fnOf x x (defArgs st) (defBody st) (defScope st) .none kV doc pm an cdv ct), osl⟩)
    (c : PySem.W.codeIn K cdv x = true) (k : PySem.W.keepIn K (.ref f) = true)
    (hb : ∀ (kV doc pm : Value) (an : Option Addr) (cdv ct : Value) (us : List Value), us.length = ps.length → bindArgs (PySem.W.fnOf x x (defArgs st) (defBody st) (defScope st) .none kV doc pm an cdv ct) ⟨us, []⟩ = pure (ps.zip us)) : DefInA K mg key x st ps :=
  ⟨f, _, fun_mk l c k, PySem.W.mg_of X G a, (fun_mk l c k).binds hb⟩
end
/-! ### rows of chances -/
def R_is_part (ds : List PyData) (P : PyData → Prop) : Prop := ∃ r : Rat, ds = [enc r] ∧ P (.bool (decide (0 ≤ r) && decide (r ≤ 1)))
theorem S_is_part {r : Rat} {P : PyData → Prop} (p : P (.bool (decide (0 ≤ r) && decide (r ≤ 1)))) : R_is_part [enc r] P := ⟨r, rfl, p⟩
theorem num_nonneg (r : Rat) : 0 ≤ r.num ↔ 0 ≤ r := by
  have h := Rat.le_iff 0 r
  rw [h]
  show _ ↔ (0 : Int) * (r.den : Int) ≤ r.num * ((1 : Nat) : Int)
  rw [Int.zero_mul, Int.natCast_one, Int.mul_one]
theorem num_le_den (r : Rat) : r.num ≤ (r.den : Int) ↔ r ≤ 1 := by
  have h := Rat.le_iff r 1
  rw [h]
  show _ ↔ r.num * ((1 : Nat) : Int) ≤ (1 : Int) * (r.den : Int)
  rw [Int.one_mul, Int.natCast_one, Int.mul_one]
def isRow (row : List Rat) : Bool := decide (3 ≤ row.length) && decide (row.length ≤ 10) && (row.all fun r => decide (0 ≤ r) && decide (r ≤ 1)) && decide (rowF row 0 = 0) && decide (rowF row (row.length - 1) = 1) && ((List.range (row.length - 1)).all fun i => decide (rowF row i < rowF row (i + 1)))
structure Row (row : List Rat) : Prop where
  ge : 3 ≤ row.length
  le : row.length ≤ 10
  part : ∀ r ∈ row, 0 ≤ r ∧ r ≤ 1
  lo : rowF row 0 = 0
  hi : rowF row (row.length - 1) = 1
  inc : ∀ i, i + 1 < row.length → rowF row i < rowF row (i + 1)
theorem isRow_iff (row : List Rat) : isRow row = true ↔ Row row := by
  unfold isRow
  simp only [Bool.and_eq_true, decide_eq_true_eq, List.all_eq_true, List.mem_range]
  constructor
  · rintro ⟨⟨⟨⟨⟨h1, h2⟩, h3⟩, h4⟩, h5⟩, h6⟩
    exact ⟨h1, h2, h3, h4, h5, fun i hi => h6 i (by omega)⟩
  · rintro ⟨h1, h2, h3, h4, h5, h6⟩
    exact ⟨⟨⟨⟨⟨h1, h2⟩, h3⟩, h4⟩, h5⟩, fun i hi => h6 i (by omega)⟩
def R_is_chance_row (ds : List PyData) (P : PyData → Prop) : Prop := ∃ (row : List Rat) (n : Nat), ds = [.list (row.map enc)] ∧ row.length ≤ 1000 ∧ (∀ r ∈ row, Bd n r) ∧ n ≤ 4000 ∧ P (.bool (isRow row))
theorem S_is_chance_row {row : List Rat} {n : Nat} {P : PyData → Prop} (hl : row.length ≤ 1000) (h : ∀ r ∈ row, Bd n r) (hn : n ≤ 4000) (p : P (.bool (isRow row))) : R_is_chance_row [.list (row.map enc)] P := ⟨row, n, rfl, hl, h, hn, p⟩
def R_check_row (ds : List PyData) (P : PyData → Prop) : Prop := ∃ (row : List Rat) (n : Nat), ds = [.list (row.map enc)] ∧ Row row ∧ (∀ r ∈ row, Bd n r) ∧ n ≤ 4000 ∧ P .none
theorem S_check_row {row : List Rat} {n : Nat} {P : PyData → Prop} (hr : Row row) (h : ∀ r ∈ row, Bd n r) (hn : n ≤ 4000) (p : P .none) : R_check_row [.list (row.map enc)] P := ⟨row, n, rfl, hr, h, hn, p⟩
theorem rowF_mem {row : List Rat} {i : Nat} (h : i < row.length) : rowF row i ∈ row := by
  have e : row[i]? = some row[i] := List.getElem?_eq_getElem h
  rw [rowF_get e]; exact List.getElem_mem h
theorem rowF_some {row : List Rat} {i : Nat} (h : i < row.length) : row[i]? = some (rowF row i) := by
  have e : row[i]? = some row[i] := List.getElem?_eq_getElem h
  rw [rowF_get e]; exact e
theorem at_row {row : List Rat} {i : Int} {j : Nat} (e : i = (j : Int)) (h : j < row.length) : atI (row.map enc) i = some (enc (rowF row j)) := at_map e (rowF_some h)
theorem at_rowL {row : List Rat} (h : 1 ≤ row.length) : atI (row.map enc) (-1) = some (enc (rowF row (row.length - 1))) := at_neg (j := row.length - 1) (by decide) (by omega) (rowF_some (by omega))
def quotF (row : List Rat) (i : Nat) : Rat := (rowF row (i + 2) - rowF row (i + 1)) / (rowF row (i + 1) - rowF row i)
def quotFrom (row : List Rat) : List Rat := (List.range (row.length - 2)).map (quotF row)
theorem quotFrom_len (row : List Rat) : (quotFrom row).length = row.length - 2 := by unfold quotFrom; rw [List.length_map, List.length_range]
def R_quotients_from_of (ds : List PyData) (P : PyData → Prop) : Prop := ∃ (row : List Rat) (n : Nat), ds = [.list (row.map enc)] ∧ Row row ∧ (∀ r ∈ row, Bd n r) ∧ n ≤ 1000 ∧ P (.list ((quotFrom row).map enc))
theorem S_quotients_from_of {row : List Rat} {n : Nat} {P : PyData → Prop} (hr : Row row) (h : ∀ r ∈ row, Bd n r) (hn : n ≤ 1000) (p : P (.list ((quotFrom row).map enc))) : R_quotients_from_of [.list (row.map enc)] P := ⟨row, n, rfl, hr, h, hn, p⟩
def R_quotients_from (ds : List PyData) (P : PyData → Prop) : Prop := R_quotients_from_of ds P
theorem S_quotients_from {row : List Rat} {n : Nat} {P : PyData → Prop} (hr : Row row) (h : ∀ r ∈ row, Bd n r) (hn : n ≤ 1000) (p : P (.list ((quotFrom row).map enc))) : R_quotients_from [.list (row.map enc)] P := ⟨row, n, rfl, hr, h, hn, p⟩
theorem quotF_bd {row : List Rat} {n i : Nat} (hr : Row row) (h : ∀ r ∈ row, Bd n r) (hi : i + 2 < row.length) : Bd (4 * n + 2) (quotF row i) ∧ 0 < quotF row i := by
  have h1 := hr.inc i (by omega)
  have h2 := hr.inc (i + 1) (by omega)
  have a := h _ (rowF_mem (row := row) (i := i) (by omega))
  have b := h _ (rowF_mem (row := row) (i := i + 1) (by omega))
  have c := h _ (rowF_mem (row := row) (i := i + 2) (by omega))
  have h2 : rowF row (i + 1) < rowF row (i + 2) := h2
  exact ⟨((c.sub b).quo (b.sub a) (by grind)).mono (by omega), div_pos (by grind) (by grind)⟩
/-- the ladder told by a row of chances and the shares that stay -/
def ladF (q k : Rat) : Rat × Rat := ((1 - k) / (1 + q), (1 - k) / (1 + q) * q)
def ladFrom (row kept : List Rat) : Lad := List.zipWith ladF (quotFrom row) kept
def R_ladder_from (ds : List PyData) (P : PyData → Prop) : Prop := ∃ (row kept : List Rat) (n : Nat), ds = [.list (row.map enc), .list (kept.map enc)] ∧ Row row ∧ (∀ r ∈ row, Bd n r) ∧ (∀ r ∈ kept, Bd n r) ∧ n ≤ 500 ∧ kept.length + 2 = row.length ∧ (∀ k ∈ kept, 0 ≤ k ∧ k < 1) ∧ Lok (ladFrom row kept) ∧ P (encL (ladFrom row kept))
theorem S_ladder_from {row kept : List Rat} {n : Nat} {P : PyData → Prop} (hr : Row row) (h : ∀ r ∈ row, Bd n r) (h' : ∀ r ∈ kept, Bd n r) (hn : n ≤ 500) (hl : kept.length + 2 = row.length) (hk : ∀ k ∈ kept, 0 ≤ k ∧ k < 1) (ho : Lok (ladFrom row kept)) (p : P (encL (ladFrom row kept))) : R_ladder_from [.list (row.map enc), .list (kept.map enc)] P := ⟨row, kept, n, rfl, hr, h, h', hn, hl, hk, ho, p⟩
def restsL (L : Lad) : List Rat := L.map fun x => 1 - (x.1 + x.2)
def R_rests (ds : List PyData) (P : PyData → Prop) : Prop := ∃ L : Lad, ds = [encL L] ∧ Lok L ∧ P (.list ((restsL L).map enc))
theorem S_rests {L : Lad} {P : PyData → Prop} (h : Lok L) (p : P (.list ((restsL L).map enc))) : R_rests [encL L] P := ⟨L, rfl, h, p⟩
def quickL (L : Lad) : Lad := L.map fun x => (x.1 / (x.1 + x.2), x.2 / (x.1 + x.2))
def R_without_stays (ds : List PyData) (P : PyData → Prop) : Prop := ∃ L : Lad, ds = [encL L] ∧ Lok L ∧ Lok (quickL L) ∧ P (encL (quickL L))
theorem S_without_stays {L : Lad} {P : PyData → Prop} (h : Lok L) (h2 : Lok (quickL L)) (p : P (encL (quickL L))) : R_without_stays [encL L] P := ⟨L, rfl, h, h2, p⟩
/-- the row of a ladder's chances -/
theorem hs_row {L : Lad} (h : Lok L) : Row (hs L) := by
  have lw := h.lw
  have hf : ∀ i, i ≤ L.length + 1 → rowF (hs L) i = hB L i := fun i hi => rowF_get (hs_get hi)
  have hlen := hs_len L
  have hm : ∀ i j, i ≤ j → j ≤ L.length + 1 → hB L i ≤ hB L j := fun i j hij hj => by
    induction j with
    | zero => have : i = 0 := by omega
              subst this; exact Rat.le_refl
    | succ j ih =>
      by_cases e : i = j + 1
      · subst e; exact Rat.le_refl
      · have := ih (by omega) (by omega)
        have := hB_lt lw (r := j) (by omega)
        grind
  refine ⟨by have := h.ge; omega, by have := h.le; omega, fun r hr => ?_, by rw [hf 0 (by omega)]; exact hB_zero L, ?_, fun i hi => ?_⟩
  · unfold hs at hr
    obtain ⟨i, hi, rfl⟩ := List.mem_map.mp hr
    have hi := List.mem_range.mp hi
    refine ⟨hB_nonneg lw i (by omega), ?_⟩
    have := hm i (L.length + 1) (by omega) (Nat.le_refl _)
    rwa [hB_top lw rfl] at this
  · rw [hlen, show L.length + 2 - 1 = L.length + 1 by omega, hf _ (Nat.le_refl _)]
    exact hB_top lw rfl
  · rw [hlen] at hi
    rw [hf i (by omega), hf (i + 1) (by omega)]
    exact hB_lt lw (by omega)
theorem hs_quot {L : Lad} (h : Lok L) : quotFrom (hs L) = qs L := by
  have lw := h.lw
  have hf : ∀ i, i ≤ L.length + 1 → rowF (hs L) i = hB L i := fun i hi => rowF_get (hs_get hi)
  unfold quotFrom
  rw [hs_len, Nat.add_sub_cancel]
  apply List.ext_getElem?
  intro i
  by_cases hi : i < L.length
  · rw [List.getElem?_map, List.getElem?_range hi]
    obtain ⟨a, S, ha, hS, e1, e2⟩ := hs_diff lw hi
    have e3 : (qs L)[i]? = some ((qs L)[i]'(by rw [qs_len]; exact hi)) := List.getElem?_eq_getElem _
    rw [e3]
    show some (quotF (hs L) i) = _
    congr 1
    unfold quotF
    rw [hf _ (by omega), hf _ (by omega), hf _ (by omega), e1, e2]
    have han := Rat.ne_of_gt ha
    have hSn := Rat.ne_of_gt hS
    grind
  · rw [List.getElem?_eq_none (by rw [List.length_map, List.length_range]; omega), List.getElem?_eq_none (by rw [qs_len]; omega)]
theorem ladFrom_hs {L : Lad} (h : Lok L) : ladFrom (hs L) (restsL L) = L := by
  unfold ladFrom
  rw [hs_quot h]
  unfold qs restsL
  rw [List.zipWith_map, List.zipWith_self]
  have : ∀ x ∈ L, ladF (x.2 / x.1) (1 - (x.1 + x.2)) = x := fun x hx => by
    have h1 := Rat.ne_of_gt (h.sh x hx).1.pos
    have h2 := (h.sh x hx).1.pos
    have h3 := (h.sh x hx).2.1.pos
    have h4 : x.1 + x.2 ≠ 0 := by grind
    have e : 1 + x.2 / x.1 = (x.1 + x.2) / x.1 := by grind
    have e2 : (x.1 + x.2) / x.1 ≠ 0 := by
      have := div_pos (show 0 < x.1 + x.2 by grind) h2
      grind
    unfold ladF
    rw [e]
    ext
    · show (1 - (1 - (x.1 + x.2))) / ((x.1 + x.2) / x.1) = x.1
      grind
    · show (1 - (1 - (x.1 + x.2))) / ((x.1 + x.2) / x.1) * (x.2 / x.1) = x.2
      grind
  rw [List.map_congr_left this]
  exact List.map_id _
end LW

namespace LW
open PySem PySem.Spec PyProof.Rows L2
/-! ### mean rungs, fair ladders -/
def meanF (n : Nat) (f : Nat → Rat) : Rat := sumR n fun j => f j * cN j
def R_law_mean (ds : List PyData) (P : PyData → Prop) : Prop := ∃ (row : List Rat) (D k : Nat), ds = [.list (row.map enc)] ∧ row.length ≤ 10 ∧ (∀ x ∈ row, Fz D 1 x) ∧ 0 < D ∧ D * 128 < 2 ^ k ∧ k ≤ 4000 ∧ P (enc (meanF row.length (rowF row)))
theorem S_law_mean {row : List Rat} {D k : Nat} {P : PyData → Prop} (hl : row.length ≤ 10) (h : ∀ x ∈ row, Fz D 1 x) (h0 : 0 < D) (hk : D * 128 < 2 ^ k) (hk2 : k ≤ 4000) (p : P (enc (meanF row.length (rowF row)))) : R_law_mean [.list (row.map enc)] P := ⟨row, D, k, rfl, hl, h, h0, hk, hk2, p⟩
theorem Fz.nat {j : Nat} (h : j ≤ 10) : Fz 1 10 (cN j) := by
  have h1 : (0 : Rat) ≤ cN j := Rat.intCast_nonneg.mpr (by omega)
  have h2 : cN j ≤ cN 10 := Rat.intCast_le_intCast.mpr (by omega)
  refine ⟨⟨j, ?_⟩, ?_, h2⟩
  · show cN j * ((1 : Int) : Rat) = _; rw [show ((1 : Int) : Rat) = 1 from rfl, Rat.mul_one]
  · show -(cN 10) ≤ cN j
    have : (0 : Rat) ≤ cN 10 := by decide
    grind
theorem num_times (r : Rat) (j : Nat) : ((r.num * (j : Int) : Int) : Rat) / ((r.den : Int) : Rat) = r * cN j := by
  have h1 := rat_eq r
  have h3 := den_ne r
  rw [cast_mul]
  show (r.num : Rat) * cN j / _ = _
  generalize ((r.den : Int) : Rat) = a at *
  generalize ((r.num : Int) : Rat) = c at *
  rw [h1]
  grind
theorem enc_int (n : Int) : PyData.tuple [.int n, .int 1] = enc (n : Rat) := by
  have := enc_frac (a := n) (b := 1) (by decide) (by simp)
  rw [this]
  congr 1
  show (n : Rat) / 1 = n
  grind
theorem meanF_congr {n : Nat} {f g : Nat → Rat} (h : ∀ i, i < n → f i = g i) : meanF n f = meanF n g := sumR_congr fun i hi => by rw [h i hi]
theorem mean_step {L : Lad} {k t : Nat} : meanF (L.length + 2) (aft L k (t + 1)) = meanF (L.length + 2) (aft L k t) + sumR L.length (fun i => aft L k t (i + 1) * ((L.getD i (0, 0)).1 - (L.getD i (0, 0)).2)) := by
  unfold meanF
  rw [aft_exp]
  have e : ∀ q, q < L.length + 2 → aft L k t q * sumR (L.length + 2) (fun j => TL L q j * cN j) = aft L k t q * cN q + (if q = 0 ∨ L.length < q then 0 else aft L k t q * ((L.getD (q - 1) (0, 0)).1 - (L.getD (q - 1) (0, 0)).2)) := fun q hq => by
    by_cases he : q = 0 ∨ L.length < q
    · rw [TL_sumE he hq, if_pos he]; grind
    · obtain ⟨s, rfl⟩ : ∃ s, q = s + 1 := ⟨q - 1, by omega⟩
      have hx : L[s]? = some L[s] := List.getElem?_eq_getElem (by omega)
      rw [TL_sum hx, if_neg he, Nat.add_sub_cancel, List.getD_eq_getElem?_getD, hx]
      show aft L k t (s + 1) * (L[s].1 * cN (s + 2) + L[s].2 * cN s + (1 - (L[s].1 + L[s].2)) * cN (s + 1)) = aft L k t (s + 1) * cN (s + 1) + aft L k t (s + 1) * (L[s].1 - L[s].2)
      have h1 : cN (s + 2) = cN s + 2 := cN_add s 2
      have h2 : cN (s + 1) = cN s + 1 := cN_add s 1
      rw [h1, h2]
      grind
  rw [sumR_congr e, sumR_add]
  congr 1
  rw [sumR_succ']
  show (if (0 : Nat) = 0 ∨ L.length < 0 then (0 : Rat) else _) + (sumR L.length _ + _) = _
  rw [if_pos (.inl rfl)]
  dsimp only
  rw [if_pos (show L.length + 1 = 0 ∨ L.length < L.length + 1 from .inr (by omega))]
  rw [sumR_congr (g := fun i => aft L k t (i + 1) * ((L.getD i (0, 0)).1 - (L.getD i (0, 0)).2)) fun i hi => by rw [if_neg (by omega), Nat.add_sub_cancel]]
  grind
/-- the mean rung of a fair ladder stays -/
theorem mean_zero {L : Lad} {k : Nat} (hk : k < L.length + 2) : meanF (L.length + 2) (aft L k 0) = cN k := by
  unfold meanF
  rw [sumR_one (k := k) hk fun i hi hn => by rw [aft_zero hi, if_neg hn]; grind, aft_zero hk, if_pos rfl]; grind
theorem mean_fair {L : Lad} (hf : ∀ x ∈ L, x.1 = x.2) {k : Nat} (hk : k < L.length + 2) (t : Nat) : meanF (L.length + 2) (aft L k t) = cN k := by
  induction t with
  | zero => exact mean_zero hk
  | succ t ih =>
    rw [mean_step, ih, sumR_zero]
    · grind
    · intro i hi
      have hx : L[i]? = some L[i] := List.getElem?_eq_getElem hi
      rw [List.getD_eq_getElem?_getD, hx]
      have := hf L[i] (List.getElem_mem hi)
      show _ * (L[i].1 - L[i].2) = 0
      grind
/-- a fair ladder of told shares -/
def fairL (us : List Rat) : Lad := us.map fun u => (u, u)
theorem fairL_len (us : List Rat) : (fairL us).length = us.length := by unfold fairL; rw [List.length_map]
theorem fairL_mem {us : List Rat} {x : Rat × Rat} (h : x ∈ fairL us) : x.1 ∈ us ∧ x.1 = x.2 := by
  obtain ⟨u, hu, rfl⟩ := List.mem_map.mp h; exact ⟨hu, rfl⟩
def fs4 : List Rat := [1 / 2, 1 / 3, 1 / 4, 2 / 5]
theorem fs4_ok {u : Rat} (h : u ∈ fs4) : Sh u ∧ u + u ≤ 1 ∧ ∃ a : Int, u * ((60 : Nat) : Int) = (a : Rat) := by
  unfold fs4 at h
  simp only [List.mem_cons, List.not_mem_nil, or_false] at h
  rcases h with h | h | h | h <;> subst h
  · exact ⟨⟨by decide +kernel, by decide +kernel, by decide +kernel⟩, by decide +kernel, 30, by decide +kernel⟩
  · exact ⟨⟨by decide +kernel, by decide +kernel, by decide +kernel⟩, by decide +kernel, 20, by decide +kernel⟩
  · exact ⟨⟨by decide +kernel, by decide +kernel, by decide +kernel⟩, by decide +kernel, 15, by decide +kernel⟩
  · exact ⟨⟨by decide +kernel, by decide +kernel, by decide +kernel⟩, by decide +kernel, 24, by decide +kernel⟩
theorem fairL_ok {us : List Rat} (h : ∀ u ∈ us, u ∈ fs4) (h1 : 1 ≤ us.length) (h2 : us.length ≤ 8) : Lok (fairL us) ∧ LD 60 (fairL us) := by
  refine ⟨⟨by rw [fairL_len]; exact h1, by rw [fairL_len]; exact h2, fun x hx => ?_⟩, fun x hx => ?_⟩
  · obtain ⟨a, b⟩ := fairL_mem hx
    have := fs4_ok (h _ a)
    rw [← b]; exact ⟨this.1, this.1, this.2.1⟩
  · obtain ⟨a, b⟩ := fairL_mem hx
    have := fs4_ok (h _ a)
    rw [← b]; exact ⟨this.2.2, this.2.2⟩
theorem fairL_all (us : List Rat) : ((fairL us).all fun x => decide (x.1 = x.2)) = true := List.all_eq_true.mpr fun x hx => decide_eq_true (fairL_mem hx).2
theorem qs_fair {L : Lad} (h : Lw L) (hf : (L.all fun x => decide (x.1 = x.2)) = true) : qs L = List.replicate L.length 1 := by
  rw [List.eq_replicate_iff]
  exact ⟨qs_len L, qs_one h hf⟩
theorem rep_flat {α : Type} (x : α) : ∀ n : Nat, (List.replicate n [x]).flatten = List.replicate n x
  | 0 => rfl
  | n + 1 => by rw [List.replicate_succ, List.flatten_cons, rep_flat x n, List.replicate_succ]; rfl
theorem plain_fair (n : Nat) : ((plainL n).all fun x => decide (x.1 = x.2)) = true := List.all_eq_true.mpr fun x hx => by rw [plainL_mem hx]; exact decide_eq_true rfl
theorem plain_sz {n : Nat} (h1 : 2 ≤ n) (h2 : n ≤ 9) : Sz (plainL n) := ⟨(plain_ok h1 h2).lw, (plain_ok h1 h2).st, 2, by decide, by decide, (plain_ld n).r (by decide)⟩
theorem quick_fair {us : List Rat} (h : ∀ u ∈ us, u ∈ fs4) : quickL (fairL us) = plainL (us.length + 1) := by
  unfold quickL plainL
  rw [List.eq_replicate_iff]
  refine ⟨by rw [List.length_map, fairL_len]; rfl, fun y hy => ?_⟩
  obtain ⟨x, hx, rfl⟩ := List.mem_map.mp hy
  obtain ⟨a, b⟩ := fairL_mem hx
  have := (fs4_ok (h _ a)).1.pos
  have hn := Rat.ne_of_gt this
  rw [← b]
  have e : x.1 / (x.1 + x.1) = 1 / 2 := by grind
  rw [e]
theorem mM_plain {n : Nat} (h1 : 2 ≤ n) (h2 : n ≤ 9) : ∀ r, r ≤ n → mM (plainL n) r = cN r * (cN n - cN r) := by
  have lw := (plain_ok h1 h2).lw
  have hl := plainL_len n
  intro r hr
  refine harm_eq lw.pos (f := mM (plainL n)) (g := fun r => cN r * (cN n - cN r)) (fun _ => 1) ?_ ?_ (fun r x hx => ?_) (fun r x hx => ?_) r (by omega)
  · rw [mM_zero]; show (0 : Rat) = 0 * _; grind
  · rw [mM_top lw rfl, hl, show n - 1 + 1 = n by omega]; grind
  · have := mM_step lw hx; grind
  · have e := plainL_mem (List.mem_of_getElem? hx)
    subst e
    show (1 / 2 : Rat) * (cN (r + 2) * (cN n - cN (r + 2))) + 1 / 2 * (cN r * (cN n - cN r)) + 1 = (1 / 2 + 1 / 2) * (cN (r + 1) * (cN n - cN (r + 1)))
    have a1 : cN (r + 2) = cN r + 2 := cN_add r 2
    have a2 : cN (r + 1) = cN r + 1 := cN_add r 1
    rw [a1, a2]; grind
theorem plain_long {n : Nat} (h1 : 2 ≤ n) (h2 : n ≤ 9) {b : Nat} (hb : b ≤ n) (hm : ∀ j, j ≤ n → mM (plainL n) j ≤ mM (plainL n) b) (hf : ∀ j, j < b → mM (plainL n) j < mM (plainL n) b) : b = n / 2 := by
  have key : ∀ j : Nat, j ≤ n → mM (plainL n) j = ((((j * (n - j) : Nat)) : Int) : Rat) := fun j hj => by
    rw [mM_plain h1 h2 j hj]
    show _ = cN (j * (n - j))
    rw [cN_mul]
    have : cN n = cN (n - j) + cN j := by rw [← cN_add]; congr 1; omega
    rw [this]; grind
  have hm' : ∀ j, j ≤ n → j * (n - j) ≤ b * (n - b) := fun j hj => by
    have := hm j hj
    rw [key j hj, key b hb] at this
    have := Rat.intCast_le_intCast.mp this
    omega
  have hf' : ∀ j, j < b → j * (n - j) < b * (n - b) := fun j hj => by
    have := hf j hj
    rw [key j (by omega), key b hb] at this
    have := Rat.intCast_lt_intCast.mp this
    omega
  have hall : ((List.range 10).all fun n => (List.range 10).all fun b => !decide (b ≤ n) || !decide (2 ≤ n) || !decide ((n / 2) * (n - n / 2) ≤ b * (n - b)) || (decide (n / 2 < b) && !decide ((n / 2) * (n - n / 2) < b * (n - b))) || decide (b = n / 2)) = true := by decide +kernel
  have h3 := List.all_eq_true.mp (List.all_eq_true.mp hall n (List.mem_range.mpr (by omega))) b (List.mem_range.mpr (by omega))
  simp only [Bool.or_eq_true, Bool.and_eq_true, Bool.not_eq_true', decide_eq_true_eq, decide_eq_false_iff_not] at h3
  rcases h3 with (((h3 | h3) | h3) | h3) | h3
  · exact absurd hb h3
  · exact absurd h1 h3
  · exact absurd (hm' _ (by omega)) h3
  · exact absurd (hf' _ h3.1) h3.2
  · exact h3
/-- the mean end tells whether a ladder is fair -/
theorem end_fair {L : Lad} (h : Lw L) : (((List.range (L.length + 2)).filter fun k => !decide (((L.length + 1 : Int) : Rat) * hB L k = cN k)).isEmpty) = L.all fun x => decide (x.1 = x.2) := by
  rw [Bool.eq_iff_iff, List.isEmpty_iff, List.filter_eq_nil_iff]
  simp only [Bool.not_eq_true', decide_eq_false_iff_not, Decidable.not_not, List.mem_range]
  have hn : ((L.length + 1 : Int) : Rat) ≠ 0 := Rat.ne_of_gt (Rat.intCast_pos.mpr (by omega))
  constructor
  · intro hq
    refine List.all_eq_true.mpr fun x hx => ?_
    obtain ⟨i, hi⟩ := List.getElem?_of_mem hx
    have hlt := (List.getElem?_eq_some_iff.mp hi).1
    have a0 := hq i (by omega)
    have a1 := hq (i + 1) (by omega)
    have a2 := hq (i + 2) (by omega)
    have hs := hB_step h hi
    have b1 : cN (i + 1) = cN i + 1 := cN_add i 1
    have b2 : cN (i + 2) = cN i + 2 := cN_add i 2
    rw [b1] at a1
    rw [b2] at a2
    refine decide_eq_true ?_
    generalize ((L.length + 1 : Int) : Rat) = N at *
    generalize hB L i = u0 at *
    generalize hB L (i + 1) = u1 at *
    generalize hB L (i + 2) = u2 at *
    have e1 : N * (x.1 * u2 + x.2 * u0 + (1 - (x.1 + x.2)) * u1) = N * u1 := by rw [hs]
    have e2 : x.1 * (N * u2) + x.2 * (N * u0) + (1 - (x.1 + x.2)) * (N * u1) = N * u1 := by grind
    rw [a0, a1, a2] at e2
    grind
  · intro hf k hk
    rw [hB_fair (qs_one h hf) (by omega)]
    show _ * (cN k / _) = cN k
    grind
theorem turn_fair (L : Lad) : ((turn L).all fun x => decide (x.1 = x.2)) = L.all fun x => decide (x.1 = x.2) := by
  unfold turn
  rw [List.all_reverse, List.all_map]
  congr 1
  funext x
  show decide (x.2 = x.1) = decide (x.1 = x.2)
  rw [decide_eq_decide]; exact eq_comm
theorem quick_fair' {L : Lad} (h : Lw L) : ((quickL L).all fun x => decide (x.1 = x.2)) = L.all fun x => decide (x.1 = x.2) := by
  unfold quickL
  rw [List.all_map, Bool.eq_iff_iff, List.all_eq_true, List.all_eq_true]
  refine forall_congr' fun x => forall_congr' fun hx => ?_
  obtain ⟨h1, h2, _⟩ := h.sh x hx
  show decide (x.1 / (x.1 + x.2) = x.2 / (x.1 + x.2)) = true ↔ decide (x.1 = x.2) = true
  rw [decide_eq_true_iff, decide_eq_true_iff]
  have : x.1 + x.2 ≠ 0 := by grind
  constructor
  · intro e; grind
  · intro e; rw [e]
theorem quick_ok {L : Lad} (g : GL L) (h8 : L.length ≤ 8) : Lok (quickL L) := by
  refine ⟨by unfold quickL; rw [List.length_map]; exact g.ge, by unfold quickL; rw [List.length_map]; exact h8, fun y hy => ?_⟩
  obtain ⟨x, hx, rfl⟩ := List.mem_map.mp hy
  have gs := g.sh x hx
  obtain ⟨a, ha⟩ := gs.d1
  obtain ⟨b, hb⟩ := gs.d2
  have p1 := gs.p1
  have p2 := gs.p2
  have hle := gs.le
  have e12 : (12 : Rat) = ((12 : Int) : Rat) := rfl
  have ha0 : 0 < a := by
    have : (0 : Rat) < (a : Rat) := by grind
    exact Rat.intCast_pos.mp this
  have hb0 : 0 < b := by
    have : (0 : Rat) < (b : Rat) := by grind
    exact Rat.intCast_pos.mp this
  have hab : a + b ≤ 12 := by
    have : ((a + b : Int) : Rat) ≤ ((12 : Int) : Rat) := by rw [Rat.intCast_add, ← e12]; grind
    exact Rat.intCast_le_intCast.mp this
  have hne : ((a : Int) : Rat) + ((b : Int) : Rat) ≠ 0 := by
    have := Rat.intCast_pos.mpr ha0
    have := Rat.intCast_pos.mpr hb0
    grind
  have q1 : x.1 / (x.1 + x.2) = (a : Rat) / ((a + b : Int) : Rat) := by rw [ha, hb, Rat.intCast_add]; grind
  have q2 : x.2 / (x.1 + x.2) = (b : Rat) / ((a + b : Int) : Rat) := by rw [ha, hb, Rat.intCast_add]; grind
  refine ⟨?_, ?_, ?_⟩
  · show Sh (x.1 / (x.1 + x.2)); rw [q1]; exact share_of (by omega) (by omega) (by omega)
  · show Sh (x.2 / (x.1 + x.2)); rw [q2]; exact share_of (by omega) (by omega) (by omega)
  · show x.1 / (x.1 + x.2) + x.2 / (x.1 + x.2) ≤ 1
    have : x.1 + x.2 ≠ 0 := by grind
    have : x.1 / (x.1 + x.2) + x.2 / (x.1 + x.2) = 1 := by grind
    rw [this]; exact Rat.le_refl
end LW

namespace LW
open PySem PySem.Spec PyProof.Rows L2
/-! ### an error that is kept -/
theorem excO_ok {P : Program} {w : World} {H : Hp} {h : Heap} {a D : Addr} {oe : Obj} {vs : Array Value} (e : h.get? a = some oe) (z : Zc (.ref D) none oe) (d : oe.data = .fields vs) : ObjOk P w H h a (excO a D) := by
  obtain ⟨oc, od, oda, osl⟩ := oe
  obtain ⟨h1, h2⟩ := z
  dsimp only at h1 h2 d
  subst h1 h2 d
  refine ⟨⟨_, e, rfl, rfl, trivial⟩, ⟨_, e⟩, ?_⟩
  rintro h1 h2 ⟨ox, x⟩ k
  refine ⟨ox, k _ x.at_, x.cls, x.no, ?_⟩
  have := x.dict
  cases q : ox.dict with
  | none => trivial
  | some dx => rw [q] at this; exact this.elim
theorem hok_put {P : Program} {w : World} {H : Hp} {h : Heap} {a : Addr} {o : HO} (x : HOk P w H h) (n : H a = none) (new : ObjOk P w (upd H a o) h a o) : HOk P w (upd H a o) h := fun b u e => by
  by_cases hb : b = a
  · subst hb; rw [upd_same] at e; cases e; exact new
  · rw [upd_ne hb] at e
    exact (x b u e).stay (fun c v _ q => q) (fun c q => by rw [upd_ne (ne_of_none q n)]; exact q) fun c xs q => by rw [upd_ne (ne_of_none q n)]; exact q
section
variable {X : Cx} {pins : List (Addr × Obj)} {σ : L2.St} {H : Hp} {s : Shared}
theorem inv_put {a D : Addr} {oe : Obj} {vs : Array Value} (I : Inv X pins σ H s) (ha : s.heap.get? a = some oe) (z : Zc (.ref D) none oe) (hd : oe.data = .fields vs) (na : H a = none) (nL : a ≠ X.env.locals) (np : ∀ p ∈ X.pn ++ pins, p.1 ≠ a) (n0 : X.s_0.heap.get? a = none) :
    Inv (X.suite a (X.pn ++ pins)) [] σ (upd H a (excO a D)) s := by
  have ne0 : ∀ b o, X.s_0.heap.get? b = some o → b ≠ a := fun b o e z => by rw [z, n0] at e; cases e
  refine ⟨I.ok.suite _ _, I.os, I.bare, ⟨I.base.keep, I.base.slot, fun b o e n hx => ?_, I.base.there, fun b xs e => ?_, fun b o u e => ?_, fun b ps e => ?_⟩, I.loc, I.cell, ?_, fun x c e => ?_, fun p hp => ?_, hok_put I.hok na (excO_ok ha z hd), I.len⟩
  · rw [upd_ne (ne0 b o e)]; exact I.base.free b o e n hx
  · have := I.base.tups b xs e
    rw [upd_ne (ne_of_none this na)]; exact this
  · have := I.base.frzs b o u e
    rw [upd_ne (ne_of_none this na)]; exact this
  · obtain ⟨more, this⟩ := I.base.tbls b ps e
    exact ⟨more, by rw [upd_ne (ne_of_none this na)]; exact this⟩
  · show upd H a _ X.env.locals = none
    rw [upd_ne (Ne.symm nL)]; exact I.free
  · obtain ⟨v, q⟩ := I.cell x c e
    rw [upd_ne]
    · exact I.freeC x c e
    · intro zc
      subst zc
      obtain ⟨o, h1, h2⟩ := q
      rw [ha] at h1; cases h1
      rw [hd] at h2; cases h2
  · have hp' : p ∈ X.pn ++ pins := by rw [List.append_nil] at hp; exact hp
    obtain ⟨h1, h2, h3⟩ := I.pin p hp'
    exact ⟨h1, by rw [upd_ne (np p hp')]; exact h2, h3⟩
theorem inv_out {a : Addr} {pn' : List (Addr × Obj)} (I : Inv (X.suite a (X.pn ++ pins)) pn' σ H s) (ok : X.Ok) : Inv X pins σ H s :=
  ⟨ok, I.os, I.bare, I.base, I.loc, I.cell, I.free, I.freeC, fun p hp => I.pin p (List.mem_append_left _ hp), I.hok, I.len⟩
end
/-- what 'except x as n' wishes, where the error is kept and every error is of the clause's class -/
def wKeep (K : PySem.W.Frag) (c : Value) (i : Nat) (ts : TS) (D : Ends) : WX := fun cls d σ H =>
  ∃ C, cls = .ref C ∧ d = none ∧ PySem.W.exmOne K cls c = some true ∧ ∀ a, H a = none → ts { nx := fun σ' H' => D.nx (σ'.set i none) H', rt := D.rt, bk := fun σ' H' => D.bk (σ'.set i none) H', ct := fun σ' H' => D.ct (σ'.set i none) H' } (σ.set i (some (.ref a))) (upd H a (excO a C))
def tTry (K : PySem.W.Frag) (c : Value) (i : Nat) (tb : WX → TS) (ts : TS) : TS := fun D σ H => tb (wKeep K c i ts D) D σ H
section
variable {X : Cx} {x n : Str} {c : Value} {i : Nat} {body suite : List Stmt} {b₀ : Stmt} {np pos pos' : Pos} {tb : WX → TS} {ts : TS} {Wout : WX}
/-- where a landed error lies: at a new place, apart from all that is known -/
structure Apart (X : Cx) (pins : List (Addr × Obj)) (a : Addr) : Prop where
  loc : a ≠ X.env.locals
  frm : a ∉ X.fs
  pin : ∀ p ∈ X.pn ++ pins, p.1 ≠ a
  old : X.s_0.heap.get? a = none
theorem apart_of {pins : List (Addr × Obj)} {σ : L2.St} {H : Hp} {sI : Shared} {B h : Heap} {a C : Addr} (hs : X.stack = X.env :: X.outer) (hf : X.env.frame = some X.env.locals) (hex : X.ex = []) (J : Inv X pins σ H sI)
    (nb : ∀ b o, sI.heap.get? b = some o → b ∉ frs X.stack → B.get? b = some o) (fl : HandSPX.FlyingZ B (X.env :: X.outer) a (Zc (.ref C) none) h) : Apart X pins a := by
  obtain ⟨oe, vs, he, _, hd⟩ := fl.there
  have out : ∀ e ∈ X.env :: X.outer, ∀ r, e.frame = some r → r ≠ a := by
    rintro e hm r hr rfl
    obtain ⟨_, o', e', hnf⟩ := fl.2.2.1.mem (List.mem_filterMap.mpr ⟨e, hm, hr⟩)
    rw [he] at e'
    cases e'
    exact hnf _ hd
  have nst : a ∉ frs X.stack := fun hm => by
    obtain ⟨e, hm, hr⟩ := List.mem_filterMap.mp hm
    exact out e (by rw [← hs]; exact hm) a hr rfl
  have gone : sI.heap.get? a = none := Option.eq_none_iff_forall_ne_some.mpr fun o q => by
    have z := fl.2.1
    rw [nb a o q nst] at z
    cases z
  refine ⟨fun z => out X.env List.mem_cons_self _ hf z.symm, fun hm => ?_, fun p hp z => ?_, Option.eq_none_iff_forall_ne_some.mpr fun o q => ?_⟩
  · obtain ⟨e, hm, hr⟩ := List.mem_filterMap.mp hm
    exact out e (List.mem_cons_of_mem _ hm) a hr rfl
  · have q := (J.pin p hp).1
    rw [z, gone] at q
    cases q
  · obtain ⟨o', q'⟩ := J.base.there a o q (by rw [hex]; exact List.not_mem_nil)
    rw [gone] at q'
    cases q'
/-- behind the suite: its name goes, whatever the way out -/
def forgets (i : Nat) (D : Ends) : Ends := { nx := fun σ' H' => D.nx (σ'.set i none) H', rt := D.rt, bk := fun σ' H' => D.bk (σ'.set i none) H', ct := fun σ' H' => D.ct (σ'.set i none) H' }
theorem suite_end {a : Addr} {pins : List (Addr × Obj)} {D : Ends} {f : Flow} {s6 : Shared} {E : Value → Shared → Prop} (ok : X.Ok) (hN : X.N.Nodup) (hi : X.N[i]? = some n) (hln : X.env.kindOf n = some .local)
    (q : SP (X.suite a (X.pn ++ pins)) [] (forgets i D) f s6) : wpAny (model X.prog X.w) X.A (do bindName X.env n .none; unbindBehindTheSuite X.env n pos') (fun _ s7 => SP X pins D f s7) E s6 := by
  cases f with
  | ret u => obtain ⟨v, σ6, H6, S, r, w⟩ := q; exact gone_ok (inv_out S ok) hN hi hln fun s7 J => ⟨v, _, H6, J, r, w⟩
  | next => obtain ⟨σ6, H6, S, w⟩ := q; exact gone_ok (inv_out S ok) hN hi hln fun s7 J => ⟨_, H6, J, w⟩
  | brk => obtain ⟨σ6, H6, S, w⟩ := q; exact gone_ok (inv_out S ok) hN hi hln fun s7 J => ⟨_, H6, J, w⟩
  | cont => obtain ⟨σ6, H6, S, w⟩ := q; exact gone_ok (inv_out S ok) hN hi hln fun s7 J => ⟨_, H6, J, w⟩
theorem try_end {pins pn' : List (Addr × Obj)} {xe : Value → Shared → Prop} {D : Ends} {f : Flow} {s1 : Shared} (ok : X.Ok) (q : SP (X.tr (X.pn ++ pins) xe) pn' D f s1) : SP X pins D f s1 := by
  cases f with
  | ret u => obtain ⟨v, σ6, H6, S, r⟩ := q; exact ⟨v, σ6, H6, S.ofTry ok, r⟩
  | next => obtain ⟨σ6, H6, S, r⟩ := q; exact ⟨σ6, H6, S.ofTry ok, r⟩
  | brk => obtain ⟨σ6, H6, S, r⟩ := q; exact ⟨σ6, H6, S.ofTry ok, r⟩
  | cont => obtain ⟨σ6, H6, S, r⟩ := q; exact ⟨σ6, H6, S.ofTry ok, r⟩
/-- try: body, except x as n: suite; the error stays known behind it. The clause takes whatever the body lets out. -/
theorem ps_try_keep {K : PySem.W.Frag} (hK : X.K = K) (hs : X.stack = X.env :: X.outer) (hf : X.env.frame = some X.env.locals) (hex : X.ex = []) (hN : X.N.Nodup) (hi : X.N[i]? = some n) (hln : X.env.kindOf n = some .local) (hc : Names X x c)
    (hb : ∀ (W : WX) (pn : List (Addr × Obj)) (xe : Value → Shared → Prop), Takes (X.tr pn xe) W → PassesOwn (model X.prog X.w) X.A X.env xe → PSs (X.tr pn xe) body (tb W))
    (hsu : ∀ (a : Addr) (pn : List (Addr × Obj)), PSs (X.suite a pn) (b₀ :: suite) ts) :
    PS X (.Try body [.ExceptHandler (some (.Name x np)) (some n) (b₀ :: suite) pos'] [] [] pos) (tTry K c i tb ts) := by
  subst hK
  refine ⟨fun pins s σ H D I h => wpAny_Try_except ?_⟩
  have ok := I.ok
  have run := (hb (wKeep X.K c i ts D) (X.pn ++ pins) (fun e s₁ => wpAny (model X.prog X.w) X.A (noteFrame e X.env) (fun _ s₂ => wpAny (model X.prog X.w) X.A (setFlight e none) (fun _ s₃ =>
    wpAny (model X.prog X.w) X.A (handleBy e X.env [.ExceptHandler (some (.Name x np)) (some n) (b₀ :: suite) pos']) (SP X pins D) X.xe s₃) X.xe s₂) X.xe s₁) ?take PassesOwn.looking).run [] s σ H D (I.toTry _) h
  case take =>
    rintro u s' ⟨a, B, sI, pins', τ, G, cls, d, rfl, J', nb, up, sky, na, os, ag, C, rfl, rfl, hex1, hyes⟩
    have J : Inv X pins τ G sI := J'.ofTry ok
    rw [show (X.tr (X.pn ++ pins) _).stack = X.env :: X.outer from hs] at sky
    refine Sky.land Zc.steady (by rw [ok.frames, hs]) hf sky fun h3 fl3 up3 => ?_
    obtain ⟨nL, nF, npn, n0⟩ := apart_of hs hf hex J nb fl3
    have J3 : Inv X pins τ G { s' with heap := h3 } := J.landed nb fl3.1 (up.trans up3) os ag
    obtain ⟨o3, v3, he3, hz3, hd3⟩ := fl3.there
    have S3 := J3.suite he3 hd3 na nL nF
    refine wpAny_handleBy_cons (codeAny_handlers_test ?_) fun q => nomatch q
    have isC : PySem.W.Looks (model X.prog X.w) h3 (typeOf (.ref a)) (.ref C) := fun A Q E s k q => wpAny_typeOf_ref (k _ _ he3) (hz3.1 ▸ q)
    have named := PySem.W.exm_one (M := model X.prog X.w) J3.kIn isC hex1
    suffices goal : _ by
      obtain ⟨hg, hdb, hm | ⟨hm, hv, hnn⟩⟩ := hc
      · exact ld_glob (X := X.suite a ((a, o3) :: (X.pn ++ pins))) S3 hg hm (named.here goal) hdb
      · exact ld_blt (X := X.suite a ((a, o3) :: (X.pn ++ pins))) S3 hg hm hv (named.here goal) hnn hdb
    refine codeAny_handlers_suite_as (HandSPX.lands_againZ fl3 fun h4 fl4 up4 => ?_)
    obtain ⟨o4, v4, he4, hz4, hd4⟩ := fl4.there
    have J4 : Inv X pins τ G { s' with heap := h4 } := J.landed nb fl4.1 ((up.trans up3).trans up4) os ag
    refine store_ok (X := X.suite a (X.pn ++ pins)) (v := .ref a) (inv_put J4 he4 hz4 hd4 na nL npn n0) hN hi (.inl hln) rfl (fun s5 S5 => ?_) (.inr hln)
    exact wpAny_mono ((hsu a (X.pn ++ pins)).run [] s5 _ _ (forgets i D) S5 (hyes a na)) (fun f s6 q => suite_end ok hN hi hln q) fun _ _ z => z.elim
  refine wpAny_mono run (fun f s1 q => ?_) fun e s1 he => he
  have q := try_end ok q
  cases f with
  | next => exact wpAny_execs_nil q
  | ret u => exact q
  | brk => exact q
  | cont => exact q
end
end LW

namespace LW
open PySem PySem.Spec PyProof.Rows L2
/-! ### the classes of errors -/
structure Er where
  bl : Addr
  br : Addr
  bs : Addr
  bn : Addr
  bt : Addr
  nf : Addr
  le : Addr
/-- what the written part says of all of them -/
structure GTxt (mg : Str → Option Value) (er : Er) : Prop where
  bl : mg "BadLadder" = some (.ref er.bl)
  br : mg "BadRung" = some (.ref er.br)
  bs : mg "BadShare" = some (.ref er.bs)
  bn : mg "BadNumber" = some (.ref er.bn)
  bt : mg "BadText" = some (.ref er.bt)
  nf : mg "NotFound" = some (.ref er.nf)
  le : mg "LadderError" = some (.ref er.le)
  ve : mg "ValueError" = none
/-- .. of one that is raised: x at C, the j-th of the six -/
structure XTxt (K : PySem.W.Frag) (er : Er) (C : Addr) (j : Nat) : Prop where
  exm : PySem.W.exmOne K (.ref C) (.ref er.le) = some true
  ec : ExcC K C
  k0 : PySem.W.kitOne K (.ref C) (.ref er.bl) = some (j == 0)
  k1 : PySem.W.kitOne K (.ref C) (.ref er.br) = some (j == 1)
  k2 : PySem.W.kitOne K (.ref C) (.ref er.bs) = some (j == 2)
  k3 : PySem.W.kitOne K (.ref C) (.ref er.bn) = some (j == 3)
  k4 : PySem.W.kitOne K (.ref C) (.ref er.bt) = some (j == 4)
  k5 : PySem.W.kitOne K (.ref C) (.ref er.nf) = some (j == 5)
  k6 : PySem.W.kitOne K (.ref C) (.ref er.le) = some true
  k7 : PySem.W.kitOne K (.ref C) (.type "ValueError") = some true
/-- .. of one that a def raises -/
structure RTxt (K : PySem.W.Frag) (mg : Str → Option Value) (x : Str) (C : Addr) : Prop where
  g : mg x = some (.ref C)
  xP : PySem.W.excIn K C [.type "ValueError", .type "Exception", .type "BaseException", .type "object"] "ValueError.__new__" = true
  kP : PySem.W.keepIn K (.ref C) = true
  bP : PySem.W.subIn K (.ref C) (.type "BaseException") = some true
  tP : PySem.W.typeIn K (.ref C) = some (.type "type")
def errNames : List Str := ["ladder", "rung", "share", "number", "text", "none"]
/-! ### isinstance of a kept error; list.count of truths -/
def rIsX (K : PySem.W.Frag) : List V → Hp → VK → Prop := fun xs H Q => ∃ (a D : Addr) (c : V) (u : Value) (b : Bool), xs = [.ref a, c] ∧ ClsV c u ∧ H a = some (excO a D) ∧ ExcC K D ∧ PySem.W.kitOne K (.ref D) u = some b ∧ Q (.bl b) H
section
variable {X : Cx}
theorem call_isX {K : PySem.W.Frag} (hK : X.K = K) : CallR X (.builtin "isinstance") (rIsX K) := by
  subst hK
  intro pins s σ H xs us Q I r h
  obtain ⟨a, D, c, u, b, rfl, hc, ha, C, e, q⟩ := h
  cases r with
  | cons rx rr =>
    cases rr with
    | cons rt rr =>
      cases rr
      cases rx
      have ec := hc.eq rt
      subst ec
      obtain ⟨⟨ox, J⟩, _⟩ := (show ObjOk X.prog X.w H s.heap a (excO a D) from I.hok a _ ha)
      exact PySem.W.kia_one (PySem.W.handS_kitx_exc C.hg C.hk C.hs C.hd C.ha C.hn C.ht C.hm) I.kIn J e (fun z => nomatch z) fun tk => ⟨.bl b, H, I.kept (t' := tk) fun _ _ z => z, rfl, q⟩
theorem countP_vals {f : Value → Bool} {g : V → Bool} : ∀ {ys : List V} {us : List Value}, Vals ys us → (∀ y u, y ∈ ys → RelV y u → f u = g y) → us.countP f = ys.countP g
  | _, _, .nil, _ => rfl
  | _, _, .cons (a := y) (b := u) r t, h => by
    rw [List.countP_cons, List.countP_cons, countP_vals t fun y u hy => h y u (List.mem_cons_of_mem _ hy), h y u List.mem_cons_self r]
def rCnt (K : PySem.W.Frag) : V → List V → Hp → VK → Prop := fun x xs H Q => ∃ (a : Addr) (ys : List V) (y : V), x = .ref a ∧ xs = [y] ∧ SqL K H a ys ∧ flatV y = true ∧ ys.all flatV = true ∧ Q (.int (ys.countP fun z => eqV z y : Nat)) H
theorem mt_cnt {K : PySem.W.Frag} (hK : X.K = K) : MtR X "list.count" (rCnt K) := by
  subst hK
  intro pins s σ H x xs v us Q I rx rxs h
  obtain ⟨a, ys, y, rfl, rfl, hs, fy, fys, q⟩ := h
  cases rx
  cases rxs with
  | cons ry rt =>
    rename_i uy ut
    cases rt
    obtain ⟨its, rv, ⟨⟨cls, dd, data, sl⟩, n, ho, hc, hdn, hd⟩, hlen⟩ := I.list hs
    simp only at hc hd
    subst hc hd
    refine call_meets PySem.F.slot_list_count ⟨_, ho, rfl⟩ PySem.F.entry_list_count (PySem.F.args_list_count_2 _ _)
      (SeqAt.list_countAt a its.toArray n dd sl uy (eqU y)) ⟨ho, fun u' hu' => mem_eqAt ry fy rv fys u' (by simpa using hu'), ?_⟩
    have ec : its.toArray.toList.countP (eqU y) = ys.countP fun z => eqV z y := countP_vals rv fun z u hz ru => eqU_of ru (List.all_eq_true.mp fys z hz)
    exact ⟨.int (ys.countP fun z => eqV z y : Nat), H, I.tok _, ⟨s.toks, by rw [ec]⟩, q⟩
theorem pe_cntK {K : PySem.W.Frag} (hK : X.K = K) {o e : Expr} {to : TE} {t : TA} {apos cpos : Pos} (ho : PE X o to) (ha : PA X [e] t)
    (hbase : attributeBase o "count" X.env (eval o X.env) = eval o X.env := by rfl)
    (hfew : ((backTo cpos (starEach [e] X.env)).all (fun x => !x.1) && (backToKw cpos (keywordEach [] X.env)).all (fun x => x.1.isSome)
      && decide ([e].length + ([] : List Keyword).length + (if ([] : List Keyword).isEmpty then 0 else 1) < 30)) = true := by rfl)
    (hline : (apos.endLine == cpos.line) = true := by rfl) (hs : starEach [e] X.env = (false, eval e X.env) :: starEach [] X.env := by rfl) (hplain : (backTo cpos (starEach [] X.env)).any (·.1) = false := by rfl) :
    PE X (.Call (.Attribute o "count" apos) [e] [] cpos) (tBM K "list" (rCnt K) to t) := by
  subst hK
  exact pe_bm PySem.F.plainAttrs_list PySem.F.slot_list_count PySem.F.type_list_count (mt_cnt rfl) ho ha hbase hfew hline hs hplain
theorem pe_indK {K : PySem.W.Frag} (hK : X.K = K) {o e : Expr} {to : TE} {t : TA} {apos cpos : Pos} (ho : PE X o to) (ha : PA X [e] t)
    (hbase : attributeBase o "index" X.env (eval o X.env) = eval o X.env := by rfl)
    (hfew : ((backTo cpos (starEach [e] X.env)).all (fun x => !x.1) && (backToKw cpos (keywordEach [] X.env)).all (fun x => x.1.isSome)
      && decide ([e].length + ([] : List Keyword).length + (if ([] : List Keyword).isEmpty then 0 else 1) < 30)) = true := by rfl)
    (hline : (apos.endLine == cpos.line) = true := by rfl) (hs : starEach [e] X.env = (false, eval e X.env) :: starEach [] X.env := by rfl) (hplain : (backTo cpos (starEach [] X.env)).any (·.1) = false := by rfl) :
    PE X (.Call (.Attribute o "index" apos) [e] [] cpos) (tBM K "list" (rIndex K) to t) := by
  subst hK
  exact pe_bm PySem.F.plainAttrs_list PySem.F.slot_list_index PySem.F.type_list_index mt_index ho ha hbase hfew hline hs hplain
theorem ps_nox {st : Stmt} {t : TS} (h : PS X.nox st t) : PS X st t := ⟨fun pins s σ H D I hw =>
  wpAny_mono (h.run pins s σ H D (I.wish _) hw) (fun _ _ q => q.unwish) fun _ _ z => False.elim z⟩
/-- raise x('..') -/
def tRz (W : WX) (C : Addr) : TS := fun _ σ H => W (.ref C) none σ H
theorem ps_rz {W : WX} {C : Addr} {j : Nat} {x m : Str} {p p2 pos pos2 : Pos} {K : PySem.W.Frag} (hK : X.K = K) (hc : X.calm = true) (T : RTxt K X.mg x C) (tk : Takes X W) (hg : Gl X x) (hdb : (x == ("__debug__" : Str)) = false := by decide) :
    PS X (.Raise (some (.Call (.Name x p) [.Constant (.str m) j p2] [] pos)) none pos2) (tRz W C) := by
  subst hK
  exact ps_raise hc tk (pmk_own PySem.F.excBase_ValueError T.xP T.g T.kP (raises_own T.bP T.tP) hg hdb)
theorem pe_hX {W : WX} {x : Str} {ps : List Str} {k j : Nat} {sp : Sp} {p pos : Pos} {e : Expr} {es : List Expr} {t : TA} (h : Has X.prog X.w X.K X.mg X.base (L2.CX X.prog X.w) x ps k sp) (hr : Room j X.A) (hj : k ≤ j) (hg : Gl X x) (tk : Takes X W) (ha : PA X (e :: es) t)
    (hdb : (x == ("__debug__" : Str)) = false := by decide) (he : starEach (e :: es) X.env = (false, eval e X.env) :: starEach es X.env := by rfl) (hpl : (backTo pos (starEach es X.env)).any (·.1) = false := by rfl) :
    PE X (.Call (.Name x p) (e :: es) [] pos) (tCallS sp (WE W) t) := by
  obtain ⟨f, fd, F, m, kp, b⟩ := h
  exact pe_callS F (hr.mono hj) hg m kp b (fun σ => passAt tk σ) ha hdb he hpl
end
/-! ### over data -/
/-- a def that may raise: what it gives, or which error -/
def XSp (R : List PyData → (PyData → Prop) → (Addr → Prop) → Prop) : Sp := fun vs H Q E => ∃ (O : Addr → Prop) (ds : List PyData) (P : PyData → Prop) (Pe : Addr → Prop), (∀ p, O p → H p ≠ none) ∧ DnAll O H vs ds ∧ R ds P Pe ∧ (∀ v d H', Same H H' → Dn O H' v d → P d → Q v H') ∧ ∀ c H', Same H H' → Pe c → E (.ref c) none H'
/-- a def that is told a kept error -/
def ESp (K : PySem.W.Frag) (er : Er) : Sp := fun vs H Q _ => ∃ (a D : Addr) (j : Nat) (s : Str), vs = [.ref a] ∧ H a = some (excO a D) ∧ XTxt K er D j ∧ errNames[j]? = some s ∧ ∀ H', Same H H' → Q (.str s) H'
section
variable {E : EK} {Xc : XP} {K : PySem.W.Frag} {ρ : List Slot} {P : PyData → Prop} {N : List Slot → Prop} {R : RK} {ta : TA}
theorem ev_callX {Rx : List PyData → (PyData → Prop) → (Addr → Prop) → Prop} {W : WX} (h : EvA (WE W) Xc ta ρ fun ds => Rx ds P (Xc ρ)) : EvP (WE W) Xc (tCallS (XSp Rx) (WE W) ta) ρ P := fun C O σ H x e Q q =>
  h C O σ H x e _ fun vs ds H1 x1 k1 y1 h1 => ⟨O, ds, P, Xc ρ, x1.domN, y1, h1, fun v d H2 s z p => q v d H2 (x1.grow s) (k1.trans (.of s)) z p, fun c H2 s p => e c O ρ σ H2 (x1.grow s) p⟩
theorem ev_callN {Rx : List PyData → (PyData → Prop) → (Addr → Prop) → Prop} {E' : EK} (h : EvA E Xc ta ρ fun ds => Rx ds P (fun _ => False)) : EvP E Xc (tCallS (XSp Rx) E' ta) ρ P := fun C O σ H x e Q q =>
  h C O σ H x e _ fun vs ds H1 x1 k1 y1 h1 => ⟨O, ds, P, fun _ => False, x1.domN, y1, h1, fun v d H2 s z p => q v d H2 (x1.grow s) (k1.trans (.of s)) z p, fun c H2 s p => p.elim⟩
theorem ds_dropS {sp : Sp} {E' : EK} (h : EvP E Xc (tCallS sp E' ta) ρ fun _ => N ρ) : DS E Xc (tDrop (tCallS sp E' ta)) ρ N R := ds_drop h
theorem ds_rz {W : WX} {c : Addr} (h : Xc ρ c) : DS (WE W) Xc (tRz W c) ρ N R := fun C O σ H D x e _ _ => e c O ρ σ H x h
theorem ds_try {tb : WX → TS} {c : Value} {i : Nat} {ts : TS} (Xb : XP) (hb : ∀ W, DS (WE W) Xb (tb W) ρ N R) (hm : ∀ ρ' C, Xb ρ' C → PySem.W.exmOne K (.ref C) c = some true) (hs : ∀ ρ' C, Xb ρ' C → DS E Xc ts (ρ'.set i (.exc C)) (fun ρ'' => N (ρ''.set i .no)) R) :
    DS E Xc (tTry K c i tb ts) ρ N R := fun C O σ H D x e nx rt => by
  refine hb (wKeep K c i ts D) C O σ H D x (fun c' O' ρ' σ' H' x' hx => ?_) nx rt
  refine ⟨c', rfl, rfl, hm ρ' c' hx, fun a na => ?_⟩
  exact hs ρ' c' hx C O' _ _ _ ((x'.grow (same_upd na)).setP (fun _ h => h) ⟨a, rfl, x'.notO na, upd_same⟩) e (fun O2 ρ2 σ2 H2 x2 n2 => nx O2 _ _ H2 x2.setN n2) rt
/-- n = e, e a kept error -/
theorem ds_exc {i j : Nat} {D : Addr} (hi : ρ[i]? = some (.exc D)) (h : N (ρ.set j (.exc D))) : DS E Xc (tAsg (tVar i) (gName j)) ρ N R := fun C O σ H Dn x e nx rt => by
  obtain ⟨y, e1, a, e2, e3, e4⟩ := x.slot i _ hi
  subst e2
  exact ⟨_, e1, nx O _ _ H (x.setP (s := .exc D) (fun _ h => h) ⟨a, rfl, e3, e4⟩) h⟩
theorem ev_isNx {i : Nat} {D : Addr} (hi : ρ[i]? = some (.exc D)) (p : P (.bool false)) : EvP E Xc (tOp (fun x y H Q => y = .non ∧ Q (.bl (decide (x = .non))) H) (tVar i) (tC .non)) ρ P := fun C O σ H x e Q q => by
  obtain ⟨y, e1, a, e2, e3, e4⟩ := x.slot i _ hi
  subst e2
  exact ⟨_, e1, rfl, q _ (.bool false) H x (.refl O H) (.bl false) p⟩
theorem ev_notNx {i : Nat} {D : Addr} (hi : ρ[i]? = some (.exc D)) (p : P (.bool true)) : EvP E Xc (tOp (fun x y H Q => y = .non ∧ Q (.bl (!decide (x = .non))) H) (tVar i) (tC .non)) ρ P := fun C O σ H x e Q q => by
  obtain ⟨y, e1, a, e2, e3, e4⟩ := x.slot i _ hi
  subst e2
  exact ⟨_, e1, rfl, q _ (.bool true) H x (.refl O H) (.bl true) p⟩
theorem ev_isX {i : Nat} {D : Addr} {c : V} {u : Value} {b : Bool} (hi : ρ[i]? = some (.exc D)) (hc : ClsV c u) (ec : ExcC K D) (k : PySem.W.kitOne K (.ref D) u = some b) (p : P (.bool b)) : EvP E Xc (tCB (rIsX K) (tCons (tVar i) (tCons (tC c) tNil))) ρ P := fun C O σ H x e Q q => by
  obtain ⟨y, e1, a, e2, e3, e4⟩ := x.slot i _ hi
  subst e2
  exact ⟨_, e1, a, D, c, u, b, rfl, hc, e4, ec, k, q _ (.bool b) H x (.refl O H) (.bl b) p⟩
theorem ev_isXA {i : Nat} {D : Addr} {c : V} (hi : ρ[i]? = some (.exc D)) (h : ∃ u b, ClsV c u ∧ ExcC K D ∧ PySem.W.kitOne K (.ref D) u = some b ∧ P (.bool b)) : EvP E Xc (tCB (rIsX K) (tCons (tVar i) (tCons (tC c) tNil))) ρ P := by
  obtain ⟨u, b, h1, h2, h3, h4⟩ := h
  exact ev_isX hi h1 h2 h3 h4
theorem ev_errCall {i : Nat} {D : Addr} {er : Er} {E' : XK} {j : Nat} {s : Str} (hi : ρ[i]? = some (.exc D)) (T : XTxt K er D j) (hs : errNames[j]? = some s) (p : P (.str s)) : EvP E Xc (tCall (ESp K er) [] E' (tCons (tVar i) tNil)) ρ P := fun C O σ H x e Q q => by
  obtain ⟨y, e1, a, e2, e3, e4⟩ := x.slot i _ hi
  subst e2
  exact ⟨_, e1, a, D, j, s, rfl, e4, T, hs, fun H' sm => q _ (.str s) H' (x.grow sm) (.of sm) (.str s) p⟩
theorem ev_errA {i : Nat} {D : Addr} {er : Er} {E' : XK} (hi : ρ[i]? = some (.exc D)) (h : ∃ j s, XTxt K er D j ∧ errNames[j]? = some s ∧ P (.str s)) : EvP E Xc (tCall (ESp K er) [] E' (tCons (tVar i) tNil)) ρ P := by
  obtain ⟨j, s, h1, h2, h3⟩ := h
  exact ev_errCall hi h1 h2 h3
/-- l.count(True), l.index(True) of a list of truths -/
theorem flat_bls (bs : List Bool) : (bs.map V.bl).all flatV = true := by
  rw [List.all_eq_true]; intro x hx; obtain ⟨n, _, rfl⟩ := List.mem_map.mp hx; rfl
theorem ev_cntB {to : TE} (h : EvP E Xc to ρ fun d => ∃ bs : List Bool, d = .list (bs.map .bool) ∧ EvA E Xc ta ρ fun ds => ds = [.bool true] ∧ P (.int (bs.count true : Nat))) : EvP E Xc (tBM K "list" (rCnt K) to ta) ρ P := fun C O σ H x e Q q =>
  h C O σ H x e _ fun v d H1 x1 k1 y1 ⟨bs, ed, h1⟩ => by
    subst ed
    cases y1 with
    | lst n1 e1 r1 =>
      have hb := r1.bls_eq
      subst hb
      refine ⟨.inl ⟨rfl, _, SqL.of e1⟩, h1 C O σ H1 x1 e _ fun vs ds H2 x2 k2 y2 ⟨e2, p⟩ => ?_⟩
      subst e2
      cases y2 with
      | cons y yr =>
        cases yr; cases y
        refine ⟨_, _, _, rfl, rfl, SqL.of (k2 _ _ n1 e1), rfl, flat_bls bs, q _ (.int (bs.count true : Nat)) H2 x2 (k1.trans k2) ?_ p⟩
        have : (bs.map V.bl).countP (fun z => eqV z (.bl true)) = bs.count true := by
          rw [List.countP_map, List.count]
          refine List.countP_congr fun b _ => ?_
          cases b <;> exact Iff.rfl
        rw [this]; exact .int _
theorem ev_indB {to : TE} (h : EvP E Xc to ρ fun d => ∃ (bs : List Bool) (j : Nat), d = .list (bs.map .bool) ∧ bs[j]? = some true ∧ (∀ m, m < j → bs[m]? = some false) ∧ EvA E Xc ta ρ fun ds => ds = [.bool true] ∧ P (.int (j : Nat))) : EvP E Xc (tBM K "list" (rIndex K) to ta) ρ P := fun C O σ H x e Q q =>
  h C O σ H x e _ fun v d H1 x1 k1 y1 ⟨bs, j, ed, hj, hm, h1⟩ => by
    subst ed
    cases y1 with
    | lst n1 e1 r1 =>
      have hb := r1.bls_eq
      subst hb
      refine ⟨.inl ⟨rfl, _, SqL.of e1⟩, h1 C O σ H1 x1 e _ fun vs ds H2 x2 k2 y2 ⟨e2, p⟩ => ?_⟩
      subst e2
      cases y2 with
      | cons y yr =>
        cases yr; cases y
        refine ⟨_, _, _, j, .bl true, rfl, rfl, SqL.of (k2 _ _ n1 e1), rfl, flat_bls bs, by rw [List.getElem?_map, hj]; rfl, rfl, fun m z hmj hz => ?_, q _ (.int (j : Nat)) H2 x2 (k1.trans k2) (.int _) p⟩
        rw [List.getElem?_map, hm m hmj] at hz
        cases hz; rfl
end
section
variable {K : PySem.W.Frag} {P : PyData → Prop}
theorem shaped_str {a : Str} (h : PyData.strOk a = true) : SeqAt.shaped (.str a) = true := by unfold SeqAt.shaped PyData.canLay0 PyData.depth; rw [h]; rfl
theorem rp_eqS {a b : Str} (ha : PyData.strOk a = true) (hb : PyData.strOk b = true) (p : P (.bool (decide (a = b)))) : RP (rEqD K) (.str a) (.str b) P := rp_eq (shaped_str ha) (shaped_str hb) (by rw [eqv_str]; exact p)
theorem rp_neS {a b : Str} (ha : PyData.strOk a = true) (hb : PyData.strOk b = true) (p : P (.bool (!decide (a = b)))) : RP (rNeD K) (.str a) (.str b) P := rp_ne (shaped_str ha) (shaped_str hb) (by rw [eqv_str]; exact p)
end
/-! ### defs -/
section
variable {P : Program} {w : World} {K : PySem.W.Frag} {mg : Str → Option Value} {base : Heap}
abbrev WD (E : XK) : WX := fun cls d _ H => E cls d H
theorem has_pureX {x : Str} {st : Stmt} {N ps : List Str} {k : Nat} {R : List PyData → (PyData → Prop) → (Addr → Prop) → Prop} (F : DefIn K mg x st ps) (S : FnScope N ps (defScope st)) (len : ∀ ds Q Z, R ds Q Z → ds.length = ps.length)
    (hb : ∀ (f : Addr) (cdv : Value) (A : Around) (outer : List Env) (s : Shared) (H : Hp) (E : XK), Room k (A.deeper (envOfC x (defScope st) s.heap.objs.size f cdv)) →
      ∃ t, PSs (cxOf (L2.CX P w) P w K mg base N x (defScope st) f cdv A outer s H E) (defBody st) t ∧ ∀ ds Q Z, R ds Q Z → DS (WE (WD E)) (fun _ => Z) t (entry N.length ds) (fun _ => Q .none) (fun _ => Q)) : Has P w K mg base (L2.CX P w) x ps (k + 1) (XSp R) := by
  obtain ⟨f, fd, F, m, b⟩ := F
  refine ⟨f, fd, F.okX S (fun vs H Q E h => ?_) (fun cdv A outer s H vs Q E hr h => ?_), m, F.kp, b⟩
  · obtain ⟨O, ds, P', Z, _, y, r, _⟩ := h
    rw [y.length]; exact len ds P' Z r
  · obtain ⟨O, ds, P', Z, hd, y, r, q, qe⟩ := h
    obtain ⟨t, ht, h⟩ := hb f cdv A outer s H E hr
    refine ⟨t, ht, h ds P' Z r _ O _ H _ (rel_entry hd y) (fun c O' ρ' σ' H' x z => qe c H' (fun a o e => x.frame a o e id) z) (fun O' ρ' σ' H' x n => ?_) fun O' ρ' σ' v d H' x z p => ?_⟩
    · exact q .non .none H' (fun a o e => x.frame a o e id) .non n
    · exact q v d H' (fun a o e => x.frame a o e id) (z.sub x.sub) p
end
end LW
namespace LW
open PySem PySem.Spec PyProof.Rows L2
section
variable {P : Program} {w : World} {K : PySem.W.Frag} {mg : Str → Option Value} {base : Heap}
theorem rel_err {H : Hp} {a D : Addr} {n : Nat} (h : H a = some (excO a D)) : Rel ⟨fun _ => False, fun _ => False, fun _ => False, H, none⟩ (fun _ => False) (.exc D :: List.replicate n .no) (some (.ref a) :: List.replicate n none) H := by
  have nf : ∀ (i : Nat) (s : Slot) (p : Addr), (Slot.exc D :: List.replicate n .no)[i]? = some s → ¬ foot s p := fun i s p e f => by
    rcases List.mem_cons.mp (List.mem_of_getElem? e) with h | h
    · subst h; exact f.elim
    · have := List.eq_of_mem_replicate h; subst this; exact f.elim
  refine ⟨by simp, fun i s e => ?_, fun a o e _ => e, fun p h => h.elim, fun p h => h.elim, fun i s p e f => absurd f (nf i s p e), fun i j s s' p e _ f => absurd f (nf i s p e), fun p b e => (nomatch e), fun p h => h.elim, fun p h => h⟩
  cases i with
  | zero => cases e; exact ⟨_, rfl, a, rfl, id, h⟩
  | succ i =>
    have e : (List.replicate n Slot.no)[i]? = some s := e
    have hs := List.eq_of_mem_replicate (List.mem_of_getElem? e)
    subst hs
    have hl := (List.getElem?_eq_some_iff.mp e).1
    rw [List.length_replicate] at hl
    exact ⟨none, by show (List.replicate n none)[i]? = _; rw [List.getElem?_replicate, if_pos hl], trivial⟩
theorem has_err {x : Str} {st : Stmt} {N ps : List Str} {k n : Nat} {er : Er} (F : DefIn K mg x st ps) (S : FnScope N ps (defScope st)) (hl : ps.length = 1) (hn : N.length = n + 1)
    (hb : ∀ (f : Addr) (cdv : Value) (A : Around) (outer : List Env) (s : Shared) (H : Hp) (E : XK), Room k (A.deeper (envOfC x (defScope st) s.heap.objs.size f cdv)) →
      ∃ t, PSs (cxOf CX0 P w K mg base N x (defScope st) f cdv A outer s H E).nox (defBody st) t ∧ ∀ D j s, XTxt K er D j → errNames[j]? = some s → DS EE X0 t (.exc D :: List.replicate n .no) (fun _ => False) (fun _ d => d = .str s)) : Has P w K mg base CX0 x ps (k + 1) (ESp K er) := by
  obtain ⟨f, fd, F, m, b⟩ := F
  refine ⟨f, fd, F.ok S (fun vs H Q E h => ?_) (fun cdv A outer s H vs Q E hr h => ?_), m, F.kp, b⟩
  · obtain ⟨a, D, j, s, rfl, _⟩ := h
    exact hl.symm
  · obtain ⟨a, D, j, s, rfl, ha, T, hs, q⟩ := h
    obtain ⟨t, ht, h⟩ := hb f cdv A outer _ H E hr
    have r0 : Rel ⟨fun _ => False, fun _ => False, fun _ => False, H, none⟩ (fun _ => False) (.exc D :: List.replicate n .no) (start N [.ref a]) H := by
      have e : start N [.ref a] = some (.ref a) :: List.replicate n none := by
        unfold L2.start
        rw [hn]; rfl
      rw [e]; exact rel_err ha
    refine ⟨t, ht, h D j s T hs _ _ _ H _ r0 eok0 (fun O' ρ' σ' H' x n => n.elim) fun O' ρ' σ' v d H' x z p => ?_⟩
    · subst p
      cases z
      exact q H' fun a o e => x.frame a o e id
end
end LW

namespace LW
open PySem PySem.Spec PyProof.Rows L2
/-! ### walks that are told their end -/
theorem hB_pos {L : Lad} (h : Lw L) {r : Nat} (h0 : 0 < r) (hr : r ≤ L.length + 1) : 0 < hB L r := by
  obtain ⟨s, rfl⟩ : ∃ s, r = s + 1 := ⟨r - 1, by omega⟩
  have a := hB_nonneg h s (by omega)
  have b := hB_lt h (r := s) (by omega)
  grind
theorem hB_lt1 {L : Lad} (h : Lw L) {r : Nat} (hr : r ≤ L.length) : hB L r < 1 := by
  have key : ∀ d, r + d ≤ L.length → hB L r ≤ hB L (r + d) := fun d => by
    induction d with
    | zero => intro _; exact Rat.le_refl
    | succ d ih => intro hd; have := ih (by omega); have := hB_lt h (r := r + d) (by omega); have e : r + (d + 1) = r + d + 1 := by omega
                   rw [e]; grind
  have a := key (L.length - r) (by omega)
  have b := hB_lt h (r := L.length) (Nat.le_refl _)
  rw [hB_top h rfl, show r + (L.length - r) = L.length by omega] at *
  grind
def hX (L : Lad) (hi : Bool) (k : Nat) : Rat := if hi = true then hB L k else 1 - hB L k
theorem hX_pos {L : Lad} (h : Lw L) (hi : Bool) {r : Nat} (h0 : 1 ≤ r) (hr : r ≤ L.length) : 0 < hX L hi r := by
  unfold hX
  split
  · exact hB_pos h (by omega) (by omega)
  · have := hB_lt1 h hr; grind
theorem hX_step {L : Lad} (h : Lw L) (hi : Bool) {r : Nat} {x : Rat × Rat} (hx : L[r]? = some x) : x.1 * hX L hi (r + 2) + x.2 * hX L hi r = (x.1 + x.2) * hX L hi (r + 1) := by
  have := hB_step h hx
  unfold hX
  split <;> grind
def gvL (L : Lad) (hi : Bool) (i : Nat) : Rat × Rat := ((L.getD i (0, 0)).1 * hX L hi (i + 2) / hX L hi (i + 1), (L.getD i (0, 0)).2 * hX L hi i / hX L hi (i + 1))
def gtL (L : Lad) (hi : Bool) : Lad := (List.range L.length).map (gvL L hi)
theorem gtL_len (L : Lad) (hi : Bool) : (gtL L hi).length = L.length := by unfold gtL; rw [List.length_map, List.length_range]
theorem gtL_get {L : Lad} {hi : Bool} {i : Nat} (h : i < L.length) : (gtL L hi)[i]? = some (gvL L hi i) := by unfold gtL; rw [List.getElem?_map, List.getElem?_range h]; rfl
theorem getD_get' {L : Lad} {i : Nat} (h : i < L.length) : L[i]? = some (L.getD i (0, 0)) := by
  have hx : L[i]? = some L[i] := List.getElem?_eq_getElem h
  rw [List.getD_eq_getElem?_getD, hx]; rfl
theorem gv_rest {L : Lad} (h : Lw L) (hi : Bool) {i : Nat} (hl : i < L.length) : (gvL L hi i).1 + (gvL L hi i).2 = (L.getD i (0, 0)).1 + (L.getD i (0, 0)).2 := by
  have s := hX_step h hi (getD_get' hl)
  have p := hX_pos h hi (r := i + 1) (by omega) (by omega)
  have pn := Rat.ne_of_gt p
  unfold gvL
  generalize hX L hi (i + 1) = b at *
  generalize hX L hi i = c at *
  generalize hX L hi (i + 2) = a at *
  generalize (L.getD i (0, 0)).1 = u at *
  generalize (L.getD i (0, 0)).2 = v at *
  show u * a / b + v * c / b = u + v
  have : u * a / b + v * c / b = (u * a + v * c) / b := by grind
  rw [this, s]; grind
theorem Sz.hXBd {L : Lad} (h : Sz L) (hi : Bool) (r : Nat) : Bd 52 (hX L hi r) := by
  unfold hX
  split
  · exact (h.hBd r).mono (by decide)
  · exact (Bd.one.sub (h.hBd r)).mono (by decide)
theorem Sz.gvBd {L : Lad} (h : Sz L) (hi : Bool) {i : Nat} (hl : i < L.length) : Bd 114 (gvL L hi i).1 ∧ Bd 114 (gvL L hi i).2 := by
  obtain ⟨_, _, g3, g4⟩ := h.lw.sh _ (List.mem_of_getElem? (getD_get' hl))
  have p := hX_pos h.lw hi (r := i + 1) (by omega) (by omega)
  exact ⟨(g3.mul (h.hXBd hi _)).quo (h.hXBd hi _) p, (g4.mul (h.hXBd hi _)).quo (h.hXBd hi _) p⟩
def R_given_of (ds : List PyData) (P : PyData → Prop) : Prop := ∃ (L : Lad) (i : Nat) (hi : Bool), ds = [encL L, .int (1 + (i : Int)), .bool hi] ∧ Sz L ∧ i < L.length ∧ P (encR (gvL L hi i))
theorem S_given_of {L : Lad} {i : Nat} {hi : Bool} {P : PyData → Prop} (h : Sz L) (hl : i < L.length) (p : P (encR (gvL L hi i))) : R_given_of [encL L, .int (1 + (i : Int)), .bool hi] P := ⟨L, i, hi, rfl, h, hl, p⟩
def R_given (hi : Bool) (ds : List PyData) (P : PyData → Prop) : Prop := ∃ L : Lad, ds = [encL L] ∧ Lok L ∧ Sz L ∧ P (encL (gtL L hi))
theorem S_given {L : Lad} {hi : Bool} {P : PyData → Prop} (h : Lok L) (hz : Sz L) (p : P (encL (gtL L hi))) : R_given hi [encL L] P := ⟨L, rfl, h, hz, p⟩
def R_stays_given_top (ds : List PyData) (P : PyData → Prop) : Prop := ∃ (L : Lad) (i : Nat), ds = [encL L, .int (1 + (i : Int))] ∧ Lok L ∧ Sz L ∧ i < L.length ∧ P (enc (restL L (i + 1)))
theorem S_stays_given_top {L : Lad} {i : Nat} {P : PyData → Prop} (h : Lok L) (hz : Sz L) (hl : i < L.length) (p : P (enc (restL L (i + 1)))) : R_stays_given_top [encL L, .int (1 + (i : Int))] P := ⟨L, i, rfl, h, hz, hl, p⟩
theorem restL_in {L : Lad} {i : Nat} (h : i < L.length) : restL L (i + 1) = 1 - ((L.getD i (0, 0)).1 + (L.getD i (0, 0)).2) := by
  unfold restL
  rw [if_neg (by omega), Nat.add_sub_cancel, getD_get' h]
/-- the chances after steps, told that the walk ends at the top -/
def agF (L : Lad) (r t k : Nat) : Rat := aft L r t k * hB L k / hB L r
def agL (L : Lad) (r t : Nat) : List Rat := (List.range (L.length + 2)).map (agF L r t)
theorem agL_len (L : Lad) (r t : Nat) : (agL L r t).length = L.length + 2 := by unfold agL; rw [List.length_map, List.length_range]
theorem agL_get {L : Lad} {r t k : Nat} (h : k ≤ L.length + 1) : (agL L r t)[k]? = some (agF L r t k) := by unfold agL; rw [List.getElem?_map, List.getElem?_range (by omega)]; rfl
theorem at_ag {L : Lad} {r t k : Nat} {i : Int} (e : i = (k : Int)) (h : k ≤ L.length + 1) : atI ((agL L r t).map enc) i = some (enc (agF L r t k)) := at_map e (agL_get h)
theorem ag_sum {L : Lad} (h : Lw L) {r : Nat} (h0 : 0 < r) (hr : r ≤ L.length + 1) (t : Nat) : (agL L r t).sum = 1 := by
  have p := Rat.ne_of_gt (hB_pos h h0 hr)
  unfold agL
  rw [sum_rng]
  have : sumR (L.length + 2) (agF L r t) = sumR (L.length + 2) (fun j => aft L r t j * hB L j) * (1 / hB L r) := by
    rw [← sumR_mulr]; exact sumR_congr fun i _ => by unfold agF; grind
  rw [this, aft_hB h (by omega)]; grind
theorem ag_zero (L : Lad) (r t : Nat) : agF L r t 0 = 0 := by unfold agF; rw [hB_zero]; grind
theorem ag_succ {L : Lad} (h : Lw L) {r : Nat} (t : Nat) {k : Nat} (hk : k ≤ L.length + 1) :
    agF L r (t + 1) k = agF L r t k * restL L k + (if 2 ≤ k then agF L r t (k - 1) * (gvL L true (k - 2)).1 else 0) + (if k + 2 ≤ L.length + 1 then agF L r t (k + 1) * (gvL L true k).2 else 0) := by
  have e := sumR_TLcol (L := L) (row := afterL L r t) (j := k) (by omega)
  have e2 : aft L r (t + 1) k = aft L r t k * restL L k + (if 2 ≤ k then aft L r t (k - 1) * ((L.getD (k - 2) (0, 0)).1) else 0) + (if k + 2 < L.length + 2 then aft L r t (k + 1) * ((L.getD k (0, 0)).2) else 0) := (aft_succ (L := L) (k := r) (t := t) (j := k) (by omega)).trans e
  unfold agF
  rw [e2]
  have a : (if 2 ≤ k then aft L r t (k - 1) * hB L (k - 1) / hB L r * (gvL L true (k - 2)).1 else 0) = (if 2 ≤ k then aft L r t (k - 1) * ((L.getD (k - 2) (0, 0)).1) else 0) * hB L k / hB L r := by
    split
    · rename_i h2
      have p := Rat.ne_of_gt (hB_pos h (r := k - 1) (by omega) (by omega))
      have e1 : (gvL L true (k - 2)).1 = (L.getD (k - 2) (0, 0)).1 * hB L k / hB L (k - 1) := by
        show _ * hB L (k - 2 + 2) / hB L (k - 2 + 1) = _
        rw [show k - 2 + 2 = k by omega, show k - 2 + 1 = k - 1 by omega]
      rw [e1]
      generalize hB L (k - 1) = b at *
      grind
    · grind
  have b : (if k + 2 ≤ L.length + 1 then aft L r t (k + 1) * hB L (k + 1) / hB L r * (gvL L true k).2 else 0) = (if k + 2 < L.length + 2 then aft L r t (k + 1) * ((L.getD k (0, 0)).2) else 0) * hB L k / hB L r := by
    by_cases h2 : k + 2 ≤ L.length + 1
    · rw [if_pos h2, if_pos (by omega)]
      have p := Rat.ne_of_gt (hB_pos h (r := k + 1) (by omega) (by omega))
      have e1 : (gvL L true k).2 = (L.getD k (0, 0)).2 * hB L k / hB L (k + 1) := rfl
      rw [e1]
      generalize hB L (k + 1) = b at *
      grind
    · rw [if_neg h2, if_neg (by omega)]; grind
  rw [a, b]
  have alg : ∀ x y A B h q : Rat, (x * y + A + B) * h / q = x * h / q * y + A * h / q + B * h / q := fun x y A B h q => by
    simp only [Rat.div_def]; grind
  generalize (if 2 ≤ k then aft L r t (k - 1) * (List.getD L (k - 2) (0, 0)).fst else 0) = A
  generalize (if k + 2 < List.length L + 2 then aft L r t (k + 1) * (List.getD L k (0, 0)).snd else 0) = B
  generalize aft L r t k = u
  generalize hB L k = v
  generalize hB L r = w
  generalize restL L k = z
  exact alg u z A B v w
theorem Tm.agBd {L : Lad} {r t : Int} {E k : Nat} (h : Tm L r t E k) (hz : Sz L) (h0 : 0 < r) {j : Nat} (hj : j < L.length + 2) : Bd (k + 100) (agF L r.toNat t.toNat j) :=
  ((h.bd hj).mul (hz.hBd j)).quo (hz.hBd r.toNat) (hB_pos hz.lw (by omega) (by have := h.r1; omega)) |>.mono (by omega)
def R_after_given_top (er : Er) (ds : List PyData) (P : PyData → Prop) (Z : Addr → Prop) : Prop := ∃ (L : Lad) (r t : Int) (E k : Nat), ds = [encL L, .int r, .int t] ∧ Tm L r t E k ∧ Sz L ∧ (r ≠ 0 → P (.list ((agL L r.toNat t.toNat).map enc))) ∧ (r = 0 → Z er.nf)
theorem S_after_given_top {er : Er} {L : Lad} {r t : Int} {E k : Nat} {P : PyData → Prop} {Z : Addr → Prop} (h : Tm L r t E k) (hz : Sz L) (p : r ≠ 0 → P (.list ((agL L r.toNat t.toNat).map enc))) (z : r = 0 → Z er.nf) : R_after_given_top er [encL L, .int r, .int t] P Z := ⟨L, r, t, E, k, rfl, h, hz, p, z⟩
def R_top_after (er : Er) (ds : List PyData) (P : PyData → Prop) (Z : Addr → Prop) : Prop := ∃ (L : Lad) (r t o : Int) (E k : Nat), ds = [encL L, .int r, .int t, .int o] ∧ Tm L r t E k ∧ 0 ≤ o ∧ o ≤ L.length + 1 ∧ (aft L r.toNat t.toNat o.toNat ≠ 0 → P (enc (hB L o.toNat))) ∧ (aft L r.toNat t.toNat o.toNat = 0 → Z er.nf)
theorem S_top_after {er : Er} {L : Lad} {r t o : Int} {E k : Nat} {P : PyData → Prop} {Z : Addr → Prop} (h : Tm L r t E k) (h1 : 0 ≤ o) (h2 : o ≤ L.length + 1) (p : aft L r.toNat t.toNat o.toNat ≠ 0 → P (enc (hB L o.toNat))) (z : aft L r.toNat t.toNat o.toNat = 0 → Z er.nf) : R_top_after er [encL L, .int r, .int t, .int o] P Z := ⟨L, r, t, o, E, k, rfl, h, h1, h2, p, z⟩
def toldT (L : Lad) (r t o : Nat) : PyData := if aft L r t o = 0 then .str "none" else enc (hB L o)
def toldA (L : Lad) (r t : Nat) : PyData := if r = 0 then .str "none" else .list ((agL L r t).map enc)
def R_law_call05 (ds : List PyData) (P : PyData → Prop) : Prop := ∃ (L : Lad) (kd r t o : Int) (E k : Nat), ds = [.int kd, encL L, .int r, .int t, .int o] ∧ Tm L r t E k ∧ Sz L ∧ 0 ≤ o ∧ o ≤ L.length + 1 ∧ (kd = 0 → P (toldA L r.toNat t.toNat)) ∧ (kd ≠ 0 → P (toldT L r.toNat t.toNat o.toNat))
theorem S_law_call05 {L : Lad} {kd r t o : Int} {E k : Nat} {P : PyData → Prop} (h : Tm L r t E k) (hz : Sz L) (h1 : 0 ≤ o) (h2 : o ≤ L.length + 1) (p : kd = 0 → P (toldA L r.toNat t.toNat)) (z : kd ≠ 0 → P (toldT L r.toNat t.toNat o.toNat)) : R_law_call05 [.int kd, encL L, .int r, .int t, .int o] P := ⟨L, kd, r, t, o, E, k, rfl, h, hz, h1, h2, p, z⟩
def R_law_again (ds : List PyData) (P : PyData → Prop) : Prop := ∃ (L : Lad) (r t : Nat), ds = [encL L, .int ((L.length : Int) + 1), encL (gtL L true), .int (r : Int), .int (t : Int)] ∧ GL L ∧ L.length ≤ 8 ∧ 1 ≤ r ∧ r ≤ L.length + 1 ∧ t ≤ 9 ∧ P (.list ((agL L r t).map enc))
theorem S_law_again {L : Lad} {r t : Nat} {P : PyData → Prop} (g : GL L) (h8 : L.length ≤ 8) (h1 : 1 ≤ r) (h2 : r ≤ L.length + 1) (ht : t ≤ 9) (p : P (.list ((agL L r t).map enc))) : R_law_again [encL L, .int ((L.length : Int) + 1), encL (gtL L true), .int (r : Int), .int (t : Int)] P := ⟨L, r, t, rfl, g, h8, h1, h2, ht, p⟩
def R_law_after05 (ds : List PyData) (P : PyData → Prop) : Prop := ∃ L : Lad, ds = [encL L, .int ((L.length : Int) + 1), .list ((hs L).map enc), encL (gtL L true)] ∧ GL L ∧ L.length ≤ 8 ∧ P (.bool true)
theorem S_law_after05 {L : Lad} {P : PyData → Prop} (g : GL L) (h8 : L.length ≤ 8) (p : P (.bool true)) : R_law_after05 [encL L, .int ((L.length : Int) + 1), .list ((hs L).map enc), encL (gtL L true)] P := ⟨L, rfl, g, h8, p⟩
theorem GL.tm {L : Lad} (g : GL L) (h8 : L.length ≤ 8) {r t : Int} (h1 : 0 ≤ r) (h2 : r ≤ L.length + 1) (h3 : 0 ≤ t) (h4 : t ≤ 60) : Tm L r t 12 230 := ⟨g.ok h8, h1, h2, h3, h4, g.ld, by decide, Nat.lt_of_le_of_lt (Nat.mul_le_mul_right 16 (Nat.pow_le_pow_right (by decide) (show t.toNat ≤ 60 by omega))) (by decide), by decide⟩
end LW

namespace LW
open PySem PySem.Spec PyProof.Rows L2
/-! ### ladders read back from rows -/
theorem div_nn {a b : Rat} (ha : 0 ≤ a) (hb : 0 < b) : 0 ≤ a / b := by
  by_cases e : a = 0
  · rw [e]; have := Rat.ne_of_gt hb; grind
  · exact Rat.le_of_lt (div_pos (by grind) hb)
theorem quotFrom_get {row : List Rat} {i : Nat} (h : i + 2 < row.length) : (quotFrom row)[i]? = some (quotF row i) := by
  unfold quotFrom; rw [List.getElem?_map, List.getElem?_range (by omega)]; rfl
theorem row_hs {row : List Rat} (hr : Row row) {L : Lad} (h : Lw L) (hl : L.length + 2 = row.length) (hq : qs L = quotFrom row) : hs L = row := by
  have d0 : rowF row 1 - rowF row 0 ≠ 0 := by have := hr.inc 0 (by have := hr.ge; omega); have this : rowF row 0 < rowF row 1 := this; grind
  have hp : ∀ k, k ≤ L.length → (prods (qs L))[k]? = some ((rowF row (k + 1) - rowF row k) / (rowF row 1 - rowF row 0)) := fun k => by
    induction k with
    | zero => intro _; rw [prods_zero]; congr 1; grind
    | succ k ih =>
      intro hk
      have e := prods_succ (ih (by omega)) (by rw [hq]; exact quotFrom_get (by omega))
      rw [e]
      congr 1
      unfold quotF
      have := hr.inc k (by omega)
      have hne : rowF row (k + 1) - rowF row k ≠ 0 := by grind
      generalize rowF row (k + 1) - rowF row k = a at *
      show a / _ * ((rowF row (k + 2) - rowF row (k + 1)) / a) = (rowF row (k + 1 + 1) - rowF row (k + 1)) / _
      grind
  have hsum : ∀ k, k ≤ L.length + 1 → ((prods (qs L)).take k).sum = rowF row k / (rowF row 1 - rowF row 0) := fun k => by
    induction k with
    | zero => intro _; rw [List.take_zero, List.sum_nil, hr.lo]; grind
    | succ k ih =>
      intro hk
      rw [sum_take_succ (hp k (by omega)), ih (by omega)]
      grind
  have hall : (prods (qs L)).sum = 1 / (rowF row 1 - rowF row 0) := by
    have := hsum (L.length + 1) (Nat.le_refl _)
    rw [List.take_of_length_le (by rw [prods_len, qs_len]; omega)] at this
    rw [this]
    have e := hr.hi
    rw [show row.length - 1 = L.length + 1 by omega] at e
    rw [e]
  have hb : ∀ k, k ≤ L.length + 1 → hB L k = rowF row k := fun k hk => by
    unfold hB
    rw [hsum k hk, hall]
    grind
  apply List.ext_getElem?
  intro k
  by_cases hk : k ≤ L.length + 1
  · rw [hs_get hk, hb k hk, rowF_some (by omega)]
  · rw [List.getElem?_eq_none (by rw [hs_len]; omega), List.getElem?_eq_none (by omega)]
theorem ladFrom_len {row kept : List Rat} (hl : kept.length + 2 = row.length) : (ladFrom row kept).length = kept.length := by
  unfold ladFrom; rw [List.length_zipWith, quotFrom_len]; omega
theorem ladFrom_get {row kept : List Rat} (hl : kept.length + 2 = row.length) {i : Nat} {k : Rat} (h : kept[i]? = some k) : (ladFrom row kept)[i]? = some (ladF (quotF row i) k) := by
  have := (List.getElem?_eq_some_iff.mp h).1
  unfold ladFrom; rw [List.getElem?_zipWith, quotFrom_get (by omega), h]
theorem ladFrom_qs {row kept : List Rat} (hr : Row row) (hl : kept.length + 2 = row.length) (hk : ∀ k ∈ kept, 0 ≤ k ∧ k < 1) : qs (ladFrom row kept) = quotFrom row := by
  apply List.ext_getElem?
  intro i
  by_cases hi : i < kept.length
  · have hki : kept[i]? = some kept[i] := List.getElem?_eq_getElem hi
    unfold qs
    rw [List.getElem?_map, ladFrom_get hl hki, quotFrom_get (by omega)]
    show some ((1 - kept[i]) / (1 + quotF row i) * quotF row i / ((1 - kept[i]) / (1 + quotF row i))) = _
    congr 1
    have h1 := (hk _ (List.getElem_mem hi)).2
    have h2 : 0 < quotF row i := by
      have a := hr.inc i (by omega)
      have b := hr.inc (i + 1) (by omega)
      have b : rowF row (i + 1) < rowF row (i + 2) := b
      exact div_pos (by grind) (by grind)
    have h3 := Rat.ne_of_gt (div_pos (show 0 < 1 - kept[i] by grind) (show 0 < 1 + quotF row i by grind))
    generalize (1 - kept[i]) / (1 + quotF row i) = u at *
    grind
  · rw [List.getElem?_eq_none (by rw [qs_len, ladFrom_len hl]; omega), List.getElem?_eq_none (by rw [quotFrom_len]; omega)]
theorem ladFrom_rests {row kept : List Rat} (hr : Row row) (hl : kept.length + 2 = row.length) : restsL (ladFrom row kept) = kept := by
  apply List.ext_getElem?
  intro i
  by_cases hi : i < kept.length
  · have hki : kept[i]? = some kept[i] := List.getElem?_eq_getElem hi
    unfold restsL
    rw [List.getElem?_map, ladFrom_get hl hki, hki]
    show some (1 - ((1 - kept[i]) / (1 + quotF row i) + (1 - kept[i]) / (1 + quotF row i) * quotF row i)) = _
    congr 1
    have h2 : 0 < quotF row i := by
      have a := hr.inc i (by omega)
      have b := hr.inc (i + 1) (by omega)
      have b : rowF row (i + 1) < rowF row (i + 2) := b
      exact div_pos (by grind) (by grind)
    have h3 : 1 + quotF row i ≠ 0 := by grind
    generalize quotF row i = q at *
    generalize kept[i] = k
    have : (1 - k) / (1 + q) + (1 - k) / (1 + q) * q = 1 - k := by grind
    rw [this]; grind
  · rw [List.getElem?_eq_none (by unfold restsL; rw [List.length_map, ladFrom_len hl]; omega), List.getElem?_eq_none (by omega)]
/-- a row drawn by parts -/
def Parts (ts : List Int) : Prop := 2 ≤ ts.length ∧ ts.length ≤ 9 ∧ ∀ t ∈ ts, 1 ≤ t ∧ t ≤ 4
def rowT (ts : List Int) : List Rat := (List.range (ts.length + 1)).map fun k => (((ts.take k).sum : Int) : Rat) / ((ts.sum : Int) : Rat)
theorem rowT_len (ts : List Int) : (rowT ts).length = ts.length + 1 := by unfold rowT; rw [List.length_map, List.length_range]
theorem rowT_at {ts : List Int} {k : Nat} (h : k ≤ ts.length) : rowF (rowT ts) k = (((ts.take k).sum : Int) : Rat) / ((ts.sum : Int) : Rat) := rowF_rng (by omega)
theorem takeI_succ {ts : List Int} {i : Nat} {t : Int} (h : ts[i]? = some t) : (ts.take (i + 1)).sum = (ts.take i).sum + t := by
  rw [List.take_add_one, h, List.sum_append]; simp
theorem takeI_bd {ts : List Int} (h : ∀ t ∈ ts, 1 ≤ t ∧ t ≤ 4) : ∀ k, k ≤ ts.length → (k : Int) ≤ (ts.take k).sum ∧ (ts.take k).sum ≤ 4 * k := fun k => by
  induction k with
  | zero => intro _; simp
  | succ k ih =>
    intro hk
    have e : ts[k]? = some ts[k] := List.getElem?_eq_getElem (by omega)
    rw [takeI_succ e]
    have := ih (by omega)
    have := h _ (List.getElem_mem (show k < ts.length by omega))
    omega
theorem Parts.sum {ts : List Int} (h : Parts ts) : 1 ≤ ts.sum ∧ ts.sum ≤ 36 := by
  have := takeI_bd h.2.2 ts.length (Nat.le_refl _)
  rw [List.take_length] at this
  have := h.1
  have := h.2.1
  omega
theorem rowT_diff {ts : List Int} (h : Parts ts) {k : Nat} {t : Int} (hk : ts[k]? = some t) : rowF (rowT ts) (k + 1) - rowF (rowT ts) k = (t : Rat) / ((ts.sum : Int) : Rat) := by
  have hl := (List.getElem?_eq_some_iff.mp hk).1
  rw [rowT_at (by omega), rowT_at (by omega), takeI_succ hk, Rat.intCast_add]
  grind
theorem sumPos {ts : List Int} (h : Parts ts) : (0 : Rat) < ((ts.sum : Int) : Rat) := Rat.intCast_pos.mpr (by have := h.sum; omega)
theorem rowT_row {ts : List Int} (h : Parts ts) : Row (rowT ts) := by
  have hs := sumPos h
  have hne := Rat.ne_of_gt hs
  have hlen := rowT_len ts
  have h1 := h.1
  have h2 := h.2.1
  refine ⟨by omega, by omega, fun r hr => ?_, ?_, ?_, fun i hi => ?_⟩
  · unfold rowT at hr
    obtain ⟨k, hk, rfl⟩ := List.mem_map.mp hr
    have hk := List.mem_range.mp hk
    have b := takeI_bd h.2.2 k (by omega)
    have mono : ∀ d, k + d ≤ ts.length → (ts.take k).sum ≤ (ts.take (k + d)).sum := fun d => by
      induction d with
      | zero => intro _; exact Int.le_refl _
      | succ d ih =>
        intro hd
        have e : ts[k + d]? = some ts[k + d] := List.getElem?_eq_getElem (by omega)
        have := h.2.2 _ (List.getElem_mem (show k + d < ts.length by omega))
        have := ih (by omega)
        rw [show k + (d + 1) = k + d + 1 by omega, takeI_succ e]
        omega
    have m := mono (ts.length - k) (by omega)
    rw [show k + (ts.length - k) = ts.length by omega, List.take_length] at m
    have c0 : (0 : Rat) ≤ (((ts.take k).sum : Int) : Rat) := Rat.intCast_nonneg.mpr (by omega)
    have c1 : (((ts.take k).sum : Int) : Rat) ≤ ((ts.sum : Int) : Rat) := Rat.intCast_le_intCast.mpr m
    refine ⟨?_, ?_⟩
    · exact div_nn c0 hs
    · have e1 : ((ts.sum : Int) : Rat) / ((ts.sum : Int) : Rat) = 1 := by grind
      rw [← e1]
      exact div_le_div hs hs (Rat.mul_le_mul_of_nonneg_right c1 (Rat.le_of_lt hs))
  · rw [rowT_at (by omega)]
    rw [List.take_zero]
    show ((0 : Int) : Rat) / _ = 0
    have : ((0 : Int) : Rat) = 0 := rfl
    rw [this]; grind
  · rw [hlen, Nat.add_sub_cancel, rowT_at (Nat.le_refl _), List.take_length]; grind
  · rw [hlen] at hi
    have e : ts[i]? = some ts[i] := List.getElem?_eq_getElem (by omega)
    have d := rowT_diff h e
    have := h.2.2 _ (List.getElem_mem (show i < ts.length by omega))
    have p := div_pos (Rat.intCast_pos.mpr (show 0 < ts[i] by omega)) hs
    rw [← d] at p
    grind
theorem rowT_bd {ts : List Int} (h : Parts ts) : ∀ r ∈ rowT ts, Bd 6 r := fun r hr => by
  unfold rowT at hr
  obtain ⟨k, hk, rfl⟩ := List.mem_map.mp hr
  have hk := List.mem_range.mp hk
  have b := takeI_bd h.2.2 k (by omega)
  have s := h.sum
  have := h.2.1
  exact Bd.div (by omega) (by show _ < 64; omega) (by show _ < 64; omega)
theorem rowT_quot {ts : List Int} (h : Parts ts) {k : Nat} {a b : Int} (ha : ts[k]? = some a) (hb : ts[k + 1]? = some b) : quotF (rowT ts) k = (b : Rat) / (a : Rat) := by
  unfold quotF
  have e2 := rowT_diff h hb
  have e2 : rowF (rowT ts) (k + 2) - rowF (rowT ts) (k + 1) = _ := e2
  rw [e2, rowT_diff h ha]
  have hne := Rat.ne_of_gt (sumPos h)
  have := h.2.2 _ (List.mem_of_getElem? ha)
  have hna := Rat.ne_of_gt (Rat.intCast_pos.mpr (show 0 < a by omega))
  grind
/-- a share that stays, in thirds or quarters -/
def KS (k : Rat) : Prop := ∃ a b : Int, k = (a : Rat) / (b : Rat) ∧ 0 ≤ a ∧ a ≤ 2 ∧ 3 ≤ b ∧ b ≤ 4
theorem KS.ok {k : Rat} (h : KS k) : 0 ≤ k ∧ k < 1 ∧ Bd 3 k := by
  obtain ⟨a, b, rfl, h1, h2, h3, h4⟩ := h
  have hb : (0 : Rat) < (b : Rat) := Rat.intCast_pos.mpr (by omega)
  have ha : (0 : Rat) ≤ (a : Rat) := Rat.intCast_nonneg.mpr h1
  have hab : (a : Rat) < (b : Rat) := Rat.intCast_lt_intCast.mpr (by omega)
  have hn := Rat.ne_of_gt hb
  refine ⟨?_, ?_, Bd.div (by omega) (by show _ < 8; omega) (by show _ < 8; omega)⟩
  · exact div_nn ha hb
  · have : 0 < ((b : Rat) - (a : Rat)) / (b : Rat) := div_pos (by grind) hb
    have e : ((b : Rat) - (a : Rat)) / (b : Rat) = 1 - (a : Rat) / (b : Rat) := by grind
    rw [e] at this; grind
theorem ks_zero : KS 0 := ⟨0, 3, by decide +kernel, by decide, by decide, by decide, by decide⟩
theorem ladT_ok {ts : List Int} {kept : List Rat} (h : Parts ts) (hl : kept.length + 1 = ts.length) (hk : ∀ k ∈ kept, KS k) : Lok (ladFrom (rowT ts) kept) := by
  have hlr : kept.length + 2 = (rowT ts).length := by rw [rowT_len]; omega
  have hll := ladFrom_len hlr
  have h1 := h.1
  have h2 := h.2.1
  refine ⟨by omega, by omega, fun x hx => ?_⟩
  obtain ⟨i, hi⟩ := List.getElem?_of_mem hx
  have hlt := (List.getElem?_eq_some_iff.mp hi).1
  rw [hll] at hlt
  have hki : kept[i]? = some kept[i] := List.getElem?_eq_getElem hlt
  have ea : ts[i]? = some ts[i] := List.getElem?_eq_getElem (by omega)
  have eb : ts[i + 1]? = some ts[i + 1] := List.getElem?_eq_getElem (by omega)
  have ba := h.2.2 _ (List.getElem_mem (show i < ts.length by omega))
  have bb := h.2.2 _ (List.getElem_mem (show i + 1 < ts.length by omega))
  have e := (ladFrom_get hlr hki).symm.trans hi
  have e := Option.some.inj e
  rw [rowT_quot h ea eb] at e
  obtain ⟨a, b, e2, k1, k2, k3, k4⟩ := hk _ (List.getElem_mem hlt)
  rw [e2] at e
  generalize ts[i] = s at *
  generalize ts[i + 1] = t at *
  have hs : ((s : Int) : Rat) ≠ 0 := Rat.ne_of_gt (Rat.intCast_pos.mpr (by omega))
  have hb : ((b : Int) : Rat) ≠ 0 := Rat.ne_of_gt (Rat.intCast_pos.mpr (by omega))
  have hst : ((s : Int) : Rat) + ((t : Int) : Rat) ≠ 0 := by
    have := Rat.intCast_pos.mpr (show 0 < s by omega)
    have := Rat.intCast_pos.mpr (show 0 < t by omega)
    grind
  have e1q : 1 + (t : Rat) / (s : Rat) = ((s : Rat) + (t : Rat)) / (s : Rat) := by grind
  have x1 : x.1 = (((b - a) * s : Int) : Rat) / ((b * (s + t) : Int) : Rat) := by
    rw [← e]
    show (1 - (a : Rat) / (b : Rat)) / (1 + (t : Rat) / (s : Rat)) = _
    rw [e1q, cast_mul, cast_mul, Rat.intCast_sub, Rat.intCast_add]
    grind
  have x2 : x.2 = (((b - a) * t : Int) : Rat) / ((b * (s + t) : Int) : Rat) := by
    rw [← e]
    show (1 - (a : Rat) / (b : Rat)) / (1 + (t : Rat) / (s : Rat)) * ((t : Rat) / (s : Rat)) = _
    rw [e1q, cast_mul, cast_mul, Rat.intCast_sub, Rat.intCast_add]
    grind
  have m1 : 1 ≤ (b - a) * s := by have := Int.mul_le_mul (show 1 ≤ b - a by omega) (show 1 ≤ s by omega) (by decide) (by omega); omega
  have m2 : 1 ≤ (b - a) * t := by have := Int.mul_le_mul (show 1 ≤ b - a by omega) (show 1 ≤ t by omega) (by decide) (by omega); omega
  have m3 : (b - a) * s + (b - a) * t ≤ b * (s + t) := by
    have : (b - a) * s + (b - a) * t = (b - a) * (s + t) := by rw [Int.mul_add]
    rw [this]
    exact Int.mul_le_mul_of_nonneg_right (by omega) (by omega)
  have m4 : b * (s + t) ≤ 4 * 8 := Int.mul_le_mul k4 (by omega) (by omega) (by decide)
  refine ⟨by rw [x1]; exact share_of m1 (by omega) (by omega), by rw [x2]; exact share_of m2 (by omega) (by omega), ?_⟩
  rw [x1, x2]
  generalize (b - a) * s = u at *
  generalize (b - a) * t = v at *
  generalize b * (s + t) = w at *
  have hw : (0 : Rat) < (w : Rat) := Rat.intCast_pos.mpr (by omega)
  have e3 : (u : Rat) / (w : Rat) + (v : Rat) / (w : Rat) = ((u + v : Int) : Rat) / (w : Rat) := by rw [Rat.intCast_add]; grind
  have e4 : (w : Rat) / (w : Rat) = 1 := by grind
  rw [e3, ← e4]
  exact div_le_div hw hw (Rat.mul_le_mul_of_nonneg_right (Rat.intCast_le_intCast.mpr m3) (Rat.le_of_lt hw))
/-! the defs -/
def R_check_rowX (er : Er) (ds : List PyData) (P : PyData → Prop) (Z : Addr → Prop) : Prop := ∃ (row : List Rat) (n : Nat), ds = [.list (row.map enc)] ∧ row.length ≤ 1000 ∧ (∀ r ∈ row, Bd n r) ∧ n ≤ 4000 ∧ (Row row → P .none) ∧ (¬ Row row → Z er.bs)
theorem S_check_rowX {er : Er} {row : List Rat} {n : Nat} {P : PyData → Prop} {Z : Addr → Prop} (hl : row.length ≤ 1000) (h : ∀ r ∈ row, Bd n r) (hn : n ≤ 4000) (p : Row row → P .none) (z : ¬ Row row → Z er.bs) : R_check_rowX er [.list (row.map enc)] P Z := ⟨row, n, rfl, hl, h, hn, p, z⟩
def R_ladder_fromX (er : Er) (ds : List PyData) (P : PyData → Prop) (Z : Addr → Prop) : Prop := ∃ (row kept : List Rat) (n : Nat), ds = [.list (row.map enc), .list (kept.map enc)] ∧ row.length ≤ 1000 ∧ (∀ r ∈ row, Bd n r) ∧ (∀ r ∈ kept, Bd n r) ∧ n ≤ 500 ∧ kept.length + 2 = row.length ∧ (∀ k ∈ kept, 0 ≤ k ∧ k < 1) ∧ (Row row → Lok (ladFrom row kept) ∧ P (encL (ladFrom row kept))) ∧ (¬ Row row → Z er.bs)
theorem S_ladder_fromX {er : Er} {row kept : List Rat} {n : Nat} {P : PyData → Prop} {Z : Addr → Prop} (hl : row.length ≤ 1000) (h : ∀ r ∈ row, Bd n r) (h' : ∀ r ∈ kept, Bd n r) (hn : n ≤ 500) (hlen : kept.length + 2 = row.length) (hk : ∀ k ∈ kept, 0 ≤ k ∧ k < 1) (p : Row row → Lok (ladFrom row kept) ∧ P (encL (ladFrom row kept))) (z : ¬ Row row → Z er.bs) : R_ladder_fromX er [.list (row.map enc), .list (kept.map enc)] P Z := ⟨row, kept, n, rfl, hl, h, h', hn, hlen, hk, p, z⟩
def R_law_call06 (ds : List PyData) (P : PyData → Prop) : Prop := ∃ (row kept : List Rat) (n : Nat), ds = [.list (row.map enc), .list (kept.map enc)] ∧ row.length ≤ 1000 ∧ (∀ r ∈ row, Bd n r) ∧ (∀ r ∈ kept, Bd n r) ∧ n ≤ 500 ∧ kept.length + 2 = row.length ∧ (∀ k ∈ kept, 0 ≤ k ∧ k < 1) ∧ (Row row → Lok (ladFrom row kept) ∧ P (encL (ladFrom row kept))) ∧ (¬ Row row → P (.str "share"))
theorem S_law_call06 {row kept : List Rat} {n : Nat} {P : PyData → Prop} (hl : row.length ≤ 1000) (h : ∀ r ∈ row, Bd n r) (h' : ∀ r ∈ kept, Bd n r) (hn : n ≤ 500) (hlen : kept.length + 2 = row.length) (hk : ∀ k ∈ kept, 0 ≤ k ∧ k < 1) (p : Row row → Lok (ladFrom row kept) ∧ P (encL (ladFrom row kept))) (z : ¬ Row row → P (.str "share")) : R_law_call06 [.list (row.map enc), .list (kept.map enc)] P := ⟨row, kept, n, rfl, hl, h, h', hn, hlen, hk, p, z⟩
theorem rests_rest (L : Lad) : restsL L = (List.range L.length).map fun i => restL L (i + 1) := by
  apply List.ext_getElem?
  intro i
  unfold restsL
  by_cases hi : i < L.length
  · rw [List.getElem?_map, List.getElem?_map, List.getElem?_range hi, getD_get' hi]
    show some (1 - ((L.getD i (0, 0)).1 + (L.getD i (0, 0)).2)) = some (restL L (i + 1))
    rw [restL_in hi]
  · rw [List.getElem?_eq_none (by rw [List.length_map]; omega), List.getElem?_eq_none (by rw [List.length_map, List.length_range]; omega)]
end LW

namespace LW
open PySem PySem.Spec PyProof.Rows L2
/-! ### changed ladders -/
theorem turn_at {L : Lad} {r : Nat} {x : Rat × Rat} (h : (turn L)[r]? = some x) : ∃ s, r + s + 1 = L.length ∧ L[s]? = some (x.2, x.1) := by
  have hl := (List.getElem?_eq_some_iff.mp h).1
  rw [turn_len] at hl
  have hy : L[L.length - 1 - r]? = some L[L.length - 1 - r] := List.getElem?_eq_getElem (by omega)
  have := turn_get hy
  rw [show L.length - 1 - (L.length - 1 - r) = r by omega, h] at this
  have e := Option.some.inj this
  refine ⟨L.length - 1 - r, by omega, ?_⟩
  rw [hy, e]
theorem Lw.turn {L : Lad} (h : Lw L) : Lw (turn L) := ⟨by rw [turn_len]; exact h.le, fun x hx => by
  obtain ⟨a, b, c, d⟩ := h.sh _ (turn_mem hx)
  exact ⟨b, a, d, c⟩⟩
theorem hB_turn {L : Lad} (h : Lw L) : ∀ k, k ≤ L.length + 1 → hB (turn L) k = 1 - hB L (L.length + 1 - k) := by
  have hl := turn_len L
  intro k hk
  refine harm_eq h.turn.pos (f := hB (turn L)) (g := fun k => 1 - hB L (L.length + 1 - k)) (fun _ => 0) ?_ ?_ (fun r x hx => ?_) (fun r x hx => ?_) k (by omega)
  · show hB (turn L) 0 = 1 - hB L (L.length + 1 - 0)
    rw [hB_zero, Nat.sub_zero, hB_top h rfl]; grind
  · show hB (turn L) _ = 1 - hB L (L.length + 1 - ((turn L).length + 1))
    rw [hB_top h.turn rfl, hl, Nat.sub_self, hB_zero]; grind
  · have := hB_step h.turn hx; grind
  · obtain ⟨s, e, hy⟩ := turn_at hx
    have := hB_step h hy
    show x.1 * (1 - hB L (L.length + 1 - (r + 2))) + x.2 * (1 - hB L (L.length + 1 - r)) + 0 = (x.1 + x.2) * (1 - hB L (L.length + 1 - (r + 1)))
    rw [show L.length + 1 - (r + 2) = s by omega, show L.length + 1 - r = s + 2 by omega, show L.length + 1 - (r + 1) = s + 1 by omega]
    have this : x.2 * hB L (s + 2) + x.1 * hB L s + (1 - (x.2 + x.1)) * hB L (s + 1) = hB L (s + 1) := this
    grind
theorem mM_turn {L : Lad} (h : Lw L) : ∀ k, k ≤ L.length + 1 → mM (turn L) k = mM L (L.length + 1 - k) := by
  have hl := turn_len L
  intro k hk
  refine harm_eq h.turn.pos (f := mM (turn L)) (g := fun k => mM L (L.length + 1 - k)) (fun _ => 1) ?_ ?_ (fun r x hx => ?_) (fun r x hx => ?_) k (by omega)
  · show mM (turn L) 0 = mM L (L.length + 1 - 0)
    rw [mM_zero, Nat.sub_zero, mM_top h rfl]
  · show mM (turn L) _ = mM L (L.length + 1 - ((turn L).length + 1))
    rw [mM_top h.turn rfl, hl, Nat.sub_self, mM_zero]
  · have := mM_step h.turn hx; grind
  · obtain ⟨s, e, hy⟩ := turn_at hx
    have := mM_step h hy
    show x.1 * mM L (L.length + 1 - (r + 2)) + x.2 * mM L (L.length + 1 - r) + 1 = (x.1 + x.2) * mM L (L.length + 1 - (r + 1))
    rw [show L.length + 1 - (r + 2) = s by omega, show L.length + 1 - r = s + 2 by omega, show L.length + 1 - (r + 1) = s + 1 by omega]
    have this : 1 + x.2 * mM L (s + 2) + x.1 * mM L s + (1 - (x.2 + x.1)) * mM L (s + 1) = mM L (s + 1) := this
    grind
theorem Sz.turn {L : Lad} (h : Sz L) : Sz (turn L) := ⟨h.lw.turn, ⟨fun x hx => by
    have := h.st.sh _ (turn_mem hx); exact ⟨this.2.1, this.1, by have := this.2.2; show x.1 + x.2 ≤ 1; have this : x.2 + x.1 ≤ 1 := this; grind⟩⟩, by
  obtain ⟨E, a, b, c⟩ := h.ge
  refine ⟨E, a, b, fun x hx => ?_⟩
  obtain ⟨e, h1, h2, h3, h4⟩ := c _ (turn_mem hx)
  exact ⟨e, h1, h2, h4, h3⟩⟩
theorem mms_turn {L : Lad} (h : Lw L) : mms (turn L) = (mms L).reverse := by
  apply List.ext_getElem?
  intro k
  by_cases hk : k ≤ L.length + 1
  · rw [mms_get (by rw [turn_len]; exact hk), mM_turn h k hk, List.getElem?_reverse (by rw [mms_len]; omega), mms_len, mms_get (by omega)]
    congr 2
  · rw [List.getElem?_eq_none (by rw [mms_len, turn_len]; omega), List.getElem?_eq_none (by rw [List.length_reverse, mms_len]; omega)]
/-- steps of a slower ladder -/
theorem mM_slow {L : Lad} (h : Lw L) {k : Nat} (hk : k < L.length) {s : Rat} (hs : 0 < s) (hw : Lw (slowL L k s)) : ∀ r, r ≤ L.length + 1 → mM (slowL L k s) r = mM L r + (1 / s - 1) * viL L r (k + 1) := by
  have hl := slowL_len L k s
  have hsn := Rat.ne_of_gt hs
  intro r hr
  refine harm_eq hw.pos (f := mM (slowL L k s)) (g := fun r => mM L r + (1 / s - 1) * viL L r (k + 1)) (fun _ => 1) ?_ ?_ (fun r x hx => ?_) (fun r x hx => ?_) r (by omega)
  · show mM (slowL L k s) 0 = mM L 0 + _ * viL L 0 (k + 1)
    rw [mM_zero, mM_zero, viL_bot (by omega)]; grind
  · show mM (slowL L k s) _ = mM L ((slowL L k s).length + 1) + _ * viL L ((slowL L k s).length + 1) (k + 1)
    rw [mM_top hw rfl, hl, mM_top h rfl, viL_top (by omega)]; grind
  · have := mM_step hw hx; grind
  · have hlt := (List.getElem?_eq_some_iff.mp hx).1
    rw [hl] at hlt
    have hy : L[r]? = some L[r] := List.getElem?_eq_getElem hlt
    have e := (slowL_get (k := k) (s := s) hy).symm.trans hx
    have e := Option.some.inj e
    have m := mM_step h hy
    have v := viL_step h (o := k + 1) (by omega) (by omega) hy
    generalize L[r] = y at *
    show x.1 * (mM L (r + 2) + (1 / s - 1) * viL L (r + 2) (k + 1)) + x.2 * (mM L r + (1 / s - 1) * viL L r (k + 1)) + 1 = (x.1 + x.2) * (mM L (r + 1) + (1 / s - 1) * viL L (r + 1) (k + 1))
    generalize mM L (r + 2) = m2 at *
    generalize mM L (r + 1) = m1 at *
    generalize mM L r = m0 at *
    generalize viL L (r + 2) (k + 1) = v2 at *
    generalize viL L (r + 1) (k + 1) = v1 at *
    generalize viL L r (k + 1) = v0 at *
    have em : y.1 * m2 + y.2 * m0 = (y.1 + y.2) * m1 - 1 := by grind
    by_cases er : r = k
    · rw [if_pos er] at e
      rw [if_pos (by omega)] at v
      have ev : y.1 * v2 + y.2 * v0 = (y.1 + y.2) * v1 - 1 := by grind
      rw [← e]
      show y.1 * s * (m2 + (1 / s - 1) * v2) + y.2 * s * (m0 + (1 / s - 1) * v0) + 1 = (y.1 * s + y.2 * s) * (m1 + (1 / s - 1) * v1)
      have e1 : y.1 * s * (m2 + (1 / s - 1) * v2) + y.2 * s * (m0 + (1 / s - 1) * v0) = s * (y.1 * m2 + y.2 * m0) + s * (1 / s - 1) * (y.1 * v2 + y.2 * v0) := by grind
      rw [e1, em, ev]
      grind
    · rw [if_neg er] at e
      rw [if_neg (by omega)] at v
      have ev : y.1 * v2 + y.2 * v0 = (y.1 + y.2) * v1 := by grind
      rw [← e]
      have e1 : y.1 * (m2 + (1 / s - 1) * v2) + y.2 * (m0 + (1 / s - 1) * v0) = (y.1 * m2 + y.2 * m0) + (1 / s - 1) * (y.1 * v2 + y.2 * v0) := by grind
      rw [e1, em, ev]
      grind
/-- the ladder that never stays -/
theorem quickL_len (L : Lad) : (quickL L).length = L.length := by unfold quickL; rw [List.length_map]
theorem quickL_get {L : Lad} {r : Nat} {x : Rat × Rat} (h : L[r]? = some x) : (quickL L)[r]? = some (x.1 / (x.1 + x.2), x.2 / (x.1 + x.2)) := by unfold quickL; rw [List.getElem?_map, h]; rfl
theorem quickL_qs {L : Lad} (h : Lw L) : qs (quickL L) = qs L := by
  unfold qs quickL
  rw [List.map_map]
  refine List.map_congr_left fun x hx => ?_
  obtain ⟨h1, h2, _⟩ := h.sh x hx
  show x.2 / (x.1 + x.2) / (x.1 / (x.1 + x.2)) = x.2 / x.1
  have a := Rat.ne_of_gt h1
  have b : x.1 + x.2 ≠ 0 := by grind
  grind
theorem quickL_rests {L : Lad} (h : Lw L) : restsL (quickL L) = List.replicate L.length 0 := by
  rw [List.eq_replicate_iff]
  refine ⟨by unfold restsL; rw [List.length_map, quickL_len], fun y hy => ?_⟩
  obtain ⟨z, hz, rfl⟩ := List.mem_map.mp hy
  obtain ⟨x, hx, rfl⟩ := List.mem_map.mp hz
  obtain ⟨h1, h2, _⟩ := h.sh x hx
  show 1 - (x.1 / (x.1 + x.2) + x.2 / (x.1 + x.2)) = 0
  have b : x.1 + x.2 ≠ 0 := by grind
  have : x.1 / (x.1 + x.2) + x.2 / (x.1 + x.2) = 1 := by grind
  rw [this]; grind
theorem quick_sz {L : Lad} (g : GL L) (h8 : L.length ≤ 8) : Sz (quickL L) := by
  have ok := quick_ok g h8
  refine ⟨ok.lw, ok.st, 12, by decide, by decide, fun y hy => ?_⟩
  obtain ⟨x, hx, rfl⟩ := List.mem_map.mp hy
  have gs := g.sh x hx
  obtain ⟨a, ha⟩ := gs.d1
  obtain ⟨b, hb⟩ := gs.d2
  have p1 := gs.p1
  have p2 := gs.p2
  have hle := gs.le
  have e12 : (12 : Rat) = ((12 : Int) : Rat) := rfl
  have ha0 : 0 < a := Rat.intCast_pos.mp (show (0 : Rat) < (a : Rat) by grind)
  have hb0 : 0 < b := Rat.intCast_pos.mp (show (0 : Rat) < (b : Rat) by grind)
  have hab : a + b ≤ 12 := by
    have : ((a + b : Int) : Rat) ≤ ((12 : Int) : Rat) := by rw [Rat.intCast_add, ← e12]; grind
    exact Rat.intCast_le_intCast.mp this
  have hne : ((a : Int) : Rat) + ((b : Int) : Rat) ≠ 0 := by
    have := Rat.intCast_pos.mpr ha0
    have := Rat.intCast_pos.mpr hb0
    grind
  have ec : (((a + b).toNat : Int) : Rat) = (a : Rat) + (b : Rat) := by rw [Int.toNat_of_nonneg (by omega), Rat.intCast_add]
  refine ⟨(a + b).toNat, by omega, by omega, ⟨a, ?_⟩, ⟨b, ?_⟩⟩
  · rw [ec]
    show x.1 / (x.1 + x.2) * ((a : Rat) + (b : Rat)) = a
    rw [ha, hb]; grind
  · rw [ec]
    show x.2 / (x.1 + x.2) * ((a : Rat) + (b : Rat)) = b
    rw [ha, hb]; grind
theorem quick_le {L : Lad} (h : Lok L) (hq : Lok (quickL L)) : ∀ r, r ≤ L.length + 1 → mM (quickL L) r ≤ mM L r := by
  have lw := h.lw
  have hl := quickL_len L
  intro r hr
  have := superh lw.pos (f := fun r => mM L r - mM (quickL L) r) (by show 0 ≤ mM L 0 - mM (quickL L) 0; rw [mM_zero, mM_zero]; grind)
    (by show 0 ≤ mM L (L.length + 1) - mM (quickL L) (L.length + 1); rw [mM_top lw rfl, mM_top hq.lw (by rw [hl])]; grind) (fun r x hx => ?_) r hr
  · have this : 0 ≤ mM L r - mM (quickL L) r := this
    grind
  · have a := mM_step lw hx
    have b := mM_step hq.lw (quickL_get hx)
    obtain ⟨h1, h2, h3⟩ := h.sh x (List.mem_of_getElem? hx)
    have p1 := h1.pos
    have p2 := h2.pos
    show x.1 * (mM L (r + 2) - mM (quickL L) (r + 2)) + x.2 * (mM L r - mM (quickL L) r) ≤ (x.1 + x.2) * (mM L (r + 1) - mM (quickL L) (r + 1))
    generalize mM L (r + 2) = m2 at *
    generalize mM L (r + 1) = m1 at *
    generalize mM L r = m0 at *
    generalize mM (quickL L) (r + 2) = q2 at *
    generalize mM (quickL L) (r + 1) = q1 at *
    generalize mM (quickL L) r = q0 at *
    have hw : x.1 + x.2 ≠ 0 := by grind
    have b : 1 + x.1 / (x.1 + x.2) * q2 + x.2 / (x.1 + x.2) * q0 + (1 - (x.1 / (x.1 + x.2) + x.2 / (x.1 + x.2))) * q1 = q1 := b
    have e1 : x.1 / (x.1 + x.2) + x.2 / (x.1 + x.2) = 1 := by grind
    rw [e1] at b
    have b2 : x.1 * q2 + x.2 * q0 = (x.1 + x.2) * q1 - (x.1 + x.2) := by
      have : (x.1 + x.2) * (1 + x.1 / (x.1 + x.2) * q2 + x.2 / (x.1 + x.2) * q0 + (1 - 1) * q1) = (x.1 + x.2) * q1 := by rw [b]
      have e2 : (x.1 + x.2) * (1 + x.1 / (x.1 + x.2) * q2 + x.2 / (x.1 + x.2) * q0 + (1 - 1) * q1) = (x.1 + x.2) + x.1 * q2 + x.2 * q0 := by grind
      rw [e2] at this; grind
    have a2 : x.1 * m2 + x.2 * m0 = (x.1 + x.2) * m1 - 1 := by grind
    have e3 : x.1 * (m2 - q2) + x.2 * (m0 - q0) = (x.1 + x.2) * (m1 - q1) + ((x.1 + x.2) - 1) := by
      have : x.1 * (m2 - q2) + x.2 * (m0 - q0) = (x.1 * m2 + x.2 * m0) - (x.1 * q2 + x.2 * q0) := by grind
      rw [this, a2, b2]; grind
    rw [e3]
    generalize (x.1 + x.2) * (m1 - q1) = u
    grind
/-! more rungs, fewer rungs -/
theorem Lok.app {L M : Lad} (h : ∀ x ∈ L, Sh x.1 ∧ Sh x.2 ∧ x.1 + x.2 ≤ 1) (h2 : ∀ x ∈ M, Sh x.1 ∧ Sh x.2 ∧ x.1 + x.2 ≤ 1) : ∀ x ∈ L ++ M, Sh x.1 ∧ Sh x.2 ∧ x.1 + x.2 ≤ 1 := fun x hx => by
  rcases List.mem_append.mp hx with hx | hx
  · exact h x hx
  · exact h2 x hx
def moreL (L : Lad) (i : Nat) (y : Rat × Rat) : Lad := L.take i ++ [y] ++ L.drop i
def lessL (L : Lad) (i : Nat) : Lad := L.take i ++ L.drop (i + 1)
def joinL (L M : Lad) (y : Rat × Rat) : Lad := L ++ [y] ++ M
structure Sy (y : Rat × Rat) : Prop where
  s1 : Sh y.1
  s2 : Sh y.2
  le : y.1 + y.2 ≤ 1
theorem moreL_len {L : Lad} {i : Nat} {y : Rat × Rat} (h : i ≤ L.length) : (moreL L i y).length = L.length + 1 := by
  unfold moreL; rw [List.length_append, List.length_append, List.length_take, List.length_drop]; show min i L.length + 1 + (L.length - i) = _; omega
theorem lessL_len {L : Lad} {i : Nat} (h : i < L.length) : (lessL L i).length + 1 = L.length := by
  unfold lessL; rw [List.length_append, List.length_take, List.length_drop]; omega
theorem joinL_len (L M : Lad) (y : Rat × Rat) : (joinL L M y).length = L.length + M.length + 1 := by
  unfold joinL; rw [List.length_append, List.length_append]; show L.length + 1 + M.length = _; omega
theorem sy1 {y : Rat × Rat} (h : Sy y) : ∀ x ∈ [y], Sh x.1 ∧ Sh x.2 ∧ x.1 + x.2 ≤ 1 := fun x hx => by rw [List.mem_singleton.mp hx]; exact ⟨h.s1, h.s2, h.le⟩
theorem moreL_ok {L : Lad} (h : Lok L) {i : Nat} {y : Rat × Rat} (hy : Sy y) (hi : i ≤ L.length) (hl : L.length < 8) : Lok (moreL L i y) := ⟨by rw [moreL_len hi]; omega, by rw [moreL_len hi]; omega, Lok.app (Lok.app (fun x hx => h.sh x (List.mem_of_mem_take hx)) (sy1 hy)) fun x hx => h.sh x (List.mem_of_mem_drop hx)⟩
theorem lessL_ok {L : Lad} (h : Lok L) {i : Nat} (hi : i < L.length) (hl : 1 < L.length) : Lok (lessL L i) := ⟨by have := lessL_len hi; omega, by have := lessL_len hi; have := h.le; omega, Lok.app (fun x hx => h.sh x (List.mem_of_mem_take hx)) fun x hx => h.sh x (List.mem_of_mem_drop hx)⟩
theorem joinL_ok {L M : Lad} (h : Lok L) (h2 : Lok M) {y : Rat × Rat} (hy : Sy y) (hl : L.length + M.length < 8) : Lok (joinL L M y) := ⟨by rw [joinL_len]; omega, by rw [joinL_len]; omega, Lok.app (Lok.app h.sh (sy1 hy)) h2.sh⟩
theorem less_more {L : Lad} {i : Nat} {y : Rat × Rat} (h : i ≤ L.length) : lessL (moreL L i y) i = L := by
  unfold lessL moreL
  have hl : (L.take i).length = i := by rw [List.length_take]; omega
  rw [List.append_assoc, List.take_append_of_le_length (by omega), List.take_of_length_le (by omega), List.drop_append, hl, List.drop_eq_nil_of_le (by omega)]
  rw [show i + 1 - i = 1 by omega]
  show L.take i ++ ([] ++ ([y] ++ L.drop i).drop 1) = L
  show L.take i ++ L.drop i = L
  exact List.take_append_drop i L
theorem qs_join (L M : Lad) (y : Rat × Rat) : qs (joinL L M y) = qs L ++ [y.2 / y.1] ++ qs M := by unfold qs joinL; rw [List.map_append, List.map_append]; rfl
/-! the defs -/
def R_checkedX (er : Er) (ds : List PyData) (P : PyData → Prop) (Z : Addr → Prop) : Prop := ∃ L : Lad, ds = [encL L] ∧ ((Lok L ∧ P (encL L)) ∨ ((L.length = 0 ∨ 8 < L.length) ∧ Z er.bl))
theorem S_checkedX {er : Er} {L : Lad} {P : PyData → Prop} {Z : Addr → Prop} (h : (Lok L ∧ P (encL L)) ∨ ((L.length = 0 ∨ 8 < L.length) ∧ Z er.bl)) : R_checkedX er [encL L] P Z := ⟨L, rfl, h⟩
def R_with_rungX (er : Er) (ds : List PyData) (P : PyData → Prop) (Z : Addr → Prop) : Prop := ∃ (L : Lad) (i : Nat) (y : Rat × Rat), ds = [encL L, .int (1 + (i : Int)), enc y.1, enc y.2] ∧ Lok L ∧ i ≤ L.length ∧ Sy y ∧ (L.length < 8 → P (encL (moreL L i y))) ∧ (L.length = 8 → Z er.bl)
theorem S_with_rungX {er : Er} {L : Lad} {i : Nat} {y : Rat × Rat} {P : PyData → Prop} {Z : Addr → Prop} (h : Lok L) (hi : i ≤ L.length) (hy : Sy y) (p : L.length < 8 → P (encL (moreL L i y))) (z : L.length = 8 → Z er.bl) : R_with_rungX er [encL L, .int (1 + (i : Int)), enc y.1, enc y.2] P Z := ⟨L, i, y, rfl, h, hi, hy, p, z⟩
def R_without_rungX (er : Er) (ds : List PyData) (P : PyData → Prop) (Z : Addr → Prop) : Prop := ∃ (L : Lad) (i : Nat), ds = [encL L, .int (1 + (i : Int))] ∧ Lok L ∧ i < L.length ∧ (1 < L.length → P (encL (lessL L i))) ∧ (L.length = 1 → Z er.bl)
theorem S_without_rungX {er : Er} {L : Lad} {i : Nat} {P : PyData → Prop} {Z : Addr → Prop} (h : Lok L) (hi : i < L.length) (p : 1 < L.length → P (encL (lessL L i))) (z : L.length = 1 → Z er.bl) : R_without_rungX er [encL L, .int (1 + (i : Int))] P Z := ⟨L, i, rfl, h, hi, p, z⟩
def R_joinedX (er : Er) (ds : List PyData) (P : PyData → Prop) (Z : Addr → Prop) : Prop := ∃ (L M : Lad) (y : Rat × Rat), ds = [encL L, encL M, enc y.1, enc y.2] ∧ Lok L ∧ Lok M ∧ Sy y ∧ (L.length + M.length < 8 → P (encL (joinL L M y))) ∧ (8 ≤ L.length + M.length → Z er.bl)
theorem S_joinedX {er : Er} {L M : Lad} {y : Rat × Rat} {P : PyData → Prop} {Z : Addr → Prop} (h : Lok L) (h2 : Lok M) (hy : Sy y) (p : L.length + M.length < 8 → P (encL (joinL L M y))) (z : 8 ≤ L.length + M.length → Z er.bl) : R_joinedX er [encL L, encL M, enc y.1, enc y.2] P Z := ⟨L, M, y, rfl, h, h2, hy, p, z⟩
inductive C07 where
  | more (L : Lad) (i : Nat) (y : Rat × Rat)
  | less (L : Lad) (i : Nat)
  | join (L M : Lad) (y : Rat × Rat)
  | slow (L : Lad) (i : Nat) (s : Rat)
def C07.args : C07 → List PyData
  | .more L i y => [.int 0, encL L, .int (1 + (i : Int)), encR y]
  | .less L i => [.int 1, encL L, .int (1 + (i : Int)), .int 0]
  | .join L M y => [.int 2, encL L, encL M, encR y]
  | .slow L i s => [.int 3, encL L, .int (1 + (i : Int)), enc s]
def C07.ok : C07 → Prop
  | .more L i y => Lok L ∧ i ≤ L.length ∧ Sy y
  | .less L i => Lok L ∧ i < L.length
  | .join L M y => Lok L ∧ Lok M ∧ Sy y
  | .slow L i s => Lok L ∧ i < L.length ∧ Sh s ∧ Lok (slowL L i s)
def C07.res : C07 → PyData
  | .more L i y => if L.length < 8 then encL (moreL L i y) else .str "ladder"
  | .less L i => if 1 < L.length then encL (lessL L i) else .str "ladder"
  | .join L M y => if L.length + M.length < 8 then encL (joinL L M y) else .str "ladder"
  | .slow L i s => encL (slowL L i s)
def R_law_call07 (ds : List PyData) (P : PyData → Prop) : Prop := ∃ c : C07, ds = c.args ∧ c.ok ∧ P c.res
theorem S_law_call07 (c : C07) {P : PyData → Prop} (h : c.ok) (p : P c.res) : R_law_call07 c.args P := ⟨c, rfl, h, p⟩
def R_law_rungs (ds : List PyData) (P : PyData → Prop) : Prop := ∃ (L : Lad) (k : Nat), ds = [encL L, .int ((L.length : Int) + 1), .int (1 + (k : Int))] ∧ GL L ∧ L.length ≤ 8 ∧ k < L.length ∧ P (.bool true)
theorem S_law_rungs {L : Lad} {k : Nat} {P : PyData → Prop} (g : GL L) (h8 : L.length ≤ 8) (hk : k < L.length) (p : P (.bool true)) : R_law_rungs [encL L, .int ((L.length : Int) + 1), .int (1 + (k : Int))] P := ⟨L, k, rfl, g, h8, hk, p⟩
theorem not_ladder {L : Lad} (h : L.length = 0 ∨ 8 < L.length) : isLadderD (encL L) = false := by
  show (decide (1 ≤ (L.map encR).length) && decide ((L.map encR).length ≤ 8) && (L.map encR).all rungD) = false
  rw [List.length_map]
  rcases h with h | h
  · rw [decide_eq_false (show ¬ 1 ≤ L.length by omega)]; rfl
  · rw [decide_eq_false (show ¬ L.length ≤ 8 by omega), Bool.and_false]; rfl
theorem two_enc : PyData.tuple [PyData.tuple [.int 1, .int 4], PyData.tuple [.int 1, .int 2]] = encR (1 / 4, 1 / 2) := by
  have h4 := enc_frac (a := 1) (b := 4) (by decide) (by decide)
  have h2 := enc_frac (a := 1) (b := 2) (by decide) (by decide)
  show PyData.tuple [_, _] = PyData.tuple [enc _, enc _]
  rw [h4, h2]; rfl
theorem two_sy : Sy (1 / 4, 1 / 2) := ⟨⟨by decide +kernel, by decide +kernel, by decide +kernel⟩, ⟨by decide +kernel, by decide +kernel, by decide +kernel⟩, by decide +kernel⟩
end LW

namespace LW
open PySem PySem.Spec PyProof.Rows L2
/-! ### texts -/
def tJS (ts : List TE) : TE := fun σ H Q => tJs ts Str.empty σ H fun out H1 => Q (.str out) H1
def rJoin (K : PySem.W.Frag) : V → List V → Hp → VK → Prop := fun x xs H Q => ∃ a p, ∃ ys : List Str, x = .str a ∧ xs = [.ref p] ∧ (SqL K H p (ys.map V.str) ∨ SqT K H p (ys.map V.str)) ∧ (ys.map (·.length)).sum + ys.length * a.length ≤ 16777216 ∧ Q (.str (Txt.join a ys)) H
section
variable {X : Cx} {K : PySem.W.Frag}
theorem pe_js {v1 v2 : Expr} {rest : List Expr} {ts : List TE} {pos : Pos} (h : PJ X (v1 :: v2 :: rest) ts) : PE X (.JoinedStr (v1 :: v2 :: rest) pos) (tJS ts) := pe_joined h
theorem pe_joinK (hK : X.K = K) {o e : Expr} {to : TE} {t : TA} {apos cpos : Pos} (ho : PE X o to) (ha : PA X [e] t)
    (hbase : attributeBase o "join" X.env (eval o X.env) = eval o X.env := by rfl)
    (hfew : ((backTo cpos (starEach [e] X.env)).all (fun x => !x.1) && (backToKw cpos (keywordEach [] X.env)).all (fun x => x.1.isSome)
      && decide ([e].length + ([] : List Keyword).length + (if ([] : List Keyword).isEmpty then 0 else 1) < 30)) = true := by rfl)
    (hline : (apos.endLine == cpos.line) = true := by rfl) (hs : starEach [e] X.env = (false, eval e X.env) :: starEach [] X.env := by rfl) (hplain : (backTo cpos (starEach [] X.env)).any (·.1) = false := by rfl) :
    PE X (.Call (.Attribute o "join" apos) [e] [] cpos) (tBM K "str" (rJoin K) to t) := by
  subst hK
  exact pe_bm PySem.F.plainAttrs_str PySem.F.slot_str_join PySem.F.type_str_join mt_join ho ha hbase hfew hline hs hplain
end
section
variable {E : EK} {Xc : XP} {K : PySem.W.Frag} {ρ : List Slot} {P : PyData → Prop} {te to : TE} {ta : TA}
theorem ex_str {c : Str} {P : Str → Prop} (h : P c) : ∃ b, PyData.str c = .str b ∧ P b := ⟨c, rfl, h⟩
theorem log_small {i : Int} (h : i.natAbs ≤ 1000000) : i.natAbs.log2 < 1920 := by
  have : i.natAbs.log2 < 20 := PySem.Flt.log2_lt_of (by decide) (by show i.natAbs < 1048576; omega)
  omega
theorem rc_strI {i : Int} (h : i.natAbs ≤ 1000000) (p : P (.str (toString i))) : RC (fun xs H Q => ∃ i, xs = [.int i] ∧ i.natAbs.log2 < 1920 ∧ Q (.str (toString i)) H) [.int i] P := fun O H vs _ y Q q => by
  cases y with
  | cons y yr =>
    cases yr; cases y
    exact ⟨i, rfl, log_small h, q _ _ H (Same.refl H) (.str _) p⟩
theorem ev_fmt (h : EvP E Xc te ρ fun d => ∃ i : Int, d = .int i ∧ i.natAbs ≤ 1000000 ∧ P (.str (toString i))) : EvP E Xc (tFmt te) ρ P := fun C O σ H x e Q q =>
  h C O σ H x e _ fun v d H1 x1 k1 y ⟨i, ed, hi, p⟩ => by
    subst ed; cases y
    exact .inr ⟨i, rfl, log_small hi, q _ _ H1 x1 k1 (.str _) p⟩
def EvJ (E : EK) (Xc : XP) (ts : List TE) (acc : Str) (ρ : List Slot) (P : Str → Prop) : Prop := ∀ C O σ H, Rel C O ρ σ H → EOk E Xc C → ∀ Q : Str → Hp → Prop, (∀ s H', Rel C O ρ σ H' → Keep O H H' → P s → Q s H') → tJs ts acc σ H Q
theorem ej_nil {acc : Str} {P : Str → Prop} (p : P acc) : EvJ E Xc [] acc ρ P := fun C O σ H x e Q q => q acc H x (.refl O H) p
theorem ej_cons {t : TE} {ts : List TE} {acc : Str} {P : Str → Prop} (h : EvP E Xc t ρ fun d => ∃ y, d = .str y ∧ (acc ++ y).length ≤ 100000 ∧ EvJ E Xc ts (acc ++ y) ρ P) : EvJ E Xc (t :: ts) acc ρ P := fun C O σ H x e Q q =>
  h C O σ H x e _ fun v d H1 x1 k1 y ⟨s, ed, hl, h2⟩ => by
    subst ed; cases y
    exact ⟨s, rfl, Nat.le_trans hl (by decide), h2 C O σ H1 x1 e Q fun s' H' x' k' p => q s' H' x' (k1.trans k') p⟩
theorem ev_js {ts : List TE} (h : EvJ E Xc ts Str.empty ρ fun s => P (.str s)) : EvP E Xc (tJS ts) ρ P := fun C O σ H x e Q q =>
  h C O σ H x e _ fun s H1 x1 k1 p => q _ _ H1 x1 k1 (.str s) p
theorem ev_join (h : EvP E Xc to ρ fun d => ∃ a, d = .str a ∧ EvA E Xc ta ρ fun ds => ∃ ys : List Str, ds = [.list (ys.map .str)] ∧ (ys.map (·.length)).sum + ys.length * a.length ≤ 100000 ∧ P (.str (Str.join a ys))) : EvP E Xc (tBM K "str" (rJoin K) to ta) ρ P := fun C O σ H x e Q q =>
  h C O σ H x e _ fun v d H1 x1 k1 y1 ⟨a, ed, h1⟩ => by
    subst ed; cases y1
    refine ⟨rfl, h1 C O σ H1 x1 e _ fun vs ds H2 x2 k2 y2 ⟨ys, e2, hl, p⟩ => ?_⟩
    subst e2
    cases y2 with
    | cons y yr =>
      cases yr
      cases y with
      | lst n1 e1 r1 =>
        have hb := r1.strs_eq
        subst hb
        refine ⟨a, _, ys, rfl, rfl, .inl (SqL.of e1), Nat.le_trans hl (by decide), q _ (.str (Str.join a ys)) H2 x2 (k1.trans k2) ?_ p⟩
        rw [TL.join_eq]; exact .str _
end
/-! the text of a ladder -/
def shT (u : Rat) : Str := if u.den = 1 then toString u.num else (Str.empty ++ toString u.num) ++ "/" ++ toString (u.den : Int)
def rgT (x : Rat × Rat) : Str := shT x.1 ++ ":" ++ shT x.2
def ladT (L : Lad) : Str := Str.join " " (L.map rgT)
def R_share_text (ds : List PyData) (P : PyData → Prop) : Prop := ∃ u : Rat, ds = [enc u] ∧ Sh u ∧ P (.str (shT u))
theorem S_share_text {u : Rat} {P : PyData → Prop} (h : Sh u) (p : P (.str (shT u))) : R_share_text [enc u] P := ⟨u, rfl, h, p⟩
def R_format_ladder (ds : List PyData) (P : PyData → Prop) : Prop := ∃ L : Lad, ds = [encL L] ∧ Lok L ∧ P (.str (ladT L))
theorem S_format_ladder {L : Lad} {P : PyData → Prop} (h : Lok L) (p : P (.str (ladT L))) : R_format_ladder [encL L] P := ⟨L, rfl, h, p⟩
theorem str_app_len (a b : Str) : (a ++ b).length = a.length + b.length := by
  show (a.cps ++ b.cps).size = _
  rw [Array.size_append]; rfl
theorem str_assoc (a b c : Str) : a ++ b ++ c = a ++ (b ++ c) := by
  show (⟨a.cps ++ b.cps ++ c.cps⟩ : Str) = ⟨a.cps ++ (b.cps ++ c.cps)⟩
  rw [Array.append_assoc]
theorem num_len {n : Int} (h0 : 0 ≤ n) (h1 : n ≤ 1000) : (Str.ofString (toString n)).length ≤ 4 := toString_length_le h0 (by decide) (by show n < 10000; omega)
theorem shT_len {u : Rat} (h : Sh u) : (shT u).length ≤ 9 := by
  obtain ⟨h1, h2⟩ := h.num_le
  have h3 := h.den
  have a := num_len (n := u.num) (by omega) (by omega)
  have b := num_len (n := (u.den : Int)) (by omega) (by omega)
  unfold shT
  split
  · omega
  · rw [str_app_len, str_app_len, str_app_len]
    have e1 : (Str.empty).length = 0 := rfl
    have e2 : (Str.ofString "/").length = 1 := by decide +kernel
    omega
theorem rgT_len {x : Rat × Rat} (h1 : Sh x.1) (h2 : Sh x.2) : (rgT x).length ≤ 19 := by
  unfold rgT
  rw [str_app_len, str_app_len]
  have a := shT_len h1
  have b := shT_len h2
  have e2 : (Str.ofString ":").length = 1 := by decide +kernel
  omega
theorem lens_le {α : Type} {f : α → Str} {m : Nat} : ∀ {xs : List α}, (∀ x ∈ xs, (f x).length ≤ m) → ((xs.map f).map (·.length)).sum ≤ xs.length * m
  | [], _ => by simp
  | x :: xs, h => by
    have a := h x List.mem_cons_self
    have b := lens_le (xs := xs) fun y hy => h y (List.mem_cons_of_mem _ hy)
    rw [List.map_cons, List.map_cons, List.sum_cons, List.length_cons, Nat.succ_mul]
    omega
theorem ladT_len {L : Lad} (h : Lok L) : (ladT L).length ≤ 200 := by
  have a := PySem.StrLaws.join_length_le " " (L.map rgT)
  have b := lens_le (f := rgT) (m := 19) (xs := L) fun x hx => rgT_len (h.sh x hx).1 (h.sh x hx).2.1
  have c := h.le
  have e : (Str.ofString " ").length = 1 := by decide +kernel
  rw [e, List.length_map] at a
  have : L.length * 19 ≤ 8 * 19 := Nat.mul_le_mul_right _ c
  unfold ladT
  omega
theorem join_app (s : Str) : ∀ (xs ys : List Str), xs ≠ [] → ys ≠ [] → Str.join s (xs ++ ys) = Str.join s xs ++ s ++ Str.join s ys
  | [], _, h, _ => absurd rfl h
  | [x], y :: ys, _, _ => rfl
  | [_], [], _, h => absurd rfl h
  | x :: x' :: xs, ys, _, h => by
    have ih := join_app s (x' :: xs) ys (by simp) h
    show x ++ s ++ Str.join s (x' :: xs ++ ys) = x ++ s ++ Str.join s (x' :: xs) ++ s ++ Str.join s ys
    rw [ih]
    simp only [str_assoc]
theorem ladT_join {L M : Lad} {y : Rat × Rat} (h1 : L ≠ []) (h2 : M ≠ []) : ladT (joinL L M y) = Str.join " " [ladT L, ladT [y], ladT M] := by
  unfold ladT joinL
  rw [List.map_append, List.map_append, join_app _ _ _ (by simp) (by simpa using h2), join_app _ _ _ (by simpa using h1) (by simp)]
  show _ = Str.join " " (L.map rgT) ++ " " ++ (Str.join " " ([y].map rgT) ++ " " ++ Str.join " " (M.map rgT))
  simp only [str_assoc]
theorem strOk_of (s : String) : PyData.strOk (Str.ofString s) = true := by
  rw [Str.ofString_eq_toList]
  show (s.toList.map Char.toNat).toArray.all (· < 0x110000) = true
  rw [List.all_toArray, List.all_map, List.all_eq_true]
  intro c _
  have h := c.valid
  show decide (c.val.toNat < 0x110000) = true
  refine decide_eq_true ?_
  rcases h with h | h
  · have h : c.val.toNat < 0xd800 := h
    omega
  · exact h.2
theorem strOk_app {a b : Str} (ha : PyData.strOk a = true) (hb : PyData.strOk b = true) : PyData.strOk (a ++ b) = true := by
  show (a.cps ++ b.cps).all (· < 0x110000) = true
  rw [Array.all_append]
  have ha : a.cps.all (· < 0x110000) = true := ha
  have hb : b.cps.all (· < 0x110000) = true := hb
  rw [ha, hb]; rfl
theorem strOk_empty : PyData.strOk Str.empty = true := by decide +kernel
theorem strOk_join {s : Str} (hs : PyData.strOk s = true) : ∀ {xs : List Str}, (∀ x ∈ xs, PyData.strOk x = true) → PyData.strOk (Str.join s xs) = true
  | [], _ => strOk_empty
  | [x], h => h x List.mem_cons_self
  | x :: y :: r, h => strOk_app (strOk_app (h x List.mem_cons_self) hs) (strOk_join hs fun z hz => h z (List.mem_cons_of_mem _ hz))
theorem strOk_sh (u : Rat) : PyData.strOk (shT u) = true := by
  unfold shT
  split
  · exact strOk_of _
  · exact strOk_app (strOk_app (strOk_app strOk_empty (strOk_of _)) (strOk_of _)) (strOk_of _)
theorem strOk_rg (x : Rat × Rat) : PyData.strOk (rgT x) = true := strOk_app (strOk_app (strOk_sh _) (strOk_of _)) (strOk_sh _)
theorem strOk_lad (L : Lad) : PyData.strOk (ladT L) = true := strOk_join (strOk_of _) fun x hx => by
  obtain ⟨y, _, rfl⟩ := List.mem_map.mp hx; exact strOk_rg y
end LW

namespace LW
open PySem PySem.Spec PyProof.Rows L2
/-! ### one ladder on another -/
theorem joinL_take (L M : Lad) (y : Rat × Rat) : (joinL L M y).take L.length = L := by
  unfold joinL
  rw [List.append_assoc, List.take_append_of_le_length (Nat.le_refl _), List.take_length]
theorem joinL_drop (L M : Lad) (y : Rat × Rat) : (joinL L M y).drop (L.length + 1) = M := by
  unfold joinL
  have : (L ++ [y]).length = L.length + 1 := by rw [List.length_append]; rfl
  rw [← this, List.drop_append_of_le_length (Nat.le_refl _), List.drop_length, List.nil_append]
theorem joinL_getL {L M : Lad} {y : Rat × Rat} {i : Nat} (h : i < L.length) : (joinL L M y)[i]? = L[i]? := by
  unfold joinL
  rw [List.append_assoc, List.getElem?_append_left h]
theorem joinL_mem {L M : Lad} {y x : Rat × Rat} (h : x ∈ joinL L M y) : x ∈ L ∨ x = y ∨ x ∈ M := by
  unfold joinL at h
  rcases List.mem_append.mp h with h | h
  · rcases List.mem_append.mp h with h | h
    · exact .inl h
    · exact .inr (.inl (List.mem_singleton.mp h))
  · exact .inr (.inr h)
section
variable {L M : Lad} {y : Rat × Rat}
theorem join_hB (h : Lw (joinL L M y)) {r : Nat} (hr : r ≤ L.length + 1) : hB L r = pA (joinL L M y) r / pA (joinL L M y) (L.length + 1) := by
  have := hB_take (L := joinL L M y) (m := L.length) (r := r) (by rw [joinL_len]; omega) hr
  rwa [joinL_take] at this
theorem join_hB2 (h : Lw (joinL L M y)) {k : Nat} (hk : k ≤ M.length + 1) : hB M k = (pA (joinL L M y) (L.length + 1 + k) - pA (joinL L M y) (L.length + 1)) / (pA (joinL L M y) (L.length + M.length + 2) - pA (joinL L M y) (L.length + 1)) := by
  have hl := joinL_len L M y
  have := hB_drop h (o := L.length + 1) (k := k) (by omega) (by omega)
  rw [joinL_drop, hl] at this
  exact this
theorem join_ev (h : Lw (joinL L M y)) {r : Nat} (hr : r ≤ L.length + 1) : evL (joinL L M y) r (L.length + 1) = hB L r := by
  have hl := joinL_len L M y
  rw [evL_lo h hr (by omega) (by omega), join_hB h hr]
theorem join_top (h : Lw (joinL L M y)) {r : Nat} (hr : r ≤ L.length + 1) : hB (joinL L M y) r = hB L r * hB (joinL L M y) (L.length + 1) := by
  have hl := joinL_len L M y
  rw [hB_pA r, hB_pA (L.length + 1), join_hB h hr]
  have p := Rat.ne_of_gt (pA_pos h (j := L.length + 1) (by omega) (by omega))
  have q := Rat.ne_of_gt (pA_pos h (j := (joinL L M y).length + 1) (by omega) (by omega))
  grind
theorem join_ev2 (h : Lw (joinL L M y)) {k : Nat} (hk : k ≤ M.length + 1) : evL (joinL L M y) (L.length + 1 + k) (L.length + 1) = 1 - hB M k := by
  have hl := joinL_len L M y
  rw [evL_hi h (by omega) (by omega) (by omega), join_hB2 h hk, hl]
  have := pA_mono h (i := L.length + 1) (j := L.length + M.length + 2) (by omega) (by omega)
  have e : L.length + M.length + 1 + 1 = L.length + M.length + 2 := by omega
  rw [e]
  generalize pA (joinL L M y) (L.length + M.length + 2) = T at *
  generalize pA (joinL L M y) (L.length + 1) = o at *
  generalize pA (joinL L M y) (L.length + 1 + k) = r at *
  have : T - o ≠ 0 := by grind
  grind
theorem join_bot (h : Lw (joinL L M y)) {k : Nat} (hk : k ≤ M.length + 1) : 1 - hB (joinL L M y) (L.length + 1 + k) = (1 - hB M k) * (1 - hB (joinL L M y) (L.length + 1)) := by
  have hl := joinL_len L M y
  rw [hB_pA (L.length + 1 + k), hB_pA (L.length + 1), join_hB2 h hk, hl]
  have := pA_mono h (i := L.length + 1) (j := L.length + M.length + 2) (by omega) (by omega)
  have e : L.length + M.length + 1 + 1 = L.length + M.length + 2 := by omega
  rw [e]
  have q := Rat.ne_of_gt (pA_pos h (j := L.length + M.length + 2) (by omega) (by omega))
  generalize pA (joinL L M y) (L.length + M.length + 2) = T at *
  generalize pA (joinL L M y) (L.length + 1) = o at *
  generalize pA (joinL L M y) (L.length + 1 + k) = r at *
  have : T - o ≠ 0 := by grind
  have e1 : 1 - (r - o) / (T - o) = (T - r) / (T - o) := by grind
  have e2 : 1 - o / T = (T - o) / T := by grind
  have e3 : 1 - r / T = (T - r) / T := by grind
  rw [e1, e2, e3]
  grind
theorem join_mean (h : Lw (joinL L M y)) (hL : Lw L) : ∀ r, r ≤ L.length + 1 → mM (joinL L M y) r = mM L r + hB L r * mM (joinL L M y) (L.length + 1) := by
  have hl := joinL_len L M y
  intro r hr
  refine harm_eq hL.pos (f := mM (joinL L M y)) (g := fun r => mM L r + hB L r * mM (joinL L M y) (L.length + 1)) (fun _ => 1) ?_ ?_ (fun r x hx => ?_) (fun r x hx => ?_) r hr
  · show mM (joinL L M y) 0 = mM L 0 + hB L 0 * _
    rw [mM_zero, mM_zero, hB_zero]; grind
  · show _ = mM L (L.length + 1) + hB L (L.length + 1) * _
    rw [mM_top hL rfl, hB_top hL rfl]; grind
  · have hlt := (List.getElem?_eq_some_iff.mp hx).1
    have := mM_step h ((joinL_getL (M := M) (y := y) hlt).trans hx)
    grind
  · have a := mM_step hL hx
    have b := hB_step hL hx
    show x.1 * (mM L (r + 2) + hB L (r + 2) * _) + x.2 * (mM L r + hB L r * _) + 1 = (x.1 + x.2) * (mM L (r + 1) + hB L (r + 1) * _)
    generalize mM (joinL L M y) (L.length + 1) = w
    grind
theorem join_turn : turn (joinL L M y) = joinL (turn M) (turn L) (y.2, y.1) := by
  unfold turn joinL
  rw [List.map_append, List.map_append, List.reverse_append, List.reverse_append]
  simp
theorem join_less : lessL (joinL L M y) L.length = L ++ M := by
  unfold lessL
  rw [joinL_take, joinL_drop]
theorem join_more : moreL (L ++ M) L.length y = joinL L M y := by
  unfold moreL joinL
  rw [List.take_append_of_le_length (Nat.le_refl _), List.take_length, List.drop_append_of_le_length (Nat.le_refl _), List.drop_length, List.nil_append]
end
theorem join_sz {L M : Lad} (g : GL L) (g2 : GL M) {y : Rat × Rat} (hy : Sy y) (hl : L.length + M.length < 8) {e : Nat} (he0 : 0 < e) (he : e ≤ 12) (h1 : ∃ a : Int, y.1 * ((e : Int) : Rat) = (a : Rat)) (h2 : ∃ a : Int, y.2 * ((e : Int) : Rat) = (a : Rat)) : Sz (joinL L M y) := by
  have ok := joinL_ok (g.ok (by omega)) (g2.ok (by omega)) hy hl
  refine ⟨ok.lw, ok.st, 12, by decide, by decide, fun x hx => ?_⟩
  rcases joinL_mem hx with h | rfl | h
  · exact ⟨12, by decide, by decide, (g.ld x h).1, (g.ld x h).2⟩
  · exact ⟨e, he0, he, h1, h2⟩
  · exact ⟨12, by decide, by decide, (g2.ld x h).1, (g2.ld x h).2⟩
theorem app_ok {L M : Lad} (h : Lok L) (h2 : Lok M) (hl : L.length + M.length ≤ 8) : Lok (L ++ M) := ⟨by rw [List.length_append]; have := h.ge; omega, by rw [List.length_append]; exact hl, Lok.app h.sh h2.sh⟩
end LW

namespace LW
open PySem PySem.Spec PyProof.Rows L2
/-! ### walkers: what the written part says -/
structure WTxt (K : PySem.W.Frag) (mg : Str → Option Value) (C : Addr) : Prop where
  g : mg "Walker" = some (.ref C)
  cl : Cls K C
  nL : NoAttr K C "ladder"
  nI : NoAttr K C "line"
  nM : NoAttr K C "moves"
  mks : PySem.W.makesIn K C = true
  kp : PySem.W.keepIn K (.ref C) = true
def HasM (P : Program) (w : World) (K : PySem.W.Frag) (mg : Str → Option Value) (base : Heap) (CX : CXT) (C : Addr) (m : Str) (ps : List Str) (k : Nat) (sp : Sp) : Prop :=
  ∃ (f : Addr) (fd : FuncData), FnOk P w K mg base CX k f fd ps sp ∧ Meth K C m f ∧ Binds K fd ps []
def tMethX (C : Addr) (m : Str) (sp : Sp) (E : EK) (ta : TE) (t : TA) : TE := fun σ H Q => ta σ H fun x H1 => ∃ a dx fs, x = .ref a ∧ H1 a = some (.ins C dx fs) ∧ fs.lookup m = none ∧ t σ H1 fun vs H2 => sp (x :: vs) H2 Q (E σ)
section
variable {X : Cx} {C : Addr} {m : Str} {ps : List Str} {k j : Nat} {sp : Sp} {o e : Expr} {es : List Expr} {ta : TE} {t : TA} {apos pos : Pos} {pl : Sem Bool} {W : WX} {mg : Str → Option Value}
theorem pe_m (h : HasM X.prog X.w X.K X.mg X.base CX0 C m ps k sp) (T : WTxt X.K mg C) (hr : Room j X.A) (hj : k ≤ j) (he : PE X o ta) (ha : PA X (e :: es) t)
    (hst : starEach (e :: es) X.env = (false, eval e X.env) :: starEach es X.env := by rfl) (hpl : (backTo pos (starEach es X.env)).any (·.1) = false := by rfl)
    (ht : eval (.Call (.Attribute o m apos) (e :: es) [] pos) X.env = (do
      let ov ← eval o X.env
      standAt apos.atName
      let (f, first) ← holding [ov] (getMethod ov m pl)
      callWith pos f first (backTo pos (starEach (e :: es) X.env)) (backToKw pos (keywordEach [] X.env))) := by rfl) : PE X (.Call (.Attribute o m apos) (e :: es) [] pos) (tMeth C m sp [] E0 ta t) := by
  obtain ⟨f, fd, F, M, b⟩ := h
  exact pe_meth (pl := pl) he T.cl M F (hr.mono hj) b .nil pass0 ha hst hpl ht
theorem pe_m0 (h : HasM X.prog X.w X.K X.mg X.base CX0 C m ps k sp) (T : WTxt X.K mg C) (hr : Room j X.A) (hj : k ≤ j) (he : PE X o ta)
    (ht : eval (.Call (.Attribute o m apos) [] [] pos) X.env = (do
      let ov ← eval o X.env
      standAt apos.atName
      let (f, first) ← holding [ov] (getMethod ov m pl)
      callWith pos f first (backTo pos (starEach [] X.env)) (backToKw pos (keywordEach [] X.env))) := by rfl) : PE X (.Call (.Attribute o m apos) [] [] pos) (tMeth C m sp [] E0 ta tNil) := by
  obtain ⟨f, fd, F, M, b⟩ := h
  exact pe_meth0 (pl := pl) he T.cl M F (hr.mono hj) b .nil pass0 ht
/-- o.m(..), where m may raise -/
theorem pe_mX (h : HasM X.prog X.w X.K X.mg X.base (L2.CX X.prog X.w) C m ps k sp) (T : WTxt X.K mg C) (hr : Room j X.A) (hj : k ≤ j) (tk : Takes X W) (he : PE X o ta) (ha : PA X (e :: es) t)
    (hst : starEach (e :: es) X.env = (false, eval e X.env) :: starEach es X.env := by rfl) (hpl : (backTo pos (starEach es X.env)).any (·.1) = false := by rfl)
    (ht : eval (.Call (.Attribute o m apos) (e :: es) [] pos) X.env = (do
      let ov ← eval o X.env
      standAt apos.atName
      let (f, first) ← holding [ov] (getMethod ov m pl)
      callWith pos f first (backTo pos (starEach (e :: es) X.env)) (backToKw pos (keywordEach [] X.env))) := by rfl) : PE X (.Call (.Attribute o m apos) (e :: es) [] pos) (tMethX C m sp (WE W) ta t) := by
  obtain ⟨f, fd, F, M, b⟩ := h
  constructor
  intro pins s σ H Q I hq
  apply PySem.W.methodCall_KW (pl := pl) _ ht
  refine thn (he.run pins s σ H _ I hq) ?_
  rintro u s1 ⟨x, H1, I1, rx, a, dx, fs, rfl, ea, l, q⟩
  cases (show u = Value.ref a from rx)
  refine getmeth_ok I1 ea T.cl M l (PySem.W.callWith_K (first := [.ref a]) (h₀ := X.base) I.ok.mod.kin M.kp (thn (ha.run pos pins s1 σ H1 _ I1 q) ?_) hst hpl)
  rintro us s2 ⟨vs, H2, I2, r, q2⟩
  exact ⟨I2.kIn, run_fnS (us := .ref a :: us) (vs := .ref a :: vs) F (hr.mono hj) b (passAt tk σ) I2 (.cons rfl r) q2⟩
theorem pe_mX0 (h : HasM X.prog X.w X.K X.mg X.base (L2.CX X.prog X.w) C m ps k sp) (T : WTxt X.K mg C) (hr : Room j X.A) (hj : k ≤ j) (tk : Takes X W) (he : PE X o ta)
    (ht : eval (.Call (.Attribute o m apos) [] [] pos) X.env = (do
      let ov ← eval o X.env
      standAt apos.atName
      let (f, first) ← holding [ov] (getMethod ov m pl)
      callWith pos f first (backTo pos (starEach [] X.env)) (backToKw pos (keywordEach [] X.env))) := by rfl) : PE X (.Call (.Attribute o m apos) [] [] pos) (tMethX C m sp (WE W) ta tNil) := by
  obtain ⟨f, fd, F, M, b⟩ := h
  constructor
  intro pins s σ H Q I hq
  apply PySem.W.methodCall_KW (pl := pl) _ ht
  refine thn (he.run pins s σ H _ I hq) ?_
  rintro u s1 ⟨x, H1, I1, rx, a, dx, fs, rfl, ea, l, q⟩
  cases (show u = Value.ref a from rx)
  exact getmeth_ok I1 ea T.cl M l (PySem.W.callWith_K0 (first := [.ref a]) I1.kIn M.kp (run_fnS (us := [.ref a]) (vs := [.ref a]) F (hr.mono hj) b (passAt tk σ) I1 (.cons rfl .nil) q))
/-- len(o), o with a __len__ of its own -/
def rLenW (C : Addr) (sp : Sp) : List V → Hp → VK → Prop := fun xs H Q => ∃ a dx fs, xs = [.ref a] ∧ H a = some (.ins C dx fs) ∧ sp [.ref a] H (fun v H' => ∃ n : Int, v = .int n ∧ (0 ≤ n ∧ n < 2 ^ 63) ∧ Q v H') E0
theorem call_lenW (h : HasM X.prog X.w X.K X.mg X.base CX0 C "__len__" ps k sp) (hr : Room j X.A) (hj : k + 1 ≤ j) : CallR X (.builtin "len") (rLenW C sp) := by
  obtain ⟨f, fd, F, M, b⟩ := h
  intro pins s σ H xs us Q I r hq
  obtain ⟨a, dx, fs, rfl, ea, q⟩ := hq
  rw [Vals.ref1 r]
  obtain ⟨mA, O, _, _, _, _⟩ := ins_get I.hok ea
  obtain ⟨od, J, _⟩ := O.look
  obtain ⟨mm, Fm⟩ := I.fr
  refine PySem.W.len_K Fm I.ok.mod.kin J M.at_ M.fn (wpAny_call ?_)
  have hl : ([Value.ref a]).length = ps.length := (F.len _ _ _ _ q)
  have hb := b s [.ref a] I.kIn (by rw [List.append_nil]; exact hl)
  refine codeAny_mono (F.run X.A.in1 X.stack s H ⟨[.ref a], []⟩ [.ref a] [.ref a] _ E0 (hr.mono hj).in1 I.env0.in1 hb (.cons rfl .nil) q) fun r s' hs' => ?_
  cases r with
  | error er => exact False.elim hs'
  | ok fl =>
    cases fl with
    | ret u =>
      obtain ⟨v, H', I3, rv, n, e, hn, q3⟩ := I.after hs'
      subst e
      obtain ⟨t, rfl⟩ := rv
      exact ⟨hn, .int n, H', I3.tok _, ⟨_, rfl⟩, q3⟩
    | next => exact False.elim hs'
    | brk => exact False.elim hs'
    | cont => exact False.elim hs'
/-- Walker(..) -/
theorem pe_mk (h : HasM X.prog X.w X.K X.mg X.base (L2.CX X.prog X.w) C "__init__" ps k sp) (T : WTxt X.K X.mg C) (hr : Room j X.A) (hj : k + 1 ≤ j) {p pos : Pos} (hg : Gl X "Walker") (hx : Passes (L2.CX X.prog X.w) X E0) (ha : PA X (e :: es) t)
    (he : starEach (e :: es) X.env = (false, eval e X.env) :: starEach es X.env := by rfl) (hpl : (backTo pos (starEach es X.env)).any (·.1) = false := by rfl) :
    PE X (.Call (.Name "Walker" p) (e :: es) [] pos) (tMake C sp [] E0 t) := by
  obtain ⟨f, fd, F, M, b⟩ := h
  exact pe_make ⟨T.mks, M.at_, M.fn, T.kp⟩ F (hr.mono hj) hg T.g b .nil hx ha (by decide) he hpl
end
/-! ### over data -/
def wO (O : Addr → Prop) (aI aM : Addr) : Addr → Prop := fun a => O a ∨ (a = aI ∨ a = aM)
structure WAt (O : Addr → Prop) (H : Hp) (C p aL aI aM : Addr) (lad : PyData) (line mov : List PyData) : Prop where
  ne : aI ≠ aM
  nO : ¬ O p
  la : Dn O H (.ref aL) lad
  at_ : ∃ dx, H p = some (.ins C dx (wfs aL aI aM))
  li : ∃ vs, H aI = some (.lst vs) ∧ DnAll O H vs line
  mo : ∃ us, H aM = some (.lst us) ∧ DnAll O H us mov
theorem wat_iff {Cx : Ctx} {O : Addr → Prop} {H : Hp} {C p aL aI aM : Addr} {lad : PyData} {line mov : List PyData} {x : Option V} : SlotOk Cx O H (.wlk C p aL aI aM lad line mov) x ↔ x = some (.ref p) ∧ WAt O H C p aL aI aM lad line mov :=
  ⟨fun ⟨a, b, c, d, e, f, g⟩ => ⟨a, c, b, d, e, f, g⟩, fun ⟨a, b⟩ => ⟨a, b.nO, b.ne, b.la, b.at_, b.li, b.mo⟩⟩
/-- a def or method whose first argument is a walker that it may change -/
def WSp (C : Addr) (R : PyData → List PyData → List PyData → List PyData → (PyData → List PyData → List PyData → Prop) → (Addr → Prop) → Prop) : Sp := fun vs H Q E => ∃ (O : Addr → Prop) (p aL aI aM : Addr) (ws : List V) (lad : PyData) (line mov ds : List PyData) (P : PyData → List PyData → List PyData → Prop) (Z : Addr → Prop),
  vs = .ref p :: ws ∧ (∀ p, O p → H p ≠ none) ∧ O aI ∧ O aM ∧ WAt O H C p aL aI aM lad line mov ∧ DnAll O H ws ds ∧ R lad line mov ds P Z ∧
  (∀ v d line' mov' H', (∀ a o, a ≠ aI → a ≠ aM → H a = some o → H' a = some o) → WAt O H' C p aL aI aM lad line' mov' → Dn O H' v d → P d line' mov' → Q v H') ∧
  ∀ c H', (∀ a o, a ≠ aI → a ≠ aM → H a = some o → H' a = some o) → WAt O H' C p aL aI aM lad line mov → Z c → E (.ref c) none H'
/-- __init__ -/
def NSp (C : Addr) (R : List PyData → (PyData → List PyData → List PyData → Prop) → (Addr → Prop) → Prop) : Sp := fun vs H Q E => ∃ (O : Addr → Prop) (x dx : Addr) (ws : List V) (ds : List PyData) (P : PyData → List PyData → List PyData → Prop) (Z : Addr → Prop),
  vs = .ref x :: ws ∧ (∀ p, O p → H p ≠ none) ∧ ¬ O x ∧ H x = some (.ins C dx []) ∧ DnAll O H ws ds ∧ R ds P Z ∧
  (∀ aL aI aM lad line mov H', (∀ a o, a ≠ x → H a = some o → H' a = some o) → H aL = none → H aI = none → H aM = none → WAt (wO O aI aM) H' C x aL aI aM lad line mov → P lad line mov → Q .non H') ∧
  ∀ c H', Same H H' → Z c → E (.ref c) none H'
def EvS (E : EK) (Xc : XP) (te : TE) (ρ : List Slot) (P : List Slot → PyData → Prop) : Prop := ∀ C O σ H, Rel C O ρ σ H → EOk E Xc C → ∀ Q : VK, (∀ v d ρ' H', Rel C O ρ' σ H' → Keep O H H' → Dn O H' v d → P ρ' d → Q v H') → te σ H Q
def EvTS (E : EK) (Xc : XP) (tt : TT) (ρ : List Slot) (P : List Slot → Bool → Prop) : Prop := ∀ C O σ H, Rel C O ρ σ H → EOk E Xc C → ∀ Q : Bool → Hp → Prop, (∀ b ρ' H', Rel C O ρ' σ H' → Keep O H H' → P ρ' b → Q b H') → tt σ H Q
def EvAS (E : EK) (Xc : XP) (ta : TA) (ρ : List Slot) (P : List Slot → List PyData → Prop) : Prop := ∀ C O σ H, Rel C O ρ σ H → EOk E Xc C → ∀ Q : List V → Hp → Prop, (∀ vs ds ρ' H', Rel C O ρ' σ H' → Keep O H H' → DnAll O H' vs ds → P ρ' ds → Q vs H') → ta σ H Q
section
variable {E : EK} {Xc : XP} {K : PySem.W.Frag} {ρ : List Slot} {P : PyData → Prop} {N : List Slot → Prop} {R : RK} {ta : TA} {te tb : TE} {PS : List Slot → PyData → Prop}
theorem es_of (h : EvP E Xc te ρ (PS ρ)) : EvS E Xc te ρ PS := fun C O σ H x e Q q => h C O σ H x e Q fun v d H' a b c z => q v d ρ H' a b c z
theorem eas_nil {PA : List Slot → List PyData → Prop} (p : PA ρ []) : EvAS E Xc tNil ρ PA := fun C O σ H x e Q q => q [] [] ρ H x (.refl O H) .nil p
theorem eas_cons {PA : List Slot → List PyData → Prop} {tr : TA} (h : EvS E Xc te ρ fun ρ1 d => EvAS E Xc tr ρ1 fun ρ2 ds => PA ρ2 (d :: ds)) : EvAS E Xc (tCons te tr) ρ PA := fun C O σ H x e Q q =>
  h C O σ H x e _ fun v1 d1 ρ1 H1 x1 k1 y1 h1 => h1 C O σ H1 x1 e _ fun vs ds ρ2 H2 x2 k2 y2 p => q (v1 :: vs) (d1 :: ds) ρ2 H2 x2 (k1.trans k2) (.cons (y1.keep k2) y2) p
theorem es_lst (h : EvAS E Xc ta ρ fun ρ' ds => ds.length ≤ 100000 ∧ PS ρ' (.list ds)) : EvS E Xc (tLst ta) ρ PS := fun C O σ H x e Q q =>
  h C O σ H x e _ fun vs ds ρ1 H1 x1 k1 y1 ⟨hl, p⟩ => ⟨by rw [y1.length]; exact Nat.le_trans hl (by decide), fun a n => q _ _ ρ1 _ (x1.grow (same_upd n)) (k1.trans (.of (same_upd n))) (.lst (x1.notO n) upd_same (y1.keep (.of (same_upd n)))) p⟩
theorem es_op {r : R2} (h : EvS E Xc te ρ fun ρ1 x => EvS E Xc tb ρ1 fun ρ2 y => RP r x y (PS ρ2)) : EvS E Xc (tOp r te tb) ρ PS := fun C O σ H x e Q q =>
  h C O σ H x e _ fun v1 d1 ρ1 H1 x1 k1 y1 h1 => h1 C O σ H1 x1 e _ fun v2 d2 ρ2 H2 x2 k2 y2 h2 =>
    h2 O H2 v1 v2 x2.domN (y1.keep k2) y2 Q fun v d H3 s z p => q v d ρ2 H3 (x2.grow s) ((k1.trans k2).trans (.of s)) z p
theorem es_andV (h : EvS E Xc te ρ fun ρ1 d => ∃ c, d = .bool c ∧ if c = true then EvS E Xc tb ρ1 PS else PS ρ1 (.bool false)) : EvS E Xc (tAndV te tb) ρ PS := fun C O σ H x e Q q =>
  h C O σ H x e _ fun v d ρ1 H1 x1 k1 y ⟨b, eb, p⟩ => by
    subst eb; cases y
    refine ⟨b, rfl, ?_⟩
    cases b with
    | true => exact p C O σ H1 x1 e Q fun v d ρ2 H2 x2 k2 => q v d ρ2 H2 x2 (k1.trans k2)
    | false => exact q _ _ ρ1 H1 x1 k1 (.bl false) p
theorem ets_of {t : TT} {PT : List Slot → Bool → Prop} (h : EvT E Xc t ρ (PT ρ)) : EvTS E Xc t ρ PT := fun C O σ H x e Q q => h C O σ H x e Q fun b H' a c z => q b ρ H' a c z
theorem ets_test {PT : List Slot → Bool → Prop} (h : EvS E Xc te ρ fun ρ1 d => ∃ b, d = .bool b ∧ PT ρ1 b) : EvTS E Xc (tTest te) ρ PT := fun C O σ H x e Q q =>
  h C O σ H x e _ fun v d ρ1 H1 x1 k1 y ⟨b, eb, p⟩ => by
    subst eb; cases y
    exact ⟨b, rfl, q b ρ1 H1 x1 k1 p⟩
theorem ets_or {t u : TT} {PT : List Slot → Bool → Prop} (h : EvTS E Xc t ρ fun ρ1 c => if c = true then PT ρ1 true else EvTS E Xc u ρ1 PT) : EvTS E Xc (tOr t u) ρ PT := fun C O σ H x e Q q =>
  h C O σ H x e _ fun b ρ1 H1 x1 k1 p => by
    cases b with
    | false => exact p C O σ H1 x1 e Q fun v ρ2 H2 x2 k2 => q v ρ2 H2 x2 (k1.trans k2)
    | true => exact q true ρ1 H1 x1 k1 p
theorem ds_ifS {c : TT} {t s : TS} (h : EvTS E Xc c ρ fun ρ1 b => if b = true then DS E Xc t ρ1 N R else DS E Xc s ρ1 N R) : DS E Xc (tIfS c t s) ρ N R := fun C O σ H D x e nx rt =>
  h C O σ H x e _ fun b ρ1 H1 x1 k1 p => by
    cases b with
    | true => exact p C O σ H1 D x1 e nx rt
    | false => exact p C O σ H1 D x1 e nx rt
theorem ds_retS (h : EvS E Xc te ρ R) : DS E Xc (tRet te) ρ N R := fun C O σ H D x e nx rt =>
  h C O σ H x e _ fun v d ρ1 H1 x1 k1 y n => rt O ρ1 σ v d H1 x1 y n
theorem ds_dropW (h : EvS E Xc te ρ fun ρ' _ => N ρ') : DS E Xc (tDrop te) ρ N R := fun C O σ H D x e nx rt =>
  h C O σ H x e _ fun v d ρ1 H1 x1 k1 y n => nx O ρ1 σ H1 x1 n
theorem ds_asgS {i : Nat} (h : EvS E Xc te ρ fun ρ' d => N (ρ'.set i (.dat d))) : DS E Xc (tAsg te (gName i)) ρ N R := fun C O σ H D x e nx rt =>
  h C O σ H x e _ fun v d ρ1 H1 x1 k1 y n => nx O _ _ H1 (x1.setD y) n
/-- the walker has moved -/
theorem Rel.moved {Cx : Ctx} {O : Addr → Prop} {σ : L2.St} {H H' : Hp} {i : Nat} {C p aL aI aM : Addr} {lad : PyData} {line mov line' mov' : List PyData} (r : Rel Cx O ρ σ H) (hi : ρ[i]? = some (.wlk C p aL aI aM lad line mov))
    (k : ∀ a o, a ≠ aI → a ≠ aM → H a = some o → H' a = some o) (w : WAt O H' C p aL aI aM lad line' mov') : Rel Cx O (ρ.set i (.wlk C p aL aI aM lad line' mov')) σ H' := by
  obtain ⟨x, e1, z⟩ := r.slot i _ hi
  obtain ⟨ex, _⟩ := wat_iff.mp z
  refine r.mutF hi e1 (fun a f => f) (fun a o n e => k a o (fun z => n (.inl z)) (fun z => n (.inr z)) e) (fun a f => ?_) (wat_iff.mpr ⟨ex, w⟩)
  obtain ⟨vs, h1, _⟩ := w.li
  obtain ⟨us, h2, _⟩ := w.mo
  rcases (show a = aI ∨ a = aM from f) with f | f
  · rw [f]; exact ⟨_, h1⟩
  · rw [f]; exact ⟨_, h2⟩
theorem es_core {sp : Sp} {i : Nat} {C p aL aI aM : Addr} {lad : PyData} {line mov : List PyData} {Rw : PyData → List PyData → List PyData → List PyData → (PyData → List PyData → List PyData → Prop) → (Addr → Prop) → Prop} (hi : ρ[i]? = some (.wlk C p aL aI aM lad line mov)) {Z : Addr → Prop}
    {Cx : Ctx} {O : Addr → Prop} {σ : L2.St} {H : Hp} (x : Rel Cx O ρ σ H) {Q : VK} {Eσ : XK} {vs : List V} {ds : List PyData} (y : DnAll O H vs ds) (h : Rw lad line mov ds (fun d line' mov' => PS (ρ.set i (.wlk C p aL aI aM lad line' mov')) d) Z)
    (q : ∀ v d ρ' H', Rel Cx O ρ' σ H' → Keep O H H' → Dn O H' v d → PS ρ' d → Q v H') (qe : ∀ c H', Rel Cx O ρ σ H' → Z c → Eσ (.ref c) none H') : WSp C Rw (.ref p :: vs) H Q Eσ := by
  obtain ⟨x0, e1, z⟩ := x.slot i _ hi
  obtain ⟨_, w⟩ := wat_iff.mp z
  have oI := (x.mine i _ aI hi (Or.inl rfl)).1
  have oM := (x.mine i _ aM hi (Or.inr rfl)).1
  refine ⟨O, p, aL, aI, aM, vs, lad, line, mov, ds, _, Z, rfl, x.domN, oI, oM, w, y, h, fun v d line' mov' H' k w' y' pz => ?_, fun c H' k w' z => qe c H' ?_ z⟩
  · exact q v d _ H' (x.moved hi k w') (fun a o n e => k a o (fun z => n (by rw [z]; exact oI)) (fun z => n (by rw [z]; exact oM)) e) y' pz
  · have := x.moved hi k w'
    have e : ρ.set i (.wlk C p aL aI aM lad line mov) = ρ := by
      apply List.ext_getElem?
      intro j
      by_cases hj : i = j
      · subst hj
        rw [List.getElem?_set_self (List.getElem?_eq_some_iff.mp hi).1, hi]
      · rw [List.getElem?_set_ne hj]
    rwa [e] at this
end
end LW

namespace LW
open PySem PySem.Spec PyProof.Rows L2
/-! ### walkers: calls -/
theorem wfs_none {aL aI aM : Addr} {m : Str} (h : m ≠ "ladder" ∧ m ≠ "line" ∧ m ≠ "moves") : (wfs aL aI aM).lookup m = none := by
  unfold wfs
  simp [List.lookup, beq_eq_false_iff_ne.mpr h.1, beq_eq_false_iff_ne.mpr h.2.1, beq_eq_false_iff_ne.mpr h.2.2]
abbrev RW := PyData → List PyData → List PyData → List PyData → (PyData → List PyData → List PyData → Prop) → (Addr → Prop) → Prop
section
variable {E : EK} {Xc : XP} {K : PySem.W.Frag} {ρ : List Slot} {P : PyData → Prop} {N : List Slot → Prop} {R : RK} {ta : TA} {te tb : TE} {PS : List Slot → PyData → Prop} {Rw : RW} {i : Nat} {C p aL aI aM : Addr} {lad : PyData} {line mov : List PyData} {m : Str} {E' : XK}
theorem es_meth (hi : ρ[i]? = some (.wlk C p aL aI aM lad line mov)) (hm : m ≠ "ladder" ∧ m ≠ "line" ∧ m ≠ "moves") (h : EvA E Xc ta ρ fun ds => Rw lad line mov ds (fun d l' m' => PS (ρ.set i (.wlk C p aL aI aM lad l' m')) d) (fun _ => False)) : EvS E Xc (tMeth C m (WSp C Rw) [] E' (tVar i) ta) ρ PS := fun Cx O σ H x e Q q => by
  obtain ⟨x0, e1, z⟩ := x.slot i _ hi
  obtain ⟨rfl, w⟩ := wat_iff.mp z
  obtain ⟨dx, ea⟩ := w.at_
  refine ⟨_, e1, p, dx, _, rfl, ea, wfs_none hm, h Cx O σ H x e _ fun vs ds H1 x1 k1 y1 h1 => ?_⟩
  rw [List.append_nil]
  exact es_core (sp := WSp C Rw) hi x1 y1 h1 (fun v d ρ' H' a b c z => q v d ρ' H' a (k1.trans b) c z) fun c H' _ z => z.elim
theorem es_methX {W : WX} (hi : ρ[i]? = some (.wlk C p aL aI aM lad line mov)) (hm : m ≠ "ladder" ∧ m ≠ "line" ∧ m ≠ "moves") (h : EvA (WE W) Xc ta ρ fun ds => Rw lad line mov ds (fun d l' m' => PS (ρ.set i (.wlk C p aL aI aM lad l' m')) d) (Xc ρ)) : EvS (WE W) Xc (tMethX C m (WSp C Rw) (WE W) (tVar i) ta) ρ PS := fun Cx O σ H x e Q q => by
  obtain ⟨x0, e1, z⟩ := x.slot i _ hi
  obtain ⟨rfl, w⟩ := wat_iff.mp z
  obtain ⟨dx, ea⟩ := w.at_
  refine ⟨_, e1, p, dx, _, rfl, ea, wfs_none hm, h Cx O σ H x e _ fun vs ds H1 x1 k1 y1 h1 => ?_⟩
  exact es_core (sp := WSp C Rw) hi x1 y1 h1 (fun v d ρ' H' a b c z => q v d ρ' H' a (k1.trans b) c z) fun c H' x' z => e c O ρ σ H' x' z
theorem es_methN {E'' : EK} (hi : ρ[i]? = some (.wlk C p aL aI aM lad line mov)) (hm : m ≠ "ladder" ∧ m ≠ "line" ∧ m ≠ "moves") (h : EvA E Xc ta ρ fun ds => Rw lad line mov ds (fun d l' m' => PS (ρ.set i (.wlk C p aL aI aM lad l' m')) d) (fun _ => False)) : EvS E Xc (tMethX C m (WSp C Rw) E'' (tVar i) ta) ρ PS := fun Cx O σ H x e Q q => by
  obtain ⟨x0, e1, z⟩ := x.slot i _ hi
  obtain ⟨rfl, w⟩ := wat_iff.mp z
  obtain ⟨dx, ea⟩ := w.at_
  refine ⟨_, e1, p, dx, _, rfl, ea, wfs_none hm, h Cx O σ H x e _ fun vs ds H1 x1 k1 y1 h1 => ?_⟩
  exact es_core (sp := WSp C Rw) hi x1 y1 h1 (fun v d ρ' H' a b c z => q v d ρ' H' a (k1.trans b) c z) fun c H' _ z => z.elim
theorem es_callW (hi : ρ[i]? = some (.wlk C p aL aI aM lad line mov)) (h : EvA E Xc ta ρ fun ds => Rw lad line mov ds (fun d l' m' => PS (ρ.set i (.wlk C p aL aI aM lad l' m')) d) (fun _ => False)) : EvS E Xc (tCall (WSp C Rw) [] E' (tCons (tVar i) ta)) ρ PS := fun Cx O σ H x e Q q => by
  obtain ⟨x0, e1, z⟩ := x.slot i _ hi
  obtain ⟨rfl, w⟩ := wat_iff.mp z
  refine ⟨_, e1, h Cx O σ H x e _ fun vs ds H1 x1 k1 y1 h1 => ?_⟩
  show WSp C Rw ((V.ref p :: vs) ++ []) H1 Q E'
  rw [List.append_nil]
  exact es_core (sp := WSp C Rw) hi x1 y1 h1 (fun v d ρ' H' a b c z => q v d ρ' H' a (k1.trans b) c z) fun c H' _ z => z.elim
theorem set_self {s : Slot} (hi : ρ[i]? = some s) : ρ.set i s = ρ := by
  apply List.ext_getElem?
  intro j
  by_cases hj : i = j
  · subst hj
    rw [List.getElem?_set_self (List.getElem?_eq_some_iff.mp hi).1, hi]
  · rw [List.getElem?_set_ne hj]
theorem EvS.same (h : EvS E Xc te ρ fun ρ' d => ρ' = ρ ∧ P d) : EvP E Xc te ρ P := fun C O σ H x e Q q => h C O σ H x e Q fun v d ρ' H' a b c ⟨z, y⟩ => q v d H' (by rw [← z]; exact a) b c y
/-- a method that changes nothing -/
theorem ev_meth (hi : ρ[i]? = some (.wlk C p aL aI aM lad line mov)) (hm : m ≠ "ladder" ∧ m ≠ "line" ∧ m ≠ "moves") (h : EvA E Xc ta ρ fun ds => Rw lad line mov ds (fun d l' m' => l' = line ∧ m' = mov ∧ P d) (fun _ => False)) (mono : ∀ ds {P1 P2 : PyData → List PyData → List PyData → Prop}, (∀ d l m, P1 d l m → P2 d l m) → Rw lad line mov ds P1 (fun _ => False) → Rw lad line mov ds P2 (fun _ => False)) : EvP E Xc (tMeth C m (WSp C Rw) [] E' (tVar i) ta) ρ P :=
  (es_meth hi hm fun Cx O σ H x e Q q => h Cx O σ H x e Q fun vs ds H' a b c z => q vs ds H' a b c (mono ds (fun d l m' ⟨e1, e2, pd⟩ => ⟨by rw [e1, e2]; exact set_self hi, pd⟩) z)).same
theorem ev_lenW (hi : ρ[i]? = some (.wlk C p aL aI aM lad line mov)) (h : Rw lad line mov [] (fun d l' m' => l' = line ∧ m' = mov ∧ ∃ n : Int, d = .int n ∧ (0 ≤ n ∧ n < 2 ^ 63) ∧ P d) (fun _ => False)) : EvP E Xc (tCB (rLenW C (WSp C Rw)) (tCons (tVar i) tNil)) ρ P := fun Cx O σ H x e Q q => by
  obtain ⟨x0, e1, z⟩ := x.slot i _ hi
  obtain ⟨rfl, w⟩ := wat_iff.mp z
  obtain ⟨dx, ea⟩ := w.at_
  have oI := (x.mine i _ aI hi (Or.inl rfl)).1
  have oM := (x.mine i _ aM hi (Or.inr rfl)).1
  refine ⟨_, e1, p, dx, _, rfl, ea, O, p, aL, aI, aM, [], lad, line, mov, [], _, _, rfl, x.domN, oI, oM, w, .nil, h, fun v d l' m' H' k w' y ⟨h1, h2, n, h3, h4, h5⟩ => ?_, fun c H' k w' z => z.elim⟩
  subst h1; subst h2; subst h3
  cases y
  have x' := x.moved hi k w'
  rw [set_self hi] at x'
  exact ⟨n, rfl, h4, q _ _ H' x' (fun a o n e => k a o (fun z => n (by rw [z]; exact oI)) (fun z => n (by rw [z]; exact oM)) e) (.int n) h5⟩
/-- x = Walker(..) -/
theorem ds_walker {Rn : List PyData → (PyData → List PyData → List PyData → Prop) → (Addr → Prop) → Prop} (h : EvA E Xc ta ρ fun ds => Rn ds (fun lad line mov => ∀ p aL aI aM, N (ρ.set i (.wlk C p aL aI aM lad line mov))) (fun _ => False)) : DS E Xc (tAsg (tMake C (NSp C Rn) [] E' ta) (gName i)) ρ N R := fun Cx O σ H D x e nx rt =>
  h Cx O σ H x e _ fun vs ds H1 x1 k1 y1 h1 => fun q dx nq nd ne => by
    have s1 : Same H1 (upd H1 dx (.own q)) := same_upd nd
    have nq2 : upd H1 dx (.own q) q = none := by rw [upd_ne (Ne.symm ne)]; exact nq
    have s2 : Same H1 (upd (upd H1 dx (.own q)) q (.ins C dx [])) := s1.trans (same_upd nq2)
    rw [List.append_nil]
    refine ⟨O, q, dx, vs, ds, _, _, rfl, fun p hp e => x1.domN p hp (s2.free e), x1.notO nq, upd_same, y1.keep (.of s2), h1, fun aL aI aM lad line mov H' k _ nI nM w pz => ⟨rfl, ?_⟩, fun c H' _ z => z.elim⟩
    have g : Same H1 H' := fun a o ea => k a o (ne_of_none ea nq) (s2 a o ea)
    have mk := x1.setF (i := i) (s := .wlk C q aL aI aM lad line mov) (x := some (.ref q)) g
      (fun a f => by
        rcases (show a = aI ∨ a = aM from f) with f | f
        · rw [f]; exact s2.free nI
        · rw [f]; exact s2.free nM)
      (fun a f => by
        obtain ⟨vs, h1, _⟩ := w.li
        obtain ⟨us, h2, _⟩ := w.mo
        rcases (show a = aI ∨ a = aM from f) with f | f
        · rw [f]; exact ⟨_, h1⟩
        · rw [f]; exact ⟨_, h2⟩) (wat_iff.mpr ⟨rfl, w⟩)
    exact nx _ _ _ H' mk (pz q aL aI aM)
/-! ### walkers: within their methods -/
theorem wfsL {aL aI aM : Addr} : (wfs aL aI aM).lookup ("ladder" : Str) = some (.ref aL) := rfl
theorem wfsI {aL aI aM : Addr} : (wfs aL aI aM).lookup ("line" : Str) = some (.ref aI) := by
  have h : (("line" : Str) == "ladder") = false := by decide +kernel
  unfold wfs
  rw [List.lookup_cons, h]
  rfl
theorem wfsM {aL aI aM : Addr} : (wfs aL aI aM).lookup ("moves" : Str) = some (.ref aM) := by
  have h1 : (("moves" : Str) == "ladder") = false := by decide +kernel
  have h2 : (("moves" : Str) == "line") = false := by decide +kernel
  unfold wfs
  rw [List.lookup_cons, h1]
  show List.lookup _ ((("line" : Str), V.ref aI) :: _) = _
  rw [List.lookup_cons, h2]
  rfl
variable {mg : Str → Option Value}
theorem ev_fldL (T : WTxt K mg C) (hi : ρ[i]? = some (.wlk C p aL aI aM lad line mov)) (h : P lad) : EvP E Xc (tFld K (tVar i) "ladder") ρ P := fun Cx O σ H x e Q q => by
  obtain ⟨x0, e1, z⟩ := x.slot i _ hi
  obtain ⟨rfl, w⟩ := wat_iff.mp z
  obtain ⟨dx, ea⟩ := w.at_
  exact ⟨_, e1, p, C, dx, _, _, rfl, ea, T.cl, T.nL, wfsL, q _ _ H x (.refl O H) w.la h⟩
theorem ev_ixI (T : WTxt K mg C) (hi : ρ[i]? = some (.wlk C p aL aI aM lad line mov)) (h : EvP E Xc tb ρ fun y => ∃ k d, y = .int k ∧ atI line k = some d ∧ P d) : EvP E Xc (tOp (rIx K) (tFld K (tVar i) "line") tb) ρ P := fun Cx O σ H x e Q q => by
  obtain ⟨x0, e1, z⟩ := x.slot i _ hi
  obtain ⟨rfl, w⟩ := wat_iff.mp z
  obtain ⟨dx, ea⟩ := w.at_
  refine ⟨_, e1, p, C, dx, _, _, rfl, ea, T.cl, T.nI, wfsI, h Cx O σ H x e _ fun v1 d1 H1 x1 k1 y1 ⟨k, d, ek, ha, pd⟩ => ?_⟩
  subst ek; cases y1
  obtain ⟨x0, e2, z⟩ := x1.slot i _ hi
  obtain ⟨_, w⟩ := wat_iff.mp z
  obtain ⟨vs, f3, f4⟩ := w.li
  obtain ⟨v, g1, g2⟩ := atI_dn f4 ha
  exact .inl ⟨aI, vs, k, v, rfl, rfl, SqL.of f3, g1, q v d H1 x1 k1 g2 pd⟩
theorem ev_lenM (T : WTxt K mg C) (hi : ρ[i]? = some (.wlk C p aL aI aM lad line mov)) (h : P (.int mov.length)) : EvP E Xc (tCB (fun xs H Q => ∃ x n, xs = [x] ∧ LenV K x H n ∧ Q (.int n) H) (tCons (tFld K (tVar i) "moves") tNil)) ρ P := fun Cx O σ H x e Q q => by
  obtain ⟨x0, e1, z⟩ := x.slot i _ hi
  obtain ⟨rfl, w⟩ := wat_iff.mp z
  obtain ⟨dx, ea⟩ := w.at_
  obtain ⟨us, f3, f4⟩ := w.mo
  refine ⟨_, e1, p, C, dx, _, _, rfl, ea, T.cl, T.nM, wfsM, _, _, rfl, .inl ⟨us, SqL.of f3, rfl⟩, q _ (.int mov.length) H x (.refl O H) ?_ h⟩
  rw [f4.length]; exact .int _
/-- list(self.line) -/
theorem ev_listI (T : WTxt K mg C) (hi : ρ[i]? = some (.wlk C p aL aI aM lad line mov)) (h : P (.list line)) : EvP E Xc (tCB (fun xs H Q => ∃ p ys, xs = [.ref p] ∧ (SqL K H p ys ∨ SqT K H p ys) ∧ ∀ l, H l = none → Q (.ref l) (upd H l (.lst ys))) (tCons (tFld K (tVar i) "line") tNil)) ρ P := fun Cx O σ H x e Q q => by
  obtain ⟨x0, e1, z⟩ := x.slot i _ hi
  obtain ⟨rfl, w⟩ := wat_iff.mp z
  obtain ⟨dx, ea⟩ := w.at_
  obtain ⟨vs, f3, f4⟩ := w.li
  exact ⟨_, e1, p, C, dx, _, _, rfl, ea, T.cl, T.nI, wfsI, aI, vs, rfl, .inl (SqL.of f3), fun l n => q _ _ _ (x.grow (same_upd n)) (.of (same_upd n)) (.lst (x.notO n) upd_same (f4.keep (.of (same_upd n)))) h⟩
/-- self.moves == [] -/
theorem ev_noMoves (T : WTxt K mg C) (hi : ρ[i]? = some (.wlk C p aL aI aM lad line mov)) (hs : SeqAt.shaped (.list mov) = true) (h : P (.bool mov.isEmpty)) : EvP E Xc (tOp (rEqD K) (tFld K (tVar i) "moves") (tLst tNil)) ρ P := fun Cx O σ H x e Q q => by
  obtain ⟨x0, e1, z⟩ := x.slot i _ hi
  obtain ⟨rfl, w⟩ := wat_iff.mp z
  obtain ⟨dx, ea⟩ := w.at_
  refine ⟨_, e1, p, C, dx, _, _, rfl, ea, T.cl, T.nM, wfsM, Nat.zero_le _, fun l n => ?_⟩
  have s1 := same_upd (o := .lst []) n
  have x1 := x.grow s1
  obtain ⟨x0, e2, z⟩ := x1.slot i _ hi
  obtain ⟨_, w⟩ := wat_iff.mp z
  obtain ⟨us, f3, f4⟩ := w.mo
  refine ⟨.list mov, .list [], .lst (SqL.of f3) (DnAll.dp _ _ f4), .lst (SqL.of upd_same) .nil, hs, rfl, q _ (.bool mov.isEmpty) _ x1 (.of s1) ?_ h⟩
  rw [eqv_nil]; exact .bl _
theorem wupd {Cx : Ctx} {O : Addr → Prop} {σ : L2.St} {H : Hp} (x : Rel Cx O ρ σ H) (hi : ρ[i]? = some (.wlk C p aL aI aM lad line mov)) {l' : List PyData} {vs : List V} (y : DnAll O H vs l') : Rel Cx O (ρ.set i (.wlk C p aL aI aM lad l' mov)) σ (upd H aI (.lst vs)) := by
  obtain ⟨x0, e1, z⟩ := x.slot i _ hi
  obtain ⟨_, w⟩ := wat_iff.mp z
  have oI := (x.mine i _ aI hi (Or.inl rfl)).1
  have kk : Keep O H (upd H aI (.lst vs)) := fun a o n e => by rw [upd_ne (fun z => n (by rw [z]; exact oI))]; exact e
  refine x.moved hi (fun a o n1 _ e => by rw [upd_ne n1]; exact e) ⟨w.ne, w.nO, w.la.keep kk, ?_, ⟨vs, upd_same, y.keep kk⟩, ?_⟩
  · obtain ⟨dx, e⟩ := w.at_
    exact ⟨dx, kk _ _ w.nO e⟩
  · obtain ⟨us, e, f⟩ := w.mo
    exact ⟨us, by rw [upd_ne (Ne.symm w.ne)]; exact e, f.keep kk⟩
theorem wupdM {Cx : Ctx} {O : Addr → Prop} {σ : L2.St} {H : Hp} (x : Rel Cx O ρ σ H) (hi : ρ[i]? = some (.wlk C p aL aI aM lad line mov)) {l' : List PyData} {vs : List V} (y : DnAll O H vs l') : Rel Cx O (ρ.set i (.wlk C p aL aI aM lad line l')) σ (upd H aM (.lst vs)) := by
  obtain ⟨x0, e1, z⟩ := x.slot i _ hi
  obtain ⟨_, w⟩ := wat_iff.mp z
  have oM := (x.mine i _ aM hi (Or.inr rfl)).1
  have kk : Keep O H (upd H aM (.lst vs)) := fun a o n e => by rw [upd_ne (fun z => n (by rw [z]; exact oM))]; exact e
  refine x.moved hi (fun a o _ n2 e => by rw [upd_ne n2]; exact e) ⟨w.ne, w.nO, w.la.keep kk, ?_, ?_, ⟨vs, upd_same, y.keep kk⟩⟩
  · obtain ⟨dx, e⟩ := w.at_
    exact ⟨dx, kk _ _ w.nO e⟩
  · obtain ⟨us, e, f⟩ := w.li
    exact ⟨us, by rw [upd_ne w.ne]; exact e, f.keep kk⟩
theorem ds_appI (T : WTxt K mg C) (hi : ρ[i]? = some (.wlk C p aL aI aM lad line mov)) (hl : line.length < 100000) (h : EvP E Xc te ρ fun d => N (ρ.set i (.wlk C p aL aI aM lad (line ++ [d]) mov))) : DS E Xc (tDrop (tBM K "list" rAppend (tFld K (tVar i) "line") (tCons te tNil))) ρ N R := fun Cx O σ H D x e nx rt => by
  obtain ⟨x0, e1, z⟩ := x.slot i _ hi
  obtain ⟨rfl, w⟩ := wat_iff.mp z
  obtain ⟨dx, ea⟩ := w.at_
  obtain ⟨vs, f3, f4⟩ := w.li
  refine ⟨_, e1, p, C, dx, _, _, rfl, ea, T.cl, T.nI, wfsI, .inl ⟨rfl, _, SqL.of f3⟩, h Cx O σ H x e _ fun v d H1 x1 k1 y1 n => ?_⟩
  obtain ⟨x0, e2, z⟩ := x1.slot i _ hi
  obtain ⟨_, w⟩ := wat_iff.mp z
  obtain ⟨us, f3, f4⟩ := w.li
  refine ⟨aI, us, v, rfl, rfl, f3, ?_, nx O _ σ _ (wupd x1 hi (f4.append (.one y1))) n⟩
  rw [f4.length]; exact Nat.lt_of_lt_of_le hl (by decide)
theorem ds_appM (T : WTxt K mg C) (hi : ρ[i]? = some (.wlk C p aL aI aM lad line mov)) (hl : mov.length < 100000) (h : EvP E Xc te ρ fun d => N (ρ.set i (.wlk C p aL aI aM lad line (mov ++ [d])))) : DS E Xc (tDrop (tBM K "list" rAppend (tFld K (tVar i) "moves") (tCons te tNil))) ρ N R := fun Cx O σ H D x e nx rt => by
  obtain ⟨x0, e1, z⟩ := x.slot i _ hi
  obtain ⟨rfl, w⟩ := wat_iff.mp z
  obtain ⟨dx, ea⟩ := w.at_
  obtain ⟨vs, f3, f4⟩ := w.mo
  refine ⟨_, e1, p, C, dx, _, _, rfl, ea, T.cl, T.nM, wfsM, .inl ⟨rfl, _, SqL.of f3⟩, h Cx O σ H x e _ fun v d H1 x1 k1 y1 n => ?_⟩
  obtain ⟨x0, e2, z⟩ := x1.slot i _ hi
  obtain ⟨_, w⟩ := wat_iff.mp z
  obtain ⟨us, f3, f4⟩ := w.mo
  refine ⟨aM, us, v, rfl, rfl, f3, ?_, nx O _ σ _ (wupdM x1 hi (f4.append (.one y1))) n⟩
  rw [f4.length]; exact Nat.lt_of_lt_of_le hl (by decide)
theorem DnAll.dropLast {O : Addr → Prop} {H : Hp} {vs : List V} {ds : List PyData} (x : DnAll O H vs ds) : DnAll O H vs.dropLast ds.dropLast := by
  rw [List.dropLast_eq_take, List.dropLast_eq_take, x.length]; exact x.take _
theorem ds_popI (T : WTxt K mg C) (hi : ρ[i]? = some (.wlk C p aL aI aM lad line mov)) (hl : line ≠ []) (h : N (ρ.set i (.wlk C p aL aI aM lad line.dropLast mov))) : DS E Xc (tDrop (tBM0 K "list" rPop (tFld K (tVar i) "line"))) ρ N R := fun Cx O σ H D x e nx rt => by
  obtain ⟨x0, e1, z⟩ := x.slot i _ hi
  obtain ⟨rfl, w⟩ := wat_iff.mp z
  obtain ⟨dx, ea⟩ := w.at_
  obtain ⟨vs, f3, f4⟩ := w.li
  have hv : vs.length - 1 < vs.length := by
    rw [f4.length]
    cases line with
    | nil => exact absurd rfl hl
    | cons a b => simp
  exact ⟨_, e1, p, C, dx, _, _, rfl, ea, T.cl, T.nI, wfsI, .inl ⟨rfl, _, SqL.of f3⟩, aI, vs, _, rfl, rfl, f3, List.getElem?_eq_getElem hv, nx O _ σ _ (wupd x hi f4.dropLast) h⟩
theorem ds_popM (T : WTxt K mg C) (hi : ρ[i]? = some (.wlk C p aL aI aM lad line mov)) (hl : mov ≠ []) (h : N (ρ.set i (.wlk C p aL aI aM lad line mov.dropLast))) : DS E Xc (tDrop (tBM0 K "list" rPop (tFld K (tVar i) "moves"))) ρ N R := fun Cx O σ H D x e nx rt => by
  obtain ⟨x0, e1, z⟩ := x.slot i _ hi
  obtain ⟨rfl, w⟩ := wat_iff.mp z
  obtain ⟨dx, ea⟩ := w.at_
  obtain ⟨vs, f3, f4⟩ := w.mo
  have hv : vs.length - 1 < vs.length := by
    rw [f4.length]
    cases mov with
    | nil => exact absurd rfl hl
    | cons a b => simp
  exact ⟨_, e1, p, C, dx, _, _, rfl, ea, T.cl, T.nM, wfsM, .inl ⟨rfl, _, SqL.of f3⟩, aM, vs, _, rfl, rfl, f3, List.getElem?_eq_getElem hv, nx O _ σ _ (wupdM x hi f4.dropLast) h⟩
/-- self.f of a walker that nobody changes here -/
theorem ev_fldF {l s : PyData} (T : WTxt K mg C) (hi : ρ[i]? = some (.ins C lad l s)) : (P lad → EvP E Xc (tFld K (tVar i) "ladder") ρ P) ∧ (P l → EvP E Xc (tFld K (tVar i) "line") ρ P) := by
  refine ⟨fun h Cx O σ H x e Q q => ?_, fun h Cx O σ H x e Q q => ?_⟩
  · obtain ⟨x0, e1, p, dx, aL, aI, aM, rfl, n, ea, y1, y2, y3⟩ := x.slot i _ hi
    exact ⟨_, e1, p, C, dx, _, _, rfl, ea, T.cl, T.nL, wfsL, q _ _ H x (.refl O H) y1 h⟩
  · obtain ⟨x0, e1, p, dx, aL, aI, aM, rfl, n, ea, y1, y2, y3⟩ := x.slot i _ hi
    exact ⟨_, e1, p, C, dx, _, _, rfl, ea, T.cl, T.nI, wfsI, q _ _ H x (.refl O H) y2 h⟩
end
end LW

namespace LW
open PySem PySem.Spec PyProof.Rows L2
/-! ### methods of walkers -/
def isSeq : HO → Prop
  | .lst _ => True
  | .tup _ => True
  | _ => False
mutual
theorem Dn.impS {O O' : Addr → Prop} {H H' : Hp} (h : ∀ a o, ¬ O a → H a = some o → isSeq o → ¬ O' a ∧ H' a = some o) : ∀ (d : PyData) (v : V), Dn O H v d → Dn O' H' v d
  | .none, _, x => by cases x; exact .non
  | .bool b, _, x => by cases x; exact .bl b
  | .int i, _, x => by cases x; exact .int i
  | .str s, _, x => by cases x; exact .str s
  | .list ds, _, x => by
    cases x with
    | lst n e r => exact .lst (h _ _ n e trivial).1 (h _ _ n e trivial).2 (DnAll.impS h ds _ r)
  | .tuple ds, _, x => by
    cases x with
    | tup n e r => exact .tup (h _ _ n e trivial).1 (h _ _ n e trivial).2 (DnAll.impS h ds _ r)
  | .dict _, _, x => by cases x
theorem DnAll.impS {O O' : Addr → Prop} {H H' : Hp} (h : ∀ a o, ¬ O a → H a = some o → isSeq o → ¬ O' a ∧ H' a = some o) : ∀ (ds : List PyData) (vs : List V), DnAll O H vs ds → DnAll O' H' vs ds
  | [], _, x => by cases x; exact .nil
  | d :: ds, _, x => by
    cases x with
    | cons a r => exact .cons (Dn.impS h d _ a) (DnAll.impS h ds _ r)
end
theorem put2 (a b : V) : putF ("line" : Str) a (putF "ladder" b []) = [(("ladder" : Str), b), ("line", a)] := by
  show (if ("ladder" : Str) = "line" then _ else _) = _
  rw [if_neg (by decide +kernel)]; rfl
def DefM (K : PySem.W.Frag) (C : Addr) (x qual : Str) (st : Stmt) (ps : List Str) : Prop := ∃ (f : Addr) (fd : FuncData), Fun K x qual st f fd ∧ Meth K C x f ∧ Binds K fd ps []
theorem WAt.sub {O O' : Addr → Prop} {H : Hp} {C p aL aI aM : Addr} {lad : PyData} {line mov : List PyData} (h : ∀ a, O' a → O a) (w : WAt O H C p aL aI aM lad line mov) : WAt O' H C p aL aI aM lad line mov :=
  ⟨w.ne, fun z => w.nO (h _ z), w.la.sub h, w.at_, let ⟨vs, a, b⟩ := w.li; ⟨vs, a, b.sub h⟩, let ⟨vs, a, b⟩ := w.mo; ⟨vs, a, b.sub h⟩⟩
theorem entry_foot {n : Nat} {ds : List PyData} {i : Nat} {s : Slot} {a : Addr} (e : (entry n ds)[i]? = some s) : ¬ foot s a := fun f => by
  have hm := List.mem_of_getElem? e
  unfold entry at hm
  rcases List.mem_append.mp hm with h | h
  · obtain ⟨d, _, e⟩ := List.mem_map.mp h; subst e; exact f.elim
  · have := List.eq_of_mem_replicate h; subst this; exact f.elim
/-- a known first slot ahead of data -/
theorem rel_head {O O0 L : Addr → Prop} {H : Hp} {N : List Str} {v : V} {ws : List V} {ds : List PyData} {s0 : Slot} (hd : ∀ p, O p → H p ≠ none) (y : DnAll O H ws ds) (hO0 : ∀ a, O0 a → O a)
    (h0 : SlotOk ⟨O0, L, O, H, none⟩ O H s0 (some v)) (hf : ∀ a, foot s0 a → O a ∧ ¬ O0 a ∧ L a) : Rel ⟨O0, L, O, H, none⟩ O (s0 :: entry (N.length - 1) ds) (start N (v :: ws)) H := by
  have r := rel_entry (N := N.tail) hd y
  have es : start N (v :: ws) = some v :: start N.tail ws := by
    unfold L2.start
    rw [List.map_cons, List.cons_append, List.length_cons, List.length_tail, Nat.add_comm ws.length 1, Nat.sub_sub]
  have el : entry (N.length - 1) ds = entry N.tail.length ds := by rw [List.length_tail]
  rw [es, el]
  refine ⟨by rw [List.length_cons, List.length_cons, r.len], fun i s e => ?_, fun a o e _ => e, r.dom, hO0, fun i s a e f => ?_, fun i j s s' a e e' f f' => ?_, fun q c e => (nomatch e), fun p h => .inl h, fun p h => h⟩
  · cases i with
    | zero => cases e; exact ⟨_, rfl, h0⟩
    | succ i =>
      obtain ⟨x, e1, z⟩ := r.slot i s e
      refine ⟨x, e1, ?_⟩
      cases s with
      | drw => obtain ⟨_, _, z, _⟩ := z; cases z
      | _ => exact z
  · cases i with
    | zero => cases e; obtain ⟨h1, h2, h3⟩ := hf a f; exact ⟨h1, h2, .inr h3⟩
    | succ i => exact absurd f (entry_foot (show (entry N.tail.length ds)[i]? = some s from e))
  · cases i with
    | zero =>
      cases j with
      | zero => rfl
      | succ j => exact absurd f' (entry_foot (show (entry N.tail.length ds)[j]? = some s' from e'))
    | succ i => exact absurd f (entry_foot (show (entry N.tail.length ds)[i]? = some s from e))
section
variable {P : Program} {w : World} {K : PySem.W.Frag} {mg : Str → Option Value} {base : Heap} {C : Addr} {x qual : Str} {st : Stmt} {N ps : List Str} {k : Nat} {Rw : RW}
theorem rel_walk {O : Addr → Prop} {H : Hp} {N : List Str} {p aL aI aM : Addr} {lad : PyData} {line mov : List PyData} {ws : List V} {ds : List PyData} (hd : ∀ p, O p → H p ≠ none) (oI : O aI) (oM : O aM) (wa : WAt O H C p aL aI aM lad line mov) (y : DnAll O H ws ds) :
    Rel ⟨fun a => O a ∧ a ≠ aI ∧ a ≠ aM, fun a => a = aI ∨ a = aM, O, H, none⟩ O (.wlk C p aL aI aM lad line mov :: entry (N.length - 1) ds) (start N (.ref p :: ws)) H :=
  rel_head hd y (fun a h => h.1) (wat_iff.mpr ⟨rfl, wa⟩) fun a f => by
    rcases (show a = aI ∨ a = aM from f) with f | f
    · rw [f]; exact ⟨oI, fun z => z.2.1 rfl, .inl rfl⟩
    · rw [f]; exact ⟨oM, fun z => z.2.2 rfl, .inr rfl⟩
theorem walk_back {O O' : Addr → Prop} {H H' : Hp} {ρ' : List Slot} {σ' : L2.St} {p aL aI aM : Addr} {lad : PyData} {l' m' : List PyData} (r : Rel ⟨fun a => O a ∧ a ≠ aI ∧ a ≠ aM, fun a => a = aI ∨ a = aM, O, H, none⟩ O' ρ' σ' H') (e : ρ'[0]? = some (.wlk C p aL aI aM lad l' m')) :
    (∀ a, O a → O' a) ∧ WAt O H' C p aL aI aM lad l' m' ∧ ∀ a o, a ≠ aI → a ≠ aM → H a = some o → H' a = some o := by
  have hs : ∀ a, O a → O' a := fun a z => by
    by_cases h1 : a = aI
    · rw [h1]; exact (r.mine 0 _ aI e (Or.inl rfl)).1
    · by_cases h2 : a = aM
      · rw [h2]; exact (r.mine 0 _ aM e (Or.inr rfl)).1
      · exact r.sub a ⟨z, h1, h2⟩
  obtain ⟨x0, _, z⟩ := r.slot 0 _ e
  exact ⟨hs, (wat_iff.mp z).2.sub hs, fun a o n1 n2 e => r.frame a o e fun z => z.elim n1 n2⟩
theorem has_mW (F : DefM K C x qual st ps) (S : FnScope N ps (defScope st)) (len : ∀ lad line mov ds Q Z, Rw lad line mov ds Q Z → ds.length + 1 = ps.length)
    (hb : ∀ (f : Addr) (cdv : Value) (A : Around) (outer : List Env) (s : Shared) (H : Hp) (E : XK), Room k (A.deeper (envOfC qual (defScope st) s.heap.objs.size f cdv)) →
      ∃ t, PSs (cxOf CX0 P w K mg base N qual (defScope st) f cdv A outer s H E).nox (defBody st) t ∧ ∀ lad line mov ds Q Z, Rw lad line mov ds Q Z → ∀ p aL aI aM, DS EE X0 t (.wlk C p aL aI aM lad line mov :: entry (N.length - 1) ds) (fun _ => False) (fun ρ' d => ∃ l' m', ρ'[0]? = some (.wlk C p aL aI aM lad l' m') ∧ Q d l' m')) : HasM P w K mg base CX0 C x ps (k + 1) (WSp C Rw) := by
  obtain ⟨f, fd, F, M, b⟩ := F
  refine ⟨f, fd, F.ok S (fun vs H Q E h => ?_) (fun cdv A outer s H vs Q E hr h => ?_), M, b⟩
  · obtain ⟨O, p, aL, aI, aM, ws, lad, line, mov, ds, P', Z, rfl, _, _, _, _, y, r, _⟩ := h
    rw [List.length_cons, y.length]; exact len _ _ _ ds _ _ r
  · obtain ⟨O, p, aL, aI, aM, ws, lad, line, mov, ds, P', Z, rfl, hd, oI, oM, wa, y, r, q, _⟩ := h
    obtain ⟨t, ht, h⟩ := hb f cdv A outer s H E hr
    refine ⟨t, ht, h lad line mov ds P' Z r p aL aI aM _ O _ H _ (rel_walk hd oI oM wa y) eok0 (fun _ _ _ _ _ n => n.elim) fun O' ρ' σ' v d H' xr z ⟨l', m', e, pz⟩ => ?_⟩
    obtain ⟨hs, w', kf⟩ := walk_back xr e
    exact q v d l' m' H' kf w' (z.sub hs) pz
theorem has_mX (F : DefM K C x qual st ps) (S : FnScope N ps (defScope st)) (len : ∀ lad line mov ds Q Z, Rw lad line mov ds Q Z → ds.length + 1 = ps.length)
    (hb : ∀ (f : Addr) (cdv : Value) (A : Around) (outer : List Env) (s : Shared) (H : Hp) (E : XK), Room k (A.deeper (envOfC qual (defScope st) s.heap.objs.size f cdv)) →
      ∃ t, PSs (cxOf (L2.CX P w) P w K mg base N qual (defScope st) f cdv A outer s H E) (defBody st) t ∧ ∀ lad line mov ds Q Z, Rw lad line mov ds Q Z → ∀ p aL aI aM, DS (WE (WD E)) (fun ρ c => Z c ∧ ρ[0]? = some (.wlk C p aL aI aM lad line mov)) t (.wlk C p aL aI aM lad line mov :: entry (N.length - 1) ds) (fun _ => False) (fun ρ' d => ∃ l' m', ρ'[0]? = some (.wlk C p aL aI aM lad l' m') ∧ Q d l' m')) : HasM P w K mg base (L2.CX P w) C x ps (k + 1) (WSp C Rw) := by
  obtain ⟨f, fd, F, M, b⟩ := F
  refine ⟨f, fd, F.okX S (fun vs H Q E h => ?_) (fun cdv A outer s H vs Q E hr h => ?_), M, b⟩
  · obtain ⟨O, p, aL, aI, aM, ws, lad, line, mov, ds, P', Z, rfl, _, _, _, _, y, r, _⟩ := h
    rw [List.length_cons, y.length]; exact len _ _ _ ds _ _ r
  · obtain ⟨O, p, aL, aI, aM, ws, lad, line, mov, ds, P', Z, rfl, hd, oI, oM, wa, y, r, q, qe⟩ := h
    obtain ⟨t, ht, h⟩ := hb f cdv A outer s H E hr
    refine ⟨t, ht, h lad line mov ds P' Z r p aL aI aM _ O _ H _ (rel_walk hd oI oM wa y) (fun c O' ρ' σ' H' xr z => ?_) (fun _ _ _ _ _ n => n.elim) fun O' ρ' σ' v d H' xr z ⟨l', m', e, pz⟩ => ?_⟩
    · obtain ⟨_, w', kf⟩ := walk_back xr z.2
      exact qe c H' kf w' z.1
    · obtain ⟨hs, w', kf⟩ := walk_back xr e
      exact q v d l' m' H' kf w' (z.sub hs) pz
/-- a method that only reads, and gives a fraction -/
theorem has_mF (F : DefM K C x qual st ps) (S : FnScope N ps (defScope st)) (len : ∀ lad line mov ds Q Z, Rw lad line mov ds Q Z → ds.length + 1 = ps.length)
    (hb : ∀ (f : Addr) (cdv : Value) (A : Around) (outer : List Env) (s : Shared) (H : Hp) (E : XK), Room k (A.deeper (envOfC qual (defScope st) s.heap.objs.size f cdv)) →
      ∃ t, PSs (cxOf CX0 P w K mg base N qual (defScope st) f cdv A outer s H E).nox (defBody st) t ∧ ∀ lad line mov ds Q Z, Rw lad line mov ds Q Z → DS EE X0 t (.ins C lad (.list line) (.list mov) :: entry (N.length - 1) ds) (fun _ => False) (fun _ d => ∃ r : Rat, d = enc r ∧ Q d line mov)) : HasM P w K mg base CX0 C x ps (k + 1) (WSp C Rw) := by
  obtain ⟨f, fd, F, M, b⟩ := F
  refine ⟨f, fd, F.ok S (fun vs H Q E h => ?_) (fun cdv A outer s H vs Q E hr h => ?_), M, b⟩
  · obtain ⟨O, p, aL, aI, aM, ws, lad, line, mov, ds, P', Z, rfl, _, _, _, _, y, r, _⟩ := h
    rw [List.length_cons, y.length]; exact len _ _ _ ds _ _ r
  · obtain ⟨O, p, aL, aI, aM, ws, lad, line, mov, ds, P', Z, rfl, hd, oI, oM, wa, y, r, q, _⟩ := h
    obtain ⟨t, ht, h⟩ := hb f cdv A outer s H E hr
    have hs : ∀ a, (O a ∧ a ≠ aI ∧ a ≠ aM) → O a := fun a z => z.1
    obtain ⟨dx, ea⟩ := wa.at_
    obtain ⟨vI, eI, yI⟩ := wa.li
    obtain ⟨vM, eM, yM⟩ := wa.mo
    have r0 : Rel ⟨fun a => O a ∧ a ≠ aI ∧ a ≠ aM, fun _ => False, fun a => O a ∧ a ≠ aI ∧ a ≠ aM, H, none⟩ (fun a => O a ∧ a ≠ aI ∧ a ≠ aM) (.ins C lad (.list line) (.list mov) :: entry (N.length - 1) ds) (start N (.ref p :: ws)) H :=
      rel_head (fun p hp => hd p hp.1) (y.sub hs) (fun a h => h) ⟨p, dx, aL, aI, aM, rfl, fun z => wa.nO z.1, ea, wa.la.sub hs, .lst (fun z => z.2.1 rfl) eI (yI.sub hs), .lst (fun z => z.2.2 rfl) eM (yM.sub hs)⟩ fun a f => f.elim
    refine ⟨t, ht, h lad line mov ds P' Z r _ _ _ H _ r0 eok0 (fun _ _ _ _ _ n => n.elim) fun O' ρ' σ' v d H' xr z ⟨rr, e, pz⟩ => ?_⟩
    have sm : ∀ a o, H a = some o → H' a = some o := fun a o e => xr.frame a o e id
    have w' : WAt O H' C p aL aI aM lad line mov := ⟨wa.ne, wa.nO, wa.la.keep (.of sm), ⟨dx, sm _ _ ea⟩, ⟨vI, sm _ _ eI, yI.keep (.of sm)⟩, ⟨vM, sm _ _ eM, yM.keep (.of sm)⟩⟩
    refine q v d line mov H' (fun a o _ _ e => sm a o e) w' ?_ pz
    subst e
    unfold enc at z ⊢
    cases z with
    | tup n e rr =>
      refine .tup (fun zO => ?_) e ?_
      · refine n (xr.sub _ ⟨zO, fun z => ?_, fun z => ?_⟩)
        · rw [z, sm _ _ eI] at e; cases e
        · rw [z, sm _ _ eM] at e; cases e
      · cases rr with
        | cons r1 rr =>
          cases rr with
          | cons r2 rr =>
            cases rr; cases r1; cases r2
            exact .cons (.int _) (.cons (.int _) .nil)
/-- __init__ -/
theorem has_init {Rn : List PyData → (PyData → List PyData → List PyData → Prop) → (Addr → Prop) → Prop} (T : WTxt K mg C) (F : DefM K C x qual st ps) (S : FnScope N ps (defScope st)) (hN : N.length = 3) (len : ∀ ds Q Z, Rn ds Q Z → ds.length + 1 = ps.length)
    (hb : ∀ (f : Addr) (cdv : Value) (A : Around) (outer : List Env) (s : Shared) (H : Hp) (E : XK), Room k (A.deeper (envOfC qual (defScope st) s.heap.objs.size f cdv)) →
      ∃ t1 t2, PSs (cxOf (L2.CX P w) P w K mg base N qual (defScope st) f cdv A outer s H E) (defBody st) (tSeq t1 (tSeq t2 (tSeq (sFld K (tVar 0) (tCB (fun xs H Q => ∃ p ys, xs = [.ref p] ∧ (SqL K H p ys ∨ SqT K H p ys) ∧ ∀ l, H l = none → Q (.ref l) (upd H l (.lst ys))) (tCons (tVar 1) tNil)) "ladder") (tSeq (sFld K (tVar 0) (tLst (tCons (tVar 2) tNil)) "line") (sFld K (tVar 0) (tLst tNil) "moves"))))) ∧
        ∀ ds Q Z, Rn ds Q Z → ∀ v, DS (WE (WD E)) (fun _ => Z) t1 (.raw v :: entry 2 ds) (fun ρ1 => DS (WE (WD E)) (fun _ => Z) t2 ρ1 (fun ρ2 => ∃ items r, ρ2 = [.raw v, .dat (.list items), .dat r] ∧ Q (.list items) [r] []) (fun _ _ => False)) (fun _ _ => False)) : HasM P w K mg base (L2.CX P w) C x ps (k + 1) (NSp C Rn) := by
  obtain ⟨f, fd, F, M, b⟩ := F
  refine ⟨f, fd, F.okX S (fun vs H Q E h => ?_) (fun cdv A outer s H vs Q E hr h => ?_), M, b⟩
  · obtain ⟨O, x0, dx, ws, ds, P', Z, rfl, _, _, _, y, r, _⟩ := h
    rw [List.length_cons, y.length]; exact len ds _ _ r
  · obtain ⟨O, x0, dx, ws, ds, P', Z, rfl, hd, nO, ex, y, r, q, qe⟩ := h
    obtain ⟨t1, t2, ht, h⟩ := hb f cdv A outer s H E hr
    have r0 : Rel ⟨O, fun _ => False, O, H, none⟩ O (.raw (.ref x0) :: entry (N.length - 1) ds) (start N (.ref x0 :: ws)) H := rel_head hd y (fun a h => h) rfl fun a f => f.elim
    rw [hN] at r0
    have eok : EOk (WE (WD E)) (fun _ => Z) ⟨O, fun _ => False, O, H, none⟩ := fun c O' ρ' σ' H' xr z => qe c H' (fun a o e => xr.frame a o e id) z
    refine ⟨_, ht, h ds P' Z r (.ref x0) _ O _ H _ r0 eok (fun O1 ρ1 σ1 H1 x1 n1 => ?_) fun _ _ _ _ _ _ _ _ z => z.elim⟩
    refine n1 _ O1 σ1 H1 _ x1 eok (fun O2 ρ2 σ2 H2 x2 n2 => ?_) fun _ _ _ _ _ _ _ _ z => z.elim
    obtain ⟨items, rg, rfl, pz⟩ := n2
    obtain ⟨_, s0, rfl⟩ := x2.slot 0 _ rfl
    obtain ⟨_, s1, vL, rfl, yL⟩ := x2.slot 1 _ rfl
    obtain ⟨_, s2, vR, rfl, yR⟩ := x2.slot 2 _ rfl
    have sm : ∀ a o, H a = some o → H2 a = some o := fun a o e => x2.frame a o e id
    have ex2 := sm _ _ ex
    have oo : ∀ a, O a → O2 a := x2.sub
    cases yL with
    | @lst aa ys _ n1 e1 r1 =>
      refine ⟨_, s1, aa, ys, rfl, .inl (SqL.of e1), fun l nl => ?_⟩
      have nel : x0 ≠ l := ne_of_none ex2 nl
      refine ⟨_, s0, x0, C, dx, [], rfl, by rw [upd_ne nel]; exact ex2, T.cl, T.nL, by decide, ?_⟩
      refine ⟨_, s2, by show 1 ≤ sizeLine; decide, fun aI nI => ?_⟩
      have nexI : x0 ≠ aI := fun z => by rw [← z, upd_same] at nI; cases nI
      refine ⟨_, s0, x0, C, dx, _, rfl, by rw [upd_ne nexI, upd_same], T.cl, T.nI, (by show 1 < 1000; decide), ?_⟩
      refine ⟨by show 0 ≤ sizeLine; exact Nat.zero_le _, fun aM nM => ?_⟩
      have nexM : x0 ≠ aM := fun z => by rw [← z, upd_same] at nM; cases nM
      refine ⟨_, s0, x0, C, dx, _, rfl, by rw [upd_ne nexM, upd_same], T.cl, T.nM, (by rw [put2]; show 2 < 1000; decide), ?_⟩
      have i2 : H2 aI = none := by rw [upd_ne (Ne.symm nexI)] at nI; exact (same_upd nl).free nI
      have li : l ≠ aI := fun z => by rw [← z, upd_ne (Ne.symm nel), upd_same] at nI; cases nI
      have im : aI ≠ aM := fun z => by rw [← z, upd_ne (Ne.symm nexI), upd_same] at nM; cases nM
      have lm : l ≠ aM := fun z => by rw [← z, upd_ne (Ne.symm nel), upd_ne li, upd_ne (Ne.symm nel), upd_same] at nM; cases nM
      have m2 : H2 aM = none := by
        rw [upd_ne (Ne.symm nexM), upd_ne (Ne.symm im), upd_ne (Ne.symm nexM), upd_ne (Ne.symm lm)] at nM; exact nM
      have look : ∀ a, a ≠ x0 → a ≠ l → a ≠ aI → a ≠ aM → ∀ fs1 fs2 fs3 o1 o2 o3, upd (upd (upd (upd (upd (upd H2 l o1) x0 fs1) aI o2) x0 fs2) aM o3) x0 fs3 a = H2 a := fun a h1 h2 h3 h4 fs1 fs2 fs3 o1 o2 o3 => by
        rw [upd_ne h1, upd_ne h4, upd_ne h1, upd_ne h3, upd_ne h1, upd_ne h2]
      have noL : ¬ O2 l := x2.notO nl
      have noI : ¬ O2 aI := x2.notO i2
      have noM : ¬ O2 aM := x2.notO m2
      have keepD : ∀ a o, ¬ O2 a → H2 a = some o → isSeq o → ¬ wO O aI aM a ∧ upd (upd (upd (upd (upd (upd H2 l (.lst ys)) x0 (.ins C dx (putF "ladder" (.ref l) []))) aI (.lst [vR])) x0 (.ins C dx (putF "line" (.ref aI) (putF "ladder" (.ref l) [])))) aM (.lst [])) x0 (.ins C dx (putF "moves" (.ref aM) (putF "line" (.ref aI) (putF "ladder" (.ref l) [])))) a = some o := fun a o n e sq => by
        have h1 : a ≠ x0 := fun z => by rw [z, ex2] at e; cases e; exact sq.elim
        refine ⟨fun z => z.elim (fun z => n (oo a z)) fun z => z.elim (ne_of_none e i2) (ne_of_none e m2), ?_⟩
        rw [look a h1 (ne_of_none e nl) (ne_of_none e i2) (ne_of_none e m2)]; exact e
      refine q l aI aM (.list items) [rg] [] _ (fun a o hx e => ?_) ?_ ?_ ?_ ⟨im, ?_, ?_, ?_, ?_, ?_⟩ pz
      · have e2 := sm a o e
        rw [look a hx (ne_of_none e2 nl) (ne_of_none e2 i2) (ne_of_none e2 m2)]; exact e2
      · cases q0 : H l with
        | none => rfl
        | some o => rw [sm _ _ q0] at nl; cases nl
      · cases q0 : H aI with
        | none => rfl
        | some o => rw [sm _ _ q0] at i2; cases i2
      · cases q0 : H aM with
        | none => rfl
        | some o => rw [sm _ _ q0] at m2; cases m2
      · exact fun z => z.elim nO fun z => z.elim nexI nexM
      · refine .lst (fun z => z.elim (fun z => noL (oo l z)) fun z => z.elim li lm) ?_ (DnAll.impS keepD _ _ r1)
        rw [upd_ne (Ne.symm nel), upd_ne lm, upd_ne (Ne.symm nel), upd_ne li, upd_ne (Ne.symm nel), upd_same]
      · refine ⟨dx, ?_⟩
        rw [upd_same]; rfl
      · refine ⟨[vR], ?_, .cons (Dn.impS keepD _ _ yR) .nil⟩
        rw [upd_ne (Ne.symm nexI), upd_ne im, upd_ne (Ne.symm nexI), upd_same]
      · refine ⟨[], ?_, .nil⟩
        rw [upd_ne (Ne.symm nexM), upd_same]
end
section
variable {X : Cx} {K : PySem.W.Frag}
theorem pe_fldK (hK : X.K = K) {e : Expr} {f : Str} {pos : Pos} {ta : TE} (he : PE X e ta) (hb : attributeBase e f X.env (eval e X.env) = eval e X.env := by rfl) : PE X (.Attribute e f pos) (tFld K ta f) := by subst hK; exact pe_fld he hb
theorem pe_popK (hK : X.K = K) {o : Expr} {to : TE} {apos cpos : Pos} (ho : PE X o to) (hbase : attributeBase o "pop" X.env (eval o X.env) = eval o X.env := by rfl) (hline : (apos.endLine == cpos.line) = true := by rfl) :
    PE X (.Call (.Attribute o "pop" apos) [] [] cpos) (tBM0 K "list" rPop to) := by
  subst hK
  exact pe_bm0 PySem.F.plainAttrs_list PySem.F.slot_list_pop PySem.F.type_list_pop mt_pop ho hbase hline
theorem defM_mk {C f : Addr} {x qual : Str} {st : Stmt} {ps : List Str} {oc : Value} {od an : Option Addr} {osl : Array (Option Value)} {kV doc pm cdv ct : Value}
    (a : PySem.W.findIn K (.ref C) x = some (some (.ref f))) (i : PySem.W.isFn K (.ref f) = true)
    (l : K.lookup f = some ⟨oc, od, .func (PySem.W.fnOf x qual (defArgs st) (defBody st) (defScope st) .none kV doc pm an cdv ct), osl⟩)
    (c : PySem.W.codeIn K cdv qual = true) (k : PySem.W.keepIn K (.ref f) = true)
    (hb : ∀ (kV doc pm : Value) (an : Option Addr) (cdv ct : Value) (us : List Value), us.length = ps.length → bindArgs (PySem.W.fnOf x qual (defArgs st) (defBody st) (defScope st) .none kV doc pm an cdv ct) ⟨us, []⟩ = pure (ps.zip us)) : DefM K C x qual st ps :=
  ⟨f, _, fun_mk l c k, ⟨a, i, k⟩, (fun_mk l c k).binds hb⟩
end
end LW

namespace LW
open PySem PySem.Spec PyProof.Rows L2
/-! ### what the methods of a walker promise -/
/-- a walker on L that has gone the way w by the steps ms -/
structure Wk3 (lad : PyData) (line mov : List PyData) (L : Lad) (w : List Nat) (ms : List Int) : Prop where
  eL : lad = encL L
  eI : line = w.map natD
  eM : mov = ms.map PyData.int
  lw : Lw L
  ne : 1 ≤ w.length
  len : ms.length + 1 = w.length
  le : w.length ≤ 1000
  r : ∀ x ∈ w, x ≤ L.length + 1
theorem Wk3.last {lad : PyData} {line mov : List PyData} {L : Lad} {w : List Nat} {ms : List Int} (h : Wk3 lad line mov L w ms) : lastW w ≤ L.length + 1 := h.r _ (List.mem_of_getElem? (getD_get (by have := h.ne; omega)))
def R_init (ds : List PyData) (P : PyData → List PyData → List PyData → Prop) (Z : Addr → Prop) : Prop := ∃ (L : Lad) (r : Int), ds = [encL L, .int r] ∧ Lok L ∧ 0 ≤ r ∧ r ≤ L.length + 1 ∧ P (encL L) [.int r] []
theorem S_init {L : Lad} {r : Int} {P : PyData → List PyData → List PyData → Prop} {Z : Addr → Prop} (h : Lok L) (h1 : 0 ≤ r) (h2 : r ≤ L.length + 1) (p : P (encL L) [.int r] []) : R_init [encL L, .int r] P Z := ⟨L, r, rfl, h, h1, h2, p⟩
/-- may the step be taken? -/
def stepOk (L : Lad) (r : Nat) (b : Int) : Prop := 1 ≤ r ∧ r ≤ L.length ∧ (-1 ≤ b ∧ b ≤ 1) ∧ (b = 0 → restL L r ≠ 0)
def R_step (er : Er) : RW := fun lad line mov ds P Z => ∃ (L : Lad) (w : List Nat) (ms : List Int) (b : PyData) (_ : Unit) (_ : Unit), ds = [b] ∧ Wk3 lad line mov L w ms ∧ w.length < 1000 ∧
  (isIntIn b (-1) 1 = false → Z er.bn) ∧ ∀ i : Int, b = .int i → -1 ≤ i → i ≤ 1 → (stepOk L (lastW w) i → P (natD ((lastW w : Int) + i).toNat) ((w ++ [((lastW w : Int) + i).toNat]).map natD) ((ms ++ [i]).map PyData.int)) ∧ (¬ stepOk L (lastW w) i → Z er.nf)
theorem S_step {er : Er} {lad : PyData} {line mov : List PyData} {L : Lad} {w : List Nat} {ms : List Int} {b : PyData} {P : PyData → List PyData → List PyData → Prop} {Z : Addr → Prop} (h : Wk3 lad line mov L w ms) (hl : w.length < 1000) (h1 : isIntIn b (-1) 1 = false → Z er.bn) (h2 : ∀ i : Int, b = .int i → -1 ≤ i → i ≤ 1 → (stepOk L (lastW w) i → P (natD ((lastW w : Int) + i).toNat) ((w ++ [((lastW w : Int) + i).toNat]).map natD) ((ms ++ [i]).map PyData.int)) ∧ (¬ stepOk L (lastW w) i → Z er.nf)) :
    R_step er lad line mov [b] P Z := ⟨L, w, ms, b, (), (), rfl, h, hl, h1, h2⟩
def R_undo (er : Er) : RW := fun lad line mov ds P Z => ∃ (L : Lad) (w : List Nat) (ms : List Int) (_ : Unit) (_ : Unit) (_ : Unit), ds = [] ∧ Wk3 lad line mov L w ms ∧ (ms = [] → Z er.nf) ∧ (ms ≠ [] → P (natD (lastW w.dropLast)) (w.dropLast.map natD) (ms.dropLast.map PyData.int))
theorem S_undo {er : Er} {lad : PyData} {line mov : List PyData} {L : Lad} {w : List Nat} {ms : List Int} {P : PyData → List PyData → List PyData → Prop} {Z : Addr → Prop} (h : Wk3 lad line mov L w ms) (h1 : ms = [] → Z er.nf) (h2 : ms ≠ [] → P (natD (lastW w.dropLast)) (w.dropLast.map natD) (ms.dropLast.map PyData.int)) : R_undo er lad line mov [] P Z := ⟨L, w, ms, (), (), (), rfl, h, h1, h2⟩
def R_rung : RW := fun lad line mov ds P Z => ∃ (L : Lad) (w : List Nat) (ms : List Int) (_ : Unit) (_ : Unit) (_ : Unit), ds = [] ∧ Wk3 lad line mov L w ms ∧ P (natD (lastW w)) line mov
theorem S_rung {lad : PyData} {line mov : List PyData} {L : Lad} {w : List Nat} {ms : List Int} {P : PyData → List PyData → List PyData → Prop} {Z : Addr → Prop} (h : Wk3 lad line mov L w ms) (p : P (natD (lastW w)) line mov) : R_rung lad line mov [] P Z := ⟨L, w, ms, (), (), (), rfl, h, p⟩
def R_way : RW := fun lad line mov ds P Z => ∃ (L : Lad) (w : List Nat) (ms : List Int) (_ : Unit) (_ : Unit) (_ : Unit), ds = [] ∧ Wk3 lad line mov L w ms ∧ P (encW w) line mov
theorem S_way {lad : PyData} {line mov : List PyData} {L : Lad} {w : List Nat} {ms : List Int} {P : PyData → List PyData → List PyData → Prop} {Z : Addr → Prop} (h : Wk3 lad line mov L w ms) (p : P (encW w) line mov) : R_way lad line mov [] P Z := ⟨L, w, ms, (), (), (), rfl, h, p⟩
def R_len : RW := fun lad line mov ds P Z => ∃ (L : Lad) (w : List Nat) (ms : List Int) (_ : Unit) (_ : Unit) (_ : Unit), ds = [] ∧ Wk3 lad line mov L w ms ∧ P (.int (ms.length : Nat)) line mov
theorem S_len {lad : PyData} {line mov : List PyData} {L : Lad} {w : List Nat} {ms : List Int} {P : PyData → List PyData → List PyData → Prop} {Z : Addr → Prop} (h : Wk3 lad line mov L w ms) (p : P (.int (ms.length : Nat)) line mov) : R_len lad line mov [] P Z := ⟨L, w, ms, (), (), (), rfl, h, p⟩
def R_wtop : RW := fun lad line mov ds P Z => ∃ (L : Lad) (w : List Nat) (ms : List Int) (_ : Unit) (_ : Unit) (_ : Unit), ds = [] ∧ Wk3 lad line mov L w ms ∧ P (enc (hB L (lastW w))) line mov
theorem S_wtop {lad : PyData} {line mov : List PyData} {L : Lad} {w : List Nat} {ms : List Int} {P : PyData → List PyData → List PyData → Prop} {Z : Addr → Prop} (h : Wk3 lad line mov L w ms) (p : P (enc (hB L (lastW w))) line mov) : R_wtop lad line mov [] P Z := ⟨L, w, ms, (), (), (), rfl, h, p⟩
def R_chance : RW := fun lad line mov ds P Z => ∃ (L : Lad) (w : List Nat) (ms : List Int) (E k : Nat) (_ : Unit), ds = [] ∧ Wk3 lad line mov L w ms ∧ Lst L ∧ LD E L ∧ 0 < E ∧ E ^ w.length * 2 < 2 ^ k ∧ k ≤ 4000 ∧ P (enc (wayP L w)) line mov
theorem S_chance {lad : PyData} {line mov : List PyData} {L : Lad} {w : List Nat} {ms : List Int} {E k : Nat} {P : PyData → List PyData → List PyData → Prop} {Z : Addr → Prop} (h : Wk3 lad line mov L w ms) (hs : Lst L) (hE : LD E L) (h0 : 0 < E) (hk : E ^ w.length * 2 < 2 ^ k) (hk2 : k ≤ 4000) (p : P (enc (wayP L w)) line mov) : R_chance lad line mov [] P Z := ⟨L, w, ms, E, k, (), rfl, h, hs, hE, h0, hk, hk2, p⟩
theorem Wk3.start {L : Lad} (h : Lw L) {r : Nat} (hr : r ≤ L.length + 1) : Wk3 (encL L) [.int (r : Int)] [] L [r] [] := ⟨rfl, rfl, rfl, h, Nat.le_refl 1, rfl, Nat.le_of_ble_eq_true rfl, fun x hx => by rw [List.mem_singleton.mp hx]; exact hr⟩
theorem stepOk.next {L : Lad} {r : Nat} {b : Int} (h : stepOk L r b) : ((r : Int) + b).toNat ≤ L.length + 1 := by
  obtain ⟨h1, h2, h3, _⟩ := h; omega
theorem Wk3.step {lad : PyData} {line mov : List PyData} {L : Lad} {w : List Nat} {ms : List Int} (h : Wk3 lad line mov L w ms) (hl : w.length < 1000) {i : Int} (hs : stepOk L (lastW w) i) : Wk3 lad ((w ++ [((lastW w : Int) + i).toNat]).map natD) ((ms ++ [i]).map PyData.int) L (w ++ [((lastW w : Int) + i).toNat]) (ms ++ [i]) :=
  ⟨h.eL, rfl, rfl, h.lw, by rw [List.length_append]; exact Nat.le_add_left _ _, by have := h.len; rw [List.length_append, List.length_append]; show ms.length + 1 + 1 = w.length + 1; omega, by rw [List.length_append]; show w.length + 1 ≤ _; omega, fun x hx => by
    rcases List.mem_append.mp hx with hx | hx
    · exact h.r x hx
    · rw [List.mem_singleton.mp hx]; exact hs.next⟩
theorem Wk3.undo {lad : PyData} {line mov : List PyData} {L : Lad} {w : List Nat} {ms : List Int} (h : Wk3 lad line mov L w ms) (hm : ms ≠ []) : Wk3 lad (w.dropLast.map natD) (ms.dropLast.map PyData.int) L w.dropLast ms.dropLast := by
  have h1 : 1 ≤ ms.length := by
    cases ms with
    | nil => exact absurd rfl hm
    | cons a b => simp
  have := h.len
  have := h.le
  exact ⟨h.eL, rfl, rfl, h.lw, by rw [List.length_dropLast]; omega, by rw [List.length_dropLast, List.length_dropLast]; omega, by rw [List.length_dropLast]; omega, fun x hx => h.r x (List.dropLast_subset w hx)⟩
/-- the chance of a step told by stepOk -/
theorem step_TL {L : Lad} (h : Lw L) {r : Nat} (h1 : 1 ≤ r) (h2 : r ≤ L.length) {i : Int} (hi : -1 ≤ i) (hi2 : i ≤ 1) : TL L r ((r : Int) + i).toNat = 0 ↔ ¬ stepOk L r i := by
  obtain ⟨s, rfl⟩ : ∃ s, r = s + 1 := ⟨r - 1, by omega⟩
  have hx := getD_get' (L := L) (i := s) (by omega)
  obtain ⟨p1, p2, _⟩ := h.sh _ (List.mem_of_getElem? hx)
  have hi3 : i = -1 ∨ i = 0 ∨ i = 1 := by omega
  rw [TL_in hx]
  rcases hi3 with rfl | rfl | rfl
  · have e : (((s + 1 : Nat) : Int) + -1).toNat = s := by omega
    rw [e, if_neg (by omega), if_pos rfl]
    constructor
    · intro z; exact absurd z (Rat.ne_of_gt p2)
    · intro z; exact absurd ⟨by omega, by omega, by omega, fun z => absurd z (by decide)⟩ z
  · have e : (((s + 1 : Nat) : Int) + 0).toNat = s + 1 := by omega
    rw [e, if_neg (by omega), if_neg (by omega), if_pos rfl, ← restL_in (by omega)]
    constructor
    · intro z hs; exact hs.2.2.2 rfl z
    · intro z
      by_cases e0 : restL L (s + 1) = 0
      · exact e0
      · exact absurd ⟨by omega, by omega, by omega, fun _ => e0⟩ z
  · have e : (((s + 1 : Nat) : Int) + 1).toNat = s + 2 := by omega
    rw [e, if_pos rfl]
    constructor
    · intro z; exact absurd z (Rat.ne_of_gt p1)
    · intro z; exact absurd ⟨by omega, by omega, by omega, fun z => absurd z (by decide)⟩ z
theorem shaped_intsL (xs : List Int) : SeqAt.shaped (.list (xs.map PyData.int)) = true := shaped_ints xs
end LW

namespace LW
open PySem PySem.Spec PyProof.Rows L2
/-! ### the examples (k14) -/
def exL : Lad := [(1/2, 1/4), (1/3, 1/3)]
def crawlL : Lad := [(1/100, 1/100)]
def hfL (n : Nat) : Lad := List.replicate n (1/2, 1/2)
theorem ex_hs : hs exL = [0, 1/2, 3/4, 1] := by decide +kernel
theorem ex_mms : mms exL = [0, 7/2, 13/4, 0] := by decide +kernel
theorem ex_vi : viL exL 1 2 = 3/2 := by decide +kernel
theorem ex_aft : afterL exL 1 1 = [1/4, 1/4, 1/2, 0] := by decide +kernel
theorem ex_turn : turn exL = [(1/3, 1/3), (1/4, 1/2)] := by decide +kernel
theorem ex_cnt : cnts 3 1 2 = [0, 1, 0, 1] := by decide +kernel
theorem ex_from : ladFrom [0, 1/2, 3/4, 1] [1/4, 1/3] = exL := by decide +kernel
theorem ex_txt : ladT exL = "1/2:1/4 1/3:1/3" := by decide +kernel
theorem ex_gt : gtL exL true = [(3/4, 0), (4/9, 2/9)] := by decide +kernel
theorem ex_wayP : wayP exL [1, 2] = 1/2 := by decide +kernel
theorem ex_hB2 : hB exL 2 = 3/4 := by decide +kernel
theorem encq {r : Rat} {a b : Int} (h : r.num = a) (h2 : (r.den : Int) = b) : PyData.tuple [.int a, .int b] = enc r := by subst h; subst h2; rfl
theorem c0_1 : PyData.tuple [.int 0, .int 1] = enc 0 := encq (by decide +kernel) (by decide +kernel)
theorem c1_1 : PyData.tuple [.int 1, .int 1] = enc 1 := encq (by decide +kernel) (by decide +kernel)
theorem c1_2 : PyData.tuple [.int 1, .int 2] = enc (1/2) := encq (by decide +kernel) (by decide +kernel)
theorem c1_3 : PyData.tuple [.int 1, .int 3] = enc (1/3) := encq (by decide +kernel) (by decide +kernel)
theorem c1_4 : PyData.tuple [.int 1, .int 4] = enc (1/4) := encq (by decide +kernel) (by decide +kernel)
theorem c3_4 : PyData.tuple [.int 3, .int 4] = enc (3/4) := encq (by decide +kernel) (by decide +kernel)
theorem c7_2 : PyData.tuple [.int 7, .int 2] = enc (7/2) := encq (by decide +kernel) (by decide +kernel)
theorem c13_4 : PyData.tuple [.int 13, .int 4] = enc (13/4) := encq (by decide +kernel) (by decide +kernel)
theorem c3_2 : PyData.tuple [.int 3, .int 2] = enc (3/2) := encq (by decide +kernel) (by decide +kernel)
theorem c4_9 : PyData.tuple [.int 4, .int 9] = enc (4/9) := encq (by decide +kernel) (by decide +kernel)
theorem c2_9 : PyData.tuple [.int 2, .int 9] = enc (2/9) := encq (by decide +kernel) (by decide +kernel)
theorem c1_100 : PyData.tuple [.int 1, .int 100] = enc (1/100) := encq (by decide +kernel) (by decide +kernel)
theorem c7_10 : PyData.tuple [.int 7, .int 10] = enc (7/10) := encq (by decide +kernel) (by decide +kernel)
theorem c177_250 : PyData.tuple [.int 177, .int 250] = enc (177/250) := encq (by decide +kernel) (by decide +kernel)
theorem ex_enc : PyData.list [.tuple [.tuple [.int 1, .int 2], .tuple [.int 1, .int 4]], .tuple [.tuple [.int 1, .int 3], .tuple [.int 1, .int 3]]] = encL exL := by rw [c1_2, c1_4, c1_3]; rfl
theorem sl_enc : PyData.list [.tuple [.tuple [.int 1, .int 100], .tuple [.int 1, .int 100]]] = encL crawlL := by rw [c1_100]; rfl
theorem hf_vals : ∀ s, s < 8 → mM (hfL (s + 1)) 1 = ((s + 1 : Nat) : Rat) ∧ hB (hfL (s + 1)) 1 = 1 / ((s + 2 : Nat) : Rat) := by decide +kernel
theorem sl_ended : (∀ j, j < 60 → endedL crawlL 1 j < 7/10) ∧ ¬ endedL crawlL 1 60 < 7/10 ∧ ∀ j, j < 61 → endedL crawlL 1 j < 177/250 := by decide +kernel
theorem sh_dec {u : Rat} (h : decide (0 < u) = true) (h2 : decide (u ≤ 1) = true) (h3 : u.den ≤ 1000) : Sh u := ⟨of_decide_eq_true h, of_decide_eq_true h2, h3⟩
theorem ex_sh : Sh (1/2) ∧ Sh (1/4) ∧ Sh (1/3) ∧ Sh (1/100) ∧ Sh (7/10) ∧ Sh (177/250) ∧ Sh 1 := by
  refine ⟨⟨?_, ?_, ?_⟩, ⟨?_, ?_, ?_⟩, ⟨?_, ?_, ?_⟩, ⟨?_, ?_, ?_⟩, ⟨?_, ?_, ?_⟩, ⟨?_, ?_, ?_⟩, ⟨?_, ?_, ?_⟩⟩ <;> decide +kernel
theorem ex_ok : Lok exL := ⟨by decide, by decide, fun x hx => by
  obtain ⟨h2, h4, h3, _⟩ := ex_sh
  have hx' : x = (1/2, 1/4) ∨ x = (1/3, 1/3) := by simpa [exL] using hx
  rcases hx' with rfl | rfl
  · exact ⟨h2, h4, by decide +kernel⟩
  · exact ⟨h3, h3, by decide +kernel⟩⟩
theorem sl_ok : Lok crawlL := ⟨by decide, by decide, fun x hx => by
  obtain ⟨_, _, _, h, _⟩ := ex_sh
  rw [List.mem_singleton.mp hx]
  exact ⟨h, h, by decide +kernel⟩⟩
theorem hf_ok {n : Nat} (h1 : 1 ≤ n) (h2 : n ≤ 8) : Lok (hfL n) := ⟨by unfold hfL; rw [List.length_replicate]; exact h1, by unfold hfL; rw [List.length_replicate]; exact h2, fun x hx => by
  rw [List.eq_of_mem_replicate hx]
  exact ⟨ex_sh.1, ex_sh.1, by decide +kernel⟩⟩
theorem ex_ld : LD 12 exL := fun x hx => by
  have hx' : x = (1/2, 1/4) ∨ x = (1/3, 1/3) := by simpa [exL] using hx
  rcases hx' with rfl | rfl
  · exact ⟨⟨6, by decide +kernel⟩, 3, by decide +kernel⟩
  · exact ⟨⟨4, by decide +kernel⟩, 4, by decide +kernel⟩
theorem sl_ld : LD 100 crawlL := fun x hx => by
  rw [List.mem_singleton.mp hx]
  exact ⟨⟨1, by decide +kernel⟩, 1, by decide +kernel⟩
theorem hf_ld (n : Nat) : LD 12 (hfL n) := fun x hx => by
  rw [List.eq_of_mem_replicate hx]
  exact ⟨⟨6, by decide +kernel⟩, 6, by decide +kernel⟩
theorem ex_sz : Sz exL := ⟨ex_ok.lw, ex_ok.st, 12, by decide, by decide, ex_ld.r (by decide)⟩
theorem hf_sz {n : Nat} (h1 : 1 ≤ n) (h2 : n ≤ 8) : Sz (hfL n) := ⟨(hf_ok h1 h2).lw, (hf_ok h1 h2).st, 12, by decide, by decide, (hf_ld n).r (by decide)⟩
def R_law_ex (ds : List PyData) (P : PyData → Prop) : Prop := ∃ _ : Unit, ds = [encL exL] ∧ P (.bool true)
theorem S_law_ex {P : PyData → Prop} (p : P (.bool true)) : R_law_ex [encL exL] P := ⟨(), rfl, p⟩
def oneL : Lad := [(1/2, 1/4)]
theorem one_enc : PyData.list [.tuple [enc (1/2), enc (1/4)]] = encL oneL := rfl
theorem one_ok : Lok oneL := ⟨by decide, by decide, fun x hx => by
  rw [List.mem_singleton.mp hx]
  exact ⟨ex_sh.1, ex_sh.2.1, by decide +kernel⟩⟩
theorem one_ld : LD 12 oneL := fun x hx => by
  rw [List.mem_singleton.mp hx]
  exact ⟨⟨6, by decide +kernel⟩, 3, by decide +kernel⟩
theorem one_sz : Sz oneL := ⟨one_ok.lw, one_ok.st, 12, by decide, by decide, one_ld.r (by decide)⟩
theorem one_mM : ¬ mM oneL 1 ≤ mM oneL 0 ∧ ¬ mM oneL 1 ≤ mM oneL 2 := by decide +kernel
theorem hf_ended : ∀ s, s < 8 → ¬ endedL (hfL (s + 1)) 0 0 < 1 := by decide +kernel
theorem hf_enc (n : Nat) : (List.replicate n [PyData.tuple [PyData.tuple [.int 1, .int 2], PyData.tuple [.int 1, .int 2]]]).flatten = (hfL n).map encR := by
  rw [rep_flat, c1_2]; unfold hfL; rw [List.map_replicate]
theorem enc_nat (n : Nat) : PyData.tuple [.int (n : Int), .int 1] = enc (n : Rat) := rfl
theorem inv_parts : ∀ s, s < 8 → (1 / ((s + 2 : Nat) : Rat)).num = 1 ∧ (1 / ((s + 2 : Nat) : Rat)).den = s + 2 := by decide +kernel
section
variable {lad : PyData} {line mov : List PyData} {Z : Addr → Prop}
theorem mono_chance (ds : List PyData) {P1 P2 : PyData → List PyData → List PyData → Prop} (h : ∀ d l m, P1 d l m → P2 d l m) (x : R_chance lad line mov ds P1 Z) : R_chance lad line mov ds P2 Z := by
  obtain ⟨L, w, ms, E, k, u, h1, h2, h3, h4, h5, h6, h7, h8⟩ := x
  exact ⟨L, w, ms, E, k, u, h1, h2, h3, h4, h5, h6, h7, h _ _ _ h8⟩
theorem mono_wtop (ds : List PyData) {P1 P2 : PyData → List PyData → List PyData → Prop} (h : ∀ d l m, P1 d l m → P2 d l m) (x : R_wtop lad line mov ds P1 Z) : R_wtop lad line mov ds P2 Z := by
  obtain ⟨L, w, ms, E, k, u, h1, h2, h8⟩ := x
  exact ⟨L, w, ms, E, k, u, h1, h2, h _ _ _ h8⟩
theorem mono_rung (ds : List PyData) {P1 P2 : PyData → List PyData → List PyData → Prop} (h : ∀ d l m, P1 d l m → P2 d l m) (x : R_rung lad line mov ds P1 Z) : R_rung lad line mov ds P2 Z := by
  obtain ⟨L, w, ms, E, k, u, h1, h2, h8⟩ := x
  exact ⟨L, w, ms, E, k, u, h1, h2, h _ _ _ h8⟩
theorem mono_way (ds : List PyData) {P1 P2 : PyData → List PyData → List PyData → Prop} (h : ∀ d l m, P1 d l m → P2 d l m) (x : R_way lad line mov ds P1 Z) : R_way lad line mov ds P2 Z := by
  obtain ⟨L, w, ms, E, k, u, h1, h2, h8⟩ := x
  exact ⟨L, w, ms, E, k, u, h1, h2, h _ _ _ h8⟩
end
end LW

namespace LW
open PySem PySem.Spec PyProof.Rows L2
section
variable {E : EK} {Xc : XP} {ρ : List Slot} {N : List Slot → Prop} {R : RK} {ta : TA} {i j : Nat} {C : Addr} {E' : XK}
/-- x, y = (Walker(..), (a, b)) -/
theorem ds_walkPar {Rn : List PyData → (PyData → List PyData → List PyData → Prop) → (Addr → Prop) → Prop} {a b : Int} (h : EvA E Xc ta ρ fun ds => Rn ds (fun lad line mov => ∀ p aL aI aM, N ((ρ.set i (.wlk C p aL aI aM lad line mov)).set j (.dat (.tuple [.int a, .int b])))) (fun _ => False)) :
    DS E Xc (tPar i j (tCons (tMake C (NSp C Rn) [] E' ta) (tCons (tTup (tCons (tC (.int a)) (tCons (tC (.int b)) tNil))) tNil))) ρ N R := fun Cx O σ H D x e nx rt =>
  h Cx O σ H x e _ fun vs ds H1 x1 k1 y1 h1 => fun q dx nq nd ne => by
    have s1 : Same H1 (upd H1 dx (.own q)) := same_upd nd
    have nq2 : upd H1 dx (.own q) q = none := by rw [upd_ne (Ne.symm ne)]; exact nq
    have s2 : Same H1 (upd (upd H1 dx (.own q)) q (.ins C dx [])) := s1.trans (same_upd nq2)
    rw [List.append_nil]
    refine ⟨O, q, dx, vs, ds, _, _, rfl, fun p hp e => x1.domN p hp (s2.free e), x1.notO nq, upd_same, y1.keep (.of s2), h1, fun aL aI aM lad line mov H' k _ nI nM w pz => ⟨rfl, ?_⟩, fun c H' _ z => z.elim⟩
    have g : Same H1 H' := fun a o ea => k a o (ne_of_none ea nq) (s2 a o ea)
    have mk := x1.setF (i := i) (s := .wlk C q aL aI aM lad line mov) (x := some (.ref q)) g
      (fun a f => by
        rcases (show a = aI ∨ a = aM from f) with f | f
        · rw [f]; exact s2.free nI
        · rw [f]; exact s2.free nM)
      (fun a f => by
        obtain ⟨vs, h1, _⟩ := w.li
        obtain ⟨us, h2, _⟩ := w.mo
        rcases (show a = aI ∨ a = aM from f) with f | f
        · rw [f]; exact ⟨_, h1⟩
        · rw [f]; exact ⟨_, h2⟩) (wat_iff.mpr ⟨rfl, w⟩)
    refine ⟨by show 2 ≤ sizeLine; decide, fun l nl => ?_⟩
    have sl : Same H' (upd H' l (.tup [.int a, .int b])) := same_upd nl
    have mk2 := (mk.grow sl).setD (i := j) (v := .ref l) (d := .tuple [.int a, .int b]) (.tup (mk.notO nl) upd_same (.cons (.int a) (.cons (.int b) .nil)))
    exact ⟨_, _, rfl, nx _ _ _ _ mk2 (pz q aL aI aM)⟩
end
end LW

namespace LW
open PySem PySem.Spec PyProof.Rows L2
/-! ### bound for an end (k16) -/
theorem ag_low {L : Lad} (h : Lw L) {r : Nat} (hr : r ≤ L.length + 1) (t : Nat) {j : Nat} (hj : j ≤ L.length + 1) : agF (turn L) (L.length + 1 - r) t (L.length + 1 - j) = aft L r t j * (1 - hB L j) / (1 - hB L r) := by
  unfold agF
  rw [aft_turn hr t j hj, hB_turn h _ (by omega), hB_turn h _ (by omega), show L.length + 1 - (L.length + 1 - j) = j by omega, show L.length + 1 - (L.length + 1 - r) = r by omega]
theorem ag_both {L : Lad} (h : Lw L) {r : Nat} (h1 : 1 ≤ r) (hr : r ≤ L.length) (t : Nat) {j : Nat} (hj : j ≤ L.length + 1) : agF L r t j * hB L r + agF (turn L) (L.length + 1 - r) t (L.length + 1 - j) * (1 - hB L r) = aft L r t j := by
  rw [ag_low h (by omega) t hj]
  unfold agF
  have p1 : hB L r ≠ 0 := Rat.ne_of_gt (hX_pos h true h1 hr)
  have p2 : 1 - hB L r ≠ 0 := Rat.ne_of_gt (hX_pos h false h1 hr)
  grind
theorem gt_turn {L : Lad} (h : Lw L) : ((gtL (turn L) true).reverse.map fun x => (x.2, x.1)) = gtL L false := by
  apply List.ext_getElem?
  intro i
  by_cases hi : i < L.length
  · have hx := getD_get' (L := L) (i := i) hi
    have e1 : (gtL (turn L) true).reverse[i]? = some (gvL (turn L) true (L.length - 1 - i)) := by
      rw [List.getElem?_reverse (by rw [gtL_len, turn_len]; exact hi), gtL_len, turn_len]
      exact gtL_get (by rw [turn_len]; omega)
    rw [List.getElem?_map, e1, gtL_get hi]
    have e2 : (turn L).getD (L.length - 1 - i) (0, 0) = ((L.getD i (0, 0)).2, (L.getD i (0, 0)).1) := by
      rw [List.getD_eq_getElem?_getD, turn_get hx]; rfl
    show some _ = some _
    congr 1
    unfold gvL
    rw [e2]
    show (_ , _) = (_, _)
    have a1 : hX (turn L) true (L.length - 1 - i + 2) = hX L false i := by
      show hB (turn L) _ = 1 - hB L i
      rw [hB_turn h _ (by omega), show L.length + 1 - (L.length - 1 - i + 2) = i by omega]
    have a2 : hX (turn L) true (L.length - 1 - i + 1) = hX L false (i + 1) := by
      show hB (turn L) _ = 1 - hB L (i + 1)
      rw [hB_turn h _ (by omega), show L.length + 1 - (L.length - 1 - i + 1) = i + 1 by omega]
    have a3 : hX (turn L) true (L.length - 1 - i) = hX L false (i + 2) := by
      show hB (turn L) _ = 1 - hB L (i + 2)
      rw [hB_turn h _ (by omega), show L.length + 1 - (L.length - 1 - i) = i + 2 by omega]
    rw [a1, a2, a3]
  · rw [List.getElem?_eq_none (by rw [List.length_map, List.length_reverse, gtL_len, turn_len]; omega), List.getElem?_eq_none (by rw [gtL_len]; omega)]
theorem aft_top {L : Lad} (t : Nat) : ∀ j, j < L.length + 2 → aft L (L.length + 1) t j = if j = L.length + 1 then 1 else 0 := by
  induction t with
  | zero => intro j hj; exact aft_zero hj
  | succ t ih =>
    intro j hj
    rw [aft_succ hj, sumR_one (k := L.length + 1) (by omega) (fun r hr hn => by rw [ih r hr, if_neg hn]; grind), ih _ (by omega), if_pos rfl, TL_end (Or.inr (by omega))]
    grind
theorem ag_top {L : Lad} (h : Lw L) (t : Nat) : agL L (L.length + 1) t = afterL L (L.length + 1) t := by
  apply List.ext_getElem?
  intro i
  by_cases hi : i < L.length + 2
  · rw [agL_get (by omega), aft_get hi]
    congr 1
    unfold agF
    rw [aft_top t i hi, hB_top h (k := L.length + 1) rfl]
    split
    · rename_i e; rw [hB_top h e]; grind
    · grind
  · rw [List.getElem?_eq_none (by rw [agL_len]; omega), List.getElem?_eq_none (by rw [afterL_len]; omega)]
theorem at_low {L : Lad} {r t k : Nat} {i : Int} (e : i = (k : Int)) (h : k ≤ L.length + 1) : atI ((agL L r t).reverse.map enc) i = some (enc (agF L r t (L.length + 1 - k))) := by
  refine at_map e ?_
  rw [List.getElem?_reverse (by rw [agL_len]; omega), agL_len, show L.length + 2 - 1 - k = L.length + 1 - k by omega]
  exact agL_get (by omega)
theorem gv_both {L : Lad} (h : Lw L) {i : Nat} (hl : i < L.length) : (gvL L true i).1 * hB L (i + 1) + (gvL L false i).1 * (1 - hB L (i + 1)) = (L.getD i (0, 0)).1 ∧ (gvL L true i).2 * hB L (i + 1) + (gvL L false i).2 * (1 - hB L (i + 1)) = (L.getD i (0, 0)).2 := by
  have p1 : hB L (i + 1) ≠ 0 := Rat.ne_of_gt (hX_pos h true (by omega) (by omega))
  have p2 : 1 - hB L (i + 1) ≠ 0 := Rat.ne_of_gt (hX_pos h false (by omega) (by omega))
  have alg : ∀ u x y a b : Rat, a ≠ 0 → b ≠ 0 → x + y = 1 → u * x / a * a + u * y / b * b = u := fun u x y a b ha hb hxy => by grind
  constructor
  · exact alg _ (hB L (i + 2)) (1 - hB L (i + 2)) _ _ p1 p2 (by grind)
  · exact alg _ (hB L i) (1 - hB L i) _ _ p1 p2 (by grind)
theorem gv_le {L : Lad} (h : Lw L) {i : Nat} (hl : i < L.length) : ¬ (gvL L true i).1 < (L.getD i (0, 0)).1 ∧ ¬ (L.getD i (0, 0)).2 < (gvL L true i).2 := by
  have p1 : 0 < hB L (i + 1) := hB_pos h (by omega) (by omega)
  have q1 := hB_lt h (r := i) (by omega)
  have q2 := hB_lt h (r := i + 1) (by omega)
  obtain ⟨b1, b2, _, _⟩ := h.sh _ (List.mem_of_getElem? (getD_get' hl))
  have key : ∀ u a b : Rat, 0 < u → 0 < b → b < a → ¬ u * a / b < u := fun u a b hu hb hab hh => by
    have e : u * a / b * b = u * a := by have := Rat.ne_of_gt hb; grind
    have h1 := Rat.mul_lt_mul_of_pos_right hh hb
    rw [e] at h1
    have h2 := Rat.mul_lt_mul_of_pos_left hab hu
    grind
  have key2 : ∀ u a b : Rat, 0 < u → 0 < b → a < b → ¬ u < u * a / b := fun u a b hu hb hab hh => by
    have e : u * a / b * b = u * a := by have := Rat.ne_of_gt hb; grind
    have h1 := Rat.mul_lt_mul_of_pos_right hh hb
    rw [e] at h1
    have h2 := Rat.mul_lt_mul_of_pos_left hab hu
    grind
  exact ⟨key _ _ _ b1 p1 q2, key2 _ _ _ b2 p1 q1⟩
theorem wayP_bd {L : Lad} (hs : Lst L) (hE : LD 12 L) {w : List Nat} (h : ∀ x ∈ w, x ≤ L.length + 1) (hl : w.length ≤ 10) : Bd 50 (wayP L w) := by
  have hat : ∀ i, i < w.length → w.getD i 0 ≤ L.length + 1 := fun i hi => h _ (List.mem_of_getElem? (getD_get hi))
  refine (Fz.prodR (E := 12) (n := w.length - 1) (f := wstep L w) fun j hj => ?_).bd (Nat.pow_pos (by decide)) (Nat.lt_of_le_of_lt (Nat.mul_le_mul_right 2 (Nat.pow_le_pow_right (by decide) (show w.length - 1 ≤ 10 by omega))) (by decide))
  have a := hat j (by omega)
  have b := hat (j + 1) (by omega)
  exact TL_fz hs hE (by omega) (by omega)
/-- one step up, told that the walk ends at the top -/
theorem up_told {L : Lad} (h : Lw L) {k : Nat} (hk : k < L.length) {w : List Nat} (hw : 1 ≤ w.length) (hl : lastW w = k + 1) (c : Rat) : wayP L w * hB L (k + 1) / c * (gvL L true k).1 = wayP L (w ++ [k + 2]) * hB L (k + 2) / c := by
  rw [wayP_app hw, hl, TL_in (getD_get' hk), if_pos rfl]
  have p := Rat.ne_of_gt (hB_pos h (r := k + 1) (by omega) (by omega))
  show _ = wayP L w * (L.getD k (0, 0)).1 * _ / c
  have e : (gvL L true k).1 = (L.getD k (0, 0)).1 * hB L (k + 2) / hB L (k + 1) := rfl
  rw [e]
  generalize hB L (k + 1) = a at *
  generalize hB L (k + 2) = b
  generalize (L.getD k (0, 0)).1 = u
  generalize wayP L w = v
  simp only [Rat.div_def]
  have : a * a⁻¹ = 1 := Rat.mul_inv_cancel _ p
  grind
end LW

namespace LW
open PySem PySem.Spec PyProof.Rows L2
/-! ### defs that are handed a walker (k09) -/
section
variable {P : Program} {w : World} {K : PySem.W.Frag} {mg : Str → Option Value} {base : Heap} {C : Addr} {x : Str} {st : Stmt} {N ps : List Str} {k : Nat} {Rw : RW}
theorem has_defW (F : DefIn K mg x st ps) (S : FnScope N ps (defScope st)) (len : ∀ lad line mov ds Q Z, Rw lad line mov ds Q Z → ds.length + 1 = ps.length)
    (hb : ∀ (f : Addr) (cdv : Value) (A : Around) (outer : List Env) (s : Shared) (H : Hp) (E : XK), Room k (A.deeper (envOfC x (defScope st) s.heap.objs.size f cdv)) →
      ∃ t, PSs (cxOf CX0 P w K mg base N x (defScope st) f cdv A outer s H E).nox (defBody st) t ∧ ∀ lad line mov ds Q Z, Rw lad line mov ds Q Z → ∀ p aL aI aM, DS EE X0 t (.wlk C p aL aI aM lad line mov :: entry (N.length - 1) ds) (fun _ => False) (fun ρ' d => ∃ l' m', ρ'[0]? = some (.wlk C p aL aI aM lad l' m') ∧ Q d l' m')) : Has P w K mg base CX0 x ps (k + 1) (WSp C Rw) := by
  obtain ⟨f, fd, F, m, b⟩ := F
  refine ⟨f, fd, F.ok S (fun vs H Q E h => ?_) (fun cdv A outer s H vs Q E hr h => ?_), m, F.kp, b⟩
  · obtain ⟨O, p, aL, aI, aM, ws, lad, line, mov, ds, P', Z, rfl, _, _, _, _, y, r, _⟩ := h
    rw [List.length_cons, y.length]; exact len _ _ _ ds _ _ r
  · obtain ⟨O, p, aL, aI, aM, ws, lad, line, mov, ds, P', Z, rfl, hd, oI, oM, wa, y, r, q, _⟩ := h
    obtain ⟨t, ht, h⟩ := hb f cdv A outer s H E hr
    refine ⟨t, ht, h lad line mov ds P' Z r p aL aI aM _ O _ H _ (rel_walk hd oI oM wa y) eok0 (fun _ _ _ _ _ n => n.elim) fun O' ρ' σ' v d H' xr z ⟨l', m', e, pz⟩ => ?_⟩
    obtain ⟨hs, w', kf⟩ := walk_back xr e
    exact q v d l' m' H' kf w' (z.sub hs) pz
end
section
variable {E : EK} {Xc : XP} {ρ : List Slot} {ta tb : TE} {PS : List Slot → PyData → Prop} {t : TT}
theorem es_if (h : EvT E Xc t ρ fun b => if b = true then EvS E Xc ta ρ PS else EvS E Xc tb ρ PS) : EvS E Xc (tIf t ta tb) ρ PS := fun C O σ H x e Q q =>
  h C O σ H x e _ fun b H1 x1 k1 p => by
    cases b with
    | true => exact p C O σ H1 x1 e Q fun v d ρ2 H2 x2 k2 => q v d ρ2 H2 x2 (k1.trans k2)
    | false => exact p C O σ H1 x1 e Q fun v d ρ2 H2 x2 k2 => q v d ρ2 H2 x2 (k1.trans k2)
end
def R_call09 : RW := fun lad line mov ds P Z => ∃ (L : Lad) (w : List Nat) (ms : List Int) (kd : Int) (b : PyData) (_ : Unit), ds = [.int kd, b] ∧ Wk3 lad line mov L w ms ∧ w.length < 1000 ∧
  (kd = 0 → (isIntIn b (-1) 1 = false → P (.str "number") line mov) ∧ ∀ i : Int, b = .int i → -1 ≤ i → i ≤ 1 → (stepOk L (lastW w) i → P (natD ((lastW w : Int) + i).toNat) ((w ++ [((lastW w : Int) + i).toNat]).map natD) ((ms ++ [i]).map PyData.int)) ∧ (¬ stepOk L (lastW w) i → P (.str "none") line mov)) ∧
  (kd ≠ 0 → (ms = [] → P (.str "none") line mov) ∧ (ms ≠ [] → P (natD (lastW w.dropLast)) (w.dropLast.map natD) (ms.dropLast.map PyData.int)))
section
variable {lad : PyData} {line mov : List PyData} {L : Lad} {w : List Nat} {ms : List Int} {P : PyData → List PyData → List PyData → Prop} {Z : Addr → Prop}
theorem S_call09s {b : PyData} (h : Wk3 lad line mov L w ms) (hl : w.length < 1000) (h1 : isIntIn b (-1) 1 = false → P (.str "number") line mov) (h2 : ∀ i : Int, b = .int i → -1 ≤ i → i ≤ 1 → (stepOk L (lastW w) i → P (natD ((lastW w : Int) + i).toNat) ((w ++ [((lastW w : Int) + i).toNat]).map natD) ((ms ++ [i]).map PyData.int)) ∧ (¬ stepOk L (lastW w) i → P (.str "none") line mov)) : R_call09 lad line mov [.int 0, b] P Z :=
  ⟨L, w, ms, 0, b, (), rfl, h, hl, fun _ => ⟨h1, h2⟩, fun e => absurd rfl e⟩
theorem S_call09u {b : PyData} (h : Wk3 lad line mov L w ms) (hl : w.length < 1000) (h1 : ms = [] → P (.str "none") line mov) (h2 : ms ≠ [] → P (natD (lastW w.dropLast)) (w.dropLast.map natD) (ms.dropLast.map PyData.int)) : R_call09 lad line mov [.int 1, b] P Z :=
  ⟨L, w, ms, 1, b, (), rfl, h, hl, fun e => absurd e (by decide), fun _ => ⟨h1, h2⟩⟩
end
theorem way_undo {L : Lad} {w : List Nat} (h : 2 ≤ w.length) (hp : wayP L w ≠ 0) : wayP L w.dropLast ≠ 0 := by
  intro e
  apply hp
  have hn : w ≠ [] := by intro z; rw [z] at h; simp at h
  rw [← List.dropLast_concat_getLast hn, wayP_app (by rw [List.length_dropLast]; omega), e]
  grind
theorem at_drop2 {w : List Nat} (h : 2 ≤ w.length) : atI (w.map natD) (-2) = some (natD (lastW w.dropLast)) := by
  have e : lastW w.dropLast = w.getD (w.length - 2) 0 := by
    unfold lastW
    rw [List.length_dropLast, List.getD_eq_getElem?_getD, List.getD_eq_getElem?_getD, List.getElem?_dropLast, if_pos (by omega)]
    congr 2
  rw [e]
  exact at_neg (f := natD) (j := w.length - 2) (by decide) (by omega) (getD_get (by omega))
theorem cutD_last (w : List Nat) : cutD (w.map natD) none (some (-1)) = (w.dropLast).map natD := by
  unfold cutD
  rw [HT.sIx_none, List.drop_zero, Nat.sub_zero, List.dropLast_eq_take, List.map_take]
  congr 1
  show (if (-1 : Int) < 0 then ((-1 : Int) + ((w.map natD).length : Int)).toNat else min (-1 : Int).toNat (w.map natD).length) = w.length - 1
  rw [if_pos (by decide), List.length_map]
  omega
end LW

namespace LW
open PySem PySem.Spec PyProof.Rows L2
/-! ### texts taken apart (k10) -/
theorem pe_h0 {X : Cx} {x : Str} {ps : List Str} {k j : Nat} {sp : Sp} {p pos : Pos} (h : Has X.prog X.w X.K X.mg X.base CX0 x ps k sp) (hr : Room j X.A) (hj : k ≤ j) (hg : Gl X x)
    (hdb : (x == ("__debug__" : Str)) = false := by decide) : PE X (.Call (.Name x p) [] [] pos) (tCall sp [] E0 tNil) := by
  obtain ⟨f, fd, F, m, kp, b⟩ := h
  exact pe_call0 F (hr.mono hj) hg m kp b .nil pass0 hdb
section
variable {E : EK} {Xc : XP} {K : PySem.W.Frag} {ρ : List Slot} {P : PyData → Prop} {te to : TE} {ta : TA}
theorem ev_part (h : EvP E Xc to ρ fun d => ∃ a, d = .str a ∧ EvP E Xc te ρ fun d' => ∃ b, d' = .str b ∧ (b.length == 0) = false ∧ a.length ≤ 100000 ∧ P (.tuple [.str (Txt.partition a b).1, .str (Txt.partition a b).2.1, .str (Txt.partition a b).2.2])) :
    EvP E Xc (tM1 (fun x xs H Q => ∃ a b, x = .str a ∧ xs = [.str b] ∧ (b.length == 0) = false ∧ a.length ≤ sizeLine ∧
      ∀ p, H p = none → Q (.ref p) (upd H p (.tup [.str (Txt.partition a b).1, .str (Txt.partition a b).2.1, .str (Txt.partition a b).2.2]))) to te) ρ P := fun C O σ H x e Q q =>
  h C O σ H x e _ fun v d H1 x1 k1 y1 ⟨a, ed, h1⟩ => by
    subst ed; cases y1
    refine ⟨⟨a, rfl⟩, h1 C O σ H1 x1 e _ fun v2 d2 H2 x2 k2 y2 ⟨b, e2, hb, hl, p⟩ => ?_⟩
    subst e2; cases y2
    exact ⟨a, b, rfl, rfl, hb, Nat.le_trans hl (by decide), fun l n => q _ _ _ (x2.grow (same_upd n)) ((k1.trans k2).trans (.of (same_upd n))) (.tup (x2.notO n) upd_same (.cons (.str _) (.cons (.str _) (.cons (.str _) .nil)))) p⟩
theorem DnAll.strs {O : Addr → Prop} {H : Hp} : ∀ ys : List Str, DnAll O H (ys.map V.str) (ys.map PyData.str)
  | [] => .nil
  | y :: ys => .cons (.str y) (DnAll.strs ys)
theorem ev_split (h : EvP E Xc to ρ fun d => ∃ a, d = .str a ∧ EvP E Xc te ρ fun d' => ∃ b, d' = .str b ∧ (b.length == 0) = false ∧ a.length + 2 ≤ 100000 ∧ P (.list ((Txt.split a b).map .str))) :
    EvP E Xc (tM1 (fun x xs H Q => ∃ a b, x = .str a ∧ xs = [.str b] ∧ (b.length == 0) = false ∧ a.length + 2 ≤ sizeLine ∧ rNewStrs (Txt.split a b) H Q) to te) ρ P := fun C O σ H x e Q q =>
  h C O σ H x e _ fun v d H1 x1 k1 y1 ⟨a, ed, h1⟩ => by
    subst ed; cases y1
    refine ⟨⟨a, rfl⟩, h1 C O σ H1 x1 e _ fun v2 d2 H2 x2 k2 y2 ⟨b, e2, hb, hl, p⟩ => ?_⟩
    subst e2; cases y2
    exact ⟨a, b, rfl, rfl, hb, Nat.le_trans hl (by decide), fun l n => q _ _ _ (x2.grow (same_upd n)) ((k1.trans k2).trans (.of (same_upd n))) (.lst (x2.notO n) upd_same (DnAll.strs _)) p⟩
def signD (c : Nat) : PyData := .str ⟨#[c]⟩
theorem wk_str {O : Addr → Prop} {H : Hp} (z : Str) : Wk O (Its z) H ((TL.tl z).map signD) := by
  refine ⟨_, (by rw [List.length_map]; exact walk_str.mono (fun _ _ => trivial) fun i H x H' _ _ y => y), fun i H2 x H3 hi k y => ?_⟩
  obtain ⟨y1, c, y2, y3⟩ := y
  subst y3
  refine ⟨signD c, ?_, .inl ⟨y1, .str _⟩⟩
  rw [List.getElem?_map, show (TL.tl z)[i]? = some c by rw [← y2]; exact Array.getElem?_toList]
  rfl
theorem ei_str {P : List PyData → Prop} (h : EvP E Xc te ρ fun d => ∃ z, d = .str z ∧ P ((TL.tl z).map signD)) : EvI E Xc (iStr te) ρ P := fun C O σ H x e Rk q =>
  h C O σ H x e _ fun v d H1 x1 k1 y ⟨z, ed, p⟩ => by
    subst ed; cases y
    exact ⟨z, rfl, q _ _ H1 x1 k1 (wk_str z) p⟩
theorem rp_inSign {c : Nat} {z : Str} (p : P (.bool (decide (c ∈ TL.tl z)))) : RP (fun x y H Q => ∃ (c : Nat) (z : Str), x = .str ⟨#[c]⟩ ∧ y = .str z ∧ Q (.bl (decide (c ∈ z.cps.toList))) H) (signD c) (.str z) P := fun O H vx vy _ x y Q q => by
  unfold signD at x
  cases x; cases y
  exact ⟨c, z, rfl, rfl, q _ _ H (Same.refl H) (.bl _) p⟩
theorem rc_intS {a : Str} {n : Int} (h : PySem.intText? a = some n) (hl : a.length ≤ 640) (p : P (.int n)) : RC (fun xs H Q => ∃ a n, xs = [.str a] ∧ PySem.intText? a = some n ∧ a.length ≤ 640 ∧ Q (.int n) H) [.str a] P := fun O H vs _ y Q q => by
  cases y with
  | cons y yr =>
    cases yr; cases y
    exact ⟨a, n, rfl, h, hl, q _ _ H (Same.refl H) (.int _) p⟩
theorem ev_slS {tl th : TO} (h : EvP E Xc te ρ fun d => EvO E Xc tl ρ fun lo => EvO E Xc th ρ fun hi => ∃ z, d = .str z ∧ z.length ≤ 100000 ∧ P (.str (cutS z lo hi))) : EvP E Xc (tSl rSlS te tl th) ρ P := fun C O σ H x e Q q =>
  h C O σ H x e _ fun v d H1 x1 k1 y h1 => h1 C O σ H1 x1 e _ fun lo H2 x2 k2 h2 => h2 C O σ H2 x2 e _ fun hi H3 x3 k3 ⟨z, ed, hl, p⟩ => by
    subst ed; cases y
    exact ⟨z, rfl, Nat.le_trans hl (by decide), q _ _ H3 x3 ((k1.trans k2).trans k3) (.str _) p⟩
theorem rc_lenS {z : Str} (h : z.length ≤ 100000) (p : P (.int z.length)) : RC (fun xs H Q => ∃ x n, xs = [x] ∧ LenV K x H n ∧ Q (.int n) H) [.str z] P := rc_len (n := z.length) (by show (if z.length ≤ 100000 then some z.length else none) = _; rw [if_pos h]) p
end
end LW

namespace LW
open PySem PySem.Spec PyProof.Rows L2
open _root_.TL (tl numL)
/-! ### texts of ladders, read (k10) -/
theorem tl_slash : tl (Str.ofString "/") = [47] := by decide +kernel
theorem tl_colon : tl (Str.ofString ":") = [58] := by decide +kernel
theorem tl_space : tl (Str.ofString " ") = [32] := by decide +kernel
theorem tl_empty : tl Str.empty = [] := rfl
theorem tl_int {n : Int} (h : 0 ≤ n) : tl (Str.ofString (toString n)) = numL n.toNat := by
  obtain ⟨m, rfl⟩ := Int.eq_ofNat_of_zero_le h
  rw [Int.toNat_natCast]; exact TL.tl_num m
theorem sh_tl1 {u : Rat} (h : Sh u) (hd : u.den = 1) : tl (shT u) = numL u.num.toNat := by
  have := h.num_le
  unfold shT
  rw [if_pos hd]; exact tl_int (by omega)
theorem sh_tl2 {u : Rat} (h : Sh u) (hd : u.den ≠ 1) : shT u = Str.ofString (toString u.num) ++ "/" ++ Str.ofString (toString (u.den : Int)) := by
  unfold shT
  rw [if_neg hd]
  congr 2
  exact TL.ext_tl (by rw [TL.tl_append, tl_empty, List.nil_append])
theorem sh_free {u : Rat} (h : Sh u) {c : Nat} (hc : c = 58 ∨ c = 32) : c ∉ tl (shT u) := by
  obtain ⟨h1, h2⟩ := h.num_le
  by_cases hd : u.den = 1
  · rw [sh_tl1 h hd]
    exact TL.numL_free (by omega)
  · rw [sh_tl2 h hd, TL.tl_append, TL.tl_append, tl_slash, tl_int (by omega), tl_int (by omega)]
    intro hm
    rcases List.mem_append.mp hm with hm | hm
    · rcases List.mem_append.mp hm with hm | hm
      · exact TL.numL_free (by omega) hm
      · rw [List.mem_singleton] at hm; omega
    · exact TL.numL_free (by omega) hm
theorem sh_part1 {u : Rat} (h : Sh u) (hd : u.den = 1) : Txt.partition (shT u) "/" = (shT u, Str.empty, Str.empty) :=
  TL.partition_none tl_slash (by rw [sh_tl1 h hd]; exact TL.numL_free (by omega))
theorem sh_part2 {u : Rat} (h : Sh u) (hd : u.den ≠ 1) : Txt.partition (shT u) "/" = (Str.ofString (toString u.num), Str.ofString "/", Str.ofString (toString (u.den : Int))) := by
  have := h.num_le
  rw [sh_tl2 h hd]
  exact TL.partition_app tl_slash (by rw [tl_int (by omega)]; exact TL.numL_free (by omega))
theorem read_num {n : Int} (h : 0 ≤ n) (h1 : n ≤ 1000) : PySem.intText? (Str.ofString (toString n)) = some n := PySem.W.KIN.num_reads h (by show n < 10000000000; omega)
theorem num_digits {n : Int} (h : 0 ≤ n) : ∀ c ∈ tl (Str.ofString (toString n)), 48 ≤ c ∧ c ≤ 57 := by
  rw [tl_int h]; exact TL.numL_digits _
theorem num_ne {n : Int} (h : 0 ≤ n) : 1 ≤ (Str.ofString (toString n)).length := by
  rw [TL.len_tl, tl_int h]
  have := TL.numL_ne n.toNat
  cases e : numL n.toNat with
  | nil => exact absurd e this
  | cons a b => simp
/-- what a text of a share looks like -/
theorem sh_form {u : Rat} (h : Sh u) : (∀ c ∈ tl ((Txt.partition (shT u) "/").1 ++ (Txt.partition (shT u) "/").2.2), 48 ≤ c ∧ c ≤ 57) ∧ 1 ≤ (Txt.partition (shT u) "/").1.length ∧ (Txt.partition (shT u) "/").1.length ≤ 4 ∧ (Txt.partition (shT u) "/").2.2.length ≤ 4 ∧
    ((Txt.partition (shT u) "/").2.1 ≠ Str.empty → (Txt.partition (shT u) "/").2.2 ≠ Str.empty) ∧ PySem.intText? (Txt.partition (shT u) "/").1 = some u.num ∧ ((Txt.partition (shT u) "/").2.1 ≠ Str.empty → PySem.intText? (Txt.partition (shT u) "/").2.2 = some (u.den : Int)) ∧ ((Txt.partition (shT u) "/").2.1 = Str.empty → u.den = 1) := by
  obtain ⟨h1, h2⟩ := h.num_le
  have h3 := h.den
  by_cases hd : u.den = 1
  · have e : shT u = Str.ofString (toString u.num) := by unfold shT; rw [if_pos hd]
    rw [sh_part1 h hd]
    refine ⟨fun c hc => ?_, ?_, ?_, Nat.zero_le _, fun z => absurd rfl z, ?_, fun z => absurd rfl z, fun _ => hd⟩
    · rw [TL.tl_append, tl_empty, List.append_nil, e] at hc
      exact num_digits (by omega) c hc
    · show 1 ≤ (shT u).length
      rw [e]; exact num_ne (by omega)
    · show (shT u).length ≤ 4
      rw [e]; exact num_len (by omega) (by omega)
    · show PySem.intText? (shT u) = _
      rw [e]; exact read_num (by omega) (by omega)
  · rw [sh_part2 h hd]
    refine ⟨fun c hc => ?_, num_ne (by omega), num_len (by omega) (by omega), num_len (by omega) (by omega), fun _ z => ?_, read_num (by omega) (by omega), fun _ => read_num (by omega) (by omega), fun z => ?_⟩
    · rw [TL.tl_append] at hc
      rcases List.mem_append.mp hc with hc | hc
      · exact num_digits (by omega) c hc
      · exact num_digits (by omega) c hc
    · have := num_ne (n := (u.den : Int)) (by omega)
      have z : Str.ofString (toString (u.den : Int)) = Str.empty := z
      rw [z] at this
      exact absurd this (by decide)
    · exact absurd (show Str.ofString "/" = Str.empty from z) (by decide +kernel)
theorem shT_inj {u v : Rat} (hu : Sh u) (hv : Sh v) (e : shT u = shT v) : u = v := by
  have a := sh_form hu
  have b := sh_form hv
  rw [e] at a
  have n1 : u.num = v.num := Option.some.inj (a.2.2.2.2.2.1.symm.trans b.2.2.2.2.2.1)
  have n2 : u.den = v.den := by
    by_cases hs : (Txt.partition (shT v) "/").2.1 = Str.empty
    · rw [a.2.2.2.2.2.2.2 hs, b.2.2.2.2.2.2.2 hs]
    · have := Option.some.inj ((a.2.2.2.2.2.2.1 hs).symm.trans (b.2.2.2.2.2.2.1 hs))
      omega
  exact Rat.ext n1 n2
theorem rg_part {x : Rat × Rat} (h : Sh x.1) : Txt.partition (rgT x) ":" = (shT x.1, Str.ofString ":", shT x.2) := TL.partition_app tl_colon (sh_free h (.inl rfl))
theorem rgT_inj {x y : Rat × Rat} (h1 : Sh x.1) (h2 : Sh x.2) (h3 : Sh y.1) (h4 : Sh y.2) (e : rgT x = rgT y) : x = y := by
  have a := rg_part (x := x) h1
  rw [e, rg_part h3] at a
  obtain ⟨a1, a2⟩ := Prod.mk.inj a
  obtain ⟨_, a3⟩ := Prod.mk.inj a2
  exact Prod.ext (shT_inj h1 h3 a1.symm) (shT_inj h2 h4 a3.symm)
theorem rg_free {x : Rat × Rat} (h1 : Sh x.1) (h2 : Sh x.2) : 32 ∉ tl (rgT x) := by
  unfold rgT
  rw [TL.tl_append, TL.tl_append, tl_colon]
  intro hm
  rcases List.mem_append.mp hm with hm | hm
  · rcases List.mem_append.mp hm with hm | hm
    · exact sh_free h1 (.inr rfl) hm
    · exact absurd (List.mem_singleton.mp hm) (by decide)
  · exact sh_free h2 (.inr rfl) hm
theorem lad_split {L : Lad} (h : Lok L) : Txt.split (ladT L) " " = L.map rgT := by
  have := TL.split_join (y := Str.ofString " ") tl_space (by decide +kernel) (parts := L.map rgT) (by
    intro z
    have := List.map_eq_nil_iff.mp z
    have := h.ge
    simp_all) (fun p hp => by
      obtain ⟨x, hx, rfl⟩ := List.mem_map.mp hp
      obtain ⟨h1, h2, _⟩ := h.sh x hx
      exact rg_free h1 h2)
  rw [TL.join_eq] at this
  exact this
/-- a text cut at a sign -/
theorem part_cases {y : Str} {s : Nat} (ey : tl y = [s]) (x : Str) : (s ∉ tl x ∧ Txt.partition x y = (x, Str.empty, Str.empty)) ∨ ∃ a b, s ∉ tl a ∧ x = a ++ y ++ b ∧ Txt.partition x y = (a, y, b) := by
  by_cases h : s ∈ tl x
  · right
    obtain ⟨l1, l2, e, hn⟩ := List.eq_append_cons_of_mem h
    have ex : x = (⟨l1.toArray⟩ : Str) ++ y ++ ⟨l2.toArray⟩ := TL.ext_tl (by
      rw [TL.tl_append, TL.tl_append, ey]
      show tl x = (l1 ++ [s]) ++ l2
      rw [e, List.append_assoc]; rfl)
    refine ⟨⟨l1.toArray⟩, ⟨l2.toArray⟩, by rw [TL.tl_mk]; exact hn, ex, ?_⟩
    have := TL.partition_app (y := y) (s := s) (S := []) ey (a := ⟨l1.toArray⟩) (b := ⟨l2.toArray⟩) (by rw [TL.tl_mk]; exact hn)
    rw [← ex] at this
    exact this
  · exact .inl ⟨h, TL.partition_none ey h⟩
theorem strOk_tl (x : Str) : PyData.strOk x = true ↔ ∀ c ∈ tl x, c < 0x110000 := by
  show x.cps.all (· < 0x110000) = true ↔ _
  rw [← Array.all_toList, List.all_eq_true]
  exact ⟨fun h c hc => of_decide_eq_true (h c hc), fun h c hc => decide_eq_true (h c hc)⟩
theorem part_ok {y : Str} {s : Nat} (ey : tl y = [s]) (hs : s < 0x110000) {x : Str} (h : PyData.strOk x = true) : PyData.strOk (Txt.partition x y).1 = true ∧ PyData.strOk (Txt.partition x y).2.1 = true ∧ PyData.strOk (Txt.partition x y).2.2 = true ∧ (Txt.partition x y).1.length + (Txt.partition x y).2.2.length ≤ x.length := by
  rcases part_cases ey x with ⟨_, e⟩ | ⟨a, b, _, ex, e⟩
  · rw [e]; exact ⟨h, strOk_empty, strOk_empty, Nat.le_refl _⟩
  · rw [e]
    rw [ex, strOk_tl] at h
    have hm : ∀ c ∈ tl a ++ ([s] ++ tl b), c < 0x110000 := fun c hc => h c (by rw [TL.tl_append, TL.tl_append, ey, List.append_assoc]; exact hc)
    refine ⟨(strOk_tl _).mpr fun c hc => hm c (List.mem_append_left _ hc), (strOk_tl _).mpr fun c hc => ?_, (strOk_tl _).mpr fun c hc => hm c (List.mem_append_right _ (List.mem_append_right _ hc)), ?_⟩
    · rw [ey, List.mem_singleton] at hc; rw [hc]; exact hs
    · show a.length + b.length ≤ x.length
      rw [ex, str_app_len, str_app_len]; omega
theorem joinL_spl {s : Nat} : ∀ (l acc : List Nat), TL.joinL [s] (TL.spl [s] 0 acc l) = acc ++ l
  | [], acc => by rw [TL.spl_nil]; show acc = acc ++ []; rw [List.append_nil]
  | c :: r, acc => by
    by_cases h : c = s
    · subst h
      rw [TL.spl_hit (by unfold TL.pre; simp)]
      have ih := joinL_spl (s := c) r []
      show TL.joinL [c] (acc :: TL.spl [c] 0 [] r) = _
      cases e : TL.spl [c] 0 [] r with
      | nil => rw [e] at ih; cases r with
        | nil => rw [TL.spl_nil] at e; cases e
        | cons a b => exact absurd ih (by simp [TL.joinL])
      | cons p q =>
        rw [e] at ih
        show acc ++ ([c] ++ TL.joinL [c] (p :: q)) = _
        rw [ih]; rfl
    · rw [TL.spl_miss (TL.pre_of_head [] r h), joinL_spl r (acc ++ [c]), List.append_assoc]; rfl
theorem join_split (x : Str) : Str.join " " (Txt.split x " ") = x := by
  refine TL.ext_tl ?_
  rw [TL.tl_join, tl_space, TL.split_spl x _ (by rw [tl_space]; simp) (TL.kind_ok (by decide +kernel)), tl_space, joinL_spl]
  rfl
theorem mem_join {s : Nat} : ∀ {ps : List (List Nat)} {p : List Nat} {c : Nat}, p ∈ ps → c ∈ p → c ∈ TL.joinL [s] ps
  | [], _, _, h, _ => by cases h
  | [q], p, c, h, hc => by rw [List.mem_singleton.mp h] at hc; exact hc
  | q :: r :: t, p, c, h, hc => by
    show c ∈ q ++ ([s] ++ TL.joinL [s] (r :: t))
    rcases List.mem_cons.mp h with e | h
    · subst e; exact List.mem_append_left _ hc
    · exact List.mem_append_right _ (List.mem_append_right _ (mem_join h hc))
theorem len_join {s : Nat} : ∀ {ps : List (List Nat)} {p : List Nat}, p ∈ ps → p.length ≤ (TL.joinL [s] ps).length
  | [], _, h => by cases h
  | [q], p, h => by rw [List.mem_singleton.mp h]; exact Nat.le_refl _
  | q :: r :: t, p, h => by
    show p.length ≤ (q ++ ([s] ++ TL.joinL [s] (r :: t))).length
    rw [List.length_append, List.length_append]
    rcases List.mem_cons.mp h with e | h
    · subst e; omega
    · have := len_join (s := s) h; omega
theorem words_len {s : Nat} : ∀ {ps : List (List Nat)}, ps.length ≤ (TL.joinL [s] ps).length + 1
  | [] => by simp
  | [q] => by simp
  | q :: r :: t => by
    have := words_len (s := s) (ps := r :: t)
    show (r :: t).length + 1 ≤ (q ++ ([s] ++ TL.joinL [s] (r :: t))).length + 1
    rw [List.length_append, List.length_append]
    simp only [List.length_cons] at *
    simp
    omega
theorem word_ok {x w : Str} (h : PyData.strOk x = true) (hw : w ∈ Txt.split x " ") : PyData.strOk w = true ∧ w.length ≤ x.length := by
  have e : tl x = TL.joinL [32] ((Txt.split x " ").map tl) := by rw [← tl_space, ← TL.tl_join, join_split]
  have hm : tl w ∈ (Txt.split x " ").map tl := List.mem_map_of_mem hw
  refine ⟨(strOk_tl _).mpr fun c hc => (strOk_tl x).mp h c (by rw [e]; exact mem_join hm hc), ?_⟩
  rw [TL.len_tl, TL.len_tl, e]; exact len_join hm
theorem words_le (x : Str) : (Txt.split x " ").length ≤ x.length + 1 := by
  have e : tl x = TL.joinL [32] ((Txt.split x " ").map tl) := by rw [← tl_space, ← TL.tl_join, join_split]
  have := words_len (s := 32) (ps := (Txt.split x " ").map tl)
  rw [← e, List.length_map, ← TL.len_tl] at this
  exact this
end LW

namespace LW
open PySem PySem.Spec PyProof.Rows L2
open _root_.TL (tl numL)
theorem isInt_iff {d : PyData} {lo hi : Int} : isIntIn d lo hi = true ↔ ∃ i, d = .int i ∧ lo ≤ i ∧ i ≤ hi := by
  cases d with
  | int i =>
    show (decide (lo ≤ i) && decide (i ≤ hi)) = true ↔ _
    rw [Bool.and_eq_true, decide_eq_true_eq, decide_eq_true_eq]
    exact ⟨fun h => ⟨i, rfl, h⟩, fun ⟨j, e, h⟩ => by cases e; exact h⟩
  | _ => exact ⟨fun h => (nomatch h), fun ⟨j, e, _⟩ => by cases e⟩
theorem share_of_enc {d : PyData} (h : isShareD d = true) : ∃ u, Sh u ∧ d = enc u := by
  match d, h with
  | .tuple [a, b], h =>
    unfold isShareD at h
    obtain ⟨h1, h2⟩ := Bool.and_eq_true_iff.mp h
    obtain ⟨y, rfl, hy1, hy2⟩ := isInt_iff.mp h1
    obtain ⟨h3, h4⟩ := Bool.and_eq_true_iff.mp h2
    obtain ⟨x, rfl, hx1, hx2⟩ := isInt_iff.mp h3
    have hg : Nat.gcd x.toNat y.toNat = 1 := by simpa using h4
    have hu : ∃ u : Rat, u.num = x ∧ (u.den : Int) = y := ⟨⟨x, y.toNat, by omega, by show Nat.gcd x.natAbs y.toNat = 1; rw [show x.natAbs = x.toNat by omega]; exact hg⟩, rfl, by show ((y.toNat : Nat) : Int) = y; omega⟩
    obtain ⟨u, e1, e2⟩ := hu
    refine ⟨u, ⟨?_, ?_, by omega⟩, ?_⟩
    · have h0 : 0 ≤ u := (num_nonneg u).mp (by omega)
      have hne : u ≠ 0 := fun z => by rw [z] at e1; have : (0 : Rat).num = 0 := rfl; omega
      grind
    · exact (num_le_den u).mp (by omega)
    · unfold enc; rw [e1, e2]
theorem sh_of_enc {u : Rat} (h : isShareD (enc u) = true) : Sh u := by
  obtain ⟨v, hv, e⟩ := share_of_enc h
  unfold enc at e
  injection e with e
  injection e with e1 e2
  injection e1 with e1
  injection e2 with e2 _
  injection e2 with e2
  have : u = v := Rat.ext e1 (by omega)
  rw [this]; exact hv
theorem lad_of_enc {L : Lad} (h : isLadderD (encL L) = true) : Lok L := by
  have h : (decide (1 ≤ (L.map encR).length) && decide ((L.map encR).length ≤ 8) && (L.map encR).all rungD) = true := h
  rw [List.length_map, Bool.and_eq_true, Bool.and_eq_true, decide_eq_true_eq, decide_eq_true_eq, List.all_eq_true] at h
  obtain ⟨⟨h1, h2⟩, h3⟩ := h
  refine ⟨h1, h2, fun x hx => ?_⟩
  have h4 := h3 _ (List.mem_map_of_mem hx)
  have h4 : (isShareD (enc x.1) && isShareD (enc x.2) && decide (x.1.num * (x.2.den : Int) + x.2.num * (x.1.den : Int) ≤ (x.1.den : Int) * (x.2.den : Int))) = true := h4
  rw [Bool.and_eq_true, Bool.and_eq_true, decide_eq_true_eq] at h4
  obtain ⟨⟨a, b⟩, c⟩ := h4
  refine ⟨sh_of_enc a, sh_of_enc b, ?_⟩
  rw [← add_frac, Rat.div_def]
  have hp : (0 : Int) < (x.1.den : Int) * (x.2.den : Int) := Int.mul_pos (den_pos _) (den_pos _)
  have hq : (0 : Rat) < (((x.1.den : Int) * (x.2.den : Int) : Int) : Rat) := Rat.intCast_pos.mpr hp
  have c := Rat.intCast_le_intCast.mpr c
  have h5 := Rat.mul_le_mul_of_nonneg_right c (Rat.le_of_lt (Rat.inv_pos.mpr hq))
  rw [Rat.mul_inv_cancel _ (Rat.ne_of_gt hq)] at h5
  exact h5
theorem lad_iff {L : Lad} : isLadderD (encL L) = true ↔ Lok L := ⟨lad_of_enc, ladder_enc⟩
def R_share_in (er : Er) (ds : List PyData) (P : PyData → Prop) (Z : Addr → Prop) : Prop := ∃ x : Str, ds = [.str x] ∧ x.length ≤ 2000 ∧ PyData.strOk x = true ∧ (∀ u, Sh u → shT u = x → P (enc u)) ∧ ((∀ u, Sh u → shT u ≠ x) → Z er.bt)
theorem S_share_in {er : Er} {x : Str} {P : PyData → Prop} {Z : Addr → Prop} (hl : x.length ≤ 2000) (hs : PyData.strOk x = true) (p : ∀ u, Sh u → shT u = x → P (enc u)) (z : (∀ u, Sh u → shT u ≠ x) → Z er.bt) : R_share_in er [.str x] P Z := ⟨x, rfl, hl, hs, p, z⟩
def R_parse (er : Er) (ds : List PyData) (P : PyData → Prop) (Z : Addr → Prop) : Prop := ∃ d : PyData, ds = [d] ∧ (∀ x, d = .str x → x.length ≤ 2000 ∧ PyData.strOk x = true) ∧ (∀ L, Lok L → d = .str (ladT L) → P (encL L)) ∧ ((∀ L, Lok L → d ≠ .str (ladT L)) → Z er.bt)
theorem S_parse {er : Er} {d : PyData} {P : PyData → Prop} {Z : Addr → Prop} (hd : ∀ x, d = .str x → x.length ≤ 2000 ∧ PyData.strOk x = true) (p : ∀ L, Lok L → d = .str (ladT L) → P (encL L)) (z : (∀ L, Lok L → d ≠ .str (ladT L)) → Z er.bt) : R_parse er [d] P Z := ⟨d, rfl, hd, p, z⟩
def R_parsed (ds : List PyData) (P : PyData → Prop) : Prop := ∃ d : PyData, ds = [d] ∧ (∀ x, d = .str x → x.length ≤ 2000 ∧ PyData.strOk x = true) ∧ (∀ L, Lok L → d = .str (ladT L) → P (encL L)) ∧ ((∀ L, Lok L → d ≠ .str (ladT L)) → P (.str "text"))
theorem S_parsed {d : PyData} {P : PyData → Prop} (hd : ∀ x, d = .str x → x.length ≤ 2000 ∧ PyData.strOk x = true) (p : ∀ L, Lok L → d = .str (ladT L) → P (encL L)) (z : (∀ L, Lok L → d ≠ .str (ladT L)) → P (.str "text")) : R_parsed [d] P := ⟨d, rfl, hd, p, z⟩
theorem ladT_inj {L M : Lad} (h : Lok L) (hM : ∀ x ∈ M, Sh x.1 ∧ Sh x.2) (e : L.map rgT = M.map rgT) : L = M := by
  have hl : L.length = M.length := by have := congrArg List.length e; rwa [List.length_map, List.length_map] at this
  apply List.ext_getElem hl
  intro i h1 h2
  have e1 := congrArg (fun l => l[i]?) e
  simp only [List.getElem?_map, List.getElem?_eq_getElem h1, List.getElem?_eq_getElem h2, Option.map_some] at e1
  obtain ⟨a, b, _⟩ := h.sh _ (List.getElem_mem h1)
  obtain ⟨c, d⟩ := hM _ (List.getElem_mem h2)
  exact rgT_inj a b c d (Option.some.inj e1)
theorem dig_mem (c : Nat) : c ∈ tl (Str.ofString "0123456789") ↔ 48 ≤ c ∧ c ≤ 57 := by
  rw [show tl (Str.ofString "0123456789") = [48, 49, 50, 51, 52, 53, 54, 55, 56, 57] by decide +kernel]
  simp only [List.mem_cons, List.not_mem_nil, or_false]
  omega
def Digs (l : List Nat) : Prop := ∀ c ∈ l, 48 ≤ c ∧ c ≤ 57
theorem all_dig {l : List Nat} : ((l.map fun c => decide (c ∈ tl (Str.ofString "0123456789"))).all id) = true ↔ Digs l := by
  rw [List.all_map, List.all_eq_true]
  exact ⟨fun h c hc => (dig_mem c).mp (of_decide_eq_true (h c hc)), fun h c hc => decide_eq_true ((dig_mem c).mpr (h c hc))⟩
theorem read_dig {x : Str} (h : Digs (tl x)) (h1 : 1 ≤ x.length) (h2 : x.length ≤ 4) : ∃ n : Nat, PySem.intText? x = some (n : Int) := by
  refine ⟨_, PySem.intText_digits h (fun z => ?_) (by omega)⟩
  rw [TL.len_tl] at h1
  rw [show tl x = [] from z] at h1
  simp at h1
theorem map_bool {α : Type} (f : α → Bool) (l : List α) : (l.map fun c => PyData.bool (f c)) = (l.map f).map PyData.bool := by rw [List.map_map]; rfl
theorem len_pos {x : Str} (h : x ≠ Str.empty) : 1 ≤ x.length := by
  rw [TL.len_tl]
  cases e : tl x with
  | nil => exact absurd (TL.ext_tl (by rw [e]; rfl)) h
  | cons a b => simp
end LW

namespace LW
open PySem PySem.Spec PyProof.Rows L2
open _root_.TL (tl numL)
/-! ### texts of no ladder (k10) -/
def chkS (l : List Nat) : Option (Nat × Nat) := match TL.par [47] [] l with
  | none => if l = [49] then some (1, 1) else none
  | some (h, t) => if numL (NumText.digitsVal h) = h ∧ numL (NumText.digitsVal t) = t ∧ NumText.digitsVal h < NumText.digitsVal t ∧ 1 ≤ NumText.digitsVal h ∧ NumText.digitsVal t ≤ 1000 ∧ Nat.gcd (NumText.digitsVal h) (NumText.digitsVal t) = 1 then some (NumText.digitsVal h, NumText.digitsVal t) else none
def chkR (w : List Nat) : Bool := match TL.par [58] [] w with
  | none => false
  | some (a, b) => match chkS a, chkS b with
    | some (p, q), some (r, s) => decide (p * s + r * q ≤ q * s)
    | _, _ => false
def chk (l : List Nat) : Bool := decide ((TL.spl [32] 0 [] l).length ≤ 8) && (TL.spl [32] 0 [] l).all chkR
theorem chkS_ok {u : Rat} (h : Sh u) : chkS (tl (shT u)) = some (u.num.toNat, u.den) := by
  obtain ⟨h1, h2⟩ := h.num_le
  have h3 := h.den
  have hr := u.reduced
  by_cases hd : u.den = 1
  · have e1 : u.num.toNat = 1 := by omega
    rw [sh_tl1 h hd, e1, hd]
    decide +kernel
  · have hlt : u.num.toNat < u.den := by
      have : u.num.natAbs ≠ u.den := fun z => by
        rw [z] at hr
        have hr : Nat.gcd u.den u.den = 1 := hr
        rw [Nat.gcd_self] at hr; exact hd hr
      omega
    rw [sh_tl2 h hd, TL.tl_append, TL.tl_append, tl_slash, tl_int (by omega), tl_int (by omega), Int.toNat_natCast, List.append_assoc]
    unfold chkS
    rw [show numL u.num.toNat ++ ([47] ++ numL u.den) = numL u.num.toNat ++ ([47] ++ numL u.den) from rfl, TL.par_part1 (s := 47) (S := []) (TL.numL_free (by omega)), List.nil_append]
    show (if _ then _ else _) = _
    rw [TL.numL_val, TL.numL_val, if_pos]
    refine ⟨rfl, rfl, hlt, by omega, by omega, ?_⟩
    rw [show u.num.toNat = u.num.natAbs by omega]; exact hr
theorem chkR_ok {x : Rat × Rat} (h1 : Sh x.1) (h2 : Sh x.2) (h3 : x.1 + x.2 ≤ 1) : chkR (tl (rgT x)) = true := by
  unfold chkR rgT
  rw [TL.tl_append, TL.tl_append, tl_colon, List.append_assoc, TL.par_part1 (s := 58) (S := []) (sh_free h1 (.inl rfl)), List.nil_append]
  show (match chkS (tl (shT x.1)), chkS (tl (shT x.2)) with
    | some (p, q), some (r, s) => decide (p * s + r * q ≤ q * s)
    | _, _ => false) = true
  rw [chkS_ok h1, chkS_ok h2]
  refine decide_eq_true ?_
  obtain ⟨a1, a2⟩ := h1.num_le
  obtain ⟨b1, b2⟩ := h2.num_le
  have hl : isLadderD (encL [x]) = true := ladder_enc ⟨Nat.le_refl 1, Nat.le_of_ble_eq_true rfl, fun y hy => by rw [List.mem_singleton.mp hy]; exact ⟨h1, h2, h3⟩⟩
  have hl : (decide (1 ≤ 1) && decide (1 ≤ 8) && ((isShareD (enc x.1) && isShareD (enc x.2) && decide (x.1.num * (x.2.den : Int) + x.2.num * (x.1.den : Int) ≤ (x.1.den : Int) * (x.2.den : Int))) && true)) = true := hl
  rw [share_enc h1, share_enc h2] at hl
  have hl : x.1.num * (x.2.den : Int) + x.2.num * (x.1.den : Int) ≤ (x.1.den : Int) * (x.2.den : Int) := by simpa using hl
  have e1 : ((x.1.num.toNat : Nat) : Int) = x.1.num := by omega
  have e2 : ((x.2.num.toNat : Nat) : Int) = x.2.num := by omega
  apply Int.ofNat_le.mp
  rw [Int.natCast_add, Int.natCast_mul, Int.natCast_mul, Int.natCast_mul, e1, e2]
  exact hl
theorem chk_ok {L : Lad} (h : Lok L) : chk (tl (ladT L)) = true := by
  unfold chk ladT
  have hw : TL.spl [32] 0 [] (tl (Str.join " " (L.map rgT))) = (L.map rgT).map tl := by
    rw [TL.tl_join, tl_space]
    refine TL.spl_join (fun z => ?_) (fun p hp => ?_)
    · have := h.ge
      have := congrArg List.length z
      rw [List.length_map, List.length_map] at this
      have e : ([] : List (List Nat)).length = 0 := rfl
      omega
    · obtain ⟨y, hy, rfl⟩ := List.mem_map.mp hp
      obtain ⟨x, hx, rfl⟩ := List.mem_map.mp hy
      obtain ⟨h1, h2, _⟩ := h.sh x hx
      exact rg_free h1 h2
  rw [hw, List.length_map, List.length_map, decide_eq_true h.le, Bool.true_and, List.all_eq_true]
  intro p hp
  obtain ⟨y, hy, rfl⟩ := List.mem_map.mp hp
  obtain ⟨x, hx, rfl⟩ := List.mem_map.mp hy
  obtain ⟨h1, h2, h3⟩ := h.sh x hx
  exact chkR_ok h1 h2 h3
def oddD : PyData → Bool
  | .str x => decide (x.length ≤ 2000) && PyData.strOk x && !chk (tl x)
  | _ => true
theorem odd_ok {d : PyData} (h : oddD d = true) : (∀ x, d = .str x → x.length ≤ 2000 ∧ PyData.strOk x = true) ∧ ∀ L, Lok L → d ≠ .str (ladT L) := by
  cases d with
  | str x =>
    have h : (decide (x.length ≤ 2000) && PyData.strOk x && !chk (tl x)) = true := h
    rw [Bool.and_eq_true, Bool.and_eq_true, decide_eq_true_eq] at h
    obtain ⟨⟨h1, h2⟩, h3⟩ := h
    refine ⟨fun y e => by injection e with e; rw [← e]; exact ⟨h1, h2⟩, fun L hL e => ?_⟩
    injection e with e
    rw [e, chk_ok hL] at h3
    exact absurd h3 (by decide)
  | _ => exact ⟨(fun y e => nomatch e), (fun L hL e => nomatch e)⟩
section
variable {E : EK} {Xc : XP} {ρ : List Slot} {P : PyData → Prop} {te : TE} {g : TG} {vs : List Nat}
/-- the same answer for each item -/
theorem lcI_same {items : List PyData} (c : PyData) (hl : items.length ≤ 100000) (hs : ∀ d, d ∈ items → DG g (· ∈ vs) d (wipeS ρ vs) fun ρ' => EvP E Xc te ρ' fun d' => d' = c) (hd : P (.list (List.replicate items.length c))) : LcI E Xc g tYes te vs P ρ items := by
  have h := lcI_map (E := E) (Xc := Xc) (ρ := ρ) (P := P) (te := te) (g := g) (vs := vs) (xs := items) (e := fun d => d) (fun _ => c) hl (fun i x hi => hs x (List.mem_of_getElem? hi)) (by rw [List.map_const']; exact hd)
  rw [List.map_id'] at h
  exact h
end
def R_law_none (ds : List PyData) (P : PyData → Prop) : Prop := ∃ _ : Unit, ds = [] ∧ P (.bool true)
theorem S_law_none {P : PyData → Prop} (p : P (.bool true)) : R_law_none [] P := ⟨(), rfl, p⟩
theorem cut_ok {z : Str} (h : PyData.strOk z = true) (lo hi : Option Int) : PyData.strOk (cutS z lo hi) = true ∧ (cutS z lo hi).length ≤ z.length := by
  have e : tl (cutS z lo hi) = ((tl z).drop (HT.sIx z.length 0 lo)).take (HT.sIx z.length z.length hi - HT.sIx z.length 0 lo) := rfl
  constructor
  · rw [strOk_tl, e]
    exact fun c hc => (strOk_tl z).mp h c (List.drop_subset _ _ (List.take_subset _ _ hc))
  · rw [TL.len_tl, TL.len_tl, e, List.length_take, List.length_drop]; omega
def markB : PyData → Bool
  | .str m => decide (m.length ≤ 1) && PyData.strOk m
  | _ => false
theorem mark_ok {d : PyData} (h : markB d = true) : ∃ m, d = .str m ∧ m.length ≤ 1 ∧ PyData.strOk m = true := by
  cases d with
  | str m =>
    have h : (decide (m.length ≤ 1) && PyData.strOk m) = true := h
    rw [Bool.and_eq_true, decide_eq_true_eq] at h
    exact ⟨m, rfl, h.1, h.2⟩
  | _ => exact absurd h Bool.false_ne_true
theorem str_iff (a b : Str) : PyData.eqv (.str a) (.str b) = true ↔ a = b := by rw [eqv_str, decide_eq_true_eq]
theorem shaped_strs {ys : List Str} (h : ∀ y ∈ ys, PyData.strOk y = true) : SeqAt.shaped (.list (ys.map PyData.str)) = true := (Shp.list (n := 64 - 1) fun d hd => by
  obtain ⟨y, hy, rfl⟩ := List.mem_map.mp hd
  have := shaped_str (h y hy)
  unfold SeqAt.shaped at this
  rw [Bool.and_eq_true, decide_eq_true_eq] at this
  exact ⟨this.1, by rw [PyData.depth]; decide⟩).shaped (by decide)
theorem rp_eqStrs {K : PySem.W.Frag} {P : PyData → Prop} {ys zs : List Str} (h : ∀ y ∈ ys, PyData.strOk y = true) (h' : ∀ y ∈ zs, PyData.strOk y = true) (p : P (.bool (decide (ys = zs)))) : RP (rEqD K) (.list (ys.map PyData.str)) (.list (zs.map PyData.str)) P := rp_eq (shaped_strs h) (shaped_strs h') (by rw [eqv_list str_iff]; exact p)
theorem rp_neStrs {K : PySem.W.Frag} {P : PyData → Prop} {ys zs : List Str} (h : ∀ y ∈ ys, PyData.strOk y = true) (h' : ∀ y ∈ zs, PyData.strOk y = true) (p : P (.bool (!decide (ys = zs)))) : RP (rNeD K) (.list (ys.map PyData.str)) (.list (zs.map PyData.str)) P := rp_ne (shaped_strs h) (shaped_strs h') (by rw [eqv_list str_iff]; exact p)
theorem reps_map (n : Nat) (s : Str) : List.replicate n (PyData.str s) = (List.replicate n s).map PyData.str := by rw [List.map_replicate]
theorem reps_ok {s : Str} (h : PyData.strOk s = true) (n : Nat) : ∀ y ∈ List.replicate n s, PyData.strOk y = true := fun y hy => by rw [List.eq_of_mem_replicate hy]; exact h
def oneT : Lad := [(1/1000, 999/1000)]
theorem oneT_txt : ladT oneT = "1/1000:999/1000" := by decide +kernel
theorem oneT_ok : Lok oneT := lad_of_enc (by decide +kernel)
theorem oneT_enc : encL oneT = .list [.tuple [.tuple [.int 1, .int 1000], .tuple [.int 999, .int 1000]]] := by
  show PyData.list [.tuple [enc (1/1000), enc (999/1000)]] = _
  rw [show enc (1/1000) = .tuple [.int 1, .int 1000] from (encq (by decide +kernel) (by decide +kernel)).symm, show enc (999/1000) = .tuple [.int 999, .int 1000] from (encq (by decide +kernel) (by decide +kernel)).symm]
end LW

namespace LW
open PySem PySem.Spec PyProof.Rows L2
/-! ### own lists that are handed to calls; new lists (k11) -/
mutual
def noL : PyData → Bool
  | .list _ => false
  | .dict _ => false
  | .tuple ds => noLs ds
  | .none => true
  | .bool _ => true
  | .int _ => true
  | .str _ => true
def noLs : List PyData → Bool
  | [] => true
  | d :: ds => noL d && noLs ds
end
def flat1 : PyData → Bool
  | .list ds => noLs ds
  | d => noL d
mutual
theorem Dn.impN {O O' : Addr → Prop} {H H' : Hp} (h : ∀ a o, ¬ O a → H a = some (.tup o) → ¬ O' a ∧ H' a = some (.tup o)) : ∀ (d : PyData) (v : V), noL d = true → Dn O H v d → Dn O' H' v d
  | .none, _, _, x => by cases x; exact .non
  | .bool b, _, _, x => by cases x; exact .bl b
  | .int i, _, _, x => by cases x; exact .int i
  | .str s, _, _, x => by cases x; exact .str s
  | .list ds, _, z, _ => by unfold noL at z; cases z
  | .tuple ds, _, z, x => by
    unfold noL at z
    cases x with
    | tup n e r => exact .tup (h _ _ n e).1 (h _ _ n e).2 (DnAll.impN h ds _ z r)
  | .dict _, _, _, x => by cases x
theorem DnAll.impN {O O' : Addr → Prop} {H H' : Hp} (h : ∀ a o, ¬ O a → H a = some (.tup o) → ¬ O' a ∧ H' a = some (.tup o)) : ∀ (ds : List PyData) (vs : List V), noLs ds = true → DnAll O H vs ds → DnAll O' H' vs ds
  | [], _, _, x => by cases x; exact .nil
  | d :: ds, _, z, x => by
    unfold noLs at z
    obtain ⟨z1, z2⟩ := Bool.and_eq_true_iff.mp z
    cases x with
    | cons a r => exact .cons (Dn.impN h d _ z1 a) (DnAll.impN h ds _ z2 r)
end
mutual
theorem Dn.uniq {O O' : Addr → Prop} {H : Hp} : ∀ (d : PyData) (v : V) (d' : PyData), Dn O H v d → Dn O' H v d' → d = d'
  | .none, _, _, x, y => by cases x; cases y; rfl
  | .bool b, _, _, x, y => by cases x; cases y; rfl
  | .int i, _, _, x, y => by cases x; cases y; rfl
  | .str s, _, _, x, y => by cases x; cases y; rfl
  | .list ds, _, _, x, y => by
    cases x with
    | lst n e r =>
      cases y with
      | lst n2 e2 r2 =>
        rw [e] at e2; cases e2
        rw [DnAll.uniq ds _ _ r r2]
      | tup n2 e2 r2 => rw [e] at e2; cases e2
  | .tuple ds, _, _, x, y => by
    cases x with
    | tup n e r =>
      cases y with
      | tup n2 e2 r2 =>
        rw [e] at e2; cases e2
        rw [DnAll.uniq ds _ _ r r2]
      | lst n2 e2 r2 => rw [e] at e2; cases e2
  | .dict _, _, _, x, _ => by cases x
theorem DnAll.uniq {O O' : Addr → Prop} {H : Hp} : ∀ (ds : List PyData) (vs : List V) (ds' : List PyData), DnAll O H vs ds → DnAll O' H vs ds' → ds = ds'
  | [], _, _, x, y => by cases x; cases y; rfl
  | d :: ds, _, _, x, y => by
    cases x with
    | cons a r =>
      cases y with
      | cons a2 r2 => rw [Dn.uniq d _ _ a a2, DnAll.uniq ds _ _ r r2]
end
def ownA (ρ : List Slot) (a : Addr) : Prop := ∃ (i : Nat) (ds : List PyData), ρ[i]? = some (.own a ds)
def offO (O : Addr → Prop) (ρ : List Slot) : Addr → Prop := fun a => O a ∧ ¬ ownA ρ a
theorem own_lst {C : Ctx} {O : Addr → Prop} {ρ : List Slot} {σ : L2.St} {H : Hp} (x : Rel C O ρ σ H) {a : Addr} (h : ownA ρ a) : ∃ vs, H a = some (.lst vs) := by
  obtain ⟨i, ds, e⟩ := h
  obtain ⟨_, _, _, vs, e3, _⟩ := x.slot i _ e
  exact ⟨vs, e3⟩
section
variable (E : EK) (Xc : XP)
/-- a value that may be an own list, nothing but new things made -/
def EvG (te : TE) (ρ : List Slot) (P : PyData → Prop) : Prop := ∀ C O σ H, Rel C O ρ σ H → ∀ Q : VK, (∀ v d H', Same H H' → Dn (offO O ρ) H' v d → P d → Q v H') → te σ H Q
def EvGA (ta : TA) (ρ : List Slot) (P : List PyData → Prop) : Prop := ∀ C O σ H, Rel C O ρ σ H → ∀ Q : List V → Hp → Prop, (∀ vs ds H', Same H H' → DnAll (offO O ρ) H' vs ds → P ds → Q vs H') → ta σ H Q
end
section
variable {E : EK} {Xc : XP} {K : PySem.W.Frag} {ρ : List Slot} {P : PyData → Prop} {N : List Slot → Prop} {R : RK} {ta : TA} {te tb : TE} {E' : XK}
theorem eg_own {i : Nat} {p : Addr} {ds : List PyData} (h : ρ[i]? = some (.own p ds)) (z : P (.list ds)) : EvG (tVar i) ρ P := fun C O σ H x Q q => by
  obtain ⟨y, e, e2, vs, e3, e4⟩ := x.slot i _ h
  subst e2
  exact ⟨_, e, q _ _ H (Same.refl H) (.lst (fun w => w.2 ⟨i, ds, h⟩) e3 (e4.sub fun a w => w.1)) z⟩
theorem eg_var {i : Nat} {d : PyData} (h : ρ[i]? = some (.dat d)) (z : P d) : EvG (tVar i) ρ P := fun C O σ H x Q q => by
  obtain ⟨y, e, v, e2, y2⟩ := x.slot i _ h
  subst e2
  exact ⟨_, e, q _ _ H (Same.refl H) (y2.sub fun a w => w.1) z⟩
theorem eg_int {i : Int} (z : P (.int i)) : EvG (tC (.int i)) ρ P := fun C O σ H x Q q => q _ _ H (Same.refl H) (.int i) z
theorem eg_nil {P : List PyData → Prop} (p : P []) : EvGA tNil ρ P := fun C O σ H x Q q => q [] [] H (Same.refl H) .nil p
theorem eg_cons {P : List PyData → Prop} {tr : TA} (h : EvG te ρ fun d => EvGA tr ρ fun ds => P (d :: ds)) : EvGA (tCons te tr) ρ P := fun C O σ H x Q q =>
  h C O σ H x _ fun v1 d1 H1 s1 y1 h1 => h1 C O σ H1 (x.grow s1) _ fun vs ds H2 s2 y2 p => q (v1 :: vs) (d1 :: ds) H2 (s1.trans s2) (.cons (y1.keep (.of s2)) y2) p
theorem eg_tup (h : EvGA ta ρ fun ds => ds.length ≤ 100000 ∧ P (.tuple ds)) : EvG (tTup ta) ρ P := fun C O σ H x Q q =>
  h C O σ H x _ fun vs ds H1 s1 y1 ⟨hl, p⟩ => ⟨by rw [y1.length]; exact Nat.le_trans hl (by decide), fun a n => q _ _ _ (s1.trans (same_upd n)) (.tup (fun w => (x.grow s1).notO n w.1) upd_same (y1.keep (.of (same_upd n)))) p⟩
/-! the hidden addresses for a call: all other lists too -/
def onlyO (O : Addr → Prop) (ρ : List Slot) (H : Hp) (vs : List V) : Addr → Prop := fun a => offO O ρ a ∨ ((∃ us, H a = some (.lst us)) ∧ V.ref a ∉ vs)
theorem only_dom {C : Ctx} {O : Addr → Prop} {σ : L2.St} {H : Hp} {vs : List V} (x : Rel C O ρ σ H) : ∀ p, onlyO O ρ H vs p → H p ≠ none := fun p h => by
  rcases h with h | ⟨⟨us, e⟩, _⟩
  · exact x.domN p h.1
  · rw [e]; exact fun z => nomatch z
theorem only_one {O : Addr → Prop} {H : Hp} {vs : List V} {v : V} {d : PyData} (hv : v ∈ vs) (hf : flat1 d = true) (y : Dn (offO O ρ) H v d) : Dn (onlyO O ρ H vs) H v d := by
  have ht : ∀ a o, ¬ offO O ρ a → H a = some (.tup o) → ¬ onlyO O ρ H vs a ∧ H a = some (.tup o) := fun a o n e => ⟨fun z => z.elim n (fun ⟨⟨us, e2⟩, _⟩ => by rw [e] at e2; exact nomatch e2), e⟩
  cases d with
  | list ds =>
    cases y with
    | lst n e r => exact .lst (fun z => z.elim n fun w => w.2 hv) e (DnAll.impN ht _ _ hf r)
  | none => exact Dn.impN ht _ _ hf y
  | bool b => exact Dn.impN ht _ _ hf y
  | int b => exact Dn.impN ht _ _ hf y
  | str b => exact Dn.impN ht _ _ hf y
  | tuple b => exact Dn.impN ht _ _ hf y
  | dict b => cases y
theorem only_all {O : Addr → Prop} {H : Hp} {ws : List V} : ∀ {ds : List PyData} {vs : List V}, (∀ v ∈ vs, v ∈ ws) → (∀ d ∈ ds, flat1 d = true) → DnAll (offO O ρ) H vs ds → DnAll (onlyO O ρ H ws) H vs ds
  | [], _, _, _, x => by cases x; exact .nil
  | d :: ds, _, hv, hf, x => by
    cases x with
    | cons a r => exact .cons (only_one (hv _ List.mem_cons_self) (hf d List.mem_cons_self) a) (only_all (fun v hv' => hv v (List.mem_cons_of_mem _ hv')) (fun d hd => hf d (List.mem_cons_of_mem _ hd)) r)
theorem DnAll.pick {O : Addr → Prop} {H : Hp} : ∀ {ds : List PyData} {vs : List V} {v : V}, DnAll O H vs ds → v ∈ vs → ∃ d ∈ ds, Dn O H v d
  | [], _, _, x, h => by cases x; cases h
  | d :: ds, _, v, x, h => by
    cases x with
    | cons a r =>
      rcases List.mem_cons.mp h with e | h
      · subst e; exact ⟨d, List.mem_cons_self, a⟩
      · obtain ⟨d', h1, h2⟩ := DnAll.pick r h
        exact ⟨d', List.mem_cons_of_mem _ h1, h2⟩
/-- what differs from all arguments is new -/
theorem only_new {C : Ctx} {O : Addr → Prop} {σ : L2.St} {H H' : Hp} {vs : List V} {ds es : List PyData} {v : V} (x : Rel C O ρ σ H) (y : DnAll (offO O ρ) H vs ds) (s : Same H H') (z : Dn (onlyO O ρ H vs) H' v (.list es)) (hn : ∀ d ∈ ds, d ≠ .list es) (hf : noLs es = true) :
    ∃ p us, v = .ref p ∧ H p = none ∧ H' p = some (.lst us) ∧ DnAll O (fun a => if a = p then none else H' a) us es := by
  cases z with
  | @lst p us _ n e r =>
    have hp : H p = none := by
      cases q : H p with
      | none => rfl
      | some o =>
        exfalso
        have e2 := s p o q
        rw [e] at e2; cases e2
        by_cases hm : V.ref p ∈ vs
        · obtain ⟨d', h1, h2⟩ := y.pick hm
          have h3 := h2.keep (.of s)
          exact hn d' h1 (Dn.uniq _ _ _ h3 (Dn.lst n e r))
        · exact n (.inr ⟨⟨us, q⟩, hm⟩)
    refine ⟨p, us, rfl, hp, e, DnAll.impN (fun a o n2 e2 => ⟨fun zO => ?_, ?_⟩) _ _ hf r⟩
    · refine n2 (.inl ⟨zO, fun hw => ?_⟩)
      obtain ⟨ws, ew⟩ := own_lst x hw
      have := s a _ ew
      rw [e2] at this; cases this
    · have : a ≠ p := fun w => by rw [w, e] at e2; cases e2
      rw [if_neg this]; exact e2
theorem Same.cut {H H' : Hp} {p : Addr} (s : Same H H') (n : H p = none) : Same H (fun a => if a = p then none else H' a) := fun a o e => by
  have : a ≠ p := ne_of_none e n
  show (if a = p then none else H' a) = some o
  rw [if_neg this]; exact s a o e
/-- a call that gives a new list -/
def NewR (Rf : List PyData → (PyData → Prop) → Prop) (P : List PyData → Prop) (ds : List PyData) : Prop := (∀ d ∈ ds, flat1 d = true) ∧ Rf ds fun d => ∃ es, d = .list es ∧ noLs es = true ∧ (∀ d' ∈ ds, d' ≠ .list es) ∧ P es
theorem en_call {Rf : List PyData → (PyData → Prop) → Prop} {P : List PyData → Prop} (h : EvGA ta ρ (NewR Rf P)) : EvN E Xc (tCall (PSp Rf) [] E' ta) ρ P := fun C O σ H x e Q q =>
  h C O σ H x _ fun vs ds H1 s1 y1 ⟨hf, h1⟩ => by
    have x1 := x.grow s1
    refine ⟨onlyO O ρ H1 vs, ds, _, only_dom x1, by rw [List.append_nil]; exact only_all (fun v hv => hv) hf y1, h1, fun v d H2 s z ⟨es, ed, hl, hn, p⟩ => ?_⟩
    subst ed
    obtain ⟨pp, us, rfl, n1, e1, r1⟩ := only_new x1 y1 s z hn hl
    have sc := Same.cut s n1
    refine q pp us es _ H2 (x1.grow sc) (.of (s1.trans sc)) (by show (if pp = pp then none else _) = none; rw [if_pos rfl]) (fun a o ea => ?_) e1 r1 p
    by_cases w : a = pp
    · rw [w] at ea
      have ea : (if pp = pp then none else H2 pp) = some o := ea
      rw [if_pos rfl] at ea; cases ea
    · have ea : (if a = pp then none else H2 a) = some o := ea
      rw [if_neg w] at ea; exact ea
def NewX (Rf : List PyData → (PyData → Prop) → (Addr → Prop) → Prop) (P : List PyData → Prop) (ds : List PyData) : Prop := (∀ d ∈ ds, flat1 d = true) ∧ Rf ds (fun d => ∃ es, d = .list es ∧ noLs es = true ∧ (∀ d' ∈ ds, d' ≠ .list es) ∧ P es) (fun _ => False)
theorem en_callX {Rf : List PyData → (PyData → Prop) → (Addr → Prop) → Prop} {P : List PyData → Prop} {E'' : EK} (h : EvGA ta ρ (NewX Rf P)) : EvN E Xc (tCallS (XSp Rf) E'' ta) ρ P := fun C O σ H x e Q q =>
  h C O σ H x _ fun vs ds H1 s1 y1 ⟨hf, h1⟩ => by
    have x1 := x.grow s1
    refine ⟨onlyO O ρ H1 vs, ds, _, _, only_dom x1, only_all (fun v hv => hv) hf y1, h1, fun v d H2 s z ⟨es, ed, hl, hn, p⟩ => ?_, fun c H2 s z => z.elim⟩
    subst ed
    obtain ⟨pp, us, rfl, n1, e1, r1⟩ := only_new x1 y1 s z hn hl
    have sc := Same.cut s n1
    refine q pp us es _ H2 (x1.grow sc) (.of (s1.trans sc)) (by show (if pp = pp then none else _) = none; rw [if_pos rfl]) (fun a o ea => ?_) e1 r1 p
    by_cases w : a = pp
    · rw [w] at ea
      have ea : (if pp = pp then none else H2 pp) = some o := ea
      rw [if_pos rfl] at ea; cases ea
    · have ea : (if a = pp then none else H2 a) = some o := ea
      rw [if_neg w] at ea; exact ea
/-- a call with own lists that gives no list -/
theorem noL_off {C : Ctx} {O : Addr → Prop} {σ : L2.St} {H H' : Hp} {v : V} {d : PyData} (x : Rel C O ρ σ H) (s : Same H H') (hl : noL d = true) (z : Dn (offO O ρ) H' v d) : Dn O H' v d :=
  Dn.impN (fun a o n e => ⟨fun zO => n ⟨zO, fun hw => by
    obtain ⟨ws, ew⟩ := own_lst x hw
    have := s a _ ew
    rw [e] at this; cases this⟩, e⟩) _ _ hl z
theorem ev_callG {Rf : List PyData → (PyData → Prop) → Prop} (h : EvGA ta ρ fun ds => Rf ds fun d => noL d = true ∧ P d) : EvP E Xc (tCall (PSp Rf) [] E' ta) ρ P := fun C O σ H x e Q q =>
  h C O σ H x _ fun vs ds H1 s1 y1 h1 => by
    have x1 := x.grow s1
    exact ⟨offO O ρ, ds, _, fun p hp => x1.domN p hp.1, by rw [List.append_nil]; exact y1, h1, fun v d H2 s z ⟨hl, p⟩ => q v d H2 (x1.grow s) (.of (s1.trans s)) (noL_off x1 s hl z) p⟩
theorem ev_opG {r : R2} (h : EvG te ρ fun a => EvG tb ρ fun b => RP r a b fun d => noL d = true ∧ P d) : EvP E Xc (tOp r te tb) ρ P := fun C O σ H x e Q q =>
  h C O σ H x _ fun v1 d1 H1 s1 y1 h1 => h1 C O σ H1 (x.grow s1) _ fun v2 d2 H2 s2 y2 h2 => by
    have x2 := (x.grow s1).grow s2
    exact h2 (offO O ρ) H2 v1 v2 (fun p hp => x2.domN p hp.1) (y1.keep (.of s2)) y2 Q fun v d H3 s z ⟨hl, p⟩ => q v d H3 (x2.grow s) (.of ((s1.trans s2).trans s)) (noL_off x2 s hl z) p
/-- list(own) -/
theorem en_listG {P : List PyData → Prop} (h : EvGA ta ρ fun es => ∃ ds, es = [.list ds] ∧ noLs ds = true ∧ P ds) : EvN E Xc (tCB (fun xs H Q => ∃ p ys, xs = [.ref p] ∧ (SqL K H p ys ∨ SqT K H p ys) ∧ ∀ l, H l = none → Q (.ref l) (upd H l (.lst ys))) ta) ρ P := fun C O σ H x e Q q =>
  h C O σ H x _ fun vs ds H1 s1 y1 ⟨es, ed, hl, p⟩ => by
    subst ed
    have x1 := x.grow s1
    cases y1 with
    | cons y yr =>
      cases yr
      cases y with
      | lst n e1 r =>
        refine ⟨_, _, rfl, .inl (SqL.of e1), fun l nl => q l _ es H1 _ x1 (.of s1) nl (same_upd nl) upd_same ?_ p⟩
        exact DnAll.impN (fun a o n e => ⟨fun zO => n ⟨zO, fun hw => by
          obtain ⟨ws, ew⟩ := own_lst x1 hw
          rw [e] at ew; cases ew⟩, e⟩) _ _ hl r
theorem ev_new (h : EvN E Xc te ρ fun ds => P (.list ds)) : EvP E Xc te ρ P := fun C O σ H x e Q q =>
  h C O σ H x e _ fun p vs ds H1 H2 x1 k1 n1 s1 e1 y pz => q _ _ H2 (x1.grow s1) (k1.trans (.of s1)) (.lst (x1.notO n1) e1 (y.keep (.of s1))) pz
/-- e.append(..) of a new list -/
theorem ds_appNew (h : EvN E Xc te ρ fun ds => ds.length < 100000 ∧ EvG tb ρ fun _ => N ρ) : DS E Xc (tDrop (tBM K "list" rAppend te (tCons tb tNil))) ρ N R := fun C O σ H D x e nx rt =>
  h C O σ H x e _ fun p vs ds H1 H2 x1 k1 n1 s1 e1 y ⟨hl, hb⟩ => by
    have x2 := x1.grow s1
    refine ⟨.inl ⟨rfl, _, SqL.of e1⟩, hb C O σ H2 x2 _ fun v d H3 s3 y3 n => ?_⟩
    refine ⟨p, vs, v, rfl, rfl, s3 _ _ e1, ?_, nx O ρ σ _ (x1.grow fun a o ea => ?_) n⟩
    · rw [y.length]; exact Nat.lt_of_lt_of_le hl (by decide)
    · rw [upd_ne (ne_of_none ea n1)]
      exact s3 _ _ (s1 _ _ ea)
end
end LW

namespace LW
open PySem PySem.Spec PyProof.Rows L2
/-! ### defs that give a new list -/
structure GoodC (C : Ctx) : Prop where
  nl : ∀ a, ¬ C.L a
  o0 : ∀ a, C.O0 a → C.H0 a ≠ none
section
variable (E : EK) (Xc : XP)
/-- a list that was not there when the def began -/
def EvF (te : TE) (ρ : List Slot) (P : List PyData → Prop) : Prop := ∀ C O σ H, Rel C O ρ σ H → EOk E Xc C → GoodC C → ∀ Q : VK, (∀ p vs ds H', Rel C O ρ σ H' → C.H0 p = none → H' p = some (.lst vs) → DnAll C.O0 H' vs ds → P ds → Q (.ref p) H') → te σ H Q
end
section
variable {E : EK} {Xc : XP} {K : PySem.W.Frag} {ρ : List Slot} {P : List PyData → Prop} {ta : TA} {te tb : TE} {E' : XK}
theorem ef_own {i : Nat} {p : Addr} {ds : List PyData} (h : ρ[i]? = some (.own p ds)) (z : P ds) : EvF E Xc (tVar i) ρ P := fun C O σ H x e g Q q => by
  obtain ⟨y, e1, e2, vs, e3, e4⟩ := x.slot i _ h
  subst e2
  refine ⟨_, e1, q p vs ds H x ?_ e3 (e4.sub x.sub) z⟩
  exact (x.mine i _ p h rfl).2.2.elim id fun w => absurd w (g.nl p)
theorem ef_plus (h : EvP E Xc te ρ fun x => EvP E Xc tb ρ fun y => ∃ a b, x = .list a ∧ y = .list b ∧ a.length + b.length ≤ 100000 ∧ P (a ++ b)) : EvF E Xc (tOp rPlus te tb) ρ P := fun C O σ H x e g Q q =>
  h C O σ H x e _ fun v1 d1 H1 x1 k1 y1 h1 => h1 C O σ H1 x1 e _ fun v2 d2 H2 x2 k2 y2 ⟨a, b, e1, e2, hl, p⟩ => by
    subst e1; subst e2
    have y1 := y1.keep k2
    cases y1 with
    | lst n1 f1 r1 =>
      cases y2 with
      | lst n2 f2 r2 =>
        refine .inr (.inl ⟨_, _, _, _, rfl, rfl, f1, f2, ?_, fun l nl => q l _ (a ++ b) _ (x2.grow (same_upd nl)) (x2.stay l nl) upd_same (((r1.append r2).keep (.of (same_upd nl))).sub x2.sub) p⟩)
        rw [r1.length, r2.length]; exact Nat.le_trans hl (by decide)
theorem ef_lc {wi : TI} {g : TG} {tt : TT} {vs : List Nat} (hp : plainAt ρ vs) (h : EvI E Xc wi ρ (LcI E Xc g tt te vs (fun d => ∃ es, d = .list es ∧ P es) ρ)) : EvF E Xc (tLc wi g tt te vs) ρ P := fun C O σ H x e gc Q q => by
  refine ev_lc0 (P := fun d => ∃ es, d = .list es ∧ P es) hp C O σ H x e Q h fun p us acc H1 H2 x1 k1 n1 x2 k2 e2 y2 pz => ?_
  obtain ⟨es, ee, pe⟩ := pz
  injection ee with ee
  subst ee
  exact q p us _ H2 x2 (x1.stay p n1) e2 (y2.sub fun a w => .inl (x1.sub a w)) pe
theorem ef_checked {Rf : List PyData → (PyData → Prop) → Prop} (h : EvF E Xc te ρ fun ds => noLs ds = true ∧ Rf [.list ds] fun d => ∃ es, d = .list es ∧ noLs es = true ∧ P es) : EvF E Xc (tCall (PSp Rf) [] E' (tCons te tNil)) ρ P := fun C O σ H x e g Q q =>
  h C O σ H x e g _ fun p vs ds H1 x1 n1 e1 y1 ⟨hl, h1⟩ => by
    have nO : ¬ C.O0 p := fun w => g.o0 p w n1
    refine ⟨fun a => C.O0 a ∨ ((∃ us, H1 a = some (.lst us)) ∧ a ≠ p), [.list ds], _, fun a ha => ?_, ?_, h1, fun v d H2 s z ⟨es, ed, hn, pz⟩ => ?_⟩
    · rcases ha with ha | ⟨⟨us, ea⟩, _⟩
      · exact x1.domN a (x1.sub a ha)
      · rw [ea]; exact fun z => nomatch z
    · refine .cons (.lst (fun z => z.elim nO fun w => w.2 rfl) e1 (DnAll.impN (fun a o n ea => ⟨fun z => z.elim n (fun ⟨⟨us, eb⟩, _⟩ => by rw [ea] at eb; exact nomatch eb), ea⟩) _ _ hl y1)) .nil
    · subst ed
      cases z with
      | @lst r us _ n e2 rr =>
        refine q r us es H2 (x1.grow s) ?_ e2 (rr.sub fun a w => .inl w) pz
        by_cases hr : r = p
        · rw [hr]; exact n1
        · cases q1 : H1 r with
          | none => exact x1.stay r q1
          | some o =>
            have e3 := s r o q1
            rw [e2] at e3; cases e3
            exact absurd (.inr ⟨⟨us, q1⟩, hr⟩) n
end
def DSN (t : TS) (ρ : List Slot) (Q : List PyData → Prop) : Prop := ∀ C O σ H (D : Ends), Rel C O ρ σ H → GoodC C → (∀ O' ρ' σ' p vs ds H', Rel C O' ρ' σ' H' → C.H0 p = none → H' p = some (.lst vs) → DnAll C.O0 H' vs ds → Q ds → D.rt (.ref p) H') → t D σ H
theorem dsn_seq {t s : TS} {ρ : List Slot} {Q : List PyData → Prop} (h : DS EE X0 t ρ (fun ρ' => DSN s ρ' Q) (fun _ _ => False)) : DSN (tSeq t s) ρ Q := fun C O σ H D x g rt =>
  h C O σ H { D with nx := s D } x eok0 (fun O' ρ' σ' H' x' n => n C O' σ' H' D x' g rt) fun _ _ _ _ _ _ _ _ z => z.elim
theorem dsn_freeze {t : TS} {ρ : List Slot} {Q : List PyData → Prop} (h : DSN t ρ Q) : DSN t ρ Q := h
theorem dsn_ret {te : TE} {ρ : List Slot} {Q : List PyData → Prop} (h : EvF EE X0 te ρ Q) : DSN (tRet te) ρ Q := fun C O σ H D x g rt =>
  h C O σ H x eok0 g _ fun p vs ds H' x' n e y q => rt O ρ σ p vs ds H' x' n e y q
/-- a def that gives a new list -/
def PNSp (R : List PyData → (List PyData → Prop) → Prop) : Sp := fun vs H Q _ => ∃ (O : Addr → Prop) (ds : List PyData) (P : List PyData → Prop), (∀ p, O p → H p ≠ none) ∧ DnAll O H vs ds ∧ R ds P ∧ ∀ p us es H', Same H H' → H p = none → H' p = some (.lst us) → DnAll O H' us es → P es → Q (.ref p) H'
def RN (Rf : List PyData → (PyData → Prop) → Prop) (ds : List PyData) (P : List PyData → Prop) : Prop := Rf ds fun d => ∃ es, d = .list es ∧ P es
section
variable {P : Program} {w : World} {K : PySem.W.Frag} {mg : Str → Option Value} {base : Heap}
theorem has_new {x : Str} {st : Stmt} {N ps : List Str} {k : Nat} {R : List PyData → (List PyData → Prop) → Prop} (F : DefIn K mg x st ps) (S : FnScope N ps (defScope st)) (len : ∀ ds Q, R ds Q → ds.length = ps.length)
    (hb : ∀ (f : Addr) (cdv : Value) (A : Around) (outer : List Env) (s : Shared) (H : Hp) (E : XK), Room k (A.deeper (envOfC x (defScope st) s.heap.objs.size f cdv)) →
      ∃ t, PSs (cxOf CX0 P w K mg base N x (defScope st) f cdv A outer s H E).nox (defBody st) t ∧ ∀ ds Q, R ds Q → DSN t (entry N.length ds) Q) : Has P w K mg base CX0 x ps (k + 1) (PNSp R) := by
  obtain ⟨f, fd, F, m, b⟩ := F
  refine ⟨f, fd, F.ok S (fun vs H Q E h => ?_) (fun cdv A outer s H vs Q E hr h => ?_), m, F.kp, b⟩
  · obtain ⟨O, ds, P', _, y, r, _⟩ := h
    rw [y.length]; exact len ds P' r
  · obtain ⟨O, ds, P', hd, y, r, q⟩ := h
    obtain ⟨t, ht, h⟩ := hb f cdv A outer s H E hr
    exact ⟨t, ht, h ds P' r _ O _ H _ (rel_entry hd y) ⟨fun a z => z, hd⟩ fun O' ρ' σ' p us es H' x n e z pz => q p us es H' (fun a o e => x.frame a o e id) n e z pz⟩
end
section
variable {E : EK} {Xc : XP} {K : PySem.W.Frag} {ρ : List Slot} {P : List PyData → Prop} {N : List Slot → Prop} {R : RK} {ta : TA} {te tb : TE} {E' : XK}
theorem cut_same {H2 : Hp} {pp : Addr} : Same (fun a => if a = pp then none else H2 a) H2 := fun a o ea => by
  by_cases w : a = pp
  · rw [w] at ea
    have ea : (if pp = pp then none else H2 pp) = some o := ea
    rw [if_pos rfl] at ea; cases ea
  · have ea : (if a = pp then none else H2 a) = some o := ea
    rw [if_neg w] at ea; exact ea
theorem cut_at {H2 : Hp} {pp : Addr} : (fun a => if a = pp then none else H2 a) pp = none := by show (if pp = pp then none else _) = none; rw [if_pos rfl]
theorem en_callN {Rf : List PyData → (List PyData → Prop) → Prop} (h : EvGA ta ρ fun ds => Rf ds fun es => noLs es = true ∧ P es) : EvN E Xc (tCall (PNSp Rf) [] E' ta) ρ P := fun C O σ H x e Q q =>
  h C O σ H x _ fun vs ds H1 s1 y1 h1 => by
    have x1 := x.grow s1
    refine ⟨offO O ρ, ds, _, fun p hp => x1.domN p hp.1, by rw [List.append_nil]; exact y1, h1, fun pp us es H2 s n1 e1 r ⟨hl, p⟩ => ?_⟩
    have sc := Same.cut s n1
    refine q pp us es _ H2 (x1.grow sc) (.of (s1.trans sc)) cut_at cut_same e1 ?_ p
    exact DnAll.impN (fun a o n2 e2 => ⟨fun zO => n2 ⟨zO, fun hw => by
      obtain ⟨ws, ew⟩ := own_lst x1 hw
      have := s a _ ew
      rw [e2] at this; cases this⟩, by
      have : a ≠ pp := fun w => by rw [w, e1] at e2; cases e2
      show (if a = pp then none else H2 a) = _
      rw [if_neg this]; exact e2⟩) _ _ hl r
theorem noLs_all : ∀ {ds : List PyData}, (∀ d ∈ ds, noL d = true) → noLs ds = true
  | [], _ => by unfold noLs; rfl
  | d :: ds, h => by
    unfold noLs
    rw [h d List.mem_cons_self, noLs_all fun d hd => h d (List.mem_cons_of_mem _ hd)]; rfl
/-- a drawn list is new -/
theorem en_draw {Rf : List PyData → (PyData → Prop) → Prop} {i : Nat} {tr : TA} (hi : ρ[i]? = some .drw) (h : EvGA tr ρ fun ds => (∀ d ∈ ds, noL d = true) ∧ Rf ds fun d => ∃ es, d = .list es ∧ noLs es = true ∧ P es) : EvN E Xc (tCall (DSp Rf) [] E' (tCons (tVar i) tr)) ρ P := fun C O σ H x e Q q => by
  obtain ⟨y, e1, p, b, e2, e3⟩ := x.slot i _ hi
  subst e3
  refine ⟨_, e1, h C O σ H x _ fun vs ds H1 s1 y1 ⟨hf, h1⟩ => ?_⟩
  have x1 := x.grow s1
  obtain ⟨d1, d2, d3, d4, d5⟩ := x1.drk p b e2
  have o1 := x1.sub _ d4
  have o2 := x1.sub _ d5
  have hds : noLs ds = true := noLs_all hf
  refine ⟨fun a => O a ∨ ∃ us, H1 a = some (.lst us), p, b, vs, ds, _, by rw [List.append_nil], fun a ha => ?_, d1, .inl o1, .inl o2, ?_, h1, fun v d H2 s dr z ⟨es, ed, hn, pz⟩ => ?_⟩
  · rcases ha with ha | ⟨us, ea⟩
    · exact x1.domN a ha
    · rw [ea]; exact fun z => nomatch z
  · refine DnAll.impN (fun a o n ea => ⟨fun z => z.elim (fun zO => n ⟨zO, fun hw => ?_⟩) (fun ⟨us, eb⟩ => by rw [ea] at eb; exact nomatch eb), ea⟩) _ _ hds y1
    obtain ⟨ws, ew⟩ := own_lst x1 hw
    rw [ea] at ew; cases ew
  · subst ed
    cases z with
    | @lst r us _ n er rr =>
      have hr : H1 r = none := by
        cases q1 : H1 r with
        | none => rfl
        | some o =>
          exfalso
          by_cases w1 : r = p
          · exact n (.inl (by rw [w1]; exact o1))
          · by_cases w2 : r = b
            · exact n (.inl (by rw [w2]; exact o2))
            · have := s r o w1 w2 q1
              rw [er] at this; cases this
              exact n (.inr ⟨us, q1⟩)
      have np : p ≠ r := fun w => by rw [← w] at hr; obtain ⟨_, k, ns, f1, _⟩ := d1; rw [f1] at hr; cases hr
      have nb : b ≠ r := fun w => by rw [← w] at hr; obtain ⟨_, k, ns, f1, _, f2, _⟩ := d1; rw [f2] at hr; cases hr
      have x2 := x1.drawn (H' := fun a => if a = r then none else H2 a) e2 (fun a o na nb ea => by
        show (if a = r then none else H2 a) = _
        rw [if_neg (ne_of_none ea hr)]; exact s a o na nb ea) (dr.keep (by show (if p = r then none else H2 p) = _; rw [if_neg np]) (by show (if b = r then none else H2 b) = _; rw [if_neg nb]))
      refine q r us es _ H2 x2 (fun a o na ea => ?_) cut_at cut_same er ?_ pz
      · show (if a = r then none else H2 a) = _
        have ea1 := s1 a o ea
        rw [if_neg (ne_of_none ea1 hr)]
        exact s a o (fun w => na (by rw [w]; exact o1)) (fun w => na (by rw [w]; exact o2)) ea1
      · refine DnAll.impN (fun a o n2 ea => ⟨fun zO => n2 (.inl zO), ?_⟩) _ _ hn rr
        have : a ≠ r := fun w => by rw [w, er] at ea; cases ea
        show (if a = r then none else H2 a) = _
        rw [if_neg this]; exact ea
/-- x = Walker(..), its ladder copied from an own list -/
theorem ds_walkerG {i : Nat} {C : Addr} {Rn : List PyData → (PyData → List PyData → List PyData → Prop) → (Addr → Prop) → Prop} (h : EvGA ta ρ fun ds => Rn ds (fun lad line mov => flat1 lad = true ∧ noLs line = true ∧ noLs mov = true ∧ ∀ p aL aI aM, N (ρ.set i (.wlk C p aL aI aM lad line mov))) (fun _ => False)) : DS E Xc (tAsg (tMake C (NSp C Rn) [] E' ta) (gName i)) ρ N R := fun Cx O σ H D x e nx rt =>
  h Cx O σ H x _ fun vs ds H1 s0 y1 h1 => fun q dx nq nd ne => by
    have x1 := x.grow s0
    have s1 : Same H1 (upd H1 dx (.own q)) := same_upd nd
    have nq2 : upd H1 dx (.own q) q = none := by rw [upd_ne (Ne.symm ne)]; exact nq
    have s2 : Same H1 (upd (upd H1 dx (.own q)) q (.ins C dx [])) := s1.trans (same_upd nq2)
    rw [List.append_nil]
    refine ⟨offO O ρ, q, dx, vs, ds, _, _, rfl, fun p hp e => x1.domN p hp.1 (s2.free e), fun z => x1.notO nq z.1, upd_same, y1.keep (.of s2), h1, fun aL aI aM lad line mov H' k nL nI nM w ⟨f1, f2, f3, pz⟩ => ⟨rfl, ?_⟩, fun c H' _ z => z.elim⟩
    have g : Same H1 H' := fun a o ea => k a o (ne_of_none ea nq) (s2 a o ea)
    have x' := x1.grow g
    have nL1 : H1 aL = none := s2.free nL
    have ht : ∀ a o, ¬ wO (offO O ρ) aI aM a → H' a = some (.tup o) → ¬ (O a ∨ (a = aI ∨ a = aM)) ∧ H' a = some (.tup o) := fun a o n ea => ⟨fun z => z.elim (fun zO => n (.inl ⟨zO, fun hw => by
      obtain ⟨ws, ew⟩ := own_lst x' hw
      rw [ea] at ew; cases ew⟩)) fun z => n (.inr z), ea⟩
    have w2 : WAt (fun a => O a ∨ (a = aI ∨ a = aM)) H' C q aL aI aM lad line mov := by
      refine ⟨w.ne, fun z => z.elim (fun zO => x1.notO nq zO) fun z => w.nO (.inr z), ?_, w.at_, ?_, ?_⟩
      · have la := w.la
        cases lad with
        | list ds =>
          cases la with
          | lst n e r => exact .lst (fun z => z.elim (fun zO => x1.notO nL1 zO) fun z => n (.inr z)) e (DnAll.impN ht _ _ f1 r)
        | none => cases la
        | bool b => cases la
        | int b => cases la
        | str b => cases la
        | tuple b => exact Dn.impN ht _ _ f1 la
        | dict b => cases la
      · obtain ⟨us, e1, e2⟩ := w.li; exact ⟨us, e1, DnAll.impN ht _ _ f2 e2⟩
      · obtain ⟨us, e1, e2⟩ := w.mo; exact ⟨us, e1, DnAll.impN ht _ _ f3 e2⟩
    have mk := x1.setF (i := i) (s := .wlk C q aL aI aM lad line mov) (x := some (.ref q)) g
      (fun a f => by
        rcases (show a = aI ∨ a = aM from f) with f | f
        · rw [f]; exact s2.free nI
        · rw [f]; exact s2.free nM)
      (fun a f => by
        obtain ⟨vs, h1, _⟩ := w.li
        obtain ⟨us, h2, _⟩ := w.mo
        rcases (show a = aI ∨ a = aM from f) with f | f
        · rw [f]; exact ⟨_, h1⟩
        · rw [f]; exact ⟨_, h2⟩) (wat_iff.mpr ⟨rfl, w2⟩)
    exact nx _ _ _ H' mk (pz q aL aI aM)
end
end LW
namespace LW
open PySem PySem.Spec PyProof.Rows L2
section
variable {E : EK} {Xc : XP} {K : PySem.W.Frag} {ρ : List Slot} {P : List PyData → Prop} {E' : XK}
/-- a method of a walker that gives a new list and changes nothing -/
theorem en_meth {i : Nat} {C p aL aI aM : Addr} {lad : PyData} {line mov : List PyData} {m : Str} {Rw : RW} (hi : ρ[i]? = some (.wlk C p aL aI aM lad line mov)) (hm : m ≠ "ladder" ∧ m ≠ "line" ∧ m ≠ "moves") (f1 : flat1 lad = true) (f2 : noLs line = true) (f3 : noLs mov = true)
    (h : Rw lad line mov [] (fun d l' m' => l' = line ∧ m' = mov ∧ ∃ es, d = .list es ∧ noLs es = true ∧ lad ≠ .list es ∧ P es) (fun _ => False)) : EvN E Xc (tMeth C m (WSp C Rw) [] E' (tVar i) tNil) ρ P := fun Cx O σ H x e Q q => by
  obtain ⟨x0, e1, z⟩ := x.slot i _ hi
  obtain ⟨rfl, w⟩ := wat_iff.mp z
  obtain ⟨dx, ea⟩ := w.at_
  have oI := (x.mine i _ aI hi (Or.inl rfl)).1
  have oM := (x.mine i _ aM hi (Or.inr rfl)).1
  have ht : ∀ a o, ¬ O a → H a = some (.tup o) → ¬ (O a ∨ ((∃ us, H a = some (.lst us)) ∧ a ≠ aL)) ∧ H a = some (.tup o) := fun a o n e => ⟨fun z => z.elim n (fun ⟨⟨us, e2⟩, _⟩ => by rw [e] at e2; exact nomatch e2), e⟩
  have laT : ∀ {O1 O2 : Addr → Prop} {H1 H2 : Hp}, (∀ a o, ¬ O1 a → H1 a = some (.tup o) → ¬ O2 a ∧ H2 a = some (.tup o)) → (∀ o, ¬ O1 aL → H1 aL = some (.lst o) → ¬ O2 aL ∧ H2 aL = some (.lst o)) → Dn O1 H1 (.ref aL) lad → Dn O2 H2 (.ref aL) lad := fun hT hL y => by
    cases lad with
    | list ds =>
      cases y with
      | lst n e r => exact .lst (hL _ n e).1 (hL _ n e).2 (DnAll.impN hT _ _ f1 r)
    | none => cases y
    | bool b => cases y
    | int b => cases y
    | str b => cases y
    | tuple b => exact Dn.impN hT _ _ f1 y
    | dict b => cases y
  refine ⟨_, e1, p, dx, _, rfl, ea, wfs_none hm, fun a => O a ∨ ((∃ us, H a = some (.lst us)) ∧ a ≠ aL), p, aL, aI, aM, [], lad, line, mov, [], _, _, rfl, fun a ha => ?_, .inl oI, .inl oM, ⟨w.ne, fun z => ?_, ?_, w.at_, ?_, ?_⟩, .nil, h, fun v d l' m' H' k w' y ⟨g1, g2, es, ed, hn, hne, pz⟩ => ?_, fun c H' k w' z => z.elim⟩
  · rcases ha with ha | ⟨⟨us, eb⟩, _⟩
    · exact x.domN a ha
    · rw [eb]; exact fun z => nomatch z
  · rcases z with z | ⟨⟨us, eb⟩, _⟩
    · exact w.nO z
    · rw [ea] at eb; cases eb
  · exact laT ht (fun o n e => ⟨fun z => z.elim n fun w => w.2 rfl, e⟩) w.la
  · obtain ⟨us, h1, h2⟩ := w.li; exact ⟨us, h1, DnAll.impN ht _ _ f2 h2⟩
  · obtain ⟨us, h1, h2⟩ := w.mo; exact ⟨us, h1, DnAll.impN ht _ _ f3 h2⟩
  · subst g1; subst g2; subst ed
    cases y with
    | @lst r us _ n er rr =>
      have hr : H r = none := by
        cases q1 : H r with
        | none => rfl
        | some o =>
          exfalso
          by_cases w1 : r = aI
          · exact n (.inl (by rw [w1]; exact oI))
          · by_cases w2 : r = aM
            · exact n (.inl (by rw [w2]; exact oM))
            · have e3 := k r o w1 w2 q1
              rw [er] at e3; cases e3
              by_cases w3 : r = aL
              · subst w3
                exact hne (Dn.uniq _ _ _ w'.la (Dn.lst n er rr))
              · exact n (.inr ⟨⟨us, q1⟩, w3⟩)
      have cutE : ∀ {a : Addr}, a ≠ r → (if a = r then none else H' a) = H' a := fun {a} n => if_neg n
      have hT2 : ∀ a o, ¬ (O a ∨ ((∃ us, H a = some (.lst us)) ∧ a ≠ aL)) → H' a = some (.tup o) → ¬ O a ∧ (if a = r then none else H' a) = some (.tup o) := fun a o n2 e2 => ⟨fun zO => n2 (.inl zO), by
        rw [cutE (fun w => by rw [w, er] at e2; cases e2)]; exact e2⟩
      have nIr : aI ≠ r := fun w => by rw [← w] at hr; obtain ⟨_, h1, _⟩ := (wat_iff.mp z).2.li; rw [h1] at hr; cases hr
      have nMr : aM ≠ r := fun w => by rw [← w] at hr; obtain ⟨_, h1, _⟩ := (wat_iff.mp z).2.mo; rw [h1] at hr; cases hr
      have wc : WAt O (fun a => if a = r then none else H' a) C p aL aI aM lad l' m' := by
        refine ⟨w'.ne, fun zO => w'.nO (.inl zO), ?_, ?_, ?_, ?_⟩
        · refine laT hT2 (fun o n2 e2 => ⟨fun zO => n2 (.inl zO), ?_⟩) w'.la
          have nLr : aL ≠ r := fun w => by
            have hL := (wat_iff.mp z).2.la
            rw [w] at hL
            cases hL with
            | lst _ e9 _ => rw [hr] at e9; cases e9
            | tup _ e9 _ => rw [hr] at e9; cases e9
          rw [cutE nLr]; exact e2
        · obtain ⟨dx', e9⟩ := w'.at_
          exact ⟨dx', by rw [cutE (fun w => by rw [← w, ea] at hr; cases hr)]; exact e9⟩
        · obtain ⟨us, h1, h2⟩ := w'.li; exact ⟨us, by rw [cutE nIr]; exact h1, DnAll.impN hT2 _ _ f2 h2⟩
        · obtain ⟨us, h1, h2⟩ := w'.mo; exact ⟨us, by rw [cutE nMr]; exact h1, DnAll.impN hT2 _ _ f3 h2⟩
      have xc := x.moved hi (H' := fun a => if a = r then none else H' a) (fun a o n1 n2 e9 => by rw [cutE (ne_of_none e9 hr)]; exact k a o n1 n2 e9) wc
      rw [set_self hi] at xc
      refine q r us es (fun a => if a = r then none else H' a) H' xc (fun a o na e9 => ?_) cut_at cut_same er (DnAll.impN hT2 _ _ hn rr) pz
      show (if a = r then none else H' a) = some o
      rw [cutE (ne_of_none e9 hr)]
      exact k a o (fun w => na (by rw [w]; exact oI)) (fun w => na (by rw [w]; exact oM)) e9
end
end LW

namespace LW
open PySem PySem.Spec PyProof.Rows L2
/-! ### nothing is changed (k11) -/
theorem noL_enc (r : Rat) : noL (enc r) = true := by unfold enc noL noLs noLs noLs noL; rfl
theorem noL_R (x : Rat × Rat) : noL (encR x) = true := by
  show noL (.tuple [enc x.1, enc x.2]) = true
  unfold noL noLs noLs noLs
  rw [noL_enc, noL_enc]; rfl
theorem noL_encR (L : Lad) : noLs (L.map encR) = true := noLs_all fun d hd => by
  obtain ⟨x, _, rfl⟩ := List.mem_map.mp hd; exact noL_R x
theorem noL_encs (xs : List Rat) : noLs (xs.map enc) = true := noLs_all fun d hd => by
  obtain ⟨x, _, rfl⟩ := List.mem_map.mp hd; exact noL_enc x
theorem noL_nats (xs : List Nat) : noLs (xs.map natD) = true := noLs_all fun d hd => by
  obtain ⟨x, _, rfl⟩ := List.mem_map.mp hd; unfold natD noL; rfl
theorem flat_L (L : Lad) : flat1 (encL L) = true := noL_encR L
theorem flat_Es (xs : List Rat) : flat1 (.list (xs.map enc)) = true := noL_encs xs
theorem ne_LE {L : Lad} {xs : List Rat} (h : 1 ≤ L.length) : encL L ≠ .list (xs.map enc) := fun e => by
  injection e with e
  cases L with
  | nil => simp at h
  | cons y L =>
    cases xs with
    | nil => cases e
    | cons x xs =>
      injection e with e _
      have e : PyData.tuple [enc y.1, enc y.2] = .tuple [.int x.num, .int (x.den : Int)] := e
      injection e with e
      injection e with e _
      unfold enc at e
      cases e
theorem ne_EL {L : Lad} {xs : List Rat} (h : 1 ≤ L.length) : .list (xs.map enc) ≠ encL L := fun e => ne_LE h e.symm
theorem ne_LN {L : Lad} {xs : List Nat} (h : 1 ≤ L.length) : encL L ≠ .list (xs.map natD) := fun e => by
  injection e with e
  cases L with
  | nil => simp at h
  | cons y L =>
    cases xs with
    | nil => cases e
    | cons x xs =>
      injection e with e _
      cases e
theorem encL_inj {L M : Lad} (e : encL L = encL M) : L = M := by
  have := eqv_encL L M
  rw [e] at this
  have h2 := eqv_encL M M
  rw [decide_eq_true rfl] at h2
  rw [h2] at this
  exact of_decide_eq_true this.symm
theorem ne_len {xs ys : List PyData} (h : xs.length ≠ ys.length) : PyData.list xs ≠ .list ys := fun e => by
  injection e with e; exact h (by rw [e])
section
variable {P : PyData → Prop} {a b c d : PyData}
theorem all1 (h1 : P a) : ∀ x ∈ [a], P x := fun x hx => by rw [List.mem_singleton.mp hx]; exact h1
theorem all2 (h1 : P a) (h2 : P b) : ∀ x ∈ [a, b], P x := fun x hx => by
  rcases List.mem_cons.mp hx with e | hx
  · rw [e]; exact h1
  · exact all1 h2 x hx
theorem all3 (h1 : P a) (h2 : P b) (h3 : P c) : ∀ x ∈ [a, b, c], P x := fun x hx => by
  rcases List.mem_cons.mp hx with e | hx
  · rw [e]; exact h1
  · exact all2 h2 h3 x hx
theorem all4 (h1 : P a) (h2 : P b) (h3 : P c) (h4 : P d) : ∀ x ∈ [a, b, c, d], P x := fun x hx => by
  rcases List.mem_cons.mp hx with e | hx
  · rw [e]; exact h1
  · exact all3 h2 h3 h4 x hx
end
theorem flat_I (i : Int) : flat1 (.int i) = true := by unfold flat1 noL; rfl
theorem noL_I (i : Int) : noL (.int i) = true := by unfold noL; rfl
theorem flat_E (r : Rat) : flat1 (enc r) = true := noL_enc r
theorem ne_I {i : Int} {es : List PyData} : PyData.int i ≠ .list es := fun e => nomatch e
theorem ne_E {r : Rat} {es : List PyData} : enc r ≠ .list es := fun e => nomatch e
def R_with_rungP (ds : List PyData) (P : PyData → Prop) : Prop := ∃ (L : Lad) (i : Nat) (y : Rat × Rat), ds = [encL L, .int (1 + (i : Int)), enc y.1, enc y.2] ∧ Lok L ∧ i ≤ L.length ∧ Sy y ∧ L.length < 8 ∧ P (encL (moreL L i y))
theorem S_with_rungP {L : Lad} {i : Nat} {y : Rat × Rat} {P : PyData → Prop} (h : Lok L) (hi : i ≤ L.length) (hy : Sy y) (h8 : L.length < 8) (p : P (encL (moreL L i y))) : R_with_rungP [encL L, .int (1 + (i : Int)), enc y.1, enc y.2] P := ⟨L, i, y, rfl, h, hi, hy, h8, p⟩
end LW

namespace LW
open PySem PySem.Spec PyProof.Rows L2
/-! ### the first error that applies (k12, k13) -/
def erAt (er : Er) : Nat → Addr
  | 0 => er.bl
  | 1 => er.br
  | 2 => er.bs
  | 3 => er.bn
  | 4 => er.bt
  | _ => er.nf
def lnD : PyData → Int
  | .list ds => (ds.length : Int)
  | _ => 0
inductive Ck where
  | L | R | I | W | S | N
def ckOk (d0 : PyData) : Ck → PyData → Bool
  | .L, d => isLadderD d
  | .R, d => isIntIn d 0 (lnD d0 + 1)
  | .I, d => isIntIn d 1 (lnD d0)
  | .W, d => isIntIn d 1 (lnD d0 + 1)
  | .S, d => isShareD d
  | .N, d => isIntIn d 0 60
def ckErr : Ck → Nat
  | .L => 0
  | .R => 1
  | .I => 1
  | .W => 1
  | .S => 2
  | .N => 3
def fst1 (d0 : PyData) : List Ck → List PyData → Option Nat
  | k :: ks, d :: ds => if ckOk d0 k d = true then fst1 d0 ks ds else some (ckErr k)
  | _, _ => none
theorem f1_ok {d0 d : PyData} {k : Ck} {ks : List Ck} {ds : List PyData} (h : ckOk d0 k d = true) : fst1 d0 (k :: ks) (d :: ds) = fst1 d0 ks ds := if_pos h
theorem f1_bad {d0 d : PyData} {k : Ck} {ks : List Ck} {ds : List PyData} (h : ckOk d0 k d = false) : fst1 d0 (k :: ks) (d :: ds) = some (ckErr k) := if_neg (by rw [h]; exact Bool.false_ne_true)
theorem f1_nil {d0 : PyData} : fst1 d0 [] [] = none := rfl
theorem f1_okL {d0 d : PyData} {ks : List Ck} {ds : List PyData} (h : isLadderD d = true) : fst1 d0 (.L :: ks) (d :: ds) = fst1 d0 ks ds := f1_ok (k := .L) h
theorem f1_badL {d0 d : PyData} {ks : List Ck} {ds : List PyData} (h : isLadderD d = false) : fst1 d0 (.L :: ks) (d :: ds) = some (ckErr .L) := f1_bad (k := .L) h
theorem f1_okR {d0 d : PyData} {ks : List Ck} {ds : List PyData} (h : isIntIn d 0 (lnD d0 + 1) = true) : fst1 d0 (.R :: ks) (d :: ds) = fst1 d0 ks ds := f1_ok (k := .R) h
theorem f1_badR {d0 d : PyData} {ks : List Ck} {ds : List PyData} (h : isIntIn d 0 (lnD d0 + 1) = false) : fst1 d0 (.R :: ks) (d :: ds) = some (ckErr .R) := f1_bad (k := .R) h
theorem f1_okI {d0 d : PyData} {ks : List Ck} {ds : List PyData} (h : isIntIn d 1 (lnD d0) = true) : fst1 d0 (.I :: ks) (d :: ds) = fst1 d0 ks ds := f1_ok (k := .I) h
theorem f1_badI {d0 d : PyData} {ks : List Ck} {ds : List PyData} (h : isIntIn d 1 (lnD d0) = false) : fst1 d0 (.I :: ks) (d :: ds) = some (ckErr .I) := f1_bad (k := .I) h
theorem f1_okW {d0 d : PyData} {ks : List Ck} {ds : List PyData} (h : isIntIn d 1 (lnD d0 + 1) = true) : fst1 d0 (.W :: ks) (d :: ds) = fst1 d0 ks ds := f1_ok (k := .W) h
theorem f1_badW {d0 d : PyData} {ks : List Ck} {ds : List PyData} (h : isIntIn d 1 (lnD d0 + 1) = false) : fst1 d0 (.W :: ks) (d :: ds) = some (ckErr .W) := f1_bad (k := .W) h
theorem f1_okS {d0 d : PyData} {ks : List Ck} {ds : List PyData} (h : isShareD d = true) : fst1 d0 (.S :: ks) (d :: ds) = fst1 d0 ks ds := f1_ok (k := .S) h
theorem f1_badS {d0 d : PyData} {ks : List Ck} {ds : List PyData} (h : isShareD d = false) : fst1 d0 (.S :: ks) (d :: ds) = some (ckErr .S) := f1_bad (k := .S) h
theorem f1_okN {d0 d : PyData} {ks : List Ck} {ds : List PyData} (h : isIntIn d 0 60 = true) : fst1 d0 (.N :: ks) (d :: ds) = fst1 d0 ks ds := f1_ok (k := .N) h
theorem f1_badN {d0 d : PyData} {ks : List Ck} {ds : List PyData} (h : isIntIn d 0 60 = false) : fst1 d0 (.N :: ks) (d :: ds) = some (ckErr .N) := f1_bad (k := .N) h
abbrev RXT := List PyData → (PyData → Prop) → (Addr → Prop) → Prop
/-- the first check that fails tells the error; if none fails, R -/
def RX (er : Er) (ks : List Ck) (R : RXT) (ds : List PyData) (P : PyData → Prop) (Z : Addr → Prop) : Prop := ds.length = ks.length ∧ (∀ j, fst1 (ds.headD .none) ks ds = some j → Z (erAt er j)) ∧ (fst1 (ds.headD .none) ks ds = none → R ds P Z)
section
variable {er : Er} {ks : List Ck} {R : RXT} {ds : List PyData} {P : PyData → Prop} {Z : Addr → Prop}
theorem S_RXe {j : Nat} (hl : ds.length = ks.length) (h : fst1 (ds.headD .none) ks ds = some j) (z : Z (erAt er j)) : RX er ks R ds P Z := ⟨hl, (fun i e => by rw [h] at e; cases e; exact z), (fun e => by rw [h] at e; cases e)⟩
theorem S_RXo (hl : ds.length = ks.length) (h : fst1 (ds.headD .none) ks ds = none) (r : R ds P Z) : RX er ks R ds P Z := ⟨hl, (fun i e => by rw [h] at e; cases e), fun _ => r⟩
end
/-! the checks themselves -/
def R_ckL (er : Er) (ds : List PyData) (P : PyData → Prop) (Z : Addr → Prop) : Prop := ∃ d, ds = [d] ∧ (isLadderD d = true → P .none) ∧ (isLadderD d = false → Z er.bl)
def R_ckR (er : Er) (ds : List PyData) (P : PyData → Prop) (Z : Addr → Prop) : Prop := ∃ d v, ds = [d, v] ∧ isLadderD d = true ∧ (isIntIn v 0 (lnD d + 1) = true → P .none) ∧ (isIntIn v 0 (lnD d + 1) = false → Z er.br)
def R_ckI (er : Er) (ds : List PyData) (P : PyData → Prop) (Z : Addr → Prop) : Prop := ∃ d v, ds = [d, v] ∧ isLadderD d = true ∧ (isIntIn v 1 (lnD d) = true → P .none) ∧ (isIntIn v 1 (lnD d) = false → Z er.br)
def R_ckS (er : Er) (ds : List PyData) (P : PyData → Prop) (Z : Addr → Prop) : Prop := ∃ d, ds = [d] ∧ (isShareD d = true → P .none) ∧ (isShareD d = false → Z er.bs)
def R_ckN (er : Er) (ds : List PyData) (P : PyData → Prop) (Z : Addr → Prop) : Prop := ∃ d, ds = [d] ∧ (isIntIn d 0 60 = true → P .none) ∧ (isIntIn d 0 60 = false → Z er.bn)
def R_ckC (er : Er) (ds : List PyData) (P : PyData → Prop) (Z : Addr → Prop) : Prop := ∃ d, ds = [d] ∧ (isLadderD d = true → P d) ∧ (isLadderD d = false → Z er.bl)
section
variable {er : Er} {d v : PyData} {P : PyData → Prop} {Z : Addr → Prop}
theorem S_ckL (p : isLadderD d = true → P .none) (z : isLadderD d = false → Z er.bl) : R_ckL er [d] P Z := ⟨d, rfl, p, z⟩
theorem S_ckR (h : isLadderD d = true) (p : isIntIn v 0 (lnD d + 1) = true → P .none) (z : isIntIn v 0 (lnD d + 1) = false → Z er.br) : R_ckR er [d, v] P Z := ⟨d, v, rfl, h, p, z⟩
theorem S_ckI (h : isLadderD d = true) (p : isIntIn v 1 (lnD d) = true → P .none) (z : isIntIn v 1 (lnD d) = false → Z er.br) : R_ckI er [d, v] P Z := ⟨d, v, rfl, h, p, z⟩
theorem S_ckS (p : isShareD d = true → P .none) (z : isShareD d = false → Z er.bs) : R_ckS er [d] P Z := ⟨d, rfl, p, z⟩
theorem S_ckN (p : isIntIn d 0 60 = true → P .none) (z : isIntIn d 0 60 = false → Z er.bn) : R_ckN er [d] P Z := ⟨d, rfl, p, z⟩
theorem S_ckC (p : isLadderD d = true → P d) (z : isLadderD d = false → Z er.bl) : R_ckC er [d] P Z := ⟨d, rfl, p, z⟩
theorem S_ckCx {L : Lad} (h : (Lok L ∧ P (encL L)) ∨ ((L.length = 0 ∨ 8 < L.length) ∧ Z er.bl)) : R_ckC er [encL L] P Z := by
  rcases h with ⟨h, p⟩ | ⟨h, z⟩
  · exact S_ckC (fun _ => p) fun e => by rw [ladder_enc h] at e; cases e
  · exact S_ckC (fun e => by rw [not_ladder h] at e; cases e) fun _ => z
theorem lad_list {d : PyData} (h : isLadderD d = true) : ∃ xs, d = .list xs ∧ xs.length ≤ 8 := by
  cases d with
  | list xs =>
    have h : (decide (1 ≤ xs.length) && decide (xs.length ≤ 8) && xs.all rungD) = true := h
    rw [Bool.and_eq_true, Bool.and_eq_true, decide_eq_true_eq, decide_eq_true_eq] at h
    exact ⟨xs, rfl, h.1.2⟩
  | _ => exact absurd h Bool.false_ne_true
theorem rung_of {d : PyData} (h : rungD d = true) : ∃ x : Rat × Rat, d = encR x := by
  match d, h with
  | .tuple [a, b], h =>
    have h : (isShareD a && isShareD b && decide (numD a * denD b + numD b * denD a ≤ denD a * denD b)) = true := h
    rw [Bool.and_eq_true, Bool.and_eq_true] at h
    obtain ⟨u, _, eu⟩ := share_of_enc h.1.1
    obtain ⟨w, _, ew⟩ := share_of_enc h.1.2
    exact ⟨(u, w), by rw [eu, ew]⟩
theorem lad_of {d : PyData} (h : isLadderD d = true) : ∃ L, Lok L ∧ d = encL L := by
  obtain ⟨xs, rfl, _⟩ := lad_list h
  have h' : (decide (1 ≤ xs.length) && decide (xs.length ≤ 8) && xs.all rungD) = true := h
  rw [Bool.and_eq_true, List.all_eq_true] at h'
  have key : ∀ ys : List PyData, (∀ y ∈ ys, rungD y = true) → ∃ L : Lad, ys = L.map encR := fun ys => by
    induction ys with
    | nil => exact fun _ => ⟨[], rfl⟩
    | cons y ys ih =>
      intro hy
      obtain ⟨L, e⟩ := ih fun z hz => hy z (List.mem_cons_of_mem _ hz)
      obtain ⟨x, ex⟩ := rung_of (hy y List.mem_cons_self)
      exact ⟨x :: L, by rw [e, ex]; rfl⟩
  obtain ⟨L, e⟩ := key xs h'.2
  subst e
  exact ⟨L, lad_of_enc h, rfl⟩
end
theorem len1 {ds : List PyData} (h : ds.length = 1) : ∃ a, ds = [a] := by
  match ds, h with
  | [a], _ => exact ⟨a, rfl⟩
theorem len2 {ds : List PyData} (h : ds.length = 2) : ∃ a b, ds = [a, b] := by
  match ds, h with
  | [a, b], _ => exact ⟨a, b, rfl⟩
theorem len3 {ds : List PyData} (h : ds.length = 3) : ∃ a b c, ds = [a, b, c] := by
  match ds, h with
  | [a, b, c], _ => exact ⟨a, b, c, rfl⟩
theorem len4 {ds : List PyData} (h : ds.length = 4) : ∃ a b c d, ds = [a, b, c, d] := by
  match ds, h with
  | [a, b, c, d], _ => exact ⟨a, b, c, d, rfl⟩
/-! defs of which only matters whether they raise -/
def XVSp (R : List PyData → Prop → (Addr → Prop) → Prop) : Sp := fun vs H Q E => ∃ (O : Addr → Prop) (ds : List PyData) (P : Prop) (Pe : Addr → Prop), (∀ p, O p → H p ≠ none) ∧ DnAll O H vs ds ∧ R ds P Pe ∧ (∀ v H', Same H H' → P → Q v H') ∧ ∀ c H', Same H H' → Pe c → E (.ref c) none H'
def DSV (E : EK) (Xc : XP) (t : TS) (ρ : List Slot) (P : Prop) : Prop := ∀ C O σ H (D : Ends), Rel C O ρ σ H → EOk E Xc C → (∀ O' ρ' σ' v H', Rel C O' ρ' σ' H' → P → D.rt v H') → t D σ H
section
variable {E : EK} {Xc : XP} {ρ : List Slot} {P : Prop} {t s : TS} {ta : TA} {N : List Slot → Prop} {R : RK}
theorem dsv_seq (h : DS E Xc t ρ (fun ρ' => DSV E Xc s ρ' P) (fun _ _ => P)) : DSV E Xc (tSeq t s) ρ P := fun C O σ H D x e rt =>
  h C O σ H { D with nx := s D } x e (fun O' ρ' σ' H' x' n => n C O' σ' H' D x' e rt) fun O' ρ' σ' v d H' x' y p => rt O' ρ' σ' v H' x' p
theorem dsv_ret {te : TE} (h : EvP E Xc te ρ fun _ => P) : DSV E Xc (tRet te) ρ P := fun C O σ H D x e rt =>
  h C O σ H x e _ fun v d H' x' k y p => rt O ρ σ v H' x' p
theorem dsv_seqIf {c : TT} (h : EvT E Xc c ρ fun b => if b = true then DSV E Xc t ρ P else DSV E Xc s ρ P) : DSV E Xc (tSeq (tIfS c t tNext) s) ρ P := fun C O σ H D x e rt =>
  h C O σ H x e _ fun b H1 x1 k1 p => by
    cases b with
    | true => exact p C O σ H1 { D with nx := s D } x1 e rt
    | false => exact p C O σ H1 D x1 e rt
theorem dsv_mk {E0' : XK} {C : Addr} {Rn : List PyData → (PyData → List PyData → List PyData → Prop) → (Addr → Prop) → Prop} (h : EvA (WE (WD E0')) Xc ta ρ fun ds => Rn ds (fun _ _ _ => P) (Xc ρ)) : DSV (WE (WD E0')) Xc (tRet (tMake C (NSp C Rn) [] E0' ta)) ρ P := fun Cx O σ H D x e rt =>
  h Cx O σ H x e _ fun vs ds H1 x1 k1 y1 h1 => fun q dx nq nd ne => by
    have s1 : Same H1 (upd H1 dx (.own q)) := same_upd nd
    have nq2 : upd H1 dx (.own q) q = none := by rw [upd_ne (Ne.symm ne)]; exact nq
    have s2 : Same H1 (upd (upd H1 dx (.own q)) q (.ins C dx [])) := s1.trans (same_upd nq2)
    rw [List.append_nil]
    refine ⟨O, q, dx, vs, ds, _, _, rfl, fun p hp e => x1.domN p hp (s2.free e), x1.notO nq, upd_same, y1.keep (.of s2), h1, fun aL aI aM lad line mov H' k nL nI nM w pz => ⟨rfl, ?_⟩, fun c H' s z => ?_⟩
    · have g : Same H1 H' := fun a o ea => k a o (ne_of_none ea nq) (s2 a o ea)
      exact rt O ρ σ _ H' (x1.grow g) pz
    · exact e c O ρ σ H' (x1.grow (s2.trans s)) z
theorem ds_dropV {Rx : List PyData → Prop → (Addr → Prop) → Prop} {W : WX} (h : EvA (WE W) Xc ta ρ fun ds => Rx ds (N ρ) (Xc ρ)) : DS (WE W) Xc (tDrop (tCallS (XVSp Rx) (WE W) ta)) ρ N R := fun C O σ H D x e nx rt =>
  h C O σ H x e _ fun vs ds H1 x1 k1 y1 h1 => ⟨O, ds, _, Xc ρ, x1.domN, y1, h1, fun v H2 s n => nx O ρ σ H2 (x1.grow s) n, fun c H2 s p => e c O ρ σ H2 (x1.grow s) p⟩
end
section
variable {X : Cx} {C : Addr} {k j : Nat} {sp : Sp} {ps : List Str} {e : Expr} {es : List Expr} {t : TA} {E : XK}
theorem passD (tk : Takes X (WD E)) : Passes (L2.CX X.prog X.w) X E := fun pins σ H s e s' I c => passAt tk σ pins H s e s' I c
theorem pe_mkX (h : HasM X.prog X.w X.K X.mg X.base (L2.CX X.prog X.w) C "__init__" ps k sp) (T : WTxt X.K X.mg C) (hr : Room j X.A) (hj : k + 1 ≤ j) {p pos : Pos} (hg : Gl X "Walker") (tk : Takes X (WD E)) (ha : PA X (e :: es) t)
    (he : starEach (e :: es) X.env = (false, eval e X.env) :: starEach es X.env := by rfl) (hpl : (backTo pos (starEach es X.env)).any (·.1) = false := by rfl) :
    PE X (.Call (.Name "Walker" p) (e :: es) [] pos) (tMake C sp [] E t) := by
  obtain ⟨f, fd, F, M, b⟩ := h
  exact pe_make ⟨T.mks, M.at_, M.fn, T.kp⟩ F (hr.mono hj) hg T.g b .nil (passD tk) ha (by decide) he hpl
end
section
variable {P : Program} {w : World} {K : PySem.W.Frag} {mg : Str → Option Value} {base : Heap}
theorem has_pureXV {x : Str} {st : Stmt} {N ps : List Str} {k : Nat} {R : List PyData → Prop → (Addr → Prop) → Prop} (F : DefIn K mg x st ps) (S : FnScope N ps (defScope st)) (len : ∀ ds Q Z, R ds Q Z → ds.length = ps.length)
    (hb : ∀ (f : Addr) (cdv : Value) (A : Around) (outer : List Env) (s : Shared) (H : Hp) (E : XK), Room k (A.deeper (envOfC x (defScope st) s.heap.objs.size f cdv)) →
      ∃ t, PSs (cxOf (L2.CX P w) P w K mg base N x (defScope st) f cdv A outer s H E) (defBody st) t ∧ ∀ ds Q Z, R ds Q Z → DSV (WE (WD E)) (fun _ => Z) t (entry N.length ds) Q) : Has P w K mg base (L2.CX P w) x ps (k + 1) (XVSp R) := by
  obtain ⟨f, fd, F, m, b⟩ := F
  refine ⟨f, fd, F.okX S (fun vs H Q E h => ?_) (fun cdv A outer s H vs Q E hr h => ?_), m, F.kp, b⟩
  · obtain ⟨O, ds, P', Z, _, y, r, _⟩ := h
    rw [y.length]; exact len ds P' Z r
  · obtain ⟨O, ds, P', Z, hd, y, r, q, qe⟩ := h
    obtain ⟨t, ht, h⟩ := hb f cdv A outer s H E hr
    exact ⟨t, ht, h ds P' Z r _ O _ H _ (rel_entry hd y) (fun c O' ρ' σ' H' x z => qe c H' (fun a o e => x.frame a o e id) z) fun O' ρ' σ' v H' x p => q v H' (fun a o e => x.frame a o e id) p⟩
end
end LW

namespace LW
open PySem PySem.Spec PyProof.Rows L2
/-! ### errors (k12) -/
def R_initX (er : Er) (ds : List PyData) (P : PyData → List PyData → List PyData → Prop) (Z : Addr → Prop) : Prop := ds.length = 2 ∧ (∀ j, fst1 (ds.headD .none) [.L, .R] ds = some j → Z (erAt er j)) ∧ (fst1 (ds.headD .none) [.L, .R] ds = none → ∀ xs r, ds = [.list xs, r] → P (.list xs) [r] [])
def halfR : Rat × Rat := (1/2, 1/2)
theorem half_gs : Gs halfR := ⟨by decide +kernel, by decide +kernel, by decide +kernel, ⟨6, by decide +kernel⟩, ⟨6, by decide +kernel⟩⟩
theorem half_sy : Sy halfR := ⟨ex_sh.1, ex_sh.1, by decide +kernel⟩
theorem halfR_enc : PyData.tuple [.tuple [.int 1, .int 2], .tuple [.int 1, .int 2]] = encR halfR := by rw [c1_2]; rfl
def oneH : Lad := [halfR]
theorem oneH_gl : GL oneH := ⟨Nat.le_refl 1, fun x hx => by rw [List.mem_singleton.mp hx]; exact half_gs⟩
theorem oneH_ok : Lok oneH := oneH_gl.ok (Nat.le_of_ble_eq_true rfl)
theorem oneH_enc : PyData.list [.tuple [.tuple [.int 1, .int 2], .tuple [.int 1, .int 2]]] = encL oneH := by rw [halfR_enc]; rfl
/-- a good ladder -/
structure Gd (L : Lad) : Prop where
  gl : GL L
  le : L.length ≤ 8
theorem Gd.ok {L : Lad} (g : Gd L) : Lok L := g.gl.ok g.le
theorem Gd.sz {L : Lad} (g : Gd L) : Sz L := g.gl.sz g.le
theorem Gd.is {L : Lad} (g : Gd L) : isLadderD (encL L) = true := ladder_enc g.ok
theorem ln_enc (L : Lad) : lnD (encL L) = (L.length : Int) := by show ((L.map encR).length : Int) = _; rw [List.length_map]
theorem isInt_t {i lo hi : Int} (h1 : lo ≤ i) (h2 : i ≤ hi) : isIntIn (.int i) lo hi = true := isInt_iff.mpr ⟨i, rfl, h1, h2⟩
inductive OOne (k : Int) (d : PyData) : Option Nat → Prop
  | lad (h0 : 0 ≤ k) (h14 : k ≤ 14) (h : isLadderD d = false) : OOne k d (some 0)
  | done (h0 : 0 ≤ k) (h14 : k ≤ 14) (L : Lad) (e : d = encL L) (g : Gd L) (h6 : L.length ≤ 6) : OOne k d none
inductive ORun (k : Int) (d r n : PyData) : Option Nat → Prop
  | lad (h0 : 0 ≤ k) (h15 : k ≤ 15) (h : isLadderD d = false) : ORun k d r n (some 0)
  | rung (h0 : 0 ≤ k) (h15 : k ≤ 15) (h : isLadderD d = true) (hr : isIntIn r 0 (lnD d + 1) = false) : ORun k d r n (some 1)
  | many (h0 : 8 ≤ k) (h14 : k ≤ 14) (h : isLadderD d = true) (hr : isIntIn r 0 (lnD d + 1) = true) (hn : isIntIn n 0 60 = false) : ORun k d r n (some 3)
  | share (h15 : k = 15) (h : isLadderD d = true) (hr : isIntIn r 0 (lnD d + 1) = true) (hn : isShareD n = false) : ORun k d r n (some 2)
  | done (h0 : 0 ≤ k) (h13 : k ≤ 13) (L : Lad) (i t : Int) (e : d = encL L) (g : Gd L) (er : r = .int i) (h1 : 0 ≤ i) (h2 : i ≤ L.length + 1) (en : n = .int t) (h3 : 0 ≤ t) (h4 : t ≤ 60) (h5 : k = 13 → i ≠ 0) : ORun k d r n none
  | none (hk : k = 13) (L : Lad) (t : Int) (e : d = encL L) (g : Gd L) (er : r = .int 0) (en : n = .int t) (h3 : 0 ≤ t) (h4 : t ≤ 60) : ORun k d r n (some 5)
  | by_ (hk : k = 15) (L : Lad) (i : Int) (u : Rat) (e : d = encL L) (g : Gd L) (er : r = .int i) (h1 : 0 ≤ i) (h2 : i ≤ L.length + 1) (en : n = enc u) (hu : Sh u) : ORun k d r n none
inductive OInn (k : Int) (d r n : PyData) : Option Nat → Prop
  | lad (h0 : 0 ≤ k) (h6 : k ≤ 6) (h : isLadderD d = false) : OInn k d r n (some 0)
  | rung (h0 : 0 ≤ k) (h6 : k ≤ 6) (h : isLadderD d = true) (hr : isIntIn r 1 (lnD d) = false) (hw : 5 ≤ k → isIntIn r 1 (lnD d + 1) = false) : OInn k d r n (some 1)
  | share (h4 : 4 ≤ k) (h6 : k ≤ 6) (h : isLadderD d = true) (hr : k = 4 → isIntIn r 1 (lnD d) = true) (hw : isIntIn r 1 (lnD d + 1) = true) (hn : isShareD n = false) : OInn k d r n (some 2)
  | done (h0 : 0 ≤ k) (h6 : k ≤ 6) (L : Lad) (e : d = encL L) (g : Gd L) (hl : 2 ≤ L.length) (hl7 : L.length ≤ 7) (er : r = .int 1) (en : n = enc (1/2)) : OInn k d r n none
def R_law_one (er : Er) (ds : List PyData) (P : PyData → Prop) (Z : Addr → Prop) : Prop := ∃ k d j, ds = [.int k, d] ∧ OOne k d j ∧ (j = none → ∀ v, P v) ∧ (∀ i, j = some i → Z (erAt er i))
def R_law_run (er : Er) (ds : List PyData) (P : Prop) (Z : Addr → Prop) : Prop := ∃ k d r n j, ds = [.int k, d, r, n] ∧ ORun k d r n j ∧ (j = none → P) ∧ (∀ i, j = some i → Z (erAt er i))
def R_law_inn (er : Er) (ds : List PyData) (P : PyData → Prop) (Z : Addr → Prop) : Prop := ∃ k d r n j, ds = [.int k, d, r, n] ∧ OInn k d r n j ∧ (j = none → ∀ v, P v) ∧ (∀ i, j = some i → Z (erAt er i))
def ansS : Option Nat → Str
  | none => "done"
  | some j => errNames.getD j ""
def OAsk (g k : Int) (d r n : PyData) (j : Option Nat) : Prop := (g = 1 ∧ OOne k d j) ∨ (g = 2 ∧ ORun k d r n j) ∨ (g = 3 ∧ OInn k d r n j)
theorem OAsk.ix {g k : Int} {d r n : PyData} {i : Nat} (o : OAsk g k d r n (some i)) : i = 0 ∨ i = 1 ∨ i = 2 ∨ i = 3 ∨ i = 5 := by
  rcases o with ⟨_, o⟩ | ⟨_, o⟩ | ⟨_, o⟩
  · cases o; exact .inl rfl
  · cases o
    · exact .inl rfl
    · exact .inr (.inl rfl)
    · exact .inr (.inr (.inr (.inl rfl)))
    · exact .inr (.inr (.inl rfl))
    · exact .inr (.inr (.inr (.inr rfl)))
  · cases o
    · exact .inl rfl
    · exact .inr (.inl rfl)
    · exact .inr (.inr (.inl rfl))
def R_law_asked (ds : List PyData) (P : PyData → Prop) : Prop := ∃ g k d r n j, ds = [.int g, .int k, d, r, n] ∧ OAsk g k d r n j ∧ P (.str (ansS j))
theorem S_law_asked {g k : Int} {d r n : PyData} {j : Option Nat} {P : PyData → Prop} (h : OAsk g k d r n j) (p : P (.str (ansS j))) : R_law_asked [.int g, .int k, d, r, n] P := ⟨g, k, d, r, n, j, rfl, h, p⟩
section
variable {er : Er} {ds : List PyData} {P : PyData → List PyData → List PyData → Prop} {Z : Addr → Prop}
theorem S_initXe {j : Nat} (hl : ds.length = 2) (h : fst1 (ds.headD .none) [.L, .R] ds = some j) (z : Z (erAt er j)) : R_initX er ds P Z := ⟨hl, (fun i e => by rw [h] at e; cases e; exact z), (fun e => by rw [h] at e; cases e)⟩
theorem S_initXo {p : Prop} (hl : ds.length = 2) (h : fst1 (ds.headD .none) [.L, .R] ds = none) (z : p) : R_initX er ds (fun _ _ _ => p) Z := ⟨hl, (fun i e => by rw [h] at e; cases e), fun _ _ _ _ => z⟩
end
end LW

namespace LW
open PySem PySem.Spec PyProof.Rows L2
theorem mem_rng {lo : Int} {n : Nat} {d : PyData} (h : d ∈ rangeD lo n) : ∃ i : Nat, i < n ∧ d = .int (lo + i) := by
  obtain ⟨i, hi, e⟩ := List.mem_map.mp h
  exact ⟨i, List.mem_range.mp hi, e.symm⟩
section
variable {K : PySem.W.Frag} {P : PyData → Prop}
theorem rp_neReps {n m : Nat} {s : Str} (hs : PyData.strOk s = true) (e : n = m) (p : P (.bool false)) : RP (rNeD K) (.list (List.replicate n (.str s))) (.list (List.replicate m [.str s]).flatten) P := by
  subst e
  rw [rep_flat, reps_map]
  refine rp_neStrs (reps_ok hs _) (reps_ok hs _) ?_
  rw [decide_eq_true rfl]; exact p
end
theorem rng_len (lo : Int) (n : Nat) : (rangeD lo n).length = n := by unfold rangeD; rw [List.length_map, List.length_range]
def R_law_numbers (ds : List PyData) (P : PyData → Prop) : Prop := ∃ L : Lad, ds = [encL L, .int ((L.length : Int) + 1)] ∧ Gd L ∧ 2 ≤ L.length ∧ L.length ≤ 6 ∧ P (.bool true)
theorem S_law_numbers {L : Lad} {P : PyData → Prop} (g : Gd L) (h2 : 2 ≤ L.length) (h6 : L.length ≤ 6) (p : P (.bool true)) : R_law_numbers [encL L, .int ((L.length : Int) + 1)] P := ⟨L, rfl, g, h2, h6, p⟩
theorem hf_gd {n : Nat} (h1 : 1 ≤ n) (h8 : n ≤ 8) : Gd (hfL n) := ⟨⟨by unfold hfL; rw [List.length_replicate]; exact h1, fun x hx => by rw [List.eq_of_mem_replicate hx]; exact half_gs⟩, by unfold hfL; rw [List.length_replicate]; exact h8⟩
theorem Gd.r1 {L : Lad} (g : Gd L) : isIntIn (.int 1) 0 (lnD (encL L) + 1) = true := by rw [ln_enc]; exact isInt_t (by decide) (by omega)
theorem Gd.i1 {L : Lad} (g : Gd L) : isIntIn (.int 1) 1 (lnD (encL L)) = true := by have := g.gl.ge; rw [ln_enc]; exact isInt_t (by decide) (by omega)
theorem Gd.w1 {L : Lad} (g : Gd L) : isIntIn (.int 1) 1 (lnD (encL L) + 1) = true := by rw [ln_enc]; exact isInt_t (by decide) (by omega)
theorem c1_1000 : PyData.tuple [.int 1, .int 1000] = enc (1/1000) := encq (by decide +kernel) (by decide +kernel)
theorem sh_1000 : Sh (1/1000) := ⟨by decide +kernel, by decide +kernel, by decide +kernel⟩
/-- what is no rung of a ladder of n rungs between -/
def badRung (n : Int) (d : PyData) : Prop := isIntIn d 0 (n + 1) = false
theorem int_off {i lo hi : Int} (h : i < lo ∨ hi < i) : isIntIn (.int i) lo hi = false := by
  show (decide (lo ≤ i) && decide (i ≤ hi)) = false
  rcases h with h | h
  · rw [decide_eq_false (by omega)]; rfl
  · rw [decide_eq_false (show ¬ i ≤ hi by omega), Bool.and_false]
end LW

namespace LW
open PySem PySem.Spec PyProof.Rows L2
local macro_rules | `(tactic| walk_at "gDS") => `(tactic| first
  | (with_reducible refine ds_seq ?_)
  | (with_reducible refine ds_next ?_)
  | (with_reducible refine ds_ret ?_)
  | (with_reducible refine ds_dropC ?_)
  | (with_reducible refine ds_dropS ?_)
  | (with_reducible refine ds_par ?_)
  | ((with_reducible refine' ds_setI ?hx1 ?hx2); (case hx1 => exact rfl))
  | ((with_reducible refine' ds_exc ?hx1 ?hx2); (case hx1 => exact rfl))
  | (with_reducible refine ds_walker ?_)
  | (with_reducible refine ds_asg ?_)
  | (with_reducible refine ds_asgG ?_)
  | (with_reducible refine ds_forI ?_))
local macro_rules | `(tactic| walk_at "gJ") => `(tactic| first
  | (with_reducible refine ej_cons ?_)
  | (with_reducible refine ej_nil ?_))
local macro_rules | `(tactic| walk_at "gI") => `(tactic| first
  | (with_reducible refine ei_str ?_)
  | (with_reducible refine ei_list ?_)
  | (with_reducible refine ei_tup ?_)
  | (with_reducible refine ei_rng1 ?_)
  | (with_reducible refine ei_rng2 ?_)
  | (with_reducible refine ei_enum ?_)
  | (with_reducible refine ei_zip ?_))
local macro_rules | `(tactic| walk_at "gRC") => `(tactic| first
  | ((with_reducible refine' rc_lenS ?hx1 ?hx2); (case hx1 => omega))
  | (with_reducible refine rc_abs ?_)
  | (with_reducible refine rc_min ?_)
  | (with_reducible refine rc_lenM ?_)
  | ((with_reducible refine' rc_len ?hx1 ?hx2); (case hx1 => exact rfl)))
local macro_rules | `(tactic| walk_at "gZ") => `(tactic| first
  | ((with_reducible refine ex_sep ?hx1 ?hx2); (case hx1 => exact rfl))
  | ((with_reducible refine' S_common ?hx1 ?hx2 ?_); (case hx1 => omega); (case hx2 => omega))
  | ((with_reducible refine' S_is_int ?_))
  | ((with_reducible refine' S_is_share ?_))
  | ((with_reducible refine' S_is_ladder ?_))
  | ((with_reducible refine' S_law_true ?_))
  | (with_reducible refine ex_bool ?_)
  | (with_reducible refine ex_int ?_)
  | (with_reducible refine ex_list ?_)
  | (with_reducible refine ex_str ?_)
  | (with_reducible refine ex_tuple ?_)
  | (with_reducible refine ex_arg1 ?_)
  | (with_reducible refine ex_arg2 ?_)
  | (with_reducible refine ex_argL ?_)
  | (with_reducible refine ex_argLL ?_)
  | (with_reducible refine ex_pair ?_)
  | ((with_reducible refine and_len ?hx1 ?hx2); (case hx1 => (first | exact Nat.le_of_ble_eq_true rfl | omega)))
  | ((with_reducible refine and_rng ?hx1 ?hx2); (case hx1 => omega))
  | ((with_reducible refine and_rng2 ?hx1 ?hx2); (case hx1 => omega))
  | (refine iteT ?_)
  | (refine iteF ?_))
local macro_rules | `(tactic| walk_at "gA") => `(tactic| first
  | (with_reducible refine ea_cons ?_)
  | (with_reducible refine ea_nil ?_))
local macro_rules | `(tactic| walk_at "gT") => `(tactic| first
  | (with_reducible refine et_test ?_)
  | (with_reducible refine et_B ?_)
  | (with_reducible refine et_and ?_)
  | (with_reducible refine et_or ?_)
  | (with_reducible refine et_not ?_)
  | (with_reducible refine et_yes ?_))
local macro_rules | `(tactic| walk_at "gO") => `(tactic| first
  | (with_reducible refine eo_none ?_)
  | (with_reducible refine eo_some ?_))
local macro_rules | `(tactic| walk_at "gG") => `(tactic| first
  | ((with_reducible refine dg_name ?hx1 ?hx2); (case hx1 => (first | exact trivial | (show _ ∈ _; decide))))
  | ((with_reducible refine dg_tup2 ?hx1 ?hx2 ?hx3); (case hx1 => (first | exact trivial | (show _ ∈ _; decide))); (case hx2 => (first | exact trivial | (show _ ∈ _; decide))))
  | ((with_reducible refine dg_enc ?hx1 ?hx2 ?hx3); (case hx1 => (first | exact trivial | (show _ ∈ _; decide))); (case hx2 => (first | exact trivial | (show _ ∈ _; decide))))
  | ((with_reducible refine dg_tup3 ?hx1 ?hx2 ?hx3 ?hx4); (case hx1 => (first | exact trivial | (show _ ∈ _; decide))); (case hx2 => (first | exact trivial | (show _ ∈ _; decide))); (case hx3 => (first | exact trivial | (show _ ∈ _; decide)))))
local macro_rules | `(tactic| walk_at "gRU") => `(tactic| first
  | (with_reducible refine ru_neg ?_))
local macro_rules | `(tactic| walk_at "gPVar") => `(tactic| first
  | ((with_reducible refine' ev_var ?hx1 ?hx2); (case hx1 => exact rfl)))
local macro_rules | `(tactic| walk_at "gPC") => `(tactic| first
  | (with_reducible refine ev_int ?_)
  | (with_reducible refine ev_bl ?_)
  | (with_reducible refine ev_str ?_)
  | (with_reducible refine ev_non ?_))
local macro_rules | `(tactic| walk_at "gPOp") => `(tactic| first
  | ((with_reducible refine' ev_ixO ?hx1 ?hx2); (case hx1 => exact rfl))
  | ((with_reducible refine' ev_isNx ?hx1 ?hx2); (case hx1 => exact rfl))
  | ((with_reducible refine' ev_notNx ?hx1 ?hx2); (case hx1 => exact rfl))
  | (with_reducible refine ev_op ?_))
local macro_rules | `(tactic| walk_at "gPTup") => `(tactic| first
  | (with_reducible refine ev_zero ?_)
  | (with_reducible refine ev_one ?_)
  | (with_reducible refine ev_tup ?_))
local macro_rules | `(tactic| walk_at "gPCB") => `(tactic| first
  | (with_reducible refine ev_isInt ?_)
  | (with_reducible refine ev_isBool ?_)
  | (with_reducible refine ev_isList ?_)
  | (with_reducible refine ev_isTup ?_)
  | (with_reducible refine ev_isStr ?_)
  | ((with_reducible refine' ev_lenO ?hx1 ?hx2); (case hx1 => exact rfl))
  | ((with_reducible refine' ev_isXA ?hx1 ?hx2); (case hx1 => exact rfl))
  | ((with_reducible refine' ev_lenW ?hx1 ?hx2); (case hx1 => exact rfl))
  | (with_reducible refine ev_cb ?_))
local macro_rules | `(tactic| walk_at "gPCall") => `(tactic| first
  | ((with_reducible refine' ev_errA ?hx1 ?hx2); (case hx1 => exact rfl))
  | (with_reducible refine ev_call ?_)
  | ((with_reducible refine' ev_draw ?hx1 ?hx2); (case hx1 => exact rfl)))
local macro_rules | `(tactic| walk_at "gPCallS") => `(tactic| first
  | (with_reducible refine ev_callX ?_)
  | (with_reducible refine ev_callN ?_))
local macro_rules | `(tactic| walk_at "gP0") => `(tactic| first
  | ((with_reducible refine ev_lcI ?hx1 ?hx2); (case hx1 => exact plain_of rfl))
  | (with_reducible refine ev_fmt ?_)
  | (with_reducible refine ev_js ?_)
  | (with_reducible refine ev_join ?_)
  | (with_reducible refine ev_part ?_)
  | (with_reducible refine ev_split ?_)
  | (with_reducible refine ev_slS ?_)
  | (with_reducible refine ev_un ?_)
  | (with_reducible refine ev_lst ?_)
  | (with_reducible refine ev_if ?_)
  | (with_reducible refine ev_andV ?_)
  | (with_reducible refine ev_orV ?_)
  | (with_reducible refine ev_notV ?_)
  | (with_reducible refine ev_chain ?_)
  | (with_reducible refine ev_sl ?_)
  | (with_reducible refine ev_rev ?_))
local macro_rules | `(tactic| walk_at "gP") => `(tactic| first
  | ((with_reducible show EvP _ _ (tVar _) _ _); walk_at "gPVar")
  | ((with_reducible show EvP _ _ (tC _) _ _); walk_at "gPC")
  | ((with_reducible show EvP _ _ (tOp _ _ _) _ _); walk_at "gPOp")
  | ((with_reducible show EvP _ _ (tTup _) _ _); walk_at "gPTup")
  | ((with_reducible show EvP _ _ (tCB _ _) _ _); walk_at "gPCB")
  | ((with_reducible show EvP _ _ (tCall _ _ _ _) _ _); walk_at "gPCall")
  | ((with_reducible show EvP _ _ (tCallS _ _ _) _ _); walk_at "gPCallS")
  | walk_at "gP0")
local macro_rules | `(tactic| walk_at "gREq") => `(tactic| first
  | (with_reducible refine rp_eqI ?_)
  | (with_reducible refine rp_neI ?_)
  | (with_reducible refine rp_eqB ?_)
  | (with_reducible refine rp_neB ?_)
  | ((with_reducible refine' rp_eqS ?hx1 ?hx2 ?hx3); (case hx1 => decide +kernel); (case hx2 => decide +kernel))
  | ((with_reducible refine' rp_neS ?hx1 ?hx2 ?hx3); (case hx1 => decide +kernel); (case hx2 => decide +kernel))
  | (with_reducible refine rp_eqE ?_)
  | (with_reducible refine rp_neE ?_)
  | (with_reducible refine rp_eqNilE ?_)
  | (with_reducible refine rp_eqEs ?_)
  | (with_reducible refine rp_neEs ?_)
  | (with_reducible refine rp_eqL ?_)
  | (with_reducible refine rp_neL ?_)
  | (with_reducible refine rp_eqIs ?_)
  | (with_reducible refine rp_neIs ?_)
  | ((with_reducible refine' rp_eq ?hx1 ?hx2 ?_); (case hx1 => exact rfl); (case hx2 => exact rfl))
  | ((with_reducible refine' rp_ne ?hx1 ?hx2 ?_); (case hx1 => exact rfl); (case hx2 => exact rfl)))
local macro_rules | `(tactic| walk_at "gRP0") => `(tactic| first
  | (with_reducible refine rp_inSign ?_)
  | (with_reducible refine rp_plusI ?_)
  | (with_reducible refine rp_sub ?_)
  | (with_reducible refine rp_lt ?_)
  | (with_reducible refine rp_le ?_)
  | (with_reducible refine rp_gt ?_)
  | (with_reducible refine rp_ge ?_)
  | (with_reducible refine rp_enc0 ?_)
  | (with_reducible refine rp_enc1 ?_)
  | (with_reducible refine rp_in2 ?_)
  | (with_reducible refine rp_notin2 ?_)
  | (with_reducible refine rp_is ?_)
  | (with_reducible refine rp_isnot ?_)
  | (with_reducible refine rp_isN ?_)
  | (with_reducible refine rp_notN ?_)
  | ((with_reducible refine' rp_ixL ?hx1 ?hx2); (case hx1 => exact rfl))
  | ((with_reducible refine' rp_ixT ?hx1 ?hx2); (case hx1 => exact rfl)))
local macro_rules | `(tactic| walk_at "gRP") => `(tactic| first
  | ((with_reducible show RP (rEqD _) _ _ _); walk_at "gREq")
  | ((with_reducible show RP (rNeD _) _ _ _); walk_at "gREq")
  | walk_at "gRP0")
local macro_rules | `(tactic| walk_at "x0") => `(tactic| first
  | ((with_reducible show EvP _ _ _ _ _); walk_at "gP")
  | ((with_reducible show EvA _ _ _ _ _); walk_at "gA")
  | ((with_reducible show RP _ _ _ _); walk_at "gRP")
  | ((with_reducible show DS _ _ _ _ _ _); walk_at "gDS")
  | ((with_reducible show EvT _ _ _ _ _); walk_at "gT")
  | ((with_reducible show EvI _ _ _ _ _); walk_at "gI")
  | ((with_reducible show RC _ _ _); walk_at "gRC")
  | ((with_reducible show RU _ _ _); walk_at "gRU")
  | ((with_reducible show EvO _ _ _ _ _); walk_at "gO")
  | ((with_reducible show DG _ _ _ _ _); walk_at "gG")
  | walk_at "gZ"
  | walk_at "gJ")
local macro_rules | `(tactic| walk_at "x1") => `(tactic| first | walk_at "x0" | (with_reducible refine ds_if ?_))
local macro_rules | `(tactic| walk_at "xg") => `(tactic| repeat walk_at "x0")
local macro_rules | `(tactic| walk_at "xs") => `(tactic| repeat walk_at "x1")
local macro_rules | `(tactic| walk_at "len") => `(tactic| (intro ds Q h; first
  | (obtain ⟨c, e, _⟩ := h; subst e; cases c <;> rfl)
  | (obtain ⟨_, e, _⟩ := h; subst e; rfl) | (obtain ⟨_, _, e, _⟩ := h; subst e; rfl) | (obtain ⟨_, _, _, e, _⟩ := h; subst e; rfl) | (obtain ⟨_, _, _, _, e, _⟩ := h; subst e; rfl) | (obtain ⟨_, _, _, _, _, e, _⟩ := h; subst e; rfl)
  | (obtain ⟨_, _, _, _, _, _, e, _⟩ := h; subst e; rfl) | (obtain ⟨_, _, _, _, _, _, _, e, _⟩ := h; subst e; rfl)))

local macro_rules | `(tactic| walk_at "lenX") => `(tactic| (intro ds Q Z h; first
  | exact h.1
  | (obtain ⟨_, e, _⟩ := h; subst e; rfl) | (obtain ⟨_, _, e, _⟩ := h; subst e; rfl) | (obtain ⟨_, _, _, e, _⟩ := h; subst e; rfl) | (obtain ⟨_, _, _, _, e, _⟩ := h; subst e; rfl) | (obtain ⟨_, _, _, _, _, e, _⟩ := h; subst e; rfl)
  | (obtain ⟨_, _, _, _, _, _, e, _⟩ := h; subst e; rfl) | (obtain ⟨_, _, _, _, _, _, _, e, _⟩ := h; subst e; rfl)))

local macro_rules | `(tactic| walk_at "lenW") => `(tactic| (intro lad line mov ds Q Z h; first
  | (obtain ⟨_, _, _, _, _, _, e, _⟩ := h; subst e; rfl) | (obtain ⟨_, _, _, _, _, _, _, e, _⟩ := h; subst e; rfl)))
local macro_rules | `(tactic| walk_at "lenN") => `(tactic| (intro ds Q Z h; first
  | exact congrArg (· + 1) h.1
  | (obtain ⟨_, _, e, _⟩ := h; subst e; rfl) | (obtain ⟨_, e, _⟩ := h; subst e; rfl)))
local macro_rules | `(tactic| walk_at "xw") => `(tactic| repeat (first
  | ((with_reducible refine' ev_ixI (i := 0) (by assumption) ?hx1 ?hx2); (case hx1 => exact rfl))
  | ((with_reducible refine' ev_fldL (i := 0) (by assumption) ?hx1 ?hx2); (case hx1 => exact rfl))
  | walk_at "x1"))
local macro_rules | `(tactic| walk_at "xe0") => `(tactic| first
  | (with_reducible refine eg_cons ?_)
  | (with_reducible refine eg_nil ?_)
  | (with_reducible refine eg_tup ?_)
  | (with_reducible refine eg_int ?_)
  | ((with_reducible refine' eg_own ?hx1 ?hx2); (case hx1 => exact rfl))
  | ((with_reducible refine' eg_var ?hx1 ?hx2); (case hx1 => exact rfl))
  | ((with_reducible refine and_len ?hx1 ?hx2); (case hx1 => (first | exact Nat.le_of_ble_eq_true rfl | omega))))
local macro_rules | `(tactic| walk_at "xe") => `(tactic| repeat walk_at "xe0")
def topS (i : Nat) : Stmt := PySem.Challenge.pw_ladderwalks_k12_errors.main.body.getD i (.Pass ⟨0, 0, 0, 0⟩)
section
variable {P : Program} {w : World} {K : PySem.W.Frag} {mg : Str → Option Value} {base : Heap} {er : Er} {wc : Addr}
abbrev s_law_error : Stmt := topS 85
abbrev N_law_error : List Str := ["caught", "kinds"]
theorem sc_law_error : FnScope N_law_error ["caught"] (defScope s_law_error) := ⟨rfl, rfl, rfl, by decide +kernel, rfl, by decide +kernel, by decide +kernel⟩
abbrev s_common : Stmt := topS 11
abbrev N_common : List Str := ["one", "other"]
theorem sc_common : FnScope N_common ["one", "other"] (defScope s_common) := ⟨rfl, rfl, rfl, by decide +kernel, rfl, by decide +kernel, by decide +kernel⟩
abbrev s_is_int : Stmt := topS 10
abbrev N_is_int : List Str := ["value", "low", "high"]
theorem sc_is_int : FnScope N_is_int ["value", "low", "high"] (defScope s_is_int) := ⟨rfl, rfl, rfl, by decide +kernel, rfl, by decide +kernel, by decide +kernel⟩
abbrev s_is_share : Stmt := topS 12
abbrev N_is_share : List Str := ["value"]
theorem sc_is_share : FnScope N_is_share ["value"] (defScope s_is_share) := ⟨rfl, rfl, rfl, by decide +kernel, rfl, by decide +kernel, by decide +kernel⟩
abbrev s_is_ladder : Stmt := topS 13
abbrev N_is_ladder : List Str := ["value", "one"]
theorem sc_is_ladder : FnScope N_is_ladder ["value"] (defScope s_is_ladder) := ⟨rfl, rfl, rfl, by decide +kernel, rfl, by decide +kernel, by decide +kernel⟩
abbrev s_checked : Stmt := topS 67
abbrev N_checked : List Str := ["ladder"]
theorem sc_checked : FnScope N_checked ["ladder"] (defScope s_checked) := ⟨rfl, rfl, rfl, by decide +kernel, rfl, by decide +kernel, by decide +kernel⟩
abbrev s_check_share : Stmt := topS 17
abbrev N_check_share : List Str := ["value"]
theorem sc_check_share : FnScope N_check_share ["value"] (defScope s_check_share) := ⟨rfl, rfl, rfl, by decide +kernel, rfl, by decide +kernel, by decide +kernel⟩
abbrev s_check_ladder : Stmt := topS 14
abbrev N_check_ladder : List Str := ["value"]
theorem sc_check_ladder : FnScope N_check_ladder ["value"] (defScope s_check_ladder) := ⟨rfl, rfl, rfl, by decide +kernel, rfl, by decide +kernel, by decide +kernel⟩
abbrev s_joined : Stmt := topS 73
abbrev N_joined : List Str := ["one", "other", "up", "down"]
theorem sc_joined : FnScope N_joined ["one", "other", "up", "down"] (defScope s_joined) := ⟨rfl, rfl, rfl, by decide +kernel, rfl, by decide +kernel, by decide +kernel⟩
abbrev s_share_text : Stmt := topS 79
abbrev N_share_text : List Str := ["value"]
theorem sc_share_text : FnScope N_share_text ["value"] (defScope s_share_text) := ⟨rfl, rfl, rfl, by decide +kernel, rfl, by decide +kernel, by decide +kernel⟩
abbrev s_format_ladder : Stmt := topS 80
abbrev N_format_ladder : List Str := ["ladder", "up", "down"]
theorem sc_format_ladder : FnScope N_format_ladder ["ladder"] (defScope s_format_ladder) := ⟨rfl, rfl, rfl, by decide +kernel, rfl, by decide +kernel, by decide +kernel⟩
abbrev s_lowest : Stmt := topS 20
abbrev N_lowest : List Str := ["top", "below", "divisor"]
theorem sc_lowest : FnScope N_lowest ["top", "below"] (defScope s_lowest) := ⟨rfl, rfl, rfl, by decide +kernel, rfl, by decide +kernel, by decide +kernel⟩
abbrev s_divided : Stmt := topS 24
abbrev N_divided : List Str := ["one", "other"]
theorem sc_divided : FnScope N_divided ["one", "other"] (defScope s_divided) := ⟨rfl, rfl, rfl, by decide +kernel, rfl, by decide +kernel, by decide +kernel⟩
abbrev s_plus : Stmt := topS 21
abbrev N_plus : List Str := ["one", "other"]
theorem sc_plus : FnScope N_plus ["one", "other"] (defScope s_plus) := ⟨rfl, rfl, rfl, by decide +kernel, rfl, by decide +kernel, by decide +kernel⟩
abbrev s_without_stays : Stmt := topS 70
abbrev N_without_stays : List Str := ["ladder", "found", "up", "down", "whole"]
theorem sc_without_stays : FnScope N_without_stays ["ladder"] (defScope s_without_stays) := ⟨rfl, rfl, rfl, by decide +kernel, rfl, by decide +kernel, by decide +kernel⟩
abbrev s_turned_over : Stmt := topS 68
abbrev N_turned_over : List Str := ["ladder", "up", "down"]
theorem sc_turned_over : FnScope N_turned_over ["ladder"] (defScope s_turned_over) := ⟨rfl, rfl, rfl, by decide +kernel, rfl, by decide +kernel, by decide +kernel⟩
abbrev s_minus : Stmt := topS 22
abbrev N_minus : List Str := ["one", "other"]
theorem sc_minus : FnScope N_minus ["one", "other"] (defScope s_minus) := ⟨rfl, rfl, rfl, by decide +kernel, rfl, by decide +kernel, by decide +kernel⟩
abbrev s_rests : Stmt := topS 65
abbrev N_rests : List Str := ["ladder", "up", "down"]
theorem sc_rests : FnScope N_rests ["ladder"] (defScope s_rests) := ⟨rfl, rfl, rfl, by decide +kernel, rfl, by decide +kernel, by decide +kernel⟩
abbrev s_times_of : Stmt := topS 23
abbrev N_times_of : List Str := ["one", "other"]
theorem sc_times_of : FnScope N_times_of ["one", "other"] (defScope s_times_of) := ⟨rfl, rfl, rfl, by decide +kernel, rfl, by decide +kernel, by decide +kernel⟩
abbrev s_total : Stmt := topS 25
abbrev N_total : List Str := ["some", "found", "one"]
theorem sc_total : FnScope N_total ["some"] (defScope s_total) := ⟨rfl, rfl, rfl, by decide +kernel, rfl, by decide +kernel, by decide +kernel⟩
abbrev s_products_of : Stmt := topS 30
abbrev N_products_of : List Str := ["some", "found", "one"]
theorem sc_products_of : FnScope N_products_of ["some"] (defScope s_products_of) := ⟨rfl, rfl, rfl, by decide +kernel, rfl, by decide +kernel, by decide +kernel⟩
abbrev s_quotients_of : Stmt := topS 28
abbrev N_quotients_of : List Str := ["ladder", "up", "down"]
theorem sc_quotients_of : FnScope N_quotients_of ["ladder"] (defScope s_quotients_of) := ⟨rfl, rfl, rfl, by decide +kernel, rfl, by decide +kernel, by decide +kernel⟩
abbrev s_between_of : Stmt := topS 31
abbrev N_between_of : List Str := ["ladder", "low", "high", "rung", "parts"]
theorem sc_between_of : FnScope N_between_of ["ladder", "low", "high", "rung"] (defScope s_between_of) := ⟨rfl, rfl, rfl, by decide +kernel, rfl, by decide +kernel, by decide +kernel⟩
abbrev s_top_of : Stmt := topS 32
abbrev N_top_of : List Str := ["ladder", "rung"]
theorem sc_top_of : FnScope N_top_of ["ladder", "rung"] (defScope s_top_of) := ⟨rfl, rfl, rfl, by decide +kernel, rfl, by decide +kernel, by decide +kernel⟩
abbrev s_given_of : Stmt := topS 58
abbrev N_given_of : List Str := ["ladder", "rung", "high", "up", "down", "tops", "one"]
theorem sc_given_of : FnScope N_given_of ["ladder", "rung", "high"] (defScope s_given_of) := ⟨rfl, rfl, rfl, by decide +kernel, rfl, by decide +kernel, by decide +kernel⟩
abbrev s_given_bottom : Stmt := topS 60
abbrev N_given_bottom : List Str := ["ladder", "rung"]
theorem sc_given_bottom : FnScope N_given_bottom ["ladder"] (defScope s_given_bottom) := ⟨rfl, rfl, rfl, by decide +kernel, rfl, by decide +kernel, by decide +kernel⟩
abbrev s_given_top : Stmt := topS 59
abbrev N_given_top : List Str := ["ladder", "rung"]
theorem sc_given_top : FnScope N_given_top ["ladder"] (defScope s_given_top) := ⟨rfl, rfl, rfl, by decide +kernel, rfl, by decide +kernel, by decide +kernel⟩
abbrev s_means_of : Stmt := topS 40
abbrev N_means_of : List Str := ["ladder", "ones", "others", "up", "down", "first", "found", "one", "other"]
theorem sc_means_of : FnScope N_means_of ["ladder"] (defScope s_means_of) := ⟨rfl, rfl, rfl, by decide +kernel, rfl, by decide +kernel, by decide +kernel⟩
abbrev s_longest_rung : Stmt := topS 43
abbrev N_longest_rung : List Str := ["ladder", "found", "best", "rung", "one"]
theorem sc_longest_rung : FnScope N_longest_rung ["ladder"] (defScope s_longest_rung) := ⟨rfl, rfl, rfl, by decide +kernel, rfl, by decide +kernel, by decide +kernel⟩
abbrev s_all_mean_steps : Stmt := topS 42
abbrev N_all_mean_steps : List Str := ["ladder"]
theorem sc_all_mean_steps : FnScope N_all_mean_steps ["ladder"] (defScope s_all_mean_steps) := ⟨rfl, rfl, rfl, by decide +kernel, rfl, by decide +kernel, by decide +kernel⟩
abbrev s_end_alike : Stmt := topS 37
abbrev N_end_alike : List Str := ["one", "other"]
theorem sc_end_alike : FnScope N_end_alike ["one", "other"] (defScope s_end_alike) := ⟨rfl, rfl, rfl, by decide +kernel, rfl, by decide +kernel, by decide +kernel⟩
abbrev s_is_fair : Stmt := topS 36
abbrev N_is_fair : List Str := ["ladder", "up", "down"]
theorem sc_is_fair : FnScope N_is_fair ["ladder"] (defScope s_is_fair) := ⟨rfl, rfl, rfl, by decide +kernel, rfl, by decide +kernel, by decide +kernel⟩
abbrev s_top_chances : Stmt := topS 35
abbrev N_top_chances : List Str := ["ladder", "rung"]
theorem sc_top_chances : FnScope N_top_chances ["ladder"] (defScope s_top_chances) := ⟨rfl, rfl, rfl, by decide +kernel, rfl, by decide +kernel, by decide +kernel⟩
abbrev s_quotients : Stmt := topS 29
abbrev N_quotients : List Str := ["ladder"]
theorem sc_quotients : FnScope N_quotients ["ladder"] (defScope s_quotients) := ⟨rfl, rfl, rfl, by decide +kernel, rfl, by decide +kernel, by decide +kernel⟩
abbrev s_law_one : Stmt := topS 88
abbrev N_law_one : List Str := ["which", "ladder"]
theorem sc_law_one : FnScope N_law_one ["which", "ladder"] (defScope s_law_one) := ⟨rfl, rfl, rfl, by decide +kernel, rfl, by decide +kernel, by decide +kernel⟩
abbrev s_next_of : Stmt := topS 49
abbrev N_next_of : List Str := ["ladder", "chances", "found", "rung", "one", "up", "down", "rest"]
theorem sc_next_of : FnScope N_next_of ["ladder", "chances"] (defScope s_next_of) := ⟨rfl, rfl, rfl, by decide +kernel, rfl, by decide +kernel, by decide +kernel⟩
abbrev s_less : Stmt := topS 26
abbrev N_less : List Str := ["one", "other"]
theorem sc_less : FnScope N_less ["one", "other"] (defScope s_less) := ⟨rfl, rfl, rfl, by decide +kernel, rfl, by decide +kernel, by decide +kernel⟩
abbrev s_after_of : Stmt := topS 50
abbrev N_after_of : List Str := ["ladder", "rung", "many", "found", "turn", "one"]
theorem sc_after_of : FnScope N_after_of ["ladder", "rung", "many"] (defScope s_after_of) := ⟨rfl, rfl, rfl, by decide +kernel, rfl, by decide +kernel, by decide +kernel⟩
abbrev s_check_rung : Stmt := topS 15
abbrev N_check_rung : List Str := ["ladder", "value"]
theorem sc_check_rung : FnScope N_check_rung ["ladder", "value"] (defScope s_check_rung) := ⟨rfl, rfl, rfl, by decide +kernel, rfl, by decide +kernel, by decide +kernel⟩
abbrev s_first_by : Stmt := topS 55
abbrev N_first_by : List Str := ["ladder", "rung", "share", "found", "many"]
theorem sc_first_by : FnScope N_first_by ["ladder", "rung", "share"] (defScope s_first_by) := ⟨rfl, rfl, rfl, by decide +kernel, rfl, by decide +kernel, by decide +kernel⟩
abbrev s_check_many : Stmt := topS 18
abbrev N_check_many : List Str := ["value"]
theorem sc_check_many : FnScope N_check_many ["value"] (defScope s_check_many) := ⟨rfl, rfl, rfl, by decide +kernel, rfl, by decide +kernel, by decide +kernel⟩
abbrev s_top_after : Stmt := topS 62
abbrev N_top_after : List Str := ["ladder", "rung", "many", "other"]
theorem sc_top_after : FnScope N_top_after ["ladder", "rung", "many", "other"] (defScope s_top_after) := ⟨rfl, rfl, rfl, by decide +kernel, rfl, by decide +kernel, by decide +kernel⟩
abbrev s_after_given_top : Stmt := topS 61
abbrev N_after_given_top : List Str := ["ladder", "rung", "many", "whole", "found", "place", "one"]
theorem sc_after_given_top : FnScope N_after_given_top ["ladder", "rung", "many"] (defScope s_after_given_top) := ⟨rfl, rfl, rfl, by decide +kernel, rfl, by decide +kernel, by decide +kernel⟩
abbrev s_likeliest : Stmt := topS 56
abbrev N_likeliest : List Str := ["ladder", "rung", "many", "found", "one", "own", "far"]
theorem sc_likeliest : FnScope N_likeliest ["ladder", "rung", "many"] (defScope s_likeliest) := ⟨rfl, rfl, rfl, by decide +kernel, rfl, by decide +kernel, by decide +kernel⟩
abbrev s_top_at : Stmt := topS 54
abbrev N_top_at : List Str := ["ladder", "rung", "many", "now"]
theorem sc_top_at : FnScope N_top_at ["ladder", "rung", "many"] (defScope s_top_at) := ⟨rfl, rfl, rfl, by decide +kernel, rfl, by decide +kernel, by decide +kernel⟩
abbrev s_ends_at : Stmt := topS 53
abbrev N_ends_at : List Str := ["ladder", "rung", "many", "now", "before"]
theorem sc_ends_at : FnScope N_ends_at ["ladder", "rung", "many"] (defScope s_ends_at) := ⟨rfl, rfl, rfl, by decide +kernel, rfl, by decide +kernel, by decide +kernel⟩
abbrev s_ended_by : Stmt := topS 52
abbrev N_ended_by : List Str := ["ladder", "rung", "many", "found"]
theorem sc_ended_by : FnScope N_ended_by ["ladder", "rung", "many"] (defScope s_ended_by) := ⟨rfl, rfl, rfl, by decide +kernel, rfl, by decide +kernel, by decide +kernel⟩
abbrev s_after : Stmt := topS 51
abbrev N_after : List Str := ["ladder", "rung", "many"]
theorem sc_after : FnScope N_after ["ladder", "rung", "many"] (defScope s_after) := ⟨rfl, rfl, rfl, by decide +kernel, rfl, by decide +kernel, by decide +kernel⟩
abbrev s_Walker_init__ : Stmt := inClass (topS 77) 0
abbrev N_Walker_init__ : List Str := ["self", "ladder", "rung"]
theorem sc_Walker_init__ : FnScope N_Walker_init__ ["self", "ladder", "rung"] (defScope s_Walker_init__) := ⟨rfl, rfl, rfl, by decide +kernel, rfl, by decide +kernel, by decide +kernel⟩
abbrev s_ever_of : Stmt := topS 44
abbrev N_ever_of : List Str := ["ladder", "rung", "other"]
theorem sc_ever_of : FnScope N_ever_of ["ladder", "rung", "other"] (defScope s_ever_of) := ⟨rfl, rfl, rfl, by decide +kernel, rfl, by decide +kernel, by decide +kernel⟩
abbrev s_check_inner : Stmt := topS 16
abbrev N_check_inner : List Str := ["ladder", "value"]
theorem sc_check_inner : FnScope N_check_inner ["ladder", "value"] (defScope s_check_inner) := ⟨rfl, rfl, rfl, by decide +kernel, rfl, by decide +kernel, by decide +kernel⟩
abbrev s_visits : Stmt := topS 46
abbrev N_visits : List Str := ["ladder", "rung", "other", "up", "down", "leaves"]
theorem sc_visits : FnScope N_visits ["ladder", "rung", "other"] (defScope s_visits) := ⟨rfl, rfl, rfl, by decide +kernel, rfl, by decide +kernel, by decide +kernel⟩
abbrev s_ever_at : Stmt := topS 45
abbrev N_ever_at : List Str := ["ladder", "rung", "other"]
theorem sc_ever_at : FnScope N_ever_at ["ladder", "rung", "other"] (defScope s_ever_at) := ⟨rfl, rfl, rfl, by decide +kernel, rfl, by decide +kernel, by decide +kernel⟩
abbrev s_mean_steps : Stmt := topS 41
abbrev N_mean_steps : List Str := ["ladder", "rung"]
theorem sc_mean_steps : FnScope N_mean_steps ["ladder", "rung"] (defScope s_mean_steps) := ⟨rfl, rfl, rfl, by decide +kernel, rfl, by decide +kernel, by decide +kernel⟩
abbrev s_mean_end : Stmt := topS 38
abbrev N_mean_end : List Str := ["ladder", "rung"]
theorem sc_mean_end : FnScope N_mean_end ["ladder", "rung"] (defScope s_mean_end) := ⟨rfl, rfl, rfl, by decide +kernel, rfl, by decide +kernel, by decide +kernel⟩
abbrev s_bottom_chance : Stmt := topS 34
abbrev N_bottom_chance : List Str := ["ladder", "rung"]
theorem sc_bottom_chance : FnScope N_bottom_chance ["ladder", "rung"] (defScope s_bottom_chance) := ⟨rfl, rfl, rfl, by decide +kernel, rfl, by decide +kernel, by decide +kernel⟩
abbrev s_top_chance : Stmt := topS 33
abbrev N_top_chance : List Str := ["ladder", "rung"]
theorem sc_top_chance : FnScope N_top_chance ["ladder", "rung"] (defScope s_top_chance) := ⟨rfl, rfl, rfl, by decide +kernel, rfl, by decide +kernel, by decide +kernel⟩
abbrev s_law_runged : Stmt := topS 89
abbrev N_law_runged : List Str := ["which", "ladder", "rung", "many"]
theorem sc_law_runged : FnScope N_law_runged ["which", "ladder", "rung", "many"] (defScope s_law_runged) := ⟨rfl, rfl, rfl, by decide +kernel, rfl, by decide +kernel, by decide +kernel⟩
abbrev s_with_rung : Stmt := topS 71
abbrev N_with_rung : List Str := ["ladder", "rung", "up", "down"]
theorem sc_with_rung : FnScope N_with_rung ["ladder", "rung", "up", "down"] (defScope s_with_rung) := ⟨rfl, rfl, rfl, by decide +kernel, rfl, by decide +kernel, by decide +kernel⟩
abbrev s_slower : Stmt := topS 69
abbrev N_slower : List Str := ["ladder", "rung", "share", "up", "down", "own"]
theorem sc_slower : FnScope N_slower ["ladder", "rung", "share"] (defScope s_slower) := ⟨rfl, rfl, rfl, by decide +kernel, rfl, by decide +kernel, by decide +kernel⟩
abbrev s_without_rung : Stmt := topS 72
abbrev N_without_rung : List Str := ["ladder", "rung"]
theorem sc_without_rung : FnScope N_without_rung ["ladder", "rung"] (defScope s_without_rung) := ⟨rfl, rfl, rfl, by decide +kernel, rfl, by decide +kernel, by decide +kernel⟩
abbrev s_stays_given_top : Stmt := topS 63
abbrev N_stays_given_top : List Str := ["ladder", "rung", "up", "down"]
theorem sc_stays_given_top : FnScope N_stays_given_top ["ladder", "rung"] (defScope s_stays_given_top) := ⟨rfl, rfl, rfl, by decide +kernel, rfl, by decide +kernel, by decide +kernel⟩
abbrev s_mean_stay : Stmt := topS 47
abbrev N_mean_stay : List Str := ["ladder", "rung"]
theorem sc_mean_stay : FnScope N_mean_stay ["ladder", "rung"] (defScope s_mean_stay) := ⟨rfl, rfl, rfl, by decide +kernel, rfl, by decide +kernel, by decide +kernel⟩
abbrev s_law_inner : Stmt := topS 90
abbrev N_law_inner : List Str := ["which", "ladder", "rung", "share"]
theorem sc_law_inner : FnScope N_law_inner ["which", "ladder", "rung", "share"] (defScope s_law_inner) := ⟨rfl, rfl, rfl, by decide +kernel, rfl, by decide +kernel, by decide +kernel⟩
abbrev s_law_asked : Stmt := topS 91
abbrev N_law_asked : List Str := ["group", "which", "ladder", "rung", "thing", "caught", "e"]
theorem sc_law_asked : FnScope N_law_asked ["group", "which", "ladder", "rung", "thing"] (defScope s_law_asked) := ⟨rfl, rfl, rfl, by decide +kernel, rfl, by decide +kernel, by decide +kernel⟩
abbrev s_law_numbers : Stmt := topS 92
abbrev N_law_numbers : List Str := ["ladder", "last", "bad", "k"]
theorem sc_law_numbers : FnScope N_law_numbers ["ladder", "last"] (defScope s_law_numbers) := ⟨rfl, rfl, rfl, by decide +kernel, rfl, by decide +kernel, by decide +kernel⟩
abbrev s_law_draw : Stmt := topS 83
abbrev N_law_draw : List Str := ["draws", "limit", "numbers", "at", "cell", "mixed"]
theorem sc_law_draw : FnScope N_law_draw ["draws", "limit"] (defScope s_law_draw) := ⟨rfl, rfl, rfl, by decide +kernel, rfl, by decide +kernel, by decide +kernel⟩
abbrev s_law_low : Stmt := topS 86
abbrev N_law_low : List Str := ["top", "under", "one", "other"]
theorem sc_law_low : FnScope N_law_low ["top", "under"] (defScope s_law_low) := ⟨rfl, rfl, rfl, by decide +kernel, rfl, by decide +kernel, by decide +kernel⟩
abbrev s_law_pick : Stmt := topS 84
abbrev N_law_pick : List Str := ["draws", "choices"]
theorem sc_law_pick : FnScope N_law_pick ["draws", "choices"] (defScope s_law_pick) := ⟨rfl, rfl, rfl, by decide +kernel, rfl, by decide +kernel, by decide +kernel⟩
abbrev s_law_ladder : Stmt := topS 87
abbrev N_law_ladder : List Str := ["draws", "most", "found", "plain", "k", "under", "up", "down"]
theorem sc_law_ladder : FnScope N_law_ladder ["draws", "most"] (defScope s_law_ladder) := ⟨rfl, rfl, rfl, by decide +kernel, rfl, by decide +kernel, by decide +kernel⟩
abbrev s_law_start : Stmt := topS 82
abbrev N_law_start : List Str := ["script"]
theorem sc_law_start : FnScope N_law_start ["script"] (defScope s_law_start) := ⟨rfl, rfl, rfl, by decide +kernel, rfl, by decide +kernel, by decide +kernel⟩
abbrev s_law0 : Stmt := topS 93
abbrev N_law0 : List Str := ["script", "draws", "half", "odd", "bad", "ladder", "last", "k"]
theorem sc_law0 : FnScope N_law0 ["script"] (defScope s_law0) := ⟨rfl, rfl, rfl, by decide +kernel, rfl, by decide +kernel, by decide +kernel⟩
theorem has_law_error (F : DefIn K mg "_law_error" s_law_error ["caught"]) (m_isinstance : mg "isinstance" = none) (G : GTxt mg er) : Has P w K mg base CX0 "_law_error" ["caught"] 1 (ESp K er) := by
  refine has_err F sc_law_error rfl rfl fun f cdv A outer s H E hr => ⟨_, (pss_cons (ps_set (i := 1) sc_law_error.nd rfl (by first | exact Or.inl rfl | exact Or.inr rfl) (pe_lst (pa_cons (pe_callB (call_isX (K := K) rfl) (by rfl) m_isinstance (by decide +kernel) (pa_cons (pv 0) (pa_cons (pe_glob (v := .ref er.bl) rfl G.bl rfl) pa_nil))) (pa_cons (pe_callB (call_isX (K := K) rfl) (by rfl) m_isinstance (by decide +kernel) (pa_cons (pv 0) (pa_cons (pe_glob (v := .ref er.br) rfl G.br rfl) pa_nil))) (pa_cons (pe_callB (call_isX (K := K) rfl) (by rfl) m_isinstance (by decide +kernel) (pa_cons (pv 0) (pa_cons (pe_glob (v := .ref er.bs) rfl G.bs rfl) pa_nil))) pa_nil)))))
        (pss_cons (ps_set (i := 1) sc_law_error.nd rfl (by first | exact Or.inl rfl | exact Or.inr rfl) (pe_op op_plus (pv 1) (pe_lst (pa_cons (pe_callB (call_isX (K := K) rfl) (by rfl) m_isinstance (by decide +kernel) (pa_cons (pv 0) (pa_cons (pe_glob (v := .ref er.bn) rfl G.bn rfl) pa_nil))) (pa_cons (pe_callB (call_isX (K := K) rfl) (by rfl) m_isinstance (by decide +kernel) (pa_cons (pv 0) (pa_cons (pe_glob (v := .ref er.bt) rfl G.bt rfl) pa_nil))) (pa_cons (pe_callB (call_isX (K := K) rfl) (by rfl) m_isinstance (by decide +kernel) (pa_cons (pv 0) (pa_cons (pe_glob (v := .ref er.nf) rfl G.nf rfl) pa_nil))) pa_nil))))))
        (pss_cons (ps_if (PW.pt (pw_or (pt_cmpR (opNe (K := K) rfl hr.units) (pe_cntK (K := K) rfl (pv 1) (pa_cons pe_bl pa_nil)) pe_int (nomark _)) (pw_or (pt_not (pt_val (pe_callB (call_isX (K := K) rfl) (by rfl) m_isinstance (by decide +kernel) (pa_cons (pv 0) (pa_cons (pe_glob (v := .ref er.le) rfl G.le rfl) pa_nil))))) (pw_or1 (pt_not (pt_val (pe_callB (call_isX (K := K) rfl) (by rfl) m_isinstance (by decide +kernel) (pa_cons (pv 0) (pa_cons (pe_bltn (v := .ty "ValueError") (by rfl) G.ve (by decide +kernel) rfl) pa_nil)))))))))
        (pss_one (ps_ret pe_str))
        pss_nil)
        (pss_one (ps_ret (pe_ix (ixS (K := K) rfl) (pe_lst (pa_cons pe_str (pa_cons pe_str (pa_cons pe_str (pa_cons pe_str (pa_cons pe_str (pa_cons pe_str pa_nil))))))) (pe_indK (K := K) rfl (pv 1) (pa_cons pe_bl pa_nil)) (fun _ _ => rfl))))))), ?_⟩
  intro D j s T hs
  have hj : j < 6 := by
    have := (List.getElem?_eq_some_iff.mp hs).1
    exact this
  walk_at "xs"
  refine ⟨_, _, (.own _), T.ec, T.k0, ?_⟩
  walk_at "xs"
  refine ⟨_, _, (.own _), T.ec, T.k1, ?_⟩
  walk_at "xs"
  refine ⟨_, _, (.own _), T.ec, T.k2, ?_⟩
  walk_at "xs"
  refine ⟨_, _, (.own _), T.ec, T.k3, ?_⟩
  walk_at "xs"
  refine ⟨_, _, (.own _), T.ec, T.k4, ?_⟩
  walk_at "xs"
  refine ⟨_, _, (.own _), T.ec, T.k5, ?_⟩
  walk_at "xs"
  refine rp_plusL (Nat.le_of_ble_eq_true rfl) ?_
  have hb : [PyData.bool (j == 0), .bool (j == 1), .bool (j == 2)] ++ [.bool (j == 3), .bool (j == 4), .bool (j == 5)] = [(j == 0), (j == 1), (j == 2), (j == 3), (j == 4), (j == 5)].map PyData.bool := rfl
  rw [hb]
  have hc : [(j == 0), (j == 1), (j == 2), (j == 3), (j == 4), (j == 5)].count true = 1 ∧ [(j == 0), (j == 1), (j == 2), (j == 3), (j == 4), (j == 5)][j]? = some true ∧ ∀ m, m < j → [(j == 0), (j == 1), (j == 2), (j == 3), (j == 4), (j == 5)][m]? = some false := by
    have : ∀ j, j < 6 → ([(j == 0), (j == 1), (j == 2), (j == 3), (j == 4), (j == 5)].count true = 1 ∧ [(j == 0), (j == 1), (j == 2), (j == 3), (j == 4), (j == 5)][j]? = some true ∧ ∀ m, m < j → [(j == 0), (j == 1), (j == 2), (j == 3), (j == 4), (j == 5)][m]? = some false) := by decide +kernel
    exact this j hj
  obtain ⟨c1, c2, c3⟩ := hc
  generalize [(j == 0), (j == 1), (j == 2), (j == 3), (j == 4), (j == 5)] = bs at *
  walk_at "xs"
  refine ev_cntB ?_
  walk_at "xs"
  refine ⟨bs, rfl, ?_⟩
  walk_at "xs"
  refine ⟨rfl, ?_⟩
  rw [c1]
  walk_at "xs"
  refine ⟨_, _, (.own _), T.ec, T.k6, ?_⟩
  walk_at "xs"
  refine ⟨_, _, (.ty _), T.ec, T.k7, ?_⟩
  walk_at "xs"
  refine ev_indB ?_
  walk_at "xs"
  refine ⟨bs, j, rfl, c2, c3, ?_⟩
  walk_at "xs"
  refine ⟨rfl, ?_⟩
  refine rp_ixL (d := .str s) ?_ rfl
  have : ∀ j : Nat, j < 6 → atI [PyData.str "ladder", .str "rung", .str "share", .str "number", .str "text", .str "none"] (j : Int) = (errNames[j]?).map PyData.str := by
    intro j hj
    match j, hj with
    | 0, _ => rfl
    | 1, _ => rfl
    | 2, _ => rfl
    | 3, _ => rfl
    | 4, _ => rfl
    | 5, _ => rfl
  rw [this j hj, hs]; rfl
theorem has_common (F : DefIn K mg "common" s_common ["one", "other"]) : Has P w K mg base CX0 "common" ["one", "other"] 1 (PSp R_common) := by
  refine has_pure F sc_common (by walk_at "len") fun f cdv A outer s H E hr => ⟨_, (pss_cons (ps_while PassesOwn.never (pt_cmpR (opNe (K := K) rfl hr.units) (pv 1) pe_int (nomark _))
        (pss_one (ps_par (i := 0) (j := 1) rfl sc_common.nd rfl rfl (by decide) rfl rfl (pa_cons (pv 1) (pa_cons (pe_op op_mod (pv 0) (pv 1)) pa_nil)) rfl)))
        (pss_one (ps_ret (pv 0)))), ?_⟩
  rintro ds Q ⟨a, b, rfl, ha, hb, q⟩
  refine ds_seq (ds_while (fun m ρ => ∃ x y : Int, ρ = [.dat (.int x), .dat (.int y)] ∧ 0 ≤ x ∧ 0 ≤ y ∧ m = y.toNat ∧ Nat.gcd x.toNat y.toNat = Nat.gcd a.toNat b.toNat) b.toNat ⟨a, b, rfl, ha, hb, rfl, rfl⟩ ?_)
  rintro m ρ' ⟨x, y, rfl, hx, hy, rfl, hg⟩
  walk_at "xs"
  refine iteN (fun h => ?_) (fun h => ?_)
  · walk_at "xs"
    have h1 := Int.emod_lt_of_pos x (show 0 < y by omega)
    have h2 := Int.emod_nonneg x h
    refine rp_mod (by omega) ?_
    refine ea_nil ⟨_, _, rfl, (x % y).toNat, by omega, y, x % y, rfl, hy, h2, rfl, ?_⟩
    rw [← hg, Nat.gcd_comm x.toNat, Nat.gcd_rec y.toNat x.toNat, Nat.gcd_comm, Int.toNat_emod hx hy]
  · walk_at "xs"
    rw [h] at hg
    simp only [Int.toNat_zero, Nat.gcd_zero_right] at hg
    rw [← hg] at q
    rw [Int.toNat_of_nonneg hx] at q
    exact q
theorem has_is_int (F : DefIn K mg "is_int" s_is_int ["value", "low", "high"]) (m_isinstance : mg "isinstance" = none) (m_bool : mg "bool" = none) (m_int : mg "int" = none) : Has P w K mg base CX0 "is_int" ["value", "low", "high"] 1 (PSp R_is_int) := by
  refine has_pure F sc_is_int (by walk_at "len") fun f cdv A outer s H E hr => ⟨_, (pss_one (ps_ret (pe_and (pe_callB (cIsi (K := K) rfl) (by rfl) m_isinstance (by decide +kernel) (pa_cons (pv 0) (pa_cons (pe_bltn (v := .ty "int") (by rfl) m_int (by decide +kernel) rfl) pa_nil))) (pe_and (pe_not (pe_callB (cIsi (K := K) rfl) (by rfl) m_isinstance (by decide +kernel) (pa_cons (pv 0) (pa_cons (pe_bltn (v := .ty "bool") (by rfl) m_bool (by decide +kernel) rfl) pa_nil)))) (pe_one (pe_chain op_le op_le (pv 1) (pv 0) (pv 2))))))), ?_⟩
  rintro ds Q ⟨d, lo, hi, rfl, q⟩
  walk_at "xs"
  cases d with
  | int i =>
    have q : Q (.bool (decide (lo ≤ i) && decide (i ≤ hi))) := q
    walk_at "xs"
    refine iteD (fun h => ?_) (fun h => ?_)
    · walk_at "xs"
      rw [decide_eq_true h] at q
      exact q
    · rw [decide_eq_false h] at q
      exact q
  | bool b =>
    walk_at "xs"
    exact q
  | _ =>
    walk_at "xs"
    exact q
theorem has_is_share (F : DefIn K mg "is_share" s_is_share ["value"]) (h_common : Has P w K mg base CX0 "common" ["one", "other"] 1 (PSp R_common)) (h_is_int : Has P w K mg base CX0 "is_int" ["value", "low", "high"] 1 (PSp R_is_int)) (m_len : mg "len" = none) (m_isinstance : mg "isinstance" = none) (m_tuple : mg "tuple" = none) (g_MOST_UNDER : ∃ t, mg "MOST_UNDER" = some (.int 1000 t)) : Has P w K mg base CX0 "is_share" ["value"] 2 (PSp R_is_share) := by
  obtain ⟨t_MOST_UNDER, g_MOST_UNDER⟩ := g_MOST_UNDER
  refine has_pure F sc_is_share (by walk_at "len") fun f cdv A outer s H E hr => ⟨_, (pss_cons (ps_if (PW.pt (pw_or (pt_not (pt_val (pe_callB (cIsi (K := K) rfl) (by rfl) m_isinstance (by decide +kernel) (pa_cons (pv 0) (pa_cons (pe_bltn (v := .ty "tuple") (by rfl) m_tuple (by decide +kernel) rfl) pa_nil))))) (pw_or (pt_cmpR (opNe (K := K) rfl hr.units) (pe_callB (cLen (K := K) rfl) (by rfl) m_len PySem.boot_len (pa_cons (pv 0) pa_nil)) pe_int (nomark _)) (pw_or1 (pt_not (pt_val (pe_h h_is_int hr (by decide) (by rfl) (pa_cons (pe_ix (ixS (K := K) rfl) (pv 0) pe_int (fun _ _ => rfl)) (pa_cons pe_int (pa_cons (pe_glob (v := .int 1000) rfl g_MOST_UNDER ⟨_, rfl⟩) pa_nil))))))))))
        (pss_one (ps_ret pe_bl))
        pss_nil)
        (pss_one (ps_ret (pe_and (pe_h h_is_int hr (by decide) (by rfl) (pa_cons (pe_ix (ixS (K := K) rfl) (pv 0) pe_int (fun _ _ => rfl)) (pa_cons pe_int (pa_cons (pe_ix (ixS (K := K) rfl) (pv 0) pe_int (fun _ _ => rfl)) pa_nil)))) (pe_one (pe_cmpR (opEq (K := K) rfl hr.units) (pe_h h_common hr (by decide) (by rfl) (pa_cons (pe_ix (ixS (K := K) rfl) (pv 0) pe_int (fun _ _ => rfl)) (pa_cons (pe_ix (ixS (K := K) rfl) (pv 0) pe_int (fun _ _ => rfl)) pa_nil))) pe_int (nomark _))))))), ?_⟩
  rintro ds Q ⟨d, rfl, q⟩
  by_cases hd : ∃ a b, d = .tuple [a, b]
  · obtain ⟨a, b, rfl⟩ := hd
    walk_at "xs"
    cases hb : isIntIn b 1 1000 with
    | false =>
      have e : isShareD (.tuple [a, b]) = false := by
        show (isIntIn b 1 1000 && _) = false
        rw [hb]; rfl
      rw [e] at q
      walk_at "xs"
      exact q
    | true =>
      obtain ⟨y, rfl, hy1, hy2⟩ := intIn_form hb
      walk_at "xs"
      cases ha : isIntIn a 1 y with
      | false =>
        have e : isShareD (.tuple [a, .int y]) = false := by
          show (isIntIn (.int y) 1 1000 && (isIntIn a 1 y && _)) = false
          rw [ha]; simp
        rw [e] at q
        walk_at "xs"
        exact q
      | true =>
        obtain ⟨x, rfl, hx1, hx2⟩ := intIn_form ha
        have e : isShareD (.tuple [.int x, .int y]) = decide (((Nat.gcd x.toNat y.toNat : Nat) : Int) = 1) := by
          show (isIntIn (.int y) 1 1000 && (isIntIn (.int x) 1 y && (Nat.gcd x.toNat y.toNat == 1))) = _
          rw [ha, hb, Bool.eq_iff_iff]
          simp
          omega
        rw [e] at q
        walk_at "xs"
        exact q
  · have e : isShareD d = false := by
      unfold isShareD
      split
      · exact absurd ⟨_, _, rfl⟩ hd
      · rfl
    rw [e] at q
    cases d with
    | tuple ds =>
      have hl := not_pair (ds := ds) fun a b e => hd ⟨a, b, e⟩
      walk_at "xs"
      rw [decide_eq_false (by omega)]
      walk_at "xs"
      exact q
    | _ =>
      walk_at "xs"
      exact q
theorem has_is_ladder (F : DefIn K mg "is_ladder" s_is_ladder ["value"]) (h_is_share : Has P w K mg base CX0 "is_share" ["value"] 2 (PSp R_is_share)) (m_len : mg "len" = none) (m_isinstance : mg "isinstance" = none) (m_tuple : mg "tuple" = none) (m_list : mg "list" = none) : Has P w K mg base CX0 "is_ladder" ["value"] 3 (PSp R_is_ladder) := by
  refine has_pure F sc_is_ladder (by walk_at "len") fun f cdv A outer s H E hr => ⟨_, (pss_cons (ps_if (PW.pt (pw_or (pt_not (pt_val (pe_callB (cIsi (K := K) rfl) (by rfl) m_isinstance (by decide +kernel) (pa_cons (pv 0) (pa_cons (pe_bltn (v := .ty "list") (by rfl) m_list (by decide +kernel) rfl) pa_nil))))) (pw_or1 (pt_not (pt_chain op_le op_le pe_int (pe_callB (cLen (K := K) rfl) (by rfl) m_len PySem.boot_len (pa_cons (pv 0) pa_nil)) pe_int)))))
        (pss_one (ps_ret pe_bl))
        pss_nil)
        (pss_cons (ps_for PassesOwn.never rfl (pi_listK (K := K) rfl (pv 0)) (pg_name (i := 1) sc_is_ladder.nd rfl (by first | exact Or.inl rfl | exact Or.inr rfl))
        (pss_cons (ps_if (PW.pt (pw_or (pt_not (pt_val (pe_callB (cIsi (K := K) rfl) (by rfl) m_isinstance (by decide +kernel) (pa_cons (pv 1) (pa_cons (pe_bltn (v := .ty "tuple") (by rfl) m_tuple (by decide +kernel) rfl) pa_nil))))) (pw_or (pt_cmpR (opNe (K := K) rfl hr.units) (pe_callB (cLen (K := K) rfl) (by rfl) m_len PySem.boot_len (pa_cons (pv 1) pa_nil)) pe_int (nomark _)) (pw_or (pt_not (pt_val (pe_h h_is_share hr (by decide) (by rfl) (pa_cons (pe_ix (ixS (K := K) rfl) (pv 1) pe_int (fun _ _ => rfl)) pa_nil)))) (pw_or1 (pt_not (pt_val (pe_h h_is_share hr (by decide) (by rfl) (pa_cons (pe_ix (ixS (K := K) rfl) (pv 1) pe_int (fun _ _ => rfl)) pa_nil)))))))))
        (pss_one (ps_ret pe_bl))
        pss_nil)
        (pss_one (ps_if (pt_cmpR op_gt (pe_op op_plus (pe_op op_times (pe_ix (ixS (K := K) rfl) (pe_ix (ixS (K := K) rfl) (pv 1) pe_int (fun _ _ => rfl)) pe_int (fun _ _ => rfl)) (pe_ix (ixS (K := K) rfl) (pe_ix (ixS (K := K) rfl) (pv 1) pe_int (fun _ _ => rfl)) pe_int (fun _ _ => rfl))) (pe_op op_times (pe_ix (ixS (K := K) rfl) (pe_ix (ixS (K := K) rfl) (pv 1) pe_int (fun _ _ => rfl)) pe_int (fun _ _ => rfl)) (pe_ix (ixS (K := K) rfl) (pe_ix (ixS (K := K) rfl) (pv 1) pe_int (fun _ _ => rfl)) pe_int (fun _ _ => rfl)))) (pe_op op_times (pe_ix (ixS (K := K) rfl) (pe_ix (ixS (K := K) rfl) (pv 1) pe_int (fun _ _ => rfl)) pe_int (fun _ _ => rfl)) (pe_ix (ixS (K := K) rfl) (pe_ix (ixS (K := K) rfl) (pv 1) pe_int (fun _ _ => rfl)) pe_int (fun _ _ => rfl))) (nomark _))
        (pss_one (ps_ret pe_bl))
        pss_nil))))
        (pss_one (ps_ret pe_bl)))), ?_⟩
  rintro ds Q ⟨d, rfl, q⟩
  by_cases hd : ∃ es, d = .list es
  · obtain ⟨es, rfl⟩ := hd
    have e0 : isLadderD (.list es) = (decide (1 ≤ es.length) && decide (es.length ≤ 8) && es.all rungD) := rfl
    rw [e0] at q
    walk_at "xs"
    refine iteD (fun h1 => ?_) (fun h1 => ?_)
    · walk_at "xs"
      by_cases h2 : ((es.length : Nat) : Int) ≤ 8
      · rw [decide_eq_true h2]
        walk_at "xs"
        rw [decide_eq_true (show 1 ≤ es.length by omega), decide_eq_true (show es.length ≤ 8 by omega)] at q
        refine forI (fun i ρ => ∃ z, ρ = [.dat (.list es), z] ∧ (es.take i).all rungD = true) ⟨_, rfl, by simp⟩ ?_ ?_
        · rintro i d ρ' hi ⟨z, rfl, ha⟩
          have bad : rungD d = false → Q (.bool false) := fun hr => by
            have : es.all rungD = false := by
              rw [List.all_eq_false]
              exact ⟨d, List.mem_of_getElem? hi, by rw [hr]; exact Bool.false_ne_true⟩
            rw [this] at q
            exact q
          walk_at "xs"
          by_cases hp : ∃ a b, d = .tuple [a, b]
          · obtain ⟨a, b, rfl⟩ := hp
            have er : rungD (.tuple [a, b]) = (isShareD a && isShareD b && decide (numD a * denD b + numD b * denD a ≤ denD a * denD b)) := rfl
            walk_at "xs"
            cases sa : isShareD a with
            | false =>
              walk_at "xs"
              exact bad (by rw [er, sa]; rfl)
            | true =>
              walk_at "xs"
              cases sb : isShareD b with
              | false =>
                walk_at "xs"
                exact bad (by rw [er, sa, sb]; rfl)
              | true =>
                obtain ⟨x, y, rfl, hx1, hx2, hy, _⟩ := share_form sa
                obtain ⟨u, v, rfl, hu1, hu2, hv, _⟩ := share_form sb
                have er : rungD (.tuple [.tuple [.int x, .int y], .tuple [.int u, .int v]]) = decide (x * v + u * y ≤ y * v) := by
                  rw [er, sa, sb]; rfl
                walk_at "xs"
                refine rp_timesI (cmul_of (by omega) (by omega)) ?_
                walk_at "xs"
                refine rp_timesI (cmul_of (by omega) (by omega)) ?_
                walk_at "xs"
                refine rp_timesI (cmul_of (by omega) (by omega)) ?_
                walk_at "xs"
                refine iteD (fun h => ?_) (fun h => ?_)
                · walk_at "xs"
                  exact bad (by rw [er, decide_eq_false]; omega)
                · walk_at "xs"
                  refine ⟨_, rfl, ?_⟩
                  rw [List.take_add_one, hi, List.all_append, ha, Option.toList_some, List.all_cons, er, decide_eq_true (by omega)]
                  rfl
          · have er : rungD d = false := by
              unfold rungD
              split
              · exact absurd ⟨_, _, rfl⟩ hp
              · rfl
            cases d with
            | tuple ds =>
              have hl := not_pair (ds := ds) fun a b e => hp ⟨a, b, e⟩
              walk_at "xs"
              rw [decide_eq_false (by omega)]
              walk_at "xs"
              exact bad er
            | _ =>
              walk_at "xs"
              exact bad er
        · rintro ρ' ⟨z, rfl, ha⟩
          rw [List.take_length] at ha
          rw [ha] at q
          walk_at "xs"
          exact q
      · rw [decide_eq_false h2]
        walk_at "xs"
        rw [decide_eq_false (show ¬ es.length ≤ 8 by omega)] at q
        simpa using q
    · walk_at "xs"
      rw [decide_eq_false (show ¬ 1 ≤ es.length by omega)] at q
      exact q
  · have e : isLadderD d = false := by
      unfold isLadderD
      split
      · exact absurd ⟨_, rfl⟩ hd
      · rfl
    rw [e] at q
    cases d with
    | list es => exact absurd ⟨_, rfl⟩ hd
    | _ =>
      walk_at "xs"
      exact q
theorem has_checked (F : DefIn K mg "checked" s_checked ["ladder"]) (h_is_ladder : Has P w K mg base CX0 "is_ladder" ["value"] 3 (PSp R_is_ladder)) (r_BadLadder : RTxt K mg "BadLadder" er.bl) : Has P w K mg base (L2.CX P w) "checked" ["ladder"] 4 (XSp (R_ckC er)) := by
  refine has_pureX F sc_checked (by walk_at "lenX") fun f cdv A outer s H E hr => ⟨_, (pss_cons (ps_if (PT.nox (pt_not (pt_val (pe_h h_is_ladder hr (by decide) (by rfl) (pa_cons (pv 0) pa_nil)))))
        (pss_one (ps_rz (K := K) rfl rfl r_BadLadder (takes_of rfl rfl rfl rfl) (by rfl)))
        pss_nil)
        (pss_one (ps_nox (ps_ret (pv 0))))), ?_⟩
  rintro ds Q Z ⟨d, rfl, q, qz⟩
  walk_at "xs"
  by_cases h : isLadderD d = true
  · rw [h]
    walk_at "xs"
    exact q h
  · rw [Bool.not_eq_true] at h
    rw [h]
    walk_at "xs"
    exact ds_rz (qz h)
theorem has_check_share (F : DefIn K mg "check_share" s_check_share ["value"]) (h_is_share : Has P w K mg base CX0 "is_share" ["value"] 2 (PSp R_is_share)) (r_BadShare : RTxt K mg "BadShare" er.bs) : Has P w K mg base (L2.CX P w) "check_share" ["value"] 3 (XSp (R_ckS er)) := by
  refine has_pureX F sc_check_share (by walk_at "lenX") fun f cdv A outer s H E hr => ⟨_, (pss_one (ps_if (PT.nox (pt_not (pt_val (pe_h h_is_share hr (by decide) (by rfl) (pa_cons (pv 0) pa_nil)))))
        (pss_one (ps_rz (K := K) rfl rfl r_BadShare (takes_of rfl rfl rfl rfl) (by rfl)))
        pss_nil)), ?_⟩
  rintro ds Q Z ⟨d, rfl, q, qz⟩
  walk_at "xs"
  by_cases h : isShareD d = true
  · rw [h]
    walk_at "xs"
    exact q h
  · rw [Bool.not_eq_true] at h
    rw [h]
    walk_at "xs"
    exact ds_rz (qz h)
theorem has_check_ladder (F : DefIn K mg "check_ladder" s_check_ladder ["value"]) (h_is_ladder : Has P w K mg base CX0 "is_ladder" ["value"] 3 (PSp R_is_ladder)) (r_BadLadder : RTxt K mg "BadLadder" er.bl) : Has P w K mg base (L2.CX P w) "check_ladder" ["value"] 4 (XSp (R_ckL er)) := by
  refine has_pureX F sc_check_ladder (by walk_at "lenX") fun f cdv A outer s H E hr => ⟨_, (pss_one (ps_if (PT.nox (pt_not (pt_val (pe_h h_is_ladder hr (by decide) (by rfl) (pa_cons (pv 0) pa_nil)))))
        (pss_one (ps_rz (K := K) rfl rfl r_BadLadder (takes_of rfl rfl rfl rfl) (by rfl)))
        pss_nil)), ?_⟩
  rintro ds Q Z ⟨d, rfl, q, qz⟩
  walk_at "xs"
  by_cases h : isLadderD d = true
  · rw [h]
    walk_at "xs"
    exact q h
  · rw [Bool.not_eq_true] at h
    rw [h]
    walk_at "xs"
    exact ds_rz (qz h)
theorem has_joined (F : DefIn K mg "joined" s_joined ["one", "other", "up", "down"]) (h_checked : Has P w K mg base (L2.CX P w) "checked" ["ladder"] 4 (XSp (R_ckC er))) (h_check_share : Has P w K mg base (L2.CX P w) "check_share" ["value"] 3 (XSp (R_ckS er))) (h_check_ladder : Has P w K mg base (L2.CX P w) "check_ladder" ["value"] 4 (XSp (R_ckL er))) : Has P w K mg base (L2.CX P w) "joined" ["one", "other", "up", "down"] 5 (XSp (RX er [.L, .L, .S, .S] (R_joinedX er))) := by
  refine has_pureX F sc_joined (by walk_at "lenX") fun f cdv A outer s H E hr => ⟨_, (pss_cons (ps_expr (pe_hX h_check_ladder hr (by decide) (by rfl) (takes_of rfl rfl rfl rfl) (pa_cons (pv 0) pa_nil)))
        (pss_cons (ps_expr (pe_hX h_check_ladder hr (by decide) (by rfl) (takes_of rfl rfl rfl rfl) (pa_cons (pv 1) pa_nil)))
        (pss_cons (ps_expr (pe_hX h_check_share hr (by decide) (by rfl) (takes_of rfl rfl rfl rfl) (pa_cons (pv 2) pa_nil)))
        (pss_cons (ps_expr (pe_hX h_check_share hr (by decide) (by rfl) (takes_of rfl rfl rfl rfl) (pa_cons (pv 3) pa_nil)))
        (pss_one (ps_ret (pe_hX h_checked hr (by decide) (by rfl) (takes_of rfl rfl rfl rfl) (pa_cons (pe_op op_plus (pe_op op_plus (pv 0) (pe_lst (pa_cons (pe_tup (pa_cons (pv 2) (pa_cons (pv 3) pa_nil))) pa_nil))) (pv 1)) pa_nil)))))))), ?_⟩
  rintro ds Q Z ⟨hl0, qe, q0⟩
  obtain ⟨a0, a1, a2, a3, rfl⟩ := len4 hl0
  walk_at "xs"
  refine S_ckL (fun k0 => ?_) (fun k0 => qe _ (f1_bad (k := .L) k0))
  walk_at "xs"
  refine S_ckL (fun k1 => ?_) (fun k1 => qe _ ((f1_ok (k := .L) k0).trans (f1_bad (k := .L) k1)))
  walk_at "xs"
  refine S_ckS (fun k2 => ?_) (fun k2 => qe _ ((f1_ok (k := .L) k0).trans ((f1_ok (k := .L) k1).trans (f1_bad (k := .S) k2))))
  walk_at "xs"
  refine S_ckS (fun k3 => ?_) (fun k3 => qe _ ((f1_ok (k := .L) k0).trans ((f1_ok (k := .L) k1).trans ((f1_ok (k := .S) k2).trans (f1_bad (k := .S) k3)))))
  obtain ⟨L, M, y, hds, h, h2, hy, q, qz⟩ := q0 ((f1_ok (k := .L) k0).trans ((f1_ok (k := .L) k1).trans ((f1_ok (k := .S) k2).trans ((f1_ok (k := .S) k3).trans f1_nil))))
  cases hds
  have h8 := h.le
  have h28 := h2.le
  walk_at "xs"
  refine rp_plusL (by rw [List.length_map]; show _ + 1 ≤ _; omega) ?_
  walk_at "xs"
  refine rp_plusL (by rw [List.length_append, List.length_map, List.length_map]; show _ + 1 + _ ≤ _; omega) ?_
  walk_at "xs"
  have e : L.map encR ++ [PyData.tuple [enc y.1, enc y.2]] ++ M.map encR = (joinL L M y).map encR := by
    unfold joinL
    rw [List.map_append, List.map_append]; rfl
  rw [e]
  by_cases hl : L.length + M.length < 8
  · exact S_ckCx (.inl ⟨joinL_ok h h2 hy hl, q hl⟩)
  · exact S_ckCx (.inr ⟨.inr (by rw [joinL_len]; omega), qz (by omega)⟩)
theorem has_share_text (F : DefIn K mg "share_text" s_share_text ["value"]) (m_str : mg "str" = none) : Has P w K mg base CX0 "share_text" ["value"] 1 (PSp R_share_text) := by
  refine has_pure F sc_share_text (by walk_at "len") fun f cdv A outer s H E hr => ⟨_, (pss_one (ps_ret (pe_ifExp (pt_cmpR (opEq (K := K) rfl hr.units) (pe_ix (ixS (K := K) rfl) (pv 0) pe_int (fun _ _ => rfl)) pe_int (nomark _)) (pe_callTy call_str_int (by rfl) m_str (by decide +kernel) (pa_cons (pe_ix (ixS (K := K) rfl) (pv 0) pe_int (fun _ _ => rfl)) pa_nil)) (pe_js (PJ.cons (pe_fmt (pe_ix (ixS (K := K) rfl) (pv 0) pe_int (fun _ _ => rfl))) (PJ.cons pe_str (PJ.cons (pe_fmt (pe_ix (ixS (K := K) rfl) (pv 0) pe_int (fun _ _ => rfl))) PJ.nil))))))), ?_⟩
  rintro ds Q ⟨u, rfl, h, q⟩
  obtain ⟨h1, h2⟩ := h.num_le
  have h3 := h.den
  have l1 := num_len (n := u.num) (by omega) (by omega)
  have l2 := num_len (n := (u.den : Int)) (by omega) (by omega)
  have e0 : (Str.empty).length = 0 := rfl
  have es : (Str.ofString "/").length = 1 := by decide +kernel
  walk_at "xs"
  refine iteD (fun e => ?_) (fun e => ?_)
  · walk_at "xs"
    refine rc_strI (by omega) ?_
    unfold shT at q
    rw [if_pos (by omega)] at q
    exact q
  · walk_at "xs"
    refine ⟨by omega, ?_⟩
    walk_at "xs"
    refine ⟨by rw [str_app_len]; omega, ?_⟩
    walk_at "xs"
    refine ⟨by rw [str_app_len, str_app_len]; omega, ?_⟩
    walk_at "xs"
    refine ⟨by omega, ?_⟩
    walk_at "xs"
    refine ⟨by rw [str_app_len, str_app_len, str_app_len]; omega, ?_⟩
    walk_at "xs"
    unfold shT at q
    rw [if_neg (by omega)] at q
    exact q
theorem has_format_ladder (F : DefIn K mg "format_ladder" s_format_ladder ["ladder"]) (h_share_text : Has P w K mg base CX0 "share_text" ["value"] 1 (PSp R_share_text)) (h_check_ladder : Has P w K mg base (L2.CX P w) "check_ladder" ["value"] 4 (XSp (R_ckL er))) : Has P w K mg base (L2.CX P w) "format_ladder" ["ladder"] 5 (XSp (RX er [.L] (fun ds P _ => R_format_ladder ds P))) := by
  refine has_pureX F sc_format_ladder (by walk_at "lenX") fun f cdv A outer s H E hr => ⟨_, (pss_cons (ps_expr (pe_hX h_check_ladder hr (by decide) (by rfl) (takes_of rfl rfl rfl rfl) (pa_cons (pv 0) pa_nil)))
        (pss_one (ps_nox (ps_ret (pe_joinK (K := K) rfl pe_str (pa_cons (pe_lc (own := [("up", 1), ("down", 2)]) (g := gTup K 2 (gCons (gName 1) (gCons (gName 2) gNil))) rfl sc_format_ladder.nd (pi_listK (K := K) rfl (pv 0)) (blkOk_by (own := [("up", 1), ("down", 2)]) (N := N_format_ladder) (sc := defScope s_format_ladder) (by decide +kernel)) (fun _ _ _ _ _ => by exact (pg_tupK (K := K) (n := 2) rfl rfl (pgs_cons (pg_name (i := 1) sc_format_ladder.nd rfl (by first | exact Or.inl rfl | exact Or.inr rfl)) (pgs_cons (pg_name (i := 2) sc_format_ladder.nd rfl (by first | exact Or.inl rfl | exact Or.inr rfl)) pgs_nil)))) (fun _ _ _ _ _ => by exact pts_nil) (fun _ _ _ _ _ => by exact (pe_op op_plus (pe_op op_plus (pe_h h_share_text hr (by decide) (by rfl) (pa_cons (pv 1) pa_nil)) pe_str) (pe_h h_share_text hr (by decide) (by rfl) (pa_cons (pv 2) pa_nil))))) pa_nil)))))), ?_⟩
  rintro ds Q Z ⟨hl0, qe, q0⟩
  obtain ⟨a0, rfl⟩ := len1 hl0
  walk_at "xs"
  refine S_ckL (fun k0 => ?_) (fun k0 => qe _ (f1_bad (k := .L) k0))
  obtain ⟨L, hds, h, q⟩ := q0 ((f1_ok (k := .L) k0).trans f1_nil)
  cases hds
  have h8 := h.le
  walk_at "xs"
  refine lcI_map (fun x : Rat × Rat => PyData.str (rgT x)) ?_ ?_ ?_
  · omega
  · intro i x hi
    obtain ⟨s1, s2, _⟩ := h.sh x (List.mem_of_getElem? hi)
    have a := shT_len s1
    have b := shT_len s2
    have e2 : (Str.ofString ":").length = 1 := by decide +kernel
    walk_at "xs"
    refine S_share_text s1 ?_
    walk_at "xs"
    refine rp_plusS (by omega) ?_
    walk_at "xs"
    refine S_share_text s2 ?_
    walk_at "xs"
    exact rp_plusS (by rw [str_app_len]; omega) rfl
  walk_at "xs"
  refine ⟨L.map rgT, by rw [List.map_map]; rfl, ?_, q⟩
  have b := lens_le (f := rgT) (m := 19) (xs := L) fun x hx => rgT_len (h.sh x hx).1 (h.sh x hx).2.1
  have e : (Str.ofString " ").length = 1 := by decide +kernel
  rw [e, List.length_map]
  have : L.length * 19 ≤ 8 * 19 := Nat.mul_le_mul_right _ h8
  omega
theorem has_lowest (F : DefIn K mg "lowest" s_lowest ["top", "below"]) (h_common : Has P w K mg base CX0 "common" ["one", "other"] 1 (PSp R_common)) (m_abs : mg "abs" = none) : Has P w K mg base CX0 "lowest" ["top", "below"] 2 (PSp R_low) := by
  refine has_pure F sc_lowest (by walk_at "len") fun f cdv A outer s H E hr => ⟨_, (pss_cons (ps_set (i := 2) sc_lowest.nd rfl (by first | exact Or.inl rfl | exact Or.inr rfl) (pe_h h_common hr (by decide) (by rfl) (pa_cons (pe_callB call_abs (by rfl) m_abs (by decide +kernel) (pa_cons (pv 0) pa_nil)) (pa_cons (pv 1) pa_nil))))
        (pss_one (ps_ret (pe_tup (pa_cons (pe_op op_fdivW (pv 0) (pv 2)) (pa_cons (pe_op op_fdivW (pv 1) (pv 2)) pa_nil)))))), ?_⟩
  rintro ds Q ⟨a, b, rfl, hb, hl, q⟩
  walk_at "xs"
  have hg : 0 < Nat.gcd (↑a.natAbs : Int).toNat b.toNat := Nat.gcd_pos_of_pos_right _ (by omega)
  have hle : Nat.gcd (↑a.natAbs : Int).toNat b.toNat ≤ b.toNat := Nat.gcd_le_right _ (by omega)
  have hc : ∀ i : Int, CDivW i ((Nat.gcd (↑a.natAbs : Int).toNat b.toNat : Nat) : Int) := fun i => wide_div (b := 9000) (by omega) (Nat.lt_of_le_of_lt (by omega) hl) (by decide) (by decide)
  refine rp_fdiv (hc _) ?_
  walk_at "xs"
  refine rp_fdiv (hc _) ?_
  walk_at "xs"
  have e : enc ((a : Rat) / (b : Rat)) = .tuple [.int (a / ((Nat.gcd (↑a.natAbs : Int).toNat b.toNat : Nat) : Int)), .int (b / ((Nat.gcd (↑a.natAbs : Int).toNat b.toNat : Nat) : Int))] := by
    unfold enc
    rw [num_div a hb, den_div a hb, Int.toNat_natCast]
  rw [← e]
  exact q
theorem has_divided (F : DefIn K mg "divided" s_divided ["one", "other"]) (h_lowest : Has P w K mg base CX0 "lowest" ["top", "below"] 2 (PSp R_low)) : Has P w K mg base CX0 "divided" ["one", "other"] 3 (PSp R_div) := by
  refine has_pure F sc_divided (by walk_at "len") fun f cdv A outer s H E hr => ⟨_, (pss_one (ps_ret (pe_h h_lowest hr (by decide) (by rfl) (pa_cons (pe_op op_times (pe_ix (ixS (K := K) rfl) (pv 0) pe_int (fun _ _ => rfl)) (pe_ix (ixS (K := K) rfl) (pv 1) pe_int (fun _ _ => rfl))) (pa_cons (pe_op op_times (pe_ix (ixS (K := K) rfl) (pv 0) pe_int (fun _ _ => rfl)) (pe_ix (ixS (K := K) rfl) (pv 1) pe_int (fun _ _ => rfl))) pa_nil))))), ?_⟩
  rintro ds Q ⟨r, s, n, m, rfl, hs, h1, h2, h, q⟩
  have b1 := h1.1; have b2 := h1.2; have b3 := h2.1; have b4 := h2.2
  walk_at "xs"
  refine rp_timesI (wide_mul (a := n + 1) (b := m + 1) (Nat.lt_of_lt_of_le b1 (Nat.pow_le_pow_right (by decide) (by omega))) (Nat.lt_of_lt_of_le (by simpa using b4) (Nat.pow_le_pow_right (by decide) (Nat.le_succ m))) (by omega) (by omega) (by omega)) ?_
  walk_at "xs"
  refine rp_timesI (wide_mul (a := n + 1) (b := m + 1) (Nat.lt_of_lt_of_le (by simpa using b2) (Nat.pow_le_pow_right (by decide) (Nat.le_succ n))) (Nat.lt_of_lt_of_le b3 (Nat.pow_le_pow_right (by decide) (Nat.le_succ m))) (by omega) (by omega) (by omega)) ?_
  refine ea_nil (S_low (n := n + m) (Int.mul_pos (den_pos r) (num_pos hs)) (wide_lt (by simpa using b2) b3) h ?_)
  rw [div_frac r s hs]
  exact q
theorem has_plus (F : DefIn K mg "plus" s_plus ["one", "other"]) (h_lowest : Has P w K mg base CX0 "lowest" ["top", "below"] 2 (PSp R_low)) : Has P w K mg base CX0 "plus" ["one", "other"] 3 (PSp R_add) := by
  refine has_pure F sc_plus (by walk_at "len") fun f cdv A outer s H E hr => ⟨_, (pss_one (ps_ret (pe_h h_lowest hr (by decide) (by rfl) (pa_cons (pe_op op_plus (pe_op op_times (pe_ix (ixS (K := K) rfl) (pv 0) pe_int (fun _ _ => rfl)) (pe_ix (ixS (K := K) rfl) (pv 1) pe_int (fun _ _ => rfl))) (pe_op op_times (pe_ix (ixS (K := K) rfl) (pv 1) pe_int (fun _ _ => rfl)) (pe_ix (ixS (K := K) rfl) (pv 0) pe_int (fun _ _ => rfl)))) (pa_cons (pe_op op_times (pe_ix (ixS (K := K) rfl) (pv 0) pe_int (fun _ _ => rfl)) (pe_ix (ixS (K := K) rfl) (pv 1) pe_int (fun _ _ => rfl))) pa_nil))))), ?_⟩
  rintro ds Q ⟨r, s, n, m, rfl, h1, h2, h, q⟩
  have b1 := h1.1; have b2 := h1.2; have b3 := h2.1; have b4 := h2.2
  walk_at "xs"
  refine rp_timesI (wide_mul (a := n + 1) (b := m + 1) (Nat.lt_of_lt_of_le b1 (Nat.pow_le_pow_right (by decide) (by omega))) (Nat.lt_of_lt_of_le (by simpa using b4) (Nat.pow_le_pow_right (by decide) (Nat.le_succ m))) (by omega) (by omega) (by omega)) ?_
  walk_at "xs"
  refine rp_timesI (wide_mul (a := m + 1) (b := n + 1) (Nat.lt_of_lt_of_le b3 (Nat.pow_le_pow_right (by decide) (by omega))) (Nat.lt_of_lt_of_le (by simpa using b2) (Nat.pow_le_pow_right (by decide) (Nat.le_succ n))) (by omega) (by omega) (by omega)) ?_
  walk_at "xs"
  refine rp_timesI (wide_mul (a := n + 1) (b := m + 1) (Nat.lt_of_lt_of_le (by simpa using b2) (Nat.pow_le_pow_right (by decide) (Nat.le_succ n))) (Nat.lt_of_lt_of_le (by simpa using b4) (Nat.pow_le_pow_right (by decide) (Nat.le_succ m))) (by omega) (by omega) (by omega)) ?_
  refine ea_nil (S_low (n := n + m) (Int.mul_pos (den_pos r) (den_pos s)) (wide_lt (by simpa using b2) (by simpa using b4)) h ?_)
  rw [add_frac]
  exact q
theorem has_without_stays (F : DefIn K mg "without_stays" s_without_stays ["ladder"]) (h_checked : Has P w K mg base (L2.CX P w) "checked" ["ladder"] 4 (XSp (R_ckC er))) (h_divided : Has P w K mg base CX0 "divided" ["one", "other"] 3 (PSp R_div)) (h_plus : Has P w K mg base CX0 "plus" ["one", "other"] 3 (PSp R_add)) (h_check_ladder : Has P w K mg base (L2.CX P w) "check_ladder" ["value"] 4 (XSp (R_ckL er))) : Has P w K mg base (L2.CX P w) "without_stays" ["ladder"] 5 (XSp (RX er [.L] (fun ds P _ => R_without_stays ds P))) := by
  refine has_pureX F sc_without_stays (by walk_at "lenX") fun f cdv A outer s H E hr => ⟨_, (pss_cons (ps_expr (pe_hX h_check_ladder hr (by decide) (by rfl) (takes_of rfl rfl rfl rfl) (pa_cons (pv 0) pa_nil)))
        (pss_cons (ps_nox (ps_set (i := 1) sc_without_stays.nd rfl (by first | exact Or.inl rfl | exact Or.inr rfl) (pe_lst pa_nil)))
        (pss_cons (ps_nox (ps_for PassesOwn.never rfl (pi_listK (K := K) rfl (pv 0)) (pg_tupK (K := K) (n := 2) rfl rfl (pgs_cons (pg_name (i := 2) sc_without_stays.nd rfl (by first | exact Or.inl rfl | exact Or.inr rfl)) (pgs_cons (pg_name (i := 3) sc_without_stays.nd rfl (by first | exact Or.inl rfl | exact Or.inr rfl)) pgs_nil)))
        (pss_cons (ps_set (i := 4) sc_without_stays.nd rfl (by first | exact Or.inl rfl | exact Or.inr rfl) (pe_h h_plus hr (by decide) (by rfl) (pa_cons (pv 2) (pa_cons (pv 3) pa_nil))))
        (pss_one (ps_expr (pe_appK (K := K) rfl (pv 1) (pa_cons (pe_tup (pa_cons (pe_h h_divided hr (by decide) (by rfl) (pa_cons (pv 2) (pa_cons (pv 4) pa_nil))) (pa_cons (pe_h h_divided hr (by decide) (by rfl) (pa_cons (pv 3) (pa_cons (pv 4) pa_nil))) pa_nil))) pa_nil)))))))
        (pss_one (ps_ret (pe_hX h_checked hr (by decide) (by rfl) (takes_of rfl rfl rfl rfl) (pa_cons (pv 1) pa_nil))))))), ?_⟩
  rintro ds Q Z ⟨hl0, qe, q0⟩
  obtain ⟨a0, rfl⟩ := len1 hl0
  walk_at "xs"
  refine S_ckL (fun k0 => ?_) (fun k0 => qe _ (f1_bad (k := .L) k0))
  obtain ⟨L, hds, h, h2, q⟩ := q0 ((f1_ok (k := .L) k0).trans f1_nil)
  cases hds
  have h8 := h.le
  walk_at "x0"
  refine ds_own (en_lst ?_)
  walk_at "xs"
  intro p
  walk_at "xs"
  refine forI_map (fun i ρ => ∃ z2 z3 z4, ρ = [.dat (encL L), .own p (((quickL L).take i).map encR), z2, z3, z4]) ⟨_, _, _, rfl⟩ ?_ ?_
  · rintro i x ρ' hi ⟨z2, z3, z4, rfl⟩
    obtain ⟨g1, g2, g3, g4⟩ := h.lw.sh x (List.mem_of_getElem? hi)
    have hlt := (List.getElem?_eq_some_iff.mp hi).1
    have hp : 0 < x.1 + x.2 := by grind
    walk_at "xs"
    refine S_add g3 g4 (by decide) ?_
    walk_at "xs"
    refine ds_app rfl ?_ ?_
    · rw [List.length_map, List.length_take]; omega
    walk_at "xs"
    refine S_div hp g3 (g3.add g4) (by decide) ?_
    walk_at "xs"
    refine S_div hp g4 (g3.add g4) (by decide) ?_
    walk_at "xs"
    have e : ((quickL L).take (i + 1)).map encR = ((quickL L).take i).map encR ++ [encR (x.1 / (x.1 + x.2), x.2 / (x.1 + x.2))] := by
      have e2 : (quickL L)[i]? = some (x.1 / (x.1 + x.2), x.2 / (x.1 + x.2)) := by unfold quickL; rw [List.getElem?_map, hi]; rfl
      rw [List.take_add_one, e2, List.map_append]; rfl
    rw [e]
    exact ⟨_, _, _, rfl⟩
  · rintro ρ' ⟨z2, z3, z4, rfl⟩
    refine ds_freeze (i := 1) rfl ?_
    rw [List.take_of_length_le (by unfold quickL; rw [List.length_map]; omega)]
    walk_at "xs"
    exact S_ckCx (.inl ⟨h2, q⟩)
theorem has_turned_over (F : DefIn K mg "turned_over" s_turned_over ["ladder"]) (h_check_ladder : Has P w K mg base (L2.CX P w) "check_ladder" ["value"] 4 (XSp (R_ckL er))) : Has P w K mg base (L2.CX P w) "turned_over" ["ladder"] 5 (XSp (RX er [.L] (fun ds P _ => R_turned_over ds P))) := by
  refine has_pureX F sc_turned_over (by walk_at "lenX") fun f cdv A outer s H E hr => ⟨_, (pss_cons (ps_expr (pe_hX h_check_ladder hr (by decide) (by rfl) (takes_of rfl rfl rfl rfl) (pa_cons (pv 0) pa_nil)))
        (pss_one (ps_nox (ps_ret (pe_lc (own := [("up", 1), ("down", 2)]) (g := gTup K 2 (gCons (gName 1) (gCons (gName 2) gNil))) rfl sc_turned_over.nd (pi_listK (K := K) rfl (pe_revK (K := K) rfl (pv 0))) (blkOk_by (own := [("up", 1), ("down", 2)]) (N := N_turned_over) (sc := defScope s_turned_over) (by decide +kernel)) (fun _ _ _ _ _ => by exact (pg_tupK (K := K) (n := 2) rfl rfl (pgs_cons (pg_name (i := 1) sc_turned_over.nd rfl (by first | exact Or.inl rfl | exact Or.inr rfl)) (pgs_cons (pg_name (i := 2) sc_turned_over.nd rfl (by first | exact Or.inl rfl | exact Or.inr rfl)) pgs_nil)))) (fun _ _ _ _ _ => by exact pts_nil) (fun _ _ _ _ _ => by exact (pe_tup (pa_cons (pv 2) (pa_cons (pv 1) pa_nil))))))))), ?_⟩
  rintro ds Q Z ⟨hl0, qe, q0⟩
  obtain ⟨a0, rfl⟩ := len1 hl0
  walk_at "xs"
  refine S_ckL (fun k0 => ?_) (fun k0 => qe _ (f1_bad (k := .L) k0))
  obtain ⟨L, hds, h, q⟩ := q0 ((f1_ok (k := .L) k0).trans f1_nil)
  cases hds
  have h8 := h.le
  walk_at "xg"
  rw [← List.map_reverse]
  refine lcI_map (fun x : Rat × Rat => encR (x.2, x.1)) ?_ ?_ ?_
  · rw [List.length_reverse]; omega
  · intro i x hi
    walk_at "xg"
    rfl
  · unfold turn at q
    rw [show L.reverse.map (fun x : Rat × Rat => encR (x.2, x.1)) = (L.map fun x => (x.2, x.1)).reverse.map encR by rw [← List.map_reverse, List.map_map]; rfl]
    exact q
theorem has_minus (F : DefIn K mg "minus" s_minus ["one", "other"]) (h_lowest : Has P w K mg base CX0 "lowest" ["top", "below"] 2 (PSp R_low)) : Has P w K mg base CX0 "minus" ["one", "other"] 3 (PSp R_sub) := by
  refine has_pure F sc_minus (by walk_at "len") fun f cdv A outer s H E hr => ⟨_, (pss_one (ps_ret (pe_h h_lowest hr (by decide) (by rfl) (pa_cons (pe_op op_sub (pe_op op_times (pe_ix (ixS (K := K) rfl) (pv 0) pe_int (fun _ _ => rfl)) (pe_ix (ixS (K := K) rfl) (pv 1) pe_int (fun _ _ => rfl))) (pe_op op_times (pe_ix (ixS (K := K) rfl) (pv 1) pe_int (fun _ _ => rfl)) (pe_ix (ixS (K := K) rfl) (pv 0) pe_int (fun _ _ => rfl)))) (pa_cons (pe_op op_times (pe_ix (ixS (K := K) rfl) (pv 0) pe_int (fun _ _ => rfl)) (pe_ix (ixS (K := K) rfl) (pv 1) pe_int (fun _ _ => rfl))) pa_nil))))), ?_⟩
  rintro ds Q ⟨r, s, n, m, rfl, h1, h2, h, q⟩
  have b1 := h1.1; have b2 := h1.2; have b3 := h2.1; have b4 := h2.2
  walk_at "xs"
  refine rp_timesI (wide_mul (a := n + 1) (b := m + 1) (Nat.lt_of_lt_of_le b1 (Nat.pow_le_pow_right (by decide) (by omega))) (Nat.lt_of_lt_of_le (by simpa using b4) (Nat.pow_le_pow_right (by decide) (Nat.le_succ m))) (by omega) (by omega) (by omega)) ?_
  walk_at "xs"
  refine rp_timesI (wide_mul (a := m + 1) (b := n + 1) (Nat.lt_of_lt_of_le b3 (Nat.pow_le_pow_right (by decide) (by omega))) (Nat.lt_of_lt_of_le (by simpa using b2) (Nat.pow_le_pow_right (by decide) (Nat.le_succ n))) (by omega) (by omega) (by omega)) ?_
  walk_at "xs"
  refine rp_timesI (wide_mul (a := n + 1) (b := m + 1) (Nat.lt_of_lt_of_le (by simpa using b2) (Nat.pow_le_pow_right (by decide) (Nat.le_succ n))) (Nat.lt_of_lt_of_le (by simpa using b4) (Nat.pow_le_pow_right (by decide) (Nat.le_succ m))) (by omega) (by omega) (by omega)) ?_
  refine ea_nil (S_low (n := n + m) (Int.mul_pos (den_pos r) (den_pos s)) (wide_lt (by simpa using b2) (by simpa using b4)) h ?_)
  rw [sub_frac]
  exact q
theorem has_rests (F : DefIn K mg "rests" s_rests ["ladder"]) (h_minus : Has P w K mg base CX0 "minus" ["one", "other"] 3 (PSp R_sub)) (h_plus : Has P w K mg base CX0 "plus" ["one", "other"] 3 (PSp R_add)) (h_is_ladder : Has P w K mg base CX0 "is_ladder" ["value"] 3 (PSp R_is_ladder)) (r_BadLadder : RTxt K mg "BadLadder" er.bl) : Has P w K mg base (L2.CX P w) "rests" ["ladder"] 4 (XSp (RX er [.L] (fun ds P _ => R_rests ds P))) := by
  refine has_pureX F sc_rests (by walk_at "lenX") fun f cdv A outer s H E hr => ⟨_, (pss_cons (ps_if (PT.nox (pt_not (pt_val (pe_h h_is_ladder hr (by decide) (by rfl) (pa_cons (pv 0) pa_nil)))))
        (pss_one (ps_rz (K := K) rfl rfl r_BadLadder (takes_of rfl rfl rfl rfl) (by rfl)))
        pss_nil)
        (pss_one (ps_nox (ps_ret (pe_lc (own := [("up", 1), ("down", 2)]) (g := gTup K 2 (gCons (gName 1) (gCons (gName 2) gNil))) rfl sc_rests.nd (pi_listK (K := K) rfl (pv 0)) (blkOk_by (own := [("up", 1), ("down", 2)]) (N := N_rests) (sc := defScope s_rests) (by decide +kernel)) (fun _ _ _ _ _ => by exact (pg_tupK (K := K) (n := 2) rfl rfl (pgs_cons (pg_name (i := 1) sc_rests.nd rfl (by first | exact Or.inl rfl | exact Or.inr rfl)) (pgs_cons (pg_name (i := 2) sc_rests.nd rfl (by first | exact Or.inl rfl | exact Or.inr rfl)) pgs_nil)))) (fun _ _ _ _ _ => by exact pts_nil) (fun _ _ _ _ _ => by exact (pe_h h_minus hr (by decide) (by rfl) (pa_cons (pe_tup (pa_cons pe_int (pa_cons pe_int pa_nil))) (pa_cons (pe_h h_plus hr (by decide) (by rfl) (pa_cons (pv 1) (pa_cons (pv 2) pa_nil))) pa_nil))))))))), ?_⟩
  rintro ds Q Z ⟨hl0, qe, q0⟩
  obtain ⟨a0, rfl⟩ := len1 hl0
  walk_at "xs"
  by_cases k0 : isLadderD a0 = true
  case neg =>
    rw [Bool.not_eq_true] at k0
    rw [k0]
    walk_at "xs"
    exact ds_rz (qe _ (f1_bad (k := .L) k0))
  obtain ⟨L, hds, h, q⟩ := q0 ((f1_ok (k := .L) k0).trans f1_nil)
  cases hds
  have h8 := h.le
  rw [ladder_enc h]
  refine iteF ?_
  walk_at "xs"
  refine lcI_enc (fun x : Rat × Rat => 1 - (x.1 + x.2)) ?_ ?_ ?_
  · omega
  · intro i x hi
    obtain ⟨g1, g2, g3, g4⟩ := h.lw.sh x (List.mem_of_getElem? hi)
    walk_at "xs"
    refine S_add g3 g4 (by decide) ?_
    walk_at "xs"
    exact S_sub Bd.one (g3.add g4) (by decide) rfl
  · exact q
theorem has_times_of (F : DefIn K mg "times_of" s_times_of ["one", "other"]) (h_lowest : Has P w K mg base CX0 "lowest" ["top", "below"] 2 (PSp R_low)) : Has P w K mg base CX0 "times_of" ["one", "other"] 3 (PSp R_mul) := by
  refine has_pure F sc_times_of (by walk_at "len") fun f cdv A outer s H E hr => ⟨_, (pss_one (ps_ret (pe_h h_lowest hr (by decide) (by rfl) (pa_cons (pe_op op_times (pe_ix (ixS (K := K) rfl) (pv 0) pe_int (fun _ _ => rfl)) (pe_ix (ixS (K := K) rfl) (pv 1) pe_int (fun _ _ => rfl))) (pa_cons (pe_op op_times (pe_ix (ixS (K := K) rfl) (pv 0) pe_int (fun _ _ => rfl)) (pe_ix (ixS (K := K) rfl) (pv 1) pe_int (fun _ _ => rfl))) pa_nil))))), ?_⟩
  rintro ds Q ⟨r, s, n, m, rfl, h1, h2, h, q⟩
  have b1 := h1.1; have b2 := h1.2; have b3 := h2.1; have b4 := h2.2
  walk_at "xs"
  refine rp_timesI (wide_mul (a := n + 1) (b := m + 1) (Nat.lt_of_lt_of_le b1 (Nat.pow_le_pow_right (by decide) (by omega))) (Nat.lt_of_lt_of_le b3 (Nat.pow_le_pow_right (by decide) (Nat.le_succ m))) (by omega) (by omega) (by omega)) ?_
  walk_at "xs"
  refine rp_timesI (wide_mul (a := n + 1) (b := m + 1) (Nat.lt_of_lt_of_le (by simpa using b2) (Nat.pow_le_pow_right (by decide) (Nat.le_succ n))) (Nat.lt_of_lt_of_le (by simpa using b4) (Nat.pow_le_pow_right (by decide) (Nat.le_succ m))) (by omega) (by omega) (by omega)) ?_
  refine ea_nil (S_low (n := n + m) (Int.mul_pos (den_pos r) (den_pos s)) (wide_lt (by simpa using b2) (by simpa using b4)) h ?_)
  rw [mul_frac]
  exact q
theorem has_total (F : DefIn K mg "total" s_total ["some"]) (h_plus : Has P w K mg base CX0 "plus" ["one", "other"] 3 (PSp R_add)) : Has P w K mg base CX0 "total" ["some"] 4 (PSp R_sum) := by
  refine has_pure F sc_total (by walk_at "len") fun f cdv A outer s H E hr => ⟨_, (pss_cons (ps_set (i := 1) sc_total.nd rfl (by first | exact Or.inl rfl | exact Or.inr rfl) (pe_tup (pa_cons pe_int (pa_cons pe_int pa_nil))))
        (pss_cons (ps_for PassesOwn.never rfl (pi_listK (K := K) rfl (pv 0)) (pg_name (i := 2) sc_total.nd rfl (by first | exact Or.inl rfl | exact Or.inr rfl))
        (pss_one (ps_set (i := 1) sc_total.nd rfl (by first | exact Or.inl rfl | exact Or.inr rfl) (pe_h h_plus hr (by decide) (by rfl) (pa_cons (pv 1) (pa_cons (pv 2) pa_nil))))))
        (pss_one (ps_ret (pv 1))))), ?_⟩
  rintro ds Q ⟨xs, rfl, h, q⟩
  walk_at "xs"
  refine forI_map (fun i ρ => ∃ z, ρ = [.dat (.list (xs.map enc)), .dat (enc (xs.take i).sum), z]) ⟨_, rfl⟩ ?_ ?_
  · rintro i x ρ' hi ⟨z, rfl⟩
    obtain ⟨n, m, b1, b2, hnm⟩ := h i x hi
    walk_at "xs"
    refine S_add b1 b2 hnm ?_
    rw [← sum_take_succ hi]; exact ⟨_, rfl⟩
  · rintro ρ' ⟨z, rfl⟩
    walk_at "xs"
    rw [List.take_length]
    exact q
theorem has_products_of (F : DefIn K mg "products_of" s_products_of ["some"]) (h_times_of : Has P w K mg base CX0 "times_of" ["one", "other"] 3 (PSp R_mul)) : Has P w K mg base CX0 "products_of" ["some"] 4 (PSp R_products_of) := by
  refine has_pure F sc_products_of (by walk_at "len") fun f cdv A outer s H E hr => ⟨_, (pss_cons (ps_set (i := 1) sc_products_of.nd rfl (by first | exact Or.inl rfl | exact Or.inr rfl) (pe_lst (pa_cons (pe_tup (pa_cons pe_int (pa_cons pe_int pa_nil))) pa_nil)))
        (pss_cons (ps_for PassesOwn.never rfl (pi_listK (K := K) rfl (pv 0)) (pg_name (i := 2) sc_products_of.nd rfl (by first | exact Or.inl rfl | exact Or.inr rfl))
        (pss_one (ps_expr (pe_appK (K := K) rfl (pv 1) (pa_cons (pe_h h_times_of hr (by decide) (by rfl) (pa_cons (pe_ix (ixS (K := K) rfl) (pv 1) (pe_un un_neg pe_int) (fun _ _ => rfl)) (pa_cons (pv 2) pa_nil))) pa_nil)))))
        (pss_one (ps_ret (pv 1))))), ?_⟩
  rintro ds Q ⟨xs, rfl, hl, hb, q⟩
  refine ds_seq (ds_own (en_lst ?_))
  walk_at "xs"
  intro p
  walk_at "xs"
  have e0 : [enc 1] = ((prods xs).take 1).map enc := by cases xs <;> rfl
  refine forI_map (fun i ρ => ∃ z, ρ = [.dat (.list (xs.map enc)), .own p (((prods xs).take (i + 1)).map enc), z]) ⟨.no, by rw [← e0]; rfl⟩ ?_ ?_
  · rintro i x ρ' hi ⟨z, rfl⟩
    have hlt : i < xs.length := (List.getElem?_eq_some_iff.mp hi).1
    have hp : i < (prods xs).length := by rw [prods_len]; omega
    have e1 : (prods xs)[i]? = some (prods xs)[i] := List.getElem?_eq_getElem hp
    have e2 := prods_succ e1 hi
    walk_at "xs"
    refine ds_app rfl ?_ ?_
    · rw [List.length_map, List.length_take, prods_len]; omega
    walk_at "xs"
    refine ⟨_, _, rfl, at_last (x := (prods xs)[i]) ?_, ?_⟩
    · rw [List.take_add_one, e1]; exact List.getLast?_concat
    walk_at "xs"
    refine S_mul (prods_bd hb _ (List.getElem_mem hp)) (hb x (List.mem_of_getElem? hi)) (by omega) ?_
    have e3 : ((prods xs).take (i + 1 + 1)).map enc = ((prods xs).take (i + 1)).map enc ++ [enc ((prods xs)[i] * x)] := by
      rw [List.take_add_one (i := i + 1), e2, List.map_append]; rfl
    rw [e3]
    exact ⟨_, rfl⟩
  · rintro ρ' ⟨z, rfl⟩
    refine ds_retO rfl ?_
    rw [List.take_of_length_le (by rw [prods_len]; omega)]
    exact q
theorem has_quotients_of (F : DefIn K mg "quotients_of" s_quotients_of ["ladder"]) (h_divided : Has P w K mg base CX0 "divided" ["one", "other"] 3 (PSp R_div)) : Has P w K mg base CX0 "quotients_of" ["ladder"] 4 (PSp R_quotients_of) := by
  refine has_pure F sc_quotients_of (by walk_at "len") fun f cdv A outer s H E hr => ⟨_, (pss_one (ps_ret (pe_lc (own := [("up", 1), ("down", 2)]) (g := gTup K 2 (gCons (gName 1) (gCons (gName 2) gNil))) rfl sc_quotients_of.nd (pi_listK (K := K) rfl (pv 0)) (blkOk_by (own := [("up", 1), ("down", 2)]) (N := N_quotients_of) (sc := defScope s_quotients_of) (by decide +kernel)) (fun _ _ _ _ _ => by exact (pg_tupK (K := K) (n := 2) rfl rfl (pgs_cons (pg_name (i := 1) sc_quotients_of.nd rfl (by first | exact Or.inl rfl | exact Or.inr rfl)) (pgs_cons (pg_name (i := 2) sc_quotients_of.nd rfl (by first | exact Or.inl rfl | exact Or.inr rfl)) pgs_nil)))) (fun _ _ _ _ _ => by exact pts_nil) (fun _ _ _ _ _ => by exact (pe_h h_divided hr (by decide) (by rfl) (pa_cons (pv 2) (pa_cons (pv 1) pa_nil))))))), ?_⟩
  rintro ds Q ⟨L, rfl, h, q⟩
  walk_at "xs"
  refine lcI_map (fun x => enc (x.2 / x.1)) ?_ ?_ ?_
  · exact Nat.le_trans h.le (by decide)
  · intro i x hi
    obtain ⟨h1, h2, h3, h4⟩ := h.sh x (List.mem_of_getElem? hi)
    walk_at "xs"
    exact S_div h1 h4 h3 (by decide) rfl
  · rw [qs, List.map_map] at q
    exact q
theorem has_between_of (F : DefIn K mg "between_of" s_between_of ["ladder", "low", "high", "rung"]) (h_divided : Has P w K mg base CX0 "divided" ["one", "other"] 3 (PSp R_div)) (h_total : Has P w K mg base CX0 "total" ["some"] 4 (PSp R_sum)) (h_products_of : Has P w K mg base CX0 "products_of" ["some"] 4 (PSp R_products_of)) (h_quotients_of : Has P w K mg base CX0 "quotients_of" ["ladder"] 4 (PSp R_quotients_of)) : Has P w K mg base CX0 "between_of" ["ladder", "low", "high", "rung"] 5 (PSp R_between_of) := by
  refine has_pure F sc_between_of (by walk_at "len") fun f cdv A outer s H E hr => ⟨_, (pss_cons (ps_set (i := 4) sc_between_of.nd rfl (by first | exact Or.inl rfl | exact Or.inr rfl) (pe_h h_products_of hr (by decide) (by rfl) (pa_cons (pe_h h_quotients_of hr (by decide) (by rfl) (pa_cons (pe_slice (slL (K := K) rfl) (pv 0) (po_some (pv 1)) (po_some (pe_op op_sub (pv 2) pe_int))) pa_nil)) pa_nil)))
        (pss_one (ps_ret (pe_h h_divided hr (by decide) (by rfl) (pa_cons (pe_h h_total hr (by decide) (by rfl) (pa_cons (pe_slice (slL (K := K) rfl) (pv 4) po_none (po_some (pe_op op_sub (pv 3) (pv 1)))) pa_nil)) (pa_cons (pe_h h_total hr (by decide) (by rfl) (pa_cons (pv 4) pa_nil)) pa_nil)))))), ?_⟩
  rintro ds Q ⟨L, lo, hi, r, rfl, h, h0, h1, h2, h3, h4, q⟩
  have hw : Lw ((L.take (hi.toNat - 1)).drop lo.toNat) := h.cut _ _
  obtain ⟨a, rfl⟩ := Int.eq_ofNat_of_zero_le h0
  obtain ⟨b, rfl⟩ := Int.eq_ofNat_of_zero_le (show 0 ≤ hi by omega)
  have eb : ((b : Int) - 1) = ((b - 1 : Nat) : Int) := by omega
  have er : (r - (a : Int)) = (((r - (a : Int)).toNat : Nat) : Int) := by omega
  simp only [Int.toNat_natCast] at hw q
  generalize hM : (L.take (b - 1)).drop a = M at hw q
  have ec : cutD (L.map encR) (some (a : Int)) (some ((b : Int) - 1)) = M.map encR := by
    rw [eb, cutD_nat, ← hM, List.map_drop, List.map_take]
  generalize (r - (a : Int)).toNat = k at er q
  have hb := prods_bd (qs_bd (n := 10) fun x hx => ⟨(hw.sh x hx).1, (hw.sh x hx).2.2.1, (hw.sh x hx).2.2.2⟩)
  rw [qs_len] at hb
  have hl := hw.le
  have hb2 : ∀ y ∈ prods (qs M), Bd 161 y := fun y hy => (hb y hy).mono (by omega)
  have hlen : (prods (qs M)).length ≤ 9 := by rw [prods_len, qs_len]; omega
  have b1 := Bd.sum hb2
  have hlk : ((prods (qs M)).take k).length ≤ 9 := by rw [List.length_take]; omega
  have b2 := Bd.sum (xs := (prods (qs M)).take k) fun x hx => hb2 x (take_sub hx)
  walk_at "xs"
  rw [ec]
  refine S_quotients_of hw ?_
  walk_at "xs"
  refine S_products_of (by rw [qs_len]; exact hl) (qs_bd (n := 10) fun x hx => ⟨(hw.sh x hx).1, (hw.sh x hx).2.2.1, (hw.sh x hx).2.2.2⟩) ?_
  walk_at "xs"
  rw [er, cutD_to, ← List.map_take]
  refine S_sum (n := 161) (fun x hx => hb2 x (take_sub hx)) ?_ ?_
  · omega
  walk_at "xs"
  refine S_sum (n := 161) hb2 ?_ ?_
  · omega
  walk_at "xs"
  exact S_div (prods_sum_pos hw) b2 b1 (by omega) q
theorem has_top_of (F : DefIn K mg "top_of" s_top_of ["ladder", "rung"]) (h_between_of : Has P w K mg base CX0 "between_of" ["ladder", "low", "high", "rung"] 5 (PSp R_between_of)) (m_len : mg "len" = none) : Has P w K mg base CX0 "top_of" ["ladder", "rung"] 6 (PSp R_top_of) := by
  refine has_pure F sc_top_of (by walk_at "len") fun f cdv A outer s H E hr => ⟨_, (pss_one (ps_ret (pe_h h_between_of hr (by decide) (by rfl) (pa_cons (pv 0) (pa_cons pe_int (pa_cons (pe_op op_plus (pe_callB (cLen (K := K) rfl) (by rfl) m_len PySem.boot_len (pa_cons (pv 0) pa_nil)) pe_int) (pa_cons (pv 1) pa_nil))))))), ?_⟩
  rintro ds Q ⟨L, r, rfl, h, h1, h2, q⟩
  walk_at "xs"
  refine S_between_of h (by omega) (by omega) ?_ ?_ ?_ ?_
  · omega
  · omega
  · omega
  · have e : ((L.length : Int) + 1).toNat - 1 = L.length := by omega
    rw [e, List.take_length]
    simpa using q
theorem has_given_of (F : DefIn K mg "given_of" s_given_of ["ladder", "rung", "high"]) (h_divided : Has P w K mg base CX0 "divided" ["one", "other"] 3 (PSp R_div)) (h_times_of : Has P w K mg base CX0 "times_of" ["one", "other"] 3 (PSp R_mul)) (h_minus : Has P w K mg base CX0 "minus" ["one", "other"] 3 (PSp R_sub)) (h_top_of : Has P w K mg base CX0 "top_of" ["ladder", "rung"] 6 (PSp R_top_of)) : Has P w K mg base CX0 "given_of" ["ladder", "rung", "high"] 7 (PSp R_given_of) := by
  refine has_pure F sc_given_of (by walk_at "len") fun f cdv A outer s H E hr => ⟨_, (pss_cons (ps_asg (pe_ix (ixS (K := K) rfl) (pv 0) (pe_op op_sub (pv 1) pe_int) (fun _ _ => rfl)) (pg_tupK (K := K) (n := 2) rfl rfl (pgs_cons (pg_name (i := 3) sc_given_of.nd rfl (by first | exact Or.inl rfl | exact Or.inr rfl)) (pgs_cons (pg_name (i := 4) sc_given_of.nd rfl (by first | exact Or.inl rfl | exact Or.inr rfl)) pgs_nil))))
        (pss_cons (ps_setLc (i := 5) (own := [("one", 6)]) (g := gName 6) rfl sc_given_of.nd rfl rfl (sw_true rfl rfl rfl (by decide +kernel)) (pi_tupK (K := K) rfl (pe_tup (pa_cons (pe_op op_sub (pv 1) pe_int) (pa_cons (pv 1) (pa_cons (pe_op op_plus (pv 1) pe_int) pa_nil))))) (blkOk_by (own := [("one", 6)]) (N := N_given_of) (sc := defScope s_given_of) (by decide +kernel)) (fun _ _ _ _ _ => by exact (pg_name (i := 6) sc_given_of.nd rfl (by first | exact Or.inl rfl | exact Or.inr rfl))) (fun _ _ _ _ _ => by exact pts_nil) (fun _ _ _ _ _ => by exact (pe_h h_top_of hr (by decide) (by rfl) (pa_cons (pv 0) (pa_cons (pv 6) pa_nil)))))
        (pss_cons (ps_if (pt_not (pt_val (pv 2)))
        (pss_one (ps_setLc (i := 5) (own := [("one", 6)]) (g := gName 6) rfl sc_given_of.nd rfl rfl (sw_true rfl rfl rfl (by decide +kernel)) (pi_listK (K := K) rfl (pv 5)) (blkOk_by (own := [("one", 6)]) (N := N_given_of) (sc := defScope s_given_of) (by decide +kernel)) (fun _ _ _ _ _ => by exact (pg_name (i := 6) sc_given_of.nd rfl (by first | exact Or.inl rfl | exact Or.inr rfl))) (fun _ _ _ _ _ => by exact pts_nil) (fun _ _ _ _ _ => by exact (pe_h h_minus hr (by decide) (by rfl) (pa_cons (pe_tup (pa_cons pe_int (pa_cons pe_int pa_nil))) (pa_cons (pv 6) pa_nil))))))
        pss_nil)
        (pss_one (ps_ret (pe_tup (pa_cons (pe_h h_divided hr (by decide) (by rfl) (pa_cons (pe_h h_times_of hr (by decide) (by rfl) (pa_cons (pv 3) (pa_cons (pe_ix (ixS (K := K) rfl) (pv 5) pe_int (fun _ _ => rfl)) pa_nil))) (pa_cons (pe_ix (ixS (K := K) rfl) (pv 5) pe_int (fun _ _ => rfl)) pa_nil))) (pa_cons (pe_h h_divided hr (by decide) (by rfl) (pa_cons (pe_h h_times_of hr (by decide) (by rfl) (pa_cons (pv 4) (pa_cons (pe_ix (ixS (K := K) rfl) (pv 5) pe_int (fun _ _ => rfl)) pa_nil))) (pa_cons (pe_ix (ixS (K := K) rfl) (pv 5) pe_int (fun _ _ => rfl)) pa_nil))) pa_nil)))))))), ?_⟩
  rintro ds Q ⟨L, i, hi, rfl, hz, hl, q⟩
  have lw := hz.lw
  have hx := getD_get' hl
  obtain ⟨_, _, g3, g4⟩ := lw.sh _ (List.mem_of_getElem? hx)
  have h8 := lw.le
  walk_at "xs"
  refine rp_ixL (at_map (f := encR) (j := i) (by omega) hx) ?_
  walk_at "xs"
  have e3 : [PyData.int (1 + (i : Int) - 1), .int (1 + (i : Int)), .int (1 + (i : Int) + 1)] = [i, i + 1, i + 2].map natD := by
    show _ = [PyData.int (i : Int), .int ((i + 1 : Nat) : Int), .int ((i + 2 : Nat) : Int)]
    rw [show 1 + (i : Int) - 1 = (i : Int) by omega, show 1 + (i : Int) = ((i + 1 : Nat) : Int) by omega, show ((i + 1 : Nat) : Int) + 1 = ((i + 2 : Nat) : Int) by omega]
  rw [e3]
  refine lcI_enc (fun k : Nat => hB L k) (Nat.le_of_ble_eq_true rfl) (fun j x hj => ?_) ?_
  · have hx2 : x ≤ L.length + 1 := by
      have := List.mem_of_getElem? hj
      simp only [List.mem_cons, List.not_mem_nil, or_false] at this
      omega
    walk_at "xs"
    refine S_top_of lw (by omega) (by omega) ?_
    rw [Int.toNat_natCast]
  have p1 := hX_pos lw hi (r := i + 1) (by omega) (by omega)
  walk_at "x0"
  refine ds_mono (fun ρ => ∃ z6, ρ = [.dat (encL L), .dat (.int (1 + (i : Int))), .dat (.bool hi), .dat (enc (L.getD i (0, 0)).1), .dat (enc (L.getD i (0, 0)).2), .dat (.list (([i, i + 1, i + 2].map (hX L hi)).map enc)), z6]) ?_ ?_
  · refine ds_if ?_
    walk_at "xg"
    cases hi with
    | true =>
      refine iteX rfl ?_
      refine ds_next ?_
      exact ⟨_, rfl⟩
    | false =>
      refine iteY rfl ?_
      walk_at "xg"
      refine lcI_enc (fun u : Rat => 1 - u) (by show 3 ≤ 100000; decide) (fun j x hj => ?_) ?_
      · have hb : Bd 50 x := by
          have := List.mem_of_getElem? hj
          obtain ⟨k, _, rfl⟩ := List.mem_map.mp this
          exact hz.hBd k
        walk_at "xg"
        exact S_sub Bd.one hb (by decide) rfl
      exact ⟨_, rfl⟩
  rintro ρ' ⟨z6, rfl⟩
  walk_at "xs"
  refine S_mul g3 (hz.hXBd hi _) (by decide) ?_
  walk_at "xs"
  refine S_div p1 (g3.mul (hz.hXBd hi _)) (hz.hXBd hi _) (by decide) ?_
  walk_at "xs"
  refine S_mul g4 (hz.hXBd hi _) (by decide) ?_
  walk_at "xs"
  refine S_div p1 (g4.mul (hz.hXBd hi _)) (hz.hXBd hi _) (by decide) ?_
  walk_at "xs"
  exact q
theorem has_given_bottom (F : DefIn K mg "given_bottom" s_given_bottom ["ladder"]) (h_given_of : Has P w K mg base CX0 "given_of" ["ladder", "rung", "high"] 7 (PSp R_given_of)) (h_check_ladder : Has P w K mg base (L2.CX P w) "check_ladder" ["value"] 4 (XSp (R_ckL er))) (m_range : mg "range" = none) (m_len : mg "len" = none) : Has P w K mg base (L2.CX P w) "given_bottom" ["ladder"] 8 (XSp (RX er [.L] (fun ds P _ => (R_given false) ds P))) := by
  refine has_pureX F sc_given_bottom (by walk_at "lenX") fun f cdv A outer s H E hr => ⟨_, (pss_cons (ps_expr (pe_hX h_check_ladder hr (by decide) (by rfl) (takes_of rfl rfl rfl rfl) (pa_cons (pv 0) pa_nil)))
        (pss_one (ps_nox (ps_ret (pe_lc (own := [("rung", 1)]) (g := gName 1) rfl sc_given_bottom.nd (pi_range2 rfl m_range (pa_cons pe_int (pa_cons (pe_op op_plus (pe_callB (cLen (K := K) rfl) (by rfl) m_len PySem.boot_len (pa_cons (pv 0) pa_nil)) pe_int) pa_nil))) (blkOk_by (own := [("rung", 1)]) (N := N_given_bottom) (sc := defScope s_given_bottom) (by decide +kernel)) (fun _ _ _ _ _ => by exact (pg_name (i := 1) sc_given_bottom.nd rfl (by first | exact Or.inl rfl | exact Or.inr rfl))) (fun _ _ _ _ _ => by exact pts_nil) (fun _ _ _ _ _ => by exact (pe_h h_given_of hr (by decide) (by rfl) (pa_cons (pv 0) (pa_cons (pv 1) (pa_cons pe_bl pa_nil)))))))))), ?_⟩
  rintro ds Q Z ⟨hl0, qe, q0⟩
  obtain ⟨a0, rfl⟩ := len1 hl0
  walk_at "xs"
  refine S_ckL (fun k0 => ?_) (fun k0 => qe _ (f1_bad (k := .L) k0))
  obtain ⟨L, hds, h, hz, q⟩ := q0 ((f1_ok (k := .L) k0).trans f1_nil)
  cases hds
  have h8 := h.le
  walk_at "xs"
  refine lcI_map (fun i : Nat => encR (gvL L false i)) ?_ ?_ ?_
  · rw [List.length_range]; omega
  · intro i x hi
    obtain ⟨rfl, hlt⟩ := range_get hi
    walk_at "xs"
    exact S_given_of hz (by omega) rfl
  have e : ((L.length : Int) + 1 - 1).toNat = L.length := by omega
  rw [e]
  unfold encL gtL at q
  rw [List.map_map] at q
  exact q
theorem has_given_top (F : DefIn K mg "given_top" s_given_top ["ladder"]) (h_given_of : Has P w K mg base CX0 "given_of" ["ladder", "rung", "high"] 7 (PSp R_given_of)) (h_check_ladder : Has P w K mg base (L2.CX P w) "check_ladder" ["value"] 4 (XSp (R_ckL er))) (m_range : mg "range" = none) (m_len : mg "len" = none) : Has P w K mg base (L2.CX P w) "given_top" ["ladder"] 8 (XSp (RX er [.L] (fun ds P _ => (R_given true) ds P))) := by
  refine has_pureX F sc_given_top (by walk_at "lenX") fun f cdv A outer s H E hr => ⟨_, (pss_cons (ps_expr (pe_hX h_check_ladder hr (by decide) (by rfl) (takes_of rfl rfl rfl rfl) (pa_cons (pv 0) pa_nil)))
        (pss_one (ps_nox (ps_ret (pe_lc (own := [("rung", 1)]) (g := gName 1) rfl sc_given_top.nd (pi_range2 rfl m_range (pa_cons pe_int (pa_cons (pe_op op_plus (pe_callB (cLen (K := K) rfl) (by rfl) m_len PySem.boot_len (pa_cons (pv 0) pa_nil)) pe_int) pa_nil))) (blkOk_by (own := [("rung", 1)]) (N := N_given_top) (sc := defScope s_given_top) (by decide +kernel)) (fun _ _ _ _ _ => by exact (pg_name (i := 1) sc_given_top.nd rfl (by first | exact Or.inl rfl | exact Or.inr rfl))) (fun _ _ _ _ _ => by exact pts_nil) (fun _ _ _ _ _ => by exact (pe_h h_given_of hr (by decide) (by rfl) (pa_cons (pv 0) (pa_cons (pv 1) (pa_cons pe_bl pa_nil)))))))))), ?_⟩
  rintro ds Q Z ⟨hl0, qe, q0⟩
  obtain ⟨a0, rfl⟩ := len1 hl0
  walk_at "xs"
  refine S_ckL (fun k0 => ?_) (fun k0 => qe _ (f1_bad (k := .L) k0))
  obtain ⟨L, hds, h, hz, q⟩ := q0 ((f1_ok (k := .L) k0).trans f1_nil)
  cases hds
  have h8 := h.le
  walk_at "xs"
  refine lcI_map (fun i : Nat => encR (gvL L true i)) ?_ ?_ ?_
  · rw [List.length_range]; omega
  · intro i x hi
    obtain ⟨rfl, hlt⟩ := range_get hi
    walk_at "xs"
    exact S_given_of hz (by omega) rfl
  have e : ((L.length : Int) + 1 - 1).toNat = L.length := by omega
  rw [e]
  unfold encL gtL at q
  rw [List.map_map] at q
  exact q
theorem has_means_of (F : DefIn K mg "means_of" s_means_of ["ladder"]) (h_plus : Has P w K mg base CX0 "plus" ["one", "other"] 3 (PSp R_add)) (h_minus : Has P w K mg base CX0 "minus" ["one", "other"] 3 (PSp R_sub)) (h_times_of : Has P w K mg base CX0 "times_of" ["one", "other"] 3 (PSp R_mul)) (h_divided : Has P w K mg base CX0 "divided" ["one", "other"] 3 (PSp R_div)) (h_total : Has P w K mg base CX0 "total" ["some"] 4 (PSp R_sum)) (m_zip : mg "zip" = none) : Has P w K mg base CX0 "means_of" ["ladder"] 5 (PSp R_means_of) := by
  refine has_pure F sc_means_of (by walk_at "len") fun f cdv A outer s H E hr => ⟨_, (pss_cons (ps_par (i := 1) (j := 2) rfl sc_means_of.nd rfl rfl (by decide) rfl rfl (pa_cons (pe_lst (pa_cons (pe_tup (pa_cons pe_int (pa_cons pe_int pa_nil))) pa_nil)) (pa_cons (pe_lst (pa_cons (pe_tup (pa_cons pe_int (pa_cons pe_int pa_nil))) pa_nil)) pa_nil)) rfl)
        (pss_cons (ps_for PassesOwn.never rfl (pi_listK (K := K) rfl (pv 0)) (pg_tupK (K := K) (n := 2) rfl rfl (pgs_cons (pg_name (i := 3) sc_means_of.nd rfl (by first | exact Or.inl rfl | exact Or.inr rfl)) (pgs_cons (pg_name (i := 4) sc_means_of.nd rfl (by first | exact Or.inl rfl | exact Or.inr rfl)) pgs_nil)))
        (pss_cons (ps_expr (pe_appK (K := K) rfl (pv 1) (pa_cons (pe_h h_divided hr (by decide) (by rfl) (pa_cons (pe_h h_times_of hr (by decide) (by rfl) (pa_cons (pv 4) (pa_cons (pe_ix (ixS (K := K) rfl) (pv 1) (pe_un un_neg pe_int) (fun _ _ => rfl)) pa_nil))) (pa_cons (pv 3) pa_nil))) pa_nil)))
        (pss_one (ps_expr (pe_appK (K := K) rfl (pv 2) (pa_cons (pe_h h_divided hr (by decide) (by rfl) (pa_cons (pe_h h_plus hr (by decide) (by rfl) (pa_cons (pe_h h_times_of hr (by decide) (by rfl) (pa_cons (pv 4) (pa_cons (pe_ix (ixS (K := K) rfl) (pv 2) (pe_un un_neg pe_int) (fun _ _ => rfl)) pa_nil))) (pa_cons (pe_tup (pa_cons pe_int (pa_cons pe_int pa_nil))) pa_nil))) (pa_cons (pv 3) pa_nil))) pa_nil))))))
        (pss_cons (ps_set (i := 5) sc_means_of.nd rfl (by first | exact Or.inl rfl | exact Or.inr rfl) (pe_h h_divided hr (by decide) (by rfl) (pa_cons (pe_h h_total hr (by decide) (by rfl) (pa_cons (pv 2) pa_nil)) (pa_cons (pe_h h_total hr (by decide) (by rfl) (pa_cons (pv 1) pa_nil)) pa_nil))))
        (pss_cons (ps_set (i := 6) sc_means_of.nd rfl (by first | exact Or.inl rfl | exact Or.inr rfl) (pe_lst (pa_cons (pe_tup (pa_cons pe_int (pa_cons pe_int pa_nil))) pa_nil)))
        (pss_cons (ps_for PassesOwn.never rfl (pi_zipK (K := K) rfl (by rfl) m_zip (pa_cons (pv 1) (pa_cons (pv 2) pa_nil))) (pg_tupK (K := K) (n := 2) rfl rfl (pgs_cons (pg_name (i := 7) sc_means_of.nd rfl (by first | exact Or.inl rfl | exact Or.inr rfl)) (pgs_cons (pg_name (i := 8) sc_means_of.nd rfl (by first | exact Or.inl rfl | exact Or.inr rfl)) pgs_nil)))
        (pss_one (ps_expr (pe_appK (K := K) rfl (pv 6) (pa_cons (pe_h h_plus hr (by decide) (by rfl) (pa_cons (pe_ix (ixS (K := K) rfl) (pv 6) (pe_un un_neg pe_int) (fun _ _ => rfl)) (pa_cons (pe_h h_minus hr (by decide) (by rfl) (pa_cons (pe_h h_times_of hr (by decide) (by rfl) (pa_cons (pv 7) (pa_cons (pv 5) pa_nil))) (pa_cons (pv 8) pa_nil))) pa_nil))) pa_nil)))))
        (pss_one (ps_ret (pv 6)))))))), ?_⟩
  rintro ds Q ⟨L, rfl, h, q⟩
  have lw := h.lw
  have h8 := lw.le
  have ha := h.aBd
  have hb := h.bBd
  refine ds_seq (ds_parOO pureN_pair (en_lst ?_))
  walk_at "xg"
  intro p p'
  walk_at "xg"
  have e0 : [enc 1] = ((prods (qs L)).take 1).map enc := by unfold prods; cases (qs L) <;> rfl
  have e1 : [PyData.tuple [.int 0, .int 1]] = ((oth L).take 1).map enc := by unfold oth; cases L <;> rfl
  refine forI_map (fun i ρ => ∃ z3 z4, ρ = [.dat (encL L), .own p (((prods (qs L)).take (i + 1)).map enc), .own p' (((oth L).take (i + 1)).map enc), z3, z4, .no, .no, .no, .no]) ⟨.no, .no, by rw [← e0, ← e1]; rfl⟩ ?_ ?_
  · rintro i x ρ' hi ⟨z3, z4, rfl⟩
    have hlt : i < L.length := (List.getElem?_eq_some_iff.mp hi).1
    obtain ⟨g1, g2, g3, g4⟩ := lw.sh x (List.mem_of_getElem? hi)
    have hp : i < (prods (qs L)).length := by rw [prods_len, qs_len]; omega
    have hp' : i < (oth L).length := by rw [oth_len]; omega
    have a1 : (prods (qs L))[i]? = some (prods (qs L))[i] := List.getElem?_eq_getElem hp
    have b1 : (oth L)[i]? = some (oth L)[i] := List.getElem?_eq_getElem hp'
    have ba := ha _ (List.mem_of_getElem? a1)
    have bb := hb _ (List.mem_of_getElem? b1)
    have a2 := prods_succ a1 (show (qs L)[i]? = some (x.2 / x.1) by unfold qs; rw [List.getElem?_map, hi]; rfl)
    have b2 := oth_succ b1 hi
    have hn : x.1 ≠ 0 := Rat.ne_of_gt g1
    have g5 := List.take_add_one (l := prods (qs L)) (i := i)
    have g6 := List.take_add_one (l := oth L) (i := i)
    generalize (prods (qs L))[i] = a at *
    generalize (oth L)[i] = b at *
    walk_at "xg"
    refine ds_app rfl ?_ ?_
    · rw [List.length_map, List.length_take, prods_len, qs_len]; omega
    walk_at "xg"
    refine ⟨_, _, rfl, at_last (x := a) ?_, ?_⟩
    · rw [g5, a1]; exact List.getLast?_concat
    walk_at "xg"
    refine S_mul g4 ba (by decide) ?_
    walk_at "xg"
    refine S_div g1 (g4.mul ba) g3 (by decide) ?_
    walk_at "xg"
    refine ds_app rfl ?_ ?_
    · rw [List.length_map, List.length_take, oth_len]; omega
    walk_at "xg"
    refine ⟨_, _, rfl, at_last (x := b) ?_, ?_⟩
    · rw [g6, b1]; exact List.getLast?_concat
    walk_at "xg"
    refine S_mul g4 bb (by decide) ?_
    walk_at "xg"
    refine S_add (g4.mul bb) Bd.one (by decide) ?_
    walk_at "xg"
    refine S_div g1 ((g4.mul bb).add Bd.one) g3 (by decide) ?_
    have e3 : ((prods (qs L)).take (i + 1 + 1)).map enc = ((prods (qs L)).take (i + 1)).map enc ++ [enc (x.2 * a / x.1)] := by
      rw [List.take_add_one (i := i + 1), a2, List.map_append]
      rw [show x.2 * a / x.1 = a * (x.2 / x.1) by grind]; rfl
    have e4 : ((oth L).take (i + 1 + 1)).map enc = ((oth L).take (i + 1)).map enc ++ [enc ((x.2 * b + 1) / x.1)] := by
      rw [List.take_add_one (i := i + 1), b2, List.map_append]; rfl
    rw [e3, e4]
    exact ⟨_, _, rfl⟩
  rintro ρ' ⟨z3, z4, rfl⟩
  refine ds_freeze (i := 1) rfl (ds_freeze (i := 2) rfl (ds_forget 3 (ds_forget 4 ?_)))
  rw [List.take_of_length_le (l := prods (qs L)) (by rw [prods_len, qs_len]; omega), List.take_of_length_le (l := oth L) (by rw [oth_len]; omega)]
  walk_at "xg"
  refine S_sum (n := 50) hb (by rw [oth_len]; omega) ?_
  walk_at "xg"
  refine S_sum (n := 50) ha (by rw [prods_len, qs_len]; omega) ?_
  walk_at "xg"
  refine S_div (prods_sum_pos lw) h.YBd h.SBd (by decide) ?_
  walk_at "x0"
  refine ds_own (en_lst ?_)
  walk_at "xg"
  intro p2
  walk_at "xg"
  rw [zipD_map]
  have e2 : [enc 0] = ((mms L).take 1).map enc := by
    unfold mms
    rw [List.range_succ_eq_map, List.map_cons, mM_zero]; rfl
  have hF : (oth L).sum / (prods (qs L)).sum = mF L := rfl
  rw [hF]
  refine forI_map (fun i ρ => ∃ z7 z8, ρ = [.dat (encL L), .dat (.list ((prods (qs L)).map enc)), .dat (.list ((oth L).map enc)), .no, .no, .dat (enc (mF L)), .own p2 (((mms L).take (i + 1)).map enc), z7, z8]) ⟨.no, .no, by rw [← e2]; rfl⟩ ?_ ?_
  · rintro i ⟨a, b⟩ ρ' hi ⟨z7, z8, rfl⟩
    obtain ⟨a1, b1⟩ := zip_get hi
    have a1 : (prods (qs L))[i]? = some a := a1
    have b1 : (oth L)[i]? = some b := b1
    have hlt := (List.getElem?_eq_some_iff.mp a1).1
    rw [prods_len, qs_len] at hlt
    have ba := ha _ (List.mem_of_getElem? a1)
    have bb := hb _ (List.mem_of_getElem? b1)
    walk_at "xg"
    refine ds_app rfl ?_ ?_
    · rw [List.length_map, List.length_take, mms_len]; omega
    walk_at "xg"
    refine ⟨_, _, rfl, at_last (x := mM L i) ?_, ?_⟩
    · rw [List.take_add_one, mms_get (by omega)]; exact List.getLast?_concat
    walk_at "xg"
    refine S_mul ba h.FBd (by decide) ?_
    walk_at "xg"
    refine S_sub (ba.mul h.FBd) bb (by decide) ?_
    walk_at "xg"
    refine S_add (h.mBd i) ((ba.mul h.FBd).sub bb) (by decide) ?_
    have e3 : ((mms L).take (i + 1 + 1)).map enc = ((mms L).take (i + 1)).map enc ++ [enc (mM L i + (a * mF L - b))] := by
      rw [List.take_add_one (i := i + 1), mms_get (by omega), mM_succ a1 b1, List.map_append]; rfl
    rw [e3]
    exact ⟨_, _, rfl⟩
  · rintro ρ' ⟨z7, z8, rfl⟩
    refine ds_retO rfl ?_
    rw [List.take_of_length_le (by rw [mms_len, List.length_zip, prods_len, qs_len, oth_len]; omega)]
    exact q
theorem has_longest_rung (F : DefIn K mg "longest_rung" s_longest_rung ["ladder"]) (h_means_of : Has P w K mg base CX0 "means_of" ["ladder"] 5 (PSp R_means_of)) (h_check_ladder : Has P w K mg base (L2.CX P w) "check_ladder" ["value"] 4 (XSp (R_ckL er))) (m_enumerate : mg "enumerate" = none) : Has P w K mg base (L2.CX P w) "longest_rung" ["ladder"] 6 (XSp (RX er [.L] (fun ds P _ => R_longest_rung ds P))) := by
  refine has_pureX F sc_longest_rung (by walk_at "lenX") fun f cdv A outer s H E hr => ⟨_, (pss_cons (ps_expr (pe_hX h_check_ladder hr (by decide) (by rfl) (takes_of rfl rfl rfl rfl) (pa_cons (pv 0) pa_nil)))
        (pss_cons (ps_nox (ps_set (i := 1) sc_longest_rung.nd rfl (by first | exact Or.inl rfl | exact Or.inr rfl) (pe_h h_means_of hr (by decide) (by rfl) (pa_cons (pv 0) pa_nil))))
        (pss_cons (ps_nox (ps_set (i := 2) sc_longest_rung.nd rfl (by first | exact Or.inl rfl | exact Or.inr rfl) pe_int))
        (pss_cons (ps_nox (ps_for PassesOwn.never rfl (pi_enumK (K := K) rfl (by rfl) m_enumerate (pa_cons (pv 1) pa_nil)) (pg_tupK (K := K) (n := 2) rfl rfl (pgs_cons (pg_name (i := 3) sc_longest_rung.nd rfl (by first | exact Or.inl rfl | exact Or.inr rfl)) (pgs_cons (pg_name (i := 4) sc_longest_rung.nd rfl (by first | exact Or.inl rfl | exact Or.inr rfl)) pgs_nil)))
        (pss_one (ps_if (pt_cmpR op_lt (pe_op op_times (pe_ix (ixS (K := K) rfl) (pe_ix (ixS (K := K) rfl) (pv 1) (pv 2) (fun _ _ => rfl)) pe_int (fun _ _ => rfl)) (pe_ix (ixS (K := K) rfl) (pv 4) pe_int (fun _ _ => rfl))) (pe_op op_times (pe_ix (ixS (K := K) rfl) (pv 4) pe_int (fun _ _ => rfl)) (pe_ix (ixS (K := K) rfl) (pe_ix (ixS (K := K) rfl) (pv 1) (pv 2) (fun _ _ => rfl)) pe_int (fun _ _ => rfl))) (nomark _))
        (pss_one (ps_set (i := 2) sc_longest_rung.nd rfl (by first | exact Or.inl rfl | exact Or.inr rfl) (pv 3)))
        pss_nil))))
        (pss_one (ps_nox (ps_ret (pv 2)))))))), ?_⟩
  rintro ds Q Z ⟨hl0, qe, q0⟩
  obtain ⟨a0, rfl⟩ := len1 hl0
  walk_at "xs"
  refine S_ckL (fun k0 => ?_) (fun k0 => qe _ (f1_bad (k := .L) k0))
  obtain ⟨L, hds, h, hz, q⟩ := q0 ((f1_ok (k := .L) k0).trans f1_nil)
  cases hds
  have h8 := h.le
  walk_at "xg"
  refine S_means_of hz ?_
  walk_at "xg"
  rw [enumD_map]
  refine forI_map (fun i ρ => ∃ (b : Nat) (z3 z4 : Slot), ρ = [.dat (encL L), .dat (.list ((mms L).map enc)), .dat (.int (b : Int)), z3, z4] ∧ b ≤ L.length + 1 ∧ (∀ j, j < i → mM L j ≤ mM L b) ∧ (∀ j, j < b → mM L j < mM L b)) ⟨0, _, _, rfl, by omega, fun j hj => absurd hj (by omega), fun j hj => absurd hj (by omega)⟩ ?_ ?_
  · rintro i ⟨x, i'⟩ ρ' hi ⟨b, z3, z4, rfl, hb, h1, h2⟩
    obtain ⟨hx, hi'⟩ := zipIdx_get hi
    have hi' : i' = i := hi'
    have hx : (mms L)[i]? = some x := hx
    subst hi'
    have hlt : i' < L.length + 2 := by
      have := (List.getElem?_eq_some_iff.mp hx).1
      rwa [mms_len] at this
    have ex : x = mM L i' := by
      rw [mms_get (by omega)] at hx
      exact (Option.some.inj hx).symm
    subst ex
    have b1 := hz.mBd b
    have b2 := hz.mBd i'
    walk_at "xg"
    refine ds_if ?_
    walk_at "xg"
    refine rp_ixL (at_mms (r := b) rfl hb) ?_
    walk_at "xg"
    refine rp_timesI (wide_mul (a := 100) (b := 100) b1.1 (by simpa using b2.2) (by decide) (by decide) (by decide)) ?_
    walk_at "xg"
    refine rp_ixL (at_mms (r := b) rfl hb) ?_
    walk_at "xg"
    refine rp_timesI (wide_mul (a := 100) (b := 100) b2.1 (by simpa using b1.2) (by decide) (by decide) (by decide)) ?_
    walk_at "xg"
    refine iteD (fun e => ?_) (fun e => ?_)
    · have e2 : mM L b < mM L i' := (Rat.lt_iff _ _).mpr e
      walk_at "xg"
      refine ⟨i', _, _, rfl, by omega, fun j hj => ?_, fun j hj => ?_⟩
      · by_cases ej : j = i'
        · subst ej; exact Rat.le_refl
        · have := h1 j (by omega); grind
      · have := h1 j (by omega); grind
    · have e2 : ¬ mM L b < mM L i' := fun z => e ((Rat.lt_iff _ _).mp z)
      walk_at "xg"
      refine ⟨b, _, _, rfl, hb, fun j hj => ?_, h2⟩
      by_cases ej : j = i'
      · subst ej; grind
      · exact h1 j (by omega)
  · rintro ρ' ⟨b, z3, z4, rfl, hb, h1, h2⟩
    walk_at "xg"
    refine q b hb (fun j hj => h1 j ?_) h2
    rw [List.length_zipIdx, mms_len]; omega
theorem has_all_mean_steps (F : DefIn K mg "all_mean_steps" s_all_mean_steps ["ladder"]) (h_means_of : Has P w K mg base CX0 "means_of" ["ladder"] 5 (PSp R_means_of)) (h_check_ladder : Has P w K mg base (L2.CX P w) "check_ladder" ["value"] 4 (XSp (R_ckL er))) : Has P w K mg base (L2.CX P w) "all_mean_steps" ["ladder"] 6 (XSp (RX er [.L] (fun ds P _ => R_all_mean_steps ds P))) := by
  refine has_pureX F sc_all_mean_steps (by walk_at "lenX") fun f cdv A outer s H E hr => ⟨_, (pss_cons (ps_expr (pe_hX h_check_ladder hr (by decide) (by rfl) (takes_of rfl rfl rfl rfl) (pa_cons (pv 0) pa_nil)))
        (pss_one (ps_nox (ps_ret (pe_h h_means_of hr (by decide) (by rfl) (pa_cons (pv 0) pa_nil)))))), ?_⟩
  rintro ds Q Z ⟨hl0, qe, q0⟩
  obtain ⟨a0, rfl⟩ := len1 hl0
  walk_at "xs"
  refine S_ckL (fun k0 => ?_) (fun k0 => qe _ (f1_bad (k := .L) k0))
  obtain ⟨L, hds, h, hz, q⟩ := q0 ((f1_ok (k := .L) k0).trans f1_nil)
  cases hds
  walk_at "xg"
  exact S_means_of hz q
theorem has_end_alike (F : DefIn K mg "end_alike" s_end_alike ["one", "other"]) (h_quotients_of : Has P w K mg base CX0 "quotients_of" ["ladder"] 4 (PSp R_quotients_of)) (h_check_ladder : Has P w K mg base (L2.CX P w) "check_ladder" ["value"] 4 (XSp (R_ckL er))) : Has P w K mg base (L2.CX P w) "end_alike" ["one", "other"] 5 (XSp (RX er [.L, .L] (fun ds P _ => R_end_alike ds P))) := by
  refine has_pureX F sc_end_alike (by walk_at "lenX") fun f cdv A outer s H E hr => ⟨_, (pss_cons (ps_expr (pe_hX h_check_ladder hr (by decide) (by rfl) (takes_of rfl rfl rfl rfl) (pa_cons (pv 0) pa_nil)))
        (pss_cons (ps_expr (pe_hX h_check_ladder hr (by decide) (by rfl) (takes_of rfl rfl rfl rfl) (pa_cons (pv 1) pa_nil)))
        (pss_one (ps_nox (ps_ret (pe_cmpR (opEq (K := K) rfl hr.units) (pe_h h_quotients_of hr (by decide) (by rfl) (pa_cons (pv 0) pa_nil)) (pe_h h_quotients_of hr (by decide) (by rfl) (pa_cons (pv 1) pa_nil)) (nomark _))))))), ?_⟩
  rintro ds Q Z ⟨hl0, qe, q0⟩
  obtain ⟨a0, a1, rfl⟩ := len2 hl0
  walk_at "xs"
  refine S_ckL (fun k0 => ?_) (fun k0 => qe _ (f1_bad (k := .L) k0))
  walk_at "xs"
  refine S_ckL (fun k1 => ?_) (fun k1 => qe _ ((f1_ok (k := .L) k0).trans (f1_bad (k := .L) k1)))
  obtain ⟨L, M, hds, h1, h2, q⟩ := q0 ((f1_ok (k := .L) k0).trans ((f1_ok (k := .L) k1).trans f1_nil))
  cases hds
  walk_at "xs"
  refine S_quotients_of h1.lw ?_
  walk_at "xs"
  refine S_quotients_of h2.lw ?_
  walk_at "xs"
  exact q
theorem has_is_fair (F : DefIn K mg "is_fair" s_is_fair ["ladder"]) (h_check_ladder : Has P w K mg base (L2.CX P w) "check_ladder" ["value"] 4 (XSp (R_ckL er))) (m_all : mg "all" = none) : Has P w K mg base (L2.CX P w) "is_fair" ["ladder"] 5 (XSp (RX er [.L] (fun ds P _ => R_is_fair ds P))) := by
  refine has_pureX F sc_is_fair (by walk_at "lenX") fun f cdv A outer s H E hr => ⟨_, (pss_cons (ps_expr (pe_hX h_check_ladder hr (by decide) (by rfl) (takes_of rfl rfl rfl rfl) (pa_cons (pv 0) pa_nil)))
        (pss_one (ps_nox (ps_ret (pe_callB (cAll (K := K) rfl rfl) (by rfl) m_all (by decide +kernel) (pa_cons (pe_lc (own := [("up", 1), ("down", 2)]) (g := gTup K 2 (gCons (gName 1) (gCons (gName 2) gNil))) rfl sc_is_fair.nd (pi_listK (K := K) rfl (pv 0)) (blkOk_by (own := [("up", 1), ("down", 2)]) (N := N_is_fair) (sc := defScope s_is_fair) (by decide +kernel)) (fun _ _ _ _ _ => by exact (pg_tupK (K := K) (n := 2) rfl rfl (pgs_cons (pg_name (i := 1) sc_is_fair.nd rfl (by first | exact Or.inl rfl | exact Or.inr rfl)) (pgs_cons (pg_name (i := 2) sc_is_fair.nd rfl (by first | exact Or.inl rfl | exact Or.inr rfl)) pgs_nil)))) (fun _ _ _ _ _ => by exact pts_nil) (fun _ _ _ _ _ => by exact (pe_cmpR (opEq (K := K) rfl hr.units) (pv 1) (pv 2) (nomark _)))) pa_nil)))))), ?_⟩
  rintro ds Q Z ⟨hl0, qe, q0⟩
  obtain ⟨a0, rfl⟩ := len1 hl0
  walk_at "xs"
  refine S_ckL (fun k0 => ?_) (fun k0 => qe _ (f1_bad (k := .L) k0))
  obtain ⟨L, hds, h, q⟩ := q0 ((f1_ok (k := .L) k0).trans f1_nil)
  cases hds
  have hl := h.le
  walk_at "xs"
  refine lcI_map (fun x => .bool (decide (x.1 = x.2))) ?_ ?_ ?_
  · omega
  · intro i x hi
    walk_at "xs"
    rfl
  · walk_at "xs"
    rw [show L.map (fun x => PyData.bool (decide (x.1 = x.2))) = (L.map fun x => decide (x.1 = x.2)).map PyData.bool by rw [List.map_map]; rfl]
    refine rc_all ?_
    rw [List.all_map]
    exact q
theorem has_top_chances (F : DefIn K mg "top_chances" s_top_chances ["ladder"]) (h_top_of : Has P w K mg base CX0 "top_of" ["ladder", "rung"] 6 (PSp R_top_of)) (h_check_ladder : Has P w K mg base (L2.CX P w) "check_ladder" ["value"] 4 (XSp (R_ckL er))) (m_range : mg "range" = none) (m_len : mg "len" = none) : Has P w K mg base (L2.CX P w) "top_chances" ["ladder"] 7 (XSp (RX er [.L] (fun ds P _ => R_top_chances ds P))) := by
  refine has_pureX F sc_top_chances (by walk_at "lenX") fun f cdv A outer s H E hr => ⟨_, (pss_cons (ps_expr (pe_hX h_check_ladder hr (by decide) (by rfl) (takes_of rfl rfl rfl rfl) (pa_cons (pv 0) pa_nil)))
        (pss_one (ps_nox (ps_ret (pe_lc (own := [("rung", 1)]) (g := gName 1) rfl sc_top_chances.nd (pi_range1 rfl m_range (pa_cons (pe_op op_plus (pe_callB (cLen (K := K) rfl) (by rfl) m_len PySem.boot_len (pa_cons (pv 0) pa_nil)) pe_int) pa_nil)) (blkOk_by (own := [("rung", 1)]) (N := N_top_chances) (sc := defScope s_top_chances) (by decide +kernel)) (fun _ _ _ _ _ => by exact (pg_name (i := 1) sc_top_chances.nd rfl (by first | exact Or.inl rfl | exact Or.inr rfl))) (fun _ _ _ _ _ => by exact pts_nil) (fun _ _ _ _ _ => by exact (pe_h h_top_of hr (by decide) (by rfl) (pa_cons (pv 0) (pa_cons (pv 1) pa_nil))))))))), ?_⟩
  rintro ds Q Z ⟨hl0, qe, q0⟩
  obtain ⟨a0, rfl⟩ := len1 hl0
  walk_at "xs"
  refine S_ckL (fun k0 => ?_) (fun k0 => qe _ (f1_bad (k := .L) k0))
  obtain ⟨L, hds, h, q⟩ := q0 ((f1_ok (k := .L) k0).trans f1_nil)
  cases hds
  have hl := h.le
  walk_at "xs"
  refine lcI_map (fun i => enc (hB L i)) ?_ ?_ ?_
  · rw [List.length_range]; omega
  · intro i x hi
    have hx : x < L.length + 2 := by
      obtain ⟨h1, h2⟩ := List.getElem?_eq_some_iff.mp hi
      rw [List.length_range] at h1
      rw [List.getElem_range] at h2
      omega
    walk_at "xs"
    refine S_top_of h.lw (by omega) (by omega) ?_
    simp
  · have e : ((L.length : Int) + 2).toNat = L.length + 2 := by omega
    rw [e]
    rw [hs, List.map_map] at q
    exact q
theorem has_quotients (F : DefIn K mg "quotients" s_quotients ["ladder"]) (h_quotients_of : Has P w K mg base CX0 "quotients_of" ["ladder"] 4 (PSp R_quotients_of)) (h_check_ladder : Has P w K mg base (L2.CX P w) "check_ladder" ["value"] 4 (XSp (R_ckL er))) : Has P w K mg base (L2.CX P w) "quotients" ["ladder"] 5 (XSp (RX er [.L] (fun ds P _ => R_quotients ds P))) := by
  refine has_pureX F sc_quotients (by walk_at "lenX") fun f cdv A outer s H E hr => ⟨_, (pss_cons (ps_expr (pe_hX h_check_ladder hr (by decide) (by rfl) (takes_of rfl rfl rfl rfl) (pa_cons (pv 0) pa_nil)))
        (pss_one (ps_nox (ps_ret (pe_h h_quotients_of hr (by decide) (by rfl) (pa_cons (pv 0) pa_nil)))))), ?_⟩
  rintro ds Q Z ⟨hl0, qe, q0⟩
  obtain ⟨a0, rfl⟩ := len1 hl0
  walk_at "xs"
  refine S_ckL (fun k0 => ?_) (fun k0 => qe _ (f1_bad (k := .L) k0))
  obtain ⟨L, hds, h, q⟩ := q0 ((f1_ok (k := .L) k0).trans f1_nil)
  cases hds
  walk_at "xs"
  exact S_quotients_of h.lw q
theorem has_law_one (F : DefIn K mg "_law_one" s_law_one ["which", "ladder"]) (h_joined : Has P w K mg base (L2.CX P w) "joined" ["one", "other", "up", "down"] 5 (XSp (RX er [.L, .L, .S, .S] (R_joinedX er)))) (h_format_ladder : Has P w K mg base (L2.CX P w) "format_ladder" ["ladder"] 5 (XSp (RX er [.L] (fun ds P _ => R_format_ladder ds P)))) (h_without_stays : Has P w K mg base (L2.CX P w) "without_stays" ["ladder"] 5 (XSp (RX er [.L] (fun ds P _ => R_without_stays ds P)))) (h_turned_over : Has P w K mg base (L2.CX P w) "turned_over" ["ladder"] 5 (XSp (RX er [.L] (fun ds P _ => R_turned_over ds P)))) (h_rests : Has P w K mg base (L2.CX P w) "rests" ["ladder"] 4 (XSp (RX er [.L] (fun ds P _ => R_rests ds P)))) (h_given_bottom : Has P w K mg base (L2.CX P w) "given_bottom" ["ladder"] 8 (XSp (RX er [.L] (fun ds P _ => (R_given false) ds P)))) (h_given_top : Has P w K mg base (L2.CX P w) "given_top" ["ladder"] 8 (XSp (RX er [.L] (fun ds P _ => (R_given true) ds P)))) (h_longest_rung : Has P w K mg base (L2.CX P w) "longest_rung" ["ladder"] 6 (XSp (RX er [.L] (fun ds P _ => R_longest_rung ds P)))) (h_all_mean_steps : Has P w K mg base (L2.CX P w) "all_mean_steps" ["ladder"] 6 (XSp (RX er [.L] (fun ds P _ => R_all_mean_steps ds P)))) (h_end_alike : Has P w K mg base (L2.CX P w) "end_alike" ["one", "other"] 5 (XSp (RX er [.L, .L] (fun ds P _ => R_end_alike ds P)))) (h_is_fair : Has P w K mg base (L2.CX P w) "is_fair" ["ladder"] 5 (XSp (RX er [.L] (fun ds P _ => R_is_fair ds P)))) (h_top_chances : Has P w K mg base (L2.CX P w) "top_chances" ["ladder"] 7 (XSp (RX er [.L] (fun ds P _ => R_top_chances ds P)))) (h_quotients : Has P w K mg base (L2.CX P w) "quotients" ["ladder"] 5 (XSp (RX er [.L] (fun ds P _ => R_quotients ds P)))) : Has P w K mg base (L2.CX P w) "_law_one" ["which", "ladder"] 9 (XSp (R_law_one er)) := by
  refine has_pureX F sc_law_one (by walk_at "lenX") fun f cdv A outer s H E hr => ⟨_, (pss_cons (ps_if (PT.nox (pt_cmpR (opEq (K := K) rfl hr.units) (pv 0) pe_int (nomark _)))
        (pss_one (ps_ret (pe_hX h_quotients hr (by decide) (by rfl) (takes_of rfl rfl rfl rfl) (pa_cons (pv 1) pa_nil))))
        pss_nil)
        (pss_cons (ps_if (PT.nox (pt_cmpR (opEq (K := K) rfl hr.units) (pv 0) pe_int (nomark _)))
        (pss_one (ps_ret (pe_hX h_top_chances hr (by decide) (by rfl) (takes_of rfl rfl rfl rfl) (pa_cons (pv 1) pa_nil))))
        pss_nil)
        (pss_cons (ps_if (PT.nox (pt_cmpR (opEq (K := K) rfl hr.units) (pv 0) pe_int (nomark _)))
        (pss_one (ps_ret (pe_hX h_is_fair hr (by decide) (by rfl) (takes_of rfl rfl rfl rfl) (pa_cons (pv 1) pa_nil))))
        pss_nil)
        (pss_cons (ps_if (PT.nox (pt_cmpR (opEq (K := K) rfl hr.units) (pv 0) pe_int (nomark _)))
        (pss_one (ps_ret (pe_hX h_end_alike hr (by decide) (by rfl) (takes_of rfl rfl rfl rfl) (pa_cons (pv 1) (pa_cons (pe_lst (pa_cons (pe_tup (pa_cons (pe_tup (pa_cons pe_int (pa_cons pe_int pa_nil))) (pa_cons (pe_tup (pa_cons pe_int (pa_cons pe_int pa_nil))) pa_nil))) pa_nil)) pa_nil)))))
        pss_nil)
        (pss_cons (ps_if (PT.nox (pt_cmpR (opEq (K := K) rfl hr.units) (pv 0) pe_int (nomark _)))
        (pss_one (ps_ret (pe_hX h_end_alike hr (by decide) (by rfl) (takes_of rfl rfl rfl rfl) (pa_cons (pe_lst (pa_cons (pe_tup (pa_cons (pe_tup (pa_cons pe_int (pa_cons pe_int pa_nil))) (pa_cons (pe_tup (pa_cons pe_int (pa_cons pe_int pa_nil))) pa_nil))) pa_nil)) (pa_cons (pv 1) pa_nil)))))
        pss_nil)
        (pss_cons (ps_if (PT.nox (pt_cmpR (opEq (K := K) rfl hr.units) (pv 0) pe_int (nomark _)))
        (pss_one (ps_ret (pe_hX h_all_mean_steps hr (by decide) (by rfl) (takes_of rfl rfl rfl rfl) (pa_cons (pv 1) pa_nil))))
        pss_nil)
        (pss_cons (ps_if (PT.nox (pt_cmpR (opEq (K := K) rfl hr.units) (pv 0) pe_int (nomark _)))
        (pss_one (ps_ret (pe_hX h_longest_rung hr (by decide) (by rfl) (takes_of rfl rfl rfl rfl) (pa_cons (pv 1) pa_nil))))
        pss_nil)
        (pss_cons (ps_if (PT.nox (pt_cmpR (opEq (K := K) rfl hr.units) (pv 0) pe_int (nomark _)))
        (pss_one (ps_ret (pe_hX h_given_top hr (by decide) (by rfl) (takes_of rfl rfl rfl rfl) (pa_cons (pv 1) pa_nil))))
        pss_nil)
        (pss_cons (ps_if (PT.nox (pt_cmpR (opEq (K := K) rfl hr.units) (pv 0) pe_int (nomark _)))
        (pss_one (ps_ret (pe_hX h_given_bottom hr (by decide) (by rfl) (takes_of rfl rfl rfl rfl) (pa_cons (pv 1) pa_nil))))
        pss_nil)
        (pss_cons (ps_if (PT.nox (pt_cmpR (opEq (K := K) rfl hr.units) (pv 0) pe_int (nomark _)))
        (pss_one (ps_ret (pe_hX h_rests hr (by decide) (by rfl) (takes_of rfl rfl rfl rfl) (pa_cons (pv 1) pa_nil))))
        pss_nil)
        (pss_cons (ps_if (PT.nox (pt_cmpR (opEq (K := K) rfl hr.units) (pv 0) pe_int (nomark _)))
        (pss_one (ps_ret (pe_hX h_turned_over hr (by decide) (by rfl) (takes_of rfl rfl rfl rfl) (pa_cons (pv 1) pa_nil))))
        pss_nil)
        (pss_cons (ps_if (PT.nox (pt_cmpR (opEq (K := K) rfl hr.units) (pv 0) pe_int (nomark _)))
        (pss_one (ps_ret (pe_hX h_without_stays hr (by decide) (by rfl) (takes_of rfl rfl rfl rfl) (pa_cons (pv 1) pa_nil))))
        pss_nil)
        (pss_cons (ps_if (PT.nox (pt_cmpR (opEq (K := K) rfl hr.units) (pv 0) pe_int (nomark _)))
        (pss_one (ps_ret (pe_hX h_format_ladder hr (by decide) (by rfl) (takes_of rfl rfl rfl rfl) (pa_cons (pv 1) pa_nil))))
        pss_nil)
        (pss_cons (ps_if (PT.nox (pt_cmpR (opEq (K := K) rfl hr.units) (pv 0) pe_int (nomark _)))
        (pss_one (ps_ret (pe_hX h_joined hr (by decide) (by rfl) (takes_of rfl rfl rfl rfl) (pa_cons (pv 1) (pa_cons (pe_lst (pa_cons (pe_tup (pa_cons (pe_tup (pa_cons pe_int (pa_cons pe_int pa_nil))) (pa_cons (pe_tup (pa_cons pe_int (pa_cons pe_int pa_nil))) pa_nil))) pa_nil)) (pa_cons (pe_tup (pa_cons pe_int (pa_cons pe_int pa_nil))) (pa_cons (pe_tup (pa_cons pe_int (pa_cons pe_int pa_nil))) pa_nil)))))))
        pss_nil)
        (pss_one (ps_ret (pe_hX h_joined hr (by decide) (by rfl) (takes_of rfl rfl rfl rfl) (pa_cons (pe_lst (pa_cons (pe_tup (pa_cons (pe_tup (pa_cons pe_int (pa_cons pe_int pa_nil))) (pa_cons (pe_tup (pa_cons pe_int (pa_cons pe_int pa_nil))) pa_nil))) pa_nil)) (pa_cons (pv 1) (pa_cons (pe_tup (pa_cons pe_int (pa_cons pe_int pa_nil))) (pa_cons (pe_tup (pa_cons pe_int (pa_cons pe_int pa_nil))) pa_nil))))))))))))))))))))), ?_⟩
  rintro ds Q Z ⟨k, d, j, rfl, o, q, qz⟩
  cases o with
  | lad h0 h14 h =>
    walk_at "xs"
    refine iteD (fun e0 => ?_) (fun e0 => ?_)
    · walk_at "xs"
      exact S_RXe rfl (f1_badL h) (qz 0 rfl)
    walk_at "xs"
    refine iteD (fun e1 => ?_) (fun e1 => ?_)
    · walk_at "xs"
      exact S_RXe rfl (f1_badL h) (qz 0 rfl)
    walk_at "xs"
    refine iteD (fun e2 => ?_) (fun e2 => ?_)
    · walk_at "xs"
      exact S_RXe rfl (f1_badL h) (qz 0 rfl)
    walk_at "xs"
    refine iteD (fun e3 => ?_) (fun e3 => ?_)
    · walk_at "xs"
      exact S_RXe rfl (f1_badL h) (qz 0 rfl)
    walk_at "xs"
    refine iteD (fun e4 => ?_) (fun e4 => ?_)
    · walk_at "xs"
      rw [oneH_enc]
      exact S_RXe rfl ((f1_okL (ladder_enc oneH_ok)).trans (f1_badL h)) (qz 0 rfl)
    walk_at "xs"
    refine iteD (fun e5 => ?_) (fun e5 => ?_)
    · walk_at "xs"
      exact S_RXe rfl (f1_badL h) (qz 0 rfl)
    walk_at "xs"
    refine iteD (fun e6 => ?_) (fun e6 => ?_)
    · walk_at "xs"
      exact S_RXe rfl (f1_badL h) (qz 0 rfl)
    walk_at "xs"
    refine iteD (fun e7 => ?_) (fun e7 => ?_)
    · walk_at "xs"
      exact S_RXe rfl (f1_badL h) (qz 0 rfl)
    walk_at "xs"
    refine iteD (fun e8 => ?_) (fun e8 => ?_)
    · walk_at "xs"
      exact S_RXe rfl (f1_badL h) (qz 0 rfl)
    walk_at "xs"
    refine iteD (fun e9 => ?_) (fun e9 => ?_)
    · walk_at "xs"
      exact S_RXe rfl (f1_badL h) (qz 0 rfl)
    walk_at "xs"
    refine iteD (fun e10 => ?_) (fun e10 => ?_)
    · walk_at "xs"
      exact S_RXe rfl (f1_badL h) (qz 0 rfl)
    walk_at "xs"
    refine iteD (fun e11 => ?_) (fun e11 => ?_)
    · walk_at "xs"
      exact S_RXe rfl (f1_badL h) (qz 0 rfl)
    walk_at "xs"
    refine iteD (fun e12 => ?_) (fun e12 => ?_)
    · walk_at "xs"
      exact S_RXe rfl (f1_badL h) (qz 0 rfl)
    walk_at "xs"
    refine iteD (fun e13 => ?_) (fun e13 => ?_)
    · walk_at "xs"
      exact S_RXe rfl (f1_badL h) (qz 0 rfl)
    walk_at "xs"
    rw [oneH_enc]
    exact S_RXe rfl ((f1_okL (ladder_enc oneH_ok)).trans (f1_badL h)) (qz 0 rfl)
  | done h0 h14 L e g h6 =>
    subst e
    have ok := g.ok
    have hz := g.sz
    walk_at "xs"
    refine iteD (fun e0 => ?_) (fun e0 => ?_)
    · walk_at "xs"
      exact S_RXo rfl ((f1_okL g.is).trans f1_nil) (S_quotients ok (q rfl _))
    walk_at "xs"
    refine iteD (fun e1 => ?_) (fun e1 => ?_)
    · walk_at "xs"
      exact S_RXo rfl ((f1_okL g.is).trans f1_nil) (S_top_chances ok (q rfl _))
    walk_at "xs"
    refine iteD (fun e2 => ?_) (fun e2 => ?_)
    · walk_at "xs"
      exact S_RXo rfl ((f1_okL g.is).trans f1_nil) (S_is_fair ok (q rfl _))
    walk_at "xs"
    refine iteD (fun e3 => ?_) (fun e3 => ?_)
    · walk_at "xs"
      rw [oneH_enc]
      exact S_RXo rfl ((f1_okL g.is).trans ((f1_okL (ladder_enc oneH_ok)).trans f1_nil)) (S_end_alike ok oneH_ok (q rfl _))
    walk_at "xs"
    refine iteD (fun e4 => ?_) (fun e4 => ?_)
    · walk_at "xs"
      rw [oneH_enc]
      exact S_RXo rfl ((f1_okL (ladder_enc oneH_ok)).trans ((f1_okL g.is).trans f1_nil)) (S_end_alike oneH_ok ok (q rfl _))
    walk_at "xs"
    refine iteD (fun e5 => ?_) (fun e5 => ?_)
    · walk_at "xs"
      exact S_RXo rfl ((f1_okL g.is).trans f1_nil) (S_all_mean_steps ok hz (q rfl _))
    walk_at "xs"
    refine iteD (fun e6 => ?_) (fun e6 => ?_)
    · walk_at "xs"
      exact S_RXo rfl ((f1_okL g.is).trans f1_nil) (S_longest_rung ok hz (fun _ _ _ _ => q rfl _))
    walk_at "xs"
    refine iteD (fun e7 => ?_) (fun e7 => ?_)
    · walk_at "xs"
      exact S_RXo rfl ((f1_okL g.is).trans f1_nil) (S_given ok hz (q rfl _))
    walk_at "xs"
    refine iteD (fun e8 => ?_) (fun e8 => ?_)
    · walk_at "xs"
      exact S_RXo rfl ((f1_okL g.is).trans f1_nil) (S_given ok hz (q rfl _))
    walk_at "xs"
    refine iteD (fun e9 => ?_) (fun e9 => ?_)
    · walk_at "xs"
      exact S_RXo rfl ((f1_okL g.is).trans f1_nil) (S_rests ok (q rfl _))
    walk_at "xs"
    refine iteD (fun e10 => ?_) (fun e10 => ?_)
    · walk_at "xs"
      exact S_RXo rfl ((f1_okL g.is).trans f1_nil) (S_turned_over ok (q rfl _))
    walk_at "xs"
    refine iteD (fun e11 => ?_) (fun e11 => ?_)
    · walk_at "xs"
      exact S_RXo rfl ((f1_okL g.is).trans f1_nil) (S_without_stays ok (quick_ok g.gl g.le) (q rfl _))
    walk_at "xs"
    refine iteD (fun e12 => ?_) (fun e12 => ?_)
    · walk_at "xs"
      exact S_RXo rfl ((f1_okL g.is).trans f1_nil) (S_format_ladder ok (q rfl _))
    walk_at "xs"
    refine iteD (fun e13 => ?_) (fun e13 => ?_)
    · walk_at "xs"
      rw [oneH_enc, c1_2]
      exact S_RXo rfl ((f1_okL g.is).trans ((f1_okL (ladder_enc oneH_ok)).trans ((f1_okS (share_enc ex_sh.1)).trans ((f1_okS (share_enc ex_sh.1)).trans f1_nil)))) (S_joinedX (y := halfR) ok oneH_ok half_sy (fun _ => q rfl _) (fun z => absurd z (by show ¬ 8 ≤ L.length + 1; omega)))
    walk_at "xs"
    rw [oneH_enc, c1_2]
    exact S_RXo rfl ((f1_okL (ladder_enc oneH_ok)).trans ((f1_okL g.is).trans ((f1_okS (share_enc ex_sh.1)).trans ((f1_okS (share_enc ex_sh.1)).trans f1_nil)))) (S_joinedX (y := halfR) oneH_ok ok half_sy (fun _ => q rfl _) (fun z => absurd z (by show ¬ 8 ≤ 1 + L.length; omega)))
theorem has_next_of (F : DefIn K mg "next_of" s_next_of ["ladder", "chances"]) (h_plus : Has P w K mg base CX0 "plus" ["one", "other"] 3 (PSp R_add)) (h_times_of : Has P w K mg base CX0 "times_of" ["one", "other"] 3 (PSp R_mul)) (h_minus : Has P w K mg base CX0 "minus" ["one", "other"] 3 (PSp R_sub)) (m_enumerate : mg "enumerate" = none) (m_len : mg "len" = none) : Has P w K mg base CX0 "next_of" ["ladder", "chances"] 4 (PSp R_next_of) := by
  refine has_pure F sc_next_of (by walk_at "len") fun f cdv A outer s H E hr => ⟨_, (pss_cons (ps_set (i := 2) sc_next_of.nd rfl (by first | exact Or.inl rfl | exact Or.inr rfl) (pe_op op_times (pe_lst (pa_cons (pe_tup (pa_cons pe_int (pa_cons pe_int pa_nil))) pa_nil)) (pe_callB (cLen (K := K) rfl) (by rfl) m_len PySem.boot_len (pa_cons (pv 1) pa_nil))))
        (pss_cons (ps_for PassesOwn.never rfl (pi_enumK (K := K) rfl (by rfl) m_enumerate (pa_cons (pv 1) pa_nil)) (pg_tupK (K := K) (n := 2) rfl rfl (pgs_cons (pg_name (i := 3) sc_next_of.nd rfl (by first | exact Or.inl rfl | exact Or.inr rfl)) (pgs_cons (pg_name (i := 4) sc_next_of.nd rfl (by first | exact Or.inl rfl | exact Or.inr rfl)) pgs_nil)))
        (pss_one (ps_if (pt_cmpR (opIn (K := K) rfl) (pv 3) (pe_tup (pa_cons pe_int (pa_cons (pe_op op_sub (pe_callB (cLen (K := K) rfl) (by rfl) m_len PySem.boot_len (pa_cons (pv 1) pa_nil)) pe_int) pa_nil))) (by rfl))
        (pss_one (ps_asg (pe_h h_plus hr (by decide) (by rfl) (pa_cons (pe_ix (ixS (K := K) rfl) (pv 2) (pv 3) (fun _ _ => rfl)) (pa_cons (pv 4) pa_nil))) (pg_sub (pv 2) (pv 3) set_list)))
        (pss_cons (ps_asg (pe_ix (ixS (K := K) rfl) (pv 0) (pe_op op_sub (pv 3) pe_int) (fun _ _ => rfl)) (pg_tupK (K := K) (n := 2) rfl rfl (pgs_cons (pg_name (i := 5) sc_next_of.nd rfl (by first | exact Or.inl rfl | exact Or.inr rfl)) (pgs_cons (pg_name (i := 6) sc_next_of.nd rfl (by first | exact Or.inl rfl | exact Or.inr rfl)) pgs_nil))))
        (pss_cons (ps_set (i := 7) sc_next_of.nd rfl (by first | exact Or.inl rfl | exact Or.inr rfl) (pe_h h_minus hr (by decide) (by rfl) (pa_cons (pe_tup (pa_cons pe_int (pa_cons pe_int pa_nil))) (pa_cons (pe_h h_plus hr (by decide) (by rfl) (pa_cons (pv 5) (pa_cons (pv 6) pa_nil))) pa_nil))))
        (pss_cons (ps_asg (pe_h h_plus hr (by decide) (by rfl) (pa_cons (pe_ix (ixS (K := K) rfl) (pv 2) (pe_op op_plus (pv 3) pe_int) (fun _ _ => rfl)) (pa_cons (pe_h h_times_of hr (by decide) (by rfl) (pa_cons (pv 4) (pa_cons (pv 5) pa_nil))) pa_nil))) (pg_sub (pv 2) (pe_op op_plus (pv 3) pe_int) set_list))
        (pss_cons (ps_asg (pe_h h_plus hr (by decide) (by rfl) (pa_cons (pe_ix (ixS (K := K) rfl) (pv 2) (pe_op op_sub (pv 3) pe_int) (fun _ _ => rfl)) (pa_cons (pe_h h_times_of hr (by decide) (by rfl) (pa_cons (pv 4) (pa_cons (pv 6) pa_nil))) pa_nil))) (pg_sub (pv 2) (pe_op op_sub (pv 3) pe_int) set_list))
        (pss_one (ps_asg (pe_h h_plus hr (by decide) (by rfl) (pa_cons (pe_ix (ixS (K := K) rfl) (pv 2) (pv 3) (fun _ _ => rfl)) (pa_cons (pe_h h_times_of hr (by decide) (by rfl) (pa_cons (pv 4) (pa_cons (pv 7) pa_nil))) pa_nil))) (pg_sub (pv 2) (pv 3) set_list))))))))))
        (pss_one (ps_ret (pv 2))))), ?_⟩
  rintro ds Q ⟨L, row, D, E, k, rfl, h, hl, hr, hE, hs, h0, h1, hk, hk2, q⟩
  have h8 := h.le
  refine ds_seq (ds_own (en_times ?_))
  walk_at "xs"
  refine ⟨_, _, rfl, rfl, by omega, by show 1 * _ ≤ _; omega, ?_⟩
  intro p
  have e0 : (List.replicate ((row.length : Int)).toNat [enc 0]).flatten = (List.range (L.length + 2)).map fun j => enc (sumR 0 fun r => rowF row r * TL L r j) := by
    rw [Int.toNat_natCast, hl]
    generalize L.length + 2 = n
    show _ = (List.range n).map fun j => enc 0
    rw [List.map_const', List.length_range]
    induction n with
    | zero => rfl
    | succ n ih => rw [List.replicate_succ, List.flatten_cons, ih, List.replicate_succ]; rfl
  rw [e0]
  walk_at "xs"
  rw [enumD_map]
  have pb : ∀ i j, i ≤ L.length + 2 → j < L.length + 2 → Bd k (sumR i fun r => rowF row r * TL L r j) := fun i j hi hj => part_bd h8 hr hE hs h0 h1 hk hi hj
  refine forI_map (fun i ρ => ∃ z3 z4 z5 z6 z7, ρ = [.dat (encL L), .dat (.list (row.map enc)), .own p ((List.range (L.length + 2)).map fun j => enc (sumR i fun r => rowF row r * TL L r j)), z3, z4, z5, z6, z7]) ⟨_, _, _, _, _, rfl⟩ ?_ ?_
  · rintro i ⟨x, i'⟩ ρ' hi ⟨z3, z4, z5, z6, z7, rfl⟩
    obtain ⟨hx, hi'⟩ := zipIdx_get hi
    have hi' : i' = i := hi'
    have hx : row[i]? = some x := hx
    subst hi'
    have hlt : i' < row.length := (List.getElem?_eq_some_iff.mp hx).1
    have bx : Bd k x := row_bd (hr x (List.mem_of_getElem? hx)) h0 h1 hk
    have fx : rowF row i' = x := rowF_get hx
    walk_at "xs"
    refine iteD (fun e => ?_) (fun e => ?_)
    · walk_at "xs"
      refine ⟨_, _, rfl, at_rng (j := i') rfl (by omega), ?_⟩
      walk_at "xs"
      refine S_add (pb i' i' (by omega) (by omega)) bx (by omega) ?_
      walk_at "xs"
      refine ⟨_, _, rfl, ix_rng (j := i') rfl (by omega), ?_⟩
      have key : (List.range (L.length + 2)).map (fun j => if j = i' then enc ((sumR i' fun r => rowF row r * TL L r i') + x) else enc (sumR i' fun r => rowF row r * TL L r j)) = (List.range (L.length + 2)).map fun j => enc (sumR (i' + 1) fun r => rowF row r * TL L r j) := by
        refine map_rng_congr fun j hj => ?_
        show _ = enc (sumR i' (fun r => rowF row r * TL L r j) + rowF row i' * TL L i' j)
        rw [TL_end (by rw [hl] at e; have e : (i' : Int) = 0 ∨ (i' : Int) = ((L.length + 2 : Nat) : Int) - 1 := e; omega), fx]
        by_cases e2 : j = i'
        · subst e2
          rw [if_pos rfl, if_pos rfl]
          congr 1
          grind
        · rw [if_neg e2, if_neg e2]
          congr 1
          grind
      rw [set_rng, key]
      exact ⟨_, _, _, _, _, rfl⟩
    · obtain ⟨s, rfl⟩ : ∃ s, i' = s + 1 := ⟨i' - 1, by have e : ¬ ((i' : Int) = 0 ∨ (i' : Int) = (row.length : Int) - 1) := e; omega⟩
      have e' : ¬ (((s + 1 : Nat) : Int) = 0 ∨ ((s + 1 : Nat) : Int) = (row.length : Int) - 1) := e
      have hs' : s < L.length := by omega
      have hy : L[s]? = some L[s] := List.getElem?_eq_getElem hs'
      generalize L[s] = y at hy
      obtain ⟨g1, g2, g3, g4⟩ := h.sh y (List.mem_of_getElem? hy)
      have gr : Bd 23 (1 - (y.1 + y.2)) := (Bd.one.sub (g3.add g4)).mono (by decide)
      walk_at "xs"
      refine rp_ixL (at_map (j := s) (by show ((s + 1 : Nat) : Int) - 1 = _; omega) hy) ?_
      walk_at "xs"
      refine S_add g3 g4 (by decide) ?_
      walk_at "xs"
      refine S_sub Bd.one (g3.add g4) (by decide) ?_
      walk_at "xs"
      refine ⟨_, _, rfl, at_rng (j := s + 2) (by show ((s + 1 : Nat) : Int) + 1 = _; omega) (by omega), ?_⟩
      walk_at "xs"
      refine S_mul bx g3 (by omega) ?_
      walk_at "xs"
      refine S_add (pb (s + 1) (s + 2) (by omega) (by omega)) (bx.mul g3) (by omega) ?_
      walk_at "xs"
      refine ⟨_, _, rfl, ix_rng (j := s + 2) (by show ((s + 1 : Nat) : Int) + 1 = _; omega) (by omega), ?_⟩
      rw [set_rng]
      walk_at "xs"
      refine ⟨_, _, rfl, at_rng (j := s) (by show ((s + 1 : Nat) : Int) - 1 = _; omega) (by omega), ?_⟩
      rw [if_neg (by omega)]
      walk_at "xs"
      refine S_mul bx g4 (by omega) ?_
      walk_at "xs"
      refine S_add (pb (s + 1) s (by omega) (by omega)) (bx.mul g4) (by omega) ?_
      walk_at "xs"
      refine ⟨_, _, rfl, ix_rng (j := s) (by show ((s + 1 : Nat) : Int) - 1 = _; omega) (by omega), ?_⟩
      rw [set_rng]
      walk_at "xs"
      refine ⟨_, _, rfl, at_rng (j := s + 1) rfl (by omega), ?_⟩
      rw [if_neg (by omega), if_neg (by omega)]
      walk_at "xs"
      refine S_mul bx gr (by omega) ?_
      walk_at "xs"
      refine S_add (pb (s + 1) (s + 1) (by omega) (by omega)) (bx.mul gr) (by omega) ?_
      walk_at "xs"
      refine ⟨_, _, rfl, ix_rng (j := s + 1) rfl (by omega), ?_⟩
      have key : (List.range (L.length + 2)).map (fun j => if j = s + 1 then enc ((sumR (s + 1) fun r => rowF row r * TL L r (s + 1)) + x * (1 - (y.1 + y.2))) else if j = s then enc ((sumR (s + 1) fun r => rowF row r * TL L r s) + x * y.2) else if j = s + 2 then enc ((sumR (s + 1) fun r => rowF row r * TL L r (s + 2)) + x * y.1) else enc (sumR (s + 1) fun r => rowF row r * TL L r j)) = (List.range (L.length + 2)).map fun j => enc (sumR (s + 1 + 1) fun r => rowF row r * TL L r j) := by
        refine map_rng_congr fun j hj => ?_
        show _ = enc (sumR (s + 1) (fun r => rowF row r * TL L r j) + rowF row (s + 1) * TL L (s + 1) j)
        rw [TL_in hy, fx]
        by_cases e1 : j = s + 1
        · subst e1
          rw [if_pos rfl, if_neg (by omega), if_neg (by omega), if_pos rfl]
        · rw [if_neg e1, if_neg e1]
          by_cases e2 : j = s
          · subst e2
            rw [if_pos rfl, if_neg (by omega), if_pos rfl]
          · rw [if_neg e2, if_neg e2]
            by_cases e3 : j = s + 2
            · subst e3
              rw [if_pos rfl, if_pos rfl]
            · rw [if_neg e3, if_neg e3]
              congr 1
              grind
      rw [set_rng, key]
      exact ⟨_, _, _, _, _, rfl⟩
  · rintro ρ' ⟨z3, z4, z5, z6, z7, rfl⟩
    refine ds_retO rfl ?_
    rw [List.length_zipIdx, hl]
    unfold stepL at q
    rw [List.map_map] at q
    exact q
theorem has_less (F : DefIn K mg "less" s_less ["one", "other"]) : Has P w K mg base CX0 "less" ["one", "other"] 1 (PSp R_less) := by
  refine has_pure F sc_less (by walk_at "len") fun f cdv A outer s H E hr => ⟨_, (pss_one (ps_ret (pe_cmpR op_lt (pe_op op_times (pe_ix (ixS (K := K) rfl) (pv 0) pe_int (fun _ _ => rfl)) (pe_ix (ixS (K := K) rfl) (pv 1) pe_int (fun _ _ => rfl))) (pe_op op_times (pe_ix (ixS (K := K) rfl) (pv 1) pe_int (fun _ _ => rfl)) (pe_ix (ixS (K := K) rfl) (pv 0) pe_int (fun _ _ => rfl))) (nomark _)))), ?_⟩
  rintro ds Q ⟨r, s, n, m, rfl, h1, h2, h, q⟩
  have b1 := h1.1; have b2 := h1.2; have b3 := h2.1; have b4 := h2.2
  walk_at "xs"
  refine rp_timesI (wide_mul (a := n + 1) (b := m + 1) (Nat.lt_of_lt_of_le b1 (Nat.pow_le_pow_right (by decide) (by omega))) (Nat.lt_of_lt_of_le (by simpa using b4) (Nat.pow_le_pow_right (by decide) (Nat.le_succ m))) (by omega) (by omega) (by omega)) ?_
  walk_at "xs"
  refine rp_timesI (wide_mul (a := m + 1) (b := n + 1) (Nat.lt_of_lt_of_le b3 (Nat.pow_le_pow_right (by decide) (by omega))) (Nat.lt_of_lt_of_le (by simpa using b2) (Nat.pow_le_pow_right (by decide) (Nat.le_succ n))) (by omega) (by omega) (by omega)) ?_
  walk_at "xs"
  rw [lt_frac]
  exact q
theorem has_after_of (F : DefIn K mg "after_of" s_after_of ["ladder", "rung", "many"]) (h_next_of : Has P w K mg base CX0 "next_of" ["ladder", "chances"] 4 (PSp R_next_of)) (m_range : mg "range" = none) (m_len : mg "len" = none) : Has P w K mg base CX0 "after_of" ["ladder", "rung", "many"] 5 (PSp R_after_of) := by
  refine has_pure F sc_after_of (by walk_at "len") fun f cdv A outer s H E hr => ⟨_, (pss_cons (ps_setLc (i := 3) (own := [("one", 5)]) (g := gName 5) rfl sc_after_of.nd rfl rfl (sw_true rfl rfl rfl (by decide +kernel)) (pi_range1 rfl m_range (pa_cons (pe_op op_plus (pe_callB (cLen (K := K) rfl) (by rfl) m_len PySem.boot_len (pa_cons (pv 0) pa_nil)) pe_int) pa_nil)) (blkOk_by (own := [("one", 5)]) (N := N_after_of) (sc := defScope s_after_of) (by decide +kernel)) (fun _ _ _ _ _ => by exact (pg_name (i := 5) sc_after_of.nd rfl (by first | exact Or.inl rfl | exact Or.inr rfl))) (fun _ _ _ _ _ => by exact pts_nil) (fun _ _ _ _ _ => by exact (pe_ifExp (pt_cmpR (opEq (K := K) rfl hr.units) (pv 5) (pv 1) (nomark _)) (pe_tup (pa_cons pe_int (pa_cons pe_int pa_nil))) (pe_tup (pa_cons pe_int (pa_cons pe_int pa_nil))))))
        (pss_cons (ps_for PassesOwn.never rfl (pi_range1 rfl m_range (pa_cons (pv 2) pa_nil)) (pg_name (i := 4) sc_after_of.nd rfl (by first | exact Or.inl rfl | exact Or.inr rfl))
        (pss_one (ps_set (i := 3) sc_after_of.nd rfl (by first | exact Or.inl rfl | exact Or.inr rfl) (pe_h h_next_of hr (by decide) (by rfl) (pa_cons (pv 0) (pa_cons (pv 3) pa_nil))))))
        (pss_one (ps_ret (pv 3))))), ?_⟩
  rintro ds Q ⟨L, r, t, E, k, rfl, h, h1, h2, h3, h4, hE, hs, h0, hk, hk2, q⟩
  have hl := h.le
  walk_at "xs"
  refine lcI_enc (fun j => if j = r.toNat then (1 : Rat) else 0) ?_ ?_ ?_
  · rw [List.length_range]; omega
  · intro i x hi
    walk_at "xs"
    refine iteD (fun e => ?_) (fun e => ?_)
    · walk_at "xs"
      rw [if_pos (by omega)]
    · walk_at "xs"
      rw [if_neg (by omega)]
  rw [show ((L.length : Int) + 2).toNat = L.length + 2 by omega]
  walk_at "xs"
  refine forI_map (fun i ρ => ∃ z z', ρ = [.dat (encL L), .dat (.int r), .dat (.int t), .dat (.list ((afterL L r.toNat i).map enc)), z, z']) ⟨_, _, rfl⟩ ?_ ?_
  · rintro i x ρ' hi ⟨z, z', rfl⟩
    obtain ⟨rfl, hlt⟩ := range_get hi
    walk_at "xs"
    refine S_next_of (D := E ^ x) (E := E) (k := k) h (afterL_len _ _ _) (afterL_fz hs hE (by omega) x) hE hs (Nat.pow_pos h0) h0 ?_ hk2 ?_
    · rw [← Nat.pow_succ]
      exact Nat.lt_of_le_of_lt (Nat.mul_le_mul_right 16 (Nat.pow_le_pow_right h0 (by omega))) hk
    · exact ⟨_, _, rfl⟩
  · rintro ρ' ⟨z, z', rfl⟩
    walk_at "xs"
    rw [List.length_range]
    exact q
theorem has_check_rung (F : DefIn K mg "check_rung" s_check_rung ["ladder", "value"]) (h_is_int : Has P w K mg base CX0 "is_int" ["value", "low", "high"] 1 (PSp R_is_int)) (m_len : mg "len" = none) (r_BadRung : RTxt K mg "BadRung" er.br) : Has P w K mg base (L2.CX P w) "check_rung" ["ladder", "value"] 2 (XSp (R_ckR er)) := by
  refine has_pureX F sc_check_rung (by walk_at "lenX") fun f cdv A outer s H E hr => ⟨_, (pss_one (ps_if (PT.nox (pt_not (pt_val (pe_h h_is_int hr (by decide) (by rfl) (pa_cons (pv 1) (pa_cons pe_int (pa_cons (pe_op op_plus (pe_callB (cLen (K := K) rfl) (by rfl) m_len PySem.boot_len (pa_cons (pv 0) pa_nil)) pe_int) pa_nil)))))))
        (pss_one (ps_rz (K := K) rfl rfl r_BadRung (takes_of rfl rfl rfl rfl) (by rfl)))
        pss_nil)), ?_⟩
  rintro ds Q Z ⟨d, v, rfl, hd, q, qz⟩
  obtain ⟨xs, rfl, h8⟩ := lad_list hd
  walk_at "xs"
  by_cases h : isIntIn v 0 (lnD (.list xs) + 1) = true
  · rw [show isIntIn v 0 ((xs.length : Int) + 1) = true from h]
    walk_at "xs"
    exact q h
  · rw [Bool.not_eq_true] at h
    rw [show isIntIn v 0 ((xs.length : Int) + 1) = false from h]
    walk_at "xs"
    exact ds_rz (qz h)
theorem has_first_by (F : DefIn K mg "first_by" s_first_by ["ladder", "rung", "share"]) (h_next_of : Has P w K mg base CX0 "next_of" ["ladder", "chances"] 4 (PSp R_next_of)) (h_less : Has P w K mg base CX0 "less" ["one", "other"] 1 (PSp R_less)) (h_plus : Has P w K mg base CX0 "plus" ["one", "other"] 3 (PSp R_add)) (h_after_of : Has P w K mg base CX0 "after_of" ["ladder", "rung", "many"] 5 (PSp R_after_of)) (h_check_share : Has P w K mg base (L2.CX P w) "check_share" ["value"] 3 (XSp (R_ckS er))) (h_check_rung : Has P w K mg base (L2.CX P w) "check_rung" ["ladder", "value"] 2 (XSp (R_ckR er))) (h_check_ladder : Has P w K mg base (L2.CX P w) "check_ladder" ["value"] 4 (XSp (R_ckL er))) (m_range : mg "range" = none) : Has P w K mg base (L2.CX P w) "first_by" ["ladder", "rung", "share"] 6 (XSp (RX er [.L, .R, .S] (fun ds P _ => R_first_by ds P))) := by
  refine has_pureX F sc_first_by (by walk_at "lenX") fun f cdv A outer s H E hr => ⟨_, (pss_cons (ps_expr (pe_hX h_check_ladder hr (by decide) (by rfl) (takes_of rfl rfl rfl rfl) (pa_cons (pv 0) pa_nil)))
        (pss_cons (ps_expr (pe_hX h_check_rung hr (by decide) (by rfl) (takes_of rfl rfl rfl rfl) (pa_cons (pv 0) (pa_cons (pv 1) pa_nil))))
        (pss_cons (ps_expr (pe_hX h_check_share hr (by decide) (by rfl) (takes_of rfl rfl rfl rfl) (pa_cons (pv 2) pa_nil)))
        (pss_cons (ps_nox (ps_set (i := 3) sc_first_by.nd rfl (by first | exact Or.inl rfl | exact Or.inr rfl) (pe_h h_after_of hr (by decide) (by rfl) (pa_cons (pv 0) (pa_cons (pv 1) (pa_cons pe_int pa_nil))))))
        (pss_cons (ps_nox (ps_for PassesOwn.never rfl (pi_range1 rfl m_range (pa_cons pe_int pa_nil)) (pg_name (i := 4) sc_first_by.nd rfl (by first | exact Or.inl rfl | exact Or.inr rfl))
        (pss_cons (ps_if (pt_not (pt_val (pe_h h_less hr (by decide) (by rfl) (pa_cons (pe_h h_plus hr (by decide) (by rfl) (pa_cons (pe_ix (ixS (K := K) rfl) (pv 3) pe_int (fun _ _ => rfl)) (pa_cons (pe_ix (ixS (K := K) rfl) (pv 3) (pe_un un_neg pe_int) (fun _ _ => rfl)) pa_nil))) (pa_cons (pv 2) pa_nil)))))
        (pss_one (ps_ret (pv 4)))
        pss_nil)
        (pss_one (ps_set (i := 3) sc_first_by.nd rfl (by first | exact Or.inl rfl | exact Or.inr rfl) (pe_h h_next_of hr (by decide) (by rfl) (pa_cons (pv 0) (pa_cons (pv 3) pa_nil))))))))
        (pss_one (ps_nox (ps_ret pe_non)))))))), ?_⟩
  rintro ds Q Z ⟨hl0, qe, q0⟩
  obtain ⟨a0, a1, a2, rfl⟩ := len3 hl0
  walk_at "xs"
  refine S_ckL (fun k0 => ?_) (fun k0 => qe _ (f1_bad (k := .L) k0))
  walk_at "xs"
  refine S_ckR k0 (fun k1 => ?_) (fun k1 => qe _ ((f1_ok (k := .L) k0).trans (f1_bad (k := .R) k1)))
  walk_at "xs"
  refine S_ckS (fun k2 => ?_) (fun k2 => qe _ ((f1_ok (k := .L) k0).trans ((f1_ok (k := .R) k1).trans (f1_bad (k := .S) k2))))
  obtain ⟨L, r, u, E, k, hds, h, h1, h2, hu, hE, h0, hk, hk2, q1, q2⟩ := q0 ((f1_ok (k := .L) k0).trans ((f1_ok (k := .R) k1).trans ((f1_ok (k := .S) k2).trans f1_nil)))
  cases hds
  have hb : ∀ i : Nat, i ≤ 60 → Tm L r i E k := fun i hi => ⟨h, h1, h2, by omega, by omega, hE, h0, Nat.lt_of_le_of_lt (Nat.mul_le_mul_right 16 (Nat.pow_le_pow_right h0 (by omega))) hk, hk2⟩
  walk_at "xg"
  refine (hb 0 (by omega)).aftS ?_
  walk_at "xg"
  refine forI_map (fun i ρ => ∃ z, ρ = [.dat (encL L), .dat (.int r), .dat (enc u), .dat (.list ((afterL L r.toNat i).map enc)), z] ∧ ∀ j, j < i → endedL L r.toNat j < u) ⟨_, rfl, fun j hj => absurd hj (by omega)⟩ ?_ ?_
  · rintro i x ρ' hi ⟨z, rfl, hj⟩
    obtain ⟨rfl, hlt⟩ := range_get hi
    have hlt : x < 61 := hlt
    have ht := hb x (by omega)
    have b1 := ht.bd (j := 0) (by omega)
    have b2 := ht.bd (j := L.length + 1) (by omega)
    have b3 := ht.bdE
    rw [Int.toNat_natCast] at b1 b2 b3
    walk_at "xg"
    refine ds_if ?_
    walk_at "xg"
    refine rp_ixL (at_aft (j := 0) rfl (by omega)) ?_
    walk_at "xg"
    refine rp_ixL at_aftL ?_
    walk_at "xg"
    refine S_add b1 b2 (by omega) ?_
    walk_at "xg"
    refine S_less b3 hu.bd (by omega) ?_
    walk_at "xg"
    refine iteN (fun e => ?_) (fun e => ?_)
    · walk_at "xg"
      rw [show (0 + (x : Int)) = (x : Int) by omega]
      exact q1 x (by omega) hj e
    · walk_at "xg"
      refine S_next_of (D := E ^ x) (E := E) (k := k) h.lw (afterL_len _ _ _) (afterL_fz (k := r.toNat) h.st hE (by omega) x) hE h.st (Nat.pow_pos h0) h0 ?_ hk2 ?_
      · rw [← Nat.pow_succ]
        exact Nat.lt_of_le_of_lt (Nat.mul_le_mul_right 16 (Nat.pow_le_pow_right h0 (by omega))) hk
      · refine ⟨_, rfl, fun j hj' => ?_⟩
        by_cases e2 : j = x
        · subst e2; exact e
        · exact hj j (by omega)
  · rintro ρ' ⟨z, rfl, hj⟩
    have hj : ∀ j, j < 61 → endedL L r.toNat j < u := hj
    walk_at "xg"
    exact q2 fun j h => hj j (by omega)
theorem has_check_many (F : DefIn K mg "check_many" s_check_many ["value"]) (h_is_int : Has P w K mg base CX0 "is_int" ["value", "low", "high"] 1 (PSp R_is_int)) (r_BadNumber : RTxt K mg "BadNumber" er.bn) : Has P w K mg base (L2.CX P w) "check_many" ["value"] 2 (XSp (R_ckN er)) := by
  refine has_pureX F sc_check_many (by walk_at "lenX") fun f cdv A outer s H E hr => ⟨_, (pss_one (ps_if (PT.nox (pt_not (pt_val (pe_h h_is_int hr (by decide) (by rfl) (pa_cons (pv 0) (pa_cons pe_int (pa_cons pe_int pa_nil)))))))
        (pss_one (ps_rz (K := K) rfl rfl r_BadNumber (takes_of rfl rfl rfl rfl) (by rfl)))
        pss_nil)), ?_⟩
  rintro ds Q Z ⟨d, rfl, q, qz⟩
  walk_at "xs"
  by_cases h : isIntIn d 0 60 = true
  · rw [h]
    walk_at "xs"
    exact q h
  · rw [Bool.not_eq_true] at h
    rw [h]
    walk_at "xs"
    exact ds_rz (qz h)
theorem has_top_after (F : DefIn K mg "top_after" s_top_after ["ladder", "rung", "many", "other"]) (h_top_of : Has P w K mg base CX0 "top_of" ["ladder", "rung"] 6 (PSp R_top_of)) (h_after_of : Has P w K mg base CX0 "after_of" ["ladder", "rung", "many"] 5 (PSp R_after_of)) (h_check_rung : Has P w K mg base (L2.CX P w) "check_rung" ["ladder", "value"] 2 (XSp (R_ckR er))) (h_check_many : Has P w K mg base (L2.CX P w) "check_many" ["value"] 2 (XSp (R_ckN er))) (h_check_ladder : Has P w K mg base (L2.CX P w) "check_ladder" ["value"] 4 (XSp (R_ckL er))) (r_NotFound : RTxt K mg "NotFound" er.nf) : Has P w K mg base (L2.CX P w) "top_after" ["ladder", "rung", "many", "other"] 7 (XSp (RX er [.L, .R, .N, .R] (R_top_after er))) := by
  refine has_pureX F sc_top_after (by walk_at "lenX") fun f cdv A outer s H E hr => ⟨_, (pss_cons (ps_expr (pe_hX h_check_ladder hr (by decide) (by rfl) (takes_of rfl rfl rfl rfl) (pa_cons (pv 0) pa_nil)))
        (pss_cons (ps_expr (pe_hX h_check_rung hr (by decide) (by rfl) (takes_of rfl rfl rfl rfl) (pa_cons (pv 0) (pa_cons (pv 1) pa_nil))))
        (pss_cons (ps_expr (pe_hX h_check_many hr (by decide) (by rfl) (takes_of rfl rfl rfl rfl) (pa_cons (pv 2) pa_nil)))
        (pss_cons (ps_expr (pe_hX h_check_rung hr (by decide) (by rfl) (takes_of rfl rfl rfl rfl) (pa_cons (pv 0) (pa_cons (pv 3) pa_nil))))
        (pss_cons (ps_if (PT.nox (pt_cmpR (opEq (K := K) rfl hr.units) (pe_ix (ixS (K := K) rfl) (pe_h h_after_of hr (by decide) (by rfl) (pa_cons (pv 0) (pa_cons (pv 1) (pa_cons (pv 2) pa_nil)))) (pv 3) (fun _ _ => rfl)) (pe_tup (pa_cons pe_int (pa_cons pe_int pa_nil))) (nomark _)))
        (pss_one (ps_rz (K := K) rfl rfl r_NotFound (takes_of rfl rfl rfl rfl) (by rfl)))
        pss_nil)
        (pss_one (ps_nox (ps_ret (pe_h h_top_of hr (by decide) (by rfl) (pa_cons (pv 0) (pa_cons (pv 3) pa_nil))))))))))), ?_⟩
  rintro ds Q Z ⟨hl0, qe, q0⟩
  obtain ⟨a0, a1, a2, a3, rfl⟩ := len4 hl0
  walk_at "xs"
  refine S_ckL (fun k0 => ?_) (fun k0 => qe _ (f1_bad (k := .L) k0))
  walk_at "xs"
  refine S_ckR k0 (fun k1 => ?_) (fun k1 => qe _ ((f1_ok (k := .L) k0).trans (f1_bad (k := .R) k1)))
  walk_at "xs"
  refine S_ckN (fun k2 => ?_) (fun k2 => qe _ ((f1_ok (k := .L) k0).trans ((f1_ok (k := .R) k1).trans (f1_bad (k := .N) k2))))
  walk_at "xs"
  refine S_ckR k0 (fun k3 => ?_) (fun k3 => qe _ ((f1_ok (k := .L) k0).trans ((f1_ok (k := .R) k1).trans ((f1_ok (k := .N) k2).trans (f1_bad (k := .R) k3)))))
  obtain ⟨L, r, t, o, E, k, hds, tm, ho0, ho1, q, qz⟩ := q0 ((f1_ok (k := .L) k0).trans ((f1_ok (k := .R) k1).trans ((f1_ok (k := .N) k2).trans ((f1_ok (k := .R) k3).trans f1_nil))))
  cases hds
  have ok := tm.ok
  have lw := ok.lw
  walk_at "xs"
  refine tm.aftS ?_
  walk_at "xs"
  refine rp_ixL (at_aft (j := o.toNat) (by omega) (by omega)) ?_
  walk_at "xs"
  refine iteD (fun e => ?_) (fun e => ?_)
  · walk_at "xs"
    exact ds_rz (qz e)
  walk_at "xs"
  exact S_top_of lw ho0 ho1 (q e)
theorem has_after_given_top (F : DefIn K mg "after_given_top" s_after_given_top ["ladder", "rung", "many"]) (h_divided : Has P w K mg base CX0 "divided" ["one", "other"] 3 (PSp R_div)) (h_times_of : Has P w K mg base CX0 "times_of" ["one", "other"] 3 (PSp R_mul)) (h_top_of : Has P w K mg base CX0 "top_of" ["ladder", "rung"] 6 (PSp R_top_of)) (h_after_of : Has P w K mg base CX0 "after_of" ["ladder", "rung", "many"] 5 (PSp R_after_of)) (h_check_many : Has P w K mg base (L2.CX P w) "check_many" ["value"] 2 (XSp (R_ckN er))) (h_check_rung : Has P w K mg base (L2.CX P w) "check_rung" ["ladder", "value"] 2 (XSp (R_ckR er))) (h_check_ladder : Has P w K mg base (L2.CX P w) "check_ladder" ["value"] 4 (XSp (R_ckL er))) (m_enumerate : mg "enumerate" = none) (r_NotFound : RTxt K mg "NotFound" er.nf) : Has P w K mg base (L2.CX P w) "after_given_top" ["ladder", "rung", "many"] 7 (XSp (RX er [.L, .R, .N] (R_after_given_top er))) := by
  refine has_pureX F sc_after_given_top (by walk_at "lenX") fun f cdv A outer s H E hr => ⟨_, (pss_cons (ps_expr (pe_hX h_check_ladder hr (by decide) (by rfl) (takes_of rfl rfl rfl rfl) (pa_cons (pv 0) pa_nil)))
        (pss_cons (ps_expr (pe_hX h_check_rung hr (by decide) (by rfl) (takes_of rfl rfl rfl rfl) (pa_cons (pv 0) (pa_cons (pv 1) pa_nil))))
        (pss_cons (ps_expr (pe_hX h_check_many hr (by decide) (by rfl) (takes_of rfl rfl rfl rfl) (pa_cons (pv 2) pa_nil)))
        (pss_cons (ps_nox (ps_set (i := 3) sc_after_given_top.nd rfl (by first | exact Or.inl rfl | exact Or.inr rfl) (pe_h h_top_of hr (by decide) (by rfl) (pa_cons (pv 0) (pa_cons (pv 1) pa_nil)))))
        (pss_cons (ps_if (PT.nox (pt_cmpR (opEq (K := K) rfl hr.units) (pv 3) (pe_tup (pa_cons pe_int (pa_cons pe_int pa_nil))) (nomark _)))
        (pss_one (ps_rz (K := K) rfl rfl r_NotFound (takes_of rfl rfl rfl rfl) (by rfl)))
        pss_nil)
        (pss_cons (ps_nox (ps_set (i := 4) sc_after_given_top.nd rfl (by first | exact Or.inl rfl | exact Or.inr rfl) (pe_h h_after_of hr (by decide) (by rfl) (pa_cons (pv 0) (pa_cons (pv 1) (pa_cons (pv 2) pa_nil))))))
        (pss_one (ps_nox (ps_ret (pe_lc (own := [("place", 5), ("one", 6)]) (g := gTup K 2 (gCons (gName 5) (gCons (gName 6) gNil))) rfl sc_after_given_top.nd (pi_enumK (K := K) rfl (by rfl) m_enumerate (pa_cons (pv 4) pa_nil)) (blkOk_by (own := [("place", 5), ("one", 6)]) (N := N_after_given_top) (sc := defScope s_after_given_top) (by decide +kernel)) (fun _ _ _ _ _ => by exact (pg_tupK (K := K) (n := 2) rfl rfl (pgs_cons (pg_name (i := 5) sc_after_given_top.nd rfl (by first | exact Or.inl rfl | exact Or.inr rfl)) (pgs_cons (pg_name (i := 6) sc_after_given_top.nd rfl (by first | exact Or.inl rfl | exact Or.inr rfl)) pgs_nil)))) (fun _ _ _ _ _ => by exact pts_nil) (fun _ _ _ _ _ => by exact (pe_h h_divided hr (by decide) (by rfl) (pa_cons (pe_h h_times_of hr (by decide) (by rfl) (pa_cons (pv 6) (pa_cons (pe_h h_top_of hr (by decide) (by rfl) (pa_cons (pv 0) (pa_cons (pv 5) pa_nil))) pa_nil))) (pa_cons (pv 3) pa_nil)))))))))))))), ?_⟩
  rintro ds Q Z ⟨hl0, qe, q0⟩
  obtain ⟨a0, a1, a2, rfl⟩ := len3 hl0
  walk_at "xs"
  refine S_ckL (fun k0 => ?_) (fun k0 => qe _ (f1_bad (k := .L) k0))
  walk_at "xs"
  refine S_ckR k0 (fun k1 => ?_) (fun k1 => qe _ ((f1_ok (k := .L) k0).trans (f1_bad (k := .R) k1)))
  walk_at "xs"
  refine S_ckN (fun k2 => ?_) (fun k2 => qe _ ((f1_ok (k := .L) k0).trans ((f1_ok (k := .R) k1).trans (f1_bad (k := .N) k2))))
  obtain ⟨L, r, t, E, k, hds, tm, hz, q, qz⟩ := q0 ((f1_ok (k := .L) k0).trans ((f1_ok (k := .R) k1).trans ((f1_ok (k := .N) k2).trans f1_nil)))
  cases hds
  have ok := tm.ok
  have lw := ok.lw
  have h8 := lw.le
  have hr0 := tm.r0
  have hr1 := tm.r1
  walk_at "xs"
  refine S_top_of lw hr0 hr1 ?_
  walk_at "xs"
  refine iteD (fun e => ?_) (fun e => ?_)
  · walk_at "xs"
    refine ds_rz (qz ?_)
    by_cases h0 : r = 0
    · exact h0
    · have := hB_pos lw (r := r.toNat) (by omega) (by omega)
      rw [e] at this
      exact absurd this Rat.lt_irrefl
  have hne : r ≠ 0 := fun e0 => e (by rw [e0]; exact hB_zero L)
  have hpos := hB_pos lw (r := r.toNat) (by omega) (by omega)
  walk_at "xs"
  refine tm.aftS ?_
  walk_at "xs"
  rw [enumD_map]
  refine lcI_enc (fun p : Rat × Nat => p.1 * hB L p.2 / hB L r.toNat) ?_ ?_ ?_
  · rw [List.length_zipIdx, afterL_len]; omega
  · intro i x hi
    obtain ⟨h1, h2⟩ := zipIdx_get hi
    have hlt := (List.getElem?_eq_some_iff.mp h1).1
    rw [afterL_len] at hlt
    have hb : Bd k x.1 := by
      have := tm.bd (j := i) hlt
      have e1 := aft_get (L := L) (k := r.toNat) (t := t.toNat) hlt
      have e2 := Option.some.inj (h1.symm.trans e1)
      rw [e2]; exact this
    have hk := tm.k1
    walk_at "xs"
    refine S_top_of lw (by omega) (by omega) ?_
    rw [Int.toNat_natCast]
    walk_at "xs"
    refine S_mul hb (hz.hBd x.2) (by omega) ?_
    walk_at "xs"
    exact S_div hpos (hb.mul (hz.hBd x.2)) (hz.hBd _) (by omega) rfl
  have e3 : ((afterL L r.toNat t.toNat).zipIdx.map fun p : Rat × Nat => p.1 * hB L p.2 / hB L r.toNat) = agL L r.toNat t.toNat := by
    apply List.ext_getElem?
    intro i
    unfold agL
    by_cases hi : i < L.length + 2
    · rw [List.getElem?_map, List.getElem?_zipIdx, aft_get hi, List.getElem?_map, List.getElem?_range hi]
      show some _ = some _
      rw [Nat.zero_add]; rfl
    · rw [List.getElem?_eq_none (by rw [List.length_map, List.length_zipIdx, afterL_len]; omega), List.getElem?_eq_none (by rw [List.length_map, List.length_range]; omega)]
  rw [e3]
  exact q hne
theorem has_likeliest (F : DefIn K mg "likeliest" s_likeliest ["ladder", "rung", "many"]) (h_less : Has P w K mg base CX0 "less" ["one", "other"] 1 (PSp R_less)) (h_after_of : Has P w K mg base CX0 "after_of" ["ladder", "rung", "many"] 5 (PSp R_after_of)) (h_check_many : Has P w K mg base (L2.CX P w) "check_many" ["value"] 2 (XSp (R_ckN er))) (h_check_rung : Has P w K mg base (L2.CX P w) "check_rung" ["ladder", "value"] 2 (XSp (R_ckR er))) (h_check_ladder : Has P w K mg base (L2.CX P w) "check_ladder" ["value"] 4 (XSp (R_ckL er))) (m_enumerate : mg "enumerate" = none) (m_any : mg "any" = none) : Has P w K mg base (L2.CX P w) "likeliest" ["ladder", "rung", "many"] 6 (XSp (RX er [.L, .R, .N] (fun ds P _ => R_likeliest ds P))) := by
  refine has_pureX F sc_likeliest (by walk_at "lenX") fun f cdv A outer s H E hr => ⟨_, (pss_cons (ps_expr (pe_hX h_check_ladder hr (by decide) (by rfl) (takes_of rfl rfl rfl rfl) (pa_cons (pv 0) pa_nil)))
        (pss_cons (ps_expr (pe_hX h_check_rung hr (by decide) (by rfl) (takes_of rfl rfl rfl rfl) (pa_cons (pv 0) (pa_cons (pv 1) pa_nil))))
        (pss_cons (ps_expr (pe_hX h_check_many hr (by decide) (by rfl) (takes_of rfl rfl rfl rfl) (pa_cons (pv 2) pa_nil)))
        (pss_cons (ps_nox (ps_set (i := 3) sc_likeliest.nd rfl (by first | exact Or.inl rfl | exact Or.inr rfl) (pe_h h_after_of hr (by decide) (by rfl) (pa_cons (pv 0) (pa_cons (pv 1) (pa_cons (pv 2) pa_nil))))))
        (pss_one (ps_nox (ps_ret (pe_lc (own := [("one", 4), ("own", 5)]) (g := gTup K 2 (gCons (gName 4) (gCons (gName 5) gNil))) rfl sc_likeliest.nd (pi_enumK (K := K) rfl (by rfl) m_enumerate (pa_cons (pv 3) pa_nil)) (blkOk_by (own := [("one", 4), ("own", 5)]) (N := N_likeliest) (sc := defScope s_likeliest) (by decide +kernel)) (fun _ _ _ _ _ => by exact (pg_tupK (K := K) (n := 2) rfl rfl (pgs_cons (pg_name (i := 4) sc_likeliest.nd rfl (by first | exact Or.inl rfl | exact Or.inr rfl)) (pgs_cons (pg_name (i := 5) sc_likeliest.nd rfl (by first | exact Or.inl rfl | exact Or.inr rfl)) pgs_nil)))) (fun _ _ _ _ _ => by exact (pts_one (pt_not (pt_val (pe_callB (cAny (K := K) rfl rfl) (by rfl) m_any (by decide +kernel) (pa_cons (pe_lc (own := [("far", 6)]) (g := gName 6) rfl sc_likeliest.nd (pi_listK (K := K) rfl (pv 3)) (by exact blkOk_in (own := [("far", 6)]) (N := N_likeliest) (sc := defScope s_likeliest) rfl (by decide +kernel)) (fun _ _ _ _ _ => by exact (pg_name (i := 6) sc_likeliest.nd rfl (by first | exact Or.inl rfl | exact Or.inr rfl))) (fun _ _ _ _ _ => by exact pts_nil) (fun _ _ _ _ _ => by exact (pe_h h_less hr (by decide) (by rfl) (pa_cons (pv 5) (pa_cons (pv 6) pa_nil))))) pa_nil)))))) (fun _ _ _ _ _ => by exact (pv 4)))))))))), ?_⟩
  rintro ds Q Z ⟨hl0, qe, q0⟩
  obtain ⟨a0, a1, a2, rfl⟩ := len3 hl0
  walk_at "xs"
  refine S_ckL (fun k0 => ?_) (fun k0 => qe _ (f1_bad (k := .L) k0))
  walk_at "xs"
  refine S_ckR k0 (fun k1 => ?_) (fun k1 => qe _ ((f1_ok (k := .L) k0).trans (f1_bad (k := .R) k1)))
  walk_at "xs"
  refine S_ckN (fun k2 => ?_) (fun k2 => qe _ ((f1_ok (k := .L) k0).trans ((f1_ok (k := .R) k1).trans (f1_bad (k := .N) k2))))
  obtain ⟨L, r, t, E, k, hds, h, q⟩ := q0 ((f1_ok (k := .L) k0).trans ((f1_ok (k := .R) k1).trans ((f1_ok (k := .N) k2).trans f1_nil)))
  cases hds
  have hk := h.k1
  have hl := h.ok.le
  have bdA : ∀ x ∈ afterL L r.toNat t.toNat, Bd k x := fun x hx => by
    rw [afterL_eq] at hx
    obtain ⟨j, hj, rfl⟩ := List.mem_map.mp hx
    exact h.bd (List.mem_range.mp hj)
  walk_at "xg"
  refine h.aftS ?_
  walk_at "xg"
  rw [enumD_map]
  refine lcI_filter (fun q : Rat × Nat => !((afterL L r.toNat t.toNat).any fun y => decide (q.1 < y))) (fun q : Rat × Nat => .int (q.2 : Nat)) ?_ ?_ ?_
  · rw [List.length_zipIdx, afterL_len]; omega
  · rintro i ⟨x, j⟩ hi
    obtain ⟨hx, hj⟩ := zipIdx_get hi
    walk_at "xg"
    refine lcI_map (fun y : Rat => PyData.bool (decide (x < y))) ?_ ?_ ?_
    · rw [afterL_len]; omega
    · intro i2 y hy
      walk_at "xg"
      refine S_less ((bdA x (List.mem_of_getElem? hx))) (bdA y (List.mem_of_getElem? hy)) (by omega) ?_
      rfl
    walk_at "xg"
    rw [show (afterL L r.toNat t.toNat).map (fun y : Rat => PyData.bool (decide (x < y))) = ((afterL L r.toNat t.toNat).map fun y => decide (x < y)).map PyData.bool by rw [List.map_map]; rfl]
    refine rc_any ?_
    walk_at "xg"
    refine ⟨by rw [List.any_map]; rfl, fun _ => ?_⟩
    walk_at "xg"
    rfl
  · have e : ((afterL L r.toNat t.toNat).zipIdx.filter (fun q : Rat × Nat => !((afterL L r.toNat t.toNat).any fun y => decide (q.1 < y)))).map (fun q : Rat × Nat => PyData.int (q.2 : Nat)) = (likeL L r.toNat t.toNat).map fun j => .int (j : Nat) := by
      have e2 : (afterL L r.toNat t.toNat).zipIdx = (List.range (L.length + 2)).map fun j => (aft L r.toNat t.toNat j, j) := by
        apply List.ext_getElem?
        intro j
        rw [List.getElem?_zipIdx, List.getElem?_map]
        by_cases hj : j < L.length + 2
        · rw [aft_get hj, List.getElem?_range hj]; simp
        · rw [List.getElem?_eq_none (by rw [afterL_len]; omega), List.getElem?_eq_none (by rw [List.length_range]; omega)]; rfl
      rw [e2, List.filter_map, List.map_map]
      rfl
    rw [e]
    exact q
theorem has_top_at (F : DefIn K mg "top_at" s_top_at ["ladder", "rung", "many"]) (h_minus : Has P w K mg base CX0 "minus" ["one", "other"] 3 (PSp R_sub)) (h_after_of : Has P w K mg base CX0 "after_of" ["ladder", "rung", "many"] 5 (PSp R_after_of)) (h_check_many : Has P w K mg base (L2.CX P w) "check_many" ["value"] 2 (XSp (R_ckN er))) (h_check_rung : Has P w K mg base (L2.CX P w) "check_rung" ["ladder", "value"] 2 (XSp (R_ckR er))) (h_check_ladder : Has P w K mg base (L2.CX P w) "check_ladder" ["value"] 4 (XSp (R_ckL er))) : Has P w K mg base (L2.CX P w) "top_at" ["ladder", "rung", "many"] 6 (XSp (RX er [.L, .R, .N] (fun ds P _ => R_top_at ds P))) := by
  refine has_pureX F sc_top_at (by walk_at "lenX") fun f cdv A outer s H E hr => ⟨_, (pss_cons (ps_expr (pe_hX h_check_ladder hr (by decide) (by rfl) (takes_of rfl rfl rfl rfl) (pa_cons (pv 0) pa_nil)))
        (pss_cons (ps_expr (pe_hX h_check_rung hr (by decide) (by rfl) (takes_of rfl rfl rfl rfl) (pa_cons (pv 0) (pa_cons (pv 1) pa_nil))))
        (pss_cons (ps_expr (pe_hX h_check_many hr (by decide) (by rfl) (takes_of rfl rfl rfl rfl) (pa_cons (pv 2) pa_nil)))
        (pss_cons (ps_nox (ps_set (i := 3) sc_top_at.nd rfl (by first | exact Or.inl rfl | exact Or.inr rfl) (pe_ix (ixS (K := K) rfl) (pe_h h_after_of hr (by decide) (by rfl) (pa_cons (pv 0) (pa_cons (pv 1) (pa_cons (pv 2) pa_nil)))) (pe_un un_neg pe_int) (fun _ _ => rfl))))
        (pss_one (ps_nox (ps_ret (pe_ifExp (pt_cmpR (opEq (K := K) rfl hr.units) (pv 2) pe_int (nomark _)) (pv 3) (pe_h h_minus hr (by decide) (by rfl) (pa_cons (pv 3) (pa_cons (pe_ix (ixS (K := K) rfl) (pe_h h_after_of hr (by decide) (by rfl) (pa_cons (pv 0) (pa_cons (pv 1) (pa_cons (pe_op op_sub (pv 2) pe_int) pa_nil)))) (pe_un un_neg pe_int) (fun _ _ => rfl)) pa_nil))))))))))), ?_⟩
  rintro ds Q Z ⟨hl0, qe, q0⟩
  obtain ⟨a0, a1, a2, rfl⟩ := len3 hl0
  walk_at "xs"
  refine S_ckL (fun k0 => ?_) (fun k0 => qe _ (f1_bad (k := .L) k0))
  walk_at "xs"
  refine S_ckR k0 (fun k1 => ?_) (fun k1 => qe _ ((f1_ok (k := .L) k0).trans (f1_bad (k := .R) k1)))
  walk_at "xs"
  refine S_ckN (fun k2 => ?_) (fun k2 => qe _ ((f1_ok (k := .L) k0).trans ((f1_ok (k := .R) k1).trans (f1_bad (k := .N) k2))))
  obtain ⟨L, r, t, E, k, hds, h, q⟩ := q0 ((f1_ok (k := .L) k0).trans ((f1_ok (k := .R) k1).trans ((f1_ok (k := .N) k2).trans f1_nil)))
  cases hds
  have hk := h.k1
  have ht := h.t0
  walk_at "xg"
  refine h.aftS ?_
  walk_at "xg"
  refine rp_ixL at_aftL ?_
  walk_at "xg"
  refine iteD (fun e => ?_) (fun e => ?_)
  · walk_at "xs"
    unfold topL at q
    subst e
    exact q
  · have h' := h.pred e
    have et : (t - 1).toNat = t.toNat - 1 := by omega
    walk_at "xs"
    refine h'.aftS ?_
    walk_at "xs"
    refine rp_ixL at_aftL ?_
    walk_at "xs"
    refine S_sub (h.bd (by omega)) (h'.bd (by omega)) (by omega) ?_
    unfold topL at q
    rw [if_neg (by omega)] at q
    rw [et]
    exact q
theorem has_ends_at (F : DefIn K mg "ends_at" s_ends_at ["ladder", "rung", "many"]) (h_minus : Has P w K mg base CX0 "minus" ["one", "other"] 3 (PSp R_sub)) (h_plus : Has P w K mg base CX0 "plus" ["one", "other"] 3 (PSp R_add)) (h_after_of : Has P w K mg base CX0 "after_of" ["ladder", "rung", "many"] 5 (PSp R_after_of)) (h_check_many : Has P w K mg base (L2.CX P w) "check_many" ["value"] 2 (XSp (R_ckN er))) (h_check_rung : Has P w K mg base (L2.CX P w) "check_rung" ["ladder", "value"] 2 (XSp (R_ckR er))) (h_check_ladder : Has P w K mg base (L2.CX P w) "check_ladder" ["value"] 4 (XSp (R_ckL er))) : Has P w K mg base (L2.CX P w) "ends_at" ["ladder", "rung", "many"] 6 (XSp (RX er [.L, .R, .N] (fun ds P _ => R_ends_at ds P))) := by
  refine has_pureX F sc_ends_at (by walk_at "lenX") fun f cdv A outer s H E hr => ⟨_, (pss_cons (ps_expr (pe_hX h_check_ladder hr (by decide) (by rfl) (takes_of rfl rfl rfl rfl) (pa_cons (pv 0) pa_nil)))
        (pss_cons (ps_expr (pe_hX h_check_rung hr (by decide) (by rfl) (takes_of rfl rfl rfl rfl) (pa_cons (pv 0) (pa_cons (pv 1) pa_nil))))
        (pss_cons (ps_expr (pe_hX h_check_many hr (by decide) (by rfl) (takes_of rfl rfl rfl rfl) (pa_cons (pv 2) pa_nil)))
        (pss_cons (ps_nox (ps_set (i := 3) sc_ends_at.nd rfl (by first | exact Or.inl rfl | exact Or.inr rfl) (pe_h h_after_of hr (by decide) (by rfl) (pa_cons (pv 0) (pa_cons (pv 1) (pa_cons (pv 2) pa_nil))))))
        (pss_cons (ps_nox (ps_if (pt_cmpR (opEq (K := K) rfl hr.units) (pv 2) pe_int (nomark _))
        (pss_one (ps_ret (pe_h h_plus hr (by decide) (by rfl) (pa_cons (pe_ix (ixS (K := K) rfl) (pv 3) pe_int (fun _ _ => rfl)) (pa_cons (pe_ix (ixS (K := K) rfl) (pv 3) (pe_un un_neg pe_int) (fun _ _ => rfl)) pa_nil)))))
        pss_nil))
        (pss_cons (ps_nox (ps_set (i := 4) sc_ends_at.nd rfl (by first | exact Or.inl rfl | exact Or.inr rfl) (pe_h h_after_of hr (by decide) (by rfl) (pa_cons (pv 0) (pa_cons (pv 1) (pa_cons (pe_op op_sub (pv 2) pe_int) pa_nil))))))
        (pss_one (ps_nox (ps_ret (pe_h h_minus hr (by decide) (by rfl) (pa_cons (pe_h h_plus hr (by decide) (by rfl) (pa_cons (pe_ix (ixS (K := K) rfl) (pv 3) pe_int (fun _ _ => rfl)) (pa_cons (pe_ix (ixS (K := K) rfl) (pv 3) (pe_un un_neg pe_int) (fun _ _ => rfl)) pa_nil))) (pa_cons (pe_h h_plus hr (by decide) (by rfl) (pa_cons (pe_ix (ixS (K := K) rfl) (pv 4) pe_int (fun _ _ => rfl)) (pa_cons (pe_ix (ixS (K := K) rfl) (pv 4) (pe_un un_neg pe_int) (fun _ _ => rfl)) pa_nil))) pa_nil)))))))))))), ?_⟩
  rintro ds Q Z ⟨hl0, qe, q0⟩
  obtain ⟨a0, a1, a2, rfl⟩ := len3 hl0
  walk_at "xs"
  refine S_ckL (fun k0 => ?_) (fun k0 => qe _ (f1_bad (k := .L) k0))
  walk_at "xs"
  refine S_ckR k0 (fun k1 => ?_) (fun k1 => qe _ ((f1_ok (k := .L) k0).trans (f1_bad (k := .R) k1)))
  walk_at "xs"
  refine S_ckN (fun k2 => ?_) (fun k2 => qe _ ((f1_ok (k := .L) k0).trans ((f1_ok (k := .R) k1).trans (f1_bad (k := .N) k2))))
  obtain ⟨L, r, t, E, k, hds, h, q⟩ := q0 ((f1_ok (k := .L) k0).trans ((f1_ok (k := .R) k1).trans ((f1_ok (k := .N) k2).trans f1_nil)))
  cases hds
  have hk := h.k1
  have ht := h.t0
  walk_at "xg"
  refine h.aftS ?_
  walk_at "xs"
  refine iteD (fun e => ?_) (fun e => ?_)
  · walk_at "xs"
    refine rp_ixL (at_aft (j := 0) rfl (by omega)) ?_
    walk_at "xs"
    refine rp_ixL at_aftL ?_
    walk_at "xs"
    refine S_add (h.bd (by omega)) (h.bd (by omega)) (by omega) ?_
    unfold endsL at q
    subst e
    exact q
  · have h' := h.pred e
    have et : (t - 1).toNat = t.toNat - 1 := by omega
    walk_at "xs"
    refine h'.aftS ?_
    walk_at "xs"
    refine rp_ixL (at_aft (j := 0) rfl (by omega)) ?_
    walk_at "xs"
    refine rp_ixL at_aftL ?_
    walk_at "xs"
    refine S_add (h.bd (by omega)) (h.bd (by omega)) (by omega) ?_
    walk_at "xs"
    refine rp_ixL (at_aft (j := 0) rfl (by omega)) ?_
    walk_at "xs"
    refine rp_ixL at_aftL ?_
    walk_at "xs"
    refine S_add (h'.bd (by omega)) (h'.bd (by omega)) (by omega) ?_
    walk_at "xs"
    refine S_sub h.bdE h'.bdE (by omega) ?_
    unfold endsL at q
    rw [if_neg (by omega)] at q
    rw [et]
    exact q
theorem has_ended_by (F : DefIn K mg "ended_by" s_ended_by ["ladder", "rung", "many"]) (h_plus : Has P w K mg base CX0 "plus" ["one", "other"] 3 (PSp R_add)) (h_after_of : Has P w K mg base CX0 "after_of" ["ladder", "rung", "many"] 5 (PSp R_after_of)) (h_check_many : Has P w K mg base (L2.CX P w) "check_many" ["value"] 2 (XSp (R_ckN er))) (h_check_rung : Has P w K mg base (L2.CX P w) "check_rung" ["ladder", "value"] 2 (XSp (R_ckR er))) (h_check_ladder : Has P w K mg base (L2.CX P w) "check_ladder" ["value"] 4 (XSp (R_ckL er))) : Has P w K mg base (L2.CX P w) "ended_by" ["ladder", "rung", "many"] 6 (XSp (RX er [.L, .R, .N] (fun ds P _ => R_ended_by ds P))) := by
  refine has_pureX F sc_ended_by (by walk_at "lenX") fun f cdv A outer s H E hr => ⟨_, (pss_cons (ps_expr (pe_hX h_check_ladder hr (by decide) (by rfl) (takes_of rfl rfl rfl rfl) (pa_cons (pv 0) pa_nil)))
        (pss_cons (ps_expr (pe_hX h_check_rung hr (by decide) (by rfl) (takes_of rfl rfl rfl rfl) (pa_cons (pv 0) (pa_cons (pv 1) pa_nil))))
        (pss_cons (ps_expr (pe_hX h_check_many hr (by decide) (by rfl) (takes_of rfl rfl rfl rfl) (pa_cons (pv 2) pa_nil)))
        (pss_cons (ps_nox (ps_set (i := 3) sc_ended_by.nd rfl (by first | exact Or.inl rfl | exact Or.inr rfl) (pe_h h_after_of hr (by decide) (by rfl) (pa_cons (pv 0) (pa_cons (pv 1) (pa_cons (pv 2) pa_nil))))))
        (pss_one (ps_nox (ps_ret (pe_h h_plus hr (by decide) (by rfl) (pa_cons (pe_ix (ixS (K := K) rfl) (pv 3) pe_int (fun _ _ => rfl)) (pa_cons (pe_ix (ixS (K := K) rfl) (pv 3) (pe_un un_neg pe_int) (fun _ _ => rfl)) pa_nil)))))))))), ?_⟩
  rintro ds Q Z ⟨hl0, qe, q0⟩
  obtain ⟨a0, a1, a2, rfl⟩ := len3 hl0
  walk_at "xs"
  refine S_ckL (fun k0 => ?_) (fun k0 => qe _ (f1_bad (k := .L) k0))
  walk_at "xs"
  refine S_ckR k0 (fun k1 => ?_) (fun k1 => qe _ ((f1_ok (k := .L) k0).trans (f1_bad (k := .R) k1)))
  walk_at "xs"
  refine S_ckN (fun k2 => ?_) (fun k2 => qe _ ((f1_ok (k := .L) k0).trans ((f1_ok (k := .R) k1).trans (f1_bad (k := .N) k2))))
  obtain ⟨L, r, t, E, k, hds, h, q⟩ := q0 ((f1_ok (k := .L) k0).trans ((f1_ok (k := .R) k1).trans ((f1_ok (k := .N) k2).trans f1_nil)))
  cases hds
  have hk := h.k1
  walk_at "xs"
  refine h.aftS ?_
  walk_at "xs"
  refine rp_ixL (at_aft (j := 0) rfl (by omega)) ?_
  walk_at "xs"
  refine rp_ixL at_aftL ?_
  walk_at "xs"
  exact S_add (h.bd (by omega)) (h.bd (by omega)) (by omega) q
theorem has_after (F : DefIn K mg "after" s_after ["ladder", "rung", "many"]) (h_after_of : Has P w K mg base CX0 "after_of" ["ladder", "rung", "many"] 5 (PSp R_after_of)) (h_check_many : Has P w K mg base (L2.CX P w) "check_many" ["value"] 2 (XSp (R_ckN er))) (h_check_rung : Has P w K mg base (L2.CX P w) "check_rung" ["ladder", "value"] 2 (XSp (R_ckR er))) (h_check_ladder : Has P w K mg base (L2.CX P w) "check_ladder" ["value"] 4 (XSp (R_ckL er))) : Has P w K mg base (L2.CX P w) "after" ["ladder", "rung", "many"] 6 (XSp (RX er [.L, .R, .N] (fun ds P _ => R_after ds P))) := by
  refine has_pureX F sc_after (by walk_at "lenX") fun f cdv A outer s H E hr => ⟨_, (pss_cons (ps_expr (pe_hX h_check_ladder hr (by decide) (by rfl) (takes_of rfl rfl rfl rfl) (pa_cons (pv 0) pa_nil)))
        (pss_cons (ps_expr (pe_hX h_check_rung hr (by decide) (by rfl) (takes_of rfl rfl rfl rfl) (pa_cons (pv 0) (pa_cons (pv 1) pa_nil))))
        (pss_cons (ps_expr (pe_hX h_check_many hr (by decide) (by rfl) (takes_of rfl rfl rfl rfl) (pa_cons (pv 2) pa_nil)))
        (pss_one (ps_nox (ps_ret (pe_h h_after_of hr (by decide) (by rfl) (pa_cons (pv 0) (pa_cons (pv 1) (pa_cons (pv 2) pa_nil)))))))))), ?_⟩
  rintro ds Q Z ⟨hl0, qe, q0⟩
  obtain ⟨a0, a1, a2, rfl⟩ := len3 hl0
  walk_at "xs"
  refine S_ckL (fun k0 => ?_) (fun k0 => qe _ (f1_bad (k := .L) k0))
  walk_at "xs"
  refine S_ckR k0 (fun k1 => ?_) (fun k1 => qe _ ((f1_ok (k := .L) k0).trans (f1_bad (k := .R) k1)))
  walk_at "xs"
  refine S_ckN (fun k2 => ?_) (fun k2 => qe _ ((f1_ok (k := .L) k0).trans ((f1_ok (k := .R) k1).trans (f1_bad (k := .N) k2))))
  obtain ⟨L, r, t, E, k, hds, h, h1, h2, h3, h4, hE, h0, hk, hk2, q⟩ := q0 ((f1_ok (k := .L) k0).trans ((f1_ok (k := .R) k1).trans ((f1_ok (k := .N) k2).trans f1_nil)))
  cases hds
  walk_at "xs"
  exact S_after_of h.lw h1 h2 h3 h4 hE h.st h0 hk hk2 q
theorem has_Walker_init__ (F : DefM K wc "__init__" "Walker.__init__" s_Walker_init__ ["self", "ladder", "rung"]) (h_check_rung : Has P w K mg base (L2.CX P w) "check_rung" ["ladder", "value"] 2 (XSp (R_ckR er))) (h_check_ladder : Has P w K mg base (L2.CX P w) "check_ladder" ["value"] 4 (XSp (R_ckL er))) (m_list : mg "list" = none) (T : WTxt K mg wc) : HasM P w K mg base (L2.CX P w) wc "__init__" ["self", "ladder", "rung"] 5 (NSp wc (R_initX er)) := by
  refine has_init T F sc_Walker_init__ rfl (by walk_at "lenN") fun f cdv A outer s H E hr => ⟨_, _, (pss_cons (ps_expr (pe_hX h_check_ladder hr (by decide) (by rfl) (takes_of rfl rfl rfl rfl) (pa_cons (pv 1) pa_nil)))
        (pss_cons (ps_expr (pe_hX h_check_rung hr (by decide) (by rfl) (takes_of rfl rfl rfl rfl) (pa_cons (pv 1) (pa_cons (pv 2) pa_nil))))
        (pss_cons (ps_nox (ps_fld (pv 0) (pe_callTy (cList (K := K) rfl) (by rfl) m_list (by decide +kernel) (pa_cons (pv 1) pa_nil)) rfl))
        (pss_cons (ps_nox (ps_fld (pv 0) (pe_lst (pa_cons (pv 2) pa_nil)) rfl))
        (pss_one (ps_nox (ps_fld (pv 0) (pe_lst pa_nil) rfl))))))), ?_⟩
  rintro ds Q Z ⟨hl0, qe, q0⟩ v
  obtain ⟨a0, a1, rfl⟩ := len2 hl0
  walk_at "xs"
  refine S_ckL (fun k0 => ?_) (fun k0 => qe _ (f1_bad (k := .L) k0))
  walk_at "xs"
  refine S_ckR k0 (fun k1 => ?_) (fun k1 => qe _ ((f1_ok (k := .L) k0).trans (f1_bad (k := .R) k1)))
  have q1 := q0 ((f1_ok (k := .L) k0).trans ((f1_ok (k := .R) k1).trans f1_nil))
  obtain ⟨xs, rfl, _⟩ := lad_list k0
  exact ⟨_, _, rfl, q1 xs a1 rfl⟩
theorem has_ever_of (F : DefIn K mg "ever_of" s_ever_of ["ladder", "rung", "other"]) (h_minus : Has P w K mg base CX0 "minus" ["one", "other"] 3 (PSp R_sub)) (h_between_of : Has P w K mg base CX0 "between_of" ["ladder", "low", "high", "rung"] 5 (PSp R_between_of)) (m_len : mg "len" = none) : Has P w K mg base CX0 "ever_of" ["ladder", "rung", "other"] 6 (PSp R_ever_of) := by
  refine has_pure F sc_ever_of (by walk_at "len") fun f cdv A outer s H E hr => ⟨_, (pss_cons (ps_if (pt_cmpR (opEq (K := K) rfl hr.units) (pv 1) (pv 2) (nomark _))
        (pss_one (ps_ret (pe_tup (pa_cons pe_int (pa_cons pe_int pa_nil)))))
        pss_nil)
        (pss_cons (ps_if (pt_cmpR (opIn (K := K) rfl) (pv 1) (pe_tup (pa_cons pe_int (pa_cons (pe_op op_plus (pe_callB (cLen (K := K) rfl) (by rfl) m_len PySem.boot_len (pa_cons (pv 0) pa_nil)) pe_int) pa_nil))) (by rfl))
        (pss_one (ps_ret (pe_tup (pa_cons pe_int (pa_cons pe_int pa_nil)))))
        pss_nil)
        (pss_cons (ps_if (pt_cmpR op_lt (pv 1) (pv 2) (nomark _))
        (pss_one (ps_ret (pe_h h_between_of hr (by decide) (by rfl) (pa_cons (pv 0) (pa_cons pe_int (pa_cons (pv 2) (pa_cons (pv 1) pa_nil)))))))
        pss_nil)
        (pss_one (ps_ret (pe_h h_minus hr (by decide) (by rfl) (pa_cons (pe_tup (pa_cons pe_int (pa_cons pe_int pa_nil))) (pa_cons (pe_h h_between_of hr (by decide) (by rfl) (pa_cons (pv 0) (pa_cons (pv 2) (pa_cons (pe_op op_plus (pe_callB (cLen (K := K) rfl) (by rfl) m_len PySem.boot_len (pa_cons (pv 0) pa_nil)) pe_int) (pa_cons (pv 1) pa_nil))))) pa_nil)))))))), ?_⟩
  rintro ds Q ⟨L, r, o, rfl, h, h1, h2, h3, h4, q⟩
  have lw := h.lw
  obtain ⟨r, rfl⟩ := Int.eq_ofNat_of_zero_le h1
  obtain ⟨o, rfl⟩ := Int.eq_ofNat_of_zero_le h3
  rw [Int.toNat_natCast, Int.toNat_natCast] at q
  walk_at "xs"
  refine iteD (fun e => ?_) (fun e => ?_)
  · walk_at "xs"
    have e : r = o := by omega
    subst e
    rw [evL_self] at q
    exact q
  walk_at "xs"
  refine iteD (fun e2 => ?_) (fun e2 => ?_)
  · walk_at "xs"
    have e3 : evL L r o = 0 := by
      rcases e2 with e2 | e2
      · have : r = 0 := by omega
        subst this
        exact evL_bot (by omega)
      · have : r = L.length + 1 := by omega
        subst this
        exact evL_topr (by omega)
    rw [e3] at q
    exact q
  walk_at "xs"
  refine iteD (fun e3 => ?_) (fun e3 => ?_)
  · walk_at "xs"
    refine S_between_of lw (by omega) (by omega) (by omega) (by omega) (by omega) ?_
    have e4 : hB ((L.take (((o : Int)).toNat - 1)).drop ((0 : Int)).toNat) (((r : Int) - 0).toNat) = evL L r o := by
      rw [Int.toNat_natCast, show ((r : Int) - 0).toNat = r by omega, show ((0 : Int)).toNat = 0 from rfl, List.drop_zero, hB_take (by omega) (by omega), show o - 1 + 1 = o by omega, evL_lo lw (by omega) (by omega) (by omega)]
    rw [e4]
    exact q
  walk_at "xs"
  refine S_between_of lw (by omega) (by omega) (by omega) (by omega) (by omega) ?_
  have e4 : hB ((L.take (((L.length : Int) + 1).toNat - 1)).drop ((o : Int)).toNat) (((r : Int) - (o : Int)).toNat) = 1 - evL L r o := by
    rw [Int.toNat_natCast, show ((r : Int) - (o : Int)).toNat = r - o by omega, List.take_of_length_le (by omega), hB_drop lw (by omega) (by omega), show o + (r - o) = r by omega, evL_hi lw (by omega) (by omega) (by omega)]
    have hm := pA_mono lw (i := o) (j := L.length + 1) (by omega) (Nat.le_refl _)
    have hn : pA L (L.length + 1) - pA L o ≠ 0 := by grind
    grind
  rw [e4]
  walk_at "xs"
  refine S_sub Bd.one (Bd.one.sub (h.evBd (by omega) (by omega))) (by decide) ?_
  rw [show 1 - (1 - evL L r o) = evL L r o by grind]
  exact q
theorem has_check_inner (F : DefIn K mg "check_inner" s_check_inner ["ladder", "value"]) (h_is_int : Has P w K mg base CX0 "is_int" ["value", "low", "high"] 1 (PSp R_is_int)) (m_len : mg "len" = none) (r_BadRung : RTxt K mg "BadRung" er.br) : Has P w K mg base (L2.CX P w) "check_inner" ["ladder", "value"] 2 (XSp (R_ckI er)) := by
  refine has_pureX F sc_check_inner (by walk_at "lenX") fun f cdv A outer s H E hr => ⟨_, (pss_one (ps_if (PT.nox (pt_not (pt_val (pe_h h_is_int hr (by decide) (by rfl) (pa_cons (pv 1) (pa_cons pe_int (pa_cons (pe_callB (cLen (K := K) rfl) (by rfl) m_len PySem.boot_len (pa_cons (pv 0) pa_nil)) pa_nil)))))))
        (pss_one (ps_rz (K := K) rfl rfl r_BadRung (takes_of rfl rfl rfl rfl) (by rfl)))
        pss_nil)), ?_⟩
  rintro ds Q Z ⟨d, v, rfl, hd, q, qz⟩
  obtain ⟨xs, rfl, h8⟩ := lad_list hd
  walk_at "xs"
  by_cases h : isIntIn v 1 (lnD (.list xs)) = true
  · rw [show isIntIn v 1 (xs.length : Int) = true from h]
    walk_at "xs"
    exact q h
  · rw [Bool.not_eq_true] at h
    rw [show isIntIn v 1 (xs.length : Int) = false from h]
    walk_at "xs"
    exact ds_rz (qz h)
theorem has_visits (F : DefIn K mg "visits" s_visits ["ladder", "rung", "other"]) (h_divided : Has P w K mg base CX0 "divided" ["one", "other"] 3 (PSp R_div)) (h_ever_of : Has P w K mg base CX0 "ever_of" ["ladder", "rung", "other"] 6 (PSp R_ever_of)) (h_plus : Has P w K mg base CX0 "plus" ["one", "other"] 3 (PSp R_add)) (h_times_of : Has P w K mg base CX0 "times_of" ["one", "other"] 3 (PSp R_mul)) (h_minus : Has P w K mg base CX0 "minus" ["one", "other"] 3 (PSp R_sub)) (h_check_inner : Has P w K mg base (L2.CX P w) "check_inner" ["ladder", "value"] 2 (XSp (R_ckI er))) (h_check_rung : Has P w K mg base (L2.CX P w) "check_rung" ["ladder", "value"] 2 (XSp (R_ckR er))) (h_check_ladder : Has P w K mg base (L2.CX P w) "check_ladder" ["value"] 4 (XSp (R_ckL er))) : Has P w K mg base (L2.CX P w) "visits" ["ladder", "rung", "other"] 7 (XSp (RX er [.L, .R, .I] (fun ds P _ => R_visits ds P))) := by
  refine has_pureX F sc_visits (by walk_at "lenX") fun f cdv A outer s H E hr => ⟨_, (pss_cons (ps_expr (pe_hX h_check_ladder hr (by decide) (by rfl) (takes_of rfl rfl rfl rfl) (pa_cons (pv 0) pa_nil)))
        (pss_cons (ps_expr (pe_hX h_check_rung hr (by decide) (by rfl) (takes_of rfl rfl rfl rfl) (pa_cons (pv 0) (pa_cons (pv 1) pa_nil))))
        (pss_cons (ps_expr (pe_hX h_check_inner hr (by decide) (by rfl) (takes_of rfl rfl rfl rfl) (pa_cons (pv 0) (pa_cons (pv 2) pa_nil))))
        (pss_cons (ps_nox (ps_asg (pe_ix (ixS (K := K) rfl) (pv 0) (pe_op op_sub (pv 2) pe_int) (fun _ _ => rfl)) (pg_tupK (K := K) (n := 2) rfl rfl (pgs_cons (pg_name (i := 3) sc_visits.nd rfl (by first | exact Or.inl rfl | exact Or.inr rfl)) (pgs_cons (pg_name (i := 4) sc_visits.nd rfl (by first | exact Or.inl rfl | exact Or.inr rfl)) pgs_nil)))))
        (pss_cons (ps_nox (ps_set (i := 5) sc_visits.nd rfl (by first | exact Or.inl rfl | exact Or.inr rfl) (pe_h h_plus hr (by decide) (by rfl) (pa_cons (pe_h h_times_of hr (by decide) (by rfl) (pa_cons (pv 3) (pa_cons (pe_h h_minus hr (by decide) (by rfl) (pa_cons (pe_tup (pa_cons pe_int (pa_cons pe_int pa_nil))) (pa_cons (pe_h h_ever_of hr (by decide) (by rfl) (pa_cons (pv 0) (pa_cons (pe_op op_plus (pv 2) pe_int) (pa_cons (pv 2) pa_nil)))) pa_nil))) pa_nil))) (pa_cons (pe_h h_times_of hr (by decide) (by rfl) (pa_cons (pv 4) (pa_cons (pe_h h_minus hr (by decide) (by rfl) (pa_cons (pe_tup (pa_cons pe_int (pa_cons pe_int pa_nil))) (pa_cons (pe_h h_ever_of hr (by decide) (by rfl) (pa_cons (pv 0) (pa_cons (pe_op op_sub (pv 2) pe_int) (pa_cons (pv 2) pa_nil)))) pa_nil))) pa_nil))) pa_nil)))))
        (pss_one (ps_nox (ps_ret (pe_h h_divided hr (by decide) (by rfl) (pa_cons (pe_h h_ever_of hr (by decide) (by rfl) (pa_cons (pv 0) (pa_cons (pv 1) (pa_cons (pv 2) pa_nil)))) (pa_cons (pv 5) pa_nil))))))))))), ?_⟩
  rintro ds Q Z ⟨hl0, qe, q0⟩
  obtain ⟨a0, a1, a2, rfl⟩ := len3 hl0
  walk_at "xs"
  refine S_ckL (fun k0 => ?_) (fun k0 => qe _ (f1_bad (k := .L) k0))
  walk_at "xs"
  refine S_ckR k0 (fun k1 => ?_) (fun k1 => qe _ ((f1_ok (k := .L) k0).trans (f1_bad (k := .R) k1)))
  walk_at "xs"
  refine S_ckI k0 (fun k2 => ?_) (fun k2 => qe _ ((f1_ok (k := .L) k0).trans ((f1_ok (k := .R) k1).trans (f1_bad (k := .I) k2))))
  obtain ⟨L, r, o, hds, hok, h, h1, h2, h3, h4, q⟩ := q0 ((f1_ok (k := .L) k0).trans ((f1_ok (k := .R) k1).trans ((f1_ok (k := .I) k2).trans f1_nil)))
  cases hds
  have lw := h.lw
  obtain ⟨r, rfl⟩ := Int.eq_ofNat_of_zero_le h1
  obtain ⟨s, rfl⟩ : ∃ s : Nat, o = ((s + 1 : Nat) : Int) := ⟨(o - 1).toNat, by omega⟩
  rw [Int.toNat_natCast, Int.toNat_natCast] at q
  have hy : L[s]? = some L[s] := List.getElem?_eq_getElem (by omega)
  generalize L[s] = x at hy
  obtain ⟨g1, g2, g3, g4⟩ := lw.sh x (List.mem_of_getElem? hy)
  have b1 := h.evBd (r := s + 2) (o := s + 1) (by omega) (by omega)
  have b2 := h.evBd (r := s) (o := s + 1) (by omega) (by omega)
  walk_at "xs"
  refine rp_ixL (at_map (j := s) (by omega) hy) ?_
  walk_at "xs"
  refine S_ever_of h (by omega) (by omega) (by omega) (by omega) ?_
  rw [show (((s + 1 : Nat) : Int) + 1).toNat = s + 2 by omega, Int.toNat_natCast]
  walk_at "xs"
  refine S_sub Bd.one b1 (by decide) ?_
  walk_at "xs"
  refine S_mul g3 (Bd.one.sub b1) (by decide) ?_
  walk_at "xs"
  refine S_ever_of h (by omega) (by omega) (by omega) (by omega) ?_
  rw [show (((s + 1 : Nat) : Int) - 1).toNat = s by omega, Int.toNat_natCast]
  walk_at "xs"
  refine S_sub Bd.one b2 (by decide) ?_
  walk_at "xs"
  refine S_mul g4 (Bd.one.sub b2) (by decide) ?_
  walk_at "xs"
  refine S_add (g3.mul (Bd.one.sub b1)) (g4.mul (Bd.one.sub b2)) (by decide) ?_
  rw [← lvL_eq hy]
  walk_at "xs"
  refine S_ever_of h (by omega) (by omega) (by omega) (by omega) ?_
  rw [Int.toNat_natCast, Int.toNat_natCast]
  walk_at "xs"
  refine S_div (lvL_pos lw hy) (h.evBd (by omega) (by omega)) (h.lvBd (by omega) (by omega)) (by decide) ?_
  exact q
theorem has_ever_at (F : DefIn K mg "ever_at" s_ever_at ["ladder", "rung", "other"]) (h_ever_of : Has P w K mg base CX0 "ever_of" ["ladder", "rung", "other"] 6 (PSp R_ever_of)) (h_check_rung : Has P w K mg base (L2.CX P w) "check_rung" ["ladder", "value"] 2 (XSp (R_ckR er))) (h_check_ladder : Has P w K mg base (L2.CX P w) "check_ladder" ["value"] 4 (XSp (R_ckL er))) : Has P w K mg base (L2.CX P w) "ever_at" ["ladder", "rung", "other"] 7 (XSp (RX er [.L, .R, .R] (fun ds P _ => R_ever_at ds P))) := by
  refine has_pureX F sc_ever_at (by walk_at "lenX") fun f cdv A outer s H E hr => ⟨_, (pss_cons (ps_expr (pe_hX h_check_ladder hr (by decide) (by rfl) (takes_of rfl rfl rfl rfl) (pa_cons (pv 0) pa_nil)))
        (pss_cons (ps_expr (pe_hX h_check_rung hr (by decide) (by rfl) (takes_of rfl rfl rfl rfl) (pa_cons (pv 0) (pa_cons (pv 1) pa_nil))))
        (pss_cons (ps_expr (pe_hX h_check_rung hr (by decide) (by rfl) (takes_of rfl rfl rfl rfl) (pa_cons (pv 0) (pa_cons (pv 2) pa_nil))))
        (pss_one (ps_nox (ps_ret (pe_h h_ever_of hr (by decide) (by rfl) (pa_cons (pv 0) (pa_cons (pv 1) (pa_cons (pv 2) pa_nil)))))))))), ?_⟩
  rintro ds Q Z ⟨hl0, qe, q0⟩
  obtain ⟨a0, a1, a2, rfl⟩ := len3 hl0
  walk_at "xs"
  refine S_ckL (fun k0 => ?_) (fun k0 => qe _ (f1_bad (k := .L) k0))
  walk_at "xs"
  refine S_ckR k0 (fun k1 => ?_) (fun k1 => qe _ ((f1_ok (k := .L) k0).trans (f1_bad (k := .R) k1)))
  walk_at "xs"
  refine S_ckR k0 (fun k2 => ?_) (fun k2 => qe _ ((f1_ok (k := .L) k0).trans ((f1_ok (k := .R) k1).trans (f1_bad (k := .R) k2))))
  obtain ⟨L, r, o, hds, hok, h, h1, h2, h3, h4, q⟩ := q0 ((f1_ok (k := .L) k0).trans ((f1_ok (k := .R) k1).trans ((f1_ok (k := .R) k2).trans f1_nil)))
  cases hds
  walk_at "xs"
  exact S_ever_of h h1 h2 h3 h4 q
theorem has_mean_steps (F : DefIn K mg "mean_steps" s_mean_steps ["ladder", "rung"]) (h_means_of : Has P w K mg base CX0 "means_of" ["ladder"] 5 (PSp R_means_of)) (h_check_rung : Has P w K mg base (L2.CX P w) "check_rung" ["ladder", "value"] 2 (XSp (R_ckR er))) (h_check_ladder : Has P w K mg base (L2.CX P w) "check_ladder" ["value"] 4 (XSp (R_ckL er))) : Has P w K mg base (L2.CX P w) "mean_steps" ["ladder", "rung"] 6 (XSp (RX er [.L, .R] (fun ds P _ => R_mean_steps ds P))) := by
  refine has_pureX F sc_mean_steps (by walk_at "lenX") fun f cdv A outer s H E hr => ⟨_, (pss_cons (ps_expr (pe_hX h_check_ladder hr (by decide) (by rfl) (takes_of rfl rfl rfl rfl) (pa_cons (pv 0) pa_nil)))
        (pss_cons (ps_expr (pe_hX h_check_rung hr (by decide) (by rfl) (takes_of rfl rfl rfl rfl) (pa_cons (pv 0) (pa_cons (pv 1) pa_nil))))
        (pss_one (ps_nox (ps_ret (pe_ix (ixS (K := K) rfl) (pe_h h_means_of hr (by decide) (by rfl) (pa_cons (pv 0) pa_nil)) (pv 1) (fun _ _ => rfl))))))), ?_⟩
  rintro ds Q Z ⟨hl0, qe, q0⟩
  obtain ⟨a0, a1, rfl⟩ := len2 hl0
  walk_at "xs"
  refine S_ckL (fun k0 => ?_) (fun k0 => qe _ (f1_bad (k := .L) k0))
  walk_at "xs"
  refine S_ckR k0 (fun k1 => ?_) (fun k1 => qe _ ((f1_ok (k := .L) k0).trans (f1_bad (k := .R) k1)))
  obtain ⟨L, r, hds, h, hz, h1, h2, q⟩ := q0 ((f1_ok (k := .L) k0).trans ((f1_ok (k := .R) k1).trans f1_nil))
  cases hds
  walk_at "xg"
  refine S_means_of hz ?_
  walk_at "xg"
  exact rp_ixL (at_mms (r := r.toNat) (by omega) (by omega)) q
theorem has_mean_end (F : DefIn K mg "mean_end" s_mean_end ["ladder", "rung"]) (h_times_of : Has P w K mg base CX0 "times_of" ["one", "other"] 3 (PSp R_mul)) (h_top_of : Has P w K mg base CX0 "top_of" ["ladder", "rung"] 6 (PSp R_top_of)) (h_check_rung : Has P w K mg base (L2.CX P w) "check_rung" ["ladder", "value"] 2 (XSp (R_ckR er))) (h_check_ladder : Has P w K mg base (L2.CX P w) "check_ladder" ["value"] 4 (XSp (R_ckL er))) (m_len : mg "len" = none) : Has P w K mg base (L2.CX P w) "mean_end" ["ladder", "rung"] 7 (XSp (RX er [.L, .R] (fun ds P _ => R_mean_end ds P))) := by
  refine has_pureX F sc_mean_end (by walk_at "lenX") fun f cdv A outer s H E hr => ⟨_, (pss_cons (ps_expr (pe_hX h_check_ladder hr (by decide) (by rfl) (takes_of rfl rfl rfl rfl) (pa_cons (pv 0) pa_nil)))
        (pss_cons (ps_expr (pe_hX h_check_rung hr (by decide) (by rfl) (takes_of rfl rfl rfl rfl) (pa_cons (pv 0) (pa_cons (pv 1) pa_nil))))
        (pss_one (ps_nox (ps_ret (pe_h h_times_of hr (by decide) (by rfl) (pa_cons (pe_tup (pa_cons (pe_op op_plus (pe_callB (cLen (K := K) rfl) (by rfl) m_len PySem.boot_len (pa_cons (pv 0) pa_nil)) pe_int) (pa_cons pe_int pa_nil))) (pa_cons (pe_h h_top_of hr (by decide) (by rfl) (pa_cons (pv 0) (pa_cons (pv 1) pa_nil))) pa_nil)))))))), ?_⟩
  rintro ds Q Z ⟨hl0, qe, q0⟩
  obtain ⟨a0, a1, rfl⟩ := len2 hl0
  walk_at "xs"
  refine S_ckL (fun k0 => ?_) (fun k0 => qe _ (f1_bad (k := .L) k0))
  walk_at "xs"
  refine S_ckR k0 (fun k1 => ?_) (fun k1 => qe _ ((f1_ok (k := .L) k0).trans (f1_bad (k := .R) k1)))
  obtain ⟨L, r, hds, h, h1, h2, q⟩ := q0 ((f1_ok (k := .L) k0).trans ((f1_ok (k := .R) k1).trans f1_nil))
  cases hds
  have e : PyData.tuple [.int ((L.length : Int) + 1), .int 1] = enc ((L.length + 1 : Int) : Rat) := rfl
  walk_at "xs"
  rw [e]
  walk_at "xs"
  refine S_top_of h.lw h1 h2 ?_
  walk_at "xs"
  refine S_mul (n := 4) ⟨?_, ?_⟩ (hB_bd h.lw _) (by decide) q
  · have := h.le
    show ((L.length : Int) + 1).natAbs < 16
    omega
  · show 1 < 16; decide
theorem has_bottom_chance (F : DefIn K mg "bottom_chance" s_bottom_chance ["ladder", "rung"]) (h_minus : Has P w K mg base CX0 "minus" ["one", "other"] 3 (PSp R_sub)) (h_top_of : Has P w K mg base CX0 "top_of" ["ladder", "rung"] 6 (PSp R_top_of)) (h_check_rung : Has P w K mg base (L2.CX P w) "check_rung" ["ladder", "value"] 2 (XSp (R_ckR er))) (h_check_ladder : Has P w K mg base (L2.CX P w) "check_ladder" ["value"] 4 (XSp (R_ckL er))) : Has P w K mg base (L2.CX P w) "bottom_chance" ["ladder", "rung"] 7 (XSp (RX er [.L, .R] (fun ds P _ => R_bottom_chance ds P))) := by
  refine has_pureX F sc_bottom_chance (by walk_at "lenX") fun f cdv A outer s H E hr => ⟨_, (pss_cons (ps_expr (pe_hX h_check_ladder hr (by decide) (by rfl) (takes_of rfl rfl rfl rfl) (pa_cons (pv 0) pa_nil)))
        (pss_cons (ps_expr (pe_hX h_check_rung hr (by decide) (by rfl) (takes_of rfl rfl rfl rfl) (pa_cons (pv 0) (pa_cons (pv 1) pa_nil))))
        (pss_one (ps_nox (ps_ret (pe_h h_minus hr (by decide) (by rfl) (pa_cons (pe_tup (pa_cons pe_int (pa_cons pe_int pa_nil))) (pa_cons (pe_h h_top_of hr (by decide) (by rfl) (pa_cons (pv 0) (pa_cons (pv 1) pa_nil))) pa_nil)))))))), ?_⟩
  rintro ds Q Z ⟨hl0, qe, q0⟩
  obtain ⟨a0, a1, rfl⟩ := len2 hl0
  walk_at "xs"
  refine S_ckL (fun k0 => ?_) (fun k0 => qe _ (f1_bad (k := .L) k0))
  walk_at "xs"
  refine S_ckR k0 (fun k1 => ?_) (fun k1 => qe _ ((f1_ok (k := .L) k0).trans (f1_bad (k := .R) k1)))
  obtain ⟨L, r, hds, h, h1, h2, q⟩ := q0 ((f1_ok (k := .L) k0).trans ((f1_ok (k := .R) k1).trans f1_nil))
  cases hds
  walk_at "xs"
  refine S_top_of h.lw h1 h2 ?_
  walk_at "xs"
  exact S_sub Bd.one (hB_bd h.lw _) (by decide) q
theorem has_top_chance (F : DefIn K mg "top_chance" s_top_chance ["ladder", "rung"]) (h_top_of : Has P w K mg base CX0 "top_of" ["ladder", "rung"] 6 (PSp R_top_of)) (h_check_rung : Has P w K mg base (L2.CX P w) "check_rung" ["ladder", "value"] 2 (XSp (R_ckR er))) (h_check_ladder : Has P w K mg base (L2.CX P w) "check_ladder" ["value"] 4 (XSp (R_ckL er))) : Has P w K mg base (L2.CX P w) "top_chance" ["ladder", "rung"] 7 (XSp (RX er [.L, .R] (fun ds P _ => R_top_chance ds P))) := by
  refine has_pureX F sc_top_chance (by walk_at "lenX") fun f cdv A outer s H E hr => ⟨_, (pss_cons (ps_expr (pe_hX h_check_ladder hr (by decide) (by rfl) (takes_of rfl rfl rfl rfl) (pa_cons (pv 0) pa_nil)))
        (pss_cons (ps_expr (pe_hX h_check_rung hr (by decide) (by rfl) (takes_of rfl rfl rfl rfl) (pa_cons (pv 0) (pa_cons (pv 1) pa_nil))))
        (pss_one (ps_nox (ps_ret (pe_h h_top_of hr (by decide) (by rfl) (pa_cons (pv 0) (pa_cons (pv 1) pa_nil)))))))), ?_⟩
  rintro ds Q Z ⟨hl0, qe, q0⟩
  obtain ⟨a0, a1, rfl⟩ := len2 hl0
  walk_at "xs"
  refine S_ckL (fun k0 => ?_) (fun k0 => qe _ (f1_bad (k := .L) k0))
  walk_at "xs"
  refine S_ckR k0 (fun k1 => ?_) (fun k1 => qe _ ((f1_ok (k := .L) k0).trans (f1_bad (k := .R) k1)))
  obtain ⟨L, r, hds, h, h1, h2, q⟩ := q0 ((f1_ok (k := .L) k0).trans ((f1_ok (k := .R) k1).trans f1_nil))
  cases hds
  walk_at "xs"
  exact S_top_of h.lw h1 h2 q
theorem has_law_runged (F : DefIn K mg "_law_runged" s_law_runged ["which", "ladder", "rung", "many"]) (h_first_by : Has P w K mg base (L2.CX P w) "first_by" ["ladder", "rung", "share"] 6 (XSp (RX er [.L, .R, .S] (fun ds P _ => R_first_by ds P)))) (h_top_after : Has P w K mg base (L2.CX P w) "top_after" ["ladder", "rung", "many", "other"] 7 (XSp (RX er [.L, .R, .N, .R] (R_top_after er)))) (h_after_given_top : Has P w K mg base (L2.CX P w) "after_given_top" ["ladder", "rung", "many"] 7 (XSp (RX er [.L, .R, .N] (R_after_given_top er)))) (h_likeliest : Has P w K mg base (L2.CX P w) "likeliest" ["ladder", "rung", "many"] 6 (XSp (RX er [.L, .R, .N] (fun ds P _ => R_likeliest ds P)))) (h_top_at : Has P w K mg base (L2.CX P w) "top_at" ["ladder", "rung", "many"] 6 (XSp (RX er [.L, .R, .N] (fun ds P _ => R_top_at ds P)))) (h_ends_at : Has P w K mg base (L2.CX P w) "ends_at" ["ladder", "rung", "many"] 6 (XSp (RX er [.L, .R, .N] (fun ds P _ => R_ends_at ds P)))) (h_ended_by : Has P w K mg base (L2.CX P w) "ended_by" ["ladder", "rung", "many"] 6 (XSp (RX er [.L, .R, .N] (fun ds P _ => R_ended_by ds P)))) (h_after : Has P w K mg base (L2.CX P w) "after" ["ladder", "rung", "many"] 6 (XSp (RX er [.L, .R, .N] (fun ds P _ => R_after ds P)))) (h_Walker_init__ : HasM P w K mg base (L2.CX P w) wc "__init__" ["self", "ladder", "rung"] 5 (NSp wc (R_initX er))) (h_visits : Has P w K mg base (L2.CX P w) "visits" ["ladder", "rung", "other"] 7 (XSp (RX er [.L, .R, .I] (fun ds P _ => R_visits ds P)))) (h_ever_at : Has P w K mg base (L2.CX P w) "ever_at" ["ladder", "rung", "other"] 7 (XSp (RX er [.L, .R, .R] (fun ds P _ => R_ever_at ds P)))) (h_mean_steps : Has P w K mg base (L2.CX P w) "mean_steps" ["ladder", "rung"] 6 (XSp (RX er [.L, .R] (fun ds P _ => R_mean_steps ds P)))) (h_mean_end : Has P w K mg base (L2.CX P w) "mean_end" ["ladder", "rung"] 7 (XSp (RX er [.L, .R] (fun ds P _ => R_mean_end ds P)))) (h_bottom_chance : Has P w K mg base (L2.CX P w) "bottom_chance" ["ladder", "rung"] 7 (XSp (RX er [.L, .R] (fun ds P _ => R_bottom_chance ds P)))) (h_top_chance : Has P w K mg base (L2.CX P w) "top_chance" ["ladder", "rung"] 7 (XSp (RX er [.L, .R] (fun ds P _ => R_top_chance ds P)))) (T : WTxt K mg wc) : Has P w K mg base (L2.CX P w) "_law_runged" ["which", "ladder", "rung", "many"] 8 (XVSp (R_law_run er)) := by
  refine has_pureXV F sc_law_runged (by walk_at "lenX") fun f cdv A outer s H E hr => ⟨_, (pss_cons (ps_if (PT.nox (pt_cmpR (opEq (K := K) rfl hr.units) (pv 0) pe_int (nomark _)))
        (pss_one (ps_ret (pe_hX h_top_chance hr (by decide) (by rfl) (takes_of rfl rfl rfl rfl) (pa_cons (pv 1) (pa_cons (pv 2) pa_nil)))))
        pss_nil)
        (pss_cons (ps_if (PT.nox (pt_cmpR (opEq (K := K) rfl hr.units) (pv 0) pe_int (nomark _)))
        (pss_one (ps_ret (pe_hX h_bottom_chance hr (by decide) (by rfl) (takes_of rfl rfl rfl rfl) (pa_cons (pv 1) (pa_cons (pv 2) pa_nil)))))
        pss_nil)
        (pss_cons (ps_if (PT.nox (pt_cmpR (opEq (K := K) rfl hr.units) (pv 0) pe_int (nomark _)))
        (pss_one (ps_ret (pe_hX h_mean_end hr (by decide) (by rfl) (takes_of rfl rfl rfl rfl) (pa_cons (pv 1) (pa_cons (pv 2) pa_nil)))))
        pss_nil)
        (pss_cons (ps_if (PT.nox (pt_cmpR (opEq (K := K) rfl hr.units) (pv 0) pe_int (nomark _)))
        (pss_one (ps_ret (pe_hX h_mean_steps hr (by decide) (by rfl) (takes_of rfl rfl rfl rfl) (pa_cons (pv 1) (pa_cons (pv 2) pa_nil)))))
        pss_nil)
        (pss_cons (ps_if (PT.nox (pt_cmpR (opEq (K := K) rfl hr.units) (pv 0) pe_int (nomark _)))
        (pss_one (ps_ret (pe_hX h_ever_at hr (by decide) (by rfl) (takes_of rfl rfl rfl rfl) (pa_cons (pv 1) (pa_cons (pv 2) (pa_cons pe_int pa_nil))))))
        pss_nil)
        (pss_cons (ps_if (PT.nox (pt_cmpR (opEq (K := K) rfl hr.units) (pv 0) pe_int (nomark _)))
        (pss_one (ps_ret (pe_hX h_ever_at hr (by decide) (by rfl) (takes_of rfl rfl rfl rfl) (pa_cons (pv 1) (pa_cons pe_int (pa_cons (pv 2) pa_nil))))))
        pss_nil)
        (pss_cons (ps_if (PT.nox (pt_cmpR (opEq (K := K) rfl hr.units) (pv 0) pe_int (nomark _)))
        (pss_one (ps_ret (pe_hX h_visits hr (by decide) (by rfl) (takes_of rfl rfl rfl rfl) (pa_cons (pv 1) (pa_cons (pv 2) (pa_cons pe_int pa_nil))))))
        pss_nil)
        (pss_cons (ps_if (PT.nox (pt_cmpR (opEq (K := K) rfl hr.units) (pv 0) pe_int (nomark _)))
        (pss_one (ps_ret (pe_mkX h_Walker_init__ T hr (by decide) (by rfl) (takes_of rfl rfl rfl rfl) (pa_cons (pv 1) (pa_cons (pv 2) pa_nil)))))
        pss_nil)
        (pss_cons (ps_if (PT.nox (pt_cmpR (opEq (K := K) rfl hr.units) (pv 0) pe_int (nomark _)))
        (pss_one (ps_ret (pe_hX h_after hr (by decide) (by rfl) (takes_of rfl rfl rfl rfl) (pa_cons (pv 1) (pa_cons (pv 2) (pa_cons (pv 3) pa_nil))))))
        pss_nil)
        (pss_cons (ps_if (PT.nox (pt_cmpR (opEq (K := K) rfl hr.units) (pv 0) pe_int (nomark _)))
        (pss_one (ps_ret (pe_hX h_ended_by hr (by decide) (by rfl) (takes_of rfl rfl rfl rfl) (pa_cons (pv 1) (pa_cons (pv 2) (pa_cons (pv 3) pa_nil))))))
        pss_nil)
        (pss_cons (ps_if (PT.nox (pt_cmpR (opEq (K := K) rfl hr.units) (pv 0) pe_int (nomark _)))
        (pss_one (ps_ret (pe_hX h_ends_at hr (by decide) (by rfl) (takes_of rfl rfl rfl rfl) (pa_cons (pv 1) (pa_cons (pv 2) (pa_cons (pv 3) pa_nil))))))
        pss_nil)
        (pss_cons (ps_if (PT.nox (pt_cmpR (opEq (K := K) rfl hr.units) (pv 0) pe_int (nomark _)))
        (pss_one (ps_ret (pe_hX h_top_at hr (by decide) (by rfl) (takes_of rfl rfl rfl rfl) (pa_cons (pv 1) (pa_cons (pv 2) (pa_cons (pv 3) pa_nil))))))
        pss_nil)
        (pss_cons (ps_if (PT.nox (pt_cmpR (opEq (K := K) rfl hr.units) (pv 0) pe_int (nomark _)))
        (pss_one (ps_ret (pe_hX h_likeliest hr (by decide) (by rfl) (takes_of rfl rfl rfl rfl) (pa_cons (pv 1) (pa_cons (pv 2) (pa_cons (pv 3) pa_nil))))))
        pss_nil)
        (pss_cons (ps_if (PT.nox (pt_cmpR (opEq (K := K) rfl hr.units) (pv 0) pe_int (nomark _)))
        (pss_one (ps_ret (pe_hX h_after_given_top hr (by decide) (by rfl) (takes_of rfl rfl rfl rfl) (pa_cons (pv 1) (pa_cons (pv 2) (pa_cons (pv 3) pa_nil))))))
        pss_nil)
        (pss_cons (ps_if (PT.nox (pt_cmpR (opEq (K := K) rfl hr.units) (pv 0) pe_int (nomark _)))
        (pss_one (ps_ret (pe_hX h_top_after hr (by decide) (by rfl) (takes_of rfl rfl rfl rfl) (pa_cons (pv 1) (pa_cons (pv 2) (pa_cons (pv 3) (pa_cons pe_int pa_nil)))))))
        pss_nil)
        (pss_one (ps_ret (pe_hX h_first_by hr (by decide) (by rfl) (takes_of rfl rfl rfl rfl) (pa_cons (pv 1) (pa_cons (pv 2) (pa_cons (pv 3) pa_nil))))))))))))))))))))), ?_⟩
  rintro ds Q Z ⟨k, d, r, n, j, rfl, o, q, qz⟩
  cases o with
  | lad h0 h15 h =>
    refine dsv_seqIf ?_
    walk_at "xg"
    refine iteD (fun e0 => ?_) (fun e0 => ?_)
    · refine dsv_ret ?_
      walk_at "xg"
      exact S_RXe rfl (f1_badL h) (qz 0 rfl)
    refine dsv_seqIf ?_
    walk_at "xg"
    refine iteD (fun e1 => ?_) (fun e1 => ?_)
    · refine dsv_ret ?_
      walk_at "xg"
      exact S_RXe rfl (f1_badL h) (qz 0 rfl)
    refine dsv_seqIf ?_
    walk_at "xg"
    refine iteD (fun e2 => ?_) (fun e2 => ?_)
    · refine dsv_ret ?_
      walk_at "xg"
      exact S_RXe rfl (f1_badL h) (qz 0 rfl)
    refine dsv_seqIf ?_
    walk_at "xg"
    refine iteD (fun e3 => ?_) (fun e3 => ?_)
    · refine dsv_ret ?_
      walk_at "xg"
      exact S_RXe rfl (f1_badL h) (qz 0 rfl)
    refine dsv_seqIf ?_
    walk_at "xg"
    refine iteD (fun e4 => ?_) (fun e4 => ?_)
    · refine dsv_ret ?_
      walk_at "xg"
      exact S_RXe rfl (f1_badL h) (qz 0 rfl)
    refine dsv_seqIf ?_
    walk_at "xg"
    refine iteD (fun e5 => ?_) (fun e5 => ?_)
    · refine dsv_ret ?_
      walk_at "xg"
      exact S_RXe rfl (f1_badL h) (qz 0 rfl)
    refine dsv_seqIf ?_
    walk_at "xg"
    refine iteD (fun e6 => ?_) (fun e6 => ?_)
    · refine dsv_ret ?_
      walk_at "xg"
      exact S_RXe rfl (f1_badL h) (qz 0 rfl)
    refine dsv_seqIf ?_
    walk_at "xg"
    refine iteD (fun e7 => ?_) (fun e7 => ?_)
    · refine dsv_mk ?_
      walk_at "xg"
      exact S_initXe rfl (f1_badL h) (qz 0 rfl)
    refine dsv_seqIf ?_
    walk_at "xg"
    refine iteD (fun e8 => ?_) (fun e8 => ?_)
    · refine dsv_ret ?_
      walk_at "xg"
      exact S_RXe rfl (f1_badL h) (qz 0 rfl)
    refine dsv_seqIf ?_
    walk_at "xg"
    refine iteD (fun e9 => ?_) (fun e9 => ?_)
    · refine dsv_ret ?_
      walk_at "xg"
      exact S_RXe rfl (f1_badL h) (qz 0 rfl)
    refine dsv_seqIf ?_
    walk_at "xg"
    refine iteD (fun e10 => ?_) (fun e10 => ?_)
    · refine dsv_ret ?_
      walk_at "xg"
      exact S_RXe rfl (f1_badL h) (qz 0 rfl)
    refine dsv_seqIf ?_
    walk_at "xg"
    refine iteD (fun e11 => ?_) (fun e11 => ?_)
    · refine dsv_ret ?_
      walk_at "xg"
      exact S_RXe rfl (f1_badL h) (qz 0 rfl)
    refine dsv_seqIf ?_
    walk_at "xg"
    refine iteD (fun e12 => ?_) (fun e12 => ?_)
    · refine dsv_ret ?_
      walk_at "xg"
      exact S_RXe rfl (f1_badL h) (qz 0 rfl)
    refine dsv_seqIf ?_
    walk_at "xg"
    refine iteD (fun e13 => ?_) (fun e13 => ?_)
    · refine dsv_ret ?_
      walk_at "xg"
      exact S_RXe rfl (f1_badL h) (qz 0 rfl)
    refine dsv_seqIf ?_
    walk_at "xg"
    refine iteD (fun e14 => ?_) (fun e14 => ?_)
    · refine dsv_ret ?_
      walk_at "xg"
      exact S_RXe rfl (f1_badL h) (qz 0 rfl)
    refine dsv_ret ?_
    walk_at "xg"
    exact S_RXe rfl (f1_badL h) (qz 0 rfl)
  | rung h0 h15 h hr =>
    have h1 : isIntIn (.int 1) 0 (lnD d + 1) = true := by
      obtain ⟨xs, rfl, _⟩ := lad_list h
      exact isInt_t (by decide) (by show (1 : Int) ≤ (xs.length : Int) + 1; omega)
    refine dsv_seqIf ?_
    walk_at "xg"
    refine iteD (fun e0 => ?_) (fun e0 => ?_)
    · refine dsv_ret ?_
      walk_at "xg"
      exact S_RXe rfl ((f1_okL h).trans (f1_badR hr)) (qz 1 rfl)
    refine dsv_seqIf ?_
    walk_at "xg"
    refine iteD (fun e1 => ?_) (fun e1 => ?_)
    · refine dsv_ret ?_
      walk_at "xg"
      exact S_RXe rfl ((f1_okL h).trans (f1_badR hr)) (qz 1 rfl)
    refine dsv_seqIf ?_
    walk_at "xg"
    refine iteD (fun e2 => ?_) (fun e2 => ?_)
    · refine dsv_ret ?_
      walk_at "xg"
      exact S_RXe rfl ((f1_okL h).trans (f1_badR hr)) (qz 1 rfl)
    refine dsv_seqIf ?_
    walk_at "xg"
    refine iteD (fun e3 => ?_) (fun e3 => ?_)
    · refine dsv_ret ?_
      walk_at "xg"
      exact S_RXe rfl ((f1_okL h).trans (f1_badR hr)) (qz 1 rfl)
    refine dsv_seqIf ?_
    walk_at "xg"
    refine iteD (fun e4 => ?_) (fun e4 => ?_)
    · refine dsv_ret ?_
      walk_at "xg"
      exact S_RXe rfl ((f1_okL h).trans (f1_badR hr)) (qz 1 rfl)
    refine dsv_seqIf ?_
    walk_at "xg"
    refine iteD (fun e5 => ?_) (fun e5 => ?_)
    · refine dsv_ret ?_
      walk_at "xg"
      exact S_RXe rfl ((f1_okL h).trans ((f1_okR h1).trans (f1_badR hr))) (qz 1 rfl)
    refine dsv_seqIf ?_
    walk_at "xg"
    refine iteD (fun e6 => ?_) (fun e6 => ?_)
    · refine dsv_ret ?_
      walk_at "xg"
      exact S_RXe rfl ((f1_okL h).trans (f1_badR hr)) (qz 1 rfl)
    refine dsv_seqIf ?_
    walk_at "xg"
    refine iteD (fun e7 => ?_) (fun e7 => ?_)
    · refine dsv_mk ?_
      walk_at "xg"
      exact S_initXe rfl ((f1_okL h).trans (f1_badR hr)) (qz 1 rfl)
    refine dsv_seqIf ?_
    walk_at "xg"
    refine iteD (fun e8 => ?_) (fun e8 => ?_)
    · refine dsv_ret ?_
      walk_at "xg"
      exact S_RXe rfl ((f1_okL h).trans (f1_badR hr)) (qz 1 rfl)
    refine dsv_seqIf ?_
    walk_at "xg"
    refine iteD (fun e9 => ?_) (fun e9 => ?_)
    · refine dsv_ret ?_
      walk_at "xg"
      exact S_RXe rfl ((f1_okL h).trans (f1_badR hr)) (qz 1 rfl)
    refine dsv_seqIf ?_
    walk_at "xg"
    refine iteD (fun e10 => ?_) (fun e10 => ?_)
    · refine dsv_ret ?_
      walk_at "xg"
      exact S_RXe rfl ((f1_okL h).trans (f1_badR hr)) (qz 1 rfl)
    refine dsv_seqIf ?_
    walk_at "xg"
    refine iteD (fun e11 => ?_) (fun e11 => ?_)
    · refine dsv_ret ?_
      walk_at "xg"
      exact S_RXe rfl ((f1_okL h).trans (f1_badR hr)) (qz 1 rfl)
    refine dsv_seqIf ?_
    walk_at "xg"
    refine iteD (fun e12 => ?_) (fun e12 => ?_)
    · refine dsv_ret ?_
      walk_at "xg"
      exact S_RXe rfl ((f1_okL h).trans (f1_badR hr)) (qz 1 rfl)
    refine dsv_seqIf ?_
    walk_at "xg"
    refine iteD (fun e13 => ?_) (fun e13 => ?_)
    · refine dsv_ret ?_
      walk_at "xg"
      exact S_RXe rfl ((f1_okL h).trans (f1_badR hr)) (qz 1 rfl)
    refine dsv_seqIf ?_
    walk_at "xg"
    refine iteD (fun e14 => ?_) (fun e14 => ?_)
    · refine dsv_ret ?_
      walk_at "xg"
      exact S_RXe rfl ((f1_okL h).trans (f1_badR hr)) (qz 1 rfl)
    refine dsv_ret ?_
    walk_at "xg"
    exact S_RXe rfl ((f1_okL h).trans (f1_badR hr)) (qz 1 rfl)
  | many h0 h14 h hr hn =>
    refine dsv_seqIf ?_
    walk_at "xg"
    refine iteD (fun e0 => ?_) (fun e0 => ?_)
    · exact absurd e0 (by omega)
    refine dsv_seqIf ?_
    walk_at "xg"
    refine iteD (fun e1 => ?_) (fun e1 => ?_)
    · exact absurd e1 (by omega)
    refine dsv_seqIf ?_
    walk_at "xg"
    refine iteD (fun e2 => ?_) (fun e2 => ?_)
    · exact absurd e2 (by omega)
    refine dsv_seqIf ?_
    walk_at "xg"
    refine iteD (fun e3 => ?_) (fun e3 => ?_)
    · exact absurd e3 (by omega)
    refine dsv_seqIf ?_
    walk_at "xg"
    refine iteD (fun e4 => ?_) (fun e4 => ?_)
    · exact absurd e4 (by omega)
    refine dsv_seqIf ?_
    walk_at "xg"
    refine iteD (fun e5 => ?_) (fun e5 => ?_)
    · exact absurd e5 (by omega)
    refine dsv_seqIf ?_
    walk_at "xg"
    refine iteD (fun e6 => ?_) (fun e6 => ?_)
    · exact absurd e6 (by omega)
    refine dsv_seqIf ?_
    walk_at "xg"
    refine iteD (fun e7 => ?_) (fun e7 => ?_)
    · refine dsv_mk ?_
      walk_at "xg"
      exact absurd e7 (by omega)
    refine dsv_seqIf ?_
    walk_at "xg"
    refine iteD (fun e8 => ?_) (fun e8 => ?_)
    · refine dsv_ret ?_
      walk_at "xg"
      exact S_RXe rfl ((f1_okL h).trans ((f1_okR hr).trans (f1_badN hn))) (qz 3 rfl)
    refine dsv_seqIf ?_
    walk_at "xg"
    refine iteD (fun e9 => ?_) (fun e9 => ?_)
    · refine dsv_ret ?_
      walk_at "xg"
      exact S_RXe rfl ((f1_okL h).trans ((f1_okR hr).trans (f1_badN hn))) (qz 3 rfl)
    refine dsv_seqIf ?_
    walk_at "xg"
    refine iteD (fun e10 => ?_) (fun e10 => ?_)
    · refine dsv_ret ?_
      walk_at "xg"
      exact S_RXe rfl ((f1_okL h).trans ((f1_okR hr).trans (f1_badN hn))) (qz 3 rfl)
    refine dsv_seqIf ?_
    walk_at "xg"
    refine iteD (fun e11 => ?_) (fun e11 => ?_)
    · refine dsv_ret ?_
      walk_at "xg"
      exact S_RXe rfl ((f1_okL h).trans ((f1_okR hr).trans (f1_badN hn))) (qz 3 rfl)
    refine dsv_seqIf ?_
    walk_at "xg"
    refine iteD (fun e12 => ?_) (fun e12 => ?_)
    · refine dsv_ret ?_
      walk_at "xg"
      exact S_RXe rfl ((f1_okL h).trans ((f1_okR hr).trans (f1_badN hn))) (qz 3 rfl)
    refine dsv_seqIf ?_
    walk_at "xg"
    refine iteD (fun e13 => ?_) (fun e13 => ?_)
    · refine dsv_ret ?_
      walk_at "xg"
      exact S_RXe rfl ((f1_okL h).trans ((f1_okR hr).trans (f1_badN hn))) (qz 3 rfl)
    refine dsv_seqIf ?_
    walk_at "xg"
    refine iteD (fun e14 => ?_) (fun e14 => ?_)
    · refine dsv_ret ?_
      walk_at "xg"
      exact S_RXe rfl ((f1_okL h).trans ((f1_okR hr).trans (f1_badN hn))) (qz 3 rfl)
    exfalso; omega
  | share h15 h hr hn =>
    refine dsv_seqIf ?_
    walk_at "xg"
    refine iteD (fun e0 => ?_) (fun e0 => ?_)
    · exact absurd e0 (by omega)
    refine dsv_seqIf ?_
    walk_at "xg"
    refine iteD (fun e1 => ?_) (fun e1 => ?_)
    · exact absurd e1 (by omega)
    refine dsv_seqIf ?_
    walk_at "xg"
    refine iteD (fun e2 => ?_) (fun e2 => ?_)
    · exact absurd e2 (by omega)
    refine dsv_seqIf ?_
    walk_at "xg"
    refine iteD (fun e3 => ?_) (fun e3 => ?_)
    · exact absurd e3 (by omega)
    refine dsv_seqIf ?_
    walk_at "xg"
    refine iteD (fun e4 => ?_) (fun e4 => ?_)
    · exact absurd e4 (by omega)
    refine dsv_seqIf ?_
    walk_at "xg"
    refine iteD (fun e5 => ?_) (fun e5 => ?_)
    · exact absurd e5 (by omega)
    refine dsv_seqIf ?_
    walk_at "xg"
    refine iteD (fun e6 => ?_) (fun e6 => ?_)
    · exact absurd e6 (by omega)
    refine dsv_seqIf ?_
    walk_at "xg"
    refine iteD (fun e7 => ?_) (fun e7 => ?_)
    · refine dsv_mk ?_
      walk_at "xg"
      exact absurd e7 (by omega)
    refine dsv_seqIf ?_
    walk_at "xg"
    refine iteD (fun e8 => ?_) (fun e8 => ?_)
    · exact absurd e8 (by omega)
    refine dsv_seqIf ?_
    walk_at "xg"
    refine iteD (fun e9 => ?_) (fun e9 => ?_)
    · exact absurd e9 (by omega)
    refine dsv_seqIf ?_
    walk_at "xg"
    refine iteD (fun e10 => ?_) (fun e10 => ?_)
    · exact absurd e10 (by omega)
    refine dsv_seqIf ?_
    walk_at "xg"
    refine iteD (fun e11 => ?_) (fun e11 => ?_)
    · exact absurd e11 (by omega)
    refine dsv_seqIf ?_
    walk_at "xg"
    refine iteD (fun e12 => ?_) (fun e12 => ?_)
    · exact absurd e12 (by omega)
    refine dsv_seqIf ?_
    walk_at "xg"
    refine iteD (fun e13 => ?_) (fun e13 => ?_)
    · exact absurd e13 (by omega)
    refine dsv_seqIf ?_
    walk_at "xg"
    refine iteD (fun e14 => ?_) (fun e14 => ?_)
    · exact absurd e14 (by omega)
    refine dsv_ret ?_
    walk_at "xg"
    exact S_RXe rfl ((f1_okL h).trans ((f1_okR hr).trans (f1_badS hn))) (qz 2 rfl)
  | done h0 h13 L i t e g er h1 h2 en h3 h4 h5 =>
    subst e
    subst er
    subst en
    have ok := g.ok
    have hz := g.sz
    have hge := g.gl.ge
    have tm : Tm L i t 12 230 := g.gl.tm g.le h1 h2 h3 h4
    have hR : isIntIn (.int i) 0 (lnD (encL L) + 1) = true := by rw [ln_enc]; exact isInt_t h1 h2
    have hR1 : isIntIn (.int 1) 0 (lnD (encL L) + 1) = true := by rw [ln_enc]; exact isInt_t (by decide) (by omega)
    have hI1 : isIntIn (.int 1) 1 (lnD (encL L)) = true := by rw [ln_enc]; exact isInt_t (by decide) (by omega)
    have hN : isIntIn (.int t) 0 60 = true := isInt_t h3 h4
    refine dsv_seqIf ?_
    walk_at "xg"
    refine iteD (fun e0 => ?_) (fun e0 => ?_)
    · refine dsv_ret ?_
      walk_at "xg"
      exact S_RXo rfl ((f1_okL g.is).trans ((f1_okR hR).trans f1_nil)) (S_top_chance ok h1 h2 (q rfl))
    refine dsv_seqIf ?_
    walk_at "xg"
    refine iteD (fun e1 => ?_) (fun e1 => ?_)
    · refine dsv_ret ?_
      walk_at "xg"
      exact S_RXo rfl ((f1_okL g.is).trans ((f1_okR hR).trans f1_nil)) (S_bottom_chance ok h1 h2 (q rfl))
    refine dsv_seqIf ?_
    walk_at "xg"
    refine iteD (fun e2 => ?_) (fun e2 => ?_)
    · refine dsv_ret ?_
      walk_at "xg"
      exact S_RXo rfl ((f1_okL g.is).trans ((f1_okR hR).trans f1_nil)) (S_mean_end ok h1 h2 (q rfl))
    refine dsv_seqIf ?_
    walk_at "xg"
    refine iteD (fun e3 => ?_) (fun e3 => ?_)
    · refine dsv_ret ?_
      walk_at "xg"
      exact S_RXo rfl ((f1_okL g.is).trans ((f1_okR hR).trans f1_nil)) (S_mean_steps ok hz h1 h2 (q rfl))
    refine dsv_seqIf ?_
    walk_at "xg"
    refine iteD (fun e4 => ?_) (fun e4 => ?_)
    · refine dsv_ret ?_
      walk_at "xg"
      exact S_RXo rfl ((f1_okL g.is).trans ((f1_okR hR).trans ((f1_okR hR1).trans f1_nil))) (S_ever_at ok hz h1 h2 (by decide) (by omega) (q rfl))
    refine dsv_seqIf ?_
    walk_at "xg"
    refine iteD (fun e5 => ?_) (fun e5 => ?_)
    · refine dsv_ret ?_
      walk_at "xg"
      exact S_RXo rfl ((f1_okL g.is).trans ((f1_okR hR1).trans ((f1_okR hR).trans f1_nil))) (S_ever_at ok hz (by decide) (by omega) h1 h2 (q rfl))
    refine dsv_seqIf ?_
    walk_at "xg"
    refine iteD (fun e6 => ?_) (fun e6 => ?_)
    · refine dsv_ret ?_
      walk_at "xg"
      exact S_RXo rfl ((f1_okL g.is).trans ((f1_okR hR).trans ((f1_okI hI1).trans f1_nil))) (S_visits ok hz h1 h2 (by decide) (by omega) (q rfl))
    refine dsv_seqIf ?_
    walk_at "xg"
    refine iteD (fun e7 => ?_) (fun e7 => ?_)
    · refine dsv_mk ?_
      walk_at "xg"
      exact S_initXo rfl ((f1_okL g.is).trans ((f1_okR hR).trans f1_nil)) (q rfl)
    refine dsv_seqIf ?_
    walk_at "xg"
    refine iteD (fun e8 => ?_) (fun e8 => ?_)
    · refine dsv_ret ?_
      walk_at "xg"
      exact S_RXo rfl ((f1_okL g.is).trans ((f1_okR hR).trans ((f1_okN hN).trans f1_nil))) (S_after ok h1 h2 h3 h4 g.gl.ld (by decide) (k := 230) tm.hk (by decide) (q rfl))
    refine dsv_seqIf ?_
    walk_at "xg"
    refine iteD (fun e9 => ?_) (fun e9 => ?_)
    · refine dsv_ret ?_
      walk_at "xg"
      exact S_RXo rfl ((f1_okL g.is).trans ((f1_okR hR).trans ((f1_okN hN).trans f1_nil))) (S_ended_by tm (q rfl))
    refine dsv_seqIf ?_
    walk_at "xg"
    refine iteD (fun e10 => ?_) (fun e10 => ?_)
    · refine dsv_ret ?_
      walk_at "xg"
      exact S_RXo rfl ((f1_okL g.is).trans ((f1_okR hR).trans ((f1_okN hN).trans f1_nil))) (S_ends_at tm (q rfl))
    refine dsv_seqIf ?_
    walk_at "xg"
    refine iteD (fun e11 => ?_) (fun e11 => ?_)
    · refine dsv_ret ?_
      walk_at "xg"
      exact S_RXo rfl ((f1_okL g.is).trans ((f1_okR hR).trans ((f1_okN hN).trans f1_nil))) (S_top_at tm (q rfl))
    refine dsv_seqIf ?_
    walk_at "xg"
    refine iteD (fun e12 => ?_) (fun e12 => ?_)
    · refine dsv_ret ?_
      walk_at "xg"
      exact S_RXo rfl ((f1_okL g.is).trans ((f1_okR hR).trans ((f1_okN hN).trans f1_nil))) (S_likeliest tm (q rfl))
    refine dsv_seqIf ?_
    walk_at "xg"
    refine iteD (fun e13 => ?_) (fun e13 => ?_)
    · refine dsv_ret ?_
      walk_at "xg"
      exact S_RXo rfl ((f1_okL g.is).trans ((f1_okR hR).trans ((f1_okN hN).trans f1_nil))) (S_after_given_top tm hz (fun _ => q rfl) (fun z => absurd z (h5 e13)))
    refine dsv_seqIf ?_
    walk_at "xg"
    refine iteD (fun e14 => ?_) (fun e14 => ?_)
    · exact absurd e14 (by omega)
    exfalso; omega
  | none hk L t e g er en h3 h4 =>
    subst e
    subst er
    subst en
    have tm : Tm L 0 t 12 230 := g.gl.tm g.le (by decide) (by omega) h3 h4
    have hR : isIntIn (.int 0) 0 (lnD (encL L) + 1) = true := by rw [ln_enc]; exact isInt_t (by decide) (by omega)
    have hN : isIntIn (.int t) 0 60 = true := isInt_t h3 h4
    refine dsv_seqIf ?_
    walk_at "xg"
    refine iteD (fun e0 => ?_) (fun e0 => ?_)
    · exact absurd e0 (by omega)
    refine dsv_seqIf ?_
    walk_at "xg"
    refine iteD (fun e1 => ?_) (fun e1 => ?_)
    · exact absurd e1 (by omega)
    refine dsv_seqIf ?_
    walk_at "xg"
    refine iteD (fun e2 => ?_) (fun e2 => ?_)
    · exact absurd e2 (by omega)
    refine dsv_seqIf ?_
    walk_at "xg"
    refine iteD (fun e3 => ?_) (fun e3 => ?_)
    · exact absurd e3 (by omega)
    refine dsv_seqIf ?_
    walk_at "xg"
    refine iteD (fun e4 => ?_) (fun e4 => ?_)
    · exact absurd e4 (by omega)
    refine dsv_seqIf ?_
    walk_at "xg"
    refine iteD (fun e5 => ?_) (fun e5 => ?_)
    · exact absurd e5 (by omega)
    refine dsv_seqIf ?_
    walk_at "xg"
    refine iteD (fun e6 => ?_) (fun e6 => ?_)
    · exact absurd e6 (by omega)
    refine dsv_seqIf ?_
    walk_at "xg"
    refine iteD (fun e7 => ?_) (fun e7 => ?_)
    · refine dsv_mk ?_
      walk_at "xg"
      exact absurd e7 (by omega)
    refine dsv_seqIf ?_
    walk_at "xg"
    refine iteD (fun e8 => ?_) (fun e8 => ?_)
    · exact absurd e8 (by omega)
    refine dsv_seqIf ?_
    walk_at "xg"
    refine iteD (fun e9 => ?_) (fun e9 => ?_)
    · exact absurd e9 (by omega)
    refine dsv_seqIf ?_
    walk_at "xg"
    refine iteD (fun e10 => ?_) (fun e10 => ?_)
    · exact absurd e10 (by omega)
    refine dsv_seqIf ?_
    walk_at "xg"
    refine iteD (fun e11 => ?_) (fun e11 => ?_)
    · exact absurd e11 (by omega)
    refine dsv_seqIf ?_
    walk_at "xg"
    refine iteD (fun e12 => ?_) (fun e12 => ?_)
    · exact absurd e12 (by omega)
    refine dsv_seqIf ?_
    walk_at "xg"
    refine iteD (fun e13 => ?_) (fun e13 => ?_)
    · refine dsv_ret ?_
      walk_at "xg"
      exact S_RXo rfl ((f1_okL g.is).trans ((f1_okR hR).trans ((f1_okN hN).trans f1_nil))) (S_after_given_top tm g.sz (fun z => absurd rfl z) (fun _ => qz 5 rfl))
    refine dsv_seqIf ?_
    walk_at "xg"
    refine iteD (fun e14 => ?_) (fun e14 => ?_)
    · exact absurd e14 (by omega)
    exfalso; omega
  | by_ hk L i u e g er h1 h2 en hu =>
    subst e
    subst er
    subst en
    have hR : isIntIn (.int i) 0 (lnD (encL L) + 1) = true := by rw [ln_enc]; exact isInt_t h1 h2
    refine dsv_seqIf ?_
    walk_at "xg"
    refine iteD (fun e0 => ?_) (fun e0 => ?_)
    · exact absurd e0 (by omega)
    refine dsv_seqIf ?_
    walk_at "xg"
    refine iteD (fun e1 => ?_) (fun e1 => ?_)
    · exact absurd e1 (by omega)
    refine dsv_seqIf ?_
    walk_at "xg"
    refine iteD (fun e2 => ?_) (fun e2 => ?_)
    · exact absurd e2 (by omega)
    refine dsv_seqIf ?_
    walk_at "xg"
    refine iteD (fun e3 => ?_) (fun e3 => ?_)
    · exact absurd e3 (by omega)
    refine dsv_seqIf ?_
    walk_at "xg"
    refine iteD (fun e4 => ?_) (fun e4 => ?_)
    · exact absurd e4 (by omega)
    refine dsv_seqIf ?_
    walk_at "xg"
    refine iteD (fun e5 => ?_) (fun e5 => ?_)
    · exact absurd e5 (by omega)
    refine dsv_seqIf ?_
    walk_at "xg"
    refine iteD (fun e6 => ?_) (fun e6 => ?_)
    · exact absurd e6 (by omega)
    refine dsv_seqIf ?_
    walk_at "xg"
    refine iteD (fun e7 => ?_) (fun e7 => ?_)
    · refine dsv_mk ?_
      walk_at "xg"
      exact absurd e7 (by omega)
    refine dsv_seqIf ?_
    walk_at "xg"
    refine iteD (fun e8 => ?_) (fun e8 => ?_)
    · exact absurd e8 (by omega)
    refine dsv_seqIf ?_
    walk_at "xg"
    refine iteD (fun e9 => ?_) (fun e9 => ?_)
    · exact absurd e9 (by omega)
    refine dsv_seqIf ?_
    walk_at "xg"
    refine iteD (fun e10 => ?_) (fun e10 => ?_)
    · exact absurd e10 (by omega)
    refine dsv_seqIf ?_
    walk_at "xg"
    refine iteD (fun e11 => ?_) (fun e11 => ?_)
    · exact absurd e11 (by omega)
    refine dsv_seqIf ?_
    walk_at "xg"
    refine iteD (fun e12 => ?_) (fun e12 => ?_)
    · exact absurd e12 (by omega)
    refine dsv_seqIf ?_
    walk_at "xg"
    refine iteD (fun e13 => ?_) (fun e13 => ?_)
    · exact absurd e13 (by omega)
    refine dsv_seqIf ?_
    walk_at "xg"
    refine iteD (fun e14 => ?_) (fun e14 => ?_)
    · exact absurd e14 (by omega)
    refine dsv_ret ?_
    walk_at "xg"
    exact S_RXo rfl ((f1_okL g.is).trans ((f1_okR hR).trans ((f1_okS (share_enc hu)).trans f1_nil))) (S_first_by (E := 12) (k := 300) g.ok h1 h2 hu g.gl.ld (by decide) (by decide +kernel) (by decide) (fun _ _ _ _ => q rfl) (fun _ => q rfl))
theorem has_with_rung (F : DefIn K mg "with_rung" s_with_rung ["ladder", "rung", "up", "down"]) (h_checked : Has P w K mg base (L2.CX P w) "checked" ["ladder"] 4 (XSp (R_ckC er))) (h_check_share : Has P w K mg base (L2.CX P w) "check_share" ["value"] 3 (XSp (R_ckS er))) (h_is_int : Has P w K mg base CX0 "is_int" ["value", "low", "high"] 1 (PSp R_is_int)) (h_check_ladder : Has P w K mg base (L2.CX P w) "check_ladder" ["value"] 4 (XSp (R_ckL er))) (m_len : mg "len" = none) (r_BadRung : RTxt K mg "BadRung" er.br) : Has P w K mg base (L2.CX P w) "with_rung" ["ladder", "rung", "up", "down"] 5 (XSp (RX er [.L, .W, .S, .S] (R_with_rungX er))) := by
  refine has_pureX F sc_with_rung (by walk_at "lenX") fun f cdv A outer s H E hr => ⟨_, (pss_cons (ps_expr (pe_hX h_check_ladder hr (by decide) (by rfl) (takes_of rfl rfl rfl rfl) (pa_cons (pv 0) pa_nil)))
        (pss_cons (ps_if (PT.nox (pt_not (pt_val (pe_h h_is_int hr (by decide) (by rfl) (pa_cons (pv 1) (pa_cons pe_int (pa_cons (pe_op op_plus (pe_callB (cLen (K := K) rfl) (by rfl) m_len PySem.boot_len (pa_cons (pv 0) pa_nil)) pe_int) pa_nil)))))))
        (pss_one (ps_rz (K := K) rfl rfl r_BadRung (takes_of rfl rfl rfl rfl) (by rfl)))
        pss_nil)
        (pss_cons (ps_expr (pe_hX h_check_share hr (by decide) (by rfl) (takes_of rfl rfl rfl rfl) (pa_cons (pv 2) pa_nil)))
        (pss_cons (ps_expr (pe_hX h_check_share hr (by decide) (by rfl) (takes_of rfl rfl rfl rfl) (pa_cons (pv 3) pa_nil)))
        (pss_one (ps_ret (pe_hX h_checked hr (by decide) (by rfl) (takes_of rfl rfl rfl rfl) (pa_cons (pe_op op_plus (pe_op op_plus (pe_slice (slL (K := K) rfl) (pv 0) po_none (po_some (pe_op op_sub (pv 1) pe_int))) (pe_lst (pa_cons (pe_tup (pa_cons (pv 2) (pa_cons (pv 3) pa_nil))) pa_nil))) (pe_slice (slL (K := K) rfl) (pv 0) (po_some (pe_op op_sub (pv 1) pe_int)) po_none)) pa_nil)))))))), ?_⟩
  rintro ds Q Z ⟨hl0, qe, q0⟩
  obtain ⟨a0, a1, a2, a3, rfl⟩ := len4 hl0
  walk_at "xs"
  refine S_ckL (fun k0 => ?_) (fun k0 => qe _ (f1_bad (k := .L) k0))
  obtain ⟨xs, rfl, hx8⟩ := lad_list k0
  have k0 : ckOk (.list xs) .L (.list xs) = true := k0
  walk_at "xs"
  by_cases k1 : isIntIn a1 1 (lnD (.list xs) + 1) = true
  case neg =>
    rw [Bool.not_eq_true] at k1
    rw [show isIntIn a1 1 ((xs.length : Int) + 1) = false from k1]
    have k1 : ckOk (.list xs) .W a1 = false := k1
    walk_at "xs"
    exact ds_rz (qe _ ((f1_ok k0).trans (f1_bad k1)))
  rw [show isIntIn a1 1 ((xs.length : Int) + 1) = true from k1]
  have k1 : ckOk (.list xs) .W a1 = true := k1
  walk_at "xs"
  refine S_ckS (fun k2 => ?_) (fun k2 => qe _ ((f1_ok k0).trans ((f1_ok k1).trans (f1_bad (k := .S) k2))))
  walk_at "xs"
  refine S_ckS (fun k3 => ?_) (fun k3 => qe _ ((f1_ok k0).trans ((f1_ok k1).trans ((f1_ok (k := .S) k2).trans (f1_bad (k := .S) k3)))))
  obtain ⟨L, i, y, hds, h, hi, hy, q, qz⟩ := q0 ((f1_ok k0).trans ((f1_ok k1).trans ((f1_ok (k := .S) k2).trans ((f1_ok (k := .S) k3).trans f1_nil))))
  cases hds
  have h8 := h.le
  walk_at "xs"
  rw [show 1 + (i : Int) - 1 = (i : Int) by omega, cutD_to, ← List.map_take]
  refine rp_plusL (by rw [List.length_map, List.length_take]; show _ + 1 ≤ _; omega) ?_
  walk_at "xs"
  rw [show 1 + (i : Int) - 1 = (i : Int) by omega, cutD_from, ← List.map_drop]
  refine rp_plusL (by rw [List.length_append, List.length_map, List.length_map, List.length_take, List.length_drop]; show _ + 1 + _ ≤ _; omega) ?_
  walk_at "xs"
  have e : (L.take i).map encR ++ [PyData.tuple [enc y.1, enc y.2]] ++ (L.drop i).map encR = (moreL L i y).map encR := by
    unfold moreL
    rw [List.map_append, List.map_append]; rfl
  rw [e]
  by_cases hl : L.length < 8
  · exact S_ckCx (.inl ⟨moreL_ok h hy hi hl, q hl⟩)
  · exact S_ckCx (.inr ⟨.inr (by rw [moreL_len hi]; omega), qz (by omega)⟩)
theorem has_slower (F : DefIn K mg "slower" s_slower ["ladder", "rung", "share"]) (h_checked : Has P w K mg base (L2.CX P w) "checked" ["ladder"] 4 (XSp (R_ckC er))) (h_times_of : Has P w K mg base CX0 "times_of" ["one", "other"] 3 (PSp R_mul)) (h_check_share : Has P w K mg base (L2.CX P w) "check_share" ["value"] 3 (XSp (R_ckS er))) (h_check_inner : Has P w K mg base (L2.CX P w) "check_inner" ["ladder", "value"] 2 (XSp (R_ckI er))) (h_check_ladder : Has P w K mg base (L2.CX P w) "check_ladder" ["value"] 4 (XSp (R_ckL er))) : Has P w K mg base (L2.CX P w) "slower" ["ladder", "rung", "share"] 5 (XSp (RX er [.L, .I, .S] (fun ds P _ => R_slower ds P))) := by
  refine has_pureX F sc_slower (by walk_at "lenX") fun f cdv A outer s H E hr => ⟨_, (pss_cons (ps_expr (pe_hX h_check_ladder hr (by decide) (by rfl) (takes_of rfl rfl rfl rfl) (pa_cons (pv 0) pa_nil)))
        (pss_cons (ps_expr (pe_hX h_check_inner hr (by decide) (by rfl) (takes_of rfl rfl rfl rfl) (pa_cons (pv 0) (pa_cons (pv 1) pa_nil))))
        (pss_cons (ps_expr (pe_hX h_check_share hr (by decide) (by rfl) (takes_of rfl rfl rfl rfl) (pa_cons (pv 2) pa_nil)))
        (pss_cons (ps_nox (ps_asg (pe_ix (ixS (K := K) rfl) (pv 0) (pe_op op_sub (pv 1) pe_int) (fun _ _ => rfl)) (pg_tupK (K := K) (n := 2) rfl rfl (pgs_cons (pg_name (i := 3) sc_slower.nd rfl (by first | exact Or.inl rfl | exact Or.inr rfl)) (pgs_cons (pg_name (i := 4) sc_slower.nd rfl (by first | exact Or.inl rfl | exact Or.inr rfl)) pgs_nil)))))
        (pss_cons (ps_nox (ps_set (i := 5) sc_slower.nd rfl (by first | exact Or.inl rfl | exact Or.inr rfl) (pe_tup (pa_cons (pe_h h_times_of hr (by decide) (by rfl) (pa_cons (pv 3) (pa_cons (pv 2) pa_nil))) (pa_cons (pe_h h_times_of hr (by decide) (by rfl) (pa_cons (pv 4) (pa_cons (pv 2) pa_nil))) pa_nil)))))
        (pss_one (ps_ret (pe_hX h_checked hr (by decide) (by rfl) (takes_of rfl rfl rfl rfl) (pa_cons (pe_op op_plus (pe_op op_plus (pe_slice (slL (K := K) rfl) (pv 0) po_none (po_some (pe_op op_sub (pv 1) pe_int))) (pe_lst (pa_cons (pv 5) pa_nil))) (pe_slice (slL (K := K) rfl) (pv 0) (po_some (pv 1)) po_none)) pa_nil))))))))), ?_⟩
  rintro ds Q Z ⟨hl0, qe, q0⟩
  obtain ⟨a0, a1, a2, rfl⟩ := len3 hl0
  walk_at "xs"
  refine S_ckL (fun k0 => ?_) (fun k0 => qe _ (f1_bad (k := .L) k0))
  walk_at "xs"
  refine S_ckI k0 (fun k1 => ?_) (fun k1 => qe _ ((f1_ok (k := .L) k0).trans (f1_bad (k := .I) k1)))
  walk_at "xs"
  refine S_ckS (fun k2 => ?_) (fun k2 => qe _ ((f1_ok (k := .L) k0).trans ((f1_ok (k := .I) k1).trans (f1_bad (k := .S) k2))))
  obtain ⟨L, r, s, hds, h, h1, h2, hs, h3, q⟩ := q0 ((f1_ok (k := .L) k0).trans ((f1_ok (k := .I) k1).trans ((f1_ok (k := .S) k2).trans f1_nil)))
  cases hds
  have h8 := h.le
  obtain ⟨k, rfl⟩ : ∃ k : Nat, r = ((k + 1 : Nat) : Int) := ⟨(r - 1).toNat, by omega⟩
  rw [Int.toNat_natCast, Nat.add_sub_cancel] at h3 q
  have hy : L[k]? = some L[k] := List.getElem?_eq_getElem (by omega)
  generalize L[k] = x at hy
  obtain ⟨g1, g2, g3, g4⟩ := h.lw.sh x (List.mem_of_getElem? hy)
  walk_at "xs"
  refine rp_ixL (at_map (j := k) (by omega) hy) ?_
  walk_at "xs"
  refine S_mul g3 hs.bd (by decide) ?_
  walk_at "xs"
  refine S_mul g4 hs.bd (by decide) ?_
  walk_at "xs"
  rw [show ((k + 1 : Nat) : Int) - 1 = (k : Int) by omega, cutD_to, ← List.map_take]
  refine rp_plusL (by rw [List.length_map, List.length_take]; show _ + 1 ≤ _; omega) ?_
  walk_at "xs"
  rw [cutD_from, ← List.map_drop]
  refine rp_plusL (by rw [List.length_append, List.length_map, List.length_map, List.length_take, List.length_drop]; show _ + 1 + _ ≤ _; omega) ?_
  walk_at "xs"
  have e : (L.take k).map encR ++ [encR (x.1 * s, x.2 * s)] ++ (L.drop (k + 1)).map encR = (slowL L k s).map encR := by
    unfold slowL
    rw [← modify_eq hy, List.map_append, List.map_append]; rfl
  rw [e]
  exact S_ckCx (.inl ⟨h3, q⟩)
theorem has_without_rung (F : DefIn K mg "without_rung" s_without_rung ["ladder", "rung"]) (h_checked : Has P w K mg base (L2.CX P w) "checked" ["ladder"] 4 (XSp (R_ckC er))) (h_check_inner : Has P w K mg base (L2.CX P w) "check_inner" ["ladder", "value"] 2 (XSp (R_ckI er))) (h_check_ladder : Has P w K mg base (L2.CX P w) "check_ladder" ["value"] 4 (XSp (R_ckL er))) : Has P w K mg base (L2.CX P w) "without_rung" ["ladder", "rung"] 5 (XSp (RX er [.L, .I] (R_without_rungX er))) := by
  refine has_pureX F sc_without_rung (by walk_at "lenX") fun f cdv A outer s H E hr => ⟨_, (pss_cons (ps_expr (pe_hX h_check_ladder hr (by decide) (by rfl) (takes_of rfl rfl rfl rfl) (pa_cons (pv 0) pa_nil)))
        (pss_cons (ps_expr (pe_hX h_check_inner hr (by decide) (by rfl) (takes_of rfl rfl rfl rfl) (pa_cons (pv 0) (pa_cons (pv 1) pa_nil))))
        (pss_one (ps_ret (pe_hX h_checked hr (by decide) (by rfl) (takes_of rfl rfl rfl rfl) (pa_cons (pe_op op_plus (pe_slice (slL (K := K) rfl) (pv 0) po_none (po_some (pe_op op_sub (pv 1) pe_int))) (pe_slice (slL (K := K) rfl) (pv 0) (po_some (pv 1)) po_none)) pa_nil)))))), ?_⟩
  rintro ds Q Z ⟨hl0, qe, q0⟩
  obtain ⟨a0, a1, rfl⟩ := len2 hl0
  walk_at "xs"
  refine S_ckL (fun k0 => ?_) (fun k0 => qe _ (f1_bad (k := .L) k0))
  walk_at "xs"
  refine S_ckI k0 (fun k1 => ?_) (fun k1 => qe _ ((f1_ok (k := .L) k0).trans (f1_bad (k := .I) k1)))
  obtain ⟨L, i, hds, h, hi, q, qz⟩ := q0 ((f1_ok (k := .L) k0).trans ((f1_ok (k := .I) k1).trans f1_nil))
  cases hds
  have h8 := h.le
  walk_at "xs"
  rw [show 1 + (i : Int) - 1 = (i : Int) by omega, cutD_to, ← List.map_take]
  walk_at "xs"
  rw [show 1 + (i : Int) = ((i + 1 : Nat) : Int) by omega, cutD_from, ← List.map_drop]
  refine rp_plusL (by rw [List.length_map, List.length_map, List.length_take, List.length_drop]; omega) ?_
  walk_at "xs"
  have e : (L.take i).map encR ++ (L.drop (i + 1)).map encR = (lessL L i).map encR := by
    unfold lessL
    rw [List.map_append]
  rw [e]
  by_cases hl : 1 < L.length
  · exact S_ckCx (.inl ⟨lessL_ok h hi hl, q hl⟩)
  · exact S_ckCx (.inr ⟨.inl (by have := lessL_len hi; omega), qz (by omega)⟩)
theorem has_stays_given_top (F : DefIn K mg "stays_given_top" s_stays_given_top ["ladder", "rung"]) (h_minus : Has P w K mg base CX0 "minus" ["one", "other"] 3 (PSp R_sub)) (h_given_of : Has P w K mg base CX0 "given_of" ["ladder", "rung", "high"] 7 (PSp R_given_of)) (h_check_inner : Has P w K mg base (L2.CX P w) "check_inner" ["ladder", "value"] 2 (XSp (R_ckI er))) (h_check_ladder : Has P w K mg base (L2.CX P w) "check_ladder" ["value"] 4 (XSp (R_ckL er))) : Has P w K mg base (L2.CX P w) "stays_given_top" ["ladder", "rung"] 8 (XSp (RX er [.L, .I] (fun ds P _ => R_stays_given_top ds P))) := by
  refine has_pureX F sc_stays_given_top (by walk_at "lenX") fun f cdv A outer s H E hr => ⟨_, (pss_cons (ps_expr (pe_hX h_check_ladder hr (by decide) (by rfl) (takes_of rfl rfl rfl rfl) (pa_cons (pv 0) pa_nil)))
        (pss_cons (ps_expr (pe_hX h_check_inner hr (by decide) (by rfl) (takes_of rfl rfl rfl rfl) (pa_cons (pv 0) (pa_cons (pv 1) pa_nil))))
        (pss_cons (ps_nox (ps_asg (pe_h h_given_of hr (by decide) (by rfl) (pa_cons (pv 0) (pa_cons (pv 1) (pa_cons pe_bl pa_nil)))) (pg_tupK (K := K) (n := 2) rfl rfl (pgs_cons (pg_name (i := 2) sc_stays_given_top.nd rfl (by first | exact Or.inl rfl | exact Or.inr rfl)) (pgs_cons (pg_name (i := 3) sc_stays_given_top.nd rfl (by first | exact Or.inl rfl | exact Or.inr rfl)) pgs_nil)))))
        (pss_one (ps_nox (ps_ret (pe_h h_minus hr (by decide) (by rfl) (pa_cons (pe_h h_minus hr (by decide) (by rfl) (pa_cons (pe_tup (pa_cons pe_int (pa_cons pe_int pa_nil))) (pa_cons (pv 2) pa_nil))) (pa_cons (pv 3) pa_nil))))))))), ?_⟩
  rintro ds Q Z ⟨hl0, qe, q0⟩
  obtain ⟨a0, a1, rfl⟩ := len2 hl0
  walk_at "xs"
  refine S_ckL (fun k0 => ?_) (fun k0 => qe _ (f1_bad (k := .L) k0))
  walk_at "xs"
  refine S_ckI k0 (fun k1 => ?_) (fun k1 => qe _ ((f1_ok (k := .L) k0).trans (f1_bad (k := .I) k1)))
  obtain ⟨L, i, hds, h, hz, hl, q⟩ := q0 ((f1_ok (k := .L) k0).trans ((f1_ok (k := .I) k1).trans f1_nil))
  cases hds
  walk_at "xs"
  refine S_given_of hz hl ?_
  walk_at "xs"
  obtain ⟨b1, b2⟩ := hz.gvBd true hl
  refine S_sub Bd.one b1 (by decide) ?_
  walk_at "xs"
  refine S_sub (Bd.one.sub b1) b2 (by decide) ?_
  have e := gv_rest hz.lw true hl
  rw [restL_in hl] at q
  have e2 : 1 - (gvL L true i).1 - (gvL L true i).2 = 1 - ((L.getD i (0, 0)).1 + (L.getD i (0, 0)).2) := by rw [← e]; grind
  rw [e2]; exact q
theorem has_mean_stay (F : DefIn K mg "mean_stay" s_mean_stay ["ladder", "rung"]) (h_divided : Has P w K mg base CX0 "divided" ["one", "other"] 3 (PSp R_div)) (h_plus : Has P w K mg base CX0 "plus" ["one", "other"] 3 (PSp R_add)) (h_check_inner : Has P w K mg base (L2.CX P w) "check_inner" ["ladder", "value"] 2 (XSp (R_ckI er))) (h_check_ladder : Has P w K mg base (L2.CX P w) "check_ladder" ["value"] 4 (XSp (R_ckL er))) : Has P w K mg base (L2.CX P w) "mean_stay" ["ladder", "rung"] 5 (XSp (RX er [.L, .I] (fun ds P _ => R_mean_stay ds P))) := by
  refine has_pureX F sc_mean_stay (by walk_at "lenX") fun f cdv A outer s H E hr => ⟨_, (pss_cons (ps_expr (pe_hX h_check_ladder hr (by decide) (by rfl) (takes_of rfl rfl rfl rfl) (pa_cons (pv 0) pa_nil)))
        (pss_cons (ps_expr (pe_hX h_check_inner hr (by decide) (by rfl) (takes_of rfl rfl rfl rfl) (pa_cons (pv 0) (pa_cons (pv 1) pa_nil))))
        (pss_one (ps_nox (ps_ret (pe_h h_divided hr (by decide) (by rfl) (pa_cons (pe_tup (pa_cons pe_int (pa_cons pe_int pa_nil))) (pa_cons (pe_h h_plus hr (by decide) (by rfl) (pa_cons (pe_ix (ixS (K := K) rfl) (pe_ix (ixS (K := K) rfl) (pv 0) (pe_op op_sub (pv 1) pe_int) (fun _ _ => rfl)) pe_int (fun _ _ => rfl)) (pa_cons (pe_ix (ixS (K := K) rfl) (pe_ix (ixS (K := K) rfl) (pv 0) (pe_op op_sub (pv 1) pe_int) (fun _ _ => rfl)) pe_int (fun _ _ => rfl)) pa_nil))) pa_nil)))))))), ?_⟩
  rintro ds Q Z ⟨hl0, qe, q0⟩
  obtain ⟨a0, a1, rfl⟩ := len2 hl0
  walk_at "xs"
  refine S_ckL (fun k0 => ?_) (fun k0 => qe _ (f1_bad (k := .L) k0))
  walk_at "xs"
  refine S_ckI k0 (fun k1 => ?_) (fun k1 => qe _ ((f1_ok (k := .L) k0).trans (f1_bad (k := .I) k1)))
  obtain ⟨L, r, hds, h, h1, h2, q⟩ := q0 ((f1_ok (k := .L) k0).trans ((f1_ok (k := .I) k1).trans f1_nil))
  cases hds
  have hx : L[r.toNat - 1]? = some (L[r.toNat - 1]'(by omega)) := List.getElem?_eq_getElem (by omega)
  generalize L[r.toNat - 1]'(by omega) = x at hx
  obtain ⟨g1, g2, g3, g4⟩ := h.lw.sh x (List.mem_of_getElem? hx)
  walk_at "xg"
  refine rp_ixL (at_map (j := r.toNat - 1) (by omega) hx) ?_
  walk_at "xg"
  refine rp_ixL (at_map (j := r.toNat - 1) (by omega) hx) ?_
  walk_at "xg"
  refine S_add g3 g4 (by decide) ?_
  walk_at "xg"
  refine S_div (by grind) Bd.one (g3.add g4) (by decide) ?_
  unfold stayL at q
  rw [hx] at q
  exact q
theorem has_law_inner (F : DefIn K mg "_law_inner" s_law_inner ["which", "ladder", "rung", "share"]) (h_with_rung : Has P w K mg base (L2.CX P w) "with_rung" ["ladder", "rung", "up", "down"] 5 (XSp (RX er [.L, .W, .S, .S] (R_with_rungX er)))) (h_slower : Has P w K mg base (L2.CX P w) "slower" ["ladder", "rung", "share"] 5 (XSp (RX er [.L, .I, .S] (fun ds P _ => R_slower ds P)))) (h_without_rung : Has P w K mg base (L2.CX P w) "without_rung" ["ladder", "rung"] 5 (XSp (RX er [.L, .I] (R_without_rungX er)))) (h_stays_given_top : Has P w K mg base (L2.CX P w) "stays_given_top" ["ladder", "rung"] 8 (XSp (RX er [.L, .I] (fun ds P _ => R_stays_given_top ds P)))) (h_mean_stay : Has P w K mg base (L2.CX P w) "mean_stay" ["ladder", "rung"] 5 (XSp (RX er [.L, .I] (fun ds P _ => R_mean_stay ds P)))) (h_visits : Has P w K mg base (L2.CX P w) "visits" ["ladder", "rung", "other"] 7 (XSp (RX er [.L, .R, .I] (fun ds P _ => R_visits ds P)))) : Has P w K mg base (L2.CX P w) "_law_inner" ["which", "ladder", "rung", "share"] 9 (XSp (R_law_inn er)) := by
  refine has_pureX F sc_law_inner (by walk_at "lenX") fun f cdv A outer s H E hr => ⟨_, (pss_cons (ps_if (PT.nox (pt_cmpR (opEq (K := K) rfl hr.units) (pv 0) pe_int (nomark _)))
        (pss_one (ps_ret (pe_hX h_visits hr (by decide) (by rfl) (takes_of rfl rfl rfl rfl) (pa_cons (pv 1) (pa_cons pe_int (pa_cons (pv 2) pa_nil))))))
        pss_nil)
        (pss_cons (ps_if (PT.nox (pt_cmpR (opEq (K := K) rfl hr.units) (pv 0) pe_int (nomark _)))
        (pss_one (ps_ret (pe_hX h_mean_stay hr (by decide) (by rfl) (takes_of rfl rfl rfl rfl) (pa_cons (pv 1) (pa_cons (pv 2) pa_nil)))))
        pss_nil)
        (pss_cons (ps_if (PT.nox (pt_cmpR (opEq (K := K) rfl hr.units) (pv 0) pe_int (nomark _)))
        (pss_one (ps_ret (pe_hX h_stays_given_top hr (by decide) (by rfl) (takes_of rfl rfl rfl rfl) (pa_cons (pv 1) (pa_cons (pv 2) pa_nil)))))
        pss_nil)
        (pss_cons (ps_if (PT.nox (pt_cmpR (opEq (K := K) rfl hr.units) (pv 0) pe_int (nomark _)))
        (pss_one (ps_ret (pe_hX h_without_rung hr (by decide) (by rfl) (takes_of rfl rfl rfl rfl) (pa_cons (pv 1) (pa_cons (pv 2) pa_nil)))))
        pss_nil)
        (pss_cons (ps_if (PT.nox (pt_cmpR (opEq (K := K) rfl hr.units) (pv 0) pe_int (nomark _)))
        (pss_one (ps_ret (pe_hX h_slower hr (by decide) (by rfl) (takes_of rfl rfl rfl rfl) (pa_cons (pv 1) (pa_cons (pv 2) (pa_cons (pv 3) pa_nil))))))
        pss_nil)
        (pss_one (ps_ret (pe_ifExp (pt_cmpR (opEq (K := K) rfl hr.units) (pv 0) pe_int (nomark _)) (pe_hX h_with_rung hr (by decide) (by rfl) (takes_of rfl rfl rfl rfl) (pa_cons (pv 1) (pa_cons (pv 2) (pa_cons (pv 3) (pa_cons (pe_tup (pa_cons pe_int (pa_cons pe_int pa_nil))) pa_nil))))) (pe_hX h_with_rung hr (by decide) (by rfl) (takes_of rfl rfl rfl rfl) (pa_cons (pv 1) (pa_cons (pv 2) (pa_cons (pe_tup (pa_cons pe_int (pa_cons pe_int pa_nil))) (pa_cons (pv 3) pa_nil))))))))))))), ?_⟩
  rintro ds Q Z ⟨k, d, r, n, j, rfl, o, q, qz⟩
  cases o with
  | lad h0 h6 h =>
    walk_at "xs"
    refine iteD (fun e0 => ?_) (fun e0 => ?_)
    · walk_at "xs"
      exact S_RXe rfl (f1_badL h) (qz 0 rfl)
    walk_at "xs"
    refine iteD (fun e1 => ?_) (fun e1 => ?_)
    · walk_at "xs"
      exact S_RXe rfl (f1_badL h) (qz 0 rfl)
    walk_at "xs"
    refine iteD (fun e2 => ?_) (fun e2 => ?_)
    · walk_at "xs"
      exact S_RXe rfl (f1_badL h) (qz 0 rfl)
    walk_at "xs"
    refine iteD (fun e3 => ?_) (fun e3 => ?_)
    · walk_at "xs"
      exact S_RXe rfl (f1_badL h) (qz 0 rfl)
    walk_at "xs"
    refine iteD (fun e4 => ?_) (fun e4 => ?_)
    · walk_at "xs"
      exact S_RXe rfl (f1_badL h) (qz 0 rfl)
    walk_at "xs"
    refine iteD (fun e5 => ?_) (fun e5 => ?_)
    · walk_at "xs"
      exact S_RXe rfl (f1_badL h) (qz 0 rfl)
    · walk_at "xs"
      exact S_RXe rfl (f1_badL h) (qz 0 rfl)
  | rung h0 h6 h hr hw =>
    have h1 : isIntIn (.int 1) 0 (lnD d + 1) = true := by
      obtain ⟨xs, rfl, _⟩ := lad_list h
      exact isInt_t (by decide) (by show (1 : Int) ≤ (xs.length : Int) + 1; omega)
    walk_at "xs"
    refine iteD (fun e0 => ?_) (fun e0 => ?_)
    · walk_at "xs"
      exact S_RXe rfl ((f1_okL h).trans ((f1_okR h1).trans (f1_badI hr))) (qz 1 rfl)
    walk_at "xs"
    refine iteD (fun e1 => ?_) (fun e1 => ?_)
    · walk_at "xs"
      exact S_RXe rfl ((f1_okL h).trans (f1_badI hr)) (qz 1 rfl)
    walk_at "xs"
    refine iteD (fun e2 => ?_) (fun e2 => ?_)
    · walk_at "xs"
      exact S_RXe rfl ((f1_okL h).trans (f1_badI hr)) (qz 1 rfl)
    walk_at "xs"
    refine iteD (fun e3 => ?_) (fun e3 => ?_)
    · walk_at "xs"
      exact S_RXe rfl ((f1_okL h).trans (f1_badI hr)) (qz 1 rfl)
    walk_at "xs"
    refine iteD (fun e4 => ?_) (fun e4 => ?_)
    · walk_at "xs"
      exact S_RXe rfl ((f1_okL h).trans (f1_badI hr)) (qz 1 rfl)
    walk_at "xs"
    refine iteD (fun e5 => ?_) (fun e5 => ?_)
    · walk_at "xs"
      exact S_RXe rfl ((f1_okL h).trans (f1_badW (hw (by omega)))) (qz 1 rfl)
    · walk_at "xs"
      exact S_RXe rfl ((f1_okL h).trans (f1_badW (hw (by omega)))) (qz 1 rfl)
  | share h4 h6 h hr hw hn =>
    walk_at "xs"
    refine iteD (fun e0 => ?_) (fun e0 => ?_)
    · exact absurd e0 (by omega)
    walk_at "xs"
    refine iteD (fun e1 => ?_) (fun e1 => ?_)
    · exact absurd e1 (by omega)
    walk_at "xs"
    refine iteD (fun e2 => ?_) (fun e2 => ?_)
    · exact absurd e2 (by omega)
    walk_at "xs"
    refine iteD (fun e3 => ?_) (fun e3 => ?_)
    · exact absurd e3 (by omega)
    walk_at "xs"
    refine iteD (fun e4 => ?_) (fun e4 => ?_)
    · walk_at "xs"
      exact S_RXe rfl ((f1_okL h).trans ((f1_okI (hr e4)).trans (f1_badS hn))) (qz 2 rfl)
    walk_at "xs"
    refine iteD (fun e5 => ?_) (fun e5 => ?_)
    · walk_at "xs"
      exact S_RXe rfl ((f1_okL h).trans ((f1_okW hw).trans (f1_badS hn))) (qz 2 rfl)
    · walk_at "xs"
      rw [c1_2]
      exact S_RXe rfl ((f1_okL h).trans ((f1_okW hw).trans ((f1_okS (share_enc ex_sh.1)).trans (f1_badS hn)))) (qz 2 rfl)
  | done h0 h6 L e g hl hl7 er en =>
    subst e
    subst er
    subst en
    have ok := g.ok
    have hz := g.sz
    have hR1 : isIntIn (.int 1) 0 (lnD (encL L) + 1) = true := by rw [ln_enc]; exact isInt_t (by decide) (by omega)
    have hI1 : isIntIn (.int 1) 1 (lnD (encL L)) = true := by rw [ln_enc]; exact isInt_t (by decide) (by omega)
    have hW1 : isIntIn (.int 1) 1 (lnD (encL L) + 1) = true := by rw [ln_enc]; exact isInt_t (by decide) (by omega)
    walk_at "xs"
    refine iteD (fun e0 => ?_) (fun e0 => ?_)
    · walk_at "xs"
      exact S_RXo rfl ((f1_okL g.is).trans ((f1_okR hR1).trans ((f1_okI hI1).trans f1_nil))) (S_visits ok hz (by decide) (by omega) (by decide) (by omega) (q rfl _))
    walk_at "xs"
    refine iteD (fun e1 => ?_) (fun e1 => ?_)
    · walk_at "xs"
      exact S_RXo rfl ((f1_okL g.is).trans ((f1_okI hI1).trans f1_nil)) (S_mean_stay ok (by decide) (by omega) (q rfl _))
    walk_at "xs"
    refine iteD (fun e2 => ?_) (fun e2 => ?_)
    · walk_at "xs"
      exact S_RXo rfl ((f1_okL g.is).trans ((f1_okI hI1).trans f1_nil)) (S_stays_given_top (i := 0) ok hz (by omega) (q rfl _))
    walk_at "xs"
    refine iteD (fun e3 => ?_) (fun e3 => ?_)
    · walk_at "xs"
      exact S_RXo rfl ((f1_okL g.is).trans ((f1_okI hI1).trans f1_nil)) (S_without_rungX (i := 0) ok (by omega) (fun _ => q rfl _) (fun z => absurd z (by omega)))
    walk_at "xs"
    refine iteD (fun e4 => ?_) (fun e4 => ?_)
    · walk_at "xs"
      exact S_RXo rfl ((f1_okL g.is).trans ((f1_okI hI1).trans ((f1_okS (share_enc ex_sh.1)).trans f1_nil))) (S_slower ok (by decide) (by omega) ex_sh.1 (slow_ok g.gl g.le (k := 0) (q := 2) (s := 1/2) (by decide +kernel) (by decide) (by decide)).1 (q rfl _))
    walk_at "xs"
    refine iteD (fun e5 => ?_) (fun e5 => ?_)
    · walk_at "xs"
      rw [c1_2]
      exact S_RXo rfl ((f1_okL g.is).trans ((f1_okW hW1).trans ((f1_okS (share_enc ex_sh.1)).trans ((f1_okS (share_enc ex_sh.1)).trans f1_nil)))) (S_with_rungX (i := 0) (y := halfR) ok (Nat.zero_le _) half_sy (fun _ => q rfl _) (fun z => absurd z (by omega)))
    · walk_at "xs"
      rw [c1_2]
      exact S_RXo rfl ((f1_okL g.is).trans ((f1_okW hW1).trans ((f1_okS (share_enc ex_sh.1)).trans ((f1_okS (share_enc ex_sh.1)).trans f1_nil)))) (S_with_rungX (i := 0) (y := halfR) ok (Nat.zero_le _) half_sy (fun _ => q rfl _) (fun z => absurd z (by omega)))
theorem has_law_asked (F : DefIn K mg "_law_asked" s_law_asked ["group", "which", "ladder", "rung", "thing"]) (h_law_error : Has P w K mg base CX0 "_law_error" ["caught"] 1 (ESp K er)) (h_law_one : Has P w K mg base (L2.CX P w) "_law_one" ["which", "ladder"] 9 (XSp (R_law_one er))) (h_law_runged : Has P w K mg base (L2.CX P w) "_law_runged" ["which", "ladder", "rung", "many"] 8 (XVSp (R_law_run er))) (h_law_inner : Has P w K mg base (L2.CX P w) "_law_inner" ["which", "ladder", "rung", "share"] 9 (XSp (R_law_inn er))) (G : GTxt mg er) (x_BadLadder : XTxt K er er.bl 0) (x_BadRung : XTxt K er er.br 1) (x_BadShare : XTxt K er er.bs 2) (x_BadNumber : XTxt K er er.bn 3) (x_NotFound : XTxt K er er.nf 5) : Has P w K mg base CX0 "_law_asked" ["group", "which", "ladder", "rung", "thing"] 10 (PSp R_law_asked) := by
  refine has_pure F sc_law_asked (by walk_at "len") fun f cdv A outer s H E hr => ⟨_, (pss_cons (ps_set (i := 5) sc_law_asked.nd rfl (by first | exact Or.inl rfl | exact Or.inr rfl) pe_non)
        (pss_cons (ps_try_keep (K := K) (i := 6) rfl rfl rfl rfl sc_law_asked.nd rfl rfl ⟨rfl, by decide, .inl G.le⟩ (fun W pn xe tk po => by exact (pss_one (ps_if (PT.nox (pt_cmpR (opEq (K := K) rfl hr.units) (pv 0) pe_int (nomark _)))
        (pss_one (ps_expr (pe_hX h_law_one hr (by decide) (by rfl) tk (pa_cons (pv 1) (pa_cons (pv 2) pa_nil)))))
        (pss_one (ps_if (PT.nox (pt_cmpR (opEq (K := K) rfl hr.units) (pv 0) pe_int (nomark _)))
        (pss_one (ps_expr (pe_hX h_law_runged hr (by decide) (by rfl) tk (pa_cons (pv 1) (pa_cons (pv 2) (pa_cons (pv 3) (pa_cons (pv 4) pa_nil)))))))
        (pss_one (ps_expr (pe_hX h_law_inner hr (by decide) (by rfl) tk (pa_cons (pv 1) (pa_cons (pv 2) (pa_cons (pv 3) (pa_cons (pv 4) pa_nil))))))))))))
        (fun a pn => by exact (pss_one (ps_set (i := 5) sc_law_asked.nd rfl (by first | exact Or.inl rfl | exact Or.inr rfl) (pv 6)))))
        (pss_one (ps_ret (pe_ifExp (pt_cmpR op_isN (pv 5) pe_non (nomark _)) pe_str (pe_h h_law_error hr (by decide) (by rfl) (pa_cons (pv 5) pa_nil))))))), ?_⟩
  rintro ds Q ⟨g, k, d, r, n, j, rfl, o, q⟩
  have xt : ∀ i, j = some i → XTxt K er (erAt er i) i ∧ errNames[i]? = some (ansS j) := fun i e => by
    subst e
    have hi : i = 0 ∨ i = 1 ∨ i = 2 ∨ i = 3 ∨ i = 5 := o.ix
    rcases hi with rfl | rfl | rfl | rfl | rfl
    · exact ⟨x_BadLadder, rfl⟩
    · exact ⟨x_BadRung, rfl⟩
    · exact ⟨x_BadShare, rfl⟩
    · exact ⟨x_BadNumber, rfl⟩
    · exact ⟨x_NotFound, rfl⟩
  walk_at "xs"
  refine ds_mono (fun ρ => (j = none ∧ ∃ z0 z1 z2 z3 z4 z6, ρ = [z0, z1, z2, z3, z4, .dat .none, z6]) ∨ (∃ i, j = some i ∧ ∃ z0 z1 z2 z3 z4 z6, ρ = [z0, z1, z2, z3, z4, .exc (erAt er i), z6])) ?_ ?_
  · refine ds_try (fun ρ c => ∃ i, j = some i ∧ c = erAt er i ∧ ρ = [.dat (.int g), .dat (.int k), .dat d, .dat r, .dat n, .dat .none, .no]) (fun W => ?_) ?_ ?_
    · walk_at "xs"
      refine iteD (fun e => ?_) (fun e => ?_)
      · walk_at "xs"
        rcases o with ⟨_, o⟩ | ⟨e', _⟩ | ⟨e', _⟩
        · exact ⟨k, d, j, rfl, o, fun ej v => .inl ⟨ej, _, _, _, _, _, _, rfl⟩, fun i ei => ⟨i, ei, rfl, rfl⟩⟩
        · omega
        · omega
      · walk_at "xs"
        refine iteD (fun e2 => ?_) (fun e2 => ?_)
        · refine ds_dropV ?_
          walk_at "xs"
          rcases o with ⟨e', _⟩ | ⟨_, o⟩ | ⟨e', _⟩
          · omega
          · exact ⟨k, d, r, n, j, rfl, o, fun ej => .inl ⟨ej, _, _, _, _, _, _, rfl⟩, fun i ei => ⟨i, ei, rfl, rfl⟩⟩
          · omega
        · walk_at "xs"
          rcases o with ⟨e', _⟩ | ⟨e', _⟩ | ⟨_, o⟩
          · omega
          · omega
          · exact ⟨k, d, r, n, j, rfl, o, fun ej v => .inl ⟨ej, _, _, _, _, _, _, rfl⟩, fun i ei => ⟨i, ei, rfl, rfl⟩⟩
    · rintro ρ' C ⟨i, ei, rfl, _⟩
      exact (xt i ei).1.exm
    · rintro ρ' C ⟨i, ei, rfl, rfl⟩
      walk_at "xg"
      exact .inr ⟨i, ei, _, _, _, _, _, _, rfl⟩
  rintro ρ' (⟨ej, z0, z1, z2, z3, z4, z6, rfl⟩ | ⟨i, ei, z0, z1, z2, z3, z4, z6, rfl⟩)
  · walk_at "xg"
    subst ej
    exact q
  · walk_at "xg"
    exact ⟨i, _, (xt i ei).1, (xt i ei).2, q⟩
theorem has_law_numbers (F : DefIn K mg "_law_numbers" s_law_numbers ["ladder", "last"]) (h_law_asked : Has P w K mg base CX0 "_law_asked" ["group", "which", "ladder", "rung", "thing"] 10 (PSp R_law_asked)) (h_is_share : Has P w K mg base CX0 "is_share" ["value"] 2 (PSp R_is_share)) (h_is_ladder : Has P w K mg base CX0 "is_ladder" ["value"] 3 (PSp R_is_ladder)) (m_range : mg "range" = none) : Has P w K mg base CX0 "_law_numbers" ["ladder", "last"] 11 (PSp R_law_numbers) := by
  refine has_pure F sc_law_numbers (by walk_at "len") fun f cdv A outer s H E hr => ⟨_, (pss_cons (ps_for PassesOwn.never rfl (pi_listK (K := K) rfl (pe_lst (pa_cons pe_non (pa_cons pe_int (pa_cons (pe_op op_sub pe_int pe_int) (pa_cons pe_bl (pa_cons pe_str pa_nil))))))) (pg_name (i := 2) sc_law_numbers.nd rfl (by first | exact Or.inl rfl | exact Or.inr rfl))
        (pss_one (ps_if (pt_cmpR (opNe (K := K) rfl hr.units) (pe_lc (own := [("k", 3)]) (g := gName 3) rfl sc_law_numbers.nd (pi_range2 rfl m_range (pa_cons pe_int (pa_cons pe_int pa_nil))) (blkOk_by (own := [("k", 3)]) (N := N_law_numbers) (sc := defScope s_law_numbers) (by decide +kernel)) (fun _ _ _ _ _ => by exact (pg_name (i := 3) sc_law_numbers.nd rfl (by first | exact Or.inl rfl | exact Or.inr rfl))) (fun _ _ _ _ _ => by exact pts_nil) (fun _ _ _ _ _ => by exact (pe_h h_law_asked hr (by decide) (by rfl) (pa_cons pe_int (pa_cons (pv 3) (pa_cons (pv 0) (pa_cons pe_int (pa_cons (pv 2) pa_nil)))))))) (pe_op op_times (pe_lst (pa_cons pe_str pa_nil)) pe_int) (nomark _))
        (pss_one (ps_ret pe_bl))
        pss_nil)))
        (pss_cons (ps_for PassesOwn.never rfl (pi_listK (K := K) rfl (pe_lst (pa_cons pe_non (pa_cons pe_int (pa_cons (pe_tup (pa_cons pe_int (pa_cons pe_int pa_nil))) (pa_cons (pe_tup (pa_cons pe_int (pa_cons pe_int pa_nil))) (pa_cons (pe_tup (pa_cons pe_int (pa_cons pe_int pa_nil))) (pa_cons (pe_tup (pa_cons pe_int (pa_cons pe_int pa_nil))) (pa_cons (pe_lst (pa_cons pe_int (pa_cons pe_int pa_nil))) (pa_cons (pe_tup (pa_cons pe_bl (pa_cons pe_int pa_nil))) (pa_cons (pe_tup (pa_cons pe_int (pa_cons pe_int pa_nil))) pa_nil))))))))))) (pg_name (i := 2) sc_law_numbers.nd rfl (by first | exact Or.inl rfl | exact Or.inr rfl))
        (pss_one (ps_if (PW.pt (pw_or (pt_cmpR op_notBl (pe_h h_is_share hr (by decide) (by rfl) (pa_cons (pv 2) pa_nil)) pe_bl (nomark _)) (pw_or (pt_cmpR (opNe (K := K) rfl hr.units) (pe_lc (own := [("k", 3)]) (g := gName 3) rfl sc_law_numbers.nd (pi_tupK (K := K) rfl (pe_tup (pa_cons pe_int (pa_cons pe_int (pa_cons pe_int pa_nil))))) (blkOk_by (own := [("k", 3)]) (N := N_law_numbers) (sc := defScope s_law_numbers) (by decide +kernel)) (fun _ _ _ _ _ => by exact (pg_name (i := 3) sc_law_numbers.nd rfl (by first | exact Or.inl rfl | exact Or.inr rfl))) (fun _ _ _ _ _ => by exact pts_nil) (fun _ _ _ _ _ => by exact (pe_h h_law_asked hr (by decide) (by rfl) (pa_cons pe_int (pa_cons (pv 3) (pa_cons (pv 0) (pa_cons pe_int (pa_cons (pv 2) pa_nil)))))))) (pe_op op_times (pe_lst (pa_cons pe_str pa_nil)) pe_int) (nomark _)) (pw_or1 (pt_cmpR (opNe (K := K) rfl hr.units) (pe_h h_law_asked hr (by decide) (by rfl) (pa_cons pe_int (pa_cons pe_int (pa_cons (pv 0) (pa_cons pe_int (pa_cons (pv 2) pa_nil)))))) pe_str (nomark _))))))
        (pss_one (ps_ret pe_bl))
        pss_nil)))
        (pss_cons (ps_if (PW.pt (pw_or (pt_cmpR (opNe (K := K) rfl hr.units) (pe_lc (own := [("k", 3)]) (g := gName 3) rfl sc_law_numbers.nd (pi_range1 rfl m_range (pa_cons pe_int pa_nil)) (blkOk_by (own := [("k", 3)]) (N := N_law_numbers) (sc := defScope s_law_numbers) (by decide +kernel)) (fun _ _ _ _ _ => by exact (pg_name (i := 3) sc_law_numbers.nd rfl (by first | exact Or.inl rfl | exact Or.inr rfl))) (fun _ _ _ _ _ => by exact pts_nil) (fun _ _ _ _ _ => by exact (pe_h h_law_asked hr (by decide) (by rfl) (pa_cons pe_int (pa_cons (pv 3) (pa_cons (pv 0) (pa_cons pe_int (pa_cons pe_int pa_nil)))))))) (pe_op op_times (pe_lst (pa_cons pe_str pa_nil)) pe_int) (nomark _)) (pw_or1 (pt_cmpR (opNe (K := K) rfl hr.units) (pe_lc (own := [("k", 3)]) (g := gName 3) rfl sc_law_numbers.nd (pi_range2 rfl m_range (pa_cons pe_int (pa_cons pe_int pa_nil))) (blkOk_by (own := [("k", 3)]) (N := N_law_numbers) (sc := defScope s_law_numbers) (by decide +kernel)) (fun _ _ _ _ _ => by exact (pg_name (i := 3) sc_law_numbers.nd rfl (by first | exact Or.inl rfl | exact Or.inr rfl))) (fun _ _ _ _ _ => by exact pts_nil) (fun _ _ _ _ _ => by exact (pe_h h_law_asked hr (by decide) (by rfl) (pa_cons pe_int (pa_cons (pv 3) (pa_cons (pe_op op_times (pe_lst (pa_cons (pe_tup (pa_cons (pe_tup (pa_cons pe_int (pa_cons pe_int pa_nil))) (pa_cons (pe_tup (pa_cons pe_int (pa_cons pe_int pa_nil))) pa_nil))) pa_nil)) pe_int) (pa_cons pe_int (pa_cons pe_int pa_nil)))))))) (pe_op op_times (pe_lst (pa_cons pe_str pa_nil)) pe_int) (nomark _)))))
        (pss_one (ps_ret pe_bl))
        pss_nil)
        (pss_cons (ps_if (PW.pt (pw_or (pt_cmpR (opNe (K := K) rfl hr.units) (pe_lc (own := [("k", 3)]) (g := gName 3) rfl sc_law_numbers.nd (pi_range1 rfl m_range (pa_cons pe_int pa_nil)) (blkOk_by (own := [("k", 3)]) (N := N_law_numbers) (sc := defScope s_law_numbers) (by decide +kernel)) (fun _ _ _ _ _ => by exact (pg_name (i := 3) sc_law_numbers.nd rfl (by first | exact Or.inl rfl | exact Or.inr rfl))) (fun _ _ _ _ _ => by exact pts_nil) (fun _ _ _ _ _ => by exact (pe_h h_law_asked hr (by decide) (by rfl) (pa_cons pe_int (pa_cons (pv 3) (pa_cons (pv 0) (pa_cons (pv 1) (pa_cons pe_int pa_nil)))))))) (pe_op op_times (pe_lst (pa_cons pe_str pa_nil)) pe_int) (nomark _)) (pw_or1 (pt_cmpR (opNe (K := K) rfl hr.units) (pe_lc (own := [("k", 3)]) (g := gName 3) rfl sc_law_numbers.nd (pi_range1 rfl m_range (pa_cons pe_int pa_nil)) (blkOk_by (own := [("k", 3)]) (N := N_law_numbers) (sc := defScope s_law_numbers) (by decide +kernel)) (fun _ _ _ _ _ => by exact (pg_name (i := 3) sc_law_numbers.nd rfl (by first | exact Or.inl rfl | exact Or.inr rfl))) (fun _ _ _ _ _ => by exact pts_nil) (fun _ _ _ _ _ => by exact (pe_h h_law_asked hr (by decide) (by rfl) (pa_cons pe_int (pa_cons (pv 3) (pa_cons (pv 0) (pa_cons pe_int (pa_cons (pe_tup (pa_cons pe_int (pa_cons pe_int pa_nil))) pa_nil)))))))) (pe_op op_times (pe_lst (pa_cons pe_str pa_nil)) pe_int) (nomark _)))))
        (pss_one (ps_ret pe_bl))
        pss_nil)
        (pss_one (ps_ret (pe_and (pe_cmpR op_isBl (pe_h h_is_ladder hr (by decide) (by rfl) (pa_cons (pe_op op_times (pe_lst (pa_cons (pe_tup (pa_cons (pe_tup (pa_cons pe_int (pa_cons pe_int pa_nil))) (pa_cons (pe_tup (pa_cons pe_int (pa_cons pe_int pa_nil))) pa_nil))) pa_nil)) pe_int) pa_nil)) pe_bl (nomark _)) (pe_and (pe_cmpR op_isBl (pe_h h_is_share hr (by decide) (by rfl) (pa_cons (pe_tup (pa_cons pe_int (pa_cons pe_int pa_nil))) pa_nil)) pe_bl (nomark _)) (pe_and (pe_cmpR (opEq (K := K) rfl hr.units) (pe_h h_law_asked hr (by decide) (by rfl) (pa_cons pe_int (pa_cons pe_int (pa_cons (pe_lst (pa_cons (pe_tup (pa_cons (pe_tup (pa_cons pe_int (pa_cons pe_int pa_nil))) (pa_cons (pe_tup (pa_cons pe_int (pa_cons pe_int pa_nil))) pa_nil))) pa_nil)) (pa_cons pe_int (pa_cons (pe_tup (pa_cons pe_int (pa_cons pe_int pa_nil))) pa_nil)))))) pe_str (nomark _)) (pe_one (pe_cmpR (opEq (K := K) rfl hr.units) (pe_h h_law_asked hr (by decide) (by rfl) (pa_cons pe_int (pa_cons pe_int (pa_cons (pv 0) (pa_cons pe_int (pa_cons pe_int pa_nil)))))) pe_str (nomark _)))))))))))), ?_⟩
  rintro ds Q ⟨L, rfl, g, h2, h6, q⟩
  have hL := g.is
  have ok := g.ok
  walk_at "xs"
  refine forI (fun i ρ => ∃ z2 z3, ρ = [.dat (encL L), .dat (.int ((L.length : Int) + 1)), z2, z3]) ⟨_, _, rfl⟩ ?_ ?_
  · rintro i d ρ' hi ⟨z2, z3, rfl⟩
    have hb : isIntIn d 0 60 = false := by
      have := List.all_eq_true.mp (show List.all _ (fun d => !isIntIn d 0 60) = true by decide +kernel) d (List.mem_of_getElem? hi)
      simpa using this
    walk_at "xg"
    refine ds_forget 3 ?_
    refine ds_guard ?_ ?_
    · walk_at "xg"
      refine lcI_same (.str "number") (by rw [rng_len]; decide) (fun x hx => ?_) ?_
      · obtain ⟨k, hk, rfl⟩ := mem_rng hx
        have hk : k < 7 := hk
        walk_at "xg"
        exact S_law_asked (.inr (.inl ⟨rfl, .many (by omega) (by omega) hL g.r1 hb⟩)) rfl
      walk_at "xg"
      refine rp_timesL (by decide) (by decide) ?_
      refine rp_neReps (strOk_of _) (rng_len _ _) ?_
      exact ⟨_, rfl, rfl⟩
    exact ⟨_, _, rfl⟩
  rintro ρ' ⟨z2, z3, rfl⟩
  walk_at "xs"
  refine forI (fun i ρ => ∃ z2 z3, ρ = [.dat (encL L), .dat (.int ((L.length : Int) + 1)), z2, z3]) ⟨_, _, rfl⟩ ?_ ?_
  · rintro i d ρ' hi ⟨z2, z3, rfl⟩
    have hb : isShareD d = false := by
      have := List.all_eq_true.mp (show List.all _ (fun d => !isShareD d) = true by decide +kernel) d (List.mem_of_getElem? hi)
      simpa using this
    walk_at "xg"
    refine ds_forget 3 ?_
    refine ds_guard ?_ ?_
    · walk_at "xg"
      rw [hb]
      walk_at "xg"
      refine lcI_same (.str "share") (by decide) (fun x hx => ?_) ?_
      · have hx' : x = .int 4 ∨ x = .int 5 ∨ x = .int 6 := by simpa using hx
        rcases hx' with rfl | rfl | rfl <;> walk_at "xg" <;> exact S_law_asked (.inr (.inr ⟨rfl, .share (by decide) (by decide) hL (fun _ => g.i1) g.w1 hb⟩)) rfl
      walk_at "xg"
      refine rp_timesL (by decide) (by decide) ?_
      refine rp_neReps (strOk_of _) rfl ?_
      walk_at "xg"
      refine S_law_asked (.inr (.inl ⟨rfl, .share rfl hL g.r1 hb⟩)) ?_
      walk_at "xg"
      rfl
    exact ⟨_, _, rfl⟩
  rintro ρ' ⟨z2, z3, rfl⟩
  refine ds_forget 3 ?_
  walk_at "xg"
  refine ds_guard ?_ ?_
  · walk_at "xg"
    refine lcI_same (.str "done") (by rw [rng_len]; decide) (fun x hx => ?_) ?_
    · obtain ⟨k, hk, rfl⟩ := mem_rng hx
      have hk : k < 15 := hk
      walk_at "xg"
      exact S_law_asked (.inl ⟨rfl, .done (by omega) (by omega) L rfl g h6⟩) rfl
    walk_at "xg"
    refine rp_timesL (by decide) (by decide) ?_
    refine rp_neReps (strOk_of _) (rng_len _ _) ?_
    walk_at "xg"
    refine lcI_same (.str "done") (by rw [rng_len]; decide) (fun x hx => ?_) ?_
    · obtain ⟨k, hk, rfl⟩ := mem_rng hx
      have hk : k < 6 := hk
      walk_at "xg"
      refine rp_timesL (by decide) (by decide) ?_
      rw [show (2 : Int).toNat = 2 from rfl, hf_enc]
      walk_at "xg"
      exact S_law_asked (.inr (.inl ⟨rfl, .done (by omega) (by omega) (hfL 2) 1 60 rfl (hf_gd (by decide) (by decide)) rfl (by decide) (by decide) rfl (by decide) (by decide) (fun _ => by decide)⟩)) rfl
    walk_at "xg"
    refine rp_timesL (by decide) (by decide) ?_
    refine rp_neReps (strOk_of _) (rng_len _ _) ?_
    exact ⟨_, rfl, rfl⟩
  walk_at "xg"
  refine ds_guard ?_ ?_
  · walk_at "xg"
    refine lcI_same (.str "done") (by rw [rng_len]; decide) (fun x hx => ?_) ?_
    · obtain ⟨k, hk, rfl⟩ := mem_rng hx
      have hk : k < 14 := hk
      walk_at "xg"
      exact S_law_asked (.inr (.inl ⟨rfl, .done (by omega) (by omega) L _ 0 rfl g rfl (by omega) (by omega) rfl (by decide) (by decide) (fun _ => by omega)⟩)) rfl
    walk_at "xg"
    refine rp_timesL (by decide) (by decide) ?_
    refine rp_neReps (strOk_of _) (rng_len _ _) ?_
    walk_at "xg"
    refine lcI_same (.str "done") (by rw [rng_len]; decide) (fun x hx => ?_) ?_
    · obtain ⟨k, hk, rfl⟩ := mem_rng hx
      have hk : k < 7 := hk
      walk_at "xg"
      rw [c1_2]
      exact S_law_asked (.inr (.inr ⟨rfl, .done (by omega) (by omega) L rfl g h2 (by omega) rfl rfl⟩)) rfl
    walk_at "xg"
    refine rp_timesL (by decide) (by decide) ?_
    refine rp_neReps (strOk_of _) (rng_len _ _) ?_
    exact ⟨_, rfl, rfl⟩
  walk_at "xg"
  refine rp_timesL (by decide) (by decide) ?_
  rw [show (8 : Int).toNat = 8 from rfl, hf_enc]
  walk_at "xg"
  rw [show isLadderD (.list ((hfL 8).map encR)) = true from (hf_gd (n := 8) (by decide) (by decide)).is]
  walk_at "xg"
  rw [c1_1000, show PyData.list [.tuple [.tuple [.int 1, .int 2], .tuple [.int 1, .int 2]]] = encL oneH from oneH_enc]
  refine S_law_asked (.inr (.inl ⟨rfl, .by_ rfl oneH 1 (1/1000) rfl ⟨oneH_gl, Nat.le_of_ble_eq_true rfl⟩ rfl (by decide) (by decide) rfl sh_1000⟩)) ?_
  walk_at "xg"
  refine S_law_asked (.inr (.inl ⟨rfl, .none rfl L 1 rfl g rfl rfl (by decide) (by decide)⟩)) ?_
  walk_at "xg"
  exact q
theorem has_law_draw (F : DefIn K mg "_law_draw" s_law_draw ["draws", "limit"]) (m_len : mg "len" = none) : Has P w K mg base CX0 "_law_draw" ["draws", "limit"] 1 (DSp R_law_draw) := by
  obtain ⟨f, fd, F, m, bd⟩ := F
  refine ⟨f, fd, F.ok sc_law_draw (fun vs H Q E h => ?_) (fun cdv A outer s H vs Q E hr h => ?_), m, F.kp, bd⟩
  · obtain ⟨O, p, b, ws, ds, P', e, _, _, _, _, y, ⟨n, rfl, _⟩, _⟩ := h
    rw [e, List.length_cons, y.length]; rfl
  · obtain ⟨O, p, b, ws, ds, P', rfl, hd, dr, hp, hb, y, ⟨n, rfl, h1, h2, r⟩, q⟩ := h
    have hw : ws = [.int n] := by
      cases y with
      | cons y yr => cases yr; cases y; rfl
    subst hw
    obtain ⟨ne, k, ns, hA, hk, hB, hns⟩ := dr
    refine ⟨_, (pss_cons (ps_set (i := 2) sc_law_draw.nd rfl (by first | exact Or.inl rfl | exact Or.inr rfl) (pe_ix (ixS (K := K) rfl) (pv 0) pe_int (fun _ _ => rfl)))
          (pss_cons (ps_asg (pe_op op_plus (pe_ix (ixS (K := K) rfl) (pv 0) pe_int (fun _ _ => rfl)) pe_int) (pg_sub (pv 0) pe_int set_list))
          (pss_cons (ps_set (i := 3) sc_law_draw.nd rfl (by first | exact Or.inl rfl | exact Or.inr rfl) (pe_op op_mod (pe_ix (ixS (K := K) rfl) (pv 0) pe_int (fun _ _ => rfl)) (pe_callB (cLen (K := K) rfl) (by rfl) m_len PySem.boot_len (pa_cons (pv 2) pa_nil))))
          (pss_cons (ps_set (i := 4) sc_law_draw.nd rfl (by first | exact Or.inl rfl | exact Or.inr rfl) (pe_ix (ixS (K := K) rfl) (pv 2) (pv 3) (fun _ _ => rfl)))
          (pss_cons (ps_if (pt_cmpR op_ge (pv 4) pe_int (nomark _))
          (pss_cons (ps_asg (pe_op op_fdivW (pv 4) (pv 1)) (pg_sub (pv 2) (pv 3) set_list))
          (pss_one (ps_ret (pe_op op_mod (pv 4) (pv 1)))))
          pss_nil)
          (pss_cons (ps_set (i := 5) sc_law_draw.nd rfl (by first | exact Or.inl rfl | exact Or.inr rfl) (pe_op op_mod (pe_op op_plus (pv 4) (pe_op op_times pe_int (pe_ix (ixS (K := K) rfl) (pv 0) pe_int (fun _ _ => rfl)))) pe_int))
          (pss_cons (ps_set (i := 5) sc_law_draw.nd rfl (by first | exact Or.inl rfl | exact Or.inr rfl) (pe_op op_mod (pe_op op_pow (pv 5) pe_int) pe_int))
          (pss_one (ps_ret (pe_op op_mod (pe_op op_fdivW (pe_op op_mod (pe_op op_plus (pe_op op_times (pe_op op_fdivW (pv 5) pe_int) pe_int) (pv 5)) pe_int) pe_int) (pv 1))))))))))), ?_⟩
    -- numbers = draws[0]
    refine ⟨_, rfl, .inl ⟨p, [.ref b, .int k], 0, .ref b, rfl, rfl, SqL.of hA, rfl, ?_⟩⟩
    -- draws[1] = draws[1] + 1
    refine ⟨_, rfl, .inl ⟨p, [.ref b, .int k], 1, .int k, rfl, rfl, SqL.of hA, rfl, .inl ⟨k, 1, rfl, rfl, _, rfl, p, [.ref b, .int k], 1, 1, rfl, rfl, hA, rfl, ?_⟩⟩⟩
    have hA1 : upd H p (.lst [.ref b, .int (k + 1)]) p = some (.lst [.ref b, .int (k + 1)]) := upd_same
    have hB1 : upd H p (.lst [.ref b, .int (k + 1)]) b = some (.lst (ns.map V.int)) := by rw [upd_ne ne.symm]; exact hB
    have hlen : 0 < ns.length := List.length_pos_iff.mpr hns
    show _
    generalize hH1 : upd H p (.lst [.ref b, .int (k + 1)]) = H1 at hA1 hB1
    have k1 : ∀ a o, a ≠ p → H a = some o → H1 a = some o := fun a o n e => by rw [← hH1, upd_ne n]; exact e
    have hst : upd H p (.lst (([.ref b, .int k] : List V).set 1 (.int (k + 1)))) = H1 := hH1
    -- at = draws[1] % len(numbers)
    refine hst ▸ ?_
    refine ⟨_, rfl, .inl ⟨p, [.ref b, .int (k + 1)], 1, .int (k + 1), rfl, rfl, SqL.of hA1, rfl, _, rfl, .ref b, ns.length, rfl, .inl ⟨_, SqL.of hB1, (List.length_map ..).symm⟩, k + 1, ns.length, rfl, rfl, by omega, ?_⟩⟩
    -- cell = numbers[at]
    have hm1 := Int.emod_nonneg (k + 1) (show (ns.length : Int) ≠ 0 by omega)
    have hm2 := Int.emod_lt_of_pos (k + 1) (show (0 : Int) < ns.length by omega)
    have hlt : ((k + 1) % (ns.length : Int)).toNat < ns.length := by omega
    have hcell : atI (ns.map V.int) ((k + 1) % (ns.length : Int)) = some (.int ns[((k + 1) % (ns.length : Int)).toNat]) := by
      refine (atI_int (j := ((k + 1) % (ns.length : Int)).toNat) (by omega) (by rw [List.length_map]; exact hlt)).trans ?_
      rw [List.getElem_map]
    have hix : ixN (ns.map V.int).length ((k + 1) % (ns.length : Int)) = some ((k + 1) % (ns.length : Int)).toNat := by
      unfold ixN
      rw [if_pos hm1, if_pos (by rw [List.length_map]; exact hm2)]
    generalize hc : ns[((k + 1) % (ns.length : Int)).toNat] = c at hcell
    refine ⟨_, rfl, _, rfl, .inl ⟨b, ns.map V.int, _, .int c, rfl, rfl, SqL.of hB1, hcell, ?_⟩⟩
    -- if cell >= 10 ^ 18
    refine ⟨_, rfl, c, 1000000000000000000, rfl, rfl, _, rfl, ?_⟩
    refine iteD (fun hbig => ?_) (fun hsmall => ?_)
    · refine ⟨_, rfl, _, rfl, c, n, rfl, rfl, wide_div (b := 20) (by omega) (by show n.natAbs < 1048576; omega) (by decide) (by decide), ?_⟩
      refine ⟨_, rfl, _, rfl, b, ns.map V.int, _, _, rfl, rfl, hB1, hix, ?_⟩
      refine ⟨_, rfl, _, rfl, c, n, rfl, rfl, by omega, ?_⟩
      refine q _ (.int (c % n)) _ (fun a o n1 n2 e => by rw [upd_ne n2]; exact k1 a o n1 e) ⟨ne, k + 1, ns.set ((k + 1) % (ns.length : Int)).toNat (c / n), by rw [upd_ne ne]; exact hA1, by omega, by rw [upd_same, List.map_set], by simpa using hns⟩ (.int _) (r _ (Int.emod_nonneg _ (by omega)) (Int.emod_lt_of_pos _ (by omega)))
    · have fin : ∀ v : Int, 0 ≤ v → v < n → Q (.int v) H1 := fun v g1 g2 => q _ (.int v) _ (fun a o n1 n2 e => k1 a o n1 e) ⟨ne, k + 1, ns, hA1, by omega, hB1, hns⟩ (.int _) (r v g1 g2)
      refine ⟨_, rfl, _, rfl, .inl ⟨p, [.ref b, .int (k + 1)], 1, .int (k + 1), rfl, rfl, SqL.of hA1, rfl, .inl ⟨104729, k + 1, rfl, rfl, ?_, .inl ⟨c, 104729 * (k + 1), rfl, rfl, _, 4294967291, rfl, rfl, (show (0 : Int) < 4294967291 by decide), ?_⟩⟩⟩⟩
      · exact .inl (.inl ⟨by decide, by decide⟩)
      · -- mixed = mixed ** 5 % 4294967279
        have g1 := Int.emod_nonneg (c + 104729 * (k + 1)) (show (4294967291 : Int) ≠ 0 by decide)
        have g2 := Int.emod_lt_of_pos (c + 104729 * (k + 1)) (show (0 : Int) < 4294967291 by decide)
        refine ⟨_, rfl, _, 5, rfl, rfl, ⟨by decide, by decide, ?_⟩, _, 4294967279, rfl, rfl, (show (0 : Int) < 4294967279 by decide), ?_⟩
        · show ((c + 104729 * (k + 1)) % 4294967291).natAbs < 18446744073709551616
          omega
        · have z1 := Int.emod_nonneg (((c + 104729 * (k + 1)) % 4294967291) ^ (5 : Int).toNat) (show (4294967279 : Int) ≠ 0 by decide)
          have z2 := Int.emod_lt_of_pos (((c + 104729 * (k + 1)) % 4294967291) ^ (5 : Int).toNat) (show (0 : Int) < 4294967279 by decide)
          refine ⟨_, rfl, _, 64, rfl, rfl, wide_div (b := 20) (by decide) (by decide) (by decide) (by decide), .inl ⟨_, 69621, rfl, rfl, .inl (.inr ⟨by decide, by decide⟩), _, rfl, .inl ⟨_, _, rfl, rfl, _, 4294967231, rfl, rfl, (show (0 : Int) < 4294967231 by decide), _, 8, rfl, rfl, wide_div (b := 20) (by decide) (by decide) (by decide) (by decide), _, rfl, _, n, rfl, rfl, (show 0 < n by omega), ?_⟩⟩⟩
          exact fin _ (Int.emod_nonneg _ (by omega)) (Int.emod_lt_of_pos _ (by omega))
theorem has_law_low (F : DefIn K mg "_law_low" s_law_low ["top", "under"]) (m_abs : mg "abs" = none) : Has P w K mg base CX0 "_law_low" ["top", "under"] 1 (PSp R_low) := by
  refine has_pure F sc_law_low (by walk_at "len") fun f cdv A outer s H E hr => ⟨_, (pss_cons (ps_par (i := 2) (j := 3) rfl sc_law_low.nd rfl rfl (by decide) rfl rfl (pa_cons (pe_callB call_abs (by rfl) m_abs (by decide +kernel) (pa_cons (pv 0) pa_nil)) (pa_cons (pv 1) pa_nil)) rfl)
        (pss_cons (ps_while PassesOwn.never (pt_cmpR (opNe (K := K) rfl hr.units) (pv 3) pe_int (nomark _))
        (pss_one (ps_par (i := 2) (j := 3) rfl sc_law_low.nd rfl rfl (by decide) rfl rfl (pa_cons (pv 3) (pa_cons (pe_op op_mod (pv 2) (pv 3)) pa_nil)) rfl)))
        (pss_one (ps_ret (pe_tup (pa_cons (pe_op op_fdivW (pv 0) (pv 2)) (pa_cons (pe_op op_fdivW (pv 1) (pv 2)) pa_nil))))))), ?_⟩
  rintro ds Q ⟨a, b, rfl, hb, hl, q⟩
  walk_at "xs"
  refine ds_while (fun m ρ => ∃ x y : Int, ρ = [.dat (.int a), .dat (.int b), .dat (.int x), .dat (.int y)] ∧ 0 ≤ x ∧ 0 ≤ y ∧ m = y.toNat ∧ Nat.gcd x.toNat y.toNat = Nat.gcd a.natAbs b.toNat) b.toNat ⟨_, b, rfl, by omega, by omega, rfl, by rw [Int.toNat_natCast]⟩ ?_
  rintro m ρ' ⟨x, y, rfl, hx, hy, rfl, hg⟩
  walk_at "xs"
  refine iteN (fun h => ?_) (fun h => ?_)
  · walk_at "xs"
    have h1 := Int.emod_lt_of_pos x (show 0 < y by omega)
    have h2 := Int.emod_nonneg x h
    refine rp_mod (by omega) ?_
    refine ea_nil ⟨_, _, rfl, (x % y).toNat, by omega, y, x % y, rfl, hy, h2, rfl, ?_⟩
    rw [← hg, Nat.gcd_comm x.toNat, Nat.gcd_rec y.toNat x.toNat, Nat.gcd_comm, Int.toNat_emod hx hy]
  · rw [h] at hg
    simp only [Int.toNat_zero, Nat.gcd_zero_right] at hg
    have ex : x = ((Nat.gcd a.natAbs b.toNat : Nat) : Int) := by omega
    rw [ex]
    have hgp : 0 < Nat.gcd a.natAbs b.toNat := Nat.gcd_pos_of_pos_right _ (by omega)
    have hle : Nat.gcd a.natAbs b.toNat ≤ b.toNat := Nat.gcd_le_right _ (by omega)
    have hc : ∀ i : Int, CDivW i ((Nat.gcd a.natAbs b.toNat : Nat) : Int) := fun i => wide_div (b := 9000) (by omega) (Nat.lt_of_le_of_lt (by omega) hl) (by decide) (by decide)
    walk_at "xs"
    refine rp_fdiv (hc _) ?_
    walk_at "xs"
    refine rp_fdiv (hc _) ?_
    walk_at "xs"
    have e : enc ((a : Rat) / (b : Rat)) = .tuple [.int (a / ((Nat.gcd a.natAbs b.toNat : Nat) : Int)), .int (b / ((Nat.gcd a.natAbs b.toNat : Nat) : Int))] := by
      unfold enc
      rw [num_div a hb, den_div a hb]
    rw [← e]
    exact q
theorem has_law_pick (F : DefIn K mg "_law_pick" s_law_pick ["draws", "choices"]) (h_law_draw : Has P w K mg base CX0 "_law_draw" ["draws", "limit"] 1 (DSp R_law_draw)) (m_len : mg "len" = none) : Has P w K mg base CX0 "_law_pick" ["draws", "choices"] 2 (DSp R_law_pick) := by
  refine has_draw F sc_law_pick (by walk_at "len") fun f cdv A outer s H E hr => ⟨_, (pss_one (ps_ret (pe_ix (ixS (K := K) rfl) (pv 1) (pe_h h_law_draw hr (by decide) (by rfl) (pa_cons (pv 0) (pa_cons (pe_callB (cLen (K := K) rfl) (by rfl) m_len PySem.boot_len (pa_cons (pv 1) pa_nil)) pa_nil))) (fun _ _ => rfl)))), ?_⟩
  rintro ds Q ⟨cs, rfl, h1, h2, q⟩
  walk_at "xs"

  refine S_law_draw (by omega) (by omega) fun k h3 h4 => ?_
  have hlt : k.toNat < cs.length := by omega
  exact rp_ixL (atI_int (by omega) hlt) (q _ (List.getElem_mem hlt))
theorem has_law_ladder (F : DefIn K mg "_law_ladder" s_law_ladder ["draws", "most"]) (h_law_draw : Has P w K mg base CX0 "_law_draw" ["draws", "limit"] 1 (DSp R_law_draw)) (h_law_low : Has P w K mg base CX0 "_law_low" ["top", "under"] 1 (PSp R_low)) (h_law_pick : Has P w K mg base CX0 "_law_pick" ["draws", "choices"] 2 (DSp R_law_pick)) (m_range : mg "range" = none) : Has P w K mg base CX0 "_law_ladder" ["draws", "most"] 3 (DSp R_law_ladder) := by
  refine has_draw F sc_law_ladder (by walk_at "len") fun f cdv A outer s H E hr => ⟨_, (pss_cons (ps_set (i := 2) sc_law_ladder.nd rfl (by first | exact Or.inl rfl | exact Or.inr rfl) (pe_lst pa_nil))
        (pss_cons (ps_set (i := 3) sc_law_ladder.nd rfl (by first | exact Or.inl rfl | exact Or.inr rfl) (pe_cmpR (opEq (K := K) rfl hr.units) (pe_h h_law_draw hr (by decide) (by rfl) (pa_cons (pv 0) (pa_cons pe_int pa_nil))) pe_int (nomark _)))
        (pss_cons (ps_for PassesOwn.never rfl (pi_range1 rfl m_range (pa_cons (pe_op op_plus pe_int (pe_h h_law_draw hr (by decide) (by rfl) (pa_cons (pv 0) (pa_cons (pv 1) pa_nil)))) pa_nil)) (pg_name (i := 4) sc_law_ladder.nd rfl (by first | exact Or.inl rfl | exact Or.inr rfl))
        (pss_cons (ps_set (i := 5) sc_law_ladder.nd rfl (by first | exact Or.inl rfl | exact Or.inr rfl) (pe_h h_law_pick hr (by decide) (by rfl) (pa_cons (pv 0) (pa_cons (pe_lst (pa_cons pe_int (pa_cons pe_int (pa_cons pe_int (pa_cons pe_int (pa_cons pe_int pa_nil)))))) pa_nil))))
        (pss_cons (ps_set (i := 6) sc_law_ladder.nd rfl (by first | exact Or.inl rfl | exact Or.inr rfl) (pe_op op_plus pe_int (pe_h h_law_draw hr (by decide) (by rfl) (pa_cons (pv 0) (pa_cons (pe_op op_sub (pv 5) pe_int) pa_nil)))))
        (pss_cons (ps_set (i := 7) sc_law_ladder.nd rfl (by first | exact Or.inl rfl | exact Or.inr rfl) (pe_ifExp (pt_cmpR op_gt (pv 5) (pv 6) (nomark _)) (pe_op op_plus pe_int (pe_h h_law_draw hr (by decide) (by rfl) (pa_cons (pv 0) (pa_cons (pe_op op_sub (pv 5) (pv 6)) pa_nil)))) pe_int))
        (pss_cons (ps_if (pt_val (pv 3))
        (pss_one (ps_asg (pe_tup (pa_cons pe_int (pa_cons pe_int pa_nil))) (pg_tupK (K := K) (n := 2) rfl rfl (pgs_cons (pg_name (i := 6) sc_law_ladder.nd rfl (by first | exact Or.inl rfl | exact Or.inr rfl)) (pgs_cons (pg_name (i := 7) sc_law_ladder.nd rfl (by first | exact Or.inl rfl | exact Or.inr rfl)) pgs_nil)))))
        pss_nil)
        (pss_one (ps_expr (pe_appK (K := K) rfl (pv 2) (pa_cons (pe_tup (pa_cons (pe_h h_law_low hr (by decide) (by rfl) (pa_cons (pv 6) (pa_cons (pv 5) pa_nil))) (pa_cons (pe_h h_law_low hr (by decide) (by rfl) (pa_cons (pv 7) (pa_cons (pv 5) pa_nil))) pa_nil))) pa_nil)))))))))
        (pss_one (ps_ret (pv 2)))))), ?_⟩
  rintro ds Q ⟨n, rfl, h1, h2, q⟩
  refine ds_seq (ds_own (en_lst ?_))
  walk_at "xs"
  intro p
  walk_at "xs"
  refine S_law_draw (by decide) (by decide) fun b hb0 hb => ?_
  walk_at "xs"
  generalize decide (b = 0) = pl
  refine S_law_draw h1 (by omega) fun k hk0 hk => ?_
  walk_at "xs"
  refine forI_map (fun i ρ => ∃ (M : Lad) (z4 z5 z6 z7 : Slot), ρ = [.drw, .dat (.int n), .own p (M.map encR), .dat (.bool pl), z4, z5, z6, z7] ∧ M.length = i ∧ ∀ x ∈ M, Gs x) ⟨[], _, _, _, _, rfl, rfl, by simp⟩ ?_ ?_
  · rintro i x ρ' hi ⟨M, z4, z5, z6, z7, rfl, hM, hg⟩
    have hlt : i < (1 + k).toNat := by
      have := (List.getElem?_eq_some_iff.mp hi).1
      rwa [List.length_range] at this
    walk_at "xs"
    refine S_law_pick (by simp) (by simp) fun c hc => ?_
    have hu : ∃ u v : Int, c = .int u ∧ 2 ≤ u ∧ u ≤ 12 ∧ u * v = 12 := by
      simp only [List.mem_cons, List.not_mem_nil, or_false] at hc
      rcases hc with rfl | rfl | rfl | rfl | rfl
      · exact ⟨2, 6, rfl, by decide, by decide, by decide⟩
      · exact ⟨3, 4, rfl, by decide, by decide, by decide⟩
      · exact ⟨4, 3, rfl, by decide, by decide, by decide⟩
      · exact ⟨6, 2, rfl, by decide, by decide, by decide⟩
      · exact ⟨12, 1, rfl, by decide, by decide, by decide⟩
    obtain ⟨u, v, rfl, hu1, hu2, huv⟩ := hu
    walk_at "xs"
    refine S_law_draw (by omega) (by omega) fun k1 hk1 hk2 => ?_
    walk_at "xs"
    refine iteD (fun _ => ?_) (fun h => absurd (show 1 + k1 < u by omega) h)
    walk_at "xs"
    refine S_law_draw (by omega) (by omega) fun k2 hk3 hk4 => ?_
    walk_at "xs"
    -- the last part, for any two numbers
    have key : ∀ a b : Int, 1 ≤ a → 1 ≤ b → a + b ≤ u → ∀ (t : TS), t = (tDrop (tBM K "list" rAppend (tVar 2) (tCons (tTup (tCons (tCall (PSp R_low) [] E0 (tCons (tVar 6) (tCons (tVar 5) tNil))) (tCons (tCall (PSp R_low) [] E0 (tCons (tVar 7) (tCons (tVar 5) tNil))) tNil))) tNil))) →
        DS EE X0 t [.drw, .dat (.int n), .own p (M.map encR), .dat (.bool pl), .dat (.int (0 + (x : Int))), .dat (.int u), .dat (.int a), .dat (.int b)]
          (fun ρ => ∃ (M : Lad) (z4 z5 z6 z7 : Slot), ρ = [.drw, .dat (.int n), .own p (M.map encR), .dat (.bool pl), z4, z5, z6, z7] ∧ M.length = i + 1 ∧ ∀ x ∈ M, Gs x) (fun _ => Q) := by
      intro a b ha hb2 hab t ht
      subst ht
      refine ds_app rfl ?_ ?_
      · rw [List.length_map]; omega
      have hub : u.natAbs < 2 ^ 4 := by show u.natAbs < 16; omega
      walk_at "xs"
      refine S_low (n := 4) (by omega) hub (by decide) ?_
      walk_at "xs"
      refine S_low (n := 4) (by omega) hub (by decide) ?_
      walk_at "xs"
      refine ⟨M ++ [((a : Rat) / (u : Rat), (b : Rat) / (u : Rat))], _, _, _, _, by rw [List.map_append]; rfl, by simp [hM], fun y hy => ?_⟩
      rcases List.mem_append.mp hy with hy | hy
      · exact hg y hy
      · have e : y = ((a : Rat) / (u : Rat), (b : Rat) / (u : Rat)) := by simpa using hy
        subst e
        have hU : (0 : Rat) < (u : Rat) := Rat.intCast_pos.mpr (by omega)
        have hA : (0 : Rat) < (a : Rat) := Rat.intCast_pos.mpr (by omega)
        have hB : (0 : Rat) < (b : Rat) := Rat.intCast_pos.mpr (by omega)
        have hAB : (a : Rat) + (b : Rat) ≤ (u : Rat) := by rw [← Rat.intCast_add]; exact Rat.intCast_le_intCast.mpr hab
        have huv' : (u : Rat) * (v : Rat) = 12 := by rw [← cast_mul, huv]; rfl
        have hne : (u : Rat) ≠ 0 := Rat.ne_of_gt hU
        have hv : (v : Rat) / 12 = (u : Rat)⁻¹ := by rw [← huv']; grind
        refine ⟨div_pos hA hU, div_pos hB hU, ?_, ⟨a * v, ?_⟩, ⟨b * v, ?_⟩⟩
        · show (a : Rat) / (u : Rat) + (b : Rat) / (u : Rat) ≤ 1
          have e1 : (a : Rat) / (u : Rat) + (b : Rat) / (u : Rat) = ((a : Rat) + (b : Rat)) * (u : Rat)⁻¹ := by grind
          have e2 : (1 : Rat) = (u : Rat) * (u : Rat)⁻¹ := by grind
          rw [e1, e2]
          exact Rat.mul_le_mul_of_nonneg_right hAB (Rat.le_of_lt (Rat.inv_pos.mpr hU))
        · rw [cast_mul, ← huv']; grind
        · rw [cast_mul, ← huv']; grind
    cases pl with
    | true =>
      walk_at "xs"
      exact key 1 1 (by decide) (by decide) (by omega) _ rfl
    | false =>
      walk_at "xs"
      exact key (1 + k1) (1 + k2) (by omega) (by omega) (by omega) _ rfl
  · rintro ρ' ⟨M, z4, z5, z6, z7, rfl, hM, hg⟩
    rw [List.length_range] at hM
    refine ds_retO rfl (q M ⟨by omega, hg⟩ (by omega))
theorem has_law_start (F : DefIn K mg "_law_start" s_law_start ["script"]) (m_list : mg "list" = none) : Has P w K mg base CX0 "_law_start" ["script"] 1 (Sp_start K) := by
  obtain ⟨f, fd, F, m, bd⟩ := F
  refine ⟨f, fd, F.ok sc_law_start (fun vs H Q E h => ?_) (fun cdv A outer s H vs Q E hr h => ?_), m, F.kp, bd⟩
  · obtain ⟨a, ns, rfl, _⟩ := h
    rfl
  · obtain ⟨a, ns, rfl, hS, q⟩ := h
    refine ⟨_, (pss_one (ps_ret (pe_lst (pa_cons (pe_ifExp (pt_cmpR (opNe (K := K) rfl hr.units) (pv 0) (pe_lst pa_nil) (nomark _)) (pe_callTy (cList (K := K) rfl) (by rfl) m_list (by decide +kernel) (pa_cons (pv 0) pa_nil)) (pe_lst (pa_cons pe_int pa_nil))) (pa_cons pe_int pa_nil))))), ?_⟩
    refine ⟨_, rfl, Nat.zero_le _, fun p0 n0 => ?_⟩
    have s0 : Same H (upd H p0 (.lst [])) := same_upd n0
    refine ⟨.list (ns.map .int), .list [], .lst (s0.seq hS) (dpAll_ints ns), .lst (SqL.of upd_same) .nil, shaped_ints ns, rfl, _, rfl, ?_⟩
    have fin : ∀ (b : Addr) (ms : List Int) (H1 : Hp), Same H H1 → H b = none → H1 b = some (.lst (ms.map V.int)) → ms ≠ [] → (∀ p, H1 p = none → Q (.ref p) (upd H1 p (.lst [.ref b, .int 0]))) := fun b ms H1 s1 nb hb hm p np => by
      have ne : b ≠ p := ne_of_none hb np
      exact q p b _ (s1.trans (same_upd np)) (s1.free np) nb ⟨ne.symm, 0, ms, upd_same, Int.le_refl _, by rw [upd_ne ne]; exact hb, hm⟩
    cases ns with
    | nil =>
      refine iteF ?_
      refine ⟨by show 1 ≤ sizeLine; decide, fun b nb => ?_⟩
      refine ⟨by show 2 ≤ sizeLine; decide, fun p np => ?_⟩
      exact fin b [0] _ (s0.trans (same_upd nb)) (s0.free nb) upd_same (by simp) p np
    | cons x xs =>
      refine iteT ?_
      refine ⟨_, rfl, a, _, rfl, .inl (s0.seq hS), fun b nb => ?_⟩
      refine ⟨by show 2 ≤ sizeLine; decide, fun p np => ?_⟩
      exact fin b (x :: xs) _ (s0.trans (same_upd nb)) (s0.free nb) upd_same (by simp) p np
theorem ok_law {f : Addr} {fd : FuncData} (F : Fun K "law" "law" s_law0 f fd) (h_law_numbers : Has P w K mg base CX0 "_law_numbers" ["ladder", "last"] 11 (PSp R_law_numbers)) (h_law_asked : Has P w K mg base CX0 "_law_asked" ["group", "which", "ladder", "rung", "thing"] 10 (PSp R_law_asked)) (h_law_ladder : Has P w K mg base CX0 "_law_ladder" ["draws", "most"] 3 (DSp R_law_ladder)) (h_is_ladder : Has P w K mg base CX0 "is_ladder" ["value"] 3 (PSp R_is_ladder)) (h_law_start : Has P w K mg base CX0 "_law_start" ["script"] 1 (Sp_start K)) (m_range : mg "range" = none) (m_len : mg "len" = none) : FnOk P w K mg base CX0 12 f fd ["script"] (spLaw K) := by
  refine law_ok F sc_law0 rfl fun cdv A outer s H E hr => ⟨_, (pss_cons (ps_set (i := 1) sc_law0.nd rfl (by first | exact Or.inl rfl | exact Or.inr rfl) (pe_h h_law_start hr (by decide) (by rfl) (pa_cons (pv 0) pa_nil)))
        (pss_cons (ps_set (i := 2) sc_law0.nd rfl (by first | exact Or.inl rfl | exact Or.inr rfl) (pe_tup (pa_cons (pe_tup (pa_cons pe_int (pa_cons pe_int pa_nil))) (pa_cons (pe_tup (pa_cons pe_int (pa_cons pe_int pa_nil))) pa_nil))))
        (pss_cons (ps_set (i := 3) sc_law0.nd rfl (by first | exact Or.inl rfl | exact Or.inr rfl) (pe_lst (pa_cons pe_non (pa_cons pe_int (pa_cons (pe_tup pa_nil) (pa_cons (pe_lst pa_nil) (pa_cons (pe_tup (pa_cons (pv 2) pa_nil)) (pa_cons (pe_op op_times (pe_lst (pa_cons (pv 2) pa_nil)) pe_int) (pa_cons (pe_lst (pa_cons (pe_tup (pa_cons pe_int (pa_cons pe_int pa_nil))) pa_nil)) (pa_cons (pe_lst (pa_cons (pe_tup (pa_cons (pe_tup (pa_cons pe_int (pa_cons pe_int pa_nil))) pa_nil)) pa_nil)) (pa_cons (pe_lst (pa_cons (pe_lst (pa_cons (pe_tup (pa_cons pe_int (pa_cons pe_int pa_nil))) (pa_cons (pe_tup (pa_cons pe_int (pa_cons pe_int pa_nil))) pa_nil))) pa_nil)) (pa_cons (pe_lst (pa_cons (pe_tup (pa_cons (pe_tup (pa_cons pe_int (pa_cons pe_int pa_nil))) (pa_cons (pe_tup (pa_cons pe_int (pa_cons pe_int pa_nil))) pa_nil))) pa_nil)) (pa_cons (pe_lst (pa_cons (pe_tup (pa_cons (pe_tup (pa_cons pe_int (pa_cons pe_int pa_nil))) (pa_cons (pe_tup (pa_cons pe_int (pa_cons pe_int pa_nil))) pa_nil))) pa_nil)) (pa_cons (pe_lst (pa_cons (pe_tup (pa_cons (pe_tup (pa_cons pe_int (pa_cons pe_int pa_nil))) (pa_cons (pe_tup (pa_cons pe_int (pa_cons pe_int pa_nil))) pa_nil))) pa_nil)) (pa_cons (pe_lst (pa_cons (pe_tup (pa_cons (pe_tup (pa_cons pe_int (pa_cons pe_int pa_nil))) (pa_cons (pe_tup (pa_cons pe_int (pa_cons pe_int pa_nil))) pa_nil))) pa_nil)) (pa_cons (pe_lst (pa_cons (pe_tup (pa_cons (pe_tup (pa_cons pe_int (pa_cons pe_int pa_nil))) (pa_cons (pe_tup (pa_cons pe_int (pa_cons pe_int pa_nil))) pa_nil))) pa_nil)) (pa_cons (pe_lst (pa_cons (pe_tup (pa_cons (pe_tup (pa_cons pe_int (pa_cons pe_int pa_nil))) (pa_cons (pe_tup (pa_cons pe_int (pa_cons pe_int pa_nil))) pa_nil))) pa_nil)) (pa_cons (pe_lst (pa_cons (pe_tup (pa_cons (pe_tup (pa_cons pe_bl (pa_cons pe_int pa_nil))) (pa_cons (pe_tup (pa_cons pe_int (pa_cons pe_int pa_nil))) pa_nil))) pa_nil)) (pa_cons (pe_lst (pa_cons (pe_tup (pa_cons (pe_tup (pa_cons pe_int (pa_cons pe_int pa_nil))) (pa_cons (pe_tup (pa_cons pe_int (pa_cons pe_int pa_nil))) (pa_cons (pe_tup (pa_cons pe_int (pa_cons pe_int pa_nil))) pa_nil)))) pa_nil)) (pa_cons (pe_lst (pa_cons pe_non pa_nil)) (pa_cons (pe_lst (pa_cons (pe_tup (pa_cons (pe_tup (pa_cons pe_int (pa_cons pe_int pa_nil))) (pa_cons (pe_tup (pa_cons pe_int (pa_cons pe_int pa_nil))) pa_nil))) pa_nil)) pa_nil)))))))))))))))))))))
        (pss_cons (ps_for PassesOwn.never rfl (pi_listK (K := K) rfl (pv 3)) (pg_name (i := 4) sc_law0.nd rfl (by first | exact Or.inl rfl | exact Or.inr rfl))
        (pss_cons (ps_if (PW.pt (pw_or (pt_cmpR op_notBl (pe_h h_is_ladder hr (by decide) (by rfl) (pa_cons (pv 4) pa_nil)) pe_bl (nomark _)) (pw_or1 (pt_cmpR (opNe (K := K) rfl hr.units) (pe_lc (own := [("k", 7)]) (g := gName 7) rfl sc_law0.nd (pi_range1 rfl m_range (pa_cons pe_int pa_nil)) (blkOk_by (own := [("k", 7)]) (N := N_law0) (sc := defScope s_law0) (by decide +kernel)) (fun _ _ _ _ _ => by exact (pg_name (i := 7) sc_law0.nd rfl (by first | exact Or.inl rfl | exact Or.inr rfl))) (fun _ _ _ _ _ => by exact pts_nil) (fun _ _ _ _ _ => by exact (pe_h h_law_asked hr (by decide) (by rfl) (pa_cons pe_int (pa_cons (pv 7) (pa_cons (pv 4) (pa_cons pe_int (pa_cons pe_int pa_nil)))))))) (pe_op op_times (pe_lst (pa_cons pe_str pa_nil)) pe_int) (nomark _)))))
        (pss_one (ps_ret pe_bl))
        pss_nil)
        (pss_one (ps_if (PW.pt (pw_or (pt_cmpR (opNe (K := K) rfl hr.units) (pe_lc (own := [("k", 7)]) (g := gName 7) rfl sc_law0.nd (pi_range1 rfl m_range (pa_cons pe_int pa_nil)) (blkOk_by (own := [("k", 7)]) (N := N_law0) (sc := defScope s_law0) (by decide +kernel)) (fun _ _ _ _ _ => by exact (pg_name (i := 7) sc_law0.nd rfl (by first | exact Or.inl rfl | exact Or.inr rfl))) (fun _ _ _ _ _ => by exact pts_nil) (fun _ _ _ _ _ => by exact (pe_h h_law_asked hr (by decide) (by rfl) (pa_cons pe_int (pa_cons (pv 7) (pa_cons (pv 4) (pa_cons pe_non (pa_cons pe_non pa_nil)))))))) (pe_op op_times (pe_lst (pa_cons pe_str pa_nil)) pe_int) (nomark _)) (pw_or1 (pt_cmpR (opNe (K := K) rfl hr.units) (pe_lc (own := [("k", 7)]) (g := gName 7) rfl sc_law0.nd (pi_range1 rfl m_range (pa_cons pe_int pa_nil)) (blkOk_by (own := [("k", 7)]) (N := N_law0) (sc := defScope s_law0) (by decide +kernel)) (fun _ _ _ _ _ => by exact (pg_name (i := 7) sc_law0.nd rfl (by first | exact Or.inl rfl | exact Or.inr rfl))) (fun _ _ _ _ _ => by exact pts_nil) (fun _ _ _ _ _ => by exact (pe_h h_law_asked hr (by decide) (by rfl) (pa_cons pe_int (pa_cons (pv 7) (pa_cons (pv 4) (pa_cons pe_non (pa_cons pe_non pa_nil)))))))) (pe_op op_times (pe_lst (pa_cons pe_str pa_nil)) pe_int) (nomark _)))))
        (pss_one (ps_ret pe_bl))
        pss_nil))))
        (pss_cons (ps_set (i := 5) sc_law0.nd rfl (by first | exact Or.inl rfl | exact Or.inr rfl) (pe_h h_law_ladder hr (by decide) (by rfl) (pa_cons (pv 1) (pa_cons pe_int pa_nil))))
        (pss_cons (ps_set (i := 5) sc_law0.nd rfl (by first | exact Or.inl rfl | exact Or.inr rfl) (pe_ifExp (pt_cmpR op_lt (pe_callB (cLen (K := K) rfl) (by rfl) m_len PySem.boot_len (pa_cons (pv 5) pa_nil)) pe_int (nomark _)) (pe_op op_plus (pv 5) (pe_lst (pa_cons (pv 2) (pa_cons (pv 2) pa_nil)))) (pv 5)))
        (pss_cons (ps_set (i := 6) sc_law0.nd rfl (by first | exact Or.inl rfl | exact Or.inr rfl) (pe_op op_plus (pe_callB (cLen (K := K) rfl) (by rfl) m_len PySem.boot_len (pa_cons (pv 5) pa_nil)) pe_int))
        (pss_cons (ps_for PassesOwn.never rfl (pi_listK (K := K) rfl (pe_lst (pa_cons pe_non (pa_cons (pe_op op_plus (pv 6) pe_int) (pa_cons (pe_op op_sub pe_int pe_int) (pa_cons pe_bl (pa_cons pe_str pa_nil))))))) (pg_name (i := 4) sc_law0.nd rfl (by first | exact Or.inl rfl | exact Or.inr rfl))
        (pss_cons (ps_if (pt_cmpR (opNe (K := K) rfl hr.units) (pe_lc (own := [("k", 7)]) (g := gName 7) rfl sc_law0.nd (pi_range1 rfl m_range (pa_cons pe_int pa_nil)) (blkOk_by (own := [("k", 7)]) (N := N_law0) (sc := defScope s_law0) (by decide +kernel)) (fun _ _ _ _ _ => by exact (pg_name (i := 7) sc_law0.nd rfl (by first | exact Or.inl rfl | exact Or.inr rfl))) (fun _ _ _ _ _ => by exact pts_nil) (fun _ _ _ _ _ => by exact (pe_h h_law_asked hr (by decide) (by rfl) (pa_cons pe_int (pa_cons (pv 7) (pa_cons (pv 5) (pa_cons (pv 4) (pa_cons pe_non pa_nil)))))))) (pe_op op_times (pe_lst (pa_cons pe_str pa_nil)) pe_int) (nomark _))
        (pss_one (ps_ret pe_bl))
        pss_nil)
        (pss_one (ps_if (pt_cmpR (opNe (K := K) rfl hr.units) (pe_lc (own := [("k", 7)]) (g := gName 7) rfl sc_law0.nd (pi_range1 rfl m_range (pa_cons pe_int pa_nil)) (blkOk_by (own := [("k", 7)]) (N := N_law0) (sc := defScope s_law0) (by decide +kernel)) (fun _ _ _ _ _ => by exact (pg_name (i := 7) sc_law0.nd rfl (by first | exact Or.inl rfl | exact Or.inr rfl))) (fun _ _ _ _ _ => by exact pts_nil) (fun _ _ _ _ _ => by exact (pe_h h_law_asked hr (by decide) (by rfl) (pa_cons pe_int (pa_cons (pv 7) (pa_cons (pv 5) (pa_cons (pv 4) (pa_cons pe_non pa_nil)))))))) (pe_op op_times (pe_lst (pa_cons pe_str pa_nil)) pe_int) (nomark _))
        (pss_one (ps_ret pe_bl))
        pss_nil))))
        (pss_cons (ps_if (PW.pt (pw_or (pt_cmpR (opNe (K := K) rfl hr.units) (pe_lc (own := [("k", 7)]) (g := gName 7) rfl sc_law0.nd (pi_range1 rfl m_range (pa_cons pe_int pa_nil)) (blkOk_by (own := [("k", 7)]) (N := N_law0) (sc := defScope s_law0) (by decide +kernel)) (fun _ _ _ _ _ => by exact (pg_name (i := 7) sc_law0.nd rfl (by first | exact Or.inl rfl | exact Or.inr rfl))) (fun _ _ _ _ _ => by exact pts_nil) (fun _ _ _ _ _ => by exact (pe_h h_law_asked hr (by decide) (by rfl) (pa_cons pe_int (pa_cons (pv 7) (pa_cons (pv 5) (pa_cons pe_int (pa_cons pe_non pa_nil)))))))) (pe_op op_times (pe_lst (pa_cons pe_str pa_nil)) pe_int) (nomark _)) (pw_or1 (pt_cmpR (opNe (K := K) rfl hr.units) (pe_lc (own := [("k", 7)]) (g := gName 7) rfl sc_law0.nd (pi_range1 rfl m_range (pa_cons pe_int pa_nil)) (blkOk_by (own := [("k", 7)]) (N := N_law0) (sc := defScope s_law0) (by decide +kernel)) (fun _ _ _ _ _ => by exact (pg_name (i := 7) sc_law0.nd rfl (by first | exact Or.inl rfl | exact Or.inr rfl))) (fun _ _ _ _ _ => by exact pts_nil) (fun _ _ _ _ _ => by exact (pe_h h_law_asked hr (by decide) (by rfl) (pa_cons pe_int (pa_cons (pv 7) (pa_cons (pv 5) (pa_cons (pv 6) (pa_cons pe_non pa_nil)))))))) (pe_op op_plus (pe_op op_times (pe_lst (pa_cons pe_str pa_nil)) pe_int) (pe_op op_times (pe_lst (pa_cons pe_str pa_nil)) pe_int)) (nomark _)))))
        (pss_one (ps_ret pe_bl))
        pss_nil)
        (pss_one (ps_ret (pe_h h_law_numbers hr (by decide) (by rfl) (pa_cons (pv 5) (pa_cons (pv 6) pa_nil)))))))))))))), ?_⟩
  show DS EE X0 _ [.no, .drw, .no, .no, .no, .no, .no, .no] _ _
  walk_at "xg"
  refine rp_timesL (by decide) (by decide) ?_
  walk_at "xg"
  refine forI (fun i ρ => ∃ z3 z4 z7, ρ = [.no, .drw, .dat (.tuple [.tuple [.int 1, .int 2], .tuple [.int 1, .int 2]]), z3, z4, .no, .no, z7]) ⟨_, _, _, rfl⟩ ?_ ?_
  · rintro i d ρ' hi ⟨z3, z4, z7, rfl⟩
    have hb : isLadderD d = false := by
      have := List.all_eq_true.mp (show List.all _ (fun d => !isLadderD d) = true by decide +kernel) d (List.mem_of_getElem? hi)
      simpa using this
    walk_at "xg"
    refine ds_forget 7 ?_
    refine ds_guard ?_ ?_
    · walk_at "xg"
      rw [hb]
      walk_at "xg"
      refine lcI_same (.str "ladder") (by rw [rng_len]; decide) (fun x hx => ?_) ?_
      · obtain ⟨k, hk, rfl⟩ := mem_rng hx
        have hk : k < 15 := hk
        walk_at "xg"
        exact S_law_asked (.inl ⟨rfl, .lad (by omega) (by omega) hb⟩) rfl
      walk_at "xg"
      refine rp_timesL (by decide) (by decide) ?_
      refine rp_neReps (strOk_of _) (rng_len _ _) ?_
      exact ⟨_, rfl, rfl⟩
    refine ds_guard ?_ ?_
    · walk_at "xg"
      refine lcI_same (.str "ladder") (by rw [rng_len]; decide) (fun x hx => ?_) ?_
      · obtain ⟨k, hk, rfl⟩ := mem_rng hx
        have hk : k < 16 := hk
        walk_at "xg"
        exact S_law_asked (.inr (.inl ⟨rfl, .lad (by omega) (by omega) hb⟩)) rfl
      walk_at "xg"
      refine rp_timesL (by decide) (by decide) ?_
      refine rp_neReps (strOk_of _) (rng_len _ _) ?_
      walk_at "xg"
      refine lcI_same (.str "ladder") (by rw [rng_len]; decide) (fun x hx => ?_) ?_
      · obtain ⟨k, hk, rfl⟩ := mem_rng hx
        have hk : k < 7 := hk
        walk_at "xg"
        exact S_law_asked (.inr (.inr ⟨rfl, .lad (by omega) (by omega) hb⟩)) rfl
      walk_at "xg"
      refine rp_timesL (by decide) (by decide) ?_
      refine rp_neReps (strOk_of _) (rng_len _ _) ?_
      exact ⟨_, rfl, rfl⟩
    exact ⟨_, _, _, rfl⟩
  rintro ρ' ⟨z3, z4, z7, rfl⟩
  refine ds_forget 7 ?_
  walk_at "xg"
  refine S_law_ladder (by decide) (by decide) fun L0 gl0 hl5 => ?_
  have hge0 := gl0.ge
  refine ds_seq ?_
  refine ds_mono (fun ρ => ∃ L : Lad, Gd L ∧ 2 ≤ L.length ∧ L.length ≤ 5 ∧ ρ = [.no, .drw, .dat (.tuple [.tuple [.int 1, .int 2], .tuple [.int 1, .int 2]]), z3, z4, .dat (encL L), .no, .no]) ?_ ?_
  · walk_at "xg"
    refine iteD (fun e => ?_) (fun e => ?_)
    · walk_at "xg"
      refine rp_plusL (by rw [List.length_map]; show _ + 2 ≤ _; omega) ?_
      refine ⟨L0 ++ [halfR, halfR], ⟨⟨?_, ?_⟩, ?_⟩, ?_, ?_, ?_⟩
      · rw [List.length_append]; show 1 ≤ _ + 2; omega
      · intro x hx
        rcases List.mem_append.mp hx with hx | hx
        · exact gl0.sh x hx
        · have hx' : x = halfR := by simpa using hx
          rw [hx']; exact half_gs
      · rw [List.length_append]; show _ + 2 ≤ 8; omega
      · rw [List.length_append]; show 2 ≤ _ + 2; omega
      · rw [List.length_append]; show _ + 2 ≤ 5; omega
      · show _ = [Slot.no, .drw, _, z3, z4, .dat (.list ((L0 ++ [halfR, halfR]).map encR)), .no, .no]
        rw [List.map_append, halfR_enc]; rfl
    · walk_at "xg"
      exact ⟨L0, ⟨gl0, by omega⟩, by omega, by omega, rfl⟩
  rintro ρ' ⟨L, g, h2, h5, rfl⟩
  have hL := g.is
  have hln := ln_enc L
  walk_at "xg"
  refine forI (fun i ρ => ∃ z4 z7, ρ = [.no, .drw, .dat (.tuple [.tuple [.int 1, .int 2], .tuple [.int 1, .int 2]]), z3, z4, .dat (encL L), .dat (.int ((L.length : Int) + 1)), z7]) ⟨_, _, rfl⟩ ?_ ?_
  · rintro i d ρ' hi ⟨z4, z7, rfl⟩
    have hb : isIntIn d 0 ((L.length : Int) + 1) = false ∧ isIntIn d 1 (L.length : Int) = false ∧ isIntIn d 1 ((L.length : Int) + 1) = false := by
      have hm := List.mem_of_getElem? hi
      have hm' : d = .none ∨ d = .int ((L.length : Int) + 1 + 1) ∨ d = .int (0 - 1) ∨ d = .bool true ∨ d = .str "1" := by simpa using hm
      rcases hm' with rfl | rfl | rfl | rfl | rfl
      · exact ⟨rfl, rfl, rfl⟩
      · exact ⟨int_off (by omega), int_off (by omega), int_off (by omega)⟩
      · exact ⟨int_off (by omega), int_off (by omega), int_off (by omega)⟩
      · exact ⟨rfl, rfl, rfl⟩
      · exact ⟨rfl, rfl, rfl⟩
    obtain ⟨b1, b2, b3⟩ := hb
    walk_at "xg"
    refine ds_forget 7 ?_
    refine ds_guard ?_ ?_
    · walk_at "xg"
      refine lcI_same (.str "rung") (by rw [rng_len]; decide) (fun x hx => ?_) ?_
      · obtain ⟨k, hk, rfl⟩ := mem_rng hx
        have hk : k < 16 := hk
        walk_at "xg"
        exact S_law_asked (.inr (.inl ⟨rfl, .rung (by omega) (by omega) hL (by rw [hln]; exact b1)⟩)) rfl
      walk_at "xg"
      refine rp_timesL (by decide) (by decide) ?_
      refine rp_neReps (strOk_of _) (rng_len _ _) ?_
      exact ⟨_, rfl, rfl⟩
    refine ds_guard ?_ ?_
    · walk_at "xg"
      refine lcI_same (.str "rung") (by rw [rng_len]; decide) (fun x hx => ?_) ?_
      · obtain ⟨k, hk, rfl⟩ := mem_rng hx
        have hk : k < 7 := hk
        walk_at "xg"
        exact S_law_asked (.inr (.inr ⟨rfl, .rung (by omega) (by omega) hL (by rw [hln]; exact b2) (fun _ => by rw [hln]; exact b3)⟩)) rfl
      walk_at "xg"
      refine rp_timesL (by decide) (by decide) ?_
      refine rp_neReps (strOk_of _) (rng_len _ _) ?_
      exact ⟨_, rfl, rfl⟩
    exact ⟨_, _, rfl⟩
  rintro ρ' ⟨z4, z7, rfl⟩
  refine ds_forget 7 ?_
  walk_at "xg"
  refine ds_guard ?_ ?_
  · walk_at "xg"
    refine lcI_same (.str "rung") (by rw [rng_len]; decide) (fun x hx => ?_) ?_
    · obtain ⟨k, hk, rfl⟩ := mem_rng hx
      have hk : k < 7 := hk
      walk_at "xg"
      exact S_law_asked (.inr (.inr ⟨rfl, .rung (by omega) (by omega) hL (int_off (by omega)) (fun _ => int_off (by omega))⟩)) rfl
    walk_at "xg"
    refine rp_timesL (by decide) (by decide) ?_
    refine rp_neReps (strOk_of _) (rng_len _ _) ?_
    walk_at "xg"
    refine lcI_map (fun k : Nat => PyData.str (if k < 5 then "rung" else "share")) ?_ ?_ ?_
    · rw [List.length_range]; decide
    · intro i k hi
      obtain ⟨rfl, hk⟩ := range_get hi
      have hk : k < 7 := hk
      walk_at "xg"
      by_cases h5k : k < 5
      · rw [if_pos h5k]
        exact S_law_asked (.inr (.inr ⟨rfl, .rung (by omega) (by omega) hL (int_off (by rw [hln]; omega)) (fun z => absurd z (by omega))⟩)) rfl
      · rw [if_neg h5k]
        exact S_law_asked (.inr (.inr ⟨rfl, .share (by omega) (by omega) hL (fun z => absurd z (by omega)) (isInt_t (by omega) (by rw [hln]; exact Int.le_refl _)) rfl⟩)) rfl
    walk_at "xg"
    refine rp_timesL (by decide) (by decide) ?_
    walk_at "xg"
    refine rp_timesL (by decide) (by decide) ?_
    refine rp_plusL (by decide) ?_
    show RP (rNeD K) (.list ((["rung", "rung", "rung", "rung", "rung", "share", "share"] : List Str).map PyData.str)) (.list ((["rung", "rung", "rung", "rung", "rung", "share", "share"] : List Str).map PyData.str)) _
    have hso : ∀ y ∈ (["rung", "rung", "rung", "rung", "rung", "share", "share"] : List Str), PyData.strOk y = true := fun y hy => List.all_eq_true.mp (show (["rung", "rung", "rung", "rung", "rung", "share", "share"] : List Str).all PyData.strOk = true by decide +kernel) y hy
    refine rp_neStrs hso hso ⟨_, rfl, notDec rfl⟩
  walk_at "xg"
  exact S_law_numbers g h2 (by omega) rfl
end
theorem all_ok {P : Program} {w : World} {K : PySem.W.Frag} {mg : Str → Option Value} {base : Heap} {f : Addr} {fd : FuncData} (F : Fun K "law" "law" s_law0 f fd) {wc : Addr} (T : WTxt K mg wc)
    (D_law_error : DefIn K mg "_law_error" s_law_error ["caught"])
    (D_common : DefIn K mg "common" s_common ["one", "other"])
    (D_is_int : DefIn K mg "is_int" s_is_int ["value", "low", "high"])
    (D_is_share : DefIn K mg "is_share" s_is_share ["value"])
    (D_is_ladder : DefIn K mg "is_ladder" s_is_ladder ["value"])
    (D_checked : DefIn K mg "checked" s_checked ["ladder"])
    (D_check_share : DefIn K mg "check_share" s_check_share ["value"])
    (D_check_ladder : DefIn K mg "check_ladder" s_check_ladder ["value"])
    (D_joined : DefIn K mg "joined" s_joined ["one", "other", "up", "down"])
    (D_share_text : DefIn K mg "share_text" s_share_text ["value"])
    (D_format_ladder : DefIn K mg "format_ladder" s_format_ladder ["ladder"])
    (D_lowest : DefIn K mg "lowest" s_lowest ["top", "below"])
    (D_divided : DefIn K mg "divided" s_divided ["one", "other"])
    (D_plus : DefIn K mg "plus" s_plus ["one", "other"])
    (D_without_stays : DefIn K mg "without_stays" s_without_stays ["ladder"])
    (D_turned_over : DefIn K mg "turned_over" s_turned_over ["ladder"])
    (D_minus : DefIn K mg "minus" s_minus ["one", "other"])
    (D_rests : DefIn K mg "rests" s_rests ["ladder"])
    (D_times_of : DefIn K mg "times_of" s_times_of ["one", "other"])
    (D_total : DefIn K mg "total" s_total ["some"])
    (D_products_of : DefIn K mg "products_of" s_products_of ["some"])
    (D_quotients_of : DefIn K mg "quotients_of" s_quotients_of ["ladder"])
    (D_between_of : DefIn K mg "between_of" s_between_of ["ladder", "low", "high", "rung"])
    (D_top_of : DefIn K mg "top_of" s_top_of ["ladder", "rung"])
    (D_given_of : DefIn K mg "given_of" s_given_of ["ladder", "rung", "high"])
    (D_given_bottom : DefIn K mg "given_bottom" s_given_bottom ["ladder"])
    (D_given_top : DefIn K mg "given_top" s_given_top ["ladder"])
    (D_means_of : DefIn K mg "means_of" s_means_of ["ladder"])
    (D_longest_rung : DefIn K mg "longest_rung" s_longest_rung ["ladder"])
    (D_all_mean_steps : DefIn K mg "all_mean_steps" s_all_mean_steps ["ladder"])
    (D_end_alike : DefIn K mg "end_alike" s_end_alike ["one", "other"])
    (D_is_fair : DefIn K mg "is_fair" s_is_fair ["ladder"])
    (D_top_chances : DefIn K mg "top_chances" s_top_chances ["ladder"])
    (D_quotients : DefIn K mg "quotients" s_quotients ["ladder"])
    (D_law_one : DefIn K mg "_law_one" s_law_one ["which", "ladder"])
    (D_next_of : DefIn K mg "next_of" s_next_of ["ladder", "chances"])
    (D_less : DefIn K mg "less" s_less ["one", "other"])
    (D_after_of : DefIn K mg "after_of" s_after_of ["ladder", "rung", "many"])
    (D_check_rung : DefIn K mg "check_rung" s_check_rung ["ladder", "value"])
    (D_first_by : DefIn K mg "first_by" s_first_by ["ladder", "rung", "share"])
    (D_check_many : DefIn K mg "check_many" s_check_many ["value"])
    (D_top_after : DefIn K mg "top_after" s_top_after ["ladder", "rung", "many", "other"])
    (D_after_given_top : DefIn K mg "after_given_top" s_after_given_top ["ladder", "rung", "many"])
    (D_likeliest : DefIn K mg "likeliest" s_likeliest ["ladder", "rung", "many"])
    (D_top_at : DefIn K mg "top_at" s_top_at ["ladder", "rung", "many"])
    (D_ends_at : DefIn K mg "ends_at" s_ends_at ["ladder", "rung", "many"])
    (D_ended_by : DefIn K mg "ended_by" s_ended_by ["ladder", "rung", "many"])
    (D_after : DefIn K mg "after" s_after ["ladder", "rung", "many"])
    (D_Walker_init__ : DefM K wc "__init__" "Walker.__init__" s_Walker_init__ ["self", "ladder", "rung"])
    (D_ever_of : DefIn K mg "ever_of" s_ever_of ["ladder", "rung", "other"])
    (D_check_inner : DefIn K mg "check_inner" s_check_inner ["ladder", "value"])
    (D_visits : DefIn K mg "visits" s_visits ["ladder", "rung", "other"])
    (D_ever_at : DefIn K mg "ever_at" s_ever_at ["ladder", "rung", "other"])
    (D_mean_steps : DefIn K mg "mean_steps" s_mean_steps ["ladder", "rung"])
    (D_mean_end : DefIn K mg "mean_end" s_mean_end ["ladder", "rung"])
    (D_bottom_chance : DefIn K mg "bottom_chance" s_bottom_chance ["ladder", "rung"])
    (D_top_chance : DefIn K mg "top_chance" s_top_chance ["ladder", "rung"])
    (D_law_runged : DefIn K mg "_law_runged" s_law_runged ["which", "ladder", "rung", "many"])
    (D_with_rung : DefIn K mg "with_rung" s_with_rung ["ladder", "rung", "up", "down"])
    (D_slower : DefIn K mg "slower" s_slower ["ladder", "rung", "share"])
    (D_without_rung : DefIn K mg "without_rung" s_without_rung ["ladder", "rung"])
    (D_stays_given_top : DefIn K mg "stays_given_top" s_stays_given_top ["ladder", "rung"])
    (D_mean_stay : DefIn K mg "mean_stay" s_mean_stay ["ladder", "rung"])
    (D_law_inner : DefIn K mg "_law_inner" s_law_inner ["which", "ladder", "rung", "share"])
    (D_law_asked : DefIn K mg "_law_asked" s_law_asked ["group", "which", "ladder", "rung", "thing"])
    (D_law_numbers : DefIn K mg "_law_numbers" s_law_numbers ["ladder", "last"])
    (D_law_draw : DefIn K mg "_law_draw" s_law_draw ["draws", "limit"])
    (D_law_low : DefIn K mg "_law_low" s_law_low ["top", "under"])
    (D_law_pick : DefIn K mg "_law_pick" s_law_pick ["draws", "choices"])
    (D_law_ladder : DefIn K mg "_law_ladder" s_law_ladder ["draws", "most"])
    (D_law_start : DefIn K mg "_law_start" s_law_start ["script"])
    (m_isinstance : mg "isinstance" = none)
    (m_bool : mg "bool" = none)
    (m_int : mg "int" = none)
    (m_len : mg "len" = none)
    (m_tuple : mg "tuple" = none)
    (m_list : mg "list" = none)
    (m_str : mg "str" = none)
    (m_abs : mg "abs" = none)
    (m_range : mg "range" = none)
    (m_zip : mg "zip" = none)
    (m_enumerate : mg "enumerate" = none)
    (m_all : mg "all" = none)
    (m_any : mg "any" = none)
    (g_MOST_UNDER : ∃ t, mg "MOST_UNDER" = some (.int 1000 t))
    {er : Er} (G : GTxt mg er)
    (r_BadLadder : RTxt K mg "BadLadder" er.bl)
    (r_BadShare : RTxt K mg "BadShare" er.bs)
    (r_BadRung : RTxt K mg "BadRung" er.br)
    (r_BadNumber : RTxt K mg "BadNumber" er.bn)
    (r_NotFound : RTxt K mg "NotFound" er.nf)
    (x_BadLadder : XTxt K er er.bl 0)
    (x_BadRung : XTxt K er er.br 1)
    (x_BadShare : XTxt K er er.bs 2)
    (x_BadNumber : XTxt K er er.bn 3)
    (x_NotFound : XTxt K er er.nf 5)
    : FnOk P w K mg base CX0 12 f fd ["script"] (spLaw K) := by
  have h_law_error := has_law_error (P := P) (w := w) (base := base) D_law_error m_isinstance G
  have h_common := has_common (P := P) (w := w) (base := base) D_common
  have h_is_int := has_is_int (P := P) (w := w) (base := base) D_is_int m_isinstance m_bool m_int
  have h_is_share := has_is_share (P := P) (w := w) (base := base) D_is_share h_common h_is_int m_len m_isinstance m_tuple g_MOST_UNDER
  have h_is_ladder := has_is_ladder (P := P) (w := w) (base := base) D_is_ladder h_is_share m_len m_isinstance m_tuple m_list
  have h_checked := has_checked (P := P) (w := w) (base := base) D_checked h_is_ladder r_BadLadder
  have h_check_share := has_check_share (P := P) (w := w) (base := base) D_check_share h_is_share r_BadShare
  have h_check_ladder := has_check_ladder (P := P) (w := w) (base := base) D_check_ladder h_is_ladder r_BadLadder
  have h_joined := has_joined (P := P) (w := w) (base := base) D_joined h_checked h_check_share h_check_ladder
  have h_share_text := has_share_text (P := P) (w := w) (base := base) D_share_text m_str
  have h_format_ladder := has_format_ladder (P := P) (w := w) (base := base) D_format_ladder h_share_text h_check_ladder
  have h_lowest := has_lowest (P := P) (w := w) (base := base) D_lowest h_common m_abs
  have h_divided := has_divided (P := P) (w := w) (base := base) D_divided h_lowest
  have h_plus := has_plus (P := P) (w := w) (base := base) D_plus h_lowest
  have h_without_stays := has_without_stays (P := P) (w := w) (base := base) D_without_stays h_checked h_divided h_plus h_check_ladder
  have h_turned_over := has_turned_over (P := P) (w := w) (base := base) D_turned_over h_check_ladder
  have h_minus := has_minus (P := P) (w := w) (base := base) D_minus h_lowest
  have h_rests := has_rests (P := P) (w := w) (base := base) D_rests h_minus h_plus h_is_ladder r_BadLadder
  have h_times_of := has_times_of (P := P) (w := w) (base := base) D_times_of h_lowest
  have h_total := has_total (P := P) (w := w) (base := base) D_total h_plus
  have h_products_of := has_products_of (P := P) (w := w) (base := base) D_products_of h_times_of
  have h_quotients_of := has_quotients_of (P := P) (w := w) (base := base) D_quotients_of h_divided
  have h_between_of := has_between_of (P := P) (w := w) (base := base) D_between_of h_divided h_total h_products_of h_quotients_of
  have h_top_of := has_top_of (P := P) (w := w) (base := base) D_top_of h_between_of m_len
  have h_given_of := has_given_of (P := P) (w := w) (base := base) D_given_of h_divided h_times_of h_minus h_top_of
  have h_given_bottom := has_given_bottom (P := P) (w := w) (base := base) D_given_bottom h_given_of h_check_ladder m_range m_len
  have h_given_top := has_given_top (P := P) (w := w) (base := base) D_given_top h_given_of h_check_ladder m_range m_len
  have h_means_of := has_means_of (P := P) (w := w) (base := base) D_means_of h_plus h_minus h_times_of h_divided h_total m_zip
  have h_longest_rung := has_longest_rung (P := P) (w := w) (base := base) D_longest_rung h_means_of h_check_ladder m_enumerate
  have h_all_mean_steps := has_all_mean_steps (P := P) (w := w) (base := base) D_all_mean_steps h_means_of h_check_ladder
  have h_end_alike := has_end_alike (P := P) (w := w) (base := base) D_end_alike h_quotients_of h_check_ladder
  have h_is_fair := has_is_fair (P := P) (w := w) (base := base) D_is_fair h_check_ladder m_all
  have h_top_chances := has_top_chances (P := P) (w := w) (base := base) D_top_chances h_top_of h_check_ladder m_range m_len
  have h_quotients := has_quotients (P := P) (w := w) (base := base) D_quotients h_quotients_of h_check_ladder
  have h_law_one := has_law_one (P := P) (w := w) (base := base) D_law_one h_joined h_format_ladder h_without_stays h_turned_over h_rests h_given_bottom h_given_top h_longest_rung h_all_mean_steps h_end_alike h_is_fair h_top_chances h_quotients
  have h_next_of := has_next_of (P := P) (w := w) (base := base) D_next_of h_plus h_times_of h_minus m_enumerate m_len
  have h_less := has_less (P := P) (w := w) (base := base) D_less
  have h_after_of := has_after_of (P := P) (w := w) (base := base) D_after_of h_next_of m_range m_len
  have h_check_rung := has_check_rung (P := P) (w := w) (base := base) D_check_rung h_is_int m_len r_BadRung
  have h_first_by := has_first_by (P := P) (w := w) (base := base) D_first_by h_next_of h_less h_plus h_after_of h_check_share h_check_rung h_check_ladder m_range
  have h_check_many := has_check_many (P := P) (w := w) (base := base) D_check_many h_is_int r_BadNumber
  have h_top_after := has_top_after (P := P) (w := w) (base := base) D_top_after h_top_of h_after_of h_check_rung h_check_many h_check_ladder r_NotFound
  have h_after_given_top := has_after_given_top (P := P) (w := w) (base := base) D_after_given_top h_divided h_times_of h_top_of h_after_of h_check_many h_check_rung h_check_ladder m_enumerate r_NotFound
  have h_likeliest := has_likeliest (P := P) (w := w) (base := base) D_likeliest h_less h_after_of h_check_many h_check_rung h_check_ladder m_enumerate m_any
  have h_top_at := has_top_at (P := P) (w := w) (base := base) D_top_at h_minus h_after_of h_check_many h_check_rung h_check_ladder
  have h_ends_at := has_ends_at (P := P) (w := w) (base := base) D_ends_at h_minus h_plus h_after_of h_check_many h_check_rung h_check_ladder
  have h_ended_by := has_ended_by (P := P) (w := w) (base := base) D_ended_by h_plus h_after_of h_check_many h_check_rung h_check_ladder
  have h_after := has_after (P := P) (w := w) (base := base) D_after h_after_of h_check_many h_check_rung h_check_ladder
  have h_Walker_init__ := has_Walker_init__ (P := P) (w := w) (base := base) D_Walker_init__ h_check_rung h_check_ladder m_list T
  have h_ever_of := has_ever_of (P := P) (w := w) (base := base) D_ever_of h_minus h_between_of m_len
  have h_check_inner := has_check_inner (P := P) (w := w) (base := base) D_check_inner h_is_int m_len r_BadRung
  have h_visits := has_visits (P := P) (w := w) (base := base) D_visits h_divided h_ever_of h_plus h_times_of h_minus h_check_inner h_check_rung h_check_ladder
  have h_ever_at := has_ever_at (P := P) (w := w) (base := base) D_ever_at h_ever_of h_check_rung h_check_ladder
  have h_mean_steps := has_mean_steps (P := P) (w := w) (base := base) D_mean_steps h_means_of h_check_rung h_check_ladder
  have h_mean_end := has_mean_end (P := P) (w := w) (base := base) D_mean_end h_times_of h_top_of h_check_rung h_check_ladder m_len
  have h_bottom_chance := has_bottom_chance (P := P) (w := w) (base := base) D_bottom_chance h_minus h_top_of h_check_rung h_check_ladder
  have h_top_chance := has_top_chance (P := P) (w := w) (base := base) D_top_chance h_top_of h_check_rung h_check_ladder
  have h_law_runged := has_law_runged (P := P) (w := w) (base := base) D_law_runged h_first_by h_top_after h_after_given_top h_likeliest h_top_at h_ends_at h_ended_by h_after h_Walker_init__ h_visits h_ever_at h_mean_steps h_mean_end h_bottom_chance h_top_chance T
  have h_with_rung := has_with_rung (P := P) (w := w) (base := base) D_with_rung h_checked h_check_share h_is_int h_check_ladder m_len r_BadRung
  have h_slower := has_slower (P := P) (w := w) (base := base) D_slower h_checked h_times_of h_check_share h_check_inner h_check_ladder
  have h_without_rung := has_without_rung (P := P) (w := w) (base := base) D_without_rung h_checked h_check_inner h_check_ladder
  have h_stays_given_top := has_stays_given_top (P := P) (w := w) (base := base) D_stays_given_top h_minus h_given_of h_check_inner h_check_ladder
  have h_mean_stay := has_mean_stay (P := P) (w := w) (base := base) D_mean_stay h_divided h_plus h_check_inner h_check_ladder
  have h_law_inner := has_law_inner (P := P) (w := w) (base := base) D_law_inner h_with_rung h_slower h_without_rung h_stays_given_top h_mean_stay h_visits
  have h_law_asked := has_law_asked (P := P) (w := w) (base := base) D_law_asked h_law_error h_law_one h_law_runged h_law_inner G x_BadLadder x_BadRung x_BadShare x_BadNumber x_NotFound
  have h_law_numbers := has_law_numbers (P := P) (w := w) (base := base) D_law_numbers h_law_asked h_is_share h_is_ladder m_range
  have h_law_draw := has_law_draw (P := P) (w := w) (base := base) D_law_draw m_len
  have h_law_low := has_law_low (P := P) (w := w) (base := base) D_law_low m_abs
  have h_law_pick := has_law_pick (P := P) (w := w) (base := base) D_law_pick h_law_draw m_len
  have h_law_ladder := has_law_ladder (P := P) (w := w) (base := base) D_law_ladder h_law_draw h_law_low h_law_pick m_range
  have h_law_start := has_law_start (P := P) (w := w) (base := base) D_law_start m_list
  exact ok_law F h_law_numbers h_law_asked h_law_ladder h_is_ladder h_law_start m_range m_len
theorem all_mk {P : Program} {w : World} {K : PySem.W.Frag} {h : Heap} {mg : Str → Option Value} {fa : Addr} (X : K.In h) (G : h.Ns mainGlobals mg) (hfa : mg "law" = some (.ref fa))
    {wc : Addr} (w_g : PySem.W.nsIn K mainGlobals "Walker" = some (some (.ref wc))) (w_pg : PySem.W.plainGet K wc Str.empty = true) (w_hd : PySem.W.hasDictIn K wc = true) (w_po : PySem.W.plainOver K wc = true) (w_sa : PySem.W.findIn K (.ref wc) "__setattr__" = some (some (.builtin "object.__setattr__"))) (w_nL : PySem.W.findIn K (.ref wc) "ladder" = some none) (w_nI : PySem.W.findIn K (.ref wc) "line" = some none) (w_nM : PySem.W.findIn K (.ref wc) "moves" = some none) (w_mk : PySem.W.makesIn K wc = true) (w_kp : PySem.W.keepIn K (.ref wc) = true)
    {f_law_error : Addr} {od_law_error an_law_error : Option Addr} {sl_law_error : Array (Option Value)} {oc_law_error kV_law_error dc_law_error pm_law_error cd_law_error ct_law_error : Value}
    (a_law_error : PySem.W.nsIn K mainGlobals "_law_error" = some (some (.ref f_law_error))) (l_law_error : K.lookup f_law_error = some ⟨oc_law_error, od_law_error, .func (PySem.W.fnOf "_law_error" "_law_error" (defArgs s_law_error) (defBody s_law_error) (defScope s_law_error) .none kV_law_error dc_law_error pm_law_error an_law_error cd_law_error ct_law_error), sl_law_error⟩) (c_law_error : PySem.W.codeIn K cd_law_error "_law_error" = true) (k_law_error : PySem.W.keepIn K (.ref f_law_error) = true)
    {f_common : Addr} {od_common an_common : Option Addr} {sl_common : Array (Option Value)} {oc_common kV_common dc_common pm_common cd_common ct_common : Value}
    (a_common : PySem.W.nsIn K mainGlobals "common" = some (some (.ref f_common))) (l_common : K.lookup f_common = some ⟨oc_common, od_common, .func (PySem.W.fnOf "common" "common" (defArgs s_common) (defBody s_common) (defScope s_common) .none kV_common dc_common pm_common an_common cd_common ct_common), sl_common⟩) (c_common : PySem.W.codeIn K cd_common "common" = true) (k_common : PySem.W.keepIn K (.ref f_common) = true)
    {f_is_int : Addr} {od_is_int an_is_int : Option Addr} {sl_is_int : Array (Option Value)} {oc_is_int kV_is_int dc_is_int pm_is_int cd_is_int ct_is_int : Value}
    (a_is_int : PySem.W.nsIn K mainGlobals "is_int" = some (some (.ref f_is_int))) (l_is_int : K.lookup f_is_int = some ⟨oc_is_int, od_is_int, .func (PySem.W.fnOf "is_int" "is_int" (defArgs s_is_int) (defBody s_is_int) (defScope s_is_int) .none kV_is_int dc_is_int pm_is_int an_is_int cd_is_int ct_is_int), sl_is_int⟩) (c_is_int : PySem.W.codeIn K cd_is_int "is_int" = true) (k_is_int : PySem.W.keepIn K (.ref f_is_int) = true)
    {f_is_share : Addr} {od_is_share an_is_share : Option Addr} {sl_is_share : Array (Option Value)} {oc_is_share kV_is_share dc_is_share pm_is_share cd_is_share ct_is_share : Value}
    (a_is_share : PySem.W.nsIn K mainGlobals "is_share" = some (some (.ref f_is_share))) (l_is_share : K.lookup f_is_share = some ⟨oc_is_share, od_is_share, .func (PySem.W.fnOf "is_share" "is_share" (defArgs s_is_share) (defBody s_is_share) (defScope s_is_share) .none kV_is_share dc_is_share pm_is_share an_is_share cd_is_share ct_is_share), sl_is_share⟩) (c_is_share : PySem.W.codeIn K cd_is_share "is_share" = true) (k_is_share : PySem.W.keepIn K (.ref f_is_share) = true)
    {f_is_ladder : Addr} {od_is_ladder an_is_ladder : Option Addr} {sl_is_ladder : Array (Option Value)} {oc_is_ladder kV_is_ladder dc_is_ladder pm_is_ladder cd_is_ladder ct_is_ladder : Value}
    (a_is_ladder : PySem.W.nsIn K mainGlobals "is_ladder" = some (some (.ref f_is_ladder))) (l_is_ladder : K.lookup f_is_ladder = some ⟨oc_is_ladder, od_is_ladder, .func (PySem.W.fnOf "is_ladder" "is_ladder" (defArgs s_is_ladder) (defBody s_is_ladder) (defScope s_is_ladder) .none kV_is_ladder dc_is_ladder pm_is_ladder an_is_ladder cd_is_ladder ct_is_ladder), sl_is_ladder⟩) (c_is_ladder : PySem.W.codeIn K cd_is_ladder "is_ladder" = true) (k_is_ladder : PySem.W.keepIn K (.ref f_is_ladder) = true)
    {f_checked : Addr} {od_checked an_checked : Option Addr} {sl_checked : Array (Option Value)} {oc_checked kV_checked dc_checked pm_checked cd_checked ct_checked : Value}
    (a_checked : PySem.W.nsIn K mainGlobals "checked" = some (some (.ref f_checked))) (l_checked : K.lookup f_checked = some ⟨oc_checked, od_checked, .func (PySem.W.fnOf "checked" "checked" (defArgs s_checked) (defBody s_checked) (defScope s_checked) .none kV_checked dc_checked pm_checked an_checked cd_checked ct_checked), sl_checked⟩) (c_checked : PySem.W.codeIn K cd_checked "checked" = true) (k_checked : PySem.W.keepIn K (.ref f_checked) = true)
    {f_check_share : Addr} {od_check_share an_check_share : Option Addr} {sl_check_share : Array (Option Value)} {oc_check_share kV_check_share dc_check_share pm_check_share cd_check_share ct_check_share : Value}
    (a_check_share : PySem.W.nsIn K mainGlobals "check_share" = some (some (.ref f_check_share))) (l_check_share : K.lookup f_check_share = some ⟨oc_check_share, od_check_share, .func (PySem.W.fnOf "check_share" "check_share" (defArgs s_check_share) (defBody s_check_share) (defScope s_check_share) .none kV_check_share dc_check_share pm_check_share an_check_share cd_check_share ct_check_share), sl_check_share⟩) (c_check_share : PySem.W.codeIn K cd_check_share "check_share" = true) (k_check_share : PySem.W.keepIn K (.ref f_check_share) = true)
    {f_check_ladder : Addr} {od_check_ladder an_check_ladder : Option Addr} {sl_check_ladder : Array (Option Value)} {oc_check_ladder kV_check_ladder dc_check_ladder pm_check_ladder cd_check_ladder ct_check_ladder : Value}
    (a_check_ladder : PySem.W.nsIn K mainGlobals "check_ladder" = some (some (.ref f_check_ladder))) (l_check_ladder : K.lookup f_check_ladder = some ⟨oc_check_ladder, od_check_ladder, .func (PySem.W.fnOf "check_ladder" "check_ladder" (defArgs s_check_ladder) (defBody s_check_ladder) (defScope s_check_ladder) .none kV_check_ladder dc_check_ladder pm_check_ladder an_check_ladder cd_check_ladder ct_check_ladder), sl_check_ladder⟩) (c_check_ladder : PySem.W.codeIn K cd_check_ladder "check_ladder" = true) (k_check_ladder : PySem.W.keepIn K (.ref f_check_ladder) = true)
    {f_joined : Addr} {od_joined an_joined : Option Addr} {sl_joined : Array (Option Value)} {oc_joined kV_joined dc_joined pm_joined cd_joined ct_joined : Value}
    (a_joined : PySem.W.nsIn K mainGlobals "joined" = some (some (.ref f_joined))) (l_joined : K.lookup f_joined = some ⟨oc_joined, od_joined, .func (PySem.W.fnOf "joined" "joined" (defArgs s_joined) (defBody s_joined) (defScope s_joined) .none kV_joined dc_joined pm_joined an_joined cd_joined ct_joined), sl_joined⟩) (c_joined : PySem.W.codeIn K cd_joined "joined" = true) (k_joined : PySem.W.keepIn K (.ref f_joined) = true)
    {f_share_text : Addr} {od_share_text an_share_text : Option Addr} {sl_share_text : Array (Option Value)} {oc_share_text kV_share_text dc_share_text pm_share_text cd_share_text ct_share_text : Value}
    (a_share_text : PySem.W.nsIn K mainGlobals "share_text" = some (some (.ref f_share_text))) (l_share_text : K.lookup f_share_text = some ⟨oc_share_text, od_share_text, .func (PySem.W.fnOf "share_text" "share_text" (defArgs s_share_text) (defBody s_share_text) (defScope s_share_text) .none kV_share_text dc_share_text pm_share_text an_share_text cd_share_text ct_share_text), sl_share_text⟩) (c_share_text : PySem.W.codeIn K cd_share_text "share_text" = true) (k_share_text : PySem.W.keepIn K (.ref f_share_text) = true)
    {f_format_ladder : Addr} {od_format_ladder an_format_ladder : Option Addr} {sl_format_ladder : Array (Option Value)} {oc_format_ladder kV_format_ladder dc_format_ladder pm_format_ladder cd_format_ladder ct_format_ladder : Value}
    (a_format_ladder : PySem.W.nsIn K mainGlobals "format_ladder" = some (some (.ref f_format_ladder))) (l_format_ladder : K.lookup f_format_ladder = some ⟨oc_format_ladder, od_format_ladder, .func (PySem.W.fnOf "format_ladder" "format_ladder" (defArgs s_format_ladder) (defBody s_format_ladder) (defScope s_format_ladder) .none kV_format_ladder dc_format_ladder pm_format_ladder an_format_ladder cd_format_ladder ct_format_ladder), sl_format_ladder⟩) (c_format_ladder : PySem.W.codeIn K cd_format_ladder "format_ladder" = true) (k_format_ladder : PySem.W.keepIn K (.ref f_format_ladder) = true)
    {f_lowest : Addr} {od_lowest an_lowest : Option Addr} {sl_lowest : Array (Option Value)} {oc_lowest kV_lowest dc_lowest pm_lowest cd_lowest ct_lowest : Value}
    (a_lowest : PySem.W.nsIn K mainGlobals "lowest" = some (some (.ref f_lowest))) (l_lowest : K.lookup f_lowest = some ⟨oc_lowest, od_lowest, .func (PySem.W.fnOf "lowest" "lowest" (defArgs s_lowest) (defBody s_lowest) (defScope s_lowest) .none kV_lowest dc_lowest pm_lowest an_lowest cd_lowest ct_lowest), sl_lowest⟩) (c_lowest : PySem.W.codeIn K cd_lowest "lowest" = true) (k_lowest : PySem.W.keepIn K (.ref f_lowest) = true)
    {f_divided : Addr} {od_divided an_divided : Option Addr} {sl_divided : Array (Option Value)} {oc_divided kV_divided dc_divided pm_divided cd_divided ct_divided : Value}
    (a_divided : PySem.W.nsIn K mainGlobals "divided" = some (some (.ref f_divided))) (l_divided : K.lookup f_divided = some ⟨oc_divided, od_divided, .func (PySem.W.fnOf "divided" "divided" (defArgs s_divided) (defBody s_divided) (defScope s_divided) .none kV_divided dc_divided pm_divided an_divided cd_divided ct_divided), sl_divided⟩) (c_divided : PySem.W.codeIn K cd_divided "divided" = true) (k_divided : PySem.W.keepIn K (.ref f_divided) = true)
    {f_plus : Addr} {od_plus an_plus : Option Addr} {sl_plus : Array (Option Value)} {oc_plus kV_plus dc_plus pm_plus cd_plus ct_plus : Value}
    (a_plus : PySem.W.nsIn K mainGlobals "plus" = some (some (.ref f_plus))) (l_plus : K.lookup f_plus = some ⟨oc_plus, od_plus, .func (PySem.W.fnOf "plus" "plus" (defArgs s_plus) (defBody s_plus) (defScope s_plus) .none kV_plus dc_plus pm_plus an_plus cd_plus ct_plus), sl_plus⟩) (c_plus : PySem.W.codeIn K cd_plus "plus" = true) (k_plus : PySem.W.keepIn K (.ref f_plus) = true)
    {f_without_stays : Addr} {od_without_stays an_without_stays : Option Addr} {sl_without_stays : Array (Option Value)} {oc_without_stays kV_without_stays dc_without_stays pm_without_stays cd_without_stays ct_without_stays : Value}
    (a_without_stays : PySem.W.nsIn K mainGlobals "without_stays" = some (some (.ref f_without_stays))) (l_without_stays : K.lookup f_without_stays = some ⟨oc_without_stays, od_without_stays, .func (PySem.W.fnOf "without_stays" "without_stays" (defArgs s_without_stays) (defBody s_without_stays) (defScope s_without_stays) .none kV_without_stays dc_without_stays pm_without_stays an_without_stays cd_without_stays ct_without_stays), sl_without_stays⟩) (c_without_stays : PySem.W.codeIn K cd_without_stays "without_stays" = true) (k_without_stays : PySem.W.keepIn K (.ref f_without_stays) = true)
    {f_turned_over : Addr} {od_turned_over an_turned_over : Option Addr} {sl_turned_over : Array (Option Value)} {oc_turned_over kV_turned_over dc_turned_over pm_turned_over cd_turned_over ct_turned_over : Value}
    (a_turned_over : PySem.W.nsIn K mainGlobals "turned_over" = some (some (.ref f_turned_over))) (l_turned_over : K.lookup f_turned_over = some ⟨oc_turned_over, od_turned_over, .func (PySem.W.fnOf "turned_over" "turned_over" (defArgs s_turned_over) (defBody s_turned_over) (defScope s_turned_over) .none kV_turned_over dc_turned_over pm_turned_over an_turned_over cd_turned_over ct_turned_over), sl_turned_over⟩) (c_turned_over : PySem.W.codeIn K cd_turned_over "turned_over" = true) (k_turned_over : PySem.W.keepIn K (.ref f_turned_over) = true)
    {f_minus : Addr} {od_minus an_minus : Option Addr} {sl_minus : Array (Option Value)} {oc_minus kV_minus dc_minus pm_minus cd_minus ct_minus : Value}
    (a_minus : PySem.W.nsIn K mainGlobals "minus" = some (some (.ref f_minus))) (l_minus : K.lookup f_minus = some ⟨oc_minus, od_minus, .func (PySem.W.fnOf "minus" "minus" (defArgs s_minus) (defBody s_minus) (defScope s_minus) .none kV_minus dc_minus pm_minus an_minus cd_minus ct_minus), sl_minus⟩) (c_minus : PySem.W.codeIn K cd_minus "minus" = true) (k_minus : PySem.W.keepIn K (.ref f_minus) = true)
    {f_rests : Addr} {od_rests an_rests : Option Addr} {sl_rests : Array (Option Value)} {oc_rests kV_rests dc_rests pm_rests cd_rests ct_rests : Value}
    (a_rests : PySem.W.nsIn K mainGlobals "rests" = some (some (.ref f_rests))) (l_rests : K.lookup f_rests = some ⟨oc_rests, od_rests, .func (PySem.W.fnOf "rests" "rests" (defArgs s_rests) (defBody s_rests) (defScope s_rests) .none kV_rests dc_rests pm_rests an_rests cd_rests ct_rests), sl_rests⟩) (c_rests : PySem.W.codeIn K cd_rests "rests" = true) (k_rests : PySem.W.keepIn K (.ref f_rests) = true)
    {f_times_of : Addr} {od_times_of an_times_of : Option Addr} {sl_times_of : Array (Option Value)} {oc_times_of kV_times_of dc_times_of pm_times_of cd_times_of ct_times_of : Value}
    (a_times_of : PySem.W.nsIn K mainGlobals "times_of" = some (some (.ref f_times_of))) (l_times_of : K.lookup f_times_of = some ⟨oc_times_of, od_times_of, .func (PySem.W.fnOf "times_of" "times_of" (defArgs s_times_of) (defBody s_times_of) (defScope s_times_of) .none kV_times_of dc_times_of pm_times_of an_times_of cd_times_of ct_times_of), sl_times_of⟩) (c_times_of : PySem.W.codeIn K cd_times_of "times_of" = true) (k_times_of : PySem.W.keepIn K (.ref f_times_of) = true)
    {f_total : Addr} {od_total an_total : Option Addr} {sl_total : Array (Option Value)} {oc_total kV_total dc_total pm_total cd_total ct_total : Value}
    (a_total : PySem.W.nsIn K mainGlobals "total" = some (some (.ref f_total))) (l_total : K.lookup f_total = some ⟨oc_total, od_total, .func (PySem.W.fnOf "total" "total" (defArgs s_total) (defBody s_total) (defScope s_total) .none kV_total dc_total pm_total an_total cd_total ct_total), sl_total⟩) (c_total : PySem.W.codeIn K cd_total "total" = true) (k_total : PySem.W.keepIn K (.ref f_total) = true)
    {f_products_of : Addr} {od_products_of an_products_of : Option Addr} {sl_products_of : Array (Option Value)} {oc_products_of kV_products_of dc_products_of pm_products_of cd_products_of ct_products_of : Value}
    (a_products_of : PySem.W.nsIn K mainGlobals "products_of" = some (some (.ref f_products_of))) (l_products_of : K.lookup f_products_of = some ⟨oc_products_of, od_products_of, .func (PySem.W.fnOf "products_of" "products_of" (defArgs s_products_of) (defBody s_products_of) (defScope s_products_of) .none kV_products_of dc_products_of pm_products_of an_products_of cd_products_of ct_products_of), sl_products_of⟩) (c_products_of : PySem.W.codeIn K cd_products_of "products_of" = true) (k_products_of : PySem.W.keepIn K (.ref f_products_of) = true)
    {f_quotients_of : Addr} {od_quotients_of an_quotients_of : Option Addr} {sl_quotients_of : Array (Option Value)} {oc_quotients_of kV_quotients_of dc_quotients_of pm_quotients_of cd_quotients_of ct_quotients_of : Value}
    (a_quotients_of : PySem.W.nsIn K mainGlobals "quotients_of" = some (some (.ref f_quotients_of))) (l_quotients_of : K.lookup f_quotients_of = some ⟨oc_quotients_of, od_quotients_of, .func (PySem.W.fnOf "quotients_of" "quotients_of" (defArgs s_quotients_of) (defBody s_quotients_of) (defScope s_quotients_of) .none kV_quotients_of dc_quotients_of pm_quotients_of an_quotients_of cd_quotients_of ct_quotients_of), sl_quotients_of⟩) (c_quotients_of : PySem.W.codeIn K cd_quotients_of "quotients_of" = true) (k_quotients_of : PySem.W.keepIn K (.ref f_quotients_of) = true)
    {f_between_of : Addr} {od_between_of an_between_of : Option Addr} {sl_between_of : Array (Option Value)} {oc_between_of kV_between_of dc_between_of pm_between_of cd_between_of ct_between_of : Value}
    (a_between_of : PySem.W.nsIn K mainGlobals "between_of" = some (some (.ref f_between_of))) (l_between_of : K.lookup f_between_of = some ⟨oc_between_of, od_between_of, .func (PySem.W.fnOf "between_of" "between_of" (defArgs s_between_of) (defBody s_between_of) (defScope s_between_of) .none kV_between_of dc_between_of pm_between_of an_between_of cd_between_of ct_between_of), sl_between_of⟩) (c_between_of : PySem.W.codeIn K cd_between_of "between_of" = true) (k_between_of : PySem.W.keepIn K (.ref f_between_of) = true)
    {f_top_of : Addr} {od_top_of an_top_of : Option Addr} {sl_top_of : Array (Option Value)} {oc_top_of kV_top_of dc_top_of pm_top_of cd_top_of ct_top_of : Value}
    (a_top_of : PySem.W.nsIn K mainGlobals "top_of" = some (some (.ref f_top_of))) (l_top_of : K.lookup f_top_of = some ⟨oc_top_of, od_top_of, .func (PySem.W.fnOf "top_of" "top_of" (defArgs s_top_of) (defBody s_top_of) (defScope s_top_of) .none kV_top_of dc_top_of pm_top_of an_top_of cd_top_of ct_top_of), sl_top_of⟩) (c_top_of : PySem.W.codeIn K cd_top_of "top_of" = true) (k_top_of : PySem.W.keepIn K (.ref f_top_of) = true)
    {f_given_of : Addr} {od_given_of an_given_of : Option Addr} {sl_given_of : Array (Option Value)} {oc_given_of kV_given_of dc_given_of pm_given_of cd_given_of ct_given_of : Value}
    (a_given_of : PySem.W.nsIn K mainGlobals "given_of" = some (some (.ref f_given_of))) (l_given_of : K.lookup f_given_of = some ⟨oc_given_of, od_given_of, .func (PySem.W.fnOf "given_of" "given_of" (defArgs s_given_of) (defBody s_given_of) (defScope s_given_of) .none kV_given_of dc_given_of pm_given_of an_given_of cd_given_of ct_given_of), sl_given_of⟩) (c_given_of : PySem.W.codeIn K cd_given_of "given_of" = true) (k_given_of : PySem.W.keepIn K (.ref f_given_of) = true)
    {f_given_bottom : Addr} {od_given_bottom an_given_bottom : Option Addr} {sl_given_bottom : Array (Option Value)} {oc_given_bottom kV_given_bottom dc_given_bottom pm_given_bottom cd_given_bottom ct_given_bottom : Value}
    (a_given_bottom : PySem.W.nsIn K mainGlobals "given_bottom" = some (some (.ref f_given_bottom))) (l_given_bottom : K.lookup f_given_bottom = some ⟨oc_given_bottom, od_given_bottom, .func (PySem.W.fnOf "given_bottom" "given_bottom" (defArgs s_given_bottom) (defBody s_given_bottom) (defScope s_given_bottom) .none kV_given_bottom dc_given_bottom pm_given_bottom an_given_bottom cd_given_bottom ct_given_bottom), sl_given_bottom⟩) (c_given_bottom : PySem.W.codeIn K cd_given_bottom "given_bottom" = true) (k_given_bottom : PySem.W.keepIn K (.ref f_given_bottom) = true)
    {f_given_top : Addr} {od_given_top an_given_top : Option Addr} {sl_given_top : Array (Option Value)} {oc_given_top kV_given_top dc_given_top pm_given_top cd_given_top ct_given_top : Value}
    (a_given_top : PySem.W.nsIn K mainGlobals "given_top" = some (some (.ref f_given_top))) (l_given_top : K.lookup f_given_top = some ⟨oc_given_top, od_given_top, .func (PySem.W.fnOf "given_top" "given_top" (defArgs s_given_top) (defBody s_given_top) (defScope s_given_top) .none kV_given_top dc_given_top pm_given_top an_given_top cd_given_top ct_given_top), sl_given_top⟩) (c_given_top : PySem.W.codeIn K cd_given_top "given_top" = true) (k_given_top : PySem.W.keepIn K (.ref f_given_top) = true)
    {f_means_of : Addr} {od_means_of an_means_of : Option Addr} {sl_means_of : Array (Option Value)} {oc_means_of kV_means_of dc_means_of pm_means_of cd_means_of ct_means_of : Value}
    (a_means_of : PySem.W.nsIn K mainGlobals "means_of" = some (some (.ref f_means_of))) (l_means_of : K.lookup f_means_of = some ⟨oc_means_of, od_means_of, .func (PySem.W.fnOf "means_of" "means_of" (defArgs s_means_of) (defBody s_means_of) (defScope s_means_of) .none kV_means_of dc_means_of pm_means_of an_means_of cd_means_of ct_means_of), sl_means_of⟩) (c_means_of : PySem.W.codeIn K cd_means_of "means_of" = true) (k_means_of : PySem.W.keepIn K (.ref f_means_of) = true)
    {f_longest_rung : Addr} {od_longest_rung an_longest_rung : Option Addr} {sl_longest_rung : Array (Option Value)} {oc_longest_rung kV_longest_rung dc_longest_rung pm_longest_rung cd_longest_rung ct_longest_rung : Value}
    (a_longest_rung : PySem.W.nsIn K mainGlobals "longest_rung" = some (some (.ref f_longest_rung))) (l_longest_rung : K.lookup f_longest_rung = some ⟨oc_longest_rung, od_longest_rung, .func (PySem.W.fnOf "longest_rung" "longest_rung" (defArgs s_longest_rung) (defBody s_longest_rung) (defScope s_longest_rung) .none kV_longest_rung dc_longest_rung pm_longest_rung an_longest_rung cd_longest_rung ct_longest_rung), sl_longest_rung⟩) (c_longest_rung : PySem.W.codeIn K cd_longest_rung "longest_rung" = true) (k_longest_rung : PySem.W.keepIn K (.ref f_longest_rung) = true)
    {f_all_mean_steps : Addr} {od_all_mean_steps an_all_mean_steps : Option Addr} {sl_all_mean_steps : Array (Option Value)} {oc_all_mean_steps kV_all_mean_steps dc_all_mean_steps pm_all_mean_steps cd_all_mean_steps ct_all_mean_steps : Value}
    (a_all_mean_steps : PySem.W.nsIn K mainGlobals "all_mean_steps" = some (some (.ref f_all_mean_steps))) (l_all_mean_steps : K.lookup f_all_mean_steps = some ⟨oc_all_mean_steps, od_all_mean_steps, .func (PySem.W.fnOf "all_mean_steps" "all_mean_steps" (defArgs s_all_mean_steps) (defBody s_all_mean_steps) (defScope s_all_mean_steps) .none kV_all_mean_steps dc_all_mean_steps pm_all_mean_steps an_all_mean_steps cd_all_mean_steps ct_all_mean_steps), sl_all_mean_steps⟩) (c_all_mean_steps : PySem.W.codeIn K cd_all_mean_steps "all_mean_steps" = true) (k_all_mean_steps : PySem.W.keepIn K (.ref f_all_mean_steps) = true)
    {f_end_alike : Addr} {od_end_alike an_end_alike : Option Addr} {sl_end_alike : Array (Option Value)} {oc_end_alike kV_end_alike dc_end_alike pm_end_alike cd_end_alike ct_end_alike : Value}
    (a_end_alike : PySem.W.nsIn K mainGlobals "end_alike" = some (some (.ref f_end_alike))) (l_end_alike : K.lookup f_end_alike = some ⟨oc_end_alike, od_end_alike, .func (PySem.W.fnOf "end_alike" "end_alike" (defArgs s_end_alike) (defBody s_end_alike) (defScope s_end_alike) .none kV_end_alike dc_end_alike pm_end_alike an_end_alike cd_end_alike ct_end_alike), sl_end_alike⟩) (c_end_alike : PySem.W.codeIn K cd_end_alike "end_alike" = true) (k_end_alike : PySem.W.keepIn K (.ref f_end_alike) = true)
    {f_is_fair : Addr} {od_is_fair an_is_fair : Option Addr} {sl_is_fair : Array (Option Value)} {oc_is_fair kV_is_fair dc_is_fair pm_is_fair cd_is_fair ct_is_fair : Value}
    (a_is_fair : PySem.W.nsIn K mainGlobals "is_fair" = some (some (.ref f_is_fair))) (l_is_fair : K.lookup f_is_fair = some ⟨oc_is_fair, od_is_fair, .func (PySem.W.fnOf "is_fair" "is_fair" (defArgs s_is_fair) (defBody s_is_fair) (defScope s_is_fair) .none kV_is_fair dc_is_fair pm_is_fair an_is_fair cd_is_fair ct_is_fair), sl_is_fair⟩) (c_is_fair : PySem.W.codeIn K cd_is_fair "is_fair" = true) (k_is_fair : PySem.W.keepIn K (.ref f_is_fair) = true)
    {f_top_chances : Addr} {od_top_chances an_top_chances : Option Addr} {sl_top_chances : Array (Option Value)} {oc_top_chances kV_top_chances dc_top_chances pm_top_chances cd_top_chances ct_top_chances : Value}
    (a_top_chances : PySem.W.nsIn K mainGlobals "top_chances" = some (some (.ref f_top_chances))) (l_top_chances : K.lookup f_top_chances = some ⟨oc_top_chances, od_top_chances, .func (PySem.W.fnOf "top_chances" "top_chances" (defArgs s_top_chances) (defBody s_top_chances) (defScope s_top_chances) .none kV_top_chances dc_top_chances pm_top_chances an_top_chances cd_top_chances ct_top_chances), sl_top_chances⟩) (c_top_chances : PySem.W.codeIn K cd_top_chances "top_chances" = true) (k_top_chances : PySem.W.keepIn K (.ref f_top_chances) = true)
    {f_quotients : Addr} {od_quotients an_quotients : Option Addr} {sl_quotients : Array (Option Value)} {oc_quotients kV_quotients dc_quotients pm_quotients cd_quotients ct_quotients : Value}
    (a_quotients : PySem.W.nsIn K mainGlobals "quotients" = some (some (.ref f_quotients))) (l_quotients : K.lookup f_quotients = some ⟨oc_quotients, od_quotients, .func (PySem.W.fnOf "quotients" "quotients" (defArgs s_quotients) (defBody s_quotients) (defScope s_quotients) .none kV_quotients dc_quotients pm_quotients an_quotients cd_quotients ct_quotients), sl_quotients⟩) (c_quotients : PySem.W.codeIn K cd_quotients "quotients" = true) (k_quotients : PySem.W.keepIn K (.ref f_quotients) = true)
    {f_law_one : Addr} {od_law_one an_law_one : Option Addr} {sl_law_one : Array (Option Value)} {oc_law_one kV_law_one dc_law_one pm_law_one cd_law_one ct_law_one : Value}
    (a_law_one : PySem.W.nsIn K mainGlobals "_law_one" = some (some (.ref f_law_one))) (l_law_one : K.lookup f_law_one = some ⟨oc_law_one, od_law_one, .func (PySem.W.fnOf "_law_one" "_law_one" (defArgs s_law_one) (defBody s_law_one) (defScope s_law_one) .none kV_law_one dc_law_one pm_law_one an_law_one cd_law_one ct_law_one), sl_law_one⟩) (c_law_one : PySem.W.codeIn K cd_law_one "_law_one" = true) (k_law_one : PySem.W.keepIn K (.ref f_law_one) = true)
    {f_next_of : Addr} {od_next_of an_next_of : Option Addr} {sl_next_of : Array (Option Value)} {oc_next_of kV_next_of dc_next_of pm_next_of cd_next_of ct_next_of : Value}
    (a_next_of : PySem.W.nsIn K mainGlobals "next_of" = some (some (.ref f_next_of))) (l_next_of : K.lookup f_next_of = some ⟨oc_next_of, od_next_of, .func (PySem.W.fnOf "next_of" "next_of" (defArgs s_next_of) (defBody s_next_of) (defScope s_next_of) .none kV_next_of dc_next_of pm_next_of an_next_of cd_next_of ct_next_of), sl_next_of⟩) (c_next_of : PySem.W.codeIn K cd_next_of "next_of" = true) (k_next_of : PySem.W.keepIn K (.ref f_next_of) = true)
    {f_less : Addr} {od_less an_less : Option Addr} {sl_less : Array (Option Value)} {oc_less kV_less dc_less pm_less cd_less ct_less : Value}
    (a_less : PySem.W.nsIn K mainGlobals "less" = some (some (.ref f_less))) (l_less : K.lookup f_less = some ⟨oc_less, od_less, .func (PySem.W.fnOf "less" "less" (defArgs s_less) (defBody s_less) (defScope s_less) .none kV_less dc_less pm_less an_less cd_less ct_less), sl_less⟩) (c_less : PySem.W.codeIn K cd_less "less" = true) (k_less : PySem.W.keepIn K (.ref f_less) = true)
    {f_after_of : Addr} {od_after_of an_after_of : Option Addr} {sl_after_of : Array (Option Value)} {oc_after_of kV_after_of dc_after_of pm_after_of cd_after_of ct_after_of : Value}
    (a_after_of : PySem.W.nsIn K mainGlobals "after_of" = some (some (.ref f_after_of))) (l_after_of : K.lookup f_after_of = some ⟨oc_after_of, od_after_of, .func (PySem.W.fnOf "after_of" "after_of" (defArgs s_after_of) (defBody s_after_of) (defScope s_after_of) .none kV_after_of dc_after_of pm_after_of an_after_of cd_after_of ct_after_of), sl_after_of⟩) (c_after_of : PySem.W.codeIn K cd_after_of "after_of" = true) (k_after_of : PySem.W.keepIn K (.ref f_after_of) = true)
    {f_check_rung : Addr} {od_check_rung an_check_rung : Option Addr} {sl_check_rung : Array (Option Value)} {oc_check_rung kV_check_rung dc_check_rung pm_check_rung cd_check_rung ct_check_rung : Value}
    (a_check_rung : PySem.W.nsIn K mainGlobals "check_rung" = some (some (.ref f_check_rung))) (l_check_rung : K.lookup f_check_rung = some ⟨oc_check_rung, od_check_rung, .func (PySem.W.fnOf "check_rung" "check_rung" (defArgs s_check_rung) (defBody s_check_rung) (defScope s_check_rung) .none kV_check_rung dc_check_rung pm_check_rung an_check_rung cd_check_rung ct_check_rung), sl_check_rung⟩) (c_check_rung : PySem.W.codeIn K cd_check_rung "check_rung" = true) (k_check_rung : PySem.W.keepIn K (.ref f_check_rung) = true)
    {f_first_by : Addr} {od_first_by an_first_by : Option Addr} {sl_first_by : Array (Option Value)} {oc_first_by kV_first_by dc_first_by pm_first_by cd_first_by ct_first_by : Value}
    (a_first_by : PySem.W.nsIn K mainGlobals "first_by" = some (some (.ref f_first_by))) (l_first_by : K.lookup f_first_by = some ⟨oc_first_by, od_first_by, .func (PySem.W.fnOf "first_by" "first_by" (defArgs s_first_by) (defBody s_first_by) (defScope s_first_by) .none kV_first_by dc_first_by pm_first_by an_first_by cd_first_by ct_first_by), sl_first_by⟩) (c_first_by : PySem.W.codeIn K cd_first_by "first_by" = true) (k_first_by : PySem.W.keepIn K (.ref f_first_by) = true)
    {f_check_many : Addr} {od_check_many an_check_many : Option Addr} {sl_check_many : Array (Option Value)} {oc_check_many kV_check_many dc_check_many pm_check_many cd_check_many ct_check_many : Value}
    (a_check_many : PySem.W.nsIn K mainGlobals "check_many" = some (some (.ref f_check_many))) (l_check_many : K.lookup f_check_many = some ⟨oc_check_many, od_check_many, .func (PySem.W.fnOf "check_many" "check_many" (defArgs s_check_many) (defBody s_check_many) (defScope s_check_many) .none kV_check_many dc_check_many pm_check_many an_check_many cd_check_many ct_check_many), sl_check_many⟩) (c_check_many : PySem.W.codeIn K cd_check_many "check_many" = true) (k_check_many : PySem.W.keepIn K (.ref f_check_many) = true)
    {f_top_after : Addr} {od_top_after an_top_after : Option Addr} {sl_top_after : Array (Option Value)} {oc_top_after kV_top_after dc_top_after pm_top_after cd_top_after ct_top_after : Value}
    (a_top_after : PySem.W.nsIn K mainGlobals "top_after" = some (some (.ref f_top_after))) (l_top_after : K.lookup f_top_after = some ⟨oc_top_after, od_top_after, .func (PySem.W.fnOf "top_after" "top_after" (defArgs s_top_after) (defBody s_top_after) (defScope s_top_after) .none kV_top_after dc_top_after pm_top_after an_top_after cd_top_after ct_top_after), sl_top_after⟩) (c_top_after : PySem.W.codeIn K cd_top_after "top_after" = true) (k_top_after : PySem.W.keepIn K (.ref f_top_after) = true)
    {f_after_given_top : Addr} {od_after_given_top an_after_given_top : Option Addr} {sl_after_given_top : Array (Option Value)} {oc_after_given_top kV_after_given_top dc_after_given_top pm_after_given_top cd_after_given_top ct_after_given_top : Value}
    (a_after_given_top : PySem.W.nsIn K mainGlobals "after_given_top" = some (some (.ref f_after_given_top))) (l_after_given_top : K.lookup f_after_given_top = some ⟨oc_after_given_top, od_after_given_top, .func (PySem.W.fnOf "after_given_top" "after_given_top" (defArgs s_after_given_top) (defBody s_after_given_top) (defScope s_after_given_top) .none kV_after_given_top dc_after_given_top pm_after_given_top an_after_given_top cd_after_given_top ct_after_given_top), sl_after_given_top⟩) (c_after_given_top : PySem.W.codeIn K cd_after_given_top "after_given_top" = true) (k_after_given_top : PySem.W.keepIn K (.ref f_after_given_top) = true)
    {f_likeliest : Addr} {od_likeliest an_likeliest : Option Addr} {sl_likeliest : Array (Option Value)} {oc_likeliest kV_likeliest dc_likeliest pm_likeliest cd_likeliest ct_likeliest : Value}
    (a_likeliest : PySem.W.nsIn K mainGlobals "likeliest" = some (some (.ref f_likeliest))) (l_likeliest : K.lookup f_likeliest = some ⟨oc_likeliest, od_likeliest, .func (PySem.W.fnOf "likeliest" "likeliest" (defArgs s_likeliest) (defBody s_likeliest) (defScope s_likeliest) .none kV_likeliest dc_likeliest pm_likeliest an_likeliest cd_likeliest ct_likeliest), sl_likeliest⟩) (c_likeliest : PySem.W.codeIn K cd_likeliest "likeliest" = true) (k_likeliest : PySem.W.keepIn K (.ref f_likeliest) = true)
    {f_top_at : Addr} {od_top_at an_top_at : Option Addr} {sl_top_at : Array (Option Value)} {oc_top_at kV_top_at dc_top_at pm_top_at cd_top_at ct_top_at : Value}
    (a_top_at : PySem.W.nsIn K mainGlobals "top_at" = some (some (.ref f_top_at))) (l_top_at : K.lookup f_top_at = some ⟨oc_top_at, od_top_at, .func (PySem.W.fnOf "top_at" "top_at" (defArgs s_top_at) (defBody s_top_at) (defScope s_top_at) .none kV_top_at dc_top_at pm_top_at an_top_at cd_top_at ct_top_at), sl_top_at⟩) (c_top_at : PySem.W.codeIn K cd_top_at "top_at" = true) (k_top_at : PySem.W.keepIn K (.ref f_top_at) = true)
    {f_ends_at : Addr} {od_ends_at an_ends_at : Option Addr} {sl_ends_at : Array (Option Value)} {oc_ends_at kV_ends_at dc_ends_at pm_ends_at cd_ends_at ct_ends_at : Value}
    (a_ends_at : PySem.W.nsIn K mainGlobals "ends_at" = some (some (.ref f_ends_at))) (l_ends_at : K.lookup f_ends_at = some ⟨oc_ends_at, od_ends_at, .func (PySem.W.fnOf "ends_at" "ends_at" (defArgs s_ends_at) (defBody s_ends_at) (defScope s_ends_at) .none kV_ends_at dc_ends_at pm_ends_at an_ends_at cd_ends_at ct_ends_at), sl_ends_at⟩) (c_ends_at : PySem.W.codeIn K cd_ends_at "ends_at" = true) (k_ends_at : PySem.W.keepIn K (.ref f_ends_at) = true)
    {f_ended_by : Addr} {od_ended_by an_ended_by : Option Addr} {sl_ended_by : Array (Option Value)} {oc_ended_by kV_ended_by dc_ended_by pm_ended_by cd_ended_by ct_ended_by : Value}
    (a_ended_by : PySem.W.nsIn K mainGlobals "ended_by" = some (some (.ref f_ended_by))) (l_ended_by : K.lookup f_ended_by = some ⟨oc_ended_by, od_ended_by, .func (PySem.W.fnOf "ended_by" "ended_by" (defArgs s_ended_by) (defBody s_ended_by) (defScope s_ended_by) .none kV_ended_by dc_ended_by pm_ended_by an_ended_by cd_ended_by ct_ended_by), sl_ended_by⟩) (c_ended_by : PySem.W.codeIn K cd_ended_by "ended_by" = true) (k_ended_by : PySem.W.keepIn K (.ref f_ended_by) = true)
    {f_after : Addr} {od_after an_after : Option Addr} {sl_after : Array (Option Value)} {oc_after kV_after dc_after pm_after cd_after ct_after : Value}
    (a_after : PySem.W.nsIn K mainGlobals "after" = some (some (.ref f_after))) (l_after : K.lookup f_after = some ⟨oc_after, od_after, .func (PySem.W.fnOf "after" "after" (defArgs s_after) (defBody s_after) (defScope s_after) .none kV_after dc_after pm_after an_after cd_after ct_after), sl_after⟩) (c_after : PySem.W.codeIn K cd_after "after" = true) (k_after : PySem.W.keepIn K (.ref f_after) = true)
    {f_Walker_init__ : Addr} {od_Walker_init__ an_Walker_init__ : Option Addr} {sl_Walker_init__ : Array (Option Value)} {oc_Walker_init__ kV_Walker_init__ dc_Walker_init__ pm_Walker_init__ cd_Walker_init__ ct_Walker_init__ : Value}
    (a_Walker_init__ : PySem.W.findIn K (.ref wc) "__init__" = some (some (.ref f_Walker_init__))) (i_Walker_init__ : PySem.W.isFn K (.ref f_Walker_init__) = true) (l_Walker_init__ : K.lookup f_Walker_init__ = some ⟨oc_Walker_init__, od_Walker_init__, .func (PySem.W.fnOf "__init__" "Walker.__init__" (defArgs s_Walker_init__) (defBody s_Walker_init__) (defScope s_Walker_init__) .none kV_Walker_init__ dc_Walker_init__ pm_Walker_init__ an_Walker_init__ cd_Walker_init__ ct_Walker_init__), sl_Walker_init__⟩) (c_Walker_init__ : PySem.W.codeIn K cd_Walker_init__ "Walker.__init__" = true) (k_Walker_init__ : PySem.W.keepIn K (.ref f_Walker_init__) = true)
    {f_ever_of : Addr} {od_ever_of an_ever_of : Option Addr} {sl_ever_of : Array (Option Value)} {oc_ever_of kV_ever_of dc_ever_of pm_ever_of cd_ever_of ct_ever_of : Value}
    (a_ever_of : PySem.W.nsIn K mainGlobals "ever_of" = some (some (.ref f_ever_of))) (l_ever_of : K.lookup f_ever_of = some ⟨oc_ever_of, od_ever_of, .func (PySem.W.fnOf "ever_of" "ever_of" (defArgs s_ever_of) (defBody s_ever_of) (defScope s_ever_of) .none kV_ever_of dc_ever_of pm_ever_of an_ever_of cd_ever_of ct_ever_of), sl_ever_of⟩) (c_ever_of : PySem.W.codeIn K cd_ever_of "ever_of" = true) (k_ever_of : PySem.W.keepIn K (.ref f_ever_of) = true)
    {f_check_inner : Addr} {od_check_inner an_check_inner : Option Addr} {sl_check_inner : Array (Option Value)} {oc_check_inner kV_check_inner dc_check_inner pm_check_inner cd_check_inner ct_check_inner : Value}
    (a_check_inner : PySem.W.nsIn K mainGlobals "check_inner" = some (some (.ref f_check_inner))) (l_check_inner : K.lookup f_check_inner = some ⟨oc_check_inner, od_check_inner, .func (PySem.W.fnOf "check_inner" "check_inner" (defArgs s_check_inner) (defBody s_check_inner) (defScope s_check_inner) .none kV_check_inner dc_check_inner pm_check_inner an_check_inner cd_check_inner ct_check_inner), sl_check_inner⟩) (c_check_inner : PySem.W.codeIn K cd_check_inner "check_inner" = true) (k_check_inner : PySem.W.keepIn K (.ref f_check_inner) = true)
    {f_visits : Addr} {od_visits an_visits : Option Addr} {sl_visits : Array (Option Value)} {oc_visits kV_visits dc_visits pm_visits cd_visits ct_visits : Value}
    (a_visits : PySem.W.nsIn K mainGlobals "visits" = some (some (.ref f_visits))) (l_visits : K.lookup f_visits = some ⟨oc_visits, od_visits, .func (PySem.W.fnOf "visits" "visits" (defArgs s_visits) (defBody s_visits) (defScope s_visits) .none kV_visits dc_visits pm_visits an_visits cd_visits ct_visits), sl_visits⟩) (c_visits : PySem.W.codeIn K cd_visits "visits" = true) (k_visits : PySem.W.keepIn K (.ref f_visits) = true)
    {f_ever_at : Addr} {od_ever_at an_ever_at : Option Addr} {sl_ever_at : Array (Option Value)} {oc_ever_at kV_ever_at dc_ever_at pm_ever_at cd_ever_at ct_ever_at : Value}
    (a_ever_at : PySem.W.nsIn K mainGlobals "ever_at" = some (some (.ref f_ever_at))) (l_ever_at : K.lookup f_ever_at = some ⟨oc_ever_at, od_ever_at, .func (PySem.W.fnOf "ever_at" "ever_at" (defArgs s_ever_at) (defBody s_ever_at) (defScope s_ever_at) .none kV_ever_at dc_ever_at pm_ever_at an_ever_at cd_ever_at ct_ever_at), sl_ever_at⟩) (c_ever_at : PySem.W.codeIn K cd_ever_at "ever_at" = true) (k_ever_at : PySem.W.keepIn K (.ref f_ever_at) = true)
    {f_mean_steps : Addr} {od_mean_steps an_mean_steps : Option Addr} {sl_mean_steps : Array (Option Value)} {oc_mean_steps kV_mean_steps dc_mean_steps pm_mean_steps cd_mean_steps ct_mean_steps : Value}
    (a_mean_steps : PySem.W.nsIn K mainGlobals "mean_steps" = some (some (.ref f_mean_steps))) (l_mean_steps : K.lookup f_mean_steps = some ⟨oc_mean_steps, od_mean_steps, .func (PySem.W.fnOf "mean_steps" "mean_steps" (defArgs s_mean_steps) (defBody s_mean_steps) (defScope s_mean_steps) .none kV_mean_steps dc_mean_steps pm_mean_steps an_mean_steps cd_mean_steps ct_mean_steps), sl_mean_steps⟩) (c_mean_steps : PySem.W.codeIn K cd_mean_steps "mean_steps" = true) (k_mean_steps : PySem.W.keepIn K (.ref f_mean_steps) = true)
    {f_mean_end : Addr} {od_mean_end an_mean_end : Option Addr} {sl_mean_end : Array (Option Value)} {oc_mean_end kV_mean_end dc_mean_end pm_mean_end cd_mean_end ct_mean_end : Value}
    (a_mean_end : PySem.W.nsIn K mainGlobals "mean_end" = some (some (.ref f_mean_end))) (l_mean_end : K.lookup f_mean_end = some ⟨oc_mean_end, od_mean_end, .func (PySem.W.fnOf "mean_end" "mean_end" (defArgs s_mean_end) (defBody s_mean_end) (defScope s_mean_end) .none kV_mean_end dc_mean_end pm_mean_end an_mean_end cd_mean_end ct_mean_end), sl_mean_end⟩) (c_mean_end : PySem.W.codeIn K cd_mean_end "mean_end" = true) (k_mean_end : PySem.W.keepIn K (.ref f_mean_end) = true)
    {f_bottom_chance : Addr} {od_bottom_chance an_bottom_chance : Option Addr} {sl_bottom_chance : Array (Option Value)} {oc_bottom_chance kV_bottom_chance dc_bottom_chance pm_bottom_chance cd_bottom_chance ct_bottom_chance : Value}
    (a_bottom_chance : PySem.W.nsIn K mainGlobals "bottom_chance" = some (some (.ref f_bottom_chance))) (l_bottom_chance : K.lookup f_bottom_chance = some ⟨oc_bottom_chance, od_bottom_chance, .func (PySem.W.fnOf "bottom_chance" "bottom_chance" (defArgs s_bottom_chance) (defBody s_bottom_chance) (defScope s_bottom_chance) .none kV_bottom_chance dc_bottom_chance pm_bottom_chance an_bottom_chance cd_bottom_chance ct_bottom_chance), sl_bottom_chance⟩) (c_bottom_chance : PySem.W.codeIn K cd_bottom_chance "bottom_chance" = true) (k_bottom_chance : PySem.W.keepIn K (.ref f_bottom_chance) = true)
    {f_top_chance : Addr} {od_top_chance an_top_chance : Option Addr} {sl_top_chance : Array (Option Value)} {oc_top_chance kV_top_chance dc_top_chance pm_top_chance cd_top_chance ct_top_chance : Value}
    (a_top_chance : PySem.W.nsIn K mainGlobals "top_chance" = some (some (.ref f_top_chance))) (l_top_chance : K.lookup f_top_chance = some ⟨oc_top_chance, od_top_chance, .func (PySem.W.fnOf "top_chance" "top_chance" (defArgs s_top_chance) (defBody s_top_chance) (defScope s_top_chance) .none kV_top_chance dc_top_chance pm_top_chance an_top_chance cd_top_chance ct_top_chance), sl_top_chance⟩) (c_top_chance : PySem.W.codeIn K cd_top_chance "top_chance" = true) (k_top_chance : PySem.W.keepIn K (.ref f_top_chance) = true)
    {f_law_runged : Addr} {od_law_runged an_law_runged : Option Addr} {sl_law_runged : Array (Option Value)} {oc_law_runged kV_law_runged dc_law_runged pm_law_runged cd_law_runged ct_law_runged : Value}
    (a_law_runged : PySem.W.nsIn K mainGlobals "_law_runged" = some (some (.ref f_law_runged))) (l_law_runged : K.lookup f_law_runged = some ⟨oc_law_runged, od_law_runged, .func (PySem.W.fnOf "_law_runged" "_law_runged" (defArgs s_law_runged) (defBody s_law_runged) (defScope s_law_runged) .none kV_law_runged dc_law_runged pm_law_runged an_law_runged cd_law_runged ct_law_runged), sl_law_runged⟩) (c_law_runged : PySem.W.codeIn K cd_law_runged "_law_runged" = true) (k_law_runged : PySem.W.keepIn K (.ref f_law_runged) = true)
    {f_with_rung : Addr} {od_with_rung an_with_rung : Option Addr} {sl_with_rung : Array (Option Value)} {oc_with_rung kV_with_rung dc_with_rung pm_with_rung cd_with_rung ct_with_rung : Value}
    (a_with_rung : PySem.W.nsIn K mainGlobals "with_rung" = some (some (.ref f_with_rung))) (l_with_rung : K.lookup f_with_rung = some ⟨oc_with_rung, od_with_rung, .func (PySem.W.fnOf "with_rung" "with_rung" (defArgs s_with_rung) (defBody s_with_rung) (defScope s_with_rung) .none kV_with_rung dc_with_rung pm_with_rung an_with_rung cd_with_rung ct_with_rung), sl_with_rung⟩) (c_with_rung : PySem.W.codeIn K cd_with_rung "with_rung" = true) (k_with_rung : PySem.W.keepIn K (.ref f_with_rung) = true)
    {f_slower : Addr} {od_slower an_slower : Option Addr} {sl_slower : Array (Option Value)} {oc_slower kV_slower dc_slower pm_slower cd_slower ct_slower : Value}
    (a_slower : PySem.W.nsIn K mainGlobals "slower" = some (some (.ref f_slower))) (l_slower : K.lookup f_slower = some ⟨oc_slower, od_slower, .func (PySem.W.fnOf "slower" "slower" (defArgs s_slower) (defBody s_slower) (defScope s_slower) .none kV_slower dc_slower pm_slower an_slower cd_slower ct_slower), sl_slower⟩) (c_slower : PySem.W.codeIn K cd_slower "slower" = true) (k_slower : PySem.W.keepIn K (.ref f_slower) = true)
    {f_without_rung : Addr} {od_without_rung an_without_rung : Option Addr} {sl_without_rung : Array (Option Value)} {oc_without_rung kV_without_rung dc_without_rung pm_without_rung cd_without_rung ct_without_rung : Value}
    (a_without_rung : PySem.W.nsIn K mainGlobals "without_rung" = some (some (.ref f_without_rung))) (l_without_rung : K.lookup f_without_rung = some ⟨oc_without_rung, od_without_rung, .func (PySem.W.fnOf "without_rung" "without_rung" (defArgs s_without_rung) (defBody s_without_rung) (defScope s_without_rung) .none kV_without_rung dc_without_rung pm_without_rung an_without_rung cd_without_rung ct_without_rung), sl_without_rung⟩) (c_without_rung : PySem.W.codeIn K cd_without_rung "without_rung" = true) (k_without_rung : PySem.W.keepIn K (.ref f_without_rung) = true)
    {f_stays_given_top : Addr} {od_stays_given_top an_stays_given_top : Option Addr} {sl_stays_given_top : Array (Option Value)} {oc_stays_given_top kV_stays_given_top dc_stays_given_top pm_stays_given_top cd_stays_given_top ct_stays_given_top : Value}
    (a_stays_given_top : PySem.W.nsIn K mainGlobals "stays_given_top" = some (some (.ref f_stays_given_top))) (l_stays_given_top : K.lookup f_stays_given_top = some ⟨oc_stays_given_top, od_stays_given_top, .func (PySem.W.fnOf "stays_given_top" "stays_given_top" (defArgs s_stays_given_top) (defBody s_stays_given_top) (defScope s_stays_given_top) .none kV_stays_given_top dc_stays_given_top pm_stays_given_top an_stays_given_top cd_stays_given_top ct_stays_given_top), sl_stays_given_top⟩) (c_stays_given_top : PySem.W.codeIn K cd_stays_given_top "stays_given_top" = true) (k_stays_given_top : PySem.W.keepIn K (.ref f_stays_given_top) = true)
    {f_mean_stay : Addr} {od_mean_stay an_mean_stay : Option Addr} {sl_mean_stay : Array (Option Value)} {oc_mean_stay kV_mean_stay dc_mean_stay pm_mean_stay cd_mean_stay ct_mean_stay : Value}
    (a_mean_stay : PySem.W.nsIn K mainGlobals "mean_stay" = some (some (.ref f_mean_stay))) (l_mean_stay : K.lookup f_mean_stay = some ⟨oc_mean_stay, od_mean_stay, .func (PySem.W.fnOf "mean_stay" "mean_stay" (defArgs s_mean_stay) (defBody s_mean_stay) (defScope s_mean_stay) .none kV_mean_stay dc_mean_stay pm_mean_stay an_mean_stay cd_mean_stay ct_mean_stay), sl_mean_stay⟩) (c_mean_stay : PySem.W.codeIn K cd_mean_stay "mean_stay" = true) (k_mean_stay : PySem.W.keepIn K (.ref f_mean_stay) = true)
    {f_law_inner : Addr} {od_law_inner an_law_inner : Option Addr} {sl_law_inner : Array (Option Value)} {oc_law_inner kV_law_inner dc_law_inner pm_law_inner cd_law_inner ct_law_inner : Value}
    (a_law_inner : PySem.W.nsIn K mainGlobals "_law_inner" = some (some (.ref f_law_inner))) (l_law_inner : K.lookup f_law_inner = some ⟨oc_law_inner, od_law_inner, .func (PySem.W.fnOf "_law_inner" "_law_inner" (defArgs s_law_inner) (defBody s_law_inner) (defScope s_law_inner) .none kV_law_inner dc_law_inner pm_law_inner an_law_inner cd_law_inner ct_law_inner), sl_law_inner⟩) (c_law_inner : PySem.W.codeIn K cd_law_inner "_law_inner" = true) (k_law_inner : PySem.W.keepIn K (.ref f_law_inner) = true)
    {f_law_asked : Addr} {od_law_asked an_law_asked : Option Addr} {sl_law_asked : Array (Option Value)} {oc_law_asked kV_law_asked dc_law_asked pm_law_asked cd_law_asked ct_law_asked : Value}
    (a_law_asked : PySem.W.nsIn K mainGlobals "_law_asked" = some (some (.ref f_law_asked))) (l_law_asked : K.lookup f_law_asked = some ⟨oc_law_asked, od_law_asked, .func (PySem.W.fnOf "_law_asked" "_law_asked" (defArgs s_law_asked) (defBody s_law_asked) (defScope s_law_asked) .none kV_law_asked dc_law_asked pm_law_asked an_law_asked cd_law_asked ct_law_asked), sl_law_asked⟩) (c_law_asked : PySem.W.codeIn K cd_law_asked "_law_asked" = true) (k_law_asked : PySem.W.keepIn K (.ref f_law_asked) = true)
    {f_law_numbers : Addr} {od_law_numbers an_law_numbers : Option Addr} {sl_law_numbers : Array (Option Value)} {oc_law_numbers kV_law_numbers dc_law_numbers pm_law_numbers cd_law_numbers ct_law_numbers : Value}
    (a_law_numbers : PySem.W.nsIn K mainGlobals "_law_numbers" = some (some (.ref f_law_numbers))) (l_law_numbers : K.lookup f_law_numbers = some ⟨oc_law_numbers, od_law_numbers, .func (PySem.W.fnOf "_law_numbers" "_law_numbers" (defArgs s_law_numbers) (defBody s_law_numbers) (defScope s_law_numbers) .none kV_law_numbers dc_law_numbers pm_law_numbers an_law_numbers cd_law_numbers ct_law_numbers), sl_law_numbers⟩) (c_law_numbers : PySem.W.codeIn K cd_law_numbers "_law_numbers" = true) (k_law_numbers : PySem.W.keepIn K (.ref f_law_numbers) = true)
    {f_law_draw : Addr} {od_law_draw an_law_draw : Option Addr} {sl_law_draw : Array (Option Value)} {oc_law_draw kV_law_draw dc_law_draw pm_law_draw cd_law_draw ct_law_draw : Value}
    (a_law_draw : PySem.W.nsIn K mainGlobals "_law_draw" = some (some (.ref f_law_draw))) (l_law_draw : K.lookup f_law_draw = some ⟨oc_law_draw, od_law_draw, .func (PySem.W.fnOf "_law_draw" "_law_draw" (defArgs s_law_draw) (defBody s_law_draw) (defScope s_law_draw) .none kV_law_draw dc_law_draw pm_law_draw an_law_draw cd_law_draw ct_law_draw), sl_law_draw⟩) (c_law_draw : PySem.W.codeIn K cd_law_draw "_law_draw" = true) (k_law_draw : PySem.W.keepIn K (.ref f_law_draw) = true)
    {f_law_low : Addr} {od_law_low an_law_low : Option Addr} {sl_law_low : Array (Option Value)} {oc_law_low kV_law_low dc_law_low pm_law_low cd_law_low ct_law_low : Value}
    (a_law_low : PySem.W.nsIn K mainGlobals "_law_low" = some (some (.ref f_law_low))) (l_law_low : K.lookup f_law_low = some ⟨oc_law_low, od_law_low, .func (PySem.W.fnOf "_law_low" "_law_low" (defArgs s_law_low) (defBody s_law_low) (defScope s_law_low) .none kV_law_low dc_law_low pm_law_low an_law_low cd_law_low ct_law_low), sl_law_low⟩) (c_law_low : PySem.W.codeIn K cd_law_low "_law_low" = true) (k_law_low : PySem.W.keepIn K (.ref f_law_low) = true)
    {f_law_pick : Addr} {od_law_pick an_law_pick : Option Addr} {sl_law_pick : Array (Option Value)} {oc_law_pick kV_law_pick dc_law_pick pm_law_pick cd_law_pick ct_law_pick : Value}
    (a_law_pick : PySem.W.nsIn K mainGlobals "_law_pick" = some (some (.ref f_law_pick))) (l_law_pick : K.lookup f_law_pick = some ⟨oc_law_pick, od_law_pick, .func (PySem.W.fnOf "_law_pick" "_law_pick" (defArgs s_law_pick) (defBody s_law_pick) (defScope s_law_pick) .none kV_law_pick dc_law_pick pm_law_pick an_law_pick cd_law_pick ct_law_pick), sl_law_pick⟩) (c_law_pick : PySem.W.codeIn K cd_law_pick "_law_pick" = true) (k_law_pick : PySem.W.keepIn K (.ref f_law_pick) = true)
    {f_law_ladder : Addr} {od_law_ladder an_law_ladder : Option Addr} {sl_law_ladder : Array (Option Value)} {oc_law_ladder kV_law_ladder dc_law_ladder pm_law_ladder cd_law_ladder ct_law_ladder : Value}
    (a_law_ladder : PySem.W.nsIn K mainGlobals "_law_ladder" = some (some (.ref f_law_ladder))) (l_law_ladder : K.lookup f_law_ladder = some ⟨oc_law_ladder, od_law_ladder, .func (PySem.W.fnOf "_law_ladder" "_law_ladder" (defArgs s_law_ladder) (defBody s_law_ladder) (defScope s_law_ladder) .none kV_law_ladder dc_law_ladder pm_law_ladder an_law_ladder cd_law_ladder ct_law_ladder), sl_law_ladder⟩) (c_law_ladder : PySem.W.codeIn K cd_law_ladder "_law_ladder" = true) (k_law_ladder : PySem.W.keepIn K (.ref f_law_ladder) = true)
    {f_law_start : Addr} {od_law_start an_law_start : Option Addr} {sl_law_start : Array (Option Value)} {oc_law_start kV_law_start dc_law_start pm_law_start cd_law_start ct_law_start : Value}
    (a_law_start : PySem.W.nsIn K mainGlobals "_law_start" = some (some (.ref f_law_start))) (l_law_start : K.lookup f_law_start = some ⟨oc_law_start, od_law_start, .func (PySem.W.fnOf "_law_start" "_law_start" (defArgs s_law_start) (defBody s_law_start) (defScope s_law_start) .none kV_law_start dc_law_start pm_law_start an_law_start cd_law_start ct_law_start), sl_law_start⟩) (c_law_start : PySem.W.codeIn K cd_law_start "_law_start" = true) (k_law_start : PySem.W.keepIn K (.ref f_law_start) = true)
    {f_law0 : Addr} {od_law0 an_law0 : Option Addr} {sl_law0 : Array (Option Value)} {oc_law0 kV_law0 dc_law0 pm_law0 cd_law0 ct_law0 : Value}
    (a_law0 : PySem.W.nsIn K mainGlobals "law" = some (some (.ref f_law0))) (l_law0 : K.lookup f_law0 = some ⟨oc_law0, od_law0, .func (PySem.W.fnOf "law" "law" (defArgs s_law0) (defBody s_law0) (defScope s_law0) .none kV_law0 dc_law0 pm_law0 an_law0 cd_law0 ct_law0), sl_law0⟩) (c_law0 : PySem.W.codeIn K cd_law0 "law" = true) (k_law0 : PySem.W.keepIn K (.ref f_law0) = true)
    (z_isinstance : PySem.W.nsIn K mainGlobals "isinstance" = some none)
    (z_bool : PySem.W.nsIn K mainGlobals "bool" = some none)
    (z_int : PySem.W.nsIn K mainGlobals "int" = some none)
    (z_len : PySem.W.nsIn K mainGlobals "len" = some none)
    (z_tuple : PySem.W.nsIn K mainGlobals "tuple" = some none)
    (z_list : PySem.W.nsIn K mainGlobals "list" = some none)
    (z_str : PySem.W.nsIn K mainGlobals "str" = some none)
    (z_abs : PySem.W.nsIn K mainGlobals "abs" = some none)
    (z_range : PySem.W.nsIn K mainGlobals "range" = some none)
    (z_zip : PySem.W.nsIn K mainGlobals "zip" = some none)
    (z_enumerate : PySem.W.nsIn K mainGlobals "enumerate" = some none)
    (z_all : PySem.W.nsIn K mainGlobals "all" = some none)
    (z_any : PySem.W.nsIn K mainGlobals "any" = some none)
    {t_MOST_UNDER : Tok} (y_MOST_UNDER : PySem.W.nsIn K mainGlobals "MOST_UNDER" = some (some (.int 1000 t_MOST_UNDER)))
    {c_bl c_br c_bs c_bn c_bt c_nf c_le : Addr}
    (u_bl : PySem.W.nsIn K mainGlobals "BadLadder" = some (some (.ref c_bl)))
    (u_br : PySem.W.nsIn K mainGlobals "BadRung" = some (some (.ref c_br)))
    (u_bs : PySem.W.nsIn K mainGlobals "BadShare" = some (some (.ref c_bs)))
    (u_bn : PySem.W.nsIn K mainGlobals "BadNumber" = some (some (.ref c_bn)))
    (u_bt : PySem.W.nsIn K mainGlobals "BadText" = some (some (.ref c_bt)))
    (u_nf : PySem.W.nsIn K mainGlobals "NotFound" = some (some (.ref c_nf)))
    (u_le : PySem.W.nsIn K mainGlobals "LadderError" = some (some (.ref c_le)))
    (u_ve : PySem.W.nsIn K mainGlobals "ValueError" = some none) (v1 : PySem.W.subIn K (.ref c_le) (.type "BaseException") = some true) (v2 : PySem.W.hasDictIn K c_le = true) (v3 : PySem.W.typeIn K (.ref c_le) = some (.type "type"))
    (xP_bl : PySem.W.excIn K c_bl [.type "ValueError", .type "Exception", .type "BaseException", .type "object"] "ValueError.__new__" = true)
    (kP_bl : PySem.W.keepIn K (.ref c_bl) = true)
    (bP_bl : PySem.W.subIn K (.ref c_bl) (.type "BaseException") = some true)
    (tP_bl : PySem.W.typeIn K (.ref c_bl) = some (.type "type"))
    (xP_bs : PySem.W.excIn K c_bs [.type "ValueError", .type "Exception", .type "BaseException", .type "object"] "ValueError.__new__" = true)
    (kP_bs : PySem.W.keepIn K (.ref c_bs) = true)
    (bP_bs : PySem.W.subIn K (.ref c_bs) (.type "BaseException") = some true)
    (tP_bs : PySem.W.typeIn K (.ref c_bs) = some (.type "type"))
    (xP_br : PySem.W.excIn K c_br [.type "ValueError", .type "Exception", .type "BaseException", .type "object"] "ValueError.__new__" = true)
    (kP_br : PySem.W.keepIn K (.ref c_br) = true)
    (bP_br : PySem.W.subIn K (.ref c_br) (.type "BaseException") = some true)
    (tP_br : PySem.W.typeIn K (.ref c_br) = some (.type "type"))
    (xP_bn : PySem.W.excIn K c_bn [.type "ValueError", .type "Exception", .type "BaseException", .type "object"] "ValueError.__new__" = true)
    (kP_bn : PySem.W.keepIn K (.ref c_bn) = true)
    (bP_bn : PySem.W.subIn K (.ref c_bn) (.type "BaseException") = some true)
    (tP_bn : PySem.W.typeIn K (.ref c_bn) = some (.type "type"))
    (xP_nf : PySem.W.excIn K c_nf [.type "ValueError", .type "Exception", .type "BaseException", .type "object"] "ValueError.__new__" = true)
    (kP_nf : PySem.W.keepIn K (.ref c_nf) = true)
    (bP_nf : PySem.W.subIn K (.ref c_nf) (.type "BaseException") = some true)
    (tP_nf : PySem.W.typeIn K (.ref c_nf) = some (.type "type"))
    (eB_bl : PySem.W.subIn K (.ref c_bl) (.type "BaseException") = some true)
    (sle_bl : PySem.W.subIn K (.ref c_bl) (.ref c_le) = some true)
    (hg_bl : PySem.W.findIn K (.ref c_bl) "__getattribute__" = some (some (.builtin "BaseException.__getattribute__")))
    (hk_bl : PySem.W.findIn K (.ref c_bl) "__getattr__" = some none)
    (hd_bl : PySem.W.hasDictIn K c_bl = true)
    (ha_bl : PySem.W.findIn K (.ref c_bl) "__class__" = some (some (.builtin "object.__class__")))
    (hn_bl : PySem.W.specialIn K (.builtin "object.__class__") "__get__" = some (some (.builtin "getset_descriptor.__get__")))
    (ht_bl : PySem.W.takesIn K (.builtin "object.__class__") = some true)
    (hm_bl : PySem.W.mroIn K c_bl (.type "object") = some true)
    (k0_bl : PySem.W.kitOne K (.ref c_bl) (.ref c_bl) = some true)
    (k1_bl : PySem.W.kitOne K (.ref c_bl) (.ref c_br) = some false)
    (k2_bl : PySem.W.kitOne K (.ref c_bl) (.ref c_bs) = some false)
    (k3_bl : PySem.W.kitOne K (.ref c_bl) (.ref c_bn) = some false)
    (k4_bl : PySem.W.kitOne K (.ref c_bl) (.ref c_bt) = some false)
    (k5_bl : PySem.W.kitOne K (.ref c_bl) (.ref c_nf) = some false)
    (k6_bl : PySem.W.kitOne K (.ref c_bl) (.ref c_le) = some true)
    (k7_bl : PySem.W.kitOne K (.ref c_bl) (.type "ValueError") = some true)
    (eB_br : PySem.W.subIn K (.ref c_br) (.type "BaseException") = some true)
    (sle_br : PySem.W.subIn K (.ref c_br) (.ref c_le) = some true)
    (hg_br : PySem.W.findIn K (.ref c_br) "__getattribute__" = some (some (.builtin "BaseException.__getattribute__")))
    (hk_br : PySem.W.findIn K (.ref c_br) "__getattr__" = some none)
    (hd_br : PySem.W.hasDictIn K c_br = true)
    (ha_br : PySem.W.findIn K (.ref c_br) "__class__" = some (some (.builtin "object.__class__")))
    (hn_br : PySem.W.specialIn K (.builtin "object.__class__") "__get__" = some (some (.builtin "getset_descriptor.__get__")))
    (ht_br : PySem.W.takesIn K (.builtin "object.__class__") = some true)
    (hm_br : PySem.W.mroIn K c_br (.type "object") = some true)
    (k0_br : PySem.W.kitOne K (.ref c_br) (.ref c_bl) = some false)
    (k1_br : PySem.W.kitOne K (.ref c_br) (.ref c_br) = some true)
    (k2_br : PySem.W.kitOne K (.ref c_br) (.ref c_bs) = some false)
    (k3_br : PySem.W.kitOne K (.ref c_br) (.ref c_bn) = some false)
    (k4_br : PySem.W.kitOne K (.ref c_br) (.ref c_bt) = some false)
    (k5_br : PySem.W.kitOne K (.ref c_br) (.ref c_nf) = some false)
    (k6_br : PySem.W.kitOne K (.ref c_br) (.ref c_le) = some true)
    (k7_br : PySem.W.kitOne K (.ref c_br) (.type "ValueError") = some true)
    (eB_bs : PySem.W.subIn K (.ref c_bs) (.type "BaseException") = some true)
    (sle_bs : PySem.W.subIn K (.ref c_bs) (.ref c_le) = some true)
    (hg_bs : PySem.W.findIn K (.ref c_bs) "__getattribute__" = some (some (.builtin "BaseException.__getattribute__")))
    (hk_bs : PySem.W.findIn K (.ref c_bs) "__getattr__" = some none)
    (hd_bs : PySem.W.hasDictIn K c_bs = true)
    (ha_bs : PySem.W.findIn K (.ref c_bs) "__class__" = some (some (.builtin "object.__class__")))
    (hn_bs : PySem.W.specialIn K (.builtin "object.__class__") "__get__" = some (some (.builtin "getset_descriptor.__get__")))
    (ht_bs : PySem.W.takesIn K (.builtin "object.__class__") = some true)
    (hm_bs : PySem.W.mroIn K c_bs (.type "object") = some true)
    (k0_bs : PySem.W.kitOne K (.ref c_bs) (.ref c_bl) = some false)
    (k1_bs : PySem.W.kitOne K (.ref c_bs) (.ref c_br) = some false)
    (k2_bs : PySem.W.kitOne K (.ref c_bs) (.ref c_bs) = some true)
    (k3_bs : PySem.W.kitOne K (.ref c_bs) (.ref c_bn) = some false)
    (k4_bs : PySem.W.kitOne K (.ref c_bs) (.ref c_bt) = some false)
    (k5_bs : PySem.W.kitOne K (.ref c_bs) (.ref c_nf) = some false)
    (k6_bs : PySem.W.kitOne K (.ref c_bs) (.ref c_le) = some true)
    (k7_bs : PySem.W.kitOne K (.ref c_bs) (.type "ValueError") = some true)
    (eB_bn : PySem.W.subIn K (.ref c_bn) (.type "BaseException") = some true)
    (sle_bn : PySem.W.subIn K (.ref c_bn) (.ref c_le) = some true)
    (hg_bn : PySem.W.findIn K (.ref c_bn) "__getattribute__" = some (some (.builtin "BaseException.__getattribute__")))
    (hk_bn : PySem.W.findIn K (.ref c_bn) "__getattr__" = some none)
    (hd_bn : PySem.W.hasDictIn K c_bn = true)
    (ha_bn : PySem.W.findIn K (.ref c_bn) "__class__" = some (some (.builtin "object.__class__")))
    (hn_bn : PySem.W.specialIn K (.builtin "object.__class__") "__get__" = some (some (.builtin "getset_descriptor.__get__")))
    (ht_bn : PySem.W.takesIn K (.builtin "object.__class__") = some true)
    (hm_bn : PySem.W.mroIn K c_bn (.type "object") = some true)
    (k0_bn : PySem.W.kitOne K (.ref c_bn) (.ref c_bl) = some false)
    (k1_bn : PySem.W.kitOne K (.ref c_bn) (.ref c_br) = some false)
    (k2_bn : PySem.W.kitOne K (.ref c_bn) (.ref c_bs) = some false)
    (k3_bn : PySem.W.kitOne K (.ref c_bn) (.ref c_bn) = some true)
    (k4_bn : PySem.W.kitOne K (.ref c_bn) (.ref c_bt) = some false)
    (k5_bn : PySem.W.kitOne K (.ref c_bn) (.ref c_nf) = some false)
    (k6_bn : PySem.W.kitOne K (.ref c_bn) (.ref c_le) = some true)
    (k7_bn : PySem.W.kitOne K (.ref c_bn) (.type "ValueError") = some true)
    (eB_nf : PySem.W.subIn K (.ref c_nf) (.type "BaseException") = some true)
    (sle_nf : PySem.W.subIn K (.ref c_nf) (.ref c_le) = some true)
    (hg_nf : PySem.W.findIn K (.ref c_nf) "__getattribute__" = some (some (.builtin "BaseException.__getattribute__")))
    (hk_nf : PySem.W.findIn K (.ref c_nf) "__getattr__" = some none)
    (hd_nf : PySem.W.hasDictIn K c_nf = true)
    (ha_nf : PySem.W.findIn K (.ref c_nf) "__class__" = some (some (.builtin "object.__class__")))
    (hn_nf : PySem.W.specialIn K (.builtin "object.__class__") "__get__" = some (some (.builtin "getset_descriptor.__get__")))
    (ht_nf : PySem.W.takesIn K (.builtin "object.__class__") = some true)
    (hm_nf : PySem.W.mroIn K c_nf (.type "object") = some true)
    (k0_nf : PySem.W.kitOne K (.ref c_nf) (.ref c_bl) = some false)
    (k1_nf : PySem.W.kitOne K (.ref c_nf) (.ref c_br) = some false)
    (k2_nf : PySem.W.kitOne K (.ref c_nf) (.ref c_bs) = some false)
    (k3_nf : PySem.W.kitOne K (.ref c_nf) (.ref c_bn) = some false)
    (k4_nf : PySem.W.kitOne K (.ref c_nf) (.ref c_bt) = some false)
    (k5_nf : PySem.W.kitOne K (.ref c_nf) (.ref c_nf) = some true)
    (k6_nf : PySem.W.kitOne K (.ref c_nf) (.ref c_le) = some true)
    (k7_nf : PySem.W.kitOne K (.ref c_nf) (.type "ValueError") = some true)
    : ∃ fd : FuncData, (∀ (s : Shared) (v : Value), BindsTo s fd ⟨[v], []⟩ [("script", v)]) ∧ ∀ base : Heap, K.In base → base.Ns mainGlobals mg → FnOk P w K mg base CX0 12 fa fd ["script"] (spLaw K) := by
  have e := hfa.symm.trans (PySem.W.mg_of X G a_law0)
  cases e
  refine ⟨PySem.W.fnOf "law" "law" (defArgs s_law0) (defBody s_law0) (defScope s_law0) .none kV_law0 dc_law0 pm_law0 an_law0 cd_law0 ct_law0, fun s v => .of_eq rfl, fun base _ _ => ?_⟩
  exact all_ok (fun_mk (st := s_law0) l_law0 c_law0 k_law0) ⟨PySem.W.mg_of X G w_g, ⟨w_pg, w_hd, w_po, w_sa⟩, w_nL, w_nI, w_nM, w_mk, w_kp⟩
    (defIn_mk (st := s_law_error) X G a_law_error l_law_error c_law_error k_law_error (fun _ _ _ _ _ _ us hl => match us, hl with | [_], _ => rfl))
    (defIn_mk (st := s_common) X G a_common l_common c_common k_common (fun _ _ _ _ _ _ us hl => match us, hl with | [_, _], _ => rfl))
    (defIn_mk (st := s_is_int) X G a_is_int l_is_int c_is_int k_is_int (fun _ _ _ _ _ _ us hl => match us, hl with | [_, _, _], _ => rfl))
    (defIn_mk (st := s_is_share) X G a_is_share l_is_share c_is_share k_is_share (fun _ _ _ _ _ _ us hl => match us, hl with | [_], _ => rfl))
    (defIn_mk (st := s_is_ladder) X G a_is_ladder l_is_ladder c_is_ladder k_is_ladder (fun _ _ _ _ _ _ us hl => match us, hl with | [_], _ => rfl))
    (defIn_mk (st := s_checked) X G a_checked l_checked c_checked k_checked (fun _ _ _ _ _ _ us hl => match us, hl with | [_], _ => rfl))
    (defIn_mk (st := s_check_share) X G a_check_share l_check_share c_check_share k_check_share (fun _ _ _ _ _ _ us hl => match us, hl with | [_], _ => rfl))
    (defIn_mk (st := s_check_ladder) X G a_check_ladder l_check_ladder c_check_ladder k_check_ladder (fun _ _ _ _ _ _ us hl => match us, hl with | [_], _ => rfl))
    (defIn_mk (st := s_joined) X G a_joined l_joined c_joined k_joined (fun _ _ _ _ _ _ us hl => match us, hl with | [_, _, _, _], _ => rfl))
    (defIn_mk (st := s_share_text) X G a_share_text l_share_text c_share_text k_share_text (fun _ _ _ _ _ _ us hl => match us, hl with | [_], _ => rfl))
    (defIn_mk (st := s_format_ladder) X G a_format_ladder l_format_ladder c_format_ladder k_format_ladder (fun _ _ _ _ _ _ us hl => match us, hl with | [_], _ => rfl))
    (defIn_mk (st := s_lowest) X G a_lowest l_lowest c_lowest k_lowest (fun _ _ _ _ _ _ us hl => match us, hl with | [_, _], _ => rfl))
    (defIn_mk (st := s_divided) X G a_divided l_divided c_divided k_divided (fun _ _ _ _ _ _ us hl => match us, hl with | [_, _], _ => rfl))
    (defIn_mk (st := s_plus) X G a_plus l_plus c_plus k_plus (fun _ _ _ _ _ _ us hl => match us, hl with | [_, _], _ => rfl))
    (defIn_mk (st := s_without_stays) X G a_without_stays l_without_stays c_without_stays k_without_stays (fun _ _ _ _ _ _ us hl => match us, hl with | [_], _ => rfl))
    (defIn_mk (st := s_turned_over) X G a_turned_over l_turned_over c_turned_over k_turned_over (fun _ _ _ _ _ _ us hl => match us, hl with | [_], _ => rfl))
    (defIn_mk (st := s_minus) X G a_minus l_minus c_minus k_minus (fun _ _ _ _ _ _ us hl => match us, hl with | [_, _], _ => rfl))
    (defIn_mk (st := s_rests) X G a_rests l_rests c_rests k_rests (fun _ _ _ _ _ _ us hl => match us, hl with | [_], _ => rfl))
    (defIn_mk (st := s_times_of) X G a_times_of l_times_of c_times_of k_times_of (fun _ _ _ _ _ _ us hl => match us, hl with | [_, _], _ => rfl))
    (defIn_mk (st := s_total) X G a_total l_total c_total k_total (fun _ _ _ _ _ _ us hl => match us, hl with | [_], _ => rfl))
    (defIn_mk (st := s_products_of) X G a_products_of l_products_of c_products_of k_products_of (fun _ _ _ _ _ _ us hl => match us, hl with | [_], _ => rfl))
    (defIn_mk (st := s_quotients_of) X G a_quotients_of l_quotients_of c_quotients_of k_quotients_of (fun _ _ _ _ _ _ us hl => match us, hl with | [_], _ => rfl))
    (defIn_mk (st := s_between_of) X G a_between_of l_between_of c_between_of k_between_of (fun _ _ _ _ _ _ us hl => match us, hl with | [_, _, _, _], _ => rfl))
    (defIn_mk (st := s_top_of) X G a_top_of l_top_of c_top_of k_top_of (fun _ _ _ _ _ _ us hl => match us, hl with | [_, _], _ => rfl))
    (defIn_mk (st := s_given_of) X G a_given_of l_given_of c_given_of k_given_of (fun _ _ _ _ _ _ us hl => match us, hl with | [_, _, _], _ => rfl))
    (defIn_mk (st := s_given_bottom) X G a_given_bottom l_given_bottom c_given_bottom k_given_bottom (fun _ _ _ _ _ _ us hl => match us, hl with | [_], _ => rfl))
    (defIn_mk (st := s_given_top) X G a_given_top l_given_top c_given_top k_given_top (fun _ _ _ _ _ _ us hl => match us, hl with | [_], _ => rfl))
    (defIn_mk (st := s_means_of) X G a_means_of l_means_of c_means_of k_means_of (fun _ _ _ _ _ _ us hl => match us, hl with | [_], _ => rfl))
    (defIn_mk (st := s_longest_rung) X G a_longest_rung l_longest_rung c_longest_rung k_longest_rung (fun _ _ _ _ _ _ us hl => match us, hl with | [_], _ => rfl))
    (defIn_mk (st := s_all_mean_steps) X G a_all_mean_steps l_all_mean_steps c_all_mean_steps k_all_mean_steps (fun _ _ _ _ _ _ us hl => match us, hl with | [_], _ => rfl))
    (defIn_mk (st := s_end_alike) X G a_end_alike l_end_alike c_end_alike k_end_alike (fun _ _ _ _ _ _ us hl => match us, hl with | [_, _], _ => rfl))
    (defIn_mk (st := s_is_fair) X G a_is_fair l_is_fair c_is_fair k_is_fair (fun _ _ _ _ _ _ us hl => match us, hl with | [_], _ => rfl))
    (defIn_mk (st := s_top_chances) X G a_top_chances l_top_chances c_top_chances k_top_chances (fun _ _ _ _ _ _ us hl => match us, hl with | [_], _ => rfl))
    (defIn_mk (st := s_quotients) X G a_quotients l_quotients c_quotients k_quotients (fun _ _ _ _ _ _ us hl => match us, hl with | [_], _ => rfl))
    (defIn_mk (st := s_law_one) X G a_law_one l_law_one c_law_one k_law_one (fun _ _ _ _ _ _ us hl => match us, hl with | [_, _], _ => rfl))
    (defIn_mk (st := s_next_of) X G a_next_of l_next_of c_next_of k_next_of (fun _ _ _ _ _ _ us hl => match us, hl with | [_, _], _ => rfl))
    (defIn_mk (st := s_less) X G a_less l_less c_less k_less (fun _ _ _ _ _ _ us hl => match us, hl with | [_, _], _ => rfl))
    (defIn_mk (st := s_after_of) X G a_after_of l_after_of c_after_of k_after_of (fun _ _ _ _ _ _ us hl => match us, hl with | [_, _, _], _ => rfl))
    (defIn_mk (st := s_check_rung) X G a_check_rung l_check_rung c_check_rung k_check_rung (fun _ _ _ _ _ _ us hl => match us, hl with | [_, _], _ => rfl))
    (defIn_mk (st := s_first_by) X G a_first_by l_first_by c_first_by k_first_by (fun _ _ _ _ _ _ us hl => match us, hl with | [_, _, _], _ => rfl))
    (defIn_mk (st := s_check_many) X G a_check_many l_check_many c_check_many k_check_many (fun _ _ _ _ _ _ us hl => match us, hl with | [_], _ => rfl))
    (defIn_mk (st := s_top_after) X G a_top_after l_top_after c_top_after k_top_after (fun _ _ _ _ _ _ us hl => match us, hl with | [_, _, _, _], _ => rfl))
    (defIn_mk (st := s_after_given_top) X G a_after_given_top l_after_given_top c_after_given_top k_after_given_top (fun _ _ _ _ _ _ us hl => match us, hl with | [_, _, _], _ => rfl))
    (defIn_mk (st := s_likeliest) X G a_likeliest l_likeliest c_likeliest k_likeliest (fun _ _ _ _ _ _ us hl => match us, hl with | [_, _, _], _ => rfl))
    (defIn_mk (st := s_top_at) X G a_top_at l_top_at c_top_at k_top_at (fun _ _ _ _ _ _ us hl => match us, hl with | [_, _, _], _ => rfl))
    (defIn_mk (st := s_ends_at) X G a_ends_at l_ends_at c_ends_at k_ends_at (fun _ _ _ _ _ _ us hl => match us, hl with | [_, _, _], _ => rfl))
    (defIn_mk (st := s_ended_by) X G a_ended_by l_ended_by c_ended_by k_ended_by (fun _ _ _ _ _ _ us hl => match us, hl with | [_, _, _], _ => rfl))
    (defIn_mk (st := s_after) X G a_after l_after c_after k_after (fun _ _ _ _ _ _ us hl => match us, hl with | [_, _, _], _ => rfl))
    (defM_mk (st := s_Walker_init__) a_Walker_init__ i_Walker_init__ l_Walker_init__ c_Walker_init__ k_Walker_init__ (fun _ _ _ _ _ _ us hl => match us, hl with | [_, _, _], _ => rfl))
    (defIn_mk (st := s_ever_of) X G a_ever_of l_ever_of c_ever_of k_ever_of (fun _ _ _ _ _ _ us hl => match us, hl with | [_, _, _], _ => rfl))
    (defIn_mk (st := s_check_inner) X G a_check_inner l_check_inner c_check_inner k_check_inner (fun _ _ _ _ _ _ us hl => match us, hl with | [_, _], _ => rfl))
    (defIn_mk (st := s_visits) X G a_visits l_visits c_visits k_visits (fun _ _ _ _ _ _ us hl => match us, hl with | [_, _, _], _ => rfl))
    (defIn_mk (st := s_ever_at) X G a_ever_at l_ever_at c_ever_at k_ever_at (fun _ _ _ _ _ _ us hl => match us, hl with | [_, _, _], _ => rfl))
    (defIn_mk (st := s_mean_steps) X G a_mean_steps l_mean_steps c_mean_steps k_mean_steps (fun _ _ _ _ _ _ us hl => match us, hl with | [_, _], _ => rfl))
    (defIn_mk (st := s_mean_end) X G a_mean_end l_mean_end c_mean_end k_mean_end (fun _ _ _ _ _ _ us hl => match us, hl with | [_, _], _ => rfl))
    (defIn_mk (st := s_bottom_chance) X G a_bottom_chance l_bottom_chance c_bottom_chance k_bottom_chance (fun _ _ _ _ _ _ us hl => match us, hl with | [_, _], _ => rfl))
    (defIn_mk (st := s_top_chance) X G a_top_chance l_top_chance c_top_chance k_top_chance (fun _ _ _ _ _ _ us hl => match us, hl with | [_, _], _ => rfl))
    (defIn_mk (st := s_law_runged) X G a_law_runged l_law_runged c_law_runged k_law_runged (fun _ _ _ _ _ _ us hl => match us, hl with | [_, _, _, _], _ => rfl))
    (defIn_mk (st := s_with_rung) X G a_with_rung l_with_rung c_with_rung k_with_rung (fun _ _ _ _ _ _ us hl => match us, hl with | [_, _, _, _], _ => rfl))
    (defIn_mk (st := s_slower) X G a_slower l_slower c_slower k_slower (fun _ _ _ _ _ _ us hl => match us, hl with | [_, _, _], _ => rfl))
    (defIn_mk (st := s_without_rung) X G a_without_rung l_without_rung c_without_rung k_without_rung (fun _ _ _ _ _ _ us hl => match us, hl with | [_, _], _ => rfl))
    (defIn_mk (st := s_stays_given_top) X G a_stays_given_top l_stays_given_top c_stays_given_top k_stays_given_top (fun _ _ _ _ _ _ us hl => match us, hl with | [_, _], _ => rfl))
    (defIn_mk (st := s_mean_stay) X G a_mean_stay l_mean_stay c_mean_stay k_mean_stay (fun _ _ _ _ _ _ us hl => match us, hl with | [_, _], _ => rfl))
    (defIn_mk (st := s_law_inner) X G a_law_inner l_law_inner c_law_inner k_law_inner (fun _ _ _ _ _ _ us hl => match us, hl with | [_, _, _, _], _ => rfl))
    (defIn_mk (st := s_law_asked) X G a_law_asked l_law_asked c_law_asked k_law_asked (fun _ _ _ _ _ _ us hl => match us, hl with | [_, _, _, _, _], _ => rfl))
    (defIn_mk (st := s_law_numbers) X G a_law_numbers l_law_numbers c_law_numbers k_law_numbers (fun _ _ _ _ _ _ us hl => match us, hl with | [_, _], _ => rfl))
    (defIn_mk (st := s_law_draw) X G a_law_draw l_law_draw c_law_draw k_law_draw (fun _ _ _ _ _ _ us hl => match us, hl with | [_, _], _ => rfl))
    (defIn_mk (st := s_law_low) X G a_law_low l_law_low c_law_low k_law_low (fun _ _ _ _ _ _ us hl => match us, hl with | [_, _], _ => rfl))
    (defIn_mk (st := s_law_pick) X G a_law_pick l_law_pick c_law_pick k_law_pick (fun _ _ _ _ _ _ us hl => match us, hl with | [_, _], _ => rfl))
    (defIn_mk (st := s_law_ladder) X G a_law_ladder l_law_ladder c_law_ladder k_law_ladder (fun _ _ _ _ _ _ us hl => match us, hl with | [_, _], _ => rfl))
    (defIn_mk (st := s_law_start) X G a_law_start l_law_start c_law_start k_law_start (fun _ _ _ _ _ _ us hl => match us, hl with | [_], _ => rfl)) (PySem.W.mg_none_of X G z_isinstance) (PySem.W.mg_none_of X G z_bool) (PySem.W.mg_none_of X G z_int) (PySem.W.mg_none_of X G z_len) (PySem.W.mg_none_of X G z_tuple) (PySem.W.mg_none_of X G z_list) (PySem.W.mg_none_of X G z_str) (PySem.W.mg_none_of X G z_abs) (PySem.W.mg_none_of X G z_range) (PySem.W.mg_none_of X G z_zip) (PySem.W.mg_none_of X G z_enumerate) (PySem.W.mg_none_of X G z_all) (PySem.W.mg_none_of X G z_any) ⟨_, PySem.W.mg_of X G y_MOST_UNDER⟩ (er := ⟨c_bl, c_br, c_bs, c_bn, c_bt, c_nf, c_le⟩) ⟨PySem.W.mg_of X G u_bl, PySem.W.mg_of X G u_br, PySem.W.mg_of X G u_bs, PySem.W.mg_of X G u_bn, PySem.W.mg_of X G u_bt, PySem.W.mg_of X G u_nf, PySem.W.mg_of X G u_le, PySem.W.mg_none_of X G u_ve⟩ ⟨PySem.W.mg_of X G u_bl, xP_bl, kP_bl, bP_bl, tP_bl⟩ ⟨PySem.W.mg_of X G u_bs, xP_bs, kP_bs, bP_bs, tP_bs⟩ ⟨PySem.W.mg_of X G u_br, xP_br, kP_br, bP_br, tP_br⟩ ⟨PySem.W.mg_of X G u_bn, xP_bn, kP_bn, bP_bn, tP_bn⟩ ⟨PySem.W.mg_of X G u_nf, xP_nf, kP_nf, bP_nf, tP_nf⟩ ⟨(PySem.W.exm_ref v1 v2 v3 sle_bl), ⟨hg_bl, hk_bl, eB_bl, hd_bl, ha_bl, hn_bl, ht_bl, hm_bl⟩, k0_bl, k1_bl, k2_bl, k3_bl, k4_bl, k5_bl, k6_bl, k7_bl⟩ ⟨(PySem.W.exm_ref v1 v2 v3 sle_br), ⟨hg_br, hk_br, eB_br, hd_br, ha_br, hn_br, ht_br, hm_br⟩, k0_br, k1_br, k2_br, k3_br, k4_br, k5_br, k6_br, k7_br⟩ ⟨(PySem.W.exm_ref v1 v2 v3 sle_bs), ⟨hg_bs, hk_bs, eB_bs, hd_bs, ha_bs, hn_bs, ht_bs, hm_bs⟩, k0_bs, k1_bs, k2_bs, k3_bs, k4_bs, k5_bs, k6_bs, k7_bs⟩ ⟨(PySem.W.exm_ref v1 v2 v3 sle_bn), ⟨hg_bn, hk_bn, eB_bn, hd_bn, ha_bn, hn_bn, ht_bn, hm_bn⟩, k0_bn, k1_bn, k2_bn, k3_bn, k4_bn, k5_bn, k6_bn, k7_bn⟩ ⟨(PySem.W.exm_ref v1 v2 v3 sle_nf), ⟨hg_nf, hk_nf, eB_nf, hd_nf, ha_nf, hn_nf, ht_nf, hm_nf⟩, k0_nf, k1_nf, k2_nf, k3_nf, k4_nf, k5_nf, k6_nf, k7_nf⟩
end LW
open PySem PySem.W PyProof.Rows
set_option maxHeartbeats 0 in
theorem PySem.Challenge.cw_ladderwalks_k12_errors_holds : PySem.Challenge.rw_ladderwalks_k12_errors.Holds := by
  w_on; o_law; k_head; (case hw => w_witness2)
  k_fill
  refine L2.walk_of (l := PySem.Challenge.rw_ladderwalks_k12_errors) (n := 63) (k := 12) (x := "script") (CX := fun _ => L2.CX0) (sp := fun w => LW.spLaw _) rfl (by decide) rfl ⟨rfl, by decide, by decide⟩ (fun w h Y => PySem.W.kIn_of Y) ?F (fun _ _ a ns hl _ hS => ⟨a, ns, rfl, hS, fun _ => rfl⟩) (fun _ _ _ _ _ h => h)
  case F =>
    intro w mg fa h KX G hmg
    refine' LW.all_mk KX G hmg ?w_g ?w_pg ?w_hd ?w_po ?w_sa ?w_nL ?w_nI ?w_nM ?w_mk ?w_kp ?a_law_error ?l_law_error ?c_law_error ?k_law_error ?a_common ?l_common ?c_common ?k_common ?a_is_int ?l_is_int ?c_is_int ?k_is_int ?a_is_share ?l_is_share ?c_is_share ?k_is_share ?a_is_ladder ?l_is_ladder ?c_is_ladder ?k_is_ladder ?a_checked ?l_checked ?c_checked ?k_checked ?a_check_share ?l_check_share ?c_check_share ?k_check_share ?a_check_ladder ?l_check_ladder ?c_check_ladder ?k_check_ladder ?a_joined ?l_joined ?c_joined ?k_joined ?a_share_text ?l_share_text ?c_share_text ?k_share_text ?a_format_ladder ?l_format_ladder ?c_format_ladder ?k_format_ladder ?a_lowest ?l_lowest ?c_lowest ?k_lowest ?a_divided ?l_divided ?c_divided ?k_divided ?a_plus ?l_plus ?c_plus ?k_plus ?a_without_stays ?l_without_stays ?c_without_stays ?k_without_stays ?a_turned_over ?l_turned_over ?c_turned_over ?k_turned_over ?a_minus ?l_minus ?c_minus ?k_minus ?a_rests ?l_rests ?c_rests ?k_rests ?a_times_of ?l_times_of ?c_times_of ?k_times_of ?a_total ?l_total ?c_total ?k_total ?a_products_of ?l_products_of ?c_products_of ?k_products_of ?a_quotients_of ?l_quotients_of ?c_quotients_of ?k_quotients_of ?a_between_of ?l_between_of ?c_between_of ?k_between_of ?a_top_of ?l_top_of ?c_top_of ?k_top_of ?a_given_of ?l_given_of ?c_given_of ?k_given_of ?a_given_bottom ?l_given_bottom ?c_given_bottom ?k_given_bottom ?a_given_top ?l_given_top ?c_given_top ?k_given_top ?a_means_of ?l_means_of ?c_means_of ?k_means_of ?a_longest_rung ?l_longest_rung ?c_longest_rung ?k_longest_rung ?a_all_mean_steps ?l_all_mean_steps ?c_all_mean_steps ?k_all_mean_steps ?a_end_alike ?l_end_alike ?c_end_alike ?k_end_alike ?a_is_fair ?l_is_fair ?c_is_fair ?k_is_fair ?a_top_chances ?l_top_chances ?c_top_chances ?k_top_chances ?a_quotients ?l_quotients ?c_quotients ?k_quotients ?a_law_one ?l_law_one ?c_law_one ?k_law_one ?a_next_of ?l_next_of ?c_next_of ?k_next_of ?a_less ?l_less ?c_less ?k_less ?a_after_of ?l_after_of ?c_after_of ?k_after_of ?a_check_rung ?l_check_rung ?c_check_rung ?k_check_rung ?a_first_by ?l_first_by ?c_first_by ?k_first_by ?a_check_many ?l_check_many ?c_check_many ?k_check_many ?a_top_after ?l_top_after ?c_top_after ?k_top_after ?a_after_given_top ?l_after_given_top ?c_after_given_top ?k_after_given_top ?a_likeliest ?l_likeliest ?c_likeliest ?k_likeliest ?a_top_at ?l_top_at ?c_top_at ?k_top_at ?a_ends_at ?l_ends_at ?c_ends_at ?k_ends_at ?a_ended_by ?l_ended_by ?c_ended_by ?k_ended_by ?a_after ?l_after ?c_after ?k_after ?a_Walker_init__ ?i_Walker_init__ ?l_Walker_init__ ?c_Walker_init__ ?k_Walker_init__ ?a_ever_of ?l_ever_of ?c_ever_of ?k_ever_of ?a_check_inner ?l_check_inner ?c_check_inner ?k_check_inner ?a_visits ?l_visits ?c_visits ?k_visits ?a_ever_at ?l_ever_at ?c_ever_at ?k_ever_at ?a_mean_steps ?l_mean_steps ?c_mean_steps ?k_mean_steps ?a_mean_end ?l_mean_end ?c_mean_end ?k_mean_end ?a_bottom_chance ?l_bottom_chance ?c_bottom_chance ?k_bottom_chance ?a_top_chance ?l_top_chance ?c_top_chance ?k_top_chance ?a_law_runged ?l_law_runged ?c_law_runged ?k_law_runged ?a_with_rung ?l_with_rung ?c_with_rung ?k_with_rung ?a_slower ?l_slower ?c_slower ?k_slower ?a_without_rung ?l_without_rung ?c_without_rung ?k_without_rung ?a_stays_given_top ?l_stays_given_top ?c_stays_given_top ?k_stays_given_top ?a_mean_stay ?l_mean_stay ?c_mean_stay ?k_mean_stay ?a_law_inner ?l_law_inner ?c_law_inner ?k_law_inner ?a_law_asked ?l_law_asked ?c_law_asked ?k_law_asked ?a_law_numbers ?l_law_numbers ?c_law_numbers ?k_law_numbers ?a_law_draw ?l_law_draw ?c_law_draw ?k_law_draw ?a_law_low ?l_law_low ?c_law_low ?k_law_low ?a_law_pick ?l_law_pick ?c_law_pick ?k_law_pick ?a_law_ladder ?l_law_ladder ?c_law_ladder ?k_law_ladder ?a_law_start ?l_law_start ?c_law_start ?k_law_start ?a_law0 ?l_law0 ?c_law0 ?k_law0 ?z_isinstance ?z_bool ?z_int ?z_len ?z_tuple ?z_list ?z_str ?z_abs ?z_range ?z_zip ?z_enumerate ?z_all ?z_any ?y_MOST_UNDER ?u_bl ?u_br ?u_bs ?u_bn ?u_bt ?u_nf ?u_le ?u_ve ?v1 ?v2 ?v3 ?xP_bl ?kP_bl ?bP_bl ?tP_bl ?xP_bs ?kP_bs ?bP_bs ?tP_bs ?xP_br ?kP_br ?bP_br ?tP_br ?xP_bn ?kP_bn ?bP_bn ?tP_bn ?xP_nf ?kP_nf ?bP_nf ?tP_nf ?eB_bl ?sle_bl ?hg_bl ?hk_bl ?hd_bl ?ha_bl ?hn_bl ?ht_bl ?hm_bl ?k0_bl ?k1_bl ?k2_bl ?k3_bl ?k4_bl ?k5_bl ?k6_bl ?k7_bl ?eB_br ?sle_br ?hg_br ?hk_br ?hd_br ?ha_br ?hn_br ?ht_br ?hm_br ?k0_br ?k1_br ?k2_br ?k3_br ?k4_br ?k5_br ?k6_br ?k7_br ?eB_bs ?sle_bs ?hg_bs ?hk_bs ?hd_bs ?ha_bs ?hn_bs ?ht_bs ?hm_bs ?k0_bs ?k1_bs ?k2_bs ?k3_bs ?k4_bs ?k5_bs ?k6_bs ?k7_bs ?eB_bn ?sle_bn ?hg_bn ?hk_bn ?hd_bn ?ha_bn ?hn_bn ?ht_bn ?hm_bn ?k0_bn ?k1_bn ?k2_bn ?k3_bn ?k4_bn ?k5_bn ?k6_bn ?k7_bn ?eB_nf ?sle_nf ?hg_nf ?hk_nf ?hd_nf ?ha_nf ?hn_nf ?ht_nf ?hm_nf ?k0_nf ?k1_nf ?k2_nf ?k3_nf ?k4_nf ?k5_nf ?k6_nf ?k7_nf
    (case w_g => k_is)
    (case w_pg => k_is)
    (case w_hd => k_is)
    (case w_po => k_is)
    (case w_sa => k_is)
    (case w_nL => k_is)
    (case w_nI => k_is)
    (case w_nM => k_is)
    (case w_mk => k_is)
    (case w_kp => k_is)
    (case a_law_error => k_is)
    (case l_law_error => k_is)
    (case c_law_error => k_is)
    (case k_law_error => k_is)
    (case a_common => k_is)
    (case l_common => k_is)
    (case c_common => k_is)
    (case k_common => k_is)
    (case a_is_int => k_is)
    (case l_is_int => k_is)
    (case c_is_int => k_is)
    (case k_is_int => k_is)
    (case a_is_share => k_is)
    (case l_is_share => k_is)
    (case c_is_share => k_is)
    (case k_is_share => k_is)
    (case a_is_ladder => k_is)
    (case l_is_ladder => k_is)
    (case c_is_ladder => k_is)
    (case k_is_ladder => k_is)
    (case a_checked => k_is)
    (case l_checked => k_is)
    (case c_checked => k_is)
    (case k_checked => k_is)
    (case a_check_share => k_is)
    (case l_check_share => k_is)
    (case c_check_share => k_is)
    (case k_check_share => k_is)
    (case a_check_ladder => k_is)
    (case l_check_ladder => k_is)
    (case c_check_ladder => k_is)
    (case k_check_ladder => k_is)
    (case a_joined => k_is)
    (case l_joined => k_is)
    (case c_joined => k_is)
    (case k_joined => k_is)
    (case a_share_text => k_is)
    (case l_share_text => k_is)
    (case c_share_text => k_is)
    (case k_share_text => k_is)
    (case a_format_ladder => k_is)
    (case l_format_ladder => k_is)
    (case c_format_ladder => k_is)
    (case k_format_ladder => k_is)
    (case a_lowest => k_is)
    (case l_lowest => k_is)
    (case c_lowest => k_is)
    (case k_lowest => k_is)
    (case a_divided => k_is)
    (case l_divided => k_is)
    (case c_divided => k_is)
    (case k_divided => k_is)
    (case a_plus => k_is)
    (case l_plus => k_is)
    (case c_plus => k_is)
    (case k_plus => k_is)
    (case a_without_stays => k_is)
    (case l_without_stays => k_is)
    (case c_without_stays => k_is)
    (case k_without_stays => k_is)
    (case a_turned_over => k_is)
    (case l_turned_over => k_is)
    (case c_turned_over => k_is)
    (case k_turned_over => k_is)
    (case a_minus => k_is)
    (case l_minus => k_is)
    (case c_minus => k_is)
    (case k_minus => k_is)
    (case a_rests => k_is)
    (case l_rests => k_is)
    (case c_rests => k_is)
    (case k_rests => k_is)
    (case a_times_of => k_is)
    (case l_times_of => k_is)
    (case c_times_of => k_is)
    (case k_times_of => k_is)
    (case a_total => k_is)
    (case l_total => k_is)
    (case c_total => k_is)
    (case k_total => k_is)
    (case a_products_of => k_is)
    (case l_products_of => k_is)
    (case c_products_of => k_is)
    (case k_products_of => k_is)
    (case a_quotients_of => k_is)
    (case l_quotients_of => k_is)
    (case c_quotients_of => k_is)
    (case k_quotients_of => k_is)
    (case a_between_of => k_is)
    (case l_between_of => k_is)
    (case c_between_of => k_is)
    (case k_between_of => k_is)
    (case a_top_of => k_is)
    (case l_top_of => k_is)
    (case c_top_of => k_is)
    (case k_top_of => k_is)
    (case a_given_of => k_is)
    (case l_given_of => k_is)
    (case c_given_of => k_is)
    (case k_given_of => k_is)
    (case a_given_bottom => k_is)
    (case l_given_bottom => k_is)
    (case c_given_bottom => k_is)
    (case k_given_bottom => k_is)
    (case a_given_top => k_is)
    (case l_given_top => k_is)
    (case c_given_top => k_is)
    (case k_given_top => k_is)
    (case a_means_of => k_is)
    (case l_means_of => k_is)
    (case c_means_of => k_is)
    (case k_means_of => k_is)
    (case a_longest_rung => k_is)
    (case l_longest_rung => k_is)
    (case c_longest_rung => k_is)
    (case k_longest_rung => k_is)
    (case a_all_mean_steps => k_is)
    (case l_all_mean_steps => k_is)
    (case c_all_mean_steps => k_is)
    (case k_all_mean_steps => k_is)
    (case a_end_alike => k_is)
    (case l_end_alike => k_is)
    (case c_end_alike => k_is)
    (case k_end_alike => k_is)
    (case a_is_fair => k_is)
    (case l_is_fair => k_is)
    (case c_is_fair => k_is)
    (case k_is_fair => k_is)
    (case a_top_chances => k_is)
    (case l_top_chances => k_is)
    (case c_top_chances => k_is)
    (case k_top_chances => k_is)
    (case a_quotients => k_is)
    (case l_quotients => k_is)
    (case c_quotients => k_is)
    (case k_quotients => k_is)
    (case a_law_one => k_is)
    (case l_law_one => k_is)
    (case c_law_one => k_is)
    (case k_law_one => k_is)
    (case a_next_of => k_is)
    (case l_next_of => k_is)
    (case c_next_of => k_is)
    (case k_next_of => k_is)
    (case a_less => k_is)
    (case l_less => k_is)
    (case c_less => k_is)
    (case k_less => k_is)
    (case a_after_of => k_is)
    (case l_after_of => k_is)
    (case c_after_of => k_is)
    (case k_after_of => k_is)
    (case a_check_rung => k_is)
    (case l_check_rung => k_is)
    (case c_check_rung => k_is)
    (case k_check_rung => k_is)
    (case a_first_by => k_is)
    (case l_first_by => k_is)
    (case c_first_by => k_is)
    (case k_first_by => k_is)
    (case a_check_many => k_is)
    (case l_check_many => k_is)
    (case c_check_many => k_is)
    (case k_check_many => k_is)
    (case a_top_after => k_is)
    (case l_top_after => k_is)
    (case c_top_after => k_is)
    (case k_top_after => k_is)
    (case a_after_given_top => k_is)
    (case l_after_given_top => k_is)
    (case c_after_given_top => k_is)
    (case k_after_given_top => k_is)
    (case a_likeliest => k_is)
    (case l_likeliest => k_is)
    (case c_likeliest => k_is)
    (case k_likeliest => k_is)
    (case a_top_at => k_is)
    (case l_top_at => k_is)
    (case c_top_at => k_is)
    (case k_top_at => k_is)
    (case a_ends_at => k_is)
    (case l_ends_at => k_is)
    (case c_ends_at => k_is)
    (case k_ends_at => k_is)
    (case a_ended_by => k_is)
    (case l_ended_by => k_is)
    (case c_ended_by => k_is)
    (case k_ended_by => k_is)
    (case a_after => k_is)
    (case l_after => k_is)
    (case c_after => k_is)
    (case k_after => k_is)
    (case a_Walker_init__ => k_is)
    (case i_Walker_init__ => k_is)
    (case l_Walker_init__ => k_is)
    (case c_Walker_init__ => k_is)
    (case k_Walker_init__ => k_is)
    (case a_ever_of => k_is)
    (case l_ever_of => k_is)
    (case c_ever_of => k_is)
    (case k_ever_of => k_is)
    (case a_check_inner => k_is)
    (case l_check_inner => k_is)
    (case c_check_inner => k_is)
    (case k_check_inner => k_is)
    (case a_visits => k_is)
    (case l_visits => k_is)
    (case c_visits => k_is)
    (case k_visits => k_is)
    (case a_ever_at => k_is)
    (case l_ever_at => k_is)
    (case c_ever_at => k_is)
    (case k_ever_at => k_is)
    (case a_mean_steps => k_is)
    (case l_mean_steps => k_is)
    (case c_mean_steps => k_is)
    (case k_mean_steps => k_is)
    (case a_mean_end => k_is)
    (case l_mean_end => k_is)
    (case c_mean_end => k_is)
    (case k_mean_end => k_is)
    (case a_bottom_chance => k_is)
    (case l_bottom_chance => k_is)
    (case c_bottom_chance => k_is)
    (case k_bottom_chance => k_is)
    (case a_top_chance => k_is)
    (case l_top_chance => k_is)
    (case c_top_chance => k_is)
    (case k_top_chance => k_is)
    (case a_law_runged => k_is)
    (case l_law_runged => k_is)
    (case c_law_runged => k_is)
    (case k_law_runged => k_is)
    (case a_with_rung => k_is)
    (case l_with_rung => k_is)
    (case c_with_rung => k_is)
    (case k_with_rung => k_is)
    (case a_slower => k_is)
    (case l_slower => k_is)
    (case c_slower => k_is)
    (case k_slower => k_is)
    (case a_without_rung => k_is)
    (case l_without_rung => k_is)
    (case c_without_rung => k_is)
    (case k_without_rung => k_is)
    (case a_stays_given_top => k_is)
    (case l_stays_given_top => k_is)
    (case c_stays_given_top => k_is)
    (case k_stays_given_top => k_is)
    (case a_mean_stay => k_is)
    (case l_mean_stay => k_is)
    (case c_mean_stay => k_is)
    (case k_mean_stay => k_is)
    (case a_law_inner => k_is)
    (case l_law_inner => k_is)
    (case c_law_inner => k_is)
    (case k_law_inner => k_is)
    (case a_law_asked => k_is)
    (case l_law_asked => k_is)
    (case c_law_asked => k_is)
    (case k_law_asked => k_is)
    (case a_law_numbers => k_is)
    (case l_law_numbers => k_is)
    (case c_law_numbers => k_is)
    (case k_law_numbers => k_is)
    (case a_law_draw => k_is)
    (case l_law_draw => k_is)
    (case c_law_draw => k_is)
    (case k_law_draw => k_is)
    (case a_law_low => k_is)
    (case l_law_low => k_is)
    (case c_law_low => k_is)
    (case k_law_low => k_is)
    (case a_law_pick => k_is)
    (case l_law_pick => k_is)
    (case c_law_pick => k_is)
    (case k_law_pick => k_is)
    (case a_law_ladder => k_is)
    (case l_law_ladder => k_is)
    (case c_law_ladder => k_is)
    (case k_law_ladder => k_is)
    (case a_law_start => k_is)
    (case l_law_start => k_is)
    (case c_law_start => k_is)
    (case k_law_start => k_is)
    (case a_law0 => k_is)
    (case l_law0 => k_is)
    (case c_law0 => k_is)
    (case k_law0 => k_is)
    (case z_isinstance => k_is)
    (case z_bool => k_is)
    (case z_int => k_is)
    (case z_len => k_is)
    (case z_tuple => k_is)
    (case z_list => k_is)
    (case z_str => k_is)
    (case z_abs => k_is)
    (case z_range => k_is)
    (case z_zip => k_is)
    (case z_enumerate => k_is)
    (case z_all => k_is)
    (case z_any => k_is)
    (case y_MOST_UNDER => k_is)
    (case u_bl => k_is)
    (case u_br => k_is)
    (case u_bs => k_is)
    (case u_bn => k_is)
    (case u_bt => k_is)
    (case u_nf => k_is)
    (case u_le => k_is)
    (case u_ve => k_is)
    (case v1 => k_is)
    (case v2 => k_is)
    (case v3 => k_is)
    (case xP_bl => k_exc)
    (case kP_bl => k_is)
    (case bP_bl => k_is)
    (case tP_bl => k_is)
    (case xP_bs => k_exc)
    (case kP_bs => k_is)
    (case bP_bs => k_is)
    (case tP_bs => k_is)
    (case xP_br => k_exc)
    (case kP_br => k_is)
    (case bP_br => k_is)
    (case tP_br => k_is)
    (case xP_bn => k_exc)
    (case kP_bn => k_is)
    (case bP_bn => k_is)
    (case tP_bn => k_is)
    (case xP_nf => k_exc)
    (case kP_nf => k_is)
    (case bP_nf => k_is)
    (case tP_nf => k_is)
    (case eB_bl => k_is)
    (case sle_bl => k_is)
    (case hg_bl => k_is)
    (case hk_bl => k_is)
    (case hd_bl => k_is)
    (case ha_bl => k_is)
    (case hn_bl => k_is)
    (case ht_bl => k_is)
    (case hm_bl => k_is)
    (case k0_bl => kit_is)
    (case k1_bl => kit_is)
    (case k2_bl => kit_is)
    (case k3_bl => kit_is)
    (case k4_bl => kit_is)
    (case k5_bl => kit_is)
    (case k6_bl => kit_is)
    (case k7_bl => kit_is)
    (case eB_br => k_is)
    (case sle_br => k_is)
    (case hg_br => k_is)
    (case hk_br => k_is)
    (case hd_br => k_is)
    (case ha_br => k_is)
    (case hn_br => k_is)
    (case ht_br => k_is)
    (case hm_br => k_is)
    (case k0_br => kit_is)
    (case k1_br => kit_is)
    (case k2_br => kit_is)
    (case k3_br => kit_is)
    (case k4_br => kit_is)
    (case k5_br => kit_is)
    (case k6_br => kit_is)
    (case k7_br => kit_is)
    (case eB_bs => k_is)
    (case sle_bs => k_is)
    (case hg_bs => k_is)
    (case hk_bs => k_is)
    (case hd_bs => k_is)
    (case ha_bs => k_is)
    (case hn_bs => k_is)
    (case ht_bs => k_is)
    (case hm_bs => k_is)
    (case k0_bs => kit_is)
    (case k1_bs => kit_is)
    (case k2_bs => kit_is)
    (case k3_bs => kit_is)
    (case k4_bs => kit_is)
    (case k5_bs => kit_is)
    (case k6_bs => kit_is)
    (case k7_bs => kit_is)
    (case eB_bn => k_is)
    (case sle_bn => k_is)
    (case hg_bn => k_is)
    (case hk_bn => k_is)
    (case hd_bn => k_is)
    (case ha_bn => k_is)
    (case hn_bn => k_is)
    (case ht_bn => k_is)
    (case hm_bn => k_is)
    (case k0_bn => kit_is)
    (case k1_bn => kit_is)
    (case k2_bn => kit_is)
    (case k3_bn => kit_is)
    (case k4_bn => kit_is)
    (case k5_bn => kit_is)
    (case k6_bn => kit_is)
    (case k7_bn => kit_is)
    (case eB_nf => k_is)
    (case sle_nf => k_is)
    (case hg_nf => k_is)
    (case hk_nf => k_is)
    (case hd_nf => k_is)
    (case ha_nf => k_is)
    (case hn_nf => k_is)
    (case ht_nf => k_is)
    (case hm_nf => k_is)
    (case k0_nf => kit_is)
    (case k1_nf => kit_is)
    (case k2_nf => kit_is)
    (case k3_nf => kit_is)
    (case k4_nf => kit_is)
    (case k5_nf => kit_is)
    (case k6_nf => kit_is)
    (case k7_nf => kit_is)
