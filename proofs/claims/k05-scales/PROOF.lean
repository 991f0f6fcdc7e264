import PyProof.Rows.All
import Wide.All
import OpenK.AllK
import Wide.FinOn
import HandS.ForMost
import HandS.ForExc
import HandS.TryMany
import HandS.CallSlots
import HandS.Lambda
import HandS.Wide
import HandS.Style
import HandS.TupAny
import HandS.StrMore
import HandS.Flow
import HandS.RaiseMore
import HandS.SortInts
import HandS.More
import HandS.Defaults
import HandS.EndTab
import HandS.EndBits
import HandS.Head0
import HandS.Head1
import HandS.Head2
import HandS.HeadEnd
import HandS.HeadHook1
import HandS.HeadHook2
import HandS.RevTup
import HandS.Rev
import PyProof.ListNew
import HandS.Iter
import PyProof.MaxThree
import HandS.AnyAll
import PyProof.GenCompD
import PyProof.WalksPairs
import PyProof.ConsumeS
import KE.SortCalls
import HandS.GenOver
import PyProof.GenCompT
import HandS.Zip
import KE.GoesMore
import HandS.NoneIn
import HandS.SortKw
import PySem.Challenge.RW_unithall_k05_scales
set_option Elab.async false
set_option linter.all false
set_option maxRecDepth 100000
set_option maxHeartbeats 4000000
set_option autoImplicit false
namespace DL
open PySem PySem.Spec PyProof.Rows L2 LamX

/-- data -/
inductive D where
  | non | bl (b : Bool) | int (i : Int) | str (x : Str) | tup (l : List D) | lst (l : List D)
  | dic (ks : List Key) (l : List D) | dct (ks : List (List Key)) (l : List D) | obj (c : Nat) (l : List D) | raw (v : V)
  deriving Inhabited

/-- the tables of code objects; where a class (by its number) stands, its attributes in order -/
structure Gx where
  T : List (Addr × Str)
  ca : Nat → Addr
  lay : Nat → List Str

mutual
def Rep (K : PySem.W.Frag) (g : Gx) (I : Hp) : D → V → Prop
  | .non, v => v = .non
  | .bl b, v => v = .bl b
  | .int i, v => v = .int i
  | .str x, v => v = .str x
  | .raw u, v => v = u
  | .tup l, v => ∃ p vs, v = .ref p ∧ SqT K I p vs ∧ Reps K g I l vs
  | .lst l, v => ∃ p vs, v = .ref p ∧ I p = some (.lst vs) ∧ Reps K g I l vs
  | .dic ks l, v => ∃ p vs, v = .ref p ∧ I p = some (.dK (ks.zip vs)) ∧ ks.length = vs.length ∧ Reps K g I l vs
  | .dct ks l, v => ∃ p vs, v = .ref p ∧ I p = some (.dT (ks.zip vs)) ∧ ks.length = vs.length ∧ Reps K g I l vs
  | .obj c l, v => ∃ p dx vs, v = .ref p ∧ I p = some (.ins (g.ca c) dx ((g.lay c).zip vs)) ∧ (g.lay c).length = vs.length ∧ Reps K g I l vs
def Reps (K : PySem.W.Frag) (g : Gx) (I : Hp) : List D → List V → Prop
  | [], vs => vs = []
  | d :: ds, vs => ∃ u us, vs = u :: us ∧ Rep K g I d u ∧ Reps K g I ds us
end

/-- one heap within another -/
def Le (I I' : Hp) : Prop := ∀ a o, I a = some o → I' a = some o
theorem Le.refl (I : Hp) : Le I I := fun _ _ h => h
theorem Le.trans {I I1 I2 : Hp} (a : Le I I1) (b : Le I1 I2) : Le I I2 := fun c o h => b c o (a c o h)
theorem Le.new {I : Hp} {p : Addr} {o : HO} (h : I p = none) : Le I (upd I p o) := fun a u e => by
  rw [upd_ne (ne_of_none e h)]
  exact e
theorem le_rd {H H' : Hp} {a : Addr} {u : HO} (e : Le H H') (h : Rd H a u) : Rd H' a u := by
  rcases h with h | ⟨o, h⟩
  · exact Or.inl (e a _ h)
  · exact Or.inr ⟨o, e a _ h⟩
section
variable {K : PySem.W.Frag} {I I' : Hp} {a : Addr} {xs : List V}
theorem le_l (e : Le I I') (h : SqL K I a xs) : SqL K I' a xs := by
  rcases h with h | h
  · exact Or.inl (le_rd e h)
  · exact Or.inr h
theorem le_t (e : Le I I') (h : SqT K I a xs) : SqT K I' a xs := by
  rcases h with h | h
  · exact Or.inl (le_rd e h)
  · exact Or.inr h
end
mutual
theorem Rep.mono {K : PySem.W.Frag} {g : Gx} {I I' : Hp} (e : Le I I') : ∀ {d : D} {v : V}, Rep K g I d v → Rep K g I' d v
  | .non, _, h => by unfold Rep at *; exact h
  | .bl b, _, h => by unfold Rep at *; exact h
  | .int i, _, h => by unfold Rep at *; exact h
  | .str x, _, h => by unfold Rep at *; exact h
  | .raw u, _, h => by unfold Rep at *; exact h
  | .tup l, _, h => by
    unfold Rep at *
    obtain ⟨p, vs, e1, e2, e3⟩ := h
    exact ⟨p, vs, e1, le_t e e2, Reps.mono e e3⟩
  | .lst l, _, h => by
    unfold Rep at *
    obtain ⟨p, vs, e1, e2, e3⟩ := h
    exact ⟨p, vs, e1, e _ _ e2, Reps.mono e e3⟩
  | .dic ks l, _, h => by
    unfold Rep at *
    obtain ⟨p, vs, e1, e2, e3, e4⟩ := h
    exact ⟨p, vs, e1, e _ _ e2, e3, Reps.mono e e4⟩
  | .dct ks l, _, h => by
    unfold Rep at *
    obtain ⟨p, vs, e1, e2, e3, e4⟩ := h
    exact ⟨p, vs, e1, e _ _ e2, e3, Reps.mono e e4⟩
  | .obj c l, _, h => by
    unfold Rep at *
    obtain ⟨p, dx, vs, e1, e2, e3, e4⟩ := h
    exact ⟨p, dx, vs, e1, e _ _ e2, e3, Reps.mono e e4⟩
theorem Reps.mono {K : PySem.W.Frag} {g : Gx} {I I' : Hp} (e : Le I I') : ∀ {ds : List D} {vs : List V}, Reps K g I ds vs → Reps K g I' ds vs
  | [], _, h => by unfold Reps at *; exact h
  | d :: ds, _, h => by
    unfold Reps at *
    obtain ⟨u, us, e1, e2, e3⟩ := h
    exact ⟨u, us, e1, Rep.mono e e2, Reps.mono e e3⟩
end
section
variable {K : PySem.W.Frag} {g : Gx} {I I' : Hp}
theorem Reps.length : ∀ {ds : List D} {vs : List V}, Reps K g I ds vs → ds.length = vs.length
  | [], _, h => by unfold Reps at h; subst h; rfl
  | d :: ds, _, h => by
    unfold Reps at h
    obtain ⟨u, us, rfl, e2, e3⟩ := h
    simp [Reps.length e3]
theorem reps_nil {vs : List V} : Reps K g I [] vs ↔ vs = [] := by unfold Reps; exact Iff.rfl
theorem reps_cons {d : D} {ds : List D} {vs : List V} : Reps K g I (d :: ds) vs ↔ ∃ u us, vs = u :: us ∧ Rep K g I d u ∧ Reps K g I ds us := by
  constructor
  · intro h; unfold Reps at h; exact h
  · intro h; unfold Reps; exact h
theorem Reps.cons {d : D} {ds : List D} {u : V} {us : List V} (h : Rep K g I d u) (h2 : Reps K g I ds us) : Reps K g I (d :: ds) (u :: us) := reps_cons.mpr ⟨u, us, rfl, h, h2⟩
theorem Reps.nil : Reps K g I [] [] := reps_nil.mpr rfl
theorem Reps.get : ∀ {ds : List D} {vs : List V} {i : Nat} {d : D}, Reps K g I ds vs → ds[i]? = some d → ∃ v, vs[i]? = some v ∧ Rep K g I d v
  | [], _, _, _, _, e => by simp at e
  | d :: ds, _, 0, x, h, e => by
    obtain ⟨u, us, rfl, h1, h2⟩ := reps_cons.mp h
    simp at e; subst e
    exact ⟨u, rfl, h1⟩
  | d :: ds, _, i + 1, x, h, e => by
    obtain ⟨u, us, rfl, h1, h2⟩ := reps_cons.mp h
    obtain ⟨v, e1, e2⟩ := Reps.get (i := i) (d := x) h2 (by simpa using e)
    exact ⟨v, by simpa using e1, e2⟩
theorem Reps.get' {ds : List D} {vs : List V} {i : Nat} {v : V} (h : Reps K g I ds vs) (e : vs[i]? = some v) : ∃ d, ds[i]? = some d ∧ Rep K g I d v := by
  have hl : i < ds.length := by
    rw [h.length]
    exact (List.getElem?_eq_some_iff.mp e).1
  obtain ⟨w, e1, e2⟩ := h.get (List.getElem?_eq_getElem hl)
  rw [e] at e1; cases e1
  exact ⟨_, List.getElem?_eq_getElem hl, e2⟩
theorem Reps.append : ∀ {ds es : List D} {vs us : List V}, Reps K g I ds vs → Reps K g I es us → Reps K g I (ds ++ es) (vs ++ us)
  | [], _, _, _, h, h2 => by
    have := reps_nil.mp h; subst this; exact h2
  | d :: ds, _, _, _, h, h2 => by
    obtain ⟨u, us, rfl, h1, h3⟩ := reps_cons.mp h
    exact Reps.cons h1 (Reps.append h3 h2)
theorem Reps.drop : ∀ {ds : List D} {vs : List V} (n : Nat), Reps K g I ds vs → Reps K g I (ds.drop n) (vs.drop n)
  | _, _, 0, h => h
  | [], _, n + 1, h => by have := reps_nil.mp h; subst this; exact Reps.nil
  | d :: ds, _, n + 1, h => by
    obtain ⟨u, us, rfl, h1, h3⟩ := reps_cons.mp h
    exact Reps.drop n h3
theorem Reps.take : ∀ {ds : List D} {vs : List V} (n : Nat), Reps K g I ds vs → Reps K g I (ds.take n) (vs.take n)
  | _, _, 0, h => Reps.nil
  | [], _, n + 1, h => by have := reps_nil.mp h; subst this; exact Reps.nil
  | d :: ds, _, n + 1, h => by
    obtain ⟨u, us, rfl, h1, h3⟩ := reps_cons.mp h
    exact Reps.cons h1 (Reps.take n h3)
theorem Reps.set : ∀ {ds : List D} {vs : List V} {d : D} {v : V} (n : Nat), Reps K g I ds vs → Rep K g I d v → Reps K g I (ds.set n d) (vs.set n v)
  | [], _, _, _, _, h, _ => by have := reps_nil.mp h; subst this; exact Reps.nil
  | d :: ds, _, _, _, 0, h, r => by
    obtain ⟨u, us, rfl, h1, h3⟩ := reps_cons.mp h
    exact Reps.cons r h3
  | d :: ds, _, _, _, n + 1, h, r => by
    obtain ⟨u, us, rfl, h1, h3⟩ := reps_cons.mp h
    exact Reps.cons h1 (Reps.set n h3 r)
theorem Reps.reverse : ∀ {ds : List D} {vs : List V}, Reps K g I ds vs → Reps K g I ds.reverse vs.reverse
  | [], _, h => by have := reps_nil.mp h; subst this; exact Reps.nil
  | d :: ds, _, h => by
    obtain ⟨u, us, rfl, h1, h3⟩ := reps_cons.mp h
    rw [List.reverse_cons, List.reverse_cons]
    exact Reps.append (Reps.reverse h3) (Reps.cons h1 Reps.nil)
theorem Reps.eraseIdx : ∀ {ds : List D} {vs : List V} (n : Nat), Reps K g I ds vs → Reps K g I (ds.eraseIdx n) (vs.eraseIdx n)
  | [], _, _, h => by have := reps_nil.mp h; subst this; exact Reps.nil
  | d :: ds, _, 0, h => by
    obtain ⟨u, us, rfl, h1, h3⟩ := reps_cons.mp h
    exact h3
  | d :: ds, _, n + 1, h => by
    obtain ⟨u, us, rfl, h1, h3⟩ := reps_cons.mp h
    exact Reps.cons h1 (Reps.eraseIdx n h3)
theorem Reps.rep {ds : List D} {vs : List V} (h : Reps K g I ds vs) : ∀ k : Nat, Reps K g I (List.replicate k ds).flatten (List.replicate k vs).flatten
  | 0 => Reps.nil
  | k + 1 => by
    rw [List.replicate_succ, List.replicate_succ, List.flatten_cons, List.flatten_cons]
    exact h.append (Reps.rep h k)
theorem reps_ints : ∀ {ns : List Int} {vs : List V}, Reps K g I (ns.map D.int) vs → vs = ns.map V.int
  | [], _, h => reps_nil.mp h
  | n :: ns, _, h => by
    obtain ⟨u, us, rfl, h1, h3⟩ := reps_cons.mp h
    unfold Rep at h1
    rw [h1, reps_ints h3]; rfl
theorem reps_strs : ∀ {ns : List Str} {vs : List V}, Reps K g I (ns.map D.str) vs → vs = ns.map V.str
  | [], _, h => reps_nil.mp h
  | n :: ns, _, h => by
    obtain ⟨u, us, rfl, h1, h3⟩ := reps_cons.mp h
    unfold Rep at h1
    rw [h1, reps_strs h3]; rfl
theorem ints_reps : ∀ (ns : List Int), Reps K g I (ns.map D.int) (ns.map V.int)
  | [] => Reps.nil
  | n :: ns => Reps.cons (by unfold Rep; rfl) (ints_reps ns)
theorem strs_reps : ∀ (ns : List Str), Reps K g I (ns.map D.str) (ns.map V.str)
  | [] => Reps.nil
  | n :: ns => Reps.cons (by unfold Rep; rfl) (strs_reps ns)
end

def isDk : HO → Bool
  | .dK _ => true
  | .dT _ => true
  | _ => false
/-- what is known stands; a dict may be locked meanwhile -/
structure Sub (I H : Hp) : Prop where
  get : ∀ {a o}, I a = some o → isDk o = false → H a = some o
  rd : ∀ {a o}, I a = some o → Rd H a o
theorem Sub.free {I H : Hp} (s : Sub I H) {a : Addr} (h : H a = none) : I a = none := by
  cases e : I a with
  | none => rfl
  | some o =>
    rcases s.rd e with q | ⟨u, q⟩ <;> rw [h] at q <;> cases q
theorem Sub.mono {I H H' : Hp} (s : Sub I H) (e : Le H H') : Sub I H' := ⟨fun h d => e _ _ (s.get h d), fun h => le_rd e (s.rd h)⟩
theorem Sub.less {I I' H : Hp} (s : Sub I' H) (e : Le I I') : Sub I H := ⟨fun h d => s.get (e _ _ h) d, fun h => s.rd (e _ _ h)⟩
theorem sub_t {K : PySem.W.Frag} {I H : Hp} {a : Addr} {xs : List V} (s : Sub I H) (h : SqT K I a xs) : SqT K H a xs := by
  rcases h with (h | ⟨o, h⟩) | h
  · exact .inl (.inl (s.get h rfl))
  · exact .inl (.inr ⟨o, s.get h rfl⟩)
  · exact .inr h

/-- what a slot holds: nothing known; data that stays; a list, a dict of the frame's own; a list of the caller's -/
inductive Slot where
  | no | im (d : D) | ol (l : List D) | od (ks : List Key) (l : List D) | ot (ks : List (List Key)) (l : List D) | io (l : List D) | sf (c : Nat) (l : List D)
  deriving Inhabited
abbrev Env := List Slot
def Slot.own : Slot → Bool
  | .no => false
  | .im _ => false
  | _ => true
def SlotOk (K : PySem.W.Frag) (g : Gx) (I H : Hp) : Slot → Option V → Prop
  | .no, _ => True
  | .im d, x => ∃ v, x = some v ∧ Rep K g I d v
  | .ol l, x => ∃ p vs, x = some (.ref p) ∧ H p = some (.lst vs) ∧ I p = none ∧ Reps K g I l vs
  | .io l, x => ∃ p vs, x = some (.ref p) ∧ H p = some (.lst vs) ∧ I p = none ∧ Reps K g I l vs
  | .od ks l, x => ∃ p vs, x = some (.ref p) ∧ H p = some (.dK (ks.zip vs)) ∧ I p = none ∧ ks.length = vs.length ∧ Reps K g I l vs
  | .ot ks l, x => ∃ p vs, x = some (.ref p) ∧ H p = some (.dT (ks.zip vs)) ∧ I p = none ∧ ks.length = vs.length ∧ Reps K g I l vs
  | .sf c l, x => ∃ p dx vs, x = some (.ref p) ∧ H p = some (.ins (g.ca c) dx ((g.lay c).zip vs)) ∧ I p = none ∧ Reps K g I l vs
/-- a slot whose object others hold: it stays where it is -/
def Slot.pin : Slot → Bool
  | .io _ => true
  | .sf _ _ => true
  | _ => false
def Own (σ : L2.St) (env : DL.Env) (a : Addr) : Prop := ∃ (i : Nat) (s : Slot), env[i]? = some s ∧ s.own = true ∧ σ[i]? = some (some (.ref a))

structure EnvOk (K : PySem.W.Frag) (g : Gx) (I H : Hp) (σ : L2.St) (env : DL.Env) : Prop where
  sub : Sub I H
  nt : ∀ a ps, I a ≠ some (.tbl ps)
  tabs : Tabs g.T H
  len : env.length = σ.length
  slot : ∀ (i : Nat) (s : Slot) (x : Option V), env[i]? = some s → σ[i]? = some x → SlotOk K g I H s x
  sep : ∀ (i j : Nat) (s s' : Slot) (a : Addr), env[i]? = some s → env[j]? = some s' → s.own = true → s'.own = true → σ[i]? = some (some (V.ref a)) → σ[j]? = some (some (V.ref a)) → i = j
/-- free, or a table of code objects -/
def Fr (H : Hp) (a : Addr) : Prop := H a = none ∨ ∃ ps, H a = some (.tbl ps)
theorem Fr.not {H : Hp} {a : Addr} {o : HO} (h : Fr H a) (e : H a = some o) (nt : ∀ ps, o ≠ .tbl ps) : False := by
  rcases h with h | ⟨ps, h⟩
  · rw [h] at e; cases e
  · rw [h] at e; exact nt ps (Option.some.inj e).symm
theorem Fr.of {H H' : Hp} {a : Addr} (h : Fr H' a) (k : ∀ o, H a = some o → (∀ ps, o ≠ .tbl ps) → H' a = some o) : Fr H a := by
  cases e : H a with
  | none => exact .inl e
  | some o =>
    by_cases t : ∃ ps, o = .tbl ps
    · obtain ⟨ps, rfl⟩ := t; exact .inr ⟨ps, e⟩
    · exact (h.not (k o e fun ps z => t ⟨ps, z⟩) fun ps z => t ⟨ps, z⟩).elim
/-- what may have changed between two states of a frame -/
structure StpP (ee : Prop) (K : PySem.W.Frag) (g : Gx) (I H : Hp) (σ : L2.St) (env : DL.Env) (I' H' : Hp) (σ' : L2.St) (env' : DL.Env) : Prop where
  ok : EnvOk K g I' H' σ' env'
  sub : Le I I'
  keep : ∀ a o, H a = some o → ¬ Own σ env a → (∀ ps, o ≠ .tbl ps) → H' a = some o
  there : ∀ a, Fr H' a → Fr H a
  fresh : ∀ a, I' a ≠ none → I a ≠ none ∨ Fr H a ∨ Own σ env a
  own : ∀ a, Own σ' env' a → Own σ env a ∨ (¬ ee ∧ Fr H a)
  pin : ∀ (i : Nat) (s : Slot), env[i]? = some s → s.pin = true → σ'[i]? = σ[i]? ∧ ∃ s', env'[i]? = some s' ∧ s'.pin = true
/-- .. of an expression: it makes no slot own -/
abbrev StpE := @StpP True
abbrev Stp := @StpP False
section
variable {ee : Prop} {K : PySem.W.Frag} {g : Gx} {I H I1 H1 I2 H2 I' H' : Hp} {σ σ' σ1 σ2 : L2.St} {env env' env1 env2 : DL.Env}
theorem SlotOk.own_of {s : Slot} {x : Option V} (h : SlotOk K g I H s x) (ho : s.own = true) : ∃ p o, x = some (.ref p) ∧ H p = some o ∧ I p = none ∧ ∀ ps, o ≠ .tbl ps := by
  cases s with
  | no => cases ho
  | im d => cases ho
  | ol l => obtain ⟨p, vs, e1, e2, e3, _⟩ := h; exact ⟨p, _, e1, e2, e3, fun _ z => nomatch z⟩
  | io l => obtain ⟨p, vs, e1, e2, e3, _⟩ := h; exact ⟨p, _, e1, e2, e3, fun _ z => nomatch z⟩
  | od ks l => obtain ⟨p, vs, e1, e2, e3, _⟩ := h; exact ⟨p, _, e1, e2, e3, fun _ z => nomatch z⟩
  | ot ks l => obtain ⟨p, vs, e1, e2, e3, _⟩ := h; exact ⟨p, _, e1, e2, e3, fun _ z => nomatch z⟩
  | sf c l => obtain ⟨p, dx, vs, e1, e2, e3, _⟩ := h; exact ⟨p, _, e1, e2, e3, fun _ z => nomatch z⟩
/-- a slot's word stays where the knowledge grows, and its own cell stands as it did -/
theorem SlotOk.mono {s : Slot} {x : Option V} (h : SlotOk K g I H s x) (e : Le I I') (k : ∀ p o, s.own = true → x = some (.ref p) → H p = some o → H' p = some o) (f : ∀ p, s.own = true → x = some (.ref p) → I' p = none) : SlotOk K g I' H' s x := by
  cases s with
  | no => trivial
  | im d => obtain ⟨v, e1, e2⟩ := h; exact ⟨v, e1, e2.mono e⟩
  | ol l => obtain ⟨p, vs, e1, e2, e3, e4⟩ := h; exact ⟨p, vs, e1, k _ _ rfl e1 e2, f _ rfl e1, e4.mono e⟩
  | io l => obtain ⟨p, vs, e1, e2, e3, e4⟩ := h; exact ⟨p, vs, e1, k _ _ rfl e1 e2, f _ rfl e1, e4.mono e⟩
  | od ks l => obtain ⟨p, vs, e1, e2, e3, e4, e5⟩ := h; exact ⟨p, vs, e1, k _ _ rfl e1 e2, f _ rfl e1, e4, e5.mono e⟩
  | ot ks l => obtain ⟨p, vs, e1, e2, e3, e4, e5⟩ := h; exact ⟨p, vs, e1, k _ _ rfl e1 e2, f _ rfl e1, e4, e5.mono e⟩
  | sf c l => obtain ⟨p, dx, vs, e1, e2, e3, e4⟩ := h; exact ⟨p, dx, vs, e1, k _ _ rfl e1 e2, f _ rfl e1, e4.mono e⟩
theorem EnvOk.own_i (ok : EnvOk K g I H σ env) {a : Addr} (h : Own σ env a) : I a = none ∧ ∃ o, H a = some o ∧ ∀ ps, o ≠ .tbl ps := by
  obtain ⟨i, s, e1, e2, e3⟩ := h
  obtain ⟨p, o, e4, e5, e6, e7⟩ := (ok.slot i s _ e1 e3).own_of e2
  cases e4
  exact ⟨e6, o, e5, e7⟩
theorem EnvOk.fresh_f (ok : EnvOk K g I H σ env) {a : Addr} (h : Fr H a) : I a = none := by
  rcases h with h | ⟨ps, h⟩
  · exact ok.sub.free h
  · cases e : I a with
    | none => rfl
    | some o =>
      rcases ok.sub.rd e with q | ⟨u, q⟩
      · rw [h] at q; cases q; exact (ok.nt a ps e).elim
      · rw [h] at q; cases q
theorem EnvOk.fresh_i (ok : EnvOk K g I H σ env) {a : Addr} (h : H a = none) : I a = none := ok.sub.free h
theorem EnvOk.noown (ok : EnvOk K g I H σ env) {a : Addr} (h : Fr H a) : ¬ Own σ env a := fun q => by
  obtain ⟨_, o, e, t⟩ := ok.own_i q
  exact h.not e t
theorem StpP.refl (ok : EnvOk K g I H σ env) : StpP ee K g I H σ env I H σ env :=
  ⟨ok, Le.refl _, fun _ _ h _ _ => h, fun _ h => h, fun _ h => .inl h, fun _ h => .inl h, fun i s h hp => ⟨rfl, s, h, hp⟩⟩
theorem StpP.trans (a : StpP ee K g I H σ env I1 H1 σ1 env1) (b : StpP ee K g I1 H1 σ1 env1 I2 H2 σ2 env2) : StpP ee K g I H σ env I2 H2 σ2 env2 where
  ok := b.ok
  sub := a.sub.trans b.sub
  keep := fun x o h n t => b.keep x o (a.keep x o h n t) (fun q => (a.own x q).elim n fun z => (z.2.not h t).elim) t
  there := fun x h => a.there x (b.there x h)
  fresh := fun x h => by
    have back := a.there x
    rcases b.fresh x h with q | q | q
    · exact a.fresh x q
    · exact .inr (.inl (back q))
    · rcases a.own x q with z | z
      · exact .inr (.inr z)
      · exact .inr (.inl z.2)
  own := fun x h => by
    have back := a.there x
    rcases b.own x h with q | q
    · exact a.own x q
    · exact .inr ⟨q.1, back q.2⟩
  pin := fun i s h hp => by
    obtain ⟨e1, s1, h1, p1⟩ := a.pin i s h hp
    obtain ⟨e2, s2, h2, p2⟩ := b.pin i s1 h1 p1
    exact ⟨e2.trans e1, s2, h2, p2⟩
theorem StpP.weak (a : StpE K g I H σ env I1 H1 σ1 env1) : Stp K g I H σ env I1 H1 σ1 env1 :=
  ⟨a.ok, a.sub, a.keep, a.there, a.fresh, fun x h => (a.own x h).imp id fun z => absurd trivial z.1, a.pin⟩
theorem StpP.ownE (a : StpE K g I H σ env I1 H1 σ1 env1) {x : Addr} (h : Own σ1 env1 x) : Own σ env x := (a.own x h).elim id fun z => absurd trivial z.1
theorem StpP.back (a : StpP ee K g I H σ env I1 H1 σ1 env1) {x : Addr} (h : H1 x = none) : Fr H x := a.there x (.inl h)
theorem StpP.backF (a : StpP ee K g I H σ env I1 H1 σ1 env1) {x : Addr} (h : Fr H1 x) : Fr H x := a.there x h
theorem Tabs.but {H H' : Hp} {T : List (Addr × Str)} (t : Tabs g.T H) (e : ∀ b o, H b = some o → H' b = some o) : Tabs g.T H' := t.ext e
/-- a change of H at an address that is neither known nor a table nor a code object .. where all that stood stands -/
theorem EnvOk.grow (ok : EnvOk K g I H σ env) (s : Le I I') (h : Le H H') (si : Sub I' H') (nt : ∀ a ps, I' a ≠ some (.tbl ps)) (f : ∀ a, I' a ≠ none → I a ≠ none ∨ H a = none) : StpP ee K g I H σ env I' H' σ env where
  ok := ⟨si, nt, ok.tabs.ext h, ok.len, fun i z x e1 e2 => (ok.slot i z x e1 e2).mono s (fun p o _ _ q => h p o q) (fun p ho hx => by
      obtain ⟨p', o, e3, e4, e5, _⟩ := (ok.slot i z x e1 e2).own_of ho
      rw [hx] at e3; cases e3
      cases e : I' p with
      | none => rfl
      | some u =>
        rcases f p (by rw [e]; simp) with q | q
        · rw [e5] at q; exact absurd rfl q
        · rw [e4] at q; cases q), ok.sep⟩
  sub := s
  keep := fun a o e _ _ => h a o e
  there := fun a e => e.of fun o q _ => h a o q
  fresh := fun a e => (f a e).imp id fun q => .inl (.inl q)
  own := fun a e => .inl e
  pin := fun i s e hp => ⟨rfl, s, e, hp⟩
/-- a new object, known -/
theorem EnvOk.new (ok : EnvOk K g I H σ env) {p : Addr} {o : HO} (hp : H p = none) (nt : ∀ ps, o ≠ .tbl ps) : StpP ee K g I H σ env (upd I p o) (upd H p o) σ env :=
  ok.grow (Le.new (ok.fresh_i hp)) (Le.new hp) ⟨fun {a u} e d => by
    by_cases hb : a = p
    · subst hb; rw [upd_same] at e ⊢; exact e
    · rw [upd_ne hb] at e ⊢; exact ok.sub.get e d, fun {a u} e => by
    by_cases hb : a = p
    · subst hb; rw [upd_same] at e; exact .inl (by rw [upd_same]; exact e)
    · rw [upd_ne hb] at e; exact le_rd (Le.new hp) (ok.sub.rd e)⟩ (fun a ps e => by
    by_cases hb : a = p
    · subst hb; rw [upd_same] at e; exact nt ps (Option.some.inj e)
    · rw [upd_ne hb] at e; exact ok.nt a ps e) fun a e => by
    by_cases hb : a = p
    · subst hb; exact .inr hp
    · rw [upd_ne hb] at e; exact .inl e
/-- a new object, not known -/
theorem EnvOk.newH (ok : EnvOk K g I H σ env) {p : Addr} {o : HO} (hp : H p = none) : StpP ee K g I H σ env I (upd H p o) σ env :=
  ok.grow (Le.refl _) (Le.new hp) (ok.sub.mono (Le.new hp)) ok.nt fun a e => .inl e
end

/-! ### denotations -/
inductive R (α : Type) where
  | ok (a : α) (env : DL.Env) | err (c : Nat) (env : DL.Env) | bad
abbrev M (α : Type) := DL.Env → R α
def bnd {α β : Type} (m : M α) (f : α → M β) : M β := fun env => match m env with
  | .ok a env' => f a env'
  | .err c env' => .err c env'
  | .bad => .bad
def ret {α : Type} (a : α) : M α := fun env => .ok a env
def bad {α : Type} : M α := fun _ => .bad
def raise {α : Type} (c : Nat) : M α := fun env => .err c env
/-- a relation between what is told and what is there; H0 the heap ahead -/
abbrev Rl (α β : Type) := Hp → Hp → Hp → α → β → Prop
class RMono {α β : Type} (R : Rl α β) : Prop where
  back : ∀ {H H1 I' H' : Hp} {a : α} {b : β}, (∀ x, Fr H1 x → Fr H x) → R H1 I' H' a b → R H I' H' a b
abbrev RD (K : PySem.W.Frag) (g : Gx) : Rl D V := fun _ I _ d v => Rep K g I d v
abbrev RL (K : PySem.W.Frag) (g : Gx) : Rl (List D) (List V) := fun _ I _ d v => Reps K g I d v
abbrev RB : Rl Bool Bool := fun _ _ _ a b => a = b
instance {K : PySem.W.Frag} {g : Gx} : RMono (RD K g) := ⟨fun _ h => h⟩
instance {K : PySem.W.Frag} {g : Gx} : RMono (RL K g) := ⟨fun _ h => h⟩
instance : RMono RB := ⟨fun _ h => h⟩
section
variable {α β : Type}
def Out (K : PySem.W.Frag) (g : Gx) (W : WX) (Rr : Rl α β) (I H : Hp) (σ : L2.St) (env : DL.Env) (r : R α) (Q : β → Hp → Prop) : Prop := match r with
  | .ok a env' => ∀ b I' H', StpE K g I H σ env I' H' σ env' → Rr H I' H' a b → Q b H'
  | .err c env' => ∀ I' H', StpE K g I H σ env I' H' σ env' → W (.ref (g.ca c)) none σ H'
  | .bad => False
def tr (K : PySem.W.Frag) (g : Gx) (W : WX) (Rr : Rl α β) (m : M α) : L2.St → Hp → (β → Hp → Prop) → Prop := fun σ H Q => ∃ I env, EnvOk K g I H σ env ∧ Out K g W Rr I H σ env (m env) Q
variable {K : PySem.W.Frag} {g : Gx} {W : WX} {Rr : Rl α β} {I H I1 H1 : Hp} {σ : L2.St} {env env1 : DL.Env} {Q : β → Hp → Prop}
theorem Out.trans [RMono Rr] {r : R α} (h : Out K g W Rr I H σ env r Q) (s : StpE K g I H σ env I1 H1 σ env1) : Out K g W Rr I1 H1 σ env1 r Q := by
  cases r with
  | ok a env' => exact fun b I' H' s' r' => h b I' H' (s.trans s') (RMono.back s.there r')
  | err c env' => exact fun I' H' s' => h I' H' (s.trans s')
  | bad => exact h
theorem Out.bnd {α' β' : Type} {Rr' : Rl α' β'} [RMono Rr] {m : M α'} {f : α' → M α} (h : Out K g W Rr I H σ env (bnd m f env) Q) :
    Out K g W Rr' I H σ env (m env) (fun b' H1 => ∃ a' I1 env1, StpE K g I H σ env I1 H1 σ env1 ∧ Rr' H I1 H1 a' b' ∧ Out K g W Rr I1 H1 σ env1 (f a' env1) Q) := by
  unfold DL.bnd at h
  cases e : m env with
  | ok a env' =>
    rw [e] at h
    exact fun b I' H' s r => ⟨a, I', env', s, r, Out.trans h s⟩
  | err c env' =>
    rw [e] at h
    exact h
  | bad =>
    rw [e] at h
    exact h
/-- the end where nothing has changed -/
theorem Out.done {a : α} {b : β} (h : Out K g W Rr I H σ env (.ok a env) Q) (ok : EnvOk K g I H σ env) (r : Rr H I H a b) : Q b H := h b I H (StpP.refl ok) r
end
end DL
set_option Elab.async false
set_option linter.all false
set_option maxRecDepth 100000
set_option maxHeartbeats 4000000
set_option autoImplicit false
namespace DL
open PySem PySem.Spec PyProof.Rows L2 LamX

theorem pe_imp {X : Cx} {e : Expr} {t t' : TE} (h : PE X e t) (i : ∀ σ H Q, t' σ H Q → t σ H Q) : PE X e t' := ⟨fun pins s σ H Q I q => h.run pins s σ H Q I (i σ H Q q)⟩
theorem pt_imp {X : Cx} {e : Expr} {t t' : TT} (h : PT X e t) (i : ∀ σ H Q, t' σ H Q → t σ H Q) : PT X e t' := ⟨fun pins s σ H Q I q => h.run pins s σ H Q I (i σ H Q q)⟩
theorem pa_imp {X : Cx} {e : List Expr} {t t' : TA} (h : PA X e t) (i : ∀ σ H Q, t' σ H Q → t σ H Q) : PA X e t' := ⟨fun pos pins s σ H Q I q => h.run pos pins s σ H Q I (i σ H Q q)⟩
theorem ps_imp {X : Cx} {e : Stmt} {t t' : TS} (h : PS X e t) (i : ∀ D σ H, t' D σ H → t D σ H) : PS X e t' := ⟨fun pins s σ H D I q => h.run pins s σ H D I (i D σ H q)⟩
theorem pss_imp {X : Cx} {e : List Stmt} {t t' : TS} (h : PSs X e t) (i : ∀ D σ H, t' D σ H → t D σ H) : PSs X e t' := ⟨fun pins s σ H D I q => h.run pins s σ H D I (i D σ H q)⟩

/-! ### the judgements: e is worth m -/
abbrev DE (X : Cx) (g : Gx) (W : WX) (e : Expr) (m : M D) : Prop := PE X e (tr X.K g W (RD X.K g) m)
abbrev DT (X : Cx) (g : Gx) (W : WX) (e : Expr) (m : M Bool) : Prop := PT X e (tr X.K g W RB m)
abbrev DA (X : Cx) (g : Gx) (W : WX) (es : List Expr) (m : M (List D)) : Prop := PA X es (tr X.K g W (RL X.K g) m)

/-- a reading that is t by the worth of m -/
theorem tr_of {α β : Type} {K : PySem.W.Frag} {g : Gx} {W : WX} {Rr : Rl α β} {I H : Hp} {σ : L2.St} {env : DL.Env} {m : M α} {Q : β → Hp → Prop} (ok : EnvOk K g I H σ env) (h : Out K g W Rr I H σ env (m env) Q) : tr K g W Rr m σ H Q := ⟨I, env, ok, h⟩
theorem tr_thn {α β : Type} {K : PySem.W.Frag} {g : Gx} {W : WX} {Rr : Rl α β} {m : M α} {σ : L2.St} {H : Hp} {Q Q' : β → Hp → Prop} (h : tr K g W Rr m σ H Q) (q : ∀ b H', Q b H' → Q' b H') : tr K g W Rr m σ H Q' := by
  obtain ⟨I, env, ok, h⟩ := h
  refine ⟨I, env, ok, ?_⟩
  cases e : m env with
  | ok a env' => rw [e] at h; exact fun b I' H' s r => q _ _ (h b I' H' s r)
  | err c env' => rw [e] at h; exact h
  | bad => rw [e] at h; exact h

theorem tr_bnd {α β α' β' : Type} {K : PySem.W.Frag} {g : Gx} {W : WX} {Rr : Rl α β} {Rr' : Rl α' β'} [RMono Rr] {I H : Hp} {σ : L2.St} {env : DL.Env} {m : M α'} {f : α' → M α} {Q : β → Hp → Prop} {Q' : β' → Hp → Prop} (ok : EnvOk K g I H σ env) (h : Out K g W Rr I H σ env (bnd m f env) Q)
    (k : ∀ b a I1 H1 env1, StpE K g I H σ env I1 H1 σ env1 → Rr' H I1 H1 a b → Out K g W Rr I1 H1 σ env1 (f a env1) Q → Q' b H1) : tr K g W Rr' m σ H Q' := by
  refine ⟨I, env, ok, ?_⟩
  have h1 := Out.bnd (Rr' := Rr') h
  cases e : m env with
  | bad => rw [e] at h1; exact h1
  | err c env' => rw [e] at h1; exact h1
  | ok a env' =>
    rw [e] at h1
    intro v I1 H1 st rv
    obtain ⟨x, I2, env2, st2, rx, h2⟩ := h1 v I1 H1 st rv
    exact k v x I2 H1 env2 st2 rx h2

/-! ### names, constants -/
def gv (i : Nat) : M D := fun env => match env[i]? with
  | some (.im d) => .ok d env
  | some (.ol l) => .ok (.lst l) (env.set i (.im (.lst l)))
  | some (.od ks l) => .ok (.dic ks l) (env.set i (.im (.dic ks l)))
  | some (.ot ks l) => .ok (.dct ks l) (env.set i (.im (.dct ks l)))
  | _ => .bad
section
variable {K : PySem.W.Frag} {g : Gx} {W : WX} {I H : Hp} {σ : L2.St} {env : DL.Env}
theorem EnvOk.lk (ok : EnvOk K g I H σ env) {i : Nat} {s : Slot} (e : env[i]? = some s) : ∃ x, σ[i]? = some x ∧ SlotOk K g I H s x := by
  have hl : i < σ.length := by rw [← ok.len]; exact (List.getElem?_eq_some_iff.mp e).1
  exact ⟨_, List.getElem?_eq_getElem hl, ok.slot i s _ e (List.getElem?_eq_getElem hl)⟩
/-- an own cell is known from now on -/
theorem EnvOk.freeze (ok : EnvOk K g I H σ env) {i : Nat} {s : Slot} {p : Addr} {o : HO} {d : D} (e : env[i]? = some s) (hs : s.own = true) (hp : s.pin = false) (hx : σ[i]? = some (some (.ref p))) (ho : H p = some o) (nt : ∀ ps, o ≠ .tbl ps) (hi : I p = none)
    (hd : Rep K g (upd I p o) d (.ref p)) : StpE K g I H σ env (upd I p o) H σ (env.set i (.im d)) := by
  have le : Le I (upd I p o) := Le.new hi
  have hil : i < env.length := (List.getElem?_eq_some_iff.mp e).1
  have cases_ : ∀ (j : Nat) (z : Slot), (env.set i (.im d))[j]? = some z → (j = i ∧ z = .im d) ∨ (j ≠ i ∧ env[j]? = some z) := fun j z h => by
    by_cases hj : j = i
    · subst hj; rw [List.getElem?_set_self hil] at h; exact .inl ⟨rfl, (Option.some.inj h).symm⟩
    · rw [List.getElem?_set_ne (Ne.symm hj)] at h; exact .inr ⟨hj, h⟩
  refine ⟨⟨⟨fun {a u} q dk => ?_, fun {a u} q => ?_⟩, fun a ps q => ?_, ok.tabs, by rw [List.length_set]; exact ok.len, fun j z x h1 h2 => ?_, fun j j' z z' a h1 h2 h3 h4 h5 h6 => ?_⟩, le, fun a u q _ _ => q, fun a q => q, fun a q => ?_, fun a q => ?_, fun j z h1 h2 => ?_⟩
  · by_cases hb : a = p
    · subst hb; rw [upd_same] at q; rw [← q]; exact ho
    · rw [upd_ne hb] at q; exact ok.sub.get q dk
  · by_cases hb : a = p
    · subst hb; rw [upd_same] at q; obtain rfl := Option.some.inj q; exact .inl ho
    · rw [upd_ne hb] at q; exact ok.sub.rd q
  · by_cases hb : a = p
    · subst hb; rw [upd_same] at q; exact nt ps (Option.some.inj q)
    · rw [upd_ne hb] at q; exact ok.nt a ps q
  · rcases cases_ j z h1 with ⟨rfl, rfl⟩ | ⟨hj, h1⟩
    · rw [hx] at h2; cases h2
      exact ⟨_, rfl, hd⟩
    · refine (ok.slot j z x h1 h2).mono le (fun _ _ _ _ q => q) fun q hz hq => ?_
      by_cases hb : q = p
      · subst hb
        rw [hq] at h2
        exact absurd (ok.sep j i z s q h1 e hz hs h2 hx) hj
      · rw [upd_ne hb]
        obtain ⟨p', o', e3, e4, e5, _⟩ := (ok.slot j z x h1 h2).own_of hz
        rw [hq] at e3; cases e3
        exact e5
  · rcases cases_ j z h1 with ⟨rfl, rfl⟩ | ⟨hj, h1⟩
    · cases h3
    · rcases cases_ j' z' h2 with ⟨rfl, rfl⟩ | ⟨hj', h2⟩
      · cases h4
      · exact ok.sep j j' z z' a h1 h2 h3 h4 h5 h6
  · by_cases hb : a = p
    · subst hb; exact .inr (.inr ⟨i, s, e, hs, hx⟩)
    · rw [upd_ne hb] at q; exact .inl q
  · obtain ⟨j, z, h1, h2, h3⟩ := q
    rcases cases_ j z h1 with ⟨rfl, rfl⟩ | ⟨hj, h1⟩
    · cases h2
    · exact .inl ⟨j, z, h1, h2, h3⟩
  · by_cases hj : j = i
    · subst hj
      rw [e] at h1; cases h1
      rw [hp] at h2; cases h2
    · exact ⟨rfl, z, by rw [List.getElem?_set_ne (Ne.symm hj)]; exact h1, h2⟩
theorem out_gv {i : Nat} {Q : VK} (ok : EnvOk K g I H σ env) (h : Out K g W (RD K g) I H σ env (gv i env) Q) : ∃ v, σ[i]? = some (some v) ∧ Q v H := by
  unfold gv at h
  split at h
  · rename_i d e
    obtain ⟨x, hx, v, rfl, r⟩ := ok.lk e
    exact ⟨v, hx, h.done ok r⟩
  · rename_i l e
    obtain ⟨x, hx, p, vs, rfl, e2, e3, r⟩ := ok.lk e
    have r' : Rep K g (upd I p (.lst vs)) (.lst l) (.ref p) := by
      unfold Rep; exact ⟨p, vs, rfl, upd_same, r.mono (Le.new e3)⟩
    exact ⟨_, hx, h _ _ _ (ok.freeze e rfl rfl hx e2 (fun _ z => nomatch z) e3 r') r'⟩
  · rename_i ks l e
    obtain ⟨x, hx, p, vs, rfl, e2, e3, e4, r⟩ := ok.lk e
    have r' : Rep K g (upd I p (.dK (ks.zip vs))) (.dic ks l) (.ref p) := by
      unfold Rep; exact ⟨p, vs, rfl, upd_same, e4, r.mono (Le.new e3)⟩
    exact ⟨_, hx, h _ _ _ (ok.freeze e rfl rfl hx e2 (fun _ z => nomatch z) e3 r') r'⟩
  · rename_i ks l e
    obtain ⟨x, hx, p, vs, rfl, e2, e3, e4, r⟩ := ok.lk e
    have r' : Rep K g (upd I p (.dT (ks.zip vs))) (.dct ks l) (.ref p) := by
      unfold Rep; exact ⟨p, vs, rfl, upd_same, e4, r.mono (Le.new e3)⟩
    exact ⟨_, hx, h _ _ _ (ok.freeze e rfl rfl hx e2 (fun _ z => nomatch z) e3 r') r'⟩
  · exact h.elim
end
section
variable {X : Cx} {g : Gx} {W : WX} {pos : Pos}
theorem dv (i : Nat) {x : Str} (hN : X.N[i]? = some x := by rfl) (hv : Vis X.env.scope x := by first | exact Or.inl rfl | exact Or.inr (Or.inl rfl) | exact Or.inr (Or.inr rfl)) (hd : (x == ("__debug__" : Str)) = false := by decide)
    (hcd : (x == ("__classdict__" : Str)) = false := by decide) : DE X g W (.Name x pos) (gv i) :=
  pe_imp (pv i hN hv hd hcd) fun σ H Q ⟨I, env, ok, h⟩ => out_gv ok h
theorem rep_int {K : PySem.W.Frag} {I : Hp} {i : Int} {v : V} : Rep K g I (.int i) v ↔ v = .int i := by unfold Rep; exact Iff.rfl
theorem rep_bl {K : PySem.W.Frag} {I : Hp} {b : Bool} {v : V} : Rep K g I (.bl b) v ↔ v = .bl b := by unfold Rep; exact Iff.rfl
theorem rep_str {K : PySem.W.Frag} {I : Hp} {b : Str} {v : V} : Rep K g I (.str b) v ↔ v = .str b := by unfold Rep; exact Iff.rfl
theorem rep_non {K : PySem.W.Frag} {I : Hp} {v : V} : Rep K g I .non v ↔ v = .non := by unfold Rep; exact Iff.rfl
theorem rep_raw {K : PySem.W.Frag} {I : Hp} {u v : V} : Rep K g I (.raw u) v ↔ v = u := by unfold Rep; exact Iff.rfl
theorem rep_tup {K : PySem.W.Frag} {I : Hp} {l : List D} {v : V} : Rep K g I (.tup l) v ↔ ∃ p vs, v = .ref p ∧ SqT K I p vs ∧ Reps K g I l vs := by
  constructor
  · intro h; unfold Rep at h; exact h
  · intro h; unfold Rep; exact h
theorem rep_lst {K : PySem.W.Frag} {I : Hp} {l : List D} {v : V} : Rep K g I (.lst l) v ↔ ∃ p vs, v = .ref p ∧ I p = some (.lst vs) ∧ Reps K g I l vs := by
  constructor
  · intro h; unfold Rep at h; exact h
  · intro h; unfold Rep; exact h
theorem rep_obj {K : PySem.W.Frag} {I : Hp} {c : Nat} {l : List D} {v : V} : Rep K g I (.obj c l) v ↔ ∃ p dx vs, v = .ref p ∧ I p = some (.ins (g.ca c) dx ((g.lay c).zip vs)) ∧ (g.lay c).length = vs.length ∧ Reps K g I l vs := by
  constructor
  · intro h; unfold Rep at h; exact h
  · intro h; unfold Rep; exact h
theorem rep_dic {K : PySem.W.Frag} {I : Hp} {ks : List Key} {l : List D} {v : V} : Rep K g I (.dic ks l) v ↔ ∃ p vs, v = .ref p ∧ I p = some (.dK (ks.zip vs)) ∧ ks.length = vs.length ∧ Reps K g I l vs := by
  constructor
  · intro h; unfold Rep at h; exact h
  · intro h; unfold Rep; exact h
theorem d_int {i : Int} {j : Nat} : DE X g W (.Constant (.int i) j pos) (ret (.int i)) := pe_imp pe_int fun σ H Q ⟨I, env, ok, h⟩ => h.done ok (rep_int.mpr rfl)
theorem d_bl {b : Bool} {j : Nat} : DE X g W (.Constant (.bool b) j pos) (ret (.bl b)) := pe_imp pe_bl fun σ H Q ⟨I, env, ok, h⟩ => h.done ok (rep_bl.mpr rfl)
theorem d_str {x : Str} {j : Nat} : DE X g W (.Constant (.str x) j pos) (ret (.str x)) := pe_imp pe_str fun σ H Q ⟨I, env, ok, h⟩ => h.done ok (rep_str.mpr rfl)
theorem d_non {j : Nat} : DE X g W (.Constant .none j pos) (ret .non) := pe_imp pe_non fun σ H Q ⟨I, env, ok, h⟩ => h.done ok (rep_non.mpr rfl)
end

/-! ### operators by the worth of their operands -/
def lift {α : Type} : Option α → M α
  | some a => ret a
  | none => DL.bad
def o1 (f : D → Option D) (a : M D) : M D := bnd a fun x => lift (f x)
def o2 (f : D → D → Option D) (a b : M D) : M D := bnd a fun x => bnd b fun y => lift (f x y)
def oc (f : List D → Option D) (a : M (List D)) : M D := bnd a fun xs => lift (f xs)
/-- what a rule of the hand layer asks holds by the operands' worth -/
def Lk1 (K : PySem.W.Frag) (g : Gx) (r : V → Hp → VK → Prop) (f : D → Option D) : Prop := ∀ (I H : Hp) (σ : L2.St) (env : DL.Env) (x z : D) (v : V) (Q : VK), EnvOk K g I H σ env → Rep K g I x v → f x = some z → (∀ u I' H', StpE K g I H σ env I' H' σ env → Rep K g I' z u → Q u H') → r v H Q
def Lk2 (K : PySem.W.Frag) (g : Gx) (r : R2) (f : D → D → Option D) : Prop := ∀ (I H : Hp) (σ : L2.St) (env : DL.Env) (x y z : D) (v w : V) (Q : VK), EnvOk K g I H σ env → Rep K g I x v → Rep K g I y w → f x y = some z → (∀ u I' H', StpE K g I H σ env I' H' σ env → Rep K g I' z u → Q u H') → r v w H Q
def LkC (K : PySem.W.Frag) (g : Gx) (r : List V → Hp → VK → Prop) (f : List D → Option D) : Prop := ∀ (I H : Hp) (σ : L2.St) (env : DL.Env) (x : List D) (z : D) (v : List V) (Q : VK), EnvOk K g I H σ env → Reps K g I x v → f x = some z → (∀ u I' H', StpE K g I H σ env I' H' σ env → Rep K g I' z u → Q u H') → r v H Q
section
variable {K : PySem.W.Frag} {g : Gx} {W : WX} {I H : Hp} {σ : L2.St} {env : DL.Env} {Q : VK}
theorem out_lift {o : Option D} (h : Out K g W (RD K g) I H σ env (lift o env) Q) : ∃ z, o = some z ∧ ∀ u I' H', StpE K g I H σ env I' H' σ env → Rep K g I' z u → Q u H' := by
  cases o with
  | none => exact h.elim
  | some z => exact ⟨z, rfl, h⟩
theorem tr_o2 {r : R2} {f : D → D → Option D} {ma mb : M D} (hl : Lk2 K g r f) (h : tr K g W (RD K g) (o2 f ma mb) σ H Q) : tOp r (tr K g W (RD K g) ma) (tr K g W (RD K g) mb) σ H Q := by
  obtain ⟨I, env, ok, h⟩ := h
  refine ⟨I, env, ok, ?_⟩
  have h1 := Out.bnd (Rr' := RD K g) h
  revert h1
  refine fun h1 => ?_
  cases e : ma env with
  | bad => rw [e] at h1; exact h1
  | err c env' => rw [e] at h1; exact h1
  | ok a env' =>
    rw [e] at h1
    intro v I1 H1 st rv
    obtain ⟨x, I2, env2, st2, rx, h2⟩ := h1 v I1 H1 st rv
    refine ⟨I2, env2, st2.ok, ?_⟩
    have h3 := Out.bnd (Rr' := RD K g) h2
    cases e2 : mb env2 with
    | bad => rw [e2] at h3; exact h3
    | err c env' => rw [e2] at h3; exact h3
    | ok b env3 =>
      rw [e2] at h3
      intro w I3 H3 st3 rw3
      obtain ⟨y, I4, env4, st4, ry, h4⟩ := h3 w I3 H3 st3 rw3
      obtain ⟨z, hz, h5⟩ := out_lift h4
      exact hl I4 H3 σ env4 x y z v w Q st4.ok (Rep.mono st4.sub rx) ry hz h5
theorem tr_o1 {r : V → Hp → VK → Prop} {f : D → Option D} {ma : M D} (hl : Lk1 K g r f) (h : tr K g W (RD K g) (o1 f ma) σ H Q) : tUn r (tr K g W (RD K g) ma) σ H Q := by
  obtain ⟨I, env, ok, h⟩ := h
  refine ⟨I, env, ok, ?_⟩
  have h1 := Out.bnd (Rr' := RD K g) h
  cases e : ma env with
  | bad => rw [e] at h1; exact h1
  | err c env' => rw [e] at h1; exact h1
  | ok a env' =>
    rw [e] at h1
    intro v I1 H1 st rv
    obtain ⟨x, I2, env2, st2, rx, h2⟩ := h1 v I1 H1 st rv
    obtain ⟨z, hz, h5⟩ := out_lift h2
    exact hl I2 H1 σ env2 x z v Q st2.ok rx hz h5
theorem tr_oc {r : List V → Hp → VK → Prop} {f : List D → Option D} {ma : M (List D)} (hl : LkC K g r f) (h : tr K g W (RD K g) (oc f ma) σ H Q) : tCB r (tr K g W (RL K g) ma) σ H Q := by
  obtain ⟨I, env, ok, h⟩ := h
  refine ⟨I, env, ok, ?_⟩
  have h1 := Out.bnd (Rr' := RL K g) h
  cases e : ma env with
  | bad => rw [e] at h1; exact h1
  | err c env' => rw [e] at h1; exact h1
  | ok a env' =>
    rw [e] at h1
    intro v I1 H1 st rv
    obtain ⟨x, I2, env2, st2, rx, h2⟩ := h1 v I1 H1 st rv
    obtain ⟨z, hz, h5⟩ := out_lift h2
    exact hl I2 H1 σ env2 x z v Q st2.ok rx hz h5
end
section
variable {X : Cx} {g : Gx} {W : WX} {pos : Pos} {a b c e : Expr} {es : List Expr} {ma mb mc : M D} {mt mu : M Bool} {mas : M (List D)}
theorem d_op {op : Operator} {r : R2} {f : D → D → Option D} (ho : OpR X (binaryOp op) r) (hl : Lk2 X.K g r f) (ha : DE X g W a ma) (hb : DE X g W b mb) : DE X g W (.BinOp a op b pos) (o2 f ma mb) :=
  pe_imp (pe_op ho ha hb) fun σ H Q h => tr_o2 hl h
theorem d_un {op : UnaryOp} {r : V → Hp → VK → Prop} {f : D → Option D} (ho : UnR X (unaryOp op) r) (hl : Lk1 X.K g r f) (ha : DE X g W a ma) : DE X g W (.UnaryOp op a pos) (o1 f ma) :=
  pe_imp (pe_un ho ha) fun σ H Q h => tr_o1 hl h
theorem d_cmp {op : CmpOp} {r : R2} {f : D → D → Option D} (ho : OpR X (compareOp op) r) (hl : Lk2 X.K g r f) (ha : DE X g W a ma) (hb : DE X g W b mb) (hm : behindInMarks op b = false := by first | exact nomark _ | rfl) : DE X g W (.Compare a [op] [b] pos) (o2 f ma mb) :=
  pe_imp (pe_cmpR ho ha hb hm) fun σ H Q h => tr_o2 hl h
/-- an expression whose worth is True or False, as a test -/
def tst (m : M D) : M Bool := bnd m fun d => match d with
  | .bl b => ret b
  | _ => DL.bad
theorem out_tst {K : PySem.W.Frag} {I H : Hp} {σ : L2.St} {env : DL.Env} {Q : Bool → Hp → Prop} {m : M D} (ok : EnvOk K g I H σ env) (h : Out K g W RB I H σ env (tst m env) Q) : tr K g W (RD K g) m σ H (fun x H' => ∃ k, x = .bl k ∧ Q k H') := by
  refine ⟨I, env, ok, ?_⟩
  have h1 := Out.bnd (Rr' := RD K g) h
  cases e : m env with
  | bad => rw [e] at h1; exact h1
  | err c env' => rw [e] at h1; exact h1
  | ok a env' =>
    rw [e] at h1
    intro v I1 H1 st rv
    obtain ⟨x, I2, env2, st2, rx, h2⟩ := h1 v I1 H1 st rv
    cases x with
    | bl k => exact ⟨k, rep_bl.mp rx, h2.done st2.ok rfl⟩
    | _ => exact h2.elim
theorem t_cmp {op : CmpOp} {r : R2} {f : D → D → Option D} (ho : OpR X (compareOp op) r) (hl : Lk2 X.K g r f) (ha : DE X g W a ma) (hb : DE X g W b mb) (hm : behindInMarks op b = false := by first | exact nomark _ | rfl) : DT X g W (.Compare a [op] [b] pos) (tst (o2 f ma mb)) :=
  pt_imp (pt_cmpR ho ha hb hm) fun σ H Q ⟨I, env, ok, h⟩ => tr_o2 hl (out_tst ok h)
theorem t_val (he : DE X g W e ma) (hp : ∀ whole, isTrue e X.env whole = (do let v ← whole; standAt e.pos; holding [v] (truthy v)) := by intro _; rfl) : DT X g W e (tst ma) :=
  pt_imp (pt_val he hp) fun σ H Q ⟨I, env, ok, h⟩ => out_tst ok h
/-- a op b op' c, b asked once, c where the first holds -/
def och (f f' : D → D → Option D) (ma mb mc : M D) : M D := bnd ma fun x => bnd mb fun y => bnd (lift (f x y)) fun z => match z with
  | .bl true => bnd mc fun w => lift (f' y w)
  | .bl false => ret (.bl false)
  | _ => DL.bad
/-- the same of operators that leave the heap as it is -/
def Lk2F (K : PySem.W.Frag) (g : Gx) (r : R2) (f : D → D → Option D) : Prop := ∀ (I H : Hp) (x y z : D) (v w : V) (Q : VK), Sub I H → Rep K g I x v → Rep K g I y w → f x y = some z → (∀ u, Rep K g I z u → Q u H) → r v w H Q
theorem Lk2F.lk {K : PySem.W.Frag} {r : R2} {f : D → D → Option D} (h : Lk2F K g r f) : Lk2 K g r f := fun I H σ env x y z v w Q ok rx ry hz q => h I H x y z v w Q ok.sub rx ry hz fun u r => q u I H (StpP.refl ok) r
theorem out_och {K : PySem.W.Frag} {I H : Hp} {σ : L2.St} {env : DL.Env} {Q : VK} {r r' : R2} {f f' : D → D → Option D} (hl : Lk2F K g r f) (hl' : Lk2F K g r' f') (ok : EnvOk K g I H σ env) (h : Out K g W (RD K g) I H σ env (och f f' ma mb mc env) Q) :
    tChain r r' (tr K g W (RD K g) ma) (tr K g W (RD K g) mb) (tr K g W (RD K g) mc) σ H Q := by
  refine ⟨I, env, ok, ?_⟩
  have h1 := Out.bnd (Rr' := RD K g) h
  cases e : ma env with
  | bad => rw [e] at h1; exact h1
  | err c env' => rw [e] at h1; exact h1
  | ok a env' =>
    rw [e] at h1
    intro v I1 H1 st rv
    obtain ⟨x, I2, env2, st2, rx, h2⟩ := h1 v I1 H1 st rv
    refine ⟨I2, env2, st2.ok, ?_⟩
    have h3 := Out.bnd (Rr' := RD K g) h2
    cases e2 : mb env2 with
    | bad => rw [e2] at h3; exact h3
    | err c env' => rw [e2] at h3; exact h3
    | ok b env3 =>
      rw [e2] at h3
      intro w I3 H3 st3 rw3
      obtain ⟨y, I4, env4, st4, ry, h4⟩ := h3 w I3 H3 st3 rw3
      have h5 := Out.bnd (Rr' := RD K g) h4
      cases e3 : f x y with
      | none => rw [e3] at h5; exact h5.elim
      | some z =>
        rw [e3] at h5
        refine hl I4 H3 x y z v w _ st4.ok.sub (Rep.mono st4.sub rx) ry e3 fun u ru => ?_
        obtain ⟨z', I5, env5, st5, rz, h6⟩ := h5 u I4 H3 (StpP.refl st4.ok) ru
        cases z' with
        | bl k =>
          refine ⟨k, rep_bl.mp rz, ?_⟩
          cases k with
          | false =>
            rw [if_neg Bool.false_ne_true]
            exact h6.done st5.ok (rep_bl.mpr rfl)
          | true =>
            rw [if_pos rfl]
            refine ⟨I5, env5, st5.ok, ?_⟩
            have h7 := Out.bnd (Rr' := RD K g) h6
            cases e4 : mc env5 with
            | bad => rw [e4] at h7; exact h7
            | err c env' => rw [e4] at h7; exact h7
            | ok b env6 =>
              rw [e4] at h7
              intro w' I7 H7 st7 rw7
              obtain ⟨y', I8, env8, st8, ry8, h8⟩ := h7 w' I7 H7 st7 rw7
              obtain ⟨z2, hz2, h9⟩ := out_lift h8
              exact hl' I8 H7 y y' z2 w w' Q st8.ok.sub (Rep.mono st8.sub (Rep.mono st5.sub ry)) ry8 hz2 fun u ru => h9 u I8 H7 (StpP.refl st8.ok) ru
        | _ => exact h6.elim
theorem d_chain {op op' : CmpOp} {r r' : R2} {f f' : D → D → Option D} (ho : OpR X (compareOp op) r) (ho' : OpR X (compareOp op') r') (hl : Lk2F X.K g r f) (hl' : Lk2F X.K g r' f') (ha : DE X g W a ma) (hb : DE X g W b mb) (hc : DE X g W c mc)
    (hm : lastMarks [op, op'] [b, c] = false := by with_unfolding_all rfl) : DE X g W (.Compare a [op, op'] [b, c] pos) (och f f' ma mb mc) :=
  pe_imp (pe_chain ho ho' ha hb hc hm) fun σ H Q ⟨I, env, ok, h⟩ => out_och hl hl' ok h
theorem t_chain {op op' : CmpOp} {r r' : R2} {f f' : D → D → Option D} (ho : OpR X (compareOp op) r) (ho' : OpR X (compareOp op') r') (hl : Lk2F X.K g r f) (hl' : Lk2F X.K g r' f') (ha : DE X g W a ma) (hb : DE X g W b mb) (hc : DE X g W c mc)
    (hm : lastMarks [op, op'] [b, c] = false := by with_unfolding_all rfl) : DT X g W (.Compare a [op, op'] [b, c] pos) (tst (och f f' ma mb mc)) :=
  pt_imp (pt_chain ho ho' ha hb hc hm) fun σ H Q ⟨I, env, ok, h⟩ => by
    obtain ⟨I2, env2, ok2, h2⟩ := out_tst ok h
    exact out_och hl hl' ok2 h2

/-! ### and, or, not, if -/
def mAnd (a b : M Bool) : M Bool := bnd a fun c => if c = true then b else ret false
def mOr (a b : M Bool) : M Bool := bnd a fun c => if c = true then ret true else b
def mNot (a : M Bool) : M Bool := bnd a fun c => ret (!c)
def mIf {α : Type} (c : M Bool) (a b : M α) : M α := bnd c fun c => if c = true then a else b
section
variable {K : PySem.W.Frag} {I H : Hp} {σ : L2.St} {env : DL.Env}
theorem out_if {α β : Type} {Rr : Rl α β} [RMono Rr] {Q : β → Hp → Prop} {m1 m2 : M α} (ok : EnvOk K g I H σ env) (h : Out K g W Rr I H σ env (mIf mt m1 m2 env) Q) : tr K g W RB mt σ H (fun c H1 => if c = true then tr K g W Rr m1 σ H1 Q else tr K g W Rr m2 σ H1 Q) := by
  refine ⟨I, env, ok, ?_⟩
  have h1 := Out.bnd (Rr' := RB) h
  cases e : mt env with
  | bad => rw [e] at h1; exact h1
  | err c env' => rw [e] at h1; exact h1
  | ok a env' =>
    rw [e] at h1
    intro v I1 H1 st rv
    obtain ⟨x, I2, env2, st2, rx, h2⟩ := h1 v I1 H1 st rv
    cases rx
    cases v with
    | true => rw [if_pos rfl]; exact ⟨I2, env2, st2.ok, h2⟩
    | false => rw [if_neg Bool.false_ne_true]; exact ⟨I2, env2, st2.ok, h2⟩
theorem tr_retB {b : Bool} {Q : Bool → Hp → Prop} (h : tr K g W RB (ret b) σ H Q) : Q b H := by
  obtain ⟨I, env, ok, h⟩ := h
  exact h.done ok rfl
theorem if_map {A B A' B' : Prop} {c : Bool} (h : if c = true then A else B) (h1 : A → A') (h2 : B → B') : if c = true then A' else B' := by
  cases c with
  | true => rw [if_pos rfl] at h ⊢; exact h1 h
  | false => rw [if_neg Bool.false_ne_true] at h ⊢; exact h2 h
end
abbrev DW (X : Cx) (g : Gx) (W : WX) (e : Expr) (m : M Bool) : Prop := PW X e (tr X.K g W RB m)
theorem pw_imp {X : Cx} {e : Expr} {t t' : TT} (h : PW X e t) (i : ∀ σ H Q, t' σ H Q → t σ H Q) : PW X e t' := ⟨fun w pins s σ H Q I q => h.run w pins s σ H Q I (i σ H Q q)⟩
theorem w_and1 (ha : DT X g W a mt) : DW X g W (.BoolOp .And [a] pos) mt := pw_and1 ha
theorem w_or1 (ha : DT X g W a mt) : DW X g W (.BoolOp .Or [a] pos) mt := pw_or1 ha
theorem w_and {rest : List Expr} (ha : DT X g W a mt) (hb : DW X g W (.BoolOp .And (b :: rest) pos) mu) : DW X g W (.BoolOp .And (a :: b :: rest) pos) (mIf mt mu (ret false)) :=
  pw_imp (pw_and ha hb) fun σ H Q ⟨I, env, ok, h⟩ => tr_thn (out_if ok h) fun c H1 q => if_map q id tr_retB
theorem w_or {rest : List Expr} (ha : DT X g W a mt) (hb : DW X g W (.BoolOp .Or (b :: rest) pos) mu) : DW X g W (.BoolOp .Or (a :: b :: rest) pos) (mIf mt (ret true) mu) :=
  pw_imp (pw_or ha hb) fun σ H Q ⟨I, env, ok, h⟩ => tr_thn (out_if ok h) fun c H1 q => if_map q tr_retB id
theorem t_w (h : DW X g W e mt) : DT X g W e mt := PW.pt h
theorem t_not (ha : DT X g W a mt) : DT X g W (.UnaryOp .Not a pos) (mNot mt) :=
  pt_imp (pt_not ha) fun σ H Q ⟨I, env, ok, h⟩ => by
    refine ⟨I, env, ok, ?_⟩
    have h1 := Out.bnd (Rr' := RB) h
    cases e : mt env with
    | bad => rw [e] at h1; exact h1
    | err c env' => rw [e] at h1; exact h1
    | ok a env' =>
      rw [e] at h1
      intro v I1 H1 st rv
      obtain ⟨x, I2, env2, st2, rx, h2⟩ := h1 v I1 H1 st rv
      cases rx
      exact h2.done st2.ok rfl
theorem d_ifExp (hc : DT X g W c mt) (ha : DE X g W a ma) (hb : DE X g W b mb) : DE X g W (.IfExp c a b pos) (mIf mt ma mb) :=
  pe_imp (pe_ifExp hc ha hb) fun σ H Q ⟨I, env, ok, h⟩ => out_if ok h
end
end DL
set_option Elab.async false
set_option linter.all false
set_option maxRecDepth 100000
set_option maxHeartbeats 4000000
set_option autoImplicit false
namespace DL
open PySem PySem.Spec PyProof.Rows L2 LamX
section
variable {X : Cx} {g : Gx} {W : WX} {pos : Pos} {a b c e : Expr} {es rest : List Expr} {ma mb mc : M D} {mt mu : M Bool} {mas : M (List D)}
/-! ### and, or, not as values -/
theorem d_one {op : BoolOp} (h : DE X g W a ma) : DE X g W (.BoolOp op [a] pos) ma := pe_one h
theorem tr_tstV {K : PySem.W.Frag} {I H : Hp} {σ : L2.St} {env : DL.Env} {Q : VK} {f : Bool → M D} {m : M D} (ok : EnvOk K g I H σ env) (h : Out K g W (RD K g) I H σ env (bnd (tst m) f env) Q) : tr K g W (RD K g) m σ H (fun x H1 => ∃ c, x = .bl c ∧ tr K g W (RD K g) (f c) σ H1 Q) := by
  refine tr_thn (out_tst (Q := fun c H1 => tr K g W (RD K g) (f c) σ H1 Q) ok ?_) fun b H' q => q
  have h1 := Out.bnd (Rr' := RB) h
  cases e : tst m env with
  | bad => rw [e] at h1; exact h1
  | err c env' => rw [e] at h1; exact h1
  | ok a env' =>
    rw [e] at h1
    intro v I1 H1 st rv
    obtain ⟨x, I2, env2, st2, rx, h2⟩ := h1 v I1 H1 st rv
    cases rx
    exact ⟨I2, env2, st2.ok, h2⟩
theorem tr_retD {K : PySem.W.Frag} {σ : L2.St} {H : Hp} {Q : VK} {d : D} {v : V} (h : tr K g W (RD K g) (ret d) σ H Q) (r : ∀ I, Rep K g I d v) : Q v H := by
  obtain ⟨I, env, ok, h⟩ := h
  exact h.done ok (r I)
def mAndV (a b : M D) : M D := bnd (tst a) fun c => if c = true then b else ret (.bl false)
def mOrV (a b : M D) : M D := bnd (tst a) fun c => if c = true then ret (.bl true) else b
theorem d_and (ha : DE X g W a ma) (hb : DE X g W (.BoolOp .And (b :: rest) pos) mb) : DE X g W (.BoolOp .And (a :: b :: rest) pos) (mAndV ma mb) :=
  pe_imp (pe_and ha hb) fun σ H Q ⟨I, env, ok, h⟩ => tr_thn (tr_tstV ok h) fun x H1 ⟨c, e, q⟩ => ⟨c, e, by
    cases c with
    | true => rw [if_pos rfl]; exact q
    | false => rw [if_neg Bool.false_ne_true]; exact tr_retD q fun _ => rep_bl.mpr rfl⟩
theorem d_or (ha : DE X g W a ma) (hb : DE X g W (.BoolOp .Or (b :: rest) pos) mb) : DE X g W (.BoolOp .Or (a :: b :: rest) pos) (mOrV ma mb) :=
  pe_imp (pe_or ha hb) fun σ H Q ⟨I, env, ok, h⟩ => tr_thn (tr_tstV ok h) fun x H1 ⟨c, e, q⟩ => ⟨c, e, by
    cases c with
    | true => rw [if_pos rfl]; exact tr_retD q fun _ => rep_bl.mpr rfl
    | false => rw [if_neg Bool.false_ne_true]; exact q⟩
def mNotV (a : M D) : M D := bnd (tst a) fun c => ret (.bl (!c))
theorem d_not (ha : DE X g W a ma) : DE X g W (.UnaryOp .Not a pos) (mNotV ma) :=
  pe_imp (pe_not ha) fun σ H Q ⟨I, env, ok, h⟩ => tr_thn (tr_tstV ok h) fun x H1 ⟨c, e, q⟩ => ⟨c, e, tr_retD q fun _ => rep_bl.mpr rfl⟩

/-! ### arguments, displays -/
def mcons (a : M D) (as : M (List D)) : M (List D) := bnd a fun x => bnd as fun xs => ret (x :: xs)
theorem a_nil : DA X g W [] (ret []) := pa_imp pa_nil fun σ H Q ⟨I, env, ok, h⟩ => h.done ok Reps.nil
theorem a_cons (ha : DE X g W e ma) (hr : DA X g W es mas) (hs : starEach (e :: es) X.env = (false, eval e X.env) :: starEach es X.env := by rfl) : DA X g W (e :: es) (mcons ma mas) :=
  pa_imp (pa_cons ha hr hs) fun σ H Q ⟨I, env, ok, h⟩ => tr_bnd (Rr' := RD X.K g) ok h fun v x I1 H1 env1 st rx h1 => tr_bnd (Rr' := RL X.K g) st.ok h1 fun vs xs I2 H2 env2 st2 rxs h2 =>
    h2.done st2.ok (Reps.cons (Rep.mono st2.sub rx) rxs)
/-- the worth of arguments, then some more -/
theorem tr_args {K : PySem.W.Frag} {I H : Hp} {σ : L2.St} {env : DL.Env} {Q : VK} {f : List D → M D} (ok : EnvOk K g I H σ env) (h : Out K g W (RD K g) I H σ env (bnd mas f env) Q) {Q' : List V → Hp → Prop}
    (k : ∀ vs ds I1 H1 env1, StpE K g I H σ env I1 H1 σ env1 → Reps K g I1 ds vs → Out K g W (RD K g) I1 H1 σ env1 (f ds env1) Q → Q' vs H1) : tr K g W (RL K g) mas σ H Q' := tr_bnd (Rr' := RL K g) ok h k
def mtup (as : M (List D)) : M D := bnd as fun xs => if xs.length ≤ 16777216 then ret (.tup xs) else DL.bad
def mlst (as : M (List D)) : M D := bnd as fun xs => if xs.length ≤ 16777216 then ret (.lst xs) else DL.bad
theorem StpP.newTup {K : PySem.W.Frag} {I H : Hp} {σ : L2.St} {env : DL.Env} {p : Addr} {vs : List V} {ds : List D} (ok : EnvOk K g I H σ env) (hp : H p = none) (r : Reps K g I ds vs) : StpE K g I H σ env (upd I p (.tup vs)) (upd H p (.tup vs)) σ env ∧ Rep K g (upd I p (.tup vs)) (.tup ds) (.ref p) :=
  ⟨ok.new hp (fun _ z => nomatch z), rep_tup.mpr ⟨p, vs, rfl, .inl (.inl upd_same), r.mono (Le.new (ok.fresh_i hp))⟩⟩
theorem StpP.newLst {K : PySem.W.Frag} {I H : Hp} {σ : L2.St} {env : DL.Env} {p : Addr} {vs : List V} {ds : List D} (ok : EnvOk K g I H σ env) (hp : H p = none) (r : Reps K g I ds vs) : StpE K g I H σ env (upd I p (.lst vs)) (upd H p (.lst vs)) σ env ∧ Rep K g (upd I p (.lst vs)) (.lst ds) (.ref p) :=
  ⟨ok.new hp (fun _ z => nomatch z), rep_lst.mpr ⟨p, vs, rfl, upd_same, r.mono (Le.new (ok.fresh_i hp))⟩⟩
theorem line_eq : (sizeLine : Nat) = 16777216 := sizeLine_eq
theorem d_tup {k : Nat} (h : DA X g W es mas) : DE X g W (.Tuple es k pos) (mtup mas) :=
  pe_imp (pe_tup h) fun σ H Q ⟨I, env, ok, h⟩ => tr_args ok h fun vs ds I1 H1 env1 st r h1 => by
    by_cases hl : ds.length ≤ 16777216
    · rw [if_pos hl] at h1
      refine ⟨by rw [← r.length, line_eq]; exact hl, fun p hp => ?_⟩
      obtain ⟨s2, r2⟩ := StpP.newTup st.ok hp r
      exact h1 _ _ _ s2 r2
    · rw [if_neg hl] at h1; exact h1.elim
theorem d_lst (h : DA X g W es mas) : DE X g W (.List es pos) (mlst mas) :=
  pe_imp (pe_lst h) fun σ H Q ⟨I, env, ok, h⟩ => tr_args ok h fun vs ds I1 H1 env1 st r h1 => by
    by_cases hl : ds.length ≤ 16777216
    · rw [if_pos hl] at h1
      refine ⟨by rw [← r.length, line_eq]; exact hl, fun p hp => ?_⟩
      obtain ⟨s2, r2⟩ := StpP.newLst st.ok hp r
      exact h1 _ _ _ s2 r2
    · rw [if_neg hl] at h1; exact h1.elim

/-! ### attributes: alts tells, for each class that has it, the place -/
def dFld (alts : List (Nat × Nat)) : D → Option D
  | .obj c l => (alts.lookup c).bind fun i => l[i]?
  | _ => none
/-- what must be known of the classes that have the attribute f -/
def FldOk (K : PySem.W.Frag) (g : Gx) (f : Str) (alts : List (Nat × Nat)) : Prop := ∀ c i, alts.lookup c = some i → Cls K (g.ca c) ∧ NoAttr K (g.ca c) f ∧ (g.lay c)[i]? = some f ∧ ∀ j, j < i → (g.lay c)[j]? ≠ some f
theorem lookup_zip : ∀ {fs : List Str} {vs : List V} {f : Str} {i : Nat} {v : V}, fs[i]? = some f → (∀ j, j < i → fs[j]? ≠ some f) → vs[i]? = some v → (fs.zip vs).lookup f = some v
  | [], _, _, _, _, h, _, _ => by simp at h
  | x :: fs, [], _, _, _, _, _, h => by simp at h
  | x :: fs, u :: vs, f, 0, v, h, _, hv => by
    simp at h hv; subst h hv
    simp [List.zip, List.zipWith, List.lookup]
  | x :: fs, u :: vs, f, i + 1, v, h, hn, hv => by
    have hx : x ≠ f := fun e => hn 0 (by omega) (by simp [e])
    have hb : (f == x) = false := by simpa using Ne.symm hx
    simp only [List.zip_cons_cons, List.lookup_cons, hb]
    exact lookup_zip (by simpa using h) (fun j hj => by have := hn (j + 1) (by omega); simpa using this) (by simpa using hv)
theorem d_fld {f : Str} {alts : List (Nat × Nat)} (hF : FldOk X.K g f alts) (ha : DE X g W a ma) (hb : attributeBase a f X.env (eval a X.env) = eval a X.env := by rfl) : DE X g W (.Attribute a f pos) (o1 (dFld alts) ma) :=
  pe_imp (pe_fld ha hb) fun σ H Q ⟨I, env, ok, h⟩ => tr_bnd (Rr' := RD X.K g) ok h fun v x I1 H1 env1 st rx h1 => by
    obtain ⟨z, hz, h2⟩ := out_lift h1
    cases x with
    | obj c l =>
      obtain ⟨p, dx, vs, rfl, e2, e3, e4⟩ := rep_obj.mp rx
      obtain ⟨i, hi, hl⟩ := Option.bind_eq_some_iff.mp (show (alts.lookup c).bind (fun i => l[i]?) = some z from hz)
      obtain ⟨h3, h4, h5, h6⟩ := hF c i hi
      obtain ⟨v, hv, rv⟩ := e4.get hl
      exact ⟨p, g.ca c, dx, _, v, rfl, st.ok.sub.get e2 rfl, h3, h4, lookup_zip h5 h6 hv, h2 v I1 H1 (StpP.refl st.ok) rv⟩
    | _ => cases hz

/-! ### items -/
def dIx : D → D → Option D
  | .lst l, .int i => atI l i
  | .tup l, .int i => atI l i
  | .str z, .int i => if z.length ≤ 16777216 then (atI z.cps.toList i).map fun c => .str ⟨#[c]⟩ else none
  | _, _ => none
theorem atI_reps {K : PySem.W.Frag} {I : Hp} {ds : List D} {vs : List V} {i : Int} {d : D} (r : Reps K g I ds vs) (h : atI ds i = some d) : ∃ v, atI vs i = some v ∧ Rep K g I d v := by
  unfold atI at *
  rw [← r.length]
  obtain ⟨j, hj, hd⟩ := Option.bind_eq_some_iff.mp h
  obtain ⟨v, hv, rv⟩ := r.get hd
  exact ⟨v, by rw [hj]; exact hv, rv⟩
theorem lk_ix {K : PySem.W.Frag} : Lk2F K g (rIx K) dIx := by
  intro I H x y z v w Q le rx ry hz q
  cases y with
  | int i =>
    obtain rfl := rep_int.mp ry
    cases x with
    | lst l =>
      obtain ⟨p, vs, rfl, e2, e3⟩ := rep_lst.mp rx
      obtain ⟨u, hu, ru⟩ := atI_reps e3 hz
      exact .inl ⟨p, vs, i, u, rfl, rfl, SqL.of (le.get e2 rfl), hu, q u ru⟩
    | tup l =>
      obtain ⟨p, vs, rfl, e2, e3⟩ := rep_tup.mp rx
      obtain ⟨u, hu, ru⟩ := atI_reps e3 hz
      exact .inr (.inl ⟨p, vs, i, u, rfl, rfl, sub_t le e2, hu, q u ru⟩)
    | str s =>
      obtain rfl := rep_str.mp rx
      by_cases hl : s.length ≤ 16777216
      · have hz' : (atI s.cps.toList i).map (fun c => D.str ⟨#[c]⟩) = some z := by
          have this : (if s.length ≤ 16777216 then (atI s.cps.toList i).map (fun c => D.str ⟨#[c]⟩) else none) = some z := hz
          rw [if_pos hl] at this; exact this
        obtain ⟨c, hc, rfl⟩ := Option.map_eq_some_iff.mp hz'
        exact .inr (.inr ⟨s, i, c, rfl, rfl, by rw [line_eq]; exact hl, hc, q _ (rep_str.mpr rfl)⟩)
      · have this : (if s.length ≤ 16777216 then (atI s.cps.toList i).map (fun c => D.str ⟨#[c]⟩) else none) = some z := hz
        rw [if_neg hl] at this; cases this
    | _ => cases hz
  | _ => cases x <;> cases hz
theorem d_ix (ha : DE X g W a ma) (hb : DE X g W b mb) (hs : PlainIx b := by exact fun _ _ => rfl) : DE X g W (.Subscript a b pos) (o2 dIx ma mb) :=
  pe_imp (pe_ix ix_seq ha hb hs) fun σ H Q h => tr_o2 lk_ix.lk h

/-! ### slices -/
abbrev ROI : Rl (Option Int) (Option Int) := fun _ _ _ a b => a = b
instance : RMono ROI := ⟨fun _ h => h⟩
abbrev DO_ (X : Cx) (g : Gx) (W : WX) (e : Option Expr) (m : M (Option Int)) : Prop := PO X e (tr X.K g W ROI m)
theorem po_imp {X : Cx} {e : Option Expr} {t t' : TO} (h : PO X e t) (i : ∀ σ H Q, t' σ H Q → t σ H Q) : PO X e t' := ⟨fun pins s σ H Q I q => h.run pins s σ H Q I (i σ H Q q)⟩
theorem p_none : DO_ X g W none (ret none) := po_imp po_none fun σ H Q ⟨I, env, ok, h⟩ => h.done ok rfl
def mpart (m : M D) : M (Option Int) := bnd m fun d => match d with
  | .int i => ret (some i)
  | _ => DL.bad
theorem p_some (h : DE X g W e ma) : DO_ X g W (some e) (mpart ma) := po_imp (po_some h) fun σ H Q ⟨I, env, ok, h⟩ => tr_bnd (Rr' := RD X.K g) ok h fun v x I1 H1 env1 st rx h1 => by
  cases x with
  | int i => exact ⟨i, rep_int.mp rx, h1.done st.ok rfl⟩
  | _ => exact h1.elim
def cutD {α : Type} (xs : List α) (lo hi : Option Int) : List α := (xs.drop (HT.sIx xs.length 0 lo)).take (HT.sIx xs.length xs.length hi - HT.sIx xs.length 0 lo)
end
end DL
set_option Elab.async false
set_option linter.all false
set_option maxRecDepth 100000
set_option maxHeartbeats 4000000
set_option autoImplicit false
namespace DL
open PySem PySem.Spec PyProof.Rows L2 LamX

/-! ### the operators' worth -/
mutual
def toPy : D → Option PyData
  | .non => some .none
  | .bl b => some (.bool b)
  | .int i => some (.int i)
  | .str x => some (.str x)
  | .lst l => (toPys l).map .list
  | .tup l => (toPys l).map .tuple
  | _ => none
def toPys : List D → Option (List PyData)
  | [] => some []
  | d :: ds => match toPy d, toPys ds with
    | some a, some b => some (a :: b)
    | _, _ => none
end
mutual
theorem toPy_dp {K : PySem.W.Frag} {g : Gx} {I H : Hp} (le : Sub I H) : ∀ {d : D} {a : PyData} {v : V}, toPy d = some a → Rep K g I d v → Dp K H v a
  | .non, _, _, h, r => by cases h; obtain rfl := rep_non.mp r; exact .non
  | .bl b, _, _, h, r => by cases h; obtain rfl := rep_bl.mp r; exact .bl b
  | .int b, _, _, h, r => by cases h; obtain rfl := rep_int.mp r; exact .int b
  | .str b, _, _, h, r => by cases h; obtain rfl := rep_str.mp r; exact .str b
  | .lst l, _, _, h, r => by
    obtain ⟨p, vs, rfl, e2, e3⟩ := rep_lst.mp r
    have h' : (toPys l).map PyData.list = some _ := h
    obtain ⟨ds, hd, rfl⟩ := Option.map_eq_some_iff.mp h'
    exact .lst (SqL.of (le.get e2 rfl)) (toPys_dp le hd e3)
  | .tup l, _, _, h, r => by
    obtain ⟨p, vs, rfl, e2, e3⟩ := rep_tup.mp r
    have h' : (toPys l).map PyData.tuple = some _ := h
    obtain ⟨ds, hd, rfl⟩ := Option.map_eq_some_iff.mp h'
    exact .tup (sub_t le e2) (toPys_dp le hd e3)
  | .dic _ _, _, _, h, _ => by cases h
  | .dct _ _, _, _, h, _ => by cases h
  | .obj _ _, _, _, h, _ => by cases h
  | .raw _, _, _, h, _ => by cases h
theorem toPys_dp {K : PySem.W.Frag} {g : Gx} {I H : Hp} (le : Sub I H) : ∀ {d : List D} {a : List PyData} {v : List V}, toPys d = some a → Reps K g I d v → DpAll K H v a
  | [], _, _, h, r => by cases h; obtain rfl := reps_nil.mp r; exact .nil
  | d :: ds, _, _, h, r => by
    obtain ⟨u, us, rfl, r1, r2⟩ := reps_cons.mp r
    unfold toPys at h
    split at h
    · rename_i a b ha hb
      cases h
      exact .cons (toPy_dp le ha r1) (toPys_dp le hb r2)
    · cases h
end
def dEq (x y : D) : Option D := match toPy x, toPy y with
  | some a, some b => if SeqAt.shaped a = true ∧ SeqAt.shaped b = true then some (.bl (PyData.eqv a b)) else none
  | _, _ => none
def dNe (x y : D) : Option D := match toPy x, toPy y with
  | some a, some b => if SeqAt.shaped a = true ∧ SeqAt.shaped b = true then some (.bl (!PyData.eqv a b)) else none
  | _, _ => none
section
variable {K : PySem.W.Frag} {g : Gx}
theorem lk_eq : Lk2F K g (rEqD K) dEq := by
  intro I H x y z v w Q le rx ry hz q
  unfold dEq at hz
  split at hz
  · rename_i a b ha hb
    split at hz
    · rename_i hs
      cases hz
      exact ⟨a, b, toPy_dp le ha rx, toPy_dp le hb ry, hs.1, hs.2, q _ (rep_bl.mpr rfl)⟩
    · cases hz
  · cases hz
theorem lk_ne : Lk2F K g (rNeD K) dNe := by
  intro I H x y z v w Q le rx ry hz q
  unfold dNe at hz
  split at hz
  · rename_i a b ha hb
    split at hz
    · rename_i hs
      cases hz
      exact ⟨a, b, toPy_dp le ha rx, toPy_dp le hb ry, hs.1, hs.2, q _ (rep_bl.mpr rfl)⟩
    · cases hz
  · cases hz
/-- ints alone -/
def dII (f : Int → Int → Option D) : D → D → Option D
  | .int i, .int j => f i j
  | _, _ => none
theorem lk_ii0 {h : Int → Int → V} {f : Int → Int → D} (e : ∀ i j I, Rep K g I (f i j) (h i j)) : Lk2F K g (rI0 h) (dII fun i j => some (f i j)) := by
  intro I H x y z v w Q le rx ry hz q
  cases x <;> cases y <;> first | cases hz; done | skip
  rename_i i j
  obtain rfl := rep_int.mp rx
  obtain rfl := rep_int.mp ry
  have hz' : some (f i j) = some z := hz
  cases hz'
  exact ⟨i, j, rfl, rfl, q _ (e i j I)⟩
theorem lk_iiC {C : Int → Int → Prop} [∀ i j, Decidable (C i j)] {h : Int → Int → V} {f : Int → Int → D} (e : ∀ i j I, Rep K g I (f i j) (h i j)) : Lk2F K g (rI C h) (dII fun i j => if C i j then some (f i j) else none) := by
  intro I H x y z v w Q le rx ry hz q
  cases x <;> cases y <;> first | cases hz; done | skip
  rename_i i j
  obtain rfl := rep_int.mp rx
  obtain rfl := rep_int.mp ry
  have hz' : (if C i j then some (f i j) else none) = some z := hz
  split at hz'
  · rename_i hc
    cases hz'
    exact ⟨i, j, rfl, rfl, hc, q _ (e i j I)⟩
  · cases hz'
instance (i j : Int) : Decidable (CDivW i j) := by unfold CDivW; infer_instance
instance (i j : Int) : Decidable (CMulW i j) := by unfold CMulW; infer_instance
instance (i j : Int) : Decidable (CPow i j) := by unfold CPow; infer_instance
def dSub : D → D → Option D := dII fun i j => some (.int (i - j))
def dDiv : D → D → Option D := dII fun i j => if CDivW i j then some (.int (i / j)) else none
def dMod : D → D → Option D := dII fun i j => if 0 < j then some (.int (i % j)) else none
def dPow : D → D → Option D := dII fun i j => if CPow i j then some (.int (i ^ j.toNat)) else none
def dLtI : D → D → Option D := dII fun i j => some (.bl (decide (i < j)))
def dLe : D → D → Option D := dII fun i j => some (.bl (decide (i ≤ j)))
def dGt : D → D → Option D := dII fun i j => some (.bl (decide (j < i)))
def dGe : D → D → Option D := dII fun i j => some (.bl (decide (j ≤ i)))
theorem lk_sub : Lk2F K g (rI0 fun i j => .int (i - j)) dSub := lk_ii0 fun _ _ _ => rep_int.mpr rfl
theorem lk_div : Lk2F K g (rI CDivW fun i j => .int (i / j)) dDiv := lk_iiC fun _ _ _ => rep_int.mpr rfl
theorem lk_mod : Lk2F K g (rI (fun _ j => 0 < j) fun i j => .int (i % j)) dMod := lk_iiC (C := fun _ j => 0 < j) fun _ _ _ => rep_int.mpr rfl
theorem lk_pow : Lk2F K g (rI CPow fun i j => .int (i ^ j.toNat)) dPow := lk_iiC fun _ _ _ => rep_int.mpr rfl
theorem lk_ltI : Lk2F K g (rI0 fun i j => .bl (decide (i < j))) dLtI := lk_ii0 fun _ _ _ => rep_bl.mpr rfl
theorem lk_le : Lk2F K g (rI0 fun i j => .bl (decide (i ≤ j))) dLe := lk_ii0 fun _ _ _ => rep_bl.mpr rfl
theorem lk_gt : Lk2F K g (rI0 fun i j => .bl (decide (j < i))) dGt := lk_ii0 fun _ _ _ => rep_bl.mpr rfl
theorem lk_ge : Lk2F K g (rI0 fun i j => .bl (decide (j ≤ i))) dGe := lk_ii0 fun _ _ _ => rep_bl.mpr rfl
/-- + of ints, texts, lists, tuples -/
def rAddA (K : PySem.W.Frag) : R2 := fun x y H Q => (rI0 (fun i j => .int (i + j)) x y H Q) ∨ ((∃ i j, x = .str i ∧ y = .str j ∧ i.length + j.length ≤ sizeLine ∧ Q (.str (i ++ j)) H) ∨ (rCat x y H Q ∨ rCatA K x y H Q))
theorem op_addA {X : Cx} : OpR X (binaryOp .Add) (rAddA X.K) := op_add.or (op_add_str.or (op_cat.or op_catA))
def dAdd : D → D → Option D
  | .int i, .int j => some (.int (i + j))
  | .str a, .str b => if a.length + b.length ≤ 16777216 then some (.str (a ++ b)) else none
  | .lst a, .lst b => if a.length + b.length ≤ 16777216 then some (.lst (a ++ b)) else none
  | .tup a, .tup b => if a.length + b.length ≤ 16777216 then some (.tup (a ++ b)) else none
  | _, _ => none
theorem lk_add : Lk2 K g (rAddA K) dAdd := by
  intro I H σ env x y z v w Q ok rx ry hz q
  cases x <;> cases y <;> first | (cases hz; done) | skip
  · rename_i i j
    obtain rfl := rep_int.mp rx
    obtain rfl := rep_int.mp ry
    have hz' : some (D.int (i + j)) = some z := hz
    cases hz'
    exact .inl ⟨i, j, rfl, rfl, q _ I H (StpP.refl ok) (rep_int.mpr rfl)⟩
  · rename_i a b
    obtain rfl := rep_str.mp rx
    obtain rfl := rep_str.mp ry
    have hz' : (if a.length + b.length ≤ 16777216 then some (D.str (a ++ b)) else none) = some z := hz
    split at hz'
    · rename_i hl
      cases hz'
      exact .inr (.inl ⟨a, b, rfl, rfl, by rw [line_eq]; exact hl, q _ I H (StpP.refl ok) (rep_str.mpr rfl)⟩)
    · cases hz'
  · rename_i a b
    obtain ⟨p, vs, rfl, e2, e3⟩ := rep_tup.mp rx
    obtain ⟨p', vs', rfl, e2', e3'⟩ := rep_tup.mp ry
    have hz' : (if a.length + b.length ≤ 16777216 then some (D.tup (a ++ b)) else none) = some z := hz
    split at hz'
    · rename_i hl
      cases hz'
      refine .inr (.inr (.inr ⟨p, p', vs, vs', rfl, rfl, sub_t ok.sub e2, sub_t ok.sub e2', by rw [← e3.length, ← e3'.length, line_eq]; exact hl, fun hn => ?_, fun hn hm => ?_, fun hn hm p2 hp => ?_⟩))
      · subst hn
        have : a = [] := List.eq_nil_of_length_eq_zero e3.length
        subst this
        exact q _ I H (StpP.refl ok) (by rw [List.nil_append]; exact ry)
      · subst hm
        have : b = [] := List.eq_nil_of_length_eq_zero e3'.length
        subst this
        exact q _ I H (StpP.refl ok) (by rw [List.append_nil]; exact rx)
      · obtain ⟨s2, r2⟩ := StpP.newTup ok hp (e3.append e3')
        exact q _ _ _ s2 r2
    · cases hz'
  · rename_i a b
    obtain ⟨p, vs, rfl, e2, e3⟩ := rep_lst.mp rx
    obtain ⟨p', vs', rfl, e2', e3'⟩ := rep_lst.mp ry
    have hz' : (if a.length + b.length ≤ 16777216 then some (D.lst (a ++ b)) else none) = some z := hz
    split at hz'
    · rename_i hl
      cases hz'
      refine .inr (.inr (.inl ⟨p, p', vs, vs', rfl, rfl, ok.sub.get e2 rfl, ok.sub.get e2' rfl, by rw [← e3.length, ← e3'.length, line_eq]; exact hl, fun p2 hp => ?_⟩))
      obtain ⟨s2, r2⟩ := StpP.newLst ok hp (e3.append e3')
      exact q _ _ _ s2 r2
    · cases hz'
/-- * of ints, of a list and a count -/
def CMulA (i j : Int) : Prop := i.natAbs < 2 ^ 64 ∨ j.natAbs < 2 ^ 64 ∨ CMulW i j
instance (i j : Int) : Decidable (CMulA i j) := by unfold CMulA; infer_instance
def rMulA : R2 := fun x y H Q => (rI CMul (fun i j => .int (i * j)) x y H Q) ∨ ((rI CMulW (fun i j => .int (i * j)) x y H Q) ∨ rRep x y H Q)
theorem op_mulA {X : Cx} : OpR X (binaryOp .Mult) rMulA := op_mul.or (op_mulW.or op_rep)
def dMul : D → D → Option D
  | .int i, .int j => if CMulA i j then some (.int (i * j)) else none
  | .lst a, .int k => if -(2 ^ 63) ≤ k ∧ k < 2 ^ 63 ∧ a.length * k.toNat ≤ 16777216 then some (.lst (List.replicate k.toNat a).flatten) else none
  | _, _ => none
theorem lk_mul : Lk2 K g rMulA dMul := by
  intro I H σ env x y z v w Q ok rx ry hz q
  cases x <;> cases y <;> first | (cases hz; done) | skip
  · rename_i i j
    obtain rfl := rep_int.mp rx
    obtain rfl := rep_int.mp ry
    have hz' : (if CMulA i j then some (D.int (i * j)) else none) = some z := hz
    split at hz'
    · rename_i hc
      cases hz'
      rcases hc with hc | hc | hc
      · exact .inl ⟨i, j, rfl, rfl, .inl (by omega), q _ I H (StpP.refl ok) (rep_int.mpr rfl)⟩
      · exact .inl ⟨i, j, rfl, rfl, .inr (by omega), q _ I H (StpP.refl ok) (rep_int.mpr rfl)⟩
      · exact .inr (.inl ⟨i, j, rfl, rfl, hc, q _ I H (StpP.refl ok) (rep_int.mpr rfl)⟩)
    · cases hz'
  · rename_i a k
    obtain ⟨p, vs, rfl, e2, e3⟩ := rep_lst.mp rx
    obtain rfl := rep_int.mp ry
    have hz' : (if -(2 ^ 63) ≤ k ∧ k < 2 ^ 63 ∧ a.length * k.toNat ≤ 16777216 then some (D.lst (List.replicate k.toNat a).flatten) else none) = some z := hz
    split at hz'
    · rename_i hc
      cases hz'
      refine .inr (.inr ⟨p, k, vs, rfl, rfl, ok.sub.get e2 rfl, hc.1, hc.2.1, by rw [← e3.length, line_eq]; exact hc.2.2, ?_⟩)
      intro p2 hp
      obtain ⟨s2, r2⟩ := StpP.newLst ok hp (e3.rep k.toNat)
      exact q _ _ _ s2 r2
    · cases hz'
def dNeg : D → Option D
  | .int i => some (.int (-i))
  | _ => none
theorem lk_neg : Lk1 K g (rU fun i => .int (-i)) dNeg := by
  intro I H σ env x z v Q ok rx hz q
  cases x <;> first | (cases hz; done) | skip
  obtain rfl := rep_int.mp rx
  cases hz
  exact ⟨_, rfl, q _ I H (StpP.refl ok) (rep_int.mpr rfl)⟩
/-- < of ints, of texts -/
def rLtA : R2 := fun x y H Q => (rI0 (fun i j => .bl (decide (i < j))) x y H Q) ∨ (∃ i j, x = .str i ∧ y = .str j ∧ Q (.bl (decide (i.cps.toList < j.cps.toList))) H)
theorem op_ltA {X : Cx} : OpR X (compareOp .Lt) rLtA := op_lt.or op_lt_str
def dLt : D → D → Option D
  | .int i, .int j => some (.bl (decide (i < j)))
  | .str a, .str b => some (.bl (decide (a.cps.toList < b.cps.toList)))
  | _, _ => none
theorem lk_lt : Lk2F K g rLtA dLt := by
  intro I H x y z v w Q le rx ry hz q
  cases x <;> cases y <;> first | (cases hz; done) | skip
  · obtain rfl := rep_int.mp rx
    obtain rfl := rep_int.mp ry
    cases hz
    exact .inl ⟨_, _, rfl, rfl, q _ (rep_bl.mpr rfl)⟩
  · obtain rfl := rep_str.mp rx
    obtain rfl := rep_str.mp ry
    cases hz
    exact .inr ⟨_, _, rfl, rfl, q _ (rep_bl.mpr rfl)⟩
def dIsN : D → D → Option D
  | .non, .non => some (.bl true)
  | x, .non => match x with
    | .raw _ => none
    | _ => some (.bl false)
  | _, _ => none
def rIsN' : R2 := fun x y H Q => y = .non ∧ Q (.bl (decide (x = .non))) H
theorem rep_notnon {I : Hp} {x : D} {v : V} (h : Rep K g I x v) (hx : x ≠ .non) (hr : ∀ u, x ≠ .raw u) : v ≠ .non := by
  intro e; subst e
  cases x with
  | non => exact hx rfl
  | raw u => exact hr u rfl
  | bl b => have := rep_bl.mp h; cases this
  | int b => have := rep_int.mp h; cases this
  | str b => have := rep_str.mp h; cases this
  | tup l => obtain ⟨p, vs, e, _⟩ := rep_tup.mp h; cases e
  | lst l => obtain ⟨p, vs, e, _⟩ := rep_lst.mp h; cases e
  | obj c l => obtain ⟨p, dx, vs, e, _⟩ := rep_obj.mp h; cases e
  | dic ks l => obtain ⟨p, vs, e, _⟩ := rep_dic.mp h; cases e
  | dct ks l => unfold Rep at h; obtain ⟨p, vs, e, _⟩ := h; cases e
theorem lk_isN : Lk2F K g rIsN' dIsN := by
  intro I H x y z v w Q le rx ry hz q
  cases y with
  | non =>
    obtain rfl := rep_non.mp ry
    refine ⟨rfl, ?_⟩
    cases x with
    | non =>
      obtain rfl := rep_non.mp rx
      have hz' : some (D.bl true) = some z := hz
      cases hz'
      exact q _ (rep_bl.mpr rfl)
    | raw u => cases hz
    | _ =>
      have hz' : some (D.bl false) = some z := hz
      cases hz'
      rw [decide_eq_false (rep_notnon rx (by intro e; cases e) (by intro u e; cases e))]
      exact q _ (rep_bl.mpr rfl)
  | _ => cases x <;> cases hz
def dNotN (x y : D) : Option D := match dIsN x y with
  | some (.bl b) => some (.bl (!b))
  | _ => none
def rNotN' : R2 := fun x y H Q => y = .non ∧ Q (.bl (!decide (x = .non))) H
theorem lk_notN : Lk2F K g rNotN' dNotN := by
  intro I H x y z v w Q le rx ry hz q
  unfold dNotN at hz
  split at hz
  · rename_i b hb
    cases hz
    obtain ⟨e1, e2⟩ := lk_isN (K := K) (g := g) I H x y _ v w (fun u _ => u = .bl b) le rx ry hb fun u r => rep_bl.mp r
    refine ⟨e1, ?_⟩
    have e3 : decide (v = V.non) = b := V.bl.inj e2
    rw [e3]
    exact q _ (rep_bl.mpr rfl)
  · cases hz
end
section
variable {X : Cx} {g : Gx} {W : WX} {pos : Pos} {a b c e : Expr} {es rest : List Expr} {ma mb mc : M D} {mt mu : M Bool} {mas : M (List D)}
theorem d_add (ha : DE X g W a ma) (hb : DE X g W b mb) : DE X g W (.BinOp a .Add b pos) (o2 dAdd ma mb) := d_op op_addA lk_add ha hb
theorem d_sub (ha : DE X g W a ma) (hb : DE X g W b mb) : DE X g W (.BinOp a .Sub b pos) (o2 dSub ma mb) := d_op op_sub lk_sub.lk ha hb
theorem d_mul (ha : DE X g W a ma) (hb : DE X g W b mb) : DE X g W (.BinOp a .Mult b pos) (o2 dMul ma mb) := d_op op_mulA lk_mul ha hb
theorem d_div (ha : DE X g W a ma) (hb : DE X g W b mb) : DE X g W (.BinOp a .FloorDiv b pos) (o2 dDiv ma mb) := d_op op_fdivW lk_div.lk ha hb
theorem d_mod (ha : DE X g W a ma) (hb : DE X g W b mb) : DE X g W (.BinOp a .Mod b pos) (o2 dMod ma mb) := d_op op_mod lk_mod.lk ha hb
theorem d_pow (ha : DE X g W a ma) (hb : DE X g W b mb) : DE X g W (.BinOp a .Pow b pos) (o2 dPow ma mb) := d_op op_pow lk_pow.lk ha hb
theorem d_neg (ha : DE X g W a ma) : DE X g W (.UnaryOp .USub a pos) (o1 dNeg ma) := d_un un_neg lk_neg ha
theorem d_eq {k : Nat} (hr : Room k X.A) (ha : DE X g W a ma) (hb : DE X g W b mb) : DE X g W (.Compare a [.Eq] [b] pos) (o2 dEq ma mb) := d_cmp (op_eqD hr.units) lk_eq.lk ha hb
theorem d_ne {k : Nat} (hr : Room k X.A) (ha : DE X g W a ma) (hb : DE X g W b mb) : DE X g W (.Compare a [.NotEq] [b] pos) (o2 dNe ma mb) := d_cmp (op_neD hr.units) lk_ne.lk ha hb
theorem d_lt (ha : DE X g W a ma) (hb : DE X g W b mb) : DE X g W (.Compare a [.Lt] [b] pos) (o2 dLt ma mb) := d_cmp op_ltA lk_lt.lk ha hb
theorem d_le (ha : DE X g W a ma) (hb : DE X g W b mb) : DE X g W (.Compare a [.LtE] [b] pos) (o2 dLe ma mb) := d_cmp op_le lk_le.lk ha hb
theorem d_gt (ha : DE X g W a ma) (hb : DE X g W b mb) : DE X g W (.Compare a [.Gt] [b] pos) (o2 dGt ma mb) := d_cmp op_gt lk_gt.lk ha hb
theorem d_ge (ha : DE X g W a ma) (hb : DE X g W b mb) : DE X g W (.Compare a [.GtE] [b] pos) (o2 dGe ma mb) := d_cmp op_ge lk_ge.lk ha hb
theorem d_isN (ha : DE X g W a ma) (hb : DE X g W b mb) : DE X g W (.Compare a [.Is] [b] pos) (o2 dIsN ma mb) := d_cmp op_isN lk_isN.lk ha hb
theorem d_notN (ha : DE X g W a ma) (hb : DE X g W b mb) : DE X g W (.Compare a [.IsNot] [b] pos) (o2 dNotN ma mb) := d_cmp op_notN lk_notN.lk ha hb
theorem t_eq {k : Nat} (hr : Room k X.A) (ha : DE X g W a ma) (hb : DE X g W b mb) : DT X g W (.Compare a [.Eq] [b] pos) (tst (o2 dEq ma mb)) := t_cmp (op_eqD hr.units) lk_eq.lk ha hb
theorem t_ne {k : Nat} (hr : Room k X.A) (ha : DE X g W a ma) (hb : DE X g W b mb) : DT X g W (.Compare a [.NotEq] [b] pos) (tst (o2 dNe ma mb)) := t_cmp (op_neD hr.units) lk_ne.lk ha hb
theorem t_lt (ha : DE X g W a ma) (hb : DE X g W b mb) : DT X g W (.Compare a [.Lt] [b] pos) (tst (o2 dLt ma mb)) := t_cmp op_ltA lk_lt.lk ha hb
theorem t_le (ha : DE X g W a ma) (hb : DE X g W b mb) : DT X g W (.Compare a [.LtE] [b] pos) (tst (o2 dLe ma mb)) := t_cmp op_le lk_le.lk ha hb
theorem t_gt (ha : DE X g W a ma) (hb : DE X g W b mb) : DT X g W (.Compare a [.Gt] [b] pos) (tst (o2 dGt ma mb)) := t_cmp op_gt lk_gt.lk ha hb
theorem t_ge (ha : DE X g W a ma) (hb : DE X g W b mb) : DT X g W (.Compare a [.GtE] [b] pos) (tst (o2 dGe ma mb)) := t_cmp op_ge lk_ge.lk ha hb
theorem t_isN (ha : DE X g W a ma) (hb : DE X g W b mb) : DT X g W (.Compare a [.Is] [b] pos) (tst (o2 dIsN ma mb)) := t_cmp op_isN lk_isN.lk ha hb
theorem t_notN (ha : DE X g W a ma) (hb : DE X g W b mb) : DT X g W (.Compare a [.IsNot] [b] pos) (tst (o2 dNotN ma mb)) := t_cmp op_notN lk_notN.lk ha hb

/-! ### slices -/
def dCut : D → Option Int → Option Int → Option D
  | .lst l, lo, hi => some (.lst (cutD l lo hi))
  | .tup l, lo, hi => some (.tup (cutD l lo hi))
  | .str z, lo, hi => if z.length ≤ 16777216 then some (.str (cutS z lo hi)) else none
  | _, _, _ => none
def rSlAll (K : PySem.W.Frag) : V → Option Int → Option Int → Hp → VK → Prop := fun x lo hi H Q => rSlL K x lo hi H Q ∨ (rSlA K x lo hi H Q ∨ rSlS x lo hi H Q)
theorem sl_all : SlR X (rSlAll X.K) := sl_list.or (sl_tupA.or sl_str)
theorem reps_cut {K : PySem.W.Frag} {I : Hp} {ds : List D} {vs : List V} (r : Reps K g I ds vs) (lo hi : Option Int) : Reps K g I (cutD ds lo hi) (cutV vs lo hi) := by
  unfold cutD cutV
  rw [r.length]
  exact (r.drop _).take _
def mSl (m : M D) (l h : M (Option Int)) : M D := bnd m fun x => bnd l fun lo => bnd h fun hi => lift (dCut x lo hi)
theorem d_sl {lo hi : Option Expr} {p2 : Pos} {ml mh : M (Option Int)} (he : DE X g W e ma) (hl : DO_ X g W lo ml) (hh : DO_ X g W hi mh) : DE X g W (.Subscript e (.Slice lo hi none p2) pos) (mSl ma ml mh) :=
  pe_imp (pe_slice sl_all he hl hh) fun σ H Q ⟨I, env, ok, h⟩ => tr_bnd (Rr' := RD X.K g) ok h fun v x I1 H1 env1 st rx h1 => tr_bnd (Rr' := ROI) st.ok h1 fun o o' I2 H2 env2 st2 e2 h2 => tr_bnd (Rr' := ROI) st2.ok h2 fun o3 o3' I3 H3 env3 st3 e3 h3 => by
    cases e2; cases e3
    obtain ⟨z, hz, q⟩ := out_lift h3
    have rx3 := Rep.mono st3.sub (Rep.mono st2.sub rx)
    have ok3 := st3.ok
    cases x <;> first | (cases hz; done) | skip
    · rename_i s
      obtain rfl := rep_str.mp rx3
      have hz' : (if s.length ≤ 16777216 then some (D.str (cutS s o o3)) else none) = some z := hz
      split at hz'
      · rename_i hl
        cases hz'
        exact .inr (.inr ⟨s, rfl, by rw [line_eq]; exact hl, q _ I3 H3 (StpP.refl ok3) (rep_str.mpr rfl)⟩)
      · cases hz'
    · rename_i l
      obtain ⟨p, vs, rfl, e2, e3⟩ := rep_tup.mp rx3
      cases hz
      refine .inr (.inl ⟨p, vs, rfl, sub_t ok3.sub e2, fun hw => ?_, fun _ p2 hp => ?_⟩)
      · refine q _ I3 H3 (StpP.refl ok3) (rep_tup.mpr ⟨p, vs, rfl, e2, ?_⟩)
        have := reps_cut e3 o o3
        have e4 : cutV vs o o3 = vs := by
          unfold cutV; rw [hw.1, hw.2, List.drop_zero, Nat.sub_zero, List.take_length]
        rw [e4] at this; exact this
      · obtain ⟨s2, r2⟩ := StpP.newTup ok3 hp (reps_cut e3 o o3)
        exact q _ _ _ s2 r2
    · rename_i l
      obtain ⟨p, vs, rfl, e2, e3⟩ := rep_lst.mp rx3
      cases hz
      refine .inl ⟨p, vs, rfl, SqL.of (ok3.sub.get e2 rfl), fun p2 hp => ?_⟩
      obtain ⟨s2, r2⟩ := StpP.newLst ok3 hp (reps_cut e3 o o3)
      exact q _ _ _ s2 r2
end
end DL
set_option Elab.async false
set_option linter.all false
set_option maxRecDepth 100000
set_option maxHeartbeats 4000000
set_option autoImplicit false
namespace DL
open PySem PySem.Spec PyProof.Rows L2 LamX

/-! ### statements -/
inductive Fl where
  | nx | brk | ct | ret (d : D)
def OutS (K : PySem.W.Frag) (g : Gx) (W : WX) (I H : Hp) (σ : L2.St) (env : DL.Env) (r : R Fl) (Dn : Ends) : Prop := match r with
  | .ok .nx env' => ∀ σ' I' H', Stp K g I H σ env I' H' σ' env' → Dn.nx σ' H'
  | .ok .brk env' => ∀ σ' I' H', Stp K g I H σ env I' H' σ' env' → Dn.bk σ' H'
  | .ok .ct env' => ∀ σ' I' H', Stp K g I H σ env I' H' σ' env' → Dn.ct σ' H'
  | .ok (.ret d) env' => ∀ v σ' I' H', Stp K g I H σ env I' H' σ' env' → Rep K g I' d v → Dn.rt v H'
  | .err c env' => ∀ σ' I' H', Stp K g I H σ env I' H' σ' env' → W (.ref (g.ca c)) none σ' H'
  | .bad => False
def trS (K : PySem.W.Frag) (g : Gx) (W : WX) (m : M Fl) : TS := fun Dn σ H => ∃ I env, EnvOk K g I H σ env ∧ OutS K g W I H σ env (m env) Dn
abbrev DS (X : Cx) (g : Gx) (W : WX) (st : Stmt) (m : M Fl) : Prop := PS X st (trS X.K g W m)
abbrev DSs (X : Cx) (g : Gx) (W : WX) (st : List Stmt) (m : M Fl) : Prop := PSs X st (trS X.K g W m)
/-- targets -/
def OutU (K : PySem.W.Frag) (g : Gx) (I H : Hp) (σ : L2.St) (env : DL.Env) (r : R Unit) (Q : L2.St → Hp → Prop) : Prop := match r with
  | .ok _ env' => ∀ σ' I' H', Stp K g I H σ env I' H' σ' env' → Q σ' H'
  | _ => False
def trG (K : PySem.W.Frag) (g : Gx) (f : D → M Unit) : TG := fun v σ H Q => ∃ I env d, EnvOk K g I H σ env ∧ Rep K g I d v ∧ OutU K g I H σ env (f d env) Q
def trGs (K : PySem.W.Frag) (g : Gx) (f : List D → M Unit) : TGs := fun v σ H Q => ∃ I env d, EnvOk K g I H σ env ∧ Reps K g I d v ∧ OutU K g I H σ env (f d env) Q
abbrev DG (X : Cx) (g : Gx) (tg : Expr) (f : D → M Unit) : Prop := PG X tg (trG X.K g f)
abbrev DGs (X : Cx) (g : Gx) (tg : List Expr) (f : List D → M Unit) : Prop := PGs X tg (trGs X.K g f)
section
variable {K : PySem.W.Frag} {g : Gx} {W : WX} {I H I1 H1 : Hp} {σ σ1 : L2.St} {env env1 : DL.Env}
theorem OutS.trans {r : R Fl} {Dn : Ends} (h : OutS K g W I H σ env r Dn) (s : Stp K g I H σ env I1 H1 σ1 env1) : OutS K g W I1 H1 σ1 env1 r Dn := by
  cases r with
  | ok f env' =>
    cases f with
    | nx => exact fun σ' I' H' s' => h σ' I' H' (s.trans s')
    | brk => exact fun σ' I' H' s' => h σ' I' H' (s.trans s')
    | ct => exact fun σ' I' H' s' => h σ' I' H' (s.trans s')
    | ret d => exact fun v σ' I' H' s' => h v σ' I' H' (s.trans s')
  | err c env' => exact fun σ' I' H' s' => h σ' I' H' (s.trans s')
  | bad => exact h
theorem OutU.trans {r : R Unit} {Q : L2.St → Hp → Prop} (h : OutU K g I H σ env r Q) (s : Stp K g I H σ env I1 H1 σ1 env1) : OutU K g I1 H1 σ1 env1 r Q := by
  cases r with
  | ok f env' => exact fun σ' I' H' s' => h σ' I' H' (s.trans s')
  | err c env' => exact h
  | bad => exact h
/-- an expression, then a statement's rest -/
theorem trS_bnd {α β : Type} {Rr : Rl α β} {m : M α} {f : α → M Fl} {Dn : Ends} {Q' : β → Hp → Prop} (ok : EnvOk K g I H σ env) (h : OutS K g W I H σ env (bnd m f env) Dn)
    (k : ∀ b a I1 H1 env1, StpE K g I H σ env I1 H1 σ env1 → Rr H I1 H1 a b → OutS K g W I1 H1 σ env1 (f a env1) Dn → Q' b H1) : tr K g W Rr m σ H Q' := by
  refine ⟨I, env, ok, ?_⟩
  unfold bnd at h
  cases e : m env with
  | bad => rw [e] at h; exact h
  | err c env' => rw [e] at h; exact fun I' H' s => h σ I' H' s.weak
  | ok a env' =>
    rw [e] at h
    exact fun b I' H' s r => k b a I' H' env' s r (h.trans s.weak)
/-- the slots' lists grow together -/
theorem EnvOk.set {ee : Prop} (ok : EnvOk K g I H σ env) {i : Nat} {s z : Slot} {x : V} (e : env[i]? = some z) (hp : z.pin = false) (hs : s.own = false) (hx : SlotOk K g I H s (some x)) : StpP ee K g I H σ env I H (σ.set i (some x)) (env.set i s) := by
  have hil : i < env.length := (List.getElem?_eq_some_iff.mp e).1
  have his : i < σ.length := by rw [← ok.len]; exact hil
  have cases_ : ∀ (j : Nat) (y : Slot), (env.set i s)[j]? = some y → (j = i ∧ y = s) ∨ (j ≠ i ∧ env[j]? = some y) := fun j y h => by
    by_cases hj : j = i
    · subst hj; rw [List.getElem?_set_self hil] at h; exact .inl ⟨rfl, (Option.some.inj h).symm⟩
    · rw [List.getElem?_set_ne (Ne.symm hj)] at h; exact .inr ⟨hj, h⟩
  have ne_ : ∀ {j : Nat}, j ≠ i → (σ.set i (some x))[j]? = σ[j]? := fun {j} hj => List.getElem?_set_ne (Ne.symm hj)
  refine ⟨⟨ok.sub, ok.nt, ok.tabs, by rw [List.length_set, List.length_set]; exact ok.len, fun j y w h1 h2 => ?_, fun j j' y y' a h1 h2 h3 h4 h5 h6 => ?_⟩, Le.refl _, fun a u q _ _ => q, fun a q => q, fun a q => .inl q, fun a q => ?_, fun j y h1 h2 => ?_⟩
  · rcases cases_ j y h1 with ⟨rfl, rfl⟩ | ⟨hj, h1⟩
    · rw [List.getElem?_set_self his] at h2; cases h2; exact hx
    · rw [ne_ hj] at h2; exact ok.slot j y w h1 h2
  · rcases cases_ j y h1 with ⟨rfl, rfl⟩ | ⟨hj, h1⟩
    · rw [hs] at h3; cases h3
    · rcases cases_ j' y' h2 with ⟨rfl, rfl⟩ | ⟨hj', h2⟩
      · rw [hs] at h4; cases h4
      · rw [ne_ hj] at h5; rw [ne_ hj'] at h6
        exact ok.sep j j' y y' a h1 h2 h3 h4 h5 h6
  · obtain ⟨j, y, h1, h2, h3⟩ := q
    rcases cases_ j y h1 with ⟨rfl, rfl⟩ | ⟨hj, h1⟩
    · rw [hs] at h2; cases h2
    · rw [ne_ hj] at h3; exact .inl ⟨j, y, h1, h2, h3⟩
  · have hj : j ≠ i := fun z1 => by subst z1; rw [e] at h1; cases h1; rw [hp] at h2; cases h2
    exact ⟨ne_ hj, y, by rw [List.getElem?_set_ne (Ne.symm hj)]; exact h1, h2⟩
/-- a slot gets an object of the frame's own, new -/
theorem EnvOk.setOwn (ok : EnvOk K g I H σ env) {i : Nat} {s z : Slot} {p : Addr} (e : env[i]? = some z) (hp : z.pin = false) (hs : s.own = true) (hx : SlotOk K g I H s (some (.ref p))) (hn : ¬ Own σ env p) {H0 : Hp} (hf : Fr H0 p) :
    EnvOk K g I H (σ.set i (some (.ref p))) (env.set i s) ∧ (∀ a, Own (σ.set i (some (.ref p))) (env.set i s) a → Own σ env a ∨ (¬ False ∧ Fr H0 a)) ∧ ∀ (j : Nat) (y : Slot), env[j]? = some y → y.pin = true → (σ.set i (some (V.ref p)))[j]? = σ[j]? ∧ ∃ s', (env.set i s)[j]? = some s' ∧ s'.pin = true := by
  have hil : i < env.length := (List.getElem?_eq_some_iff.mp e).1
  have his : i < σ.length := by rw [← ok.len]; exact hil
  have cases_ : ∀ (j : Nat) (y : Slot), (env.set i s)[j]? = some y → (j = i ∧ y = s) ∨ (j ≠ i ∧ env[j]? = some y) := fun j y h => by
    by_cases hj : j = i
    · subst hj; rw [List.getElem?_set_self hil] at h; exact .inl ⟨rfl, (Option.some.inj h).symm⟩
    · rw [List.getElem?_set_ne (Ne.symm hj)] at h; exact .inr ⟨hj, h⟩
  have ne_ : ∀ {j : Nat}, j ≠ i → (σ.set i (some (V.ref p)))[j]? = σ[j]? := fun {j} hj => List.getElem?_set_ne (Ne.symm hj)
  have self_ : (σ.set i (some (V.ref p)))[i]? = some (some (V.ref p)) := List.getElem?_set_self his
  refine ⟨⟨ok.sub, ok.nt, ok.tabs, by rw [List.length_set, List.length_set]; exact ok.len, fun j y w h1 h2 => ?_, fun j j' y y' a h1 h2 h3 h4 h5 h6 => ?_⟩, fun a q => ?_, fun j y h1 h2 => ?_⟩
  · rcases cases_ j y h1 with ⟨rfl, rfl⟩ | ⟨hj, h1⟩
    · rw [self_] at h2; cases h2; exact hx
    · rw [ne_ hj] at h2; exact ok.slot j y w h1 h2
  · rcases cases_ j y h1 with ⟨rfl, rfl⟩ | ⟨hj, h1⟩
    · rcases cases_ j' y' h2 with ⟨rfl, rfl⟩ | ⟨hj', h2⟩
      · rfl
      · rw [self_] at h5; cases h5
        rw [ne_ hj'] at h6
        exact absurd ⟨j', y', h2, h4, h6⟩ hn
    · rcases cases_ j' y' h2 with ⟨e1, e2⟩ | ⟨hj', h2⟩
      · rw [e1, self_] at h6; cases h6
        rw [ne_ hj] at h5
        exact absurd ⟨j, y, h1, h3, h5⟩ hn
      · rw [ne_ hj] at h5; rw [ne_ hj'] at h6
        exact ok.sep j j' y y' a h1 h2 h3 h4 h5 h6
  · obtain ⟨j, y, h1, h2, h3⟩ := q
    rcases cases_ j y h1 with ⟨rfl, rfl⟩ | ⟨hj, h1⟩
    · rw [self_] at h3; cases h3; exact .inr ⟨id, hf⟩
    · rw [ne_ hj] at h3; exact .inl ⟨j, y, h1, h2, h3⟩
  · have hj : j ≠ i := fun z1 => by subst z1; rw [e] at h1; cases h1; rw [hp] at h2; cases h2
    exact ⟨ne_ hj, y, by rw [List.getElem?_set_ne (Ne.symm hj)]; exact h1, h2⟩
end
/-- name := data -/
def setU (i : Nat) (d : D) : M Unit := fun env => match env[i]? with
  | some s => if s.pin = true then .bad else .ok () (env.set i (.im d))
  | none => .bad
theorem setU_or (i : Nat) (d : D) (env : DL.Env) : setU i d env = .bad ∨ ∃ z, env[i]? = some z ∧ z.pin = false ∧ setU i d env = .ok () (env.set i (.im d)) := by
  unfold setU
  cases e : env[i]? with
  | none => exact .inl rfl
  | some z =>
    cases hp : z.pin with
    | true => exact .inl (by show (if z.pin = true then (R.bad : R Unit) else _) = _; rw [if_pos hp])
    | false => exact .inr ⟨z, rfl, hp, by show (if z.pin = true then (R.bad : R Unit) else _) = _; rw [if_neg (by rw [hp]; exact Bool.false_ne_true)]⟩
def seqM (a b : M Fl) : M Fl := bnd a fun f => match f with
  | .nx => b
  | f => ret f
def nxM : M Fl := ret .nx
section
variable {X : Cx} {g : Gx} {W : WX} {pos : Pos} {a b c e : Expr} {es : List Expr} {st : Stmt} {sts : List Stmt} {ma mb mc : M D} {mt mu : M Bool} {mas : M (List D)} {m1 m2 : M Fl} {f f' : D → M Unit} {fs : List D → M Unit}
theorem ss_nil : DSs X g W [] nxM := pss_imp pss_nil fun Dn σ H ⟨I, env, ok, h⟩ => h σ I H (StpP.refl ok)
theorem trS_seq {K : PySem.W.Frag} {Dn : Ends} {σ : L2.St} {H : Hp} (h : trS K g W (seqM m1 m2) Dn σ H) : trS K g W m1 { Dn with nx := trS K g W m2 Dn } σ H := by
  obtain ⟨I, env, ok, h⟩ := h
  refine ⟨I, env, ok, ?_⟩
  unfold seqM bnd at h
  cases e : m1 env with
  | bad => rw [e] at h; exact h
  | err c env' => rw [e] at h; exact h
  | ok f env' =>
    rw [e] at h
    cases f with
    | nx => exact fun σ' I' H' s => ⟨I', env', s.ok, OutS.trans h s⟩
    | brk => exact h
    | ct => exact h
    | ret d => exact h
theorem ss_cons (h1 : DS X g W st m1) (h2 : DSs X g W sts m2) : DSs X g W (st :: sts) (seqM m1 m2) := pss_imp (pss_cons h1 h2) fun Dn σ H h => trS_seq h
theorem ss_one (h1 : DS X g W st m1) : DSs X g W [st] m1 := pss_one h1
theorem s_pass : DS X g W (.Pass pos) nxM := ps_imp ps_pass fun Dn σ H ⟨I, env, ok, h⟩ => h σ I H (StpP.refl ok)
theorem s_break : DS X g W (.Break pos) (ret .brk) := ps_imp ps_break fun Dn σ H ⟨I, env, ok, h⟩ => h σ I H (StpP.refl ok)
theorem s_cont : DS X g W (.Continue pos) (ret .ct) := ps_imp ps_continue fun Dn σ H ⟨I, env, ok, h⟩ => h σ I H (StpP.refl ok)
theorem s_doc {x : Str} {j : Nat} {p1 p2 : Pos} : DS X g W (.Expr (.Constant (.str x) j p1) p2) nxM := ps_imp ps_doc fun Dn σ H ⟨I, env, ok, h⟩ => h σ I H (StpP.refl ok)
def dropM (m : M D) : M Fl := bnd m fun _ => ret .nx
theorem s_expr (he : DE X g W e ma) (hs : swapsWith e none pos.line X.env = pure false := by rfl) : DS X g W (.Expr e pos) (dropM ma) :=
  ps_imp (ps_expr he hs) fun Dn σ H ⟨I, env, ok, h⟩ => trS_bnd (Rr := RD X.K g) ok h fun v d I1 H1 env1 st r h1 => h1 σ I1 H1 (StpP.refl st.ok)
def retM (m : M D) : M Fl := bnd m fun d => ret (.ret d)
theorem s_ret (he : DE X g W e ma) : DS X g W (.Return (some e) pos) (retM ma) :=
  ps_imp (ps_ret he) fun Dn σ H ⟨I, env, ok, h⟩ => trS_bnd (Rr := RD X.K g) ok h fun v d I1 H1 env1 st r h1 => h1 v σ I1 H1 (StpP.refl st.ok) r
theorem s_retN : DS X g W (.Return none pos) (ret (.ret .non)) := ps_imp ps_retN fun Dn σ H ⟨I, env, ok, h⟩ => h .non σ I H (StpP.refl ok) (rep_non.mpr rfl)
theorem s_if (hc : DT X g W c mt) (ha : DSs X g W sts m1) {sts2 : List Stmt} (hb : DSs X g W sts2 m2) : DS X g W (.If c sts sts2 pos) (mIf mt m1 m2) :=
  ps_imp (ps_if hc ha hb) fun Dn σ H ⟨I, env, ok, h⟩ => trS_bnd (Rr := RB) ok h fun v d I1 H1 env1 st r h1 => by
    cases r
    cases v with
    | true => rw [if_pos rfl]; exact ⟨I1, env1, st.ok, h1⟩
    | false => rw [if_neg Bool.false_ne_true]; exact ⟨I1, env1, st.ok, h1⟩

/-! ### targets -/
theorem g_name {i : Nat} {x : Str} (hN : X.N.Nodup) (hi : X.N[i]? = some x) (hx : Loc X.env.scope x := by first | exact Or.inl rfl | exact Or.inr rfl) (hf : X.fn x = true ∨ X.env.scope.names.lookup x = some .local := by first | exact .inl rfl | exact .inr rfl | assumption) : DG X g (.Name x pos) (setU i) :=
  ⟨fun pins s σ H v u Q Iv r h => (pg_name hN hi hx hf).run pins s σ H v u Q Iv r (by
    obtain ⟨I, env, d, ok, rd, h⟩ := h
    unfold setU at h
    split at h
    · rename_i z e
      split at h
      · exact h.elim
      · rename_i hp
        exact h _ I H (ok.set e (by simpa using hp) rfl ⟨v, rfl, rd⟩)
    · exact h.elim)⟩
def bndU (a : M Unit) (b : M Unit) : M Unit := bnd a fun _ => b
def gconsU (f : D → M Unit) (fs : List D → M Unit) : List D → M Unit
  | d :: ds => bnd (f d) fun _ => fs ds
  | [] => DL.bad
def gnilU : List D → M Unit
  | [] => ret ()
  | _ => DL.bad
theorem gs_nil : DGs X g [] gnilU := ⟨fun pins s σ H vs us Q Iv r h => pgs_nil.run pins s σ H vs us Q Iv r (by
    obtain ⟨I, env, d, ok, rd, h⟩ := h
    cases d with
    | nil => exact ⟨reps_nil.mp rd, h σ I H (StpP.refl ok)⟩
    | cons d ds => exact h.elim)⟩
theorem gs_cons (h1 : DG X g e f) (h2 : DGs X g es fs) (hs : (assignEach (e :: es) X.env).map (·.2) = assign e X.env :: (assignEach es X.env).map (·.2) := by rfl) : DGs X g (e :: es) (gconsU f fs) :=
  ⟨fun pins s σ H vs us Q Iv r h => (pgs_cons h1 h2 hs).run pins s σ H vs us Q Iv r (by
    obtain ⟨I, env, d, ok, rd, h⟩ := h
    cases d with
    | nil => exact h.elim
    | cons d ds =>
      obtain ⟨u, us, rfl, r1, r2⟩ := reps_cons.mp rd
      refine ⟨u, us, rfl, I, env, d, ok, r1, ?_⟩
      have h : OutU X.K g I H σ env (bnd (f d) (fun _ => fs ds) env) Q := h
      unfold bnd at h
      cases e : f d env with
      | bad => rw [e] at h; exact h
      | err c env' => rw [e] at h; exact h
      | ok a env' =>
        rw [e] at h
        exact fun σ' I' H' s' => ⟨I', env', ds, s'.ok, r2.mono s'.sub, OutU.trans h s'⟩)⟩
def gtupU (n : Nat) (fs : List D → M Unit) : D → M Unit
  | .tup l => if l.length = n then fs l else DL.bad
  | _ => DL.bad
theorem g_tup {k n : Nat} (hc : X.calm = true) (h : DGs X g es fs) (hn : (assignEach es X.env).length = n := by rfl) (hst : (assignEach es X.env).findIdx? (·.1) = none := by rfl) : DG X g (.Tuple es k pos) (gtupU n fs) :=
  ⟨fun pins s σ H v u Q Iv r h' => (pg_tup hc h hn hst).run pins s σ H v u Q Iv r (by
    obtain ⟨I, env, d, ok, rd, h⟩ := h'
    cases d with
    | tup l =>
      obtain ⟨p, vs, rfl, e2, e3⟩ := rep_tup.mp rd
      have h2 : OutU X.K g I H σ env ((if l.length = n then fs l else DL.bad) env) Q := h
      split at h2
      · rename_i hl
        exact ⟨p, vs, rfl, sub_t ok.sub e2, by rw [← e3.length]; exact hl, I, env, l, ok, e3, h2⟩
      · exact h2.elim
    | _ => exact h.elim)⟩
def asgM (m : M D) (f : D → M Unit) : M Fl := bnd m fun d => bnd (f d) fun _ => ret .nx
theorem outU_of {K : PySem.W.Frag} {I H : Hp} {σ : L2.St} {env : DL.Env} {u : M Unit} {Dn : Ends} (h : OutS K g W I H σ env (bnd u (fun _ => ret .nx) env) Dn) (ne : ∀ c env', u env ≠ .err c env') : OutU K g I H σ env (u env) Dn.nx := by
  unfold bnd at h
  cases e : u env with
  | bad => rw [e] at h; exact h
  | err c env' => exact (ne c env' e).elim
  | ok a env' => rw [e] at h; exact h
/-- targets raise nothing -/
def Calm (f : D → M Unit) : Prop := ∀ d env c env', f d env ≠ .err c env'
theorem calm_set {i : Nat} : Calm (setU i) := fun d env c env' h => by
  unfold setU at h
  split at h
  · split at h <;> cases h
  · cases h
def Calms (f : List D → M Unit) : Prop := ∀ d env c env', f d env ≠ .err c env'
theorem calms_nil : Calms gnilU := fun d env c env' h => by cases d <;> cases h
theorem calms_cons (h1 : Calm f) (h2 : Calms fs) : Calms (gconsU f fs) := fun d env c env' h => by
  cases d with
  | nil => cases h
  | cons d ds =>
    have h : bnd (f d) (fun _ => fs ds) env = .err c env' := h
    unfold bnd at h
    cases e : f d env with
    | bad => rw [e] at h; cases h
    | err c2 env2 => exact h1 _ _ _ _ e
    | ok a env2 => rw [e] at h; exact h2 _ _ _ _ h
theorem calm_tup {n : Nat} (h : Calms fs) : Calm (gtupU n fs) := fun d env c env' q => by
  unfold gtupU at q
  split at q
  · split at q
    · exact h _ _ _ _ q
    · cases q
  · cases q
theorem s_asg {tg : Expr} (he : DE X g W e ma) (hg : DG X g tg f) (hc : Calm f) (hs : swapsWithSole [tg] e pos.line X.env = pure false := by rfl) (hw : swappedStores [tg] e X.env = pure none := by rfl)
    (h1 : (assignEach [tg] X.env).map (·.2) = [assign tg X.env] := by rfl) : DS X g W (.Assign [tg] e pos) (asgM ma f) :=
  ps_imp (ps_asg he hg hs hw h1) fun Dn σ H ⟨I, env, ok, h⟩ => trS_bnd (Rr := RD X.K g) ok h fun v d I1 H1 env1 st r h1 => ⟨I1, env1, d, st.ok, r, outU_of h1 fun c env' => hc _ _ _ _⟩
/-- name = e -/
theorem s_set {i : Nat} {x : Str} {pos' : Pos} (hN : X.N.Nodup) (hi : X.N[i]? = some x) (he : DE X g W e ma) (hx : Loc X.env.scope x := by first | exact Or.inl rfl | exact Or.inr rfl) (hs : swapsWith e (some (.Name x pos')) pos.line X.env = pure false := by rfl) (hf : X.fn x = true ∨ X.env.scope.names.lookup x = some .local := by first | exact .inl rfl | exact .inr rfl | assumption) :
    DS X g W (.Assign [.Name x pos'] e pos) (asgM ma (setU i)) :=
  ps_imp (ps_set hN hi hx he hs hf) fun Dn σ H ⟨I, env, ok, h⟩ => trS_bnd (Rr := RD X.K g) ok h fun v d I1 H1 env1 st r h1 => by
    have h2 := outU_of h1 fun c env' => calm_set _ _ _ _
    unfold setU at h2
    split at h2
    · rename_i z e
      split at h2
      · exact h2.elim
      · rename_i hp
        exact h2 _ I1 H1 (st.ok.set e (by simpa using hp) rfl ⟨v, rfl, r⟩)
    · exact h2.elim
/-- a, b = x, y with plain local names -/
def par2 (i j : Nat) (m : M (List D)) : M Fl := bnd m fun ds => match ds with
  | [x, y] => bnd (setU i x) fun _ => bnd (setU j y) fun _ => ret .nx
  | _ => DL.bad
theorem stp_set {K : PySem.W.Frag} {I H : Hp} {σ : L2.St} {env : DL.Env} {i : Nat} {d : D} {v : V} {k : M Fl} {Dn : Ends} (ok : EnvOk K g I H σ env) (r : Rep K g I d v) (h : OutS K g W I H σ env (bnd (setU i d) (fun _ => k) env) Dn) :
    ∃ env', EnvOk K g I H (σ.set i (some v)) env' ∧ OutS K g W I H (σ.set i (some v)) env' (k env') Dn := by
  unfold bnd at h
  rcases setU_or i d env with e | ⟨z, e, hp, e2⟩
  · rw [e] at h; exact h.elim
  · rw [e2] at h
    have s := ok.set (ee := False) e hp (s := .im d) (x := v) rfl ⟨v, rfl, r⟩
    exact ⟨_, s.ok, OutS.trans h s⟩
theorem s_par {i j : Nat} {x y : Str} {px py pt : Pos} {kt k2 : Nat} {pt2 : Pos} (hc : X.calm = true) (hN : X.N.Nodup) (hi : X.N[i]? = some x) (hj : X.N[j]? = some y) (hij : i ≠ j) (hx : X.env.scope.names.lookup x = some .local) (hy : X.env.scope.names.lookup y = some .local) (ha : DA X g W [a, b] mas)
    (hw : swappedStores [.Tuple [.Name x px, .Name y py] kt pt] (.Tuple [a, b] k2 pt2) X.env = pure (some [x, y]))
    (hs : swapsWithSole [.Tuple [.Name x px, .Name y py] kt pt] (.Tuple [a, b] k2 pt2) pos.line X.env = pure false := by rfl) : DS X g W (.Assign [.Tuple [.Name x px, .Name y py] kt pt] (.Tuple [a, b] k2 pt2) pos) (par2 i j mas) :=
  ps_imp (ps_par hc hN hi hj hij hx hy ha hw hs) fun Dn σ H ⟨I, env, ok, h⟩ => trS_bnd (Rr := RL X.K g) ok h fun vs ds I1 H1 env1 st r h1 => by
    match ds, r, h1 with
    | [x, y], r, h1 =>
      obtain ⟨u, us, rfl, r1, r'⟩ := reps_cons.mp r
      obtain ⟨u2, us2, rfl, r2, r''⟩ := reps_cons.mp r'
      obtain rfl := reps_nil.mp r''
      obtain ⟨env2, ok2, h2⟩ := stp_set st.ok r1 h1
      obtain ⟨env3, ok3, h3⟩ := stp_set ok2 r2 h2
      exact ⟨u, u2, rfl, h3 _ I1 H1 (StpP.refl ok3)⟩
    | [], _, h1 => exact h1.elim
    | [_], _, h1 => exact h1.elim
    | _ :: _ :: _ :: _, _, h1 => exact h1.elim
def par3 (i j l : Nat) (m : M (List D)) : M Fl := bnd m fun ds => match ds with
  | [x, y, z] => bnd (setU i x) fun _ => bnd (setU j y) fun _ => bnd (setU l z) fun _ => ret .nx
  | _ => DL.bad
theorem s_par3 {i j l : Nat} {x y z : Str} {px py pz pt : Pos} {kt k2 : Nat} {pt2 : Pos} (hc : X.calm = true) (hN : X.N.Nodup) (hi : X.N[i]? = some x) (hj : X.N[j]? = some y) (hl : X.N[l]? = some z) (hij : i ≠ j) (hil : i ≠ l) (hjl : j ≠ l)
    (hx : X.env.scope.names.lookup x = some .local) (hy : X.env.scope.names.lookup y = some .local) (hz : X.env.scope.names.lookup z = some .local) (ha : DA X g W [a, b, c] mas)
    (hw : swappedStores [.Tuple [.Name x px, .Name y py, .Name z pz] kt pt] (.Tuple [a, b, c] k2 pt2) X.env = pure (some [x, y, z]))
    (hs : swapsWithSole [.Tuple [.Name x px, .Name y py, .Name z pz] kt pt] (.Tuple [a, b, c] k2 pt2) pos.line X.env = pure false := by rfl) :
    DS X g W (.Assign [.Tuple [.Name x px, .Name y py, .Name z pz] kt pt] (.Tuple [a, b, c] k2 pt2) pos) (par3 i j l mas) :=
  ps_imp (ps_par3 hc hN hi hj hl hij hil hjl hx hy hz ha hw hs) fun Dn σ H ⟨I, env, ok, h⟩ => trS_bnd (Rr := RL X.K g) ok h fun vs ds I1 H1 env1 st r h1 => by
    match ds, r, h1 with
    | [x, y, z], r, h1 =>
      obtain ⟨u, us, rfl, r1, r'⟩ := reps_cons.mp r
      obtain ⟨u2, us2, rfl, r2, r''⟩ := reps_cons.mp r'
      obtain ⟨u3, us3, rfl, r3, r'''⟩ := reps_cons.mp r''
      obtain rfl := reps_nil.mp r'''
      obtain ⟨env2, ok2, h2⟩ := stp_set st.ok r1 h1
      obtain ⟨env3, ok3, h3⟩ := stp_set ok2 r2 h2
      obtain ⟨env4, ok4, h4⟩ := stp_set ok3 r3 h3
      exact ⟨u, u2, u3, rfl, h4 _ I1 H1 (StpP.refl ok4)⟩
    | [], _, h1 => exact h1.elim
    | [_], _, h1 => exact h1.elim
    | [_, _], _, h1 => exact h1.elim
    | _ :: _ :: _ :: _ :: _, _, h1 => exact h1.elim
/-- name op= e -/
def augM (i : Nat) (f : D → D → Option D) (m : M D) : M Fl := bnd (gv i) fun x => bnd m fun y => bnd (lift (f x y)) fun z => bnd (setU i z) fun _ => ret .nx
def LkI (K : PySem.W.Frag) (g : Gx) (r : TIp) (f : D → D → Option D) : Prop := Lk2F K g r f
theorem s_aug {i : Nat} {x : Str} {op : Operator} {ti : TIp} {f : D → D → Option D} {pos' : Pos} (hN : X.N.Nodup) (hi : X.N[i]? = some x) (ho : PIp X op ti) (hl : Lk2F X.K g ti f) (he : DE X g W e ma) (hx : Loc X.env.scope x := by first | exact Or.inl rfl | exact Or.inr rfl) (hf : X.fn x = true ∨ X.env.scope.names.lookup x = some .local := by first | exact .inl rfl | exact .inr rfl | assumption) :
    DS X g W (.AugAssign (.Name x pos') op e pos) (augM i f ma) :=
  ps_imp (ps_aug hN hi hx he ho hf) fun Dn σ H ⟨I, env, ok, h⟩ => by
    obtain ⟨v, hv, hq⟩ := out_gv (W := W) (Q := fun v H1 => ∃ d I1 env1, StpE X.K g I H σ env I1 H1 σ env1 ∧ Rep X.K g I1 d v ∧ OutS X.K g W I1 H1 σ env1 (bnd ma (fun y => bnd (lift (f d y)) fun z => bnd (setU i z) fun _ => ret .nx) env1) Dn) ok (by
      unfold augM bnd at h
      cases e1 : gv i env with
      | bad => rw [e1] at h; exact h
      | err c env' => unfold gv at e1; split at e1 <;> cases e1
      | ok d env' =>
        rw [e1] at h
        exact fun b I' H' s r => ⟨d, I', env', s, r, OutS.trans h s.weak⟩)
    obtain ⟨d, I1, env1, s1, r1, h1⟩ := hq
    refine ⟨v, hv, trS_bnd (Rr := RD X.K g) s1.ok h1 fun w y I2 H2 env2 st r h2 => ?_⟩
    have hz : ∃ z, f d y = some z ∧ OutS X.K g W I2 H2 σ env2 (bnd (setU i z) (fun _ => ret .nx) env2) Dn := by
      cases e : f d y with
      | none => rw [e] at h2; exact h2.elim
      | some z => rw [e] at h2; exact ⟨z, rfl, h2⟩
    obtain ⟨z, hz, h3⟩ := hz
    refine hl I2 H2 d y z v w _ st.ok.sub (Rep.mono st.sub r1) r hz fun u ru => ?_
    obtain ⟨env3, ok3, h4⟩ := stp_set st.ok ru h3
    exact h4 _ I2 H2 (StpP.refl ok3)
end
end DL
set_option Elab.async false
set_option linter.all false
set_option maxRecDepth 100000
set_option maxHeartbeats 4000000
set_option autoImplicit false
namespace DL
open PySem PySem.Spec PyProof.Rows L2 LamX

/-! ### while -/
def whileM (c : M Bool) (b : M Fl) : Nat → M Fl
  | 0 => DL.bad
  | n + 1 => bnd c fun k => if k = true then bnd b fun f => match f with
      | .nx => whileM c b n
      | .ct => whileM c b n
      | .brk => ret .nx
      | .ret d => ret (.ret d)
    else ret .nx
/-! ### what is walked -/
/-- the iterator J gives the data ds, one after another, from any state in which I stands -/
def Walk (K : PySem.W.Frag) (g : Gx) (I0 : Hp) (J : It) (ds : List D) : Prop := ∀ (i : Nat) (I H : Hp) (σ : L2.St) (env : DL.Env), Le I0 I → EnvOk K g I H σ env →
  (∀ d, ds[i]? = some d → J.go i H ∧ ∀ x H1, J.yld i H x H1 → ∃ I1, StpE K g I H σ env I1 H1 σ env ∧ Rep K g I1 d x) ∧ (ds.length ≤ i → J.stop i H)
def OutI (K : PySem.W.Frag) (g : Gx) (W : WX) (I H : Hp) (σ : L2.St) (env : DL.Env) (r : R (List D)) (Q : It → Hp → Prop) : Prop := match r with
  | .ok ds env' => ∀ J I' H', StpE K g I H σ env I' H' σ env' → Walk K g I' J ds → Q J H'
  | .err c env' => ∀ I' H', StpE K g I H σ env I' H' σ env' → W (.ref (g.ca c)) none σ H'
  | .bad => False
def trI (K : PySem.W.Frag) (g : Gx) (W : WX) (m : M (List D)) : TI := fun σ H Q => ∃ I env, EnvOk K g I H σ env ∧ OutI K g W I H σ env (m env) Q
abbrev DI (X : Cx) (g : Gx) (W : WX) (tg e : Expr) (m : M (List D)) : Prop := PI X tg e (trI X.K g W m)
theorem pi_imp {X : Cx} {tg e : Expr} {t t' : TI} (h : PI X tg e t) (i : ∀ σ H Q, t' σ H Q → t σ H Q) : PI X tg e t' := ⟨fun pins s σ H Q I q => h.run pins s σ H Q I (i σ H Q q)⟩
def forM (f : D → M Unit) (b : M Fl) : List D → M Fl
  | [] => ret .nx
  | x :: xs => bnd (f x) fun _ => bnd b fun r => match r with
      | .nx => forM f b xs
      | .ct => forM f b xs
      | .brk => ret .nx
      | .ret d => ret (.ret d)
section
variable {K : PySem.W.Frag} {g : Gx} {W : WX} {I H : Hp} {σ : L2.St} {env : DL.Env} {Dn : Ends}
theorem trI_bnd {α β α' : Type} {Rr : Rl α β} {m : M α} {f : α → M (List D)} {Q : It → Hp → Prop} {Q' : β → Hp → Prop} (ok : EnvOk K g I H σ env) (h : OutI K g W I H σ env (bnd m f env) Q)
    (k : ∀ b a I1 H1 env1, StpE K g I H σ env I1 H1 σ env1 → Rr H I1 H1 a b → OutI K g W I1 H1 σ env1 (f a env1) Q → Q' b H1) : tr K g W Rr m σ H Q' := by
  refine ⟨I, env, ok, ?_⟩
  unfold bnd at h
  cases e : m env with
  | bad => rw [e] at h; exact h
  | err c env' => rw [e] at h; exact h
  | ok a env' =>
    rw [e] at h
    refine fun b I' H' s r => k b a I' H' env' s r ?_
    dsimp only at h ⊢
    cases e2 : f a env' with
    | bad => rw [e2] at h; exact h
    | err c env2 => rw [e2] at h; exact fun I2 H2 s2 => h I2 H2 (s.trans s2)
    | ok ds env2 => rw [e2] at h; exact fun J I2 H2 s2 => h J I2 H2 (s.trans s2)
theorem tr_while {c : M Bool} {b : M Fl} {n : Nat} (h : trS K g W (whileM c b n) Dn σ H) : tWhile (tr K g W RB c) (trS K g W b) Dn σ H := by
  refine ⟨fun n σ H => trS K g W (whileM c b n) Dn σ H, ⟨n, h⟩, ?_⟩
  rintro n σ H ⟨I, env, ok, h⟩
  cases n with
  | zero => exact h.elim
  | succ n =>
    refine trS_bnd (Rr := RB) ok h fun v k I1 H1 env1 st r h1 => ?_
    cases r
    cases v with
    | false => rw [if_neg Bool.false_ne_true] at h1 ⊢; exact h1 σ I1 H1 (StpP.refl st.ok)
    | true =>
      rw [if_pos rfl] at h1 ⊢
      refine ⟨fun σ' H' => trS K g W (whileM c b n) Dn σ' H', fun σ' H' q => ⟨n, Nat.lt_succ_self n, q⟩, I1, env1, st.ok, ?_⟩
      unfold bnd at h1
      cases e : b env1 with
      | bad => rw [e] at h1; exact h1
      | err c env' => rw [e] at h1; exact h1
      | ok f env' =>
        rw [e] at h1
        cases f with
        | nx => exact fun σ' I' H' s => ⟨I', env', s.ok, OutS.trans h1 s⟩
        | ct => exact fun σ' I' H' s => ⟨I', env', s.ok, OutS.trans h1 s⟩
        | brk => exact h1
        | ret d => exact h1
theorem tr_for {f : D → M Unit} (hc : Calm f) {b : M Fl} {m : M (List D)} (h : trS K g W (bnd m (forM f b)) Dn σ H) : tFor (trI K g W m) (trG K g f) (trS K g W b) Dn σ H := by
  obtain ⟨I, env, ok, h⟩ := h
  refine ⟨I, env, ok, ?_⟩
  unfold bnd at h
  cases e : m env with
  | bad => rw [e] at h; exact h
  | err c env' => rw [e] at h; exact fun I' H' s => h σ I' H' s.weak
  | ok ds env' =>
    rw [e] at h
    dsimp only at h
    intro J I0 H0 s0 walk
    have h0 := OutS.trans h s0.weak
    refine ⟨fun i m σ H => m = ds.length - i ∧ i ≤ ds.length ∧ ∃ I env, Le I0 I ∧ EnvOk K g I H σ env ∧ OutS K g W I H σ env (forM f b (ds.drop i) env) Dn, ⟨ds.length, by simp, Nat.zero_le _, I0, env', Le.refl _, s0.ok, h0⟩, ?_⟩
    rintro i m σ1 H1 ⟨rfl, hi, I1, env1, le1, ok1, h1⟩
    by_cases hlt : i < ds.length
    · have hd : ds.drop i = ds[i] :: ds.drop (i + 1) := List.drop_eq_getElem_cons hlt
      rw [hd] at h1
      obtain ⟨go, yl⟩ := (walk i I1 H1 σ1 env1 le1 ok1).1 ds[i] (List.getElem?_eq_getElem hlt)
      refine .inr ⟨go, fun σ' H' => ∃ I env, Le I0 I ∧ EnvOk K g I H' σ' env ∧ OutS K g W I H' σ' env (forM f b (ds.drop (i + 1)) env) Dn, fun σ' H' q => ⟨ds.length - (i + 1), by omega, rfl, hlt, q⟩, fun x H2 y => ?_⟩
      obtain ⟨I2, s2, r2⟩ := yl x H2 y
      refine ⟨I2, env1, ds[i], s2.ok, r2, ?_⟩
      have h2 := OutS.trans h1 s2.weak
      unfold forM bnd at h2
      cases e1 : f ds[i] env1 with
      | bad => rw [e1] at h2; exact h2
      | err c env' => exact (hc _ _ _ _ e1).elim
      | ok u env2 =>
        rw [e1] at h2
        dsimp only at h2
        intro σ3 I3 H3 s3
        have h3 := OutS.trans h2 s3
        refine ⟨I3, env2, s3.ok, ?_⟩
        have le3 : Le I0 I3 := (le1.trans s2.sub).trans s3.sub
        cases e4 : b env2 with
        | bad => rw [e4] at h3; exact h3
        | err c env' => rw [e4] at h3; exact h3
        | ok r env4 =>
          rw [e4] at h3
          cases r with
          | nx => exact fun σ' I' H' s => ⟨I', env4, le3.trans s.sub, s.ok, OutS.trans h3 s⟩
          | ct => exact fun σ' I' H' s => ⟨I', env4, le3.trans s.sub, s.ok, OutS.trans h3 s⟩
          | brk => exact h3
          | ret d => exact h3
    · have e : i = ds.length := by omega
      subst e
      rw [List.drop_length] at h1
      exact .inl ⟨(walk _ I1 H1 σ1 env1 le1 ok1).2 (Nat.le_refl _), h1 σ1 I1 H1 (StpP.refl ok1)⟩
end
section
variable {X : Cx} {g : Gx} {W : WX} {pos : Pos} {a b c e tg : Expr} {es : List Expr} {st : Stmt} {sts : List Stmt} {ma mb mc : M D} {mt mu : M Bool} {mas : M (List D)} {m1 m2 : M Fl} {f f' : D → M Unit} {fs : List D → M Unit}
theorem s_while (n : Nat) (hp : PassesOwn (model X.prog X.w) X.A X.env X.xe) (hc : DT X g W c mt) (hb : DSs X g W sts m1) : DS X g W (.While c sts [] pos) (whileM mt m1 n) := ps_imp (ps_while hp hc hb) fun Dn σ H h => tr_while h
theorem s_for (hp : PassesOwn (model X.prog X.w) X.A X.env X.xe) (hc : X.calm = true) (hi : DI X g W tg e mas) (hg : DG X g tg f) (hf : Calm f) (hb : DSs X g W sts m1) (hs : ∀ x, foldedSetIterable e X.env x = pure x := by intro _; rfl) : DS X g W (.For tg e sts [] pos) (bnd mas (forM f m1)) :=
  ps_imp (ps_for hp hc hi hg hb hs) fun Dn σ H h => tr_for hf h

/-! sources -/
def lstM (m : M D) : M (List D) := bnd m fun d => match d with
  | .lst l => ret l
  | .tup l => ret l
  | _ => DL.bad
theorem walk_list {K : PySem.W.Frag} {I : Hp} {p : Addr} {vs : List V} {ds : List D} (hp : I p = some (.lst vs)) (r : Reps K g I ds vs) : Walk K g I (Itl K p) ds := fun i I' H' σ env le ok => by
  have hs : SqL K H' p vs := SqL.of (ok.sub.get (le _ _ hp) rfl)
  have uniq : ∀ xs, SqL K H' p xs → H' p = some (.lst vs) := fun _ _ => ok.sub.get (le _ _ hp) rfl
  refine ⟨fun d hd => ?_, fun hl => ⟨vs, hs, by rw [← r.length]; exact hl⟩⟩
  obtain ⟨v, hv, rv⟩ := r.get hd
  refine ⟨⟨vs, v, hs, hv⟩, fun x H1 ⟨e, y⟩ => ?_⟩
  subst e
  have : vs[i]? = some x := y vs hs
  rw [hv] at this; cases this
  exact ⟨I', StpP.refl ok, Rep.mono le rv⟩
theorem walk_tup {K : PySem.W.Frag} {I : Hp} {p : Addr} {vs : List V} {ds : List D} (hp : SqT K I p vs) (r : Reps K g I ds vs) : Walk K g I (Itt K p) ds := fun i I' H' σ env le ok => by
  have hs : SqT K H' p vs := sub_t ok.sub (le_t le hp)
  refine ⟨fun d hd => ?_, fun hl => ⟨vs, hs, by rw [← r.length]; exact hl⟩⟩
  obtain ⟨v, hv, rv⟩ := r.get hd
  refine ⟨⟨vs, v, hs, hv⟩, fun x H1 ⟨e, y⟩ => ?_⟩
  subst e
  have : vs[i]? = some x := y vs hs
  rw [hv] at this; cases this
  exact ⟨I', StpP.refl ok, Rep.mono le rv⟩
def seqL (m : M D) : M (List D) := bnd m fun d => match d with
  | .lst l => ret l
  | _ => DL.bad
def seqT (m : M D) : M (List D) := bnd m fun d => match d with
  | .tup l => ret l
  | _ => DL.bad
theorem i_list (he : DE X g W e ma) : DI X g W tg e (seqL ma) := pi_imp (pi_list he) fun σ H Q ⟨I, env, ok, h⟩ => trI_bnd (α' := D) (Rr := RD X.K g) ok h fun v d I1 H1 env1 st r h1 => by
  cases d with
  | lst l =>
    obtain ⟨p, vs, rfl, e2, e3⟩ := rep_lst.mp r
    exact ⟨p, rfl, ⟨vs, SqL.of (st.ok.sub.get e2 rfl)⟩, h1 _ I1 H1 (StpP.refl st.ok) (walk_list e2 e3)⟩
  | _ => exact h1.elim
theorem i_tup (he : DE X g W e ma) : DI X g W tg e (seqT ma) := pi_imp (pi_tup he) fun σ H Q ⟨I, env, ok, h⟩ => trI_bnd (α' := D) (Rr := RD X.K g) ok h fun v d I1 H1 env1 st r h1 => by
  cases d with
  | tup l =>
    obtain ⟨p, vs, rfl, e2, e3⟩ := rep_tup.mp r
    exact ⟨p, rfl, ⟨vs, sub_t st.ok.sub e2⟩, h1 _ I1 H1 (StpP.refl st.ok) (walk_tup e2 e3)⟩
  | _ => exact h1.elim
/-- ranges -/
def ups (lo : Int) (n : Nat) : List D := (List.range n).map fun (k : Nat) => .int (lo + (k : Int))
theorem walk_range {K : PySem.W.Frag} {I : Hp} {lo : Int} {n : Nat} : Walk K g I (Itr lo n) (ups lo n) := fun i I' H' σ env le ok => by
  refine ⟨fun d hd => ?_, fun hl => by unfold ups at hl; rw [List.length_map, List.length_range] at hl; exact hl⟩
  unfold ups at hd
  rw [List.getElem?_map] at hd
  obtain ⟨k, hk, rfl⟩ := Option.map_eq_some_iff.mp hd
  obtain ⟨hk1, hk2⟩ := List.getElem?_eq_some_iff.mp hk
  rw [List.length_range] at hk1
  rw [List.getElem_range] at hk2
  subst hk2
  refine ⟨hk1, fun x H1 ⟨e, y⟩ => ?_⟩
  subst e y
  exact ⟨I', StpP.refl ok, rep_int.mpr rfl⟩
theorem one_int {ds : List D} {α : Type} {f : Int → M α} {m : M α} (hm : m = (match ds with
  | [.int i] => f i
  | _ => DL.bad)) : (m = DL.bad) ∨ ∃ i, ds = [.int i] ∧ m = f i := by
  subst hm
  split
  · exact .inr ⟨_, rfl, rfl⟩
  · exact .inl rfl
def rng1 (m : M (List D)) : M (List D) := bnd m fun ds => match ds with
  | [.int j] => if -(2 ^ 62) ≤ j ∧ j < 2 ^ 62 then ret (ups 0 j.toNat) else DL.bad
  | _ => DL.bad
def rng2 (m : M (List D)) : M (List D) := bnd m fun ds => match ds with
  | [.int i, .int j] => if -(2 ^ 62) ≤ i ∧ i < 2 ^ 62 ∧ -(2 ^ 62) ≤ j ∧ j < 2 ^ 62 then ret (ups i (j - i).toNat) else DL.bad
  | _ => DL.bad
theorem i_rng1 {p : Pos} (hg : Gl X "range") (hm : X.mg "range" = none) (ha : DA X g W [a] mas) (hs : starEach [a] X.env = [(false, eval a X.env)] := by rfl) : DI X g W tg (.Call (.Name "range" p) [a] [] pos) (rng1 mas) :=
  pi_imp (pi_range1 hg hm ha hs) fun σ H Q ⟨I, env, ok, h⟩ => trI_bnd (α' := D) (Rr := RL X.K g) ok h fun vs ds I1 H1 env1 st r h1 => by
    rcases one_int (ds := ds) (f := fun j => if -(2 ^ 62) ≤ j ∧ j < 2 ^ 62 then ret (ups 0 j.toNat) else DL.bad) rfl with e | ⟨j, rfl, e⟩
    · rw [e] at h1; exact h1.elim
    · rw [e] at h1
      obtain ⟨u, us, rfl, r1, r'⟩ := reps_cons.mp r
      obtain rfl := reps_nil.mp r'
      obtain rfl := rep_int.mp r1
      split at h1
      · rename_i hj
        exact ⟨j, rfl, hj.1, hj.2, h1 _ I1 H1 (StpP.refl st.ok) walk_range⟩
      · exact h1.elim
theorem two_ints {ds : List D} {α : Type} {f : Int → Int → M α} {m : M α} (hm : m = (match ds with
  | [.int i, .int j] => f i j
  | _ => DL.bad)) : (m = DL.bad) ∨ ∃ i j, ds = [.int i, .int j] ∧ m = f i j := by
  subst hm
  split
  · exact .inr ⟨_, _, rfl, rfl⟩
  · exact .inl rfl
theorem i_rng2 {p : Pos} (hg : Gl X "range") (hm : X.mg "range" = none) (ha : DA X g W [a, b] mas) (hs : starEach [a, b] X.env = [(false, eval a X.env), (false, eval b X.env)] := by rfl) (hs2 : starEach [b] X.env = [(false, eval b X.env)] := by rfl) :
    DI X g W tg (.Call (.Name "range" p) [a, b] [] pos) (rng2 mas) :=
  pi_imp (pi_range2 hg hm ha hs hs2) fun σ H Q ⟨I, env, ok, h⟩ => trI_bnd (α' := D) (Rr := RL X.K g) ok h fun vs ds I1 H1 env1 st r h1 => by
    rcases two_ints (ds := ds) (f := fun i j => if -(2 ^ 62) ≤ i ∧ i < 2 ^ 62 ∧ -(2 ^ 62) ≤ j ∧ j < 2 ^ 62 then ret (ups i (j - i).toNat) else DL.bad) rfl with e | ⟨i, j, rfl, e⟩
    · rw [e] at h1; exact h1.elim
    · rw [e] at h1
      obtain ⟨u, us, rfl, r1, r'⟩ := reps_cons.mp r
      obtain ⟨u2, us2, rfl, r2, r''⟩ := reps_cons.mp r'
      obtain rfl := reps_nil.mp r''
      obtain rfl := rep_int.mp r1
      obtain rfl := rep_int.mp r2
      split at h1
      · rename_i hj
        exact ⟨i, j, rfl, hj, h1 _ I1 H1 (StpP.refl st.ok) walk_range⟩
      · exact h1.elim
end
end DL
set_option Elab.async false
set_option linter.all false
set_option maxRecDepth 100000
set_option maxHeartbeats 4000000
set_option autoImplicit false
namespace DL
open PySem PySem.Spec PyProof.Rows L2 LamX

/-! ### what a def promises -/
inductive FR where
  | ok (d : D) | err (c : Nat) | bad
abbrev FD := List D → FR
inductive FR1 where
  | ok (d : D) (s : Slot) | err (c : Nat) (s : Slot) | bad
/-- a def whose first parameter is changed -/
abbrev FD1 := Slot → List D → FR1
structure Fst (K : PySem.W.Frag) (g : Gx) (ex : Option Addr) (I H I' H' : Hp) : Prop where
  sub : Sub I' H'
  nt : ∀ a ps, I' a ≠ some (.tbl ps)
  tabs : Tabs g.T H'
  le : Le I I'
  keep : ∀ a o, H a = some o → some a ≠ ex → (∀ ps, o ≠ .tbl ps) → H' a = some o
  there : ∀ a, Fr H' a → Fr H a
  fresh : ∀ a, I' a ≠ none → I a ≠ none ∨ Fr H a
structure Pre (K : PySem.W.Frag) (g : Gx) (I H : Hp) : Prop where
  sub : Sub I H
  nt : ∀ a ps, I a ≠ some (.tbl ps)
  tabs : Tabs g.T H
def spF (K : PySem.W.Frag) (g : Gx) (n : Nat) (f : FD) : Sp := fun vs H Q E => vs.length = n ∧ ∃ I ds, Pre K g I H ∧ Reps K g I ds vs ∧ match f ds with
  | .ok d => ∀ v I' H', Fst K g none I H I' H' → Rep K g I' d v → Q v H'
  | .err c => ∀ I' H', Fst K g none I H I' H' → E (.ref (g.ca c)) none H'
  | .bad => False
def sp1 (K : PySem.W.Frag) (g : Gx) (n : Nat) (f : FD1) : Sp := fun vs H Q E => vs.length = n ∧ ∃ I s ds p us, Pre K g I H ∧ vs = .ref p :: us ∧ s.pin = true ∧ SlotOk K g I H s (some (.ref p)) ∧ Reps K g I ds us ∧ match f s ds with
  | .ok d s' => ∀ v I' H', Fst K g (some p) I H I' H' → Rep K g I' d v → SlotOk K g I' H' s' (some (.ref p)) → Q v H'
  | .err c s' => ∀ I' H', Fst K g (some p) I H I' H' → SlotOk K g I' H' s' (some (.ref p)) → E (.ref (g.ca c)) none H'
  | .bad => False
theorem pin_own {s : Slot} (h : s.pin = true) : s.own = true := by cases s <;> first | rfl | cases h
section
variable {K : PySem.W.Frag} {g : Gx} {W : WX} {I H I' H' : Hp} {σ : L2.St} {env : DL.Env}
theorem EnvOk.pre (ok : EnvOk K g I H σ env) : Pre K g I H := ⟨ok.sub, ok.nt, ok.tabs⟩
/-- behind a call that changes nothing -/
theorem EnvOk.call (ok : EnvOk K g I H σ env) (f : Fst K g none I H I' H') : StpE K g I H σ env I' H' σ env where
  ok := ⟨f.sub, f.nt, f.tabs, ok.len, fun i z x e1 e2 => (ok.slot i z x e1 e2).mono f.le (fun p o ho hx q => by
      obtain ⟨p', o', e3, e4, e5, e6⟩ := (ok.slot i z x e1 e2).own_of ho
      rw [hx] at e3; cases e3
      rw [e4] at q; cases q
      exact f.keep _ _ e4 (fun z => nomatch z) e6) (fun p ho hx => by
      obtain ⟨p', o, e3, e4, e5, e6⟩ := (ok.slot i z x e1 e2).own_of ho
      rw [hx] at e3; cases e3
      cases e : I' p with
      | none => rfl
      | some u =>
        rcases f.fresh p (by rw [e]; simp) with q | q
        · rw [e5] at q; exact absurd rfl q
        · exact (q.not e4 e6).elim), ok.sep⟩
  sub := f.le
  keep := fun a o e _ t => f.keep a o e (fun z => nomatch z) t
  there := f.there
  fresh := fun a e => (f.fresh a e).imp id .inl
  own := fun a e => .inl e
  pin := fun i s e hp => ⟨rfl, s, e, hp⟩
/-- behind a call that changes what slot i holds -/
theorem EnvOk.call1 (ok : EnvOk K g I H σ env) {i : Nat} {s s' : Slot} {p : Addr} (hi : env[i]? = some s) (hx : σ[i]? = some (some (.ref p))) (hp : s.pin = true) (hp' : s'.pin = true) (f : Fst K g (some p) I H I' H') (hs : SlotOk K g I' H' s' (some (.ref p))) :
    StpE K g I H σ env I' H' σ (env.set i s') := by
  have hil : i < env.length := (List.getElem?_eq_some_iff.mp hi).1
  have cases_ : ∀ (j : Nat) (y : Slot), (env.set i s')[j]? = some y → (j = i ∧ y = s') ∨ (j ≠ i ∧ env[j]? = some y) := fun j y h => by
    by_cases hj : j = i
    · subst hj; rw [List.getElem?_set_self hil] at h; exact .inl ⟨rfl, (Option.some.inj h).symm⟩
    · rw [List.getElem?_set_ne (Ne.symm hj)] at h; exact .inr ⟨hj, h⟩
  have hown : Own σ env p := ⟨i, s, hi, pin_own hp, hx⟩
  refine ⟨⟨f.sub, f.nt, f.tabs, by rw [List.length_set]; exact ok.len, fun j z x e1 e2 => ?_, fun j j' y y' a h1 h2 h3 h4 h5 h6 => ?_⟩, f.le, fun a o e n t => f.keep a o e (fun z => n (by cases z; exact hown)) t, f.there, fun a e => (f.fresh a e).imp id .inl, fun a e => ?_, fun j y h1 h2 => ?_⟩
  · rcases cases_ j z e1 with ⟨rfl, rfl⟩ | ⟨hj, e1⟩
    · rw [hx] at e2; cases e2; exact hs
    · refine (ok.slot j z x e1 e2).mono f.le (fun q o ho hq r => ?_) (fun q ho hq => ?_)
      · obtain ⟨p', o', e3, e4, e5, e6⟩ := (ok.slot j z x e1 e2).own_of ho
        rw [hq] at e3; cases e3
        rw [e4] at r; cases r
        refine f.keep _ _ e4 (fun w => ?_) e6
        cases w
        rw [hq] at e2
        exact hj (ok.sep j i z s _ e1 hi ho (pin_own hp) e2 hx)
      · obtain ⟨p', o, e3, e4, e5, e6⟩ := (ok.slot j z x e1 e2).own_of ho
        rw [hq] at e3; cases e3
        cases e : I' q with
        | none => rfl
        | some u =>
          rcases f.fresh q (by rw [e]; simp) with r | r
          · rw [e5] at r; exact absurd rfl r
          · exact (r.not e4 e6).elim
  · have key : ∀ (j : Nat) (y : Slot), (env.set i s')[j]? = some y → y.own = true → ∃ z, env[j]? = some z ∧ z.own = true := fun j y h o => by
      rcases cases_ j y h with ⟨rfl, rfl⟩ | ⟨hj, h⟩
      · exact ⟨s, hi, pin_own hp⟩
      · exact ⟨y, h, o⟩
    obtain ⟨z, q1, q2⟩ := key j y h1 h3
    obtain ⟨z', q3, q4⟩ := key j' y' h2 h4
    exact ok.sep j j' z z' a q1 q3 q2 q4 h5 h6
  · obtain ⟨j, y, h1, h2, h3⟩ := e
    rcases cases_ j y h1 with ⟨rfl, rfl⟩ | ⟨hj, h1⟩
    · exact .inl ⟨_, s, hi, pin_own hp, h3⟩
    · exact .inl ⟨j, y, h1, h2, h3⟩
  · refine ⟨rfl, ?_⟩
    by_cases hj : j = i
    · subst hj; exact ⟨s', List.getElem?_set_self hil, hp'⟩
    · exact ⟨y, by rw [List.getElem?_set_ne (Ne.symm hj)]; exact h1, h2⟩
end
def callF (f : FD) (ds : List D) : M D := fun env => match f ds with
  | .ok d => .ok d env
  | .err c => .err c env
  | .bad => .bad
def call1 (i : Nat) (f : FD1) (ds : List D) : M D := fun env => match env[i]? with
  | some s => if s.pin = true then match f s ds with
      | .ok d s' => if s'.pin = true then .ok d (env.set i s') else .bad
      | .err c s' => if s'.pin = true then .err c (env.set i s') else .bad
      | .bad => .bad
    else .bad
  | none => .bad
/-- a def of the module: it stands at the name x -/
structure FnD (P : Program) (w : World) (K : PySem.W.Frag) (mg : Str → Option Value) (base : Heap) (x : Str) (k n : Nat) (sp : Sp) : Prop where
  ex : ∃ a fd ps, FnOk P w K mg base (L2.CX P w) k a fd ps sp ∧ mg x = some (.ref a) ∧ PySem.W.keepIn K (.ref a) = true ∧ Binds K fd ps []
/-- a method m of the class number c -/
structure MeD (P : Program) (w : World) (K : PySem.W.Frag) (mg : Str → Option Value) (base : Heap) (g : Gx) (c : Nat) (m : Str) (k n : Nat) (sp : Sp) : Prop where
  ex : ∃ a fd ps, FnOk P w K mg base (L2.CX P w) k a fd ps sp ∧ Cls K (g.ca c) ∧ Meth K (g.ca c) m a ∧ Binds K fd ps [] ∧ m ∉ g.lay c
/-- the class number c is made by its __init__ -/
structure MkD (P : Program) (w : World) (K : PySem.W.Frag) (mg : Str → Option Value) (base : Heap) (g : Gx) (c : Nat) (x : Str) (k n : Nat) (f : FD1) : Prop where
  ex : ∃ a fd ps, FnOk P w K mg base (L2.CX P w) k a fd ps (sp1 K g n f) ∧ Mk K (g.ca c) a ∧ mg x = some (.ref (g.ca c)) ∧ Binds K fd ps []

/-! ### calls whose errors are wished for at the slots -/
section
variable {X : Cx} {CX : CXT} {k : Nat} {f C : Addr} {fd : FuncData} {ps : List Str} {sp : Sp} {E : L2.St → XK} {x m : Str} {p pos apos : Pos} {e o : Expr} {es : List Expr} {ta : TE} {t : TA}
def tMethS (C : Addr) (m : Str) (sp : Sp) (E : L2.St → XK) (ta : TE) (t : TA) : TE := fun σ H Q => ta σ H fun x H1 => ∃ a dx fs, x = .ref a ∧ H1 a = some (.ins C dx fs) ∧ fs.lookup m = none ∧ t σ H1 fun vs H2 => sp (x :: vs) H2 Q (E σ)
theorem pe_methS {pl : Sem Bool} (he : PE X o ta) (c : Cls X.K C) (hm : Meth X.K C m f) (F : FnOk X.prog X.w X.K X.mg X.base CX k f fd ps sp) (hr : Room k X.A) (hb : Binds X.K fd ps []) (hx : ∀ σ, PassesAt CX X σ (E σ)) (ha : PA X (e :: es) t)
    (hst : starEach (e :: es) X.env = (false, eval e X.env) :: starEach es X.env := by rfl) (hpl : (backTo pos (starEach es X.env)).any (·.1) = false := by rfl)
    (ht : eval (.Call (.Attribute o m apos) (e :: es) [] pos) X.env = (do let ov ← eval o X.env; standAt apos.atName; let (f, first) ← holding [ov] (getMethod ov m pl); callWith pos f first (backTo pos (starEach (e :: es) X.env)) (backToKw pos (keywordEach [] X.env))) := by rfl) :
    PE X (.Call (.Attribute o m apos) (e :: es) [] pos) (tMethS C m sp E ta t) := by
  refine ⟨fun pins s σ H Q I h => ?_⟩
  refine PySem.W.methodCall_KW (pl := pl) (thn (he.run pins s σ H _ I h) fun u s1 ⟨x, H1, I1, rx, a, dx, fs, ex, ea, l, q⟩ => ?_) ht
  subst ex
  obtain rfl : u = Value.ref a := rx
  refine getmeth_ok I1 ea c hm l ?_
  refine PySem.W.callWith_K (first := [.ref a]) (h₀ := X.base) I.ok.mod.kin hm.kp (thn (ha.run pos pins s1 σ H1 _ I1 q) fun us s2 ⟨vs, H2, I2, r, q2⟩ => ⟨I2.kIn, ?_⟩) hst hpl
  exact run_fnS (us := .ref a :: us) (vs := .ref a :: vs) F hr hb (hx σ) I2 (.cons rfl r) q2
theorem pe_methS0 {pl : Sem Bool} (he : PE X o ta) (c : Cls X.K C) (hm : Meth X.K C m f) (F : FnOk X.prog X.w X.K X.mg X.base CX k f fd ps sp) (hr : Room k X.A) (hb : Binds X.K fd ps []) (hx : ∀ σ, PassesAt CX X σ (E σ))
    (ht : eval (.Call (.Attribute o m apos) [] [] pos) X.env = (do let ov ← eval o X.env; standAt apos.atName; let (f, first) ← holding [ov] (getMethod ov m pl); callWith pos f first (backTo pos (starEach [] X.env)) (backToKw pos (keywordEach [] X.env))) := by rfl) :
    PE X (.Call (.Attribute o m apos) [] [] pos) (tMethS C m sp E ta tNil) := by
  refine ⟨fun pins s σ H Q I h => ?_⟩
  refine PySem.W.methodCall_KW (pl := pl) (thn (he.run pins s σ H _ I h) fun u s1 ⟨x, H1, I1, rx, a, dx, fs, ex, ea, l, q⟩ => ?_) ht
  subst ex
  obtain rfl : u = Value.ref a := rx
  refine getmeth_ok I1 ea c hm l ?_
  exact PySem.W.callWith_K0 (first := [.ref a]) I1.kIn hm.kp (run_fnS (us := [.ref a]) (vs := [.ref a]) F hr hb (hx σ) I1 (.cons rfl .nil) q)
def tMakeS (C : Addr) (sp : Sp) (E : L2.St → XK) (t : TA) : TE := fun σ H Q => t σ H fun vs H1 => ∀ x dx, H1 x = none → H1 dx = none → dx ≠ x →
  sp (.ref x :: vs) (upd (upd H1 dx (.own x)) x (.ins C dx [])) (fun v H2 => v = .non ∧ Q (.ref x) H2) (E σ)
theorem run_makeS {pins : List (Addr × Obj)} {σ : L2.St} {H : Hp} {s : Shared} {Q : VK} {us : List Value} {vs : List V} (M : Mk X.K C f) (F : FnOk X.prog X.w X.K X.mg X.base CX k f fd ps sp) (hr : Room (k + 1) X.A) (hb : Binds X.K fd ps [])
    (hx : PassesAt CX X σ (E σ)) (I : Inv X pins σ H s) (r : Vals vs us)
    (h : ∀ x dx, H x = none → H dx = none → dx ≠ x → sp (.ref x :: vs) (upd (upd H dx (.own x)) x (.ins C dx [])) (fun v H2 => v = .non ∧ Q (.ref x) H2) (E σ)) :
    wpAny (model X.prog X.w) X.A (call (.ref C) us) (EP X pins σ Q) X.xe s := by
  have hq := h (s.heap.objs.size + 1) s.heap.objs.size (I.hok.fresh (Nat.le_succ _)) (I.hok.fresh (Nat.le_refl _)) (Nat.ne_of_lt (Nat.lt_succ_self _))
  have I2 := Inv.made (C := C) I
  have r2 : Vals (V.ref (s.heap.objs.size + 1) :: vs) (Value.ref (s.heap.objs.size + 1) :: us) := .cons rfl r
  have hl : (Value.ref (s.heap.objs.size + 1) :: us ++ []).length = ps.length := by
    have e := r2.length
    rw [F.len _ _ _ _ hq] at e
    rw [List.append_nil]
    exact e.symm
  have b := hb _ (Value.ref (s.heap.objs.size + 1) :: us) I2.kIn hl
  rw [List.append_nil] at b
  refine wpAny_call (make_map (f := f) I.kIn M.makes M.init (beq_iff_eq.mp M.fn) (codeAny_mono (F.run _ X.stack _ _ ⟨Value.ref (s.heap.objs.size + 1) :: us, []⟩ (Value.ref (s.heap.objs.size + 1) :: us) _ _ (E σ) (hr.make C us [])
    (I2.env0.make C us []) b r2 hq) fun r s' hq' => ?_))
  cases r with
  | error e => exact hx pins _ _ e s' I2 hq'
  | ok fl =>
    cases fl with
    | ret u =>
      obtain ⟨v, H', I3, rv, ev, q3⟩ := I2.after hq'
      subst ev
      exact ⟨rv, ⟨V.ref (s.heap.objs.size + 1), H', I3, rfl, q3⟩⟩
    | next => exact False.elim hq'
    | brk => exact False.elim hq'
    | cont => exact False.elim hq'
theorem pe_makeS (M : Mk X.K C f) (F : FnOk X.prog X.w X.K X.mg X.base CX k f fd ps sp) (hr : Room (k + 1) X.A) (hg : Gl X x) (hm : X.mg x = some (.ref C)) (hb : Binds X.K fd ps []) (hx : ∀ σ, PassesAt CX X σ (E σ))
    (ha : PA X (e :: es) t) (hdb : (x == ("__debug__" : Str)) = false := by decide) (he : starEach (e :: es) X.env = (false, eval e X.env) :: starEach es X.env := by rfl) (hpl : (backTo pos (starEach es X.env)).any (·.1) = false := by rfl) :
    PE X (.Call (.Name x p) (e :: es) [] pos) (tMakeS C sp E t) := by
  refine ⟨fun pins s σ H Q I h => ?_⟩
  refine wpAny_Call_Name_kw (ld_glob I hg hm ?_ hdb)
  refine PySem.W.callWith_K (h₀ := X.base) I.ok.mod.kin M.kp (thn (ha.run pos pins s σ H _ I h) fun us s1 ⟨vs, H1, I1, r, q⟩ => ⟨I1.kIn, ?_⟩) he hpl
  exact run_makeS M F hr hb (hx σ) I1 r q
theorem pe_makeS0 (M : Mk X.K C f) (F : FnOk X.prog X.w X.K X.mg X.base CX k f fd ps sp) (hr : Room (k + 1) X.A) (hg : Gl X x) (hm : X.mg x = some (.ref C)) (hb : Binds X.K fd ps []) (hx : ∀ σ, PassesAt CX X σ (E σ))
    (hdb : (x == ("__debug__" : Str)) = false := by decide) : PE X (.Call (.Name x p) [] [] pos) (tMakeS C sp E tNil) := by
  refine ⟨fun pins s σ H Q I h => ?_⟩
  refine wpAny_Call_Name_kw (ld_glob I hg hm ?_ hdb)
  exact PySem.W.callWith_K0 I.kIn M.kp (run_makeS (us := []) M F hr hb (hx σ) I .nil h)
theorem pe_callS0 (F : FnOk X.prog X.w X.K X.mg X.base CX k f fd ps sp) (hr : Room k X.A) (hg : Gl X x) (hm : X.mg x = some (.ref f)) (hk : PySem.W.keepIn X.K (.ref f) = true) (hb : Binds X.K fd ps []) (hx : ∀ σ, PassesAt CX X σ (E σ))
    (hdb : (x == ("__debug__" : Str)) = false := by decide) : PE X (.Call (.Name x p) [] [] pos) (tCallS sp E tNil) := by
  refine ⟨fun pins s σ H Q I h => ?_⟩
  refine wpAny_Call_Name_kw (ld_glob I hg hm ?_ hdb)
  exact PySem.W.callWith_K0 I.kIn hk (run_fnS (us := []) F hr hb (hx σ) I .nil h)
end

section
variable {X : Cx} {g : Gx} {W : WX} {p pos apos : Pos} {a b c e o : Expr} {es : List Expr} {ma mb mc : M D} {mas : M (List D)} {k n : Nat} {x m : Str}
/-- the arguments' worth makes the promise's premise true -/
theorem out_callF {I H : Hp} {σ : L2.St} {env : DL.Env} {f : FD} {ds : List D} {vs : List V} {Q : VK} {K : PySem.W.Frag} (ok : EnvOk K g I H σ env) (hn : ∀ ds, f ds ≠ .bad → ds.length = n) (r : Reps K g I ds vs) (h : Out K g W (RD K g) I H σ env (callF f ds env) Q) : spF K g n f vs H Q (WE W σ) := by
  have e : (match f ds with
    | .ok d => R.ok d env
    | .err c => R.err c env
    | .bad => (R.bad : R D)) = callF f ds env := rfl
  cases hf : f ds with
  | bad => rw [← e, hf] at h; exact h.elim
  | ok d =>
    rw [← e, hf] at h
    refine ⟨by rw [← r.length]; exact hn ds (by rw [hf]; simp), I, ds, ok.pre, r, ?_⟩
    rw [hf]
    exact fun v I' H' fs rv => h v I' H' (ok.call fs) rv
  | err c =>
    rw [← e, hf] at h
    refine ⟨by rw [← r.length]; exact hn ds (by rw [hf]; simp), I, ds, ok.pre, r, ?_⟩
    rw [hf]
    exact fun I' H' fs => h I' H' (ok.call fs)
def Ar (n : Nat) (f : FD) : Prop := ∀ ds, f ds ≠ .bad → ds.length = n
def Ar1 (n : Nat) (f : FD1) : Prop := ∀ s ds, f s ds ≠ .bad → ds.length + 1 = n
theorem d_call {f : FD} (F : FnD X.prog X.w X.K X.mg X.base x k n (spF X.K g n f)) (hn : Ar n f) (tk : Takes X W) (hr : Room k X.A) (ha : DA X g W (e :: es) mas) (hg : Gl X x := by rfl) (hdb : (x == ("__debug__" : Str)) = false := by decide)
    (he : starEach (e :: es) X.env = (false, eval e X.env) :: starEach es X.env := by rfl) (hpl : (backTo pos (starEach es X.env)).any (·.1) = false := by rfl) : DE X g W (.Call (.Name x p) (e :: es) [] pos) (bnd mas (callF f)) := by
  obtain ⟨a, fd, ps, F, hm, hk, hb⟩ := F.ex
  exact pe_imp (pe_callS F hr hg hm hk hb (fun σ => passAt tk σ) ha hdb he hpl) fun σ H Q ⟨I, env, ok, h⟩ => tr_bnd (Rr' := RL X.K g) ok h fun vs ds I1 H1 env1 st r h1 => out_callF st.ok hn r h1
theorem d_call0 {f : FD} (F : FnD X.prog X.w X.K X.mg X.base x k n (spF X.K g n f)) (hn : Ar n f) (tk : Takes X W) (hr : Room k X.A) (hg : Gl X x := by rfl) (hdb : (x == ("__debug__" : Str)) = false := by decide) : DE X g W (.Call (.Name x p) [] [] pos) (callF f []) := by
  obtain ⟨a, fd, ps, F, hm, hk, hb⟩ := F.ex
  exact pe_imp (pe_callS0 F hr hg hm hk hb (fun σ => passAt tk σ) hdb) fun σ H Q ⟨I, env, ok, h⟩ => out_callF ok hn Reps.nil h
def isObj (c : Nat) (f : FD) (ds : List D) : M D := match ds with
  | .obj c' l :: ds => if c' = c then callF f (.obj c' l :: ds) else DL.bad
  | _ => DL.bad
theorem lookup_zip_none : ∀ {fs : List Str} {vs : List V} {m : Str}, m ∉ fs → (fs.zip vs).lookup m = none
  | [], _, _, _ => by simp
  | x :: fs, [], _, _ => by simp
  | x :: fs, v :: vs, m, h => by
    have hx : (m == x) = false := by simpa using fun e => h (by simp [e])
    simp only [List.zip_cons_cons, List.lookup_cons, hx]
    exact lookup_zip_none fun q => h (by simp [q])
def meM (c : Nat) (f : FD) (mo : M D) (mas : M (List D)) : M D := bnd mo fun x => match x with
  | .obj c' l => if c' = c then bnd mas fun ds => callF f (.obj c' l :: ds) else DL.bad
  | _ => DL.bad
theorem d_meth {pl : Sem Bool} {f : FD} (c : Nat) (F : MeD X.prog X.w X.K X.mg X.base g c m k n (spF X.K g n f)) (hn : Ar n f) (tk : Takes X W) (hr : Room k X.A) (ho : DE X g W o mb) (ha : DA X g W (e :: es) mas)
    (hst : starEach (e :: es) X.env = (false, eval e X.env) :: starEach es X.env := by rfl) (hpl : (backTo pos (starEach es X.env)).any (·.1) = false := by rfl)
    (ht : eval (.Call (.Attribute o m apos) (e :: es) [] pos) X.env = (do let ov ← eval o X.env; standAt apos.atName; let (f, first) ← holding [ov] (getMethod ov m pl); callWith pos f first (backTo pos (starEach (e :: es) X.env)) (backToKw pos (keywordEach [] X.env))) := by rfl) : DE X g W (.Call (.Attribute o m apos) (e :: es) [] pos) (meM c f mb mas) := by
  obtain ⟨a, fd, ps, F, hc, hm, hb, hl⟩ := F.ex
  refine pe_imp (pe_methS ho hc hm F hr hb (fun σ => passAt tk σ) ha hst hpl ht) fun σ H Q ⟨I, env, ok, h⟩ => tr_bnd (Rr' := RD X.K g) ok h fun v d I1 H1 env1 st r h1 => ?_
  cases d with
  | obj c' l =>
    have h9 : Out X.K g W (RD X.K g) I1 H1 σ env1 ((if c' = c then bnd mas (fun ds => callF f (.obj c' l :: ds)) else DL.bad) env1) Q := h1
    clear h1
    split at h9
    · rename_i hc'
      subst hc'
      obtain ⟨p, dx, vs, rfl, e2, e3, e4⟩ := rep_obj.mp r
      exact ⟨p, dx, _, rfl, st.ok.sub.get e2 rfl, lookup_zip_none hl, tr_bnd (Rr' := RL X.K g) st.ok h9 fun us ds I2 H2 env2 st2 r2 h2 => out_callF st2.ok hn (Reps.cons (Rep.mono st2.sub r) r2) h2⟩
    · exact h9.elim
  | _ => exact h1.elim
theorem d_meth0 {pl : Sem Bool} {f : FD} (c : Nat) (F : MeD X.prog X.w X.K X.mg X.base g c m k n (spF X.K g n f)) (hn : Ar n f) (tk : Takes X W) (hr : Room k X.A) (ho : DE X g W o mb)
    (ht : eval (.Call (.Attribute o m apos) [] [] pos) X.env = (do let ov ← eval o X.env; standAt apos.atName; let (f, first) ← holding [ov] (getMethod ov m pl); callWith pos f first (backTo pos (starEach [] X.env)) (backToKw pos (keywordEach [] X.env))) := by rfl) : DE X g W (.Call (.Attribute o m apos) [] [] pos) (meM c f mb (ret [])) := by
  obtain ⟨a, fd, ps, F, hc, hm, hb, hl⟩ := F.ex
  refine pe_imp (pe_methS0 ho hc hm F hr hb (fun σ => passAt tk σ) ht) fun σ H Q ⟨I, env, ok, h⟩ => tr_bnd (Rr' := RD X.K g) ok h fun v d I1 H1 env1 st r h1 => ?_
  cases d with
  | obj c' l =>
    have h9 : Out X.K g W (RD X.K g) I1 H1 σ env1 ((if c' = c then bnd (ret []) (fun ds => callF f (.obj c' l :: ds)) else DL.bad) env1) Q := h1
    clear h1
    split at h9
    · rename_i hc'
      subst hc'
      obtain ⟨p, dx, vs, rfl, e2, e3, e4⟩ := rep_obj.mp r
      exact ⟨p, dx, _, rfl, st.ok.sub.get e2 rfl, lookup_zip_none hl, out_callF st.ok hn (Reps.cons r Reps.nil) h9⟩
    · exact h9.elim
  | _ => exact h1.elim
/-- a new instance: what __init__ leaves in it -/
def mkF (c : Nat) (n : Nat) (f : FD1) : FD := fun ds => match f (.sf c []) ds with
  | .ok .non (.sf c' l) => if c' = c ∧ l.length = n then .ok (.obj c l) else .bad
  | .err k _ => .err k
  | _ => .bad
theorem out_make {K : PySem.W.Frag} {I H : Hp} {σ : L2.St} {env : DL.Env} {f : FD1} {ds : List D} {vs : List V} {Q : VK} {c : Nat} (ok : EnvOk K g I H σ env) (hn : Ar1 n f) (r : Reps K g I ds vs) (h : Out K g W (RD K g) I H σ env (callF (mkF c (g.lay c).length f) ds env) Q) :
    ∀ x dx, H x = none → H dx = none → dx ≠ x → sp1 K g n f (.ref x :: vs) (upd (upd H dx (.own x)) x (.ins (g.ca c) dx [])) (fun v H2 => v = .non ∧ Q (.ref x) H2) (WE W σ) := by
  intro x dx hx hdx hne
  have hx2 : upd H dx (.own x) x = none := by rw [upd_ne (Ne.symm hne)]; exact hx
  have s1 : StpE K g I H σ env I (upd H dx (.own x)) σ env := ok.newH hdx
  have s2 : StpE K g I H σ env I (upd (upd H dx (.own x)) x (.ins (g.ca c) dx [])) σ env := s1.trans (s1.ok.newH hx2)
  have ix : I x = none := ok.fresh_i hx
  have base : f (.sf c []) ds ≠ .bad → (∃ I s ds' p us, Pre K g I (upd (upd H dx (.own x)) x (.ins (g.ca c) dx [])) ∧ V.ref x :: vs = .ref p :: us ∧ s.pin = true ∧ SlotOk K g I (upd (upd H dx (.own x)) x (.ins (g.ca c) dx [])) s (some (.ref p)) ∧ Reps K g I ds' us ∧ s = .sf c [] ∧ ds' = ds ∧ p = x) := fun _ =>
    ⟨I, .sf c [], ds, x, vs, s2.ok.pre, rfl, rfl, ⟨x, dx, [], rfl, by rw [upd_same]; simp, ix, Reps.nil⟩, r, rfl, rfl, rfl⟩
  have e : callF (mkF c (g.lay c).length f) ds env = (match mkF c (g.lay c).length f ds with
    | .ok d => R.ok d env
    | .err c => R.err c env
    | .bad => (R.bad : R D)) := rfl
  rw [e] at h
  unfold mkF at h
  cases hf : f (.sf c []) ds with
  | bad => rw [hf] at h; exact h.elim
  | err k s' =>
    rw [hf] at h
    refine ⟨by rw [List.length_cons, ← r.length]; exact hn _ ds (by rw [hf]; simp), I, .sf c [], ds, x, vs, s2.ok.pre, rfl, rfl, ⟨x, dx, [], rfl, by rw [upd_same]; simp, ix, Reps.nil⟩, r, ?_⟩
    rw [hf]
    intro I' H' fs _
    refine h I' H' (ok.call ⟨fs.sub, fs.nt, fs.tabs, fs.le, fun a u ha _ t => ?_, fun a ha => ?_, fun a ha => ?_⟩)
    · have hax : a ≠ x := ne_of_none ha hx
      have had : a ≠ dx := ne_of_none ha hdx
      exact fs.keep a u (by rw [upd_ne hax, upd_ne had]; exact ha) (fun z => hax (Option.some.inj z)) t
    · exact s2.there a (fs.there a ha)
    · rcases fs.fresh a ha with q | q
      · exact .inl q
      · exact .inr (s2.backF q)
  | ok d s' =>
    rw [hf] at h
    refine ⟨by rw [List.length_cons, ← r.length]; exact hn _ ds (by rw [hf]; simp), I, .sf c [], ds, x, vs, s2.ok.pre, rfl, rfl, ⟨x, dx, [], rfl, by rw [upd_same]; simp, ix, Reps.nil⟩, r, ?_⟩
    rw [hf]
    intro v I' H' fs rv hs
    cases d with
    | non =>
      cases s' with
      | sf c' l =>
        have h : Out K g W (RD K g) I H σ env (match (if c' = c ∧ l.length = (g.lay c).length then FR.ok (.obj c l) else FR.bad) with
          | .ok d => R.ok d env
          | .err c => R.err c env
          | .bad => (R.bad : R D)) Q := h
        split at h
        · rename_i d hd
          split at hd
          · rename_i hc
            cases hd
            obtain ⟨rfl, hlen⟩ := hc
            refine ⟨rep_non.mp rv, ?_⟩
            obtain ⟨p, dx', us, e1, e2, e3, e4⟩ := hs
            cases e1
            have nI : ∀ a, a = x → I' a = none := fun a z => by rw [z]; exact e3
            refine h (.ref x) (upd I' x (.ins (g.ca c') dx' ((g.lay c').zip us))) H' (ok.call ⟨⟨fun {a u} q dk => ?_, fun {a u} q => ?_⟩, fun a ps q => ?_, fs.tabs, fs.le.trans (Le.new e3), fun a u ha _ t => ?_, fun a ha => s2.there a (fs.there a ha), fun a ha => ?_⟩) (rep_obj.mpr ⟨x, dx', us, rfl, upd_same, by rw [← e4.length, hlen], e4.mono (Le.new e3)⟩)
            · by_cases hb : a = x
              · subst hb; rw [upd_same] at q; rw [← q]; exact e2
              · rw [upd_ne hb] at q; exact fs.sub.get q dk
            · by_cases hb : a = x
              · subst hb; rw [upd_same] at q; obtain rfl := Option.some.inj q; exact .inl e2
              · rw [upd_ne hb] at q; exact fs.sub.rd q
            · by_cases hb : a = x
              · subst hb; rw [upd_same] at q; cases q
              · rw [upd_ne hb] at q; exact fs.nt a ps q
            · have hax : a ≠ x := ne_of_none ha hx
              have had : a ≠ dx := ne_of_none ha hdx
              exact fs.keep a u (by rw [upd_ne hax, upd_ne had]; exact ha) (fun z => hax (Option.some.inj z)) t
            · by_cases hb : a = x
              · subst hb; exact .inr (.inl hx)
              · rw [upd_ne hb] at ha
                rcases fs.fresh a ha with q | q
                · exact .inl q
                · exact .inr (s2.backF q)
          · cases hd
        · rename_i c2 hd
          split at hd <;> cases hd
        · exact h.elim
      | _ => exact h.elim
    | _ => exact h.elim
theorem d_make {f : FD1} (c : Nat) (F : MkD X.prog X.w X.K X.mg X.base g c x k n f) (hn : Ar1 n f) (tk : Takes X W) (hr : Room (k + 1) X.A) (ha : DA X g W (e :: es) mas) (hg : Gl X x := by rfl) (hdb : (x == ("__debug__" : Str)) = false := by decide)
    (he : starEach (e :: es) X.env = (false, eval e X.env) :: starEach es X.env := by rfl) (hpl : (backTo pos (starEach es X.env)).any (·.1) = false := by rfl) : DE X g W (.Call (.Name x p) (e :: es) [] pos) (bnd mas (callF (mkF c (g.lay c).length f))) := by
  obtain ⟨a, fd, ps, F, hM, hm, hb⟩ := F.ex
  exact pe_imp (pe_makeS hM F hr hg hm hb (fun σ => passAt tk σ) ha hdb he hpl) fun σ H Q ⟨I, env, ok, h⟩ => tr_bnd (Rr' := RL X.K g) ok h fun vs ds I1 H1 env1 st r h1 => out_make st.ok hn r h1
/-- f(x, ..): f changes what the name x holds -/
theorem out_call1 {K : PySem.W.Frag} {I H : Hp} {σ : L2.St} {env : DL.Env} {f : FD1} {i : Nat} {ds : List D} {vs : List V} {q : Addr} {Q : VK} (ok : EnvOk K g I H σ env) (hn : Ar1 n f) (hx : ∀ s, env[i]? = some s → s.pin = true → σ[i]? = some (some (.ref q))) (r : Reps K g I ds vs) (h : Out K g W (RD K g) I H σ env (call1 i f ds env) Q) : sp1 K g n f (.ref q :: vs) H Q (WE W σ) := by
  unfold call1 at h
  cases e : env[i]? with
  | none => rw [e] at h; exact h.elim
  | some s =>
    rw [e] at h
    dsimp only at h
    by_cases hp : s.pin = true
    · rw [if_pos hp] at h
      have hq := hx s e hp
      have hs : SlotOk K g I H s (some (.ref q)) := ok.slot i s _ e hq
      cases hf : f s ds with
      | bad => rw [hf] at h; exact h.elim
      | ok d s' =>
        rw [hf] at h
        dsimp only at h
        by_cases hp' : s'.pin = true
        · rw [if_pos hp'] at h
          refine ⟨by rw [List.length_cons, ← r.length]; exact hn s ds (by rw [hf]; simp), I, s, ds, q, vs, ok.pre, rfl, hp, hs, r, ?_⟩
          rw [hf]
          exact fun v I' H' fs rv hs' => h v I' H' (ok.call1 e hq hp hp' fs hs') rv
        · rw [if_neg hp'] at h; exact h.elim
      | err c s' =>
        rw [hf] at h
        dsimp only at h
        by_cases hp' : s'.pin = true
        · rw [if_pos hp'] at h
          refine ⟨by rw [List.length_cons, ← r.length]; exact hn s ds (by rw [hf]; simp), I, s, ds, q, vs, ok.pre, rfl, hp, hs, r, ?_⟩
          rw [hf]
          exact fun I' H' fs hs' => h I' H' (ok.call1 e hq hp hp' fs hs')
        · rw [if_neg hp'] at h; exact h.elim
    · rw [if_neg hp] at h; exact h.elim
def pinned (i : Nat) (m : M D) : M D := fun env => match env[i]? with
  | some s => if s.pin = true then m env else .bad
  | none => .bad
theorem d_call1 {f : FD1} {i : Nat} {y : Str} {py : Pos} (F : FnD X.prog X.w X.K X.mg X.base x k n (sp1 X.K g n f)) (hn : Ar1 n f) (tk : Takes X W) (hr : Room k X.A) (hy : X.N[i]? = some y) (ha : DA X g W es mas)
    (hv : Vis X.env.scope y := by first | exact Or.inl rfl | exact Or.inr (Or.inl rfl) | exact Or.inr (Or.inr rfl)) (hg : Gl X x := by rfl) (hdb : (x == ("__debug__" : Str)) = false := by decide)
    (hd : (y == ("__debug__" : Str)) = false := by decide) (hcd : (y == ("__classdict__" : Str)) = false := by decide)
    (he : starEach (.Name y py :: es) X.env = (false, eval (.Name y py) X.env) :: starEach es X.env := by rfl) (hpl : (backTo pos (starEach es X.env)).any (·.1) = false := by rfl) : DE X g W (.Call (.Name x p) (.Name y py :: es) [] pos) (pinned i (bnd mas (call1 i f))) := by
  obtain ⟨a, fd, ps, F, hm, hk, hb⟩ := F.ex
  refine pe_imp (pe_callS F hr hg hm hk hb (fun σ => passAt tk σ) (pa_cons (pv i hy hv hd hcd) ha he) hdb he hpl) fun σ H Q ⟨I, env, ok, h⟩ => ?_
  unfold pinned at h
  cases e : env[i]? with
  | none => rw [e] at h; exact h.elim
  | some s =>
    rw [e] at h
    dsimp only at h
    by_cases hp : s.pin = true
    · rw [if_pos hp] at h
      obtain ⟨z, hz, hs⟩ := ok.lk e
      obtain ⟨q, o, rfl, _⟩ := hs.own_of (pin_own hp)
      refine ⟨.ref q, hz, tr_bnd (Rr' := RL X.K g) ok h fun vs ds I1 H1 env1 st r h1 => out_call1 st.ok hn (fun s' _ _ => ?_) r h1⟩
      exact hz
    · rw [if_neg hp] at h; exact h.elim
end
end DL
set_option Elab.async false
set_option linter.all false
set_option maxRecDepth 100000
set_option maxHeartbeats 4000000
set_option autoImplicit false
namespace DL
open PySem PySem.Spec PyProof.Rows L2 LamX

/-! ### a def keeps its promise -/
def env0 (k : Nat) (ds : List D) : DL.Env := ds.map .im ++ List.replicate (k - ds.length) .no
def runF (n k : Nat) (m : M Fl) : FD := fun ds => if ds.length = n then match m (env0 k ds) with
    | .ok .nx _ => .ok .non
    | .ok (.ret d) _ => .ok d
    | .ok _ _ => .bad
    | .err c _ => .err c
    | .bad => .bad
  else .bad
def out1 (d : D) (env : DL.Env) : FR1 := match env[0]? with
  | some s => .ok d s
  | none => .bad
def run1 (n k : Nat) (m : M Fl) : FD1 := fun s ds => if ds.length + 1 = n ∧ s.pin = true then match m (s :: env0 (k - 1) ds) with
    | .ok .nx env => out1 .non env
    | .ok (.ret d) env => out1 d env
    | .ok _ _ => .bad
    | .err c env => match env[0]? with
      | some s => .err c s
      | none => .bad
    | .bad => .bad
  else .bad
theorem ar_run {n k : Nat} {m : M Fl} : Ar n (runF n k m) := fun ds h => by
  unfold runF at h
  split at h
  · assumption
  · exact absurd rfl h
theorem ar_run1 {n k : Nat} {m : M Fl} : Ar1 n (run1 n k m) := fun s ds h => by
  unfold run1 at h
  split at h
  · rename_i q; exact q.1
  · exact absurd rfl h
section
variable {K : PySem.W.Frag} {g : Gx} {I H I' H' : Hp} {σ' : L2.St} {env' : DL.Env}
theorem start_get {N : List Str} {vs : List V} {i : Nat} {x : Option V} (h : (L2.start N vs)[i]? = some x) : (∃ v, vs[i]? = some v ∧ x = some v) ∨ (vs.length ≤ i ∧ x = none) := by
  unfold L2.start at h
  by_cases hi : i < vs.length
  · rw [List.getElem?_append_left (by simpa using hi), List.getElem?_map] at h
    obtain ⟨v, hv, rfl⟩ := Option.map_eq_some_iff.mp h
    exact .inl ⟨v, hv, rfl⟩
  · rw [List.getElem?_append_right (by simpa using Nat.le_of_not_lt hi)] at h
    exact .inr ⟨Nat.le_of_not_lt hi, (List.mem_replicate.mp (List.mem_of_getElem? h)).2⟩
theorem env0_get {k : Nat} {ds : List D} {i : Nat} {s : Slot} (h : (env0 k ds)[i]? = some s) : (∃ d, ds[i]? = some d ∧ s = .im d) ∨ s = .no := by
  unfold env0 at h
  by_cases hi : i < ds.length
  · rw [List.getElem?_append_left (by simpa using hi), List.getElem?_map] at h
    obtain ⟨v, hv, rfl⟩ := Option.map_eq_some_iff.mp h
    exact .inl ⟨v, hv, rfl⟩
  · rw [List.getElem?_append_right (by simpa using Nat.le_of_not_lt hi)] at h
    exact .inr (List.mem_replicate.mp (List.mem_of_getElem? h)).2
theorem env0_noown {k : Nat} {ds : List D} {i : Nat} {s : Slot} (h : (env0 k ds)[i]? = some s) : s.own = false := by
  rcases env0_get h with ⟨d, _, rfl⟩ | rfl <;> rfl
theorem start_len {N : List Str} {vs : List V} (h : vs.length ≤ N.length) : (L2.start N vs).length = N.length := by
  unfold L2.start
  rw [List.length_append, List.length_map, List.length_replicate]; omega
theorem env0_len {k : Nat} {ds : List D} (h : ds.length ≤ k) : (env0 k ds).length = k := by
  unfold env0
  rw [List.length_append, List.length_map, List.length_replicate]; omega
theorem start_ok {N : List Str} {ds : List D} {vs : List V} (p : Pre K g I H) (r : Reps K g I ds vs) (h : vs.length ≤ N.length) : EnvOk K g I H (L2.start N vs) (env0 N.length ds) where
  sub := p.sub
  nt := p.nt
  tabs := p.tabs
  len := by rw [start_len h, env0_len (by rw [r.length]; exact h)]
  slot := fun i s x e1 e2 => by
    rcases env0_get e1 with ⟨d, hd, rfl⟩ | rfl
    · obtain ⟨v, hv, rv⟩ := r.get hd
      rcases start_get e2 with ⟨w, hw, rfl⟩ | ⟨hl, _⟩
      · rw [hv] at hw; cases hw; exact ⟨v, rfl, rv⟩
      · have := (List.getElem?_eq_some_iff.mp hv).1; omega
    · trivial
  sep := fun i j s s' a h1 h2 h3 _ _ _ => by rw [env0_noown h1] at h3; cases h3
theorem start_noown {N : List Str} {ds : List D} {vs : List V} {a : Addr} : ¬ Own (L2.start N vs) (env0 N.length ds) a := fun ⟨i, s, h1, h2, _⟩ => by rw [env0_noown h1] at h2; cases h2
theorem fst_of {N : List Str} {ds : List D} {vs : List V} (s : Stp K g I H (L2.start N vs) (env0 N.length ds) I' H' σ' env') : Fst K g none I H I' H' :=
  ⟨s.ok.sub, s.ok.nt, s.ok.tabs, s.sub, fun a o e _ t => s.keep a o e start_noown t, s.there, fun a e => (s.fresh a e).imp id fun q => q.elim id fun z => absurd z start_noown⟩
/-- the first slot is another's -/
theorem start1_ok {N : List Str} {n : Str} {s : Slot} {p : Addr} {ds : List D} {vs : List V} (pr : Pre K g I H) (hs : SlotOk K g I H s (some (.ref p))) (r : Reps K g I ds vs) (h : vs.length ≤ N.length) : EnvOk K g I H (some (.ref p) :: L2.start N vs) (s :: env0 N.length ds) where
  sub := pr.sub
  nt := pr.nt
  tabs := pr.tabs
  len := by rw [List.length_cons, List.length_cons, start_len h, env0_len (by rw [r.length]; exact h)]
  slot := fun i z x e1 e2 => by
    cases i with
    | zero => simp at e1 e2; subst e1 e2; exact hs
    | succ i => exact (start_ok pr r h).slot i z x (by simpa using e1) (by simpa using e2)
  sep := fun i j z z' a h1 h2 h3 h4 _ _ => by
    cases i with
    | zero =>
      cases j with
      | zero => rfl
      | succ j => rw [env0_noown (by simpa using h2)] at h4; cases h4
    | succ i => rw [env0_noown (by simpa using h1)] at h3; cases h3
theorem start1_own {N : List Str} {s : Slot} {p : Addr} {ds : List D} {vs : List V} {a : Addr} (h : Own (some (.ref p) :: L2.start N vs) (s :: env0 N.length ds) a) : a = p := by
  obtain ⟨i, z, h1, h2, h3⟩ := h
  cases i with
  | zero => simp at h3; exact h3.symm
  | succ i => rw [env0_noown (by simpa using h1)] at h2; cases h2
theorem fst1_of {N : List Str} {s : Slot} {p : Addr} {ds : List D} {vs : List V} {o : HO} (hp : H p = some o) (hi : ∀ a, I' a ≠ none → I a ≠ none ∨ Fr H a ∨ Own (some (V.ref p) :: L2.start N vs) (s :: env0 N.length ds) a) (ip' : I' p = none)
    (st : Stp K g I H (some (.ref p) :: L2.start N vs) (s :: env0 N.length ds) I' H' σ' env') : Fst K g (some p) I H I' H' :=
  ⟨st.ok.sub, st.ok.nt, st.ok.tabs, st.sub, fun a o e n t => st.keep a o e (fun q => n (by rw [start1_own q])) t, st.there, fun a e => (st.fresh a e).imp id fun q => q.elim id fun z => by
    rw [start1_own z] at e; exact absurd ip' e⟩
end
abbrev WF (E : XK) : WX := fun cls d _ H => E cls d H
section
variable {P : Program} {w : World} {K : PySem.W.Frag} {mg : Str → Option Value} {base : Heap} {g : Gx} {x qual : Str} {st : Stmt} {f : Addr} {fd : FuncData} {N ps : List Str} {k : Nat} {m : M Fl}
theorem pre_len (S : FnScope N ps (defScope st)) : ps.length ≤ N.length := by
  have h : min ps.length N.length = ps.length := by
    have h := congrArg List.length S.pre
    rwa [List.length_take] at h
  omega
theorem fn_ok (F : Fun K x qual st f fd) (S : FnScope N ps (defScope st))
    (hb : ∀ (cdv : Value) (A : Around) (outer : List PySem.Env) (s : Shared) (H : Hp) (E : XK), Room k (A.deeper (envOfC qual (defScope st) s.heap.objs.size f cdv)) → DSs (cxOf (L2.CX P w) P w K mg base N qual (defScope st) f cdv A outer s H E) g (WF E) (defBody st) m) :
    FnOk P w K mg base (L2.CX P w) (k + 1) f fd ps (spF K g ps.length (runF ps.length N.length m)) :=
  F.okX S (fun vs H Q E h => h.1) fun cdv A outer s H vs Q E hr h => ⟨_, hb cdv A outer s H E hr, by
    obtain ⟨hl, I, ds, pr, r, h⟩ := h
    refine ⟨I, env0 N.length ds, start_ok pr r (by rw [hl]; exact pre_len S), ?_⟩
    unfold runF at h
    rw [if_pos (by rw [r.length]; exact hl)] at h
    cases e : m (env0 N.length ds) with
    | bad => rw [e] at h; exact h
    | err c env' => rw [e] at h; exact fun σ' I' H' s => h I' H' (fst_of s)
    | ok fl env' =>
      rw [e] at h
      cases fl with
      | nx => exact fun σ' I' H' s => h .non I' H' (fst_of s) (rep_non.mpr rfl)
      | ret d => exact fun v σ' I' H' s rv => h v I' H' (fst_of s) rv
      | brk => exact h.elim
      | ct => exact h.elim⟩
theorem fn_ok1 (F : Fun K x qual st f fd) (S : FnScope N ps (defScope st))
    (hb : ∀ (cdv : Value) (A : Around) (outer : List PySem.Env) (s : Shared) (H : Hp) (E : XK), Room k (A.deeper (envOfC qual (defScope st) s.heap.objs.size f cdv)) → DSs (cxOf (L2.CX P w) P w K mg base N qual (defScope st) f cdv A outer s H E) g (WF E) (defBody st) m) :
    FnOk P w K mg base (L2.CX P w) (k + 1) f fd ps (sp1 K g ps.length (run1 ps.length N.length m)) :=
  F.okX S (fun vs H Q E h => h.1) fun cdv A outer s H vs Q E hr h => ⟨_, hb cdv A outer s H E hr, by
    obtain ⟨hl, I, sl, ds, p, us, pr, rfl, hp, hs, r, h⟩ := h
    have hN := pre_len S
    rw [List.length_cons] at hl
    obtain ⟨N1, Nr, rfl⟩ : ∃ a r, N = a :: r := by
      cases N with
      | nil => rw [List.length_nil] at hN; omega
      | cons a r => exact ⟨a, r, rfl⟩
    have hNr : us.length ≤ Nr.length := by rw [List.length_cons] at hN; omega
    have e0 : L2.start (N1 :: Nr) (.ref p :: us) = some (.ref p) :: L2.start Nr us := by
      unfold L2.start; simp
    have ok := start1_ok (N := Nr) (n := N1) pr hs r hNr
    unfold run1 at h
    rw [if_pos ⟨by rw [r.length]; exact hl, hp⟩] at h
    have e1 : (N1 :: Nr).length - 1 = Nr.length := by simp
    rw [e1] at h
    rw [e0]
    refine ⟨I, sl :: env0 Nr.length ds, ok, ?_⟩
    obtain ⟨p', o, e2, e3, e4, e5⟩ := hs.own_of (pin_own hp)
    cases e2
    have fin : ∀ {σ' : L2.St} {I' H' : Hp} {env' : DL.Env}, Stp K g I H (some (.ref p) :: L2.start Nr us) (sl :: env0 Nr.length ds) I' H' σ' env' → ∃ s', env'[0]? = some s' ∧ SlotOk K g I' H' s' (some (.ref p)) ∧ Fst K g (some p) I H I' H' := fun {σ' I' H' env'} s => by
      obtain ⟨q1, s', q2, q3⟩ := s.pin 0 sl rfl hp
      have q1 : σ'[0]? = some (some (.ref p)) := q1
      have so := s.ok.slot 0 s' _ q2 q1
      obtain ⟨p', o', z1, z2, z3, z4⟩ := so.own_of (pin_own q3)
      cases z1
      exact ⟨s', q2, so, fst1_of e3 s.fresh z3 s⟩
    cases e : m (sl :: env0 Nr.length ds) with
    | bad => rw [e] at h; exact h
    | err c env' =>
      rw [e] at h
      intro σ' I' H' s
      obtain ⟨s', q1, q2, q3⟩ := fin s
      have h2 : (match (match env'[0]? with
        | some s => FR1.err c s
        | none => .bad) with
        | .ok d s' => ∀ v I' H', Fst K g (some p) I H I' H' → Rep K g I' d v → SlotOk K g I' H' s' (some (.ref p)) → Q v H'
        | .err c s' => ∀ I' H', Fst K g (some p) I H I' H' → SlotOk K g I' H' s' (some (.ref p)) → E (.ref (g.ca c)) none H'
        | .bad => False) := h
      rw [q1] at h2
      exact h2 I' H' q3 q2
    | ok fl env' =>
      rw [e] at h
      cases fl with
      | nx =>
        intro σ' I' H' s
        obtain ⟨s', q1, q2, q3⟩ := fin s
        have h2 : (match out1 .non env' with
          | .ok d s' => ∀ v I' H', Fst K g (some p) I H I' H' → Rep K g I' d v → SlotOk K g I' H' s' (some (.ref p)) → Q v H'
          | .err c s' => ∀ I' H', Fst K g (some p) I H I' H' → SlotOk K g I' H' s' (some (.ref p)) → E (.ref (g.ca c)) none H'
          | .bad => False) := h
        unfold out1 at h2
        rw [q1] at h2
        exact h2 .non I' H' q3 (rep_non.mpr rfl) q2
      | ret d =>
        intro v σ' I' H' s rv
        obtain ⟨s', q1, q2, q3⟩ := fin s
        have h2 : (match out1 d env' with
          | .ok d s' => ∀ v I' H', Fst K g (some p) I H I' H' → Rep K g I' d v → SlotOk K g I' H' s' (some (.ref p)) → Q v H'
          | .err c s' => ∀ I' H', Fst K g (some p) I H I' H' → SlotOk K g I' H' s' (some (.ref p)) → E (.ref (g.ca c)) none H'
          | .bad => False) := h
        unfold out1 at h2
        rw [q1] at h2
        exact h2 v I' H' q3 rv q2
      | brk => exact h.elim
      | ct => exact h.elim⟩
end

/-! ### raise X('..'), raise X(e) -/
structure ExD (K : PySem.W.Frag) (mg : Str → Option Value) (g : Gx) (c : Nat) (x : Str) : Prop where
  gl : mg x = some (.ref (g.ca c))
  exc : PySem.W.excIn K (g.ca c) [.type "ValueError", .type "Exception", .type "BaseException", .type "object"] "ValueError.__new__" = true
  kp : PySem.W.keepIn K (.ref (g.ca c)) = true
  sb : PySem.W.subIn K (.ref (g.ca c)) (.type "BaseException") = some true
  ty : PySem.W.typeIn K (.ref (g.ca c)) = some (.type "type")
section
variable {X : Cx} {g : Gx} {W : WX} {pos pos' p p2 : Pos} {x m : Str} {c j : Nat} {e : Expr} {ma : M D}
theorem s_raise (hE : ExD X.K X.mg g c x) (tk : Takes X W) (hc : X.calm = true := by rfl) (hg : Gl X x := by rfl) (hdb : (x == ("__debug__" : Str)) = false := by decide) : DS X g W (.Raise (some (.Call (.Name x p) [.Constant (.str m) j p2] [] pos)) none pos') (raise c) :=
  ps_imp (ps_raise hc tk (pmk_own PySem.F.excBase_ValueError hE.exc hE.gl hE.kp (raises_own hE.sb hE.ty) hg hdb)) fun Dn σ H ⟨I, env, ok, h⟩ => h σ I H (StpP.refl ok)
end

/-! ### self.f = e -/
def fldM (i c j : Nat) (m : M D) : M Fl := bnd m fun d env => match env[i]? with
  | some (.sf c' l) => if c' = c then (if l.length = j then .ok .nx (env.set i (.sf c (l ++ [d]))) else .bad) else .bad
  | _ => .bad
theorem putF_zip : ∀ {fs : List Str} {vs : List V} {f : Str} {y : V} {j : Nat}, fs[j]? = some f → (∀ k, k < j → fs[k]? ≠ some f) → vs.length = j → putF f y (fs.zip vs) = fs.zip (vs ++ [y])
  | [], _, _, _, _, h, _, _ => by simp at h
  | x :: fs, [], f, y, j, h, hn, hl => by
    simp at hl; subst hl
    simp at h; subst h
    simp [putF]
  | x :: fs, v :: vs, f, y, j, h, hn, hl => by
    cases j with
    | zero => simp at hl
    | succ j =>
      have hx : x ≠ f := fun e => hn 0 (by omega) (by simp [e])
      have := putF_zip (fs := fs) (vs := vs) (f := f) (y := y) (j := j) (by simpa using h) (fun k hk => by have := hn (k + 1) (by omega); simpa using this) (by simpa using hl)
      simp only [List.zip_cons_cons, List.cons_append, putF]
      first
        | rw [if_neg hx, this]
        | rw [if_neg (Ne.symm hx), this]
        | (simp [hx, this])
section
variable {K : PySem.W.Frag} {g : Gx} {W : WX} {I H I' H' : Hp} {σ : L2.St} {env : DL.Env}
/-- what an own slot holds is changed in place -/
theorem EnvOk.mutate (ok : EnvOk K g I H σ env) {i : Nat} {s s' : Slot} {p : Addr} {o : HO} (e : env[i]? = some s) (hs : s.own = true) (hs' : s'.own = true) (hp : s.pin = s'.pin) (hx : σ[i]? = some (some (.ref p))) (nt : ∀ ps, o ≠ .tbl ps) (ho : SlotOk K g I (upd H p o) s' (some (.ref p))) :
    Stp K g I H σ env I (upd H p o) σ (env.set i s') := by
  have hil : i < env.length := (List.getElem?_eq_some_iff.mp e).1
  have hown : Own σ env p := ⟨i, s, e, hs, hx⟩
  obtain ⟨ip, o0, hp0, nt0⟩ := ok.own_i hown
  have cases_ : ∀ (j : Nat) (y : Slot), (env.set i s')[j]? = some y → (j = i ∧ y = s') ∨ (j ≠ i ∧ env[j]? = some y) := fun j y h => by
    by_cases hj : j = i
    · subst hj; rw [List.getElem?_set_self hil] at h; exact .inl ⟨rfl, (Option.some.inj h).symm⟩
    · rw [List.getElem?_set_ne (Ne.symm hj)] at h; exact .inr ⟨hj, h⟩
  have key : ∀ (j : Nat) (y : Slot), (env.set i s')[j]? = some y → y.own = true → ∃ z, env[j]? = some z ∧ z.own = true := fun j y h o => by
    rcases cases_ j y h with ⟨rfl, rfl⟩ | ⟨hj, h⟩
    · exact ⟨s, e, hs⟩
    · exact ⟨y, h, o⟩
  refine ⟨⟨⟨fun {a u} q dk => ?_, fun {a u} q => ?_⟩, ok.nt, fun q hq => ?_, by rw [List.length_set]; exact ok.len, fun j y x h1 h2 => ?_, fun j j' y y' a h1 h2 h3 h4 h5 h6 => ?_⟩, Le.refl _, fun a u q n t => ?_, fun a q => ?_, fun a q => .inl q, fun a q => ?_, fun j y h1 h2 => ?_⟩
  · have : a ≠ p := fun z => by rw [z, ip] at q; cases q
    rw [upd_ne this]; exact ok.sub.get q dk
  · have : a ≠ p := fun z => by rw [z, ip] at q; cases q
    rcases ok.sub.rd q with r | ⟨u', r⟩
    · exact .inl (by rw [upd_ne this]; exact r)
    · exact .inr ⟨u', by rw [upd_ne this]; exact r⟩
  · obtain ⟨ps, h1, h2, h3⟩ := ok.tabs q hq
    have n1 : q.1 ≠ p := fun z => by rw [z, hp0] at h1; exact nt0 ps (Option.some.inj h1)
    refine ⟨ps, by rw [upd_ne n1]; exact h1, h2, fun pos cv hc => ?_⟩
    obtain ⟨c, z1, z2⟩ := h3 pos cv hc
    have n2 : c ≠ p := fun z => by
      rw [z] at z2
      obtain ⟨p', o', w1, w2, _⟩ := (ok.slot i s _ e hx).own_of hs
      cases w1
      rw [z2] at w2
      have hso := ok.slot i s _ e hx
      unfold CodeO at z2
      cases s with
      | no => cases hs
      | im d => cases hs
      | ol l => obtain ⟨_, _, q1, q2, _⟩ := hso; cases q1; rw [z2] at q2; cases q2
      | io l => obtain ⟨_, _, q1, q2, _⟩ := hso; cases q1; rw [z2] at q2; cases q2
      | od ks l => obtain ⟨_, _, q1, q2, _⟩ := hso; cases q1; rw [z2] at q2; cases q2
      | ot ks l => obtain ⟨_, _, q1, q2, _⟩ := hso; cases q1; rw [z2] at q2; cases q2
      | sf c l => obtain ⟨_, _, _, q1, q2, _⟩ := hso; cases q1; rw [z2] at q2; cases q2
    exact ⟨c, z1, by rw [upd_ne n2]; exact z2⟩
  · rcases cases_ j y h1 with ⟨rfl, rfl⟩ | ⟨hj, h1⟩
    · rw [hx] at h2; cases h2; exact ho
    · refine (ok.slot j y x h1 h2).mono (Le.refl _) (fun q u hy hq r => ?_) fun q hy hq => ?_
      · have : q ≠ p := fun z => by
          rw [hq, z] at h2
          exact hj (ok.sep j i y s p h1 e hy hs h2 hx)
        rw [upd_ne this]; exact r
      · obtain ⟨p', o', e3, _, e5, _⟩ := (ok.slot j y x h1 h2).own_of hy
        rw [hq] at e3; cases e3
        exact e5
  · obtain ⟨z, q1, q2⟩ := key j y h1 h3
    obtain ⟨z', q3, q4⟩ := key j' y' h2 h4
    exact ok.sep j j' z z' a q1 q3 q2 q4 h5 h6
  · have : a ≠ p := fun z => n (by rw [z]; exact hown)
    rw [upd_ne this]; exact q
  · by_cases h : a = p
    · rw [h] at q
      exact (q.not upd_same nt).elim
    · exact q.elim (fun r => .inl (by rw [upd_ne h] at r; exact r)) fun ⟨ps, r⟩ => .inr ⟨ps, by rw [upd_ne h] at r; exact r⟩
  · obtain ⟨j, y, h1, h2, h3⟩ := q
    obtain ⟨z, q1, q2⟩ := key j y h1 h2
    exact .inl ⟨j, z, q1, q2, h3⟩
  · refine ⟨rfl, ?_⟩
    by_cases hj : j = i
    · subst hj
      rw [e] at h1; cases h1
      exact ⟨s', List.getElem?_set_self hil, by rw [← hp]; exact h2⟩
    · exact ⟨y, by rw [List.getElem?_set_ne (Ne.symm hj)]; exact h1, h2⟩
end
section
variable {X : Cx} {g : Gx} {W : WX} {pos pos' p p2 : Pos} {x y m : Str} {c j i : Nat} {e : Expr} {ma : M D}
theorem s_fld {f : Str} (hF : FldOk X.K g f [(c, j)]) (hlay : (g.lay c).length < 900) (hv : DE X g W e ma) (hy : X.N[i]? = some y) (hvis : Vis X.env.scope y := by first | exact Or.inl rfl | exact Or.inr (Or.inl rfl) | exact Or.inr (Or.inr rfl))
    (hs : swapsWith e (some (.Attribute (.Name y p) f pos')) pos.line X.env = pure false := by rfl) (hd : (y == ("__debug__" : Str)) = false := by decide) (hcd : (y == ("__classdict__" : Str)) = false := by decide) : DS X g W (.Assign [.Attribute (.Name y p) f pos'] e pos) (fldM i c j ma) :=
  ps_imp (L2.ps_fld (pv i hy hvis hd hcd) hv hs) fun Dn σ H ⟨I, env, ok, h⟩ => trS_bnd (Rr := RD X.K g) ok h fun v d I1 H1 env1 st r h1 => by
    cases e1 : env1[i]? with
    | none => rw [e1] at h1; exact h1.elim
    | some s =>
      rw [e1] at h1
      cases s with
      | sf c' l =>
        have h2 : OutS X.K g W I1 H1 σ env1 (if c' = c then (if l.length = j then R.ok .nx (env1.set i (.sf c (l ++ [d]))) else .bad) else .bad) Dn := h1
        split at h2
        · rename_i hc
          subst hc
          split at h2
          · rename_i hl
            obtain ⟨z, hz, hso⟩ := st.ok.lk e1
            obtain ⟨q, dx, us, rfl, q2, q3, q4⟩ := id hso
            obtain ⟨f1, f2, f3, f4⟩ := hF c' j (by simp)
            refine ⟨.ref q, hz, q, g.ca c', dx, _, rfl, q2, f1, f2, ?_, ?_⟩
            · have := List.length_zip (l₁ := g.lay c') (l₂ := us); omega
            · rw [putF_zip f3 f4 (by rw [← q4.length]; exact hl)]
              refine h2 _ _ _ (st.ok.mutate (s' := .sf c' (l ++ [d])) e1 rfl rfl rfl hz (fun _ z => nomatch z) ⟨q, dx, us ++ [v], rfl, upd_same, q3, q4.append (Reps.cons r Reps.nil)⟩)
          · exact h2.elim
        · exact h2.elim
      | _ => exact h1.elim
end
end DL
set_option Elab.async false
set_option linter.all false
set_option maxRecDepth 100000
set_option maxHeartbeats 4000000
set_option autoImplicit false
namespace DL
open PySem PySem.Spec PyProof.Rows L2 LamX

/-! ### fresh lists: nobody else holds them -/
abbrev RO (K : PySem.W.Frag) (g : Gx) : Rl (List D) V := fun H I' H' ds v => ∃ p vs, v = .ref p ∧ H' p = some (.lst vs) ∧ Fr H p ∧ I' p = none ∧ Reps K g I' ds vs
instance {K : PySem.W.Frag} {g : Gx} : RMono (RO K g) := ⟨fun {H H1 I' H' a b} f ⟨p, vs, e1, e2, e3, e4, e5⟩ => ⟨p, vs, e1, e2, f p e3, e4, e5⟩⟩
abbrev DC (X : Cx) (g : Gx) (W : WX) (e : Expr) (m : M (List D)) : Prop := PE X e (tr X.K g W (RO X.K g) m)
section
variable {ee : Prop} {K : PySem.W.Frag} {g : Gx} {W : WX} {I H I1 H1 I' H' : Hp} {σ σ' : L2.St} {env env' env1 : DL.Env} {p : Addr} {o : HO}
/-- a new object gets known -/
theorem StpP.know (s : StpP ee K g I H σ env I' H' σ' env') (hp : Fr H p) (hi : I' p = none) (ho : H' p = some o) (nt : ∀ ps, o ≠ .tbl ps) (hn : ¬ Own σ' env' p) : StpP ee K g I H σ env (upd I' p o) H' σ' env' := by
  have le : Le I' (upd I' p o) := Le.new hi
  refine ⟨⟨⟨fun {a u} q dk => ?_, fun {a u} q => ?_⟩, fun a ps q => ?_, s.ok.tabs, s.ok.len, fun j z x h1 h2 => ?_, s.ok.sep⟩, s.sub.trans le, s.keep, s.there, fun a q => ?_, s.own, s.pin⟩
  · by_cases hb : a = p
    · subst hb; rw [upd_same] at q; rw [← q]; exact ho
    · rw [upd_ne hb] at q; exact s.ok.sub.get q dk
  · by_cases hb : a = p
    · subst hb; rw [upd_same] at q; obtain rfl := Option.some.inj q; exact .inl ho
    · rw [upd_ne hb] at q; exact s.ok.sub.rd q
  · by_cases hb : a = p
    · subst hb; rw [upd_same] at q; exact nt ps (Option.some.inj q)
    · rw [upd_ne hb] at q; exact s.ok.nt a ps q
  · refine (s.ok.slot j z x h1 h2).mono le (fun _ _ _ _ q => q) fun q hz hq => ?_
    have : q ≠ p := fun e => hn ⟨j, z, h1, hz, by rw [h2, hq, e]⟩
    rw [upd_ne this]
    obtain ⟨p', o', e3, e4, e5, _⟩ := (s.ok.slot j z x h1 h2).own_of hz
    rw [hq] at e3; cases e3
    exact e5
  · by_cases hb : a = p
    · subst hb; exact .inr (.inl hp)
    · rw [upd_ne hb] at q; exact s.fresh a q
theorem StpP.newOwn (ok : EnvOk K g I H σ env) (s : StpE K g I H σ env I' H' σ' env') (hp : Fr H p) : ¬ Own σ' env' p := fun q => ok.noown hp (s.ownE q)
/-- a new object gets a slot's own -/
theorem StpP.give (ok : EnvOk K g I H σ env) (s : StpE K g I H σ env I' H' σ env') {i : Nat} {z t : Slot} (hp : Fr H p) (hz : env'[i]? = some z) (hzp : z.pin = false) (ht : t.own = true) (hs : SlotOk K g I' H' t (some (.ref p))) :
    Stp K g I H σ env I' H' (σ.set i (some (.ref p))) (env'.set i t) := by
  obtain ⟨k1, k2, k3⟩ := s.ok.setOwn hz hzp ht hs (StpP.newOwn ok s hp) (H0 := H) hp
  refine ⟨k1, s.sub, s.keep, s.there, s.fresh, fun a q => (k2 a q).imp s.ownE id, fun j y h1 h2 => ?_⟩
  obtain ⟨e1, s1, h3, p1⟩ := s.pin j y h1 h2
  obtain ⟨e2, s2, h4, p2⟩ := k3 j s1 h3 p1
  exact ⟨e2.trans e1, s2, h4, p2⟩
/-- what is asked of a fresh list, where it gets known -/
theorem ro_known {Q : VK} {m : M (List D)} (ok : EnvOk K g I H σ env) (h : Out K g W (RD K g) I H σ env (bnd m (fun l => ret (.lst l)) env) Q) : tr K g W (RO K g) m σ H Q := by
  refine ⟨I, env, ok, ?_⟩
  unfold bnd at h
  cases e : m env with
  | bad => rw [e] at h; exact h
  | err c env' => rw [e] at h; exact h
  | ok a env' =>
    rw [e] at h
    rintro b I' H' s ⟨p, vs, rfl, e2, e3, e4, e5⟩
    exact h (.ref p) (upd I' p (.lst vs)) H' (s.know e3 e4 e2 (fun _ z => nomatch z) (StpP.newOwn ok s e3)) (rep_lst.mpr ⟨p, vs, rfl, upd_same, e5.mono (Le.new e4)⟩)
end
/-- name := an object of the frame's own -/
def setS (i : Nat) (t : Slot) : M Unit := fun env => match env[i]? with
  | some s => if s.pin = true then .bad else .ok () (env.set i t)
  | none => .bad
theorem setS_or (i : Nat) (t : Slot) (env : DL.Env) : setS i t env = .bad ∨ ∃ z, env[i]? = some z ∧ z.pin = false ∧ setS i t env = .ok () (env.set i t) := by
  unfold setS
  cases e : env[i]? with
  | none => exact .inl rfl
  | some z =>
    cases hp : z.pin with
    | true => exact .inl (by show (if z.pin = true then (R.bad : R Unit) else _) = _; rw [if_pos hp])
    | false => exact .inr ⟨z, rfl, hp, by show (if z.pin = true then (R.bad : R Unit) else _) = _; rw [if_neg (by rw [hp]; exact Bool.false_ne_true)]⟩
def asgO (m : M (List D)) (i : Nat) : M Fl := bnd m fun l => bnd (setS i (.ol l)) fun _ => ret .nx
def mlo (m : M (List D)) : M (List D) := bnd m fun xs => if xs.length ≤ 16777216 then ret xs else DL.bad
def appM (i : Nat) (m : M D) : M Fl := fun env => match env[i]? with
  | some (.ol _) => bnd m (fun d env => match env[i]? with
    | some (.ol l) => if l.length < 16777216 then .ok .nx (env.set i (.ol (l ++ [d]))) else .bad
    | _ => .bad) env
  | _ => .bad
/-- a fresh list for the slot i -/
theorem trS_give {K : PySem.W.Frag} {g : Gx} {W : WX} {I H : Hp} {σ : L2.St} {env : DL.Env} {m : M (List D)} {i : Nat} {Dn : Ends} (ok : EnvOk K g I H σ env) (h : OutS K g W I H σ env (asgO m i env) Dn) : tr K g W (RO K g) m σ H (fun v H1 => Dn.nx (σ.set i (some v)) H1) := by
  refine ⟨I, env, ok, ?_⟩
  unfold asgO bnd at h
  cases e : m env with
  | bad => rw [e] at h; exact h
  | err c env' => rw [e] at h; exact fun I' H' s => h σ I' H' s.weak
  | ok a env' =>
    rw [e] at h
    dsimp only at h
    rintro b I' H' s ⟨p, vs, rfl, e2, e3, e4, e5⟩
    rcases setS_or i (.ol a) env' with e1 | ⟨z, ez, hp, e1⟩
    · rw [e1] at h; exact h.elim
    · rw [e1] at h
      exact h _ I' H' (StpP.give ok s e3 ez hp rfl ⟨p, vs, rfl, e2, e4, e5⟩)
section
variable {X : Cx} {g : Gx} {W : WX} {pos apos : Pos} {a b c e : Expr} {es : List Expr} {ma mb mc : M D} {mas m : M (List D)}
theorem d_ofL (h : DC X g W e m) : DE X g W e (bnd m fun l => ret (.lst l)) := pe_imp h fun σ H Q ⟨I, env, ok, h⟩ => ro_known ok h
theorem c_lst (h : DA X g W es mas) : DC X g W (.List es pos) (mlo mas) :=
  pe_imp (pe_lst h) fun σ H Q ⟨I, env, ok, h⟩ => tr_bnd (Rr' := RL X.K g) (Rr := RO X.K g) ok h fun vs ds I1 H1 env1 st r h1 => by
    by_cases hl : ds.length ≤ 16777216
    · rw [if_pos hl] at h1
      exact ⟨by rw [← r.length, line_eq]; exact hl, fun p hp => h1 _ I1 _ (st.ok.newH hp) ⟨p, vs, rfl, upd_same, .inl hp, st.ok.fresh_i hp, r⟩⟩
    · rw [if_neg hl] at h1; exact h1.elim
/-- name = e, e a fresh list -/
theorem s_setO {i : Nat} {x : Str} {pos' : Pos} (hN : X.N.Nodup) (hi : X.N[i]? = some x) (he : DC X g W e m) (hx : Loc X.env.scope x := by first | exact Or.inl rfl | exact Or.inr rfl) (hs : swapsWith e (some (.Name x pos')) pos.line X.env = pure false := by rfl) (hf : X.fn x = true ∨ X.env.scope.names.lookup x = some .local := by first | exact .inl rfl | exact .inr rfl | assumption) :
    DS X g W (.Assign [.Name x pos'] e pos) (asgO m i) :=
  ps_imp (ps_set hN hi hx he hs hf) fun Dn σ H ⟨I, env, ok, h⟩ => trS_give ok h
/-- name.append(e) -/
theorem s_app {i : Nat} {x : Str} {p : Pos} (hN : X.N[i]? = some x) (he : DE X g W e ma) (hv : Vis X.env.scope x := by first | exact Or.inl rfl | exact Or.inr (Or.inl rfl) | exact Or.inr (Or.inr rfl)) (hd : (x == ("__debug__" : Str)) = false := by decide) (hcd : (x == ("__classdict__" : Str)) = false := by decide)
    (hb : attributeBase (.Name x p) "append" X.env (eval (.Name x p) X.env) = eval (.Name x p) X.env := by rfl) (hl : (apos.endLine == pos.line) = true := by rfl) (hs : starEach [e] X.env = [(false, eval e X.env)] := by rfl)
    (hfew : ((backTo pos (starEach [e] X.env)).all (fun x => !x.1) && (backToKw pos (keywordEach [] X.env)).all (fun x => x.1.isSome) && decide ([e].length + ([] : List Keyword).length + (if ([] : List Keyword).isEmpty then 0 else 1) < 30)) = true := by rfl)
    {pos2 : Pos} (hsw : swapsWith (.Call (.Attribute (.Name x p) "append" apos) [e] [] pos) none pos2.line X.env = pure false := by rfl) : DS X g W (.Expr (.Call (.Attribute (.Name x p) "append" apos) [e] [] pos) pos2) (appM i ma) :=
  ps_imp (ps_expr (pe_bm PySem.F.plainAttrs_list PySem.F.slot_list_append PySem.F.type_list_append mt_append (pv i hN hv hd hcd) (pa_cons he pa_nil hs) hb hfew hl hs) hsw) fun Dn σ H ⟨I, env, ok, h⟩ => by
    unfold appM at h
    cases e0 : env[i]? with
    | none => rw [e0] at h; exact h.elim
    | some s =>
      rw [e0] at h
      cases s with
      | ol l0 =>
        obtain ⟨x0, hx0, p, vs, rfl, q1, q2, q3⟩ := ok.lk e0
        refine ⟨.ref p, hx0, .inl ⟨rfl, vs, SqL.of q1⟩, ?_⟩
        refine trS_bnd (Rr := RD X.K g) ok h fun v d I1 H1 env1 st r h1 => ?_
        cases e1 : env1[i]? with
        | none => rw [e1] at h1; exact h1.elim
        | some s1 =>
          rw [e1] at h1
          cases s1 with
          | ol l =>
            have h2 : OutS X.K g W I1 H1 σ env1 (if l.length < 16777216 then R.ok .nx (env1.set i (.ol (l ++ [d]))) else .bad) Dn := h1
            split at h2
            · rename_i hl
              obtain ⟨x1, hx1, p1, us, rfl, z1, z2, z3⟩ := st.ok.lk e1
              rw [hx0] at hx1; cases hx1
              refine ⟨_, us, v, rfl, rfl, z1, by rw [← z3.length, line_eq]; exact hl, ?_⟩
              exact h2 σ I1 _ (st.ok.mutate (s' := .ol (l ++ [d])) e1 rfl rfl rfl hx0 (fun _ z => nomatch z) ⟨_, us ++ [v], rfl, upd_same, z2, z3.append (Reps.cons r Reps.nil)⟩)
            · exact h2.elim
          | _ => exact h1.elim
      | _ => exact h.elim
end
end DL
set_option Elab.async false
set_option linter.all false
set_option maxRecDepth 100000
set_option maxHeartbeats 4000000
set_option autoImplicit false
namespace DL
open PySem PySem.Spec PyProof.Rows L2 LamX

/-! ### the slots of a comprehension's own names -/
def wipeE (env : DL.Env) : List Nat → DL.Env
  | [] => env
  | v :: vs => (wipeE env vs).set v .no
def noOwn (env : DL.Env) (vs : List Nat) : Bool := vs.all fun v => match env[v]? with
  | some s => !s.own
  | none => true
def restore (e0 env : DL.Env) : List Nat → DL.Env
  | [] => env
  | v :: vs => match e0[v]? with
    | some s => (restore e0 env vs).set v s
    | none => restore e0 env vs
theorem wipeE_len (env : DL.Env) : ∀ vs : List Nat, (wipeE env vs).length = env.length
  | [] => rfl
  | v :: vs => by unfold wipeE; rw [List.length_set, wipeE_len env vs]
theorem wipeE_out {env : DL.Env} {i : Nat} : ∀ {vs : List Nat}, i ∉ vs → (wipeE env vs)[i]? = env[i]?
  | [], _ => rfl
  | v :: vs, h => by
    have h1 : v ≠ i := fun e => h (by simp [e])
    unfold wipeE
    rw [List.getElem?_set_ne h1]
    exact wipeE_out fun q => h (List.mem_cons_of_mem _ q)
theorem wipeE_in {env : DL.Env} {i : Nat} {s : Slot} : ∀ {vs : List Nat}, i ∈ vs → (wipeE env vs)[i]? = some s → s = .no
  | v :: vs, h, e => by
    unfold wipeE at e
    by_cases hv : v = i
    · subst hv
      by_cases hl : v < (wipeE env vs).length
      · rw [List.getElem?_set_self hl] at e; exact (Option.some.inj e).symm
      · rw [List.getElem?_eq_none (by rw [List.length_set]; omega)] at e; cases e
    · rw [List.getElem?_set_ne hv] at e
      rcases List.mem_cons.mp h with q | q
      · exact absurd q.symm hv
      · exact wipeE_in q e
theorem noOwn_at {env : DL.Env} {vs : List Nat} {i : Nat} {s : Slot} (h : noOwn env vs = true) (hi : i ∈ vs) (e : env[i]? = some s) : s.own = false := by
  unfold noOwn at h
  have := List.all_eq_true.mp h i hi
  rw [e] at this
  simpa using this
theorem restore_len (e0 env : DL.Env) : ∀ vs : List Nat, (restore e0 env vs).length = env.length
  | [] => rfl
  | v :: vs => by
    unfold restore
    split
    · rw [List.length_set, restore_len e0 env vs]
    · exact restore_len e0 env vs
theorem restore_out {e0 env : DL.Env} {i : Nat} : ∀ {vs : List Nat}, i ∉ vs → (restore e0 env vs)[i]? = env[i]?
  | [], _ => rfl
  | v :: vs, h => by
    have h1 : v ≠ i := fun e => h (by simp [e])
    unfold restore
    split
    · rw [List.getElem?_set_ne h1]
      exact restore_out fun q => h (List.mem_cons_of_mem _ q)
    · exact restore_out fun q => h (List.mem_cons_of_mem _ q)
theorem restore_in {e0 env : DL.Env} {i : Nat} (hl : e0.length = env.length) : ∀ {vs : List Nat}, i ∈ vs → (restore e0 env vs)[i]? = e0[i]?
  | v :: vs, h => by
    unfold restore
    by_cases hv : v = i
    · subst hv
      split
      · rename_i s e
        rw [List.getElem?_set_self (by rw [restore_len, ← hl]; exact (List.getElem?_eq_some_iff.mp e).1), e]
      · rename_i e
        rw [e]
        exact List.getElem?_eq_none (by rw [restore_len, ← hl]; exact List.getElem?_eq_none_iff.mp e)
    · have hi : i ∈ vs := (List.mem_cons.mp h).resolve_left fun q => hv q.symm
      split
      · rw [List.getElem?_set_ne hv]; exact restore_in hl hi
      · exact restore_in hl hi
theorem wipe_in {σ : L2.St} {i : Nat} {x : Option V} : ∀ {vs : List Nat}, i ∈ vs → (wipe σ vs)[i]? = some x → x = none
  | v :: vs, h, e => by
    unfold wipe at e
    by_cases hv : v = i
    · subst hv
      by_cases hl : v < (wipe σ vs).length
      · rw [List.getElem?_set_self hl] at e; exact (Option.some.inj e).symm
      · rw [List.getElem?_eq_none (by rw [List.length_set]; omega)] at e; cases e
    · rw [List.getElem?_set_ne hv] at e
      rcases List.mem_cons.mp h with q | q
      · exact absurd q.symm hv
      · exact wipe_in q e
theorem wipe_eq {σ σ' : L2.St} {vs : List Nat} (hl : σ.length = σ'.length) (h : ∀ i, i ∉ vs → σ[i]? = σ'[i]?) : wipe σ vs = wipe σ' vs := by
  refine List.ext_getElem? fun i => ?_
  by_cases hi : i ∈ vs
  · by_cases h1 : i < σ.length
    · have h2 : i < (wipe σ vs).length := by rw [wipe_length]; exact h1
      have h3 : i < (wipe σ' vs).length := by rw [wipe_length, ← hl]; exact h1
      have a := List.getElem?_eq_getElem h2
      have b := List.getElem?_eq_getElem h3
      rw [a, b, wipe_in hi a, wipe_in hi b]
    · rw [List.getElem?_eq_none (by rw [wipe_length]; omega), List.getElem?_eq_none (by rw [wipe_length, ← hl]; omega)]
  · rw [wipe_out hi, wipe_out hi]
    exact h i hi
theorem wipe_wipe {σ : L2.St} {vs : List Nat} : wipe (wipe σ vs) vs = wipe σ vs := wipe_eq (wipe_length _ _) fun i hi => wipe_out hi
section
variable {ee : Prop} {K : PySem.W.Frag} {g : Gx} {I H I1 H1 I' H' : Hp} {σ σ' : L2.St} {env env' : DL.Env} {vs : List Nat}
theorem wiped_own {a : Addr} (h : Own (wipe σ vs) (wipeE env vs) a) : Own σ env a := by
  obtain ⟨i, s, h1, h2, h3⟩ := h
  by_cases hi : i ∈ vs
  · rw [wipeE_in hi h1] at h2; cases h2
  · rw [wipeE_out hi] at h1; rw [wipe_out hi] at h3
    exact ⟨i, s, h1, h2, h3⟩
theorem own_wiped {a : Addr} (hn : noOwn env vs = true) (h : Own σ env a) : Own (wipe σ vs) (wipeE env vs) a := by
  obtain ⟨i, s, h1, h2, h3⟩ := h
  have hi : i ∉ vs := fun q => by rw [noOwn_at hn q h1] at h2; cases h2
  exact ⟨i, s, by rw [wipeE_out hi]; exact h1, h2, by rw [wipe_out hi]; exact h3⟩
theorem EnvOk.wipe (ok : EnvOk K g I H σ env) (hn : noOwn env vs = true) : StpP ee K g I H σ env I H (L2.wipe σ vs) (wipeE env vs) := by
  refine ⟨⟨ok.sub, ok.nt, ok.tabs, by rw [wipeE_len, wipe_length]; exact ok.len, fun i s x h1 h2 => ?_, fun i j s s' a h1 h2 h3 h4 h5 h6 => ?_⟩, Le.refl _, fun a o q _ _ => q, fun a q => q, fun a q => .inl q, fun a q => .inl (wiped_own q), fun i s h1 h2 => ?_⟩
  · by_cases hi : i ∈ vs
    · rw [wipeE_in hi h1]; trivial
    · rw [wipeE_out hi] at h1; rw [wipe_out hi] at h2
      exact ok.slot i s x h1 h2
  · have n1 : i ∉ vs := fun q => by rw [wipeE_in q h1] at h3; cases h3
    have n2 : j ∉ vs := fun q => by rw [wipeE_in q h2] at h4; cases h4
    rw [wipeE_out n1] at h1; rw [wipe_out n1] at h5
    rw [wipeE_out n2] at h2; rw [wipe_out n2] at h6
    exact ok.sep i j s s' a h1 h2 h3 h4 h5 h6
  · have n1 : i ∉ vs := fun q => by
      have := noOwn_at hn q h1
      rw [pin_own h2] at this; cases this
    exact ⟨wipe_out n1, s, by rw [wipeE_out n1]; exact h1, h2⟩
/-- behind the comprehension the own names are what they were -/
theorem StpP.unwipe (ok : EnvOk K g I H σ env) (hn : noOwn env vs = true) (s : StpE K g I H (L2.wipe σ vs) (wipeE env vs) I' H' (L2.wipe σ vs) env') : StpE K g I H σ env I' H' σ (restore env env' vs) := by
  have hl : env.length = env'.length := by rw [s.ok.len, wipe_length]; exact ok.len
  have cs : ∀ (i : Nat) (z : Slot), (restore env env' vs)[i]? = some z → (i ∈ vs ∧ env[i]? = some z ∧ z.own = false) ∨ (i ∉ vs ∧ env'[i]? = some z) := fun i z h => by
    by_cases hi : i ∈ vs
    · rw [restore_in hl hi] at h; exact .inl ⟨hi, h, noOwn_at hn hi h⟩
    · rw [restore_out hi] at h; exact .inr ⟨hi, h⟩
  have ow : ∀ a, Own σ (restore env env' vs) a → Own (L2.wipe σ vs) env' a := fun a ⟨i, z, h1, h2, h3⟩ => by
    rcases cs i z h1 with ⟨_, _, h⟩ | ⟨hi, h⟩
    · rw [h] at h2; cases h2
    · exact ⟨i, z, h, h2, by rw [wipe_out hi]; exact h3⟩
  refine ⟨⟨s.ok.sub, s.ok.nt, s.ok.tabs, by rw [restore_len, ← hl]; exact ok.len, fun i z x h1 h2 => ?_, fun i j z z' a h1 h2 h3 h4 h5 h6 => ?_⟩, s.sub, fun a o q n t => s.keep a o q (fun w => n (wiped_own w)) t, s.there, fun a q => (s.fresh a q).imp id (·.imp id wiped_own), fun a q => (s.own a (ow a q)).imp wiped_own id, fun i z h1 h2 => ?_⟩
  · rcases cs i z h1 with ⟨_, h, ho⟩ | ⟨hi, h⟩
    · exact (ok.slot i z x h h2).mono s.sub (fun p o q => by rw [ho] at q; cases q) (fun p q => by rw [ho] at q; cases q)
    · exact s.ok.slot i z x h (by rw [wipe_out hi]; exact h2)
  · rcases cs i z h1 with ⟨_, _, h⟩ | ⟨hi, h⟩
    · rw [h] at h3; cases h3
    · rcases cs j z' h2 with ⟨_, _, h'⟩ | ⟨hj, h'⟩
      · rw [h'] at h4; cases h4
      · exact s.ok.sep i j z z' a h h' h3 h4 (by rw [wipe_out hi]; exact h5) (by rw [wipe_out hj]; exact h6)
  · have n1 : i ∉ vs := fun q => by
      have := noOwn_at hn q h1
      rw [pin_own h2] at this; cases this
    obtain ⟨_, z', q1, q2⟩ := s.pin i z (by rw [wipeE_out n1]; exact h1) h2
    exact ⟨rfl, z', by rw [restore_out n1]; exact q1, q2⟩
/-- what nobody knows and no slot owns stays unknown -/
theorem StpP.stays {D : Addr} {o : HO} (ok : EnvOk K g I H σ env) (s : StpE K g I H σ env I' H' σ' env') (hD : H D = some o) (nt : ∀ ps, o ≠ .tbl ps) (iD : I D = none) (nO : ¬ Own σ env D) : H' D = some o ∧ I' D = none ∧ ¬ Own σ' env' D := by
  refine ⟨s.keep D o hD nO nt, ?_, fun q => nO (s.ownE q)⟩
  cases e : I' D with
  | none => rfl
  | some u =>
    rcases s.fresh D (by rw [e]; simp) with q | q | q
    · exact absurd iD q
    · exact (q.not hD nt).elim
    · exact absurd q nO
/-- a list that nobody knows changes -/
theorem StpP.poke {D : Addr} {us us' : List V} (s : StpE K g I H σ env I' H' σ' env') (hD : H D = none) (hD' : H' D = some (.lst us)) (iD : I' D = none) (nO : ¬ Own σ' env' D) : StpE K g I H σ env I' (upd H' D (.lst us')) σ' env' := by
  refine ⟨⟨⟨fun {a u} q dk => ?_, fun {a u} q => ?_⟩, s.ok.nt, fun q hq => ?_, s.ok.len, fun i z x h1 h2 => ?_, s.ok.sep⟩, s.sub, fun a o q n t => ?_, fun a q => ?_, s.fresh, s.own, s.pin⟩
  · have : a ≠ D := fun z => by rw [z, iD] at q; cases q
    rw [upd_ne this]; exact s.ok.sub.get q dk
  · have : a ≠ D := fun z => by rw [z, iD] at q; cases q
    rcases s.ok.sub.rd q with r | ⟨u', r⟩
    · exact .inl (by rw [upd_ne this]; exact r)
    · exact .inr ⟨u', by rw [upd_ne this]; exact r⟩
  · obtain ⟨ps, h1, h2, h3⟩ := s.ok.tabs q hq
    have n1 : q.1 ≠ D := fun z => by rw [z, hD'] at h1; cases h1
    refine ⟨ps, by rw [upd_ne n1]; exact h1, h2, fun pos cv hc => ?_⟩
    obtain ⟨c, z1, z2⟩ := h3 pos cv hc
    have n2 : c ≠ D := fun z => by rw [z, hD'] at z2; unfold CodeO at z2; cases z2
    exact ⟨c, z1, by rw [upd_ne n2]; exact z2⟩
  · refine (s.ok.slot i z x h1 h2).mono (Le.refl _) (fun p o ho hq r => ?_) fun p ho hq => ?_
    · have : p ≠ D := fun e => nO ⟨i, z, h1, ho, by rw [h2, hq, e]⟩
      rw [upd_ne this]; exact r
    · obtain ⟨p', o', e3, _, e5, _⟩ := (s.ok.slot i z x h1 h2).own_of ho
      rw [hq] at e3; cases e3
      exact e5
  · have : a ≠ D := fun z => by rw [z, hD] at q; cases q
    rw [upd_ne this]; exact s.keep a o q n t
  · by_cases h : a = D
    · rw [h]; exact .inl hD
    · exact s.there a (q.elim (fun r => .inl (by rw [upd_ne h] at r; exact r)) fun ⟨ps, r⟩ => .inr ⟨ps, by rw [upd_ne h] at r; exact r⟩)
end

/-! ### the comprehension's worth -/
def W0 : WX := fun _ _ _ _ => False
def wipeM (vs : List Nat) : M Unit := fun env => if noOwn env vs = true then .ok () (wipeE env vs) else .bad
def lcGo (vs : List Nat) (f : D → M Unit) (t : M Bool) (m : M D) : List D → List D → M (List D)
  | [], acc => ret acc
  | x :: xs, acc => bnd (f x) fun _ => bnd t fun b => if b = true then bnd m fun y => bnd (wipeM vs) fun _ => if acc.length < 16777216 then lcGo vs f t m xs (acc ++ [y]) else DL.bad
    else bnd (wipeM vs) fun _ => lcGo vs f t m xs acc
def lcB (vs : List Nat) (f : D → M Unit) (t : M Bool) (m : M D) (ds : List D) : M (List D) := fun env => if noOwn env vs = true then match lcGo vs f t m ds [] (wipeE env vs) with
    | .ok acc env' => .ok acc (restore env env' vs)
    | _ => .bad
  else .bad
def lcM (vs : List Nat) (f : D → M Unit) (t : M Bool) (m : M D) (src : M (List D)) : M (List D) := bnd src (lcB vs f t m)
/-- the target's reading, slots told -/
def TgR (K : PySem.W.Frag) (g : Gx) (f : D → M Unit) (vs : List Nat) (t : TG) : Prop := ∀ (I H : Hp) (σ : L2.St) (env : DL.Env) (d : D) (v : V) (Q : L2.St → Hp → Prop), EnvOk K g I H σ env → Rep K g I d v →
  (match f d env with
    | .ok _ env' => ∀ σ', StpE K g I H σ env I H σ' env' → wipe σ' vs = wipe σ vs → Q σ' H
    | _ => False) → t v σ H Q
def TgRs (K : PySem.W.Frag) (g : Gx) (f : List D → M Unit) (vs : List Nat) (t : TGs) : Prop := ∀ (I H : Hp) (σ : L2.St) (env : DL.Env) (d : List D) (v : List V) (Q : L2.St → Hp → Prop), EnvOk K g I H σ env → Reps K g I d v →
  (match f d env with
    | .ok _ env' => ∀ σ', StpE K g I H σ env I H σ' env' → wipe σ' vs = wipe σ vs → Q σ' H
    | _ => False) → t v σ H Q
section
variable {K : PySem.W.Frag} {g : Gx} {vs : List Nat}
theorem tgr_name {i : Nat} (hi : i ∈ vs) : TgR K g (setU i) vs (gName i) := by
  intro I H σ env d v Q ok r h
  rcases setU_or i d env with e | ⟨z, ez, hp, e⟩
  · rw [e] at h; exact h.elim
  · rw [e] at h
    refine h _ (ok.set (s := .im d) (x := v) ez hp rfl ⟨v, rfl, r⟩) (wipe_eq (by rw [List.length_set]) fun j hj => ?_)
    exact List.getElem?_set_ne fun e => hj (by rw [← e]; exact hi)
theorem tgr_nil : TgRs K g gnilU vs gNil := by
  intro I H σ env d v Q ok r h
  cases d with
  | nil => exact ⟨reps_nil.mp r, h σ (StpP.refl ok) rfl⟩
  | cons d ds => exact h.elim
theorem tgr_cons {f : D → M Unit} {fs : List D → M Unit} {t : TG} {ts : TGs} (h1 : TgR K g f vs t) (h2 : TgRs K g fs vs ts) : TgRs K g (gconsU f fs) vs (gCons t ts) := by
  intro I H σ env d v Q ok r h
  cases d with
  | nil => exact h.elim
  | cons d ds =>
    obtain ⟨u, us, rfl, r1, r2⟩ := reps_cons.mp r
    refine ⟨u, us, rfl, h1 I H σ env d u _ ok r1 ?_⟩
    have h : (match bnd (f d) (fun _ => fs ds) env with
      | .ok _ env' => ∀ σ', StpE K g I H σ env I H σ' env' → wipe σ' vs = wipe σ vs → Q σ' H
      | _ => False) := h
    unfold bnd at h
    cases e : f d env with
    | bad => rw [e] at h; exact h
    | err c env' => rw [e] at h; exact h
    | ok a env' =>
      rw [e] at h
      intro σ1 s1 w1
      refine h2 I H σ1 env' ds us Q s1.ok r2 ?_
      dsimp only at h ⊢
      cases e2 : fs ds env' with
      | bad => rw [e2] at h; exact h
      | err c env' => rw [e2] at h; exact h
      | ok a env2 =>
        rw [e2] at h
        exact fun σ2 s2 w2 => h σ2 (s1.trans s2) (w2.trans w1)
theorem tgr_tup {n : Nat} {fs : List D → M Unit} {ts : TGs} (h2 : TgRs K g fs vs ts) : TgR K g (gtupU n fs) vs (gTup K n ts) := by
  intro I H σ env d v Q ok r h
  cases d with
  | tup l =>
    obtain ⟨p, us, rfl, e2, e3⟩ := rep_tup.mp r
    have h : (match (if l.length = n then fs l else DL.bad) env with
      | .ok _ env' => ∀ σ', StpE K g I H σ env I H σ' env' → wipe σ' vs = wipe σ vs → Q σ' H
      | _ => False) := h
    by_cases hl : l.length = n
    · rw [if_pos hl] at h
      exact ⟨p, us, rfl, sub_t ok.sub e2, by rw [← e3.length]; exact hl, h2 I H σ env l us Q ok e3 h⟩
    · rw [if_neg hl] at h; exact h.elim
  | _ => exact h.elim
theorem tr_lc {W : WX} {I H : Hp} {σ : L2.St} {env : DL.Env} {Q : VK} {src : M (List D)} {f : D → M Unit} {t : M Bool} {m : M D} {tG : TG} (hG : TgR K g f vs tG) (ok : EnvOk K g I H σ env) (h : Out K g W (RO K g) I H σ env (lcM vs f t m src env) Q) :
    tLc (trI K g W src) tG (tr K g W0 RB t) (tr K g W0 (RD K g) m) vs σ H Q := by
  refine ⟨I, env, ok, ?_⟩
  unfold lcM bnd at h
  cases e : src env with
  | bad => rw [e] at h; exact h
  | err c env' => rw [e] at h; exact h
  | ok ds env1 =>
    rw [e] at h
    dsimp only at h
    intro J I1 H1 s1 walk D hD
    unfold lcB at h
    by_cases hn : noOwn env1 vs = true
    · rw [if_pos hn] at h
      have okw : EnvOk K g I1 H1 (wipe σ vs) (wipeE env1 vs) := (s1.ok.wipe (ee := True) hn).ok
      let EndC : R (List DL.D) → Prop := fun r => match r with
        | .ok acc env' => ∀ I' H' us, StpE K g I1 H1 (wipe σ vs) (wipeE env1 vs) I' H' (wipe σ vs) env' → H' D = some (.lst us) → I' D = none → Reps K g I' acc us → Q (.ref D) H'
        | _ => False
      have h0 : EndC (lcGo vs f t m ds [] (wipeE env1 vs)) := by
        cases e1 : lcGo vs f t m ds [] (wipeE env1 vs) with
        | bad => rw [e1] at h; exact h
        | err c env' => rw [e1] at h; exact h
        | ok acc env' =>
          rw [e1] at h
          intro I' H' us s q1 q2 q3
          exact h (.ref D) I' H' (s1.trans (StpP.unwipe s1.ok hn s)) ⟨D, us, rfl, q1, s1.back hD, q2, q3⟩
      have iD1 : I1 D = none := okw.fresh_i hD
      refine ⟨fun i n H' => n = ds.length - i ∧ i ≤ ds.length ∧ ∃ I' env' acc us, StpE K g I1 H1 (wipe σ vs) (wipeE env1 vs) I' H' (wipe σ vs) env' ∧ H' D = some (.lst us) ∧ I' D = none ∧ Reps K g I' acc us ∧ EndC (lcGo vs f t m (ds.drop i) acc env'),
        ⟨ds.length, by simp, Nat.zero_le _, I1, _, [], [], okw.newH hD, upd_same, iD1, Reps.nil, h0⟩, ?_⟩
      rintro i n H2 ⟨rfl, hi, I2, env2, acc, us, s2, hD2, iD2, r2, h2⟩
      have nO2 : ¬ Own (wipe σ vs) env2 D := StpP.newOwn okw s2 (.inl hD)
      by_cases hlt : i < ds.length
      · have hd : ds.drop i = ds[i] :: ds.drop (i + 1) := List.drop_eq_getElem_cons hlt
        rw [hd] at h2
        obtain ⟨go, yl⟩ := (walk i I2 H2 (wipe σ vs) env2 s2.sub s2.ok).1 ds[i] (List.getElem?_eq_getElem hlt)
        refine .inr ⟨go, fun H' => ∃ I' env' acc us, StpE K g I1 H1 (wipe σ vs) (wipeE env1 vs) I' H' (wipe σ vs) env' ∧ H' D = some (.lst us) ∧ I' D = none ∧ Reps K g I' acc us ∧ EndC (lcGo vs f t m (ds.drop (i + 1)) acc env'),
          fun H' q => ⟨ds.length - (i + 1), by omega, rfl, hlt, q⟩, fun x H3 y => ?_⟩
        obtain ⟨I3, s3, r3⟩ := yl x H3 y
        refine hG I3 H3 _ env2 ds[i] x _ s3.ok r3 ?_
        unfold lcGo bnd at h2
        cases e1 : f ds[i] env2 with
        | bad => rw [e1] at h2; exact h2
        | err c env' => rw [e1] at h2; exact h2
        | ok u env3 =>
          rw [e1] at h2
          dsimp only at h2
          intro σ4 s4 hw
          have hw4 : wipe σ4 vs = wipe σ vs := hw.trans wipe_wipe
          refine ⟨hw4, I3, env3, s4.ok, ?_⟩
          cases e2 : t env3 with
          | bad => rw [e2] at h2; exact h2.elim
          | err c env' => rw [e2] at h2; exact h2.elim
          | ok b env4 =>
            rw [e2] at h2
            dsimp only at h2
            intro b' I5 H5 s5 rb
            cases rb
            have s25 := ((s3.trans s4).trans s5)
            cases b with
            | false =>
              rw [if_neg Bool.false_ne_true] at h2 ⊢
              unfold wipeM at h2
              by_cases hn4 : noOwn env4 vs = true
              · rw [if_pos hn4] at h2
                obtain ⟨q1, q2, q3⟩ := StpP.stays s2.ok s25 hD2 (fun _ z => nomatch z) iD2 nO2
                have sw := (s2.trans s25).trans (s5.ok.wipe (ee := True) hn4)
                rw [hw4] at sw
                exact ⟨I5, _, acc, us, sw, q1, q2, r2.mono s25.sub, h2⟩
              · rw [if_neg hn4] at h2; exact h2.elim
            | true =>
              rw [if_pos rfl] at h2 ⊢
              refine ⟨I5, env4, s5.ok, ?_⟩
              cases e3 : m env4 with
              | bad => rw [e3] at h2; exact h2.elim
              | err c env' => rw [e3] at h2; exact h2.elim
              | ok y env5 =>
                rw [e3] at h2
                dsimp only at h2
                intro v I6 H6 s6 rv
                have s26 := s25.trans s6
                obtain ⟨q1, q2, q3⟩ := StpP.stays s2.ok s26 hD2 (fun _ z => nomatch z) iD2 nO2
                unfold wipeM at h2
                by_cases hn5 : noOwn env5 vs = true
                · rw [if_pos hn5] at h2
                  dsimp only at h2
                  by_cases hl : acc.length < 16777216
                  · rw [if_pos hl] at h2
                    refine ⟨us, q1, by rw [← r2.length, line_eq]; exact hl, I6, _, acc ++ [y], us ++ [v], ?_, upd_same, q2, (r2.mono s26.sub).append (Reps.cons rv Reps.nil), h2⟩
                    have sw := (s2.trans s26).trans (s6.ok.wipe (ee := True) hn5)
                    rw [hw4] at sw
                    exact sw.poke hD q1 q2 (StpP.newOwn okw sw (.inl hD))
                  · rw [if_neg hl] at h2; exact h2.elim
                · rw [if_neg hn5] at h2; exact h2.elim
      · have e : i = ds.length := by omega
        subst e
        rw [List.drop_length] at h2
        exact .inl ⟨(walk _ I2 H2 _ env2 s2.sub s2.ok).2 (Nat.le_refl _), h2 I2 H2 us s2 hD2 iD2 r2⟩
    · rw [if_neg hn] at h; exact h.elim
end
abbrev DTs (X : Cx) (g : Gx) (W : WX) (ifs : List Expr) (m : M Bool) : Prop := PTs X ifs (tr X.K g W RB m)
section
variable {X : Cx} {g : Gx} {W : WX} {pos spos : Pos} {e elt tg iter : Expr} {ifs : List Expr} {ma m : M D} {src : M (List D)} {t : M Bool} {f : D → M Unit} {tG : TG}
theorem pts_nilD : DTs X g W [] (ret true) := ⟨fun pins s σ H Q I h => pts_nil.run pins s σ H Q I (by
  obtain ⟨I0, env, ok, h⟩ := h
  exact h.done ok rfl)⟩
theorem pts_oneD {c : Expr} (h : DT X g W c t) : DTs X g W [c] t := pts_one h
theorem c_lc {scope : Scope} {own : List (Str × Nat)} (hc : X.calm = true) (hN : X.N.Nodup) (hi : DI X g W tg iter src) (ok : BlkOk X.N X.env.scope scope own)
    (hg : ∀ (s : Shared) (H : Hp) (C : Addr) (cl : List (Str × Addr)) (fp : List Addr), PG (X.blk s H scope (compEnvC scope cl C X.env) fp) tg tG) (hR : TgR X.K g f (own.map (·.2)) tG)
    (ht : ∀ (s : Shared) (H : Hp) (C : Addr) (cl : List (Str × Addr)) (fp : List Addr), DTs (X.blk s H scope (compEnvC scope cl C X.env) fp) g W0 ifs t)
    (he : ∀ (s : Shared) (H : Hp) (C : Addr) (cl : List (Str × Addr)) (fp : List Addr), DE (X.blk s H scope (compEnvC scope cl C X.env) fp) g W0 elt m) (hs : ∀ x, foldedSetIterable iter X.env x = pure x := by intro _; rfl) :
    DC X g W (.ListComp elt [⟨tg, iter, ifs, 0⟩] scope pos) (lcM (own.map (·.2)) f t m src) :=
  pe_imp (pe_lc hc hN hi ok hg ht he hs) fun σ H Q ⟨I, env, ok, h⟩ => tr_lc hR ok h
/-- name = [..] where the name is stored in the comprehension's own place -/
theorem s_setLcO {i : Nat} {y : Str} {py : Pos} {scope : Scope} {own : List (Str × Nat)} (hc : X.calm = true) (hN : X.N.Nodup) (hy : X.N[i]? = some y) (hyl : X.env.scope.names.lookup y = some .local)
    (hsw : swapsWith (.ListComp elt [⟨tg, iter, ifs, 0⟩] scope pos) (some (.Name y py)) spos.line X.env = pure true) (hi : DI X g W tg iter src) (ok : BlkOk X.N X.env.scope scope own)
    (hg : ∀ (s : Shared) (H : Hp) (C : Addr) (cl : List (Str × Addr)) (fp : List Addr), PG (X.blk s H scope (compEnvC scope cl C X.env) fp) tg tG) (hR : TgR X.K g f (own.map (·.2)) tG)
    (ht : ∀ (s : Shared) (H : Hp) (C : Addr) (cl : List (Str × Addr)) (fp : List Addr), DTs (X.blk s H scope (compEnvC scope cl C X.env) fp) g W0 ifs t)
    (he : ∀ (s : Shared) (H : Hp) (C : Addr) (cl : List (Str × Addr)) (fp : List Addr), DE (X.blk s H scope (compEnvC scope cl C X.env) fp) g W0 elt m) (hs : ∀ x, foldedSetIterable iter X.env x = pure x := by intro _; rfl) :
    DS X g W (.Assign [.Name y py] (.ListComp elt [⟨tg, iter, ifs, 0⟩] scope pos) spos) (asgO (lcM (own.map (·.2)) f t m src) i) :=
  ps_imp (ps_setLc hc hN hy hyl hsw hi ok hg ht he hs) fun Dn σ H ⟨I, env, okE, h⟩ => by
    obtain ⟨I', env', ok', h'⟩ := trS_give okE h
    exact tr_lc hR ok' h'
/-- the same, the list known at once -/
def asgK (m : M (List D)) (i : Nat) : M Fl := bnd m fun l => bnd (setU i (.lst l)) fun _ => ret .nx
theorem trS_known {K : PySem.W.Frag} {I H : Hp} {σ : L2.St} {env : DL.Env} {m : M (List D)} {i : Nat} {Dn : Ends} (ok : EnvOk K g I H σ env) (h : OutS K g W I H σ env (asgK m i env) Dn) : tr K g W (RO K g) m σ H (fun v H1 => Dn.nx (σ.set i (some v)) H1) := by
  refine ro_known (env := env) ok ?_
  unfold asgK bnd at h
  unfold bnd
  cases e : m env with
  | bad => rw [e] at h; exact h
  | err c env' => rw [e] at h; exact fun I' H' s => h σ I' H' s.weak
  | ok a env' =>
    rw [e] at h
    dsimp only at h
    intro v I' H' s r
    rcases setU_or i (.lst a) env' with e1 | ⟨z, ez, hp, e1⟩
    · rw [e1] at h; exact h.elim
    · rw [e1] at h
      exact h _ I' H' (s.weak.trans (s.ok.set (ee := False) ez hp (s := .im (.lst a)) (x := v) rfl ⟨v, rfl, r⟩))
theorem s_setLc {i : Nat} {y : Str} {py : Pos} {scope : Scope} {own : List (Str × Nat)} (hc : X.calm = true) (hN : X.N.Nodup) (hy : X.N[i]? = some y) (hyl : X.env.scope.names.lookup y = some .local)
    (hsw : swapsWith (.ListComp elt [⟨tg, iter, ifs, 0⟩] scope pos) (some (.Name y py)) spos.line X.env = pure true) (hi : DI X g W tg iter src) (ok : BlkOk X.N X.env.scope scope own)
    (hg : ∀ (s : Shared) (H : Hp) (C : Addr) (cl : List (Str × Addr)) (fp : List Addr), PG (X.blk s H scope (compEnvC scope cl C X.env) fp) tg tG) (hR : TgR X.K g f (own.map (·.2)) tG)
    (ht : ∀ (s : Shared) (H : Hp) (C : Addr) (cl : List (Str × Addr)) (fp : List Addr), DTs (X.blk s H scope (compEnvC scope cl C X.env) fp) g W0 ifs t)
    (he : ∀ (s : Shared) (H : Hp) (C : Addr) (cl : List (Str × Addr)) (fp : List Addr), DE (X.blk s H scope (compEnvC scope cl C X.env) fp) g W0 elt m) (hs : ∀ x, foldedSetIterable iter X.env x = pure x := by intro _; rfl) :
    DS X g W (.Assign [.Name y py] (.ListComp elt [⟨tg, iter, ifs, 0⟩] scope pos) spos) (asgK (lcM (own.map (·.2)) f t m src) i) :=
  ps_imp (ps_setLc hc hN hy hyl hsw hi ok hg ht he hs) fun Dn σ H ⟨I, env, okE, h⟩ => by
    obtain ⟨I', env', ok', h'⟩ := trS_known okE h
    exact tr_lc hR ok' h'
end
end DL
set_option Elab.async false
set_option linter.all false
set_option maxRecDepth 100000
set_option maxHeartbeats 4000000
set_option autoImplicit false
namespace DL
open PySem PySem.Spec PyProof.Rows L2 LamX

/-! ### x(lambda: body): what the law's told makes of a body -/
def toldM (tab : List (Nat × Str)) (m : M D) : M D := fun env => match m env with
  | .ok d e => .ok d e
  | .err c e => match tab.lookup c with
    | some s => .ok (.str s) e
    | none => .bad
  | .bad => .bad
/-- the clauses of classes C, each telling s -/
def eMany (K : PySem.W.Frag) (Q : VK) : List (Addr × Str) → XK
  | [] => fun _ _ _ => False
  | (C, s) :: r => fun cls d H => ∃ b, PySem.W.exmOne K cls (.ref C) = some b ∧ (b = true → Q (.str s) H) ∧ (b = false → eMany K Q r cls d H)
def TTolds (K : PySem.W.Frag) (l : List (Addr × Str)) : (XK → Hp → VK → Prop) → Hp → VK → Prop := fun tl H Q => tl (eMany K Q l) H Q
/-- a row of clauses: except C: return s -/
inductive THs (mg : Str → Option Value) (sg : Scope) : List ExceptHandler → List (Addr × Str) → Prop
  | nil : THs mg sg [] []
  | cons {e ret : Str} {C : Addr} {j : Nat} {p4 p5 p6 p7 : Pos} {hs : List ExceptHandler} {l : List (Addr × Str)} (hge : sg.names.lookup e = some .globalImplicit) (hme : mg e = some (.ref C)) (hde : (e == ("__debug__" : Str)) = false) (r : THs mg sg hs l) :
      THs mg sg (.ExceptHandler (some (.Name e p4)) none [.Return (some (.Constant (.str ret) j p5)) p6] p7 :: hs) ((C, ret) :: l)
theorem ths_hds {X : Cx} {sg : Scope} (hX : ∀ e, sg.names.lookup e = some .globalImplicit → Gl X e) {hs : List ExceptHandler} {l : List (Addr × Str)} (h : THs X.mg sg hs l) : HdsOk X hs (l.map fun q => (Value.ref q.1, fun _ _ _ => tRet (tC (.str q.2)))) := by
  induction h with
  | nil => exact .nil
  | cons hge hme hde r ih => exact .cons ⟨hX _ hge, hde, .inl hme⟩ (fun a oe cls d pn _ _ => pss_one (ps_ret pe_str)) ih
theorem eMany_w {K : PySem.W.Frag} {D : Ends} {cls : Value} {d : Option Addr} {σ : L2.St} {H : Hp} : ∀ {l : List (Addr × Str)}, eMany K D.rt l cls d H → wMany K (fun _ _ _ _ => False) D (l.map fun q => (Value.ref q.1, fun _ _ _ => tRet (tC (.str q.2)))) cls d σ H
  | [], h => h
  | (C, s) :: r, ⟨b, e, h1, h2⟩ => ⟨b, e, fun hb a _ => h1 hb, fun hb => eMany_w (h2 hb)⟩
theorem told_many {X : Cx} {Ng : List Str} {x a q : Str} {sg : Scope} {g : Addr} {cdg : Value} {p1 p2 p3 p8 : Pos} {h0 : ExceptHandler} {hs : List ExceptHandler} {l : List (Addr × Str)} (hst : ∀ f : Addr, (L2.start Ng [V.ref f])[0]? = some (some (V.ref f))) (hh : THs X.mg sg (h0 :: hs) l) :
    GivesTo X Ng x sg g cdg [.Try [.Return (some (.Call (.Name a p1) [] [] p2)) p3] (h0 :: hs) [] [] p8] a q (TTolds X.K l) := by
  intro f c' s H Q tl act hc h
  refine ⟨_, pss_one (ps_try_many (X := (cxOf C8.CX0 X.prog X.w X.K X.mg X.base Ng x sg g cdg X.A X.stack s H C8.E0).nox)
      (tb := fun W D σ H => ∃ Ech : XK, (∀ cls d σ' H', Ech cls d H' → W cls d σ' H') ∧ σ[0]? = some (some (.ref f)) ∧ H c' = some (CodeO c' q) ∧ tl Ech H D.rt)
      rfl rfl L2.takes0 (fun W pn xe tk _ => ?_) (ths_hds (fun e he => he) hh)), ?_⟩
  · refine ⟨fun pins s' σ H' D I h' => ?_⟩
    obtain ⟨Ech, hW, h1, h2, h3⟩ := h'
    have hp := act W pn xe Ech p1 p2 tk hW
    exact (pss_one (ps_ret (pos := p3) hp)).run pins s' σ H' D I ⟨h1, h2, h3⟩
  · exact ⟨eMany X.K Q l, fun cls d σ' H' e => eMany_w (D := { nx := fun _ H' => Q .non H', rt := Q }) e, hst f, hc, h⟩
/-- what tells of the classes: class number c is caught by the first of the clauses with its text s -/
def Caught (K : PySem.W.Frag) (C : Addr) : List (Addr × Str) → Str → Prop
  | [], _ => False
  | (C', s') :: r, s => PySem.W.exmOne K (.ref C) (.ref C') = some true ∧ s' = s ∨ PySem.W.exmOne K (.ref C) (.ref C') = some false ∧ Caught K C r s
theorem caught_e {K : PySem.W.Frag} {Q : VK} {C : Addr} {s : Str} {d : Option Addr} {H : Hp} : ∀ {l : List (Addr × Str)}, Caught K C l s → Q (.str s) H → eMany K Q l (.ref C) d H
  | (C', s') :: r, .inl ⟨e, es⟩, q => ⟨true, e, fun _ => by rw [es]; exact q, fun z => nomatch z⟩
  | (C', s') :: r, .inr ⟨e, h⟩, q => ⟨false, e, fun z => (nomatch z), fun _ => caught_e h q⟩
section
variable {K : PySem.W.Frag} {g : Gx} {I H H1 : Hp} {σ : L2.St} {env : DL.Env}
/-- where only tables have changed -/
theorem EnvOk.extN (ok : EnvOk K g I H σ env) (e : ExtN H H1) (t : Tabs g.T H1) : StpE K g I H σ env I H1 σ env where
  ok := ⟨⟨fun {a o} h d => e _ _ (ok.sub.get h d) fun ps z => ok.nt a ps (by rw [h, z]), fun {a o} h => by
      rcases ok.sub.rd h with q | ⟨u, q⟩
      · exact .inl (e _ _ q fun ps z => ok.nt a ps (by rw [h, z]))
      · exact .inr ⟨u, e _ _ q fun ps z => nomatch z⟩⟩, ok.nt, t, ok.len, fun i z x h1 h2 => (ok.slot i z x h1 h2).mono (Le.refl _) (fun p o hz hx hp => by
      obtain ⟨p', o', q1, q2, q3, q4⟩ := (ok.slot i z x h1 h2).own_of hz
      rw [hx] at q1; cases q1
      rw [q2] at hp; cases hp
      exact e _ _ q2 q4) (fun p hz hx => by
      obtain ⟨p', o', q1, q2, q3, q4⟩ := (ok.slot i z x h1 h2).own_of hz
      rw [hx] at q1; cases q1
      exact q3), ok.sep⟩
  sub := Le.refl _
  keep := fun a o h _ n => e a o h n
  there := fun a h => h.of fun o q n => e a o q n
  fresh := fun a h => .inl h
  own := fun a h => .inl h
  pin := fun i s h hp => ⟨rfl, s, h, hp⟩
end
/-- the law's told, as the head has it: where it stands, its clauses -/
structure ToldD (K : PySem.W.Frag) (mg : Str → Option Value) (g : Gx) (x a : Str) (tab : List (Nat × Str)) : Prop where
  ex : ∃ (f : Addr) (pg : Arguments) (p1 p2 p3 p8 : Pos) (h0 : ExceptHandler) (hs : List ExceptHandler) (sg : Scope) (dV kV doc pm cdv ct oc : Value) (an od : Option Addr) (osl : Array (Option Value)) (l : List (Addr × Str)),
    mg x = some (.ref f) ∧ PySem.W.keepIn K (.ref f) = true ∧ K.lookup f = some ⟨oc, od, .func (PySem.W.fnOf x x pg [.Try [.Return (some (.Call (.Name a p1) [] [] p2)) p3] (h0 :: hs) [] [] p8] sg dV kV doc pm an cdv ct), osl⟩ ∧ PySem.W.codeIn K cdv x = true ∧
      L2.Binds K (PySem.W.fnOf x x pg [.Try [.Return (some (.Call (.Name a p1) [] [] p2)) p3] (h0 :: hs) [] [] p8] sg dV kV doc pm an cdv ct) [a] [] ∧ FnScope [a] [a] sg ∧ Vis sg a ∧ THs mg sg (h0 :: hs) l ∧ ∀ c s, tab.lookup c = some s → Caught K (g.ca c) l s
/-- the def at hand makes lambdas: its code object, their table -/
structure LamD (X : Cx) (g : Gx) : Prop where
  ex : ∃ c P : Addr, TabB X.base X.mg c P ∧ X.env.code = .ref c ∧ (P, X.env.qual ++ "<lambda>") ∈ g.T ∧ ∀ p ∈ g.T, p.1 = P → p.2 = X.env.qual ++ "<lambda>"
section
variable {X : Cx} {g : Gx} {W : WX} {p lpos pos : Pos} {m : M D} {k : Nat} {x a : Str} {tab : List (Nat × Str)} {params : Arguments} {body : Expr} {scope : Scope}
theorem d_told (T : ToldD X.K X.mg g x a tab) (B : LamD X g) (hr : Room (k + 2) X.A) (L : LamS X.env.scope scope) (hbody : ∀ (A : Around) (outer : List PySem.Env) (s : Shared) (H : Hp) (E : XK) (f c' : Addr), Room k (A.deeper (lamEnv X scope s.heap.objs.size f c')) → DE (lamCx X A outer s H E scope f c') g (WF E) body m)
    (hg : Gl X x := by rfl) (hdef : defaultsOf params X.env = ([], []) := by rfl)
    (hbind : ∀ (q : Str) (cl : List (Str × Addr)) (pm cv ctv : Value), bindArgs (PySem.W.kla_fn "<lambda>" q params body scope cl pm cv ctv) ⟨[], []⟩ = pure [] := by intros; rfl)
    (hdb : (x == ("__debug__" : Str)) = false := by decide) (hd : (a == ("__debug__" : Str)) = false := by decide) (hcd : (a == ("__classdict__" : Str)) = false := by decide) :
    DE X g W (.Call (.Name x p) [.Lambda params body scope lpos] [] pos) (toldM tab m) := by
  obtain ⟨f, pg, p1, p2, p3, p8, h0, hs, sg, dV, kV, doc, pm, cdv, ct, oc, an, od, osl, l, hm, hk, lk, hcg, hb, Sg, hva, hh, hca⟩ := T.ex
  obtain ⟨c, P, TB, hcode, hmT, hu⟩ := B.ex
  refine pe_imp (pe_lamcall (T := g.T) (TT := TTolds X.K l) (t := fun E => tr X.K g (WF E) (RD X.K g) m) hg hm hk lk hcg hb Sg rfl hva (told_many (fun f => rfl) hh) TB hcode hmT hu hr L hdef hbind hbody hdb hd hcd) fun σ H Q ⟨I, env, ok, h⟩ => ?_
  refine ⟨ok.tabs, fun H1 e1 t1 => ?_⟩
  have s1 := ok.extN e1 t1
  refine ⟨I, env, s1.ok, ?_⟩
  unfold toldM at h
  cases e : m env with
  | bad => rw [e] at h; exact h
  | ok d env' => rw [e] at h; exact fun b I' H' s r => h b I' H' (s1.trans s) r
  | err c env' =>
    rw [e] at h
    intro I' H' s
    dsimp only at h
    cases e2 : tab.lookup c with
    | none => rw [e2] at h; exact h.elim
    | some z =>
      rw [e2] at h
      exact caught_e (hca c z e2) (h (.str z) I' H' (s1.trans s) (rep_str.mpr rfl))
end
end DL
set_option Elab.async false
set_option linter.all false
set_option maxRecDepth 100000
set_option maxHeartbeats 4000000
set_option autoImplicit false
namespace DL
open PySem PySem.Spec PyProof.Rows L2 LamX

/-! ### reading what a name holds, without making it known -/
def Slot.dat : Slot → Option D
  | .im d => some d
  | .ol l => some (.lst l)
  | .io l => some (.lst l)
  | .od ks l => some (.dic ks l)
  | .ot ks l => some (.dct ks l)
  | _ => none
def PRep (K : PySem.W.Frag) (g : Gx) (I H : Hp) : D → V → Prop
  | .lst l, v => ∃ p vs, v = .ref p ∧ H p = some (.lst vs) ∧ Reps K g I l vs
  | .dic ks l, v => ∃ p vs, v = .ref p ∧ Rd H p (.dK (ks.zip vs)) ∧ ks.length = vs.length ∧ Reps K g I l vs
  | .dct ks l, v => ∃ p vs, v = .ref p ∧ Rd H p (.dT (ks.zip vs)) ∧ ks.length = vs.length ∧ Reps K g I l vs
  | d, v => Rep K g I d v
abbrev RP (K : PySem.W.Frag) (g : Gx) : Rl D V := fun _ I' H' d v => PRep K g I' H' d v
instance {K : PySem.W.Frag} {g : Gx} : RMono (RP K g) := ⟨fun _ h => h⟩
abbrev DP (X : Cx) (g : Gx) (W : WX) (e : Expr) (m : M D) : Prop := PE X e (tr X.K g W (RP X.K g) m)
section
variable {K : PySem.W.Frag} {g : Gx} {W : WX} {I H : Hp} {σ : L2.St} {env : DL.Env}
theorem Rep.prep (s : Sub I H) {d : D} {v : V} (h : Rep K g I d v) : PRep K g I H d v := by
  cases d with
  | lst l => obtain ⟨p, vs, e1, e2, e3⟩ := rep_lst.mp h; exact ⟨p, vs, e1, s.get e2 rfl, e3⟩
  | dic ks l => obtain ⟨p, vs, e1, e2, e3, e4⟩ := rep_dic.mp h; exact ⟨p, vs, e1, s.rd e2, e3, e4⟩
  | dct ks l => unfold Rep at h; obtain ⟨p, vs, e1, e2, e3, e4⟩ := h; exact ⟨p, vs, e1, s.rd e2, e3, e4⟩
  | _ => exact h
theorem SlotOk.prep (s : Sub I H) {z : Slot} {d : D} {x : Option V} (h : SlotOk K g I H z x) (e : z.dat = some d) : ∃ v, x = some v ∧ PRep K g I H d v := by
  cases z with
  | no => cases e
  | im d' => cases e; obtain ⟨v, e1, e2⟩ := h; exact ⟨v, e1, e2.prep s⟩
  | ol l => cases e; obtain ⟨p, vs, e1, e2, e3, e4⟩ := h; exact ⟨_, e1, p, vs, rfl, e2, e4⟩
  | io l => cases e; obtain ⟨p, vs, e1, e2, e3, e4⟩ := h; exact ⟨_, e1, p, vs, rfl, e2, e4⟩
  | od ks l => cases e; obtain ⟨p, vs, e1, e2, e3, e4, e5⟩ := h; exact ⟨_, e1, p, vs, rfl, .inl e2, e4, e5⟩
  | ot ks l => cases e; obtain ⟨p, vs, e1, e2, e3, e4, e5⟩ := h; exact ⟨_, e1, p, vs, rfl, .inl e2, e4, e5⟩
  | sf c l => cases e
theorem pr_int {i : Int} {v : V} (h : PRep K g I H (.int i) v) : v = .int i := rep_int.mp (show Rep K g I (.int i) v from h)
theorem pr_bl {i : Bool} {v : V} (h : PRep K g I H (.bl i) v) : v = .bl i := rep_bl.mp (show Rep K g I (.bl i) v from h)
theorem pr_str {i : Str} {v : V} (h : PRep K g I H (.str i) v) : v = .str i := rep_str.mp (show Rep K g I (.str i) v from h)
theorem pr_tup {l : List D} {v : V} (h : PRep K g I H (.tup l) v) : ∃ p vs, v = .ref p ∧ SqT K I p vs ∧ Reps K g I l vs := rep_tup.mp (show Rep K g I (.tup l) v from h)
theorem prep_lst {l : List D} {v : V} : PRep K g I H (.lst l) v ↔ ∃ p vs, v = .ref p ∧ H p = some (.lst vs) ∧ Reps K g I l vs := Iff.rfl
theorem prep_dic {ks : List Key} {l : List D} {v : V} : PRep K g I H (.dic ks l) v ↔ ∃ p vs, v = .ref p ∧ Rd H p (.dK (ks.zip vs)) ∧ ks.length = vs.length ∧ Reps K g I l vs := Iff.rfl
theorem prep_dct {ks : List (List Key)} {l : List D} {v : V} : PRep K g I H (.dct ks l) v ↔ ∃ p vs, v = .ref p ∧ Rd H p (.dT (ks.zip vs)) ∧ ks.length = vs.length ∧ Reps K g I l vs := Iff.rfl
end
/-- the name's data, read -/
def gp (i : Nat) : M D := fun env => match (env[i]?).bind Slot.dat with
  | some d => .ok d env
  | none => .bad
theorem dat_of {env : DL.Env} {i : Nat} {d : D} (h : (env[i]?).bind Slot.dat = some d) : ∃ s, env[i]? = some s ∧ s.dat = some d := Option.bind_eq_some_iff.mp h
section
variable {X : Cx} {g : Gx} {W : WX} {pos : Pos} {a b c e : Expr} {es : List Expr} {ma mb mc : M D} {mas : M (List D)}
theorem p_name (i : Nat) {x : Str} (hN : X.N[i]? = some x := by rfl) (hv : Vis X.env.scope x := by first | exact Or.inl rfl | exact Or.inr (Or.inl rfl) | exact Or.inr (Or.inr rfl)) (hd : (x == ("__debug__" : Str)) = false := by decide)
    (hcd : (x == ("__classdict__" : Str)) = false := by decide) : DP X g W (.Name x pos) (gp i) :=
  pe_imp (pv i hN hv hd hcd) fun σ H Q ⟨I, env, ok, h⟩ => by
    unfold gp at h
    cases e : (env[i]?).bind Slot.dat with
    | none => rw [e] at h; exact h.elim
    | some d =>
      rw [e] at h
      obtain ⟨s, e1, e2⟩ := dat_of e
      obtain ⟨x, hx, hs⟩ := ok.lk e1
      obtain ⟨v, rfl, r⟩ := hs.prep ok.sub e2
      exact ⟨v, hx, h v I H (StpP.refl ok) r⟩
theorem p_of (h : DE X g W e ma) : DP X g W e ma := pe_imp h fun σ H Q ⟨I, env, ok, h⟩ => by
  refine ⟨I, env, ok, ?_⟩
  cases e : ma env with
  | bad => rw [e] at h; exact h
  | err c env' => rw [e] at h; exact h
  | ok d env' => rw [e] at h; exact fun b I' H' s r => h b I' H' s (Rep.prep s.ok.sub r)
/-! ### subscripts, dicts too -/
def keyOf : D → Option Key
  | .int i => some (.inl i)
  | .str x => some (.inr x)
  | _ => none
def keysOf : List D → Option (List Key)
  | [] => some []
  | d :: ds => match keyOf d, keysOf ds with
    | some k, some ks => some (k :: ks)
    | _, _ => none
def valD {κ : Type} [DecidableEq κ] (ks : List κ) (l : List D) (k : κ) : Option D := ((ks.zip l).find? fun q => decide (q.1 = k)).map (·.2)
def dIxA : D → D → Option D
  | .dic ks l, y => (keyOf y).bind fun k => valD ks l k
  | x, y => dIx x y
def rIxA (K : PySem.W.Frag) : R2 := fun x y H Q => rIx K x y H Q ∨ ∃ a v, x = .ref a ∧ DGet H a y (some v) ∧ Q v H
theorem ix_dict (hu : X.A.units + 1 < cLine) : IxR X (fun x y H Q => ∃ a v, x = .ref a ∧ DGet H a y (some v) ∧ Q v H) := by
  intro value slice pins s σ H x y v u Q I rx ry h hs
  obtain ⟨a, v', rfl, g, q⟩ := h
  cases rx
  unfold subscriptTail
  refine wpAny_bind ?_
  rw [getitemInPython_of_ne (dict_typeIs I g).not_modules]
  refine wpAny_bind (wpAny_specialOf (dict_typeIs I g) PySem.F.slot_dict_getitem.lookup ?_)
  have fin : wpAny (model X.prog X.w) X.A (subscripted slice false (.ref a) u) (fun r s₃ => wpAny (model X.prog X.w) X.A (letTemporaryGo value (.ref a) r >>= fun _ => pure r) (EP X pins σ Q) X.xe s₃) X.xe s := by
    rw [hs]
    exact wpAny_operating (wpAny_mono (d_getItem hu I g ry fun w' s3 I3 rw' => (⟨v', H, I3, rw', q⟩ : EP X pins σ Q w' s3)) (fun r s₃ h₃ => wpAny_bind (wpAny_letTemporaryGo (wpAny_pure h₃))) fun _ _ x => x)
  first
    | exact wpAny_pure (wpAny_bind fin)
    | exact wpAny_bind (wpAny_pure (wpAny_bind fin))
    | exact wpAny_bind fin
theorem ix_all (hu : X.A.units + 1 < cLine) : IxR X (rIxA X.K) := ix_seq.or (ix_dict hu)
end
section
variable {K : PySem.W.Frag} {g : Gx} {I H : Hp}
theorem keyOf_v {d : D} {k : Key} {v : V} (h : keyOf d = some k) (r : Rep K g I d v) : v = kV k := by
  cases d <;> first | (cases h; done) | skip
  · cases h; exact rep_int.mp r
  · cases h; exact rep_str.mp r
theorem valD_v {κ : Type} [DecidableEq κ] {k : κ} : ∀ {ks : List κ} {l : List D} {vs : List V} {d : D}, Reps K g I l vs → valD ks l k = some d → ∃ v, valV (ks.zip vs) k = some v ∧ Rep K g I d v
  | [], l, vs, d, r, h => by cases h
  | x :: ks, [], vs, d, r, h => by cases h
  | x :: ks, y :: l, vs, d, r, h => by
    obtain ⟨u, us, rfl, r1, r2⟩ := reps_cons.mp r
    unfold valD at h
    unfold valV
    rw [List.zip_cons_cons, List.find?_cons] at *
    by_cases e : x = k
    · rw [show decide ((x, y).1 = k) = true from decide_eq_true e] at h
      rw [show decide ((x, u).1 = k) = true from decide_eq_true e]
      cases h
      exact ⟨u, rfl, r1⟩
    · rw [show decide ((x, y).1 = k) = false from decide_eq_false e] at h
      rw [show decide ((x, u).1 = k) = false from decide_eq_false e]
      exact valD_v r2 h
theorem valD_none {κ : Type} [DecidableEq κ] {k : κ} : ∀ {ks : List κ} {l : List D} {vs : List V}, Reps K g I l vs → valD ks l k = none → valV (ks.zip vs) k = none
  | [], l, vs, r, h => by simp [valV]
  | x :: ks, [], vs, r, h => by obtain rfl := reps_nil.mp r; simp [valV]
  | x :: ks, y :: l, vs, r, h => by
    obtain ⟨u, us, rfl, r1, r2⟩ := reps_cons.mp r
    unfold valD at h
    unfold valV
    rw [List.zip_cons_cons, List.find?_cons] at *
    by_cases e : x = k
    · rw [show decide ((x, y).1 = k) = true from decide_eq_true e] at h
      cases h
    · rw [show decide ((x, y).1 = k) = false from decide_eq_false e] at h
      rw [show decide ((x, u).1 = k) = false from decide_eq_false e]
      exact valD_none r2 h
theorem lk_ixP {x y z : D} {v w : V} {Q : VK} (le : Sub I H) (rx : PRep K g I H x v) (ry : Rep K g I y w) (hz : dIxA x y = some z) (q : ∀ u, Rep K g I z u → Q u H) : rIxA K v w H Q := by
  cases x with
  | dic ks l =>
    obtain ⟨p, vs, rfl, e2, e3, e4⟩ := prep_dic.mp rx
    obtain ⟨k, hk, hv⟩ := Option.bind_eq_some_iff.mp (show (keyOf y).bind (fun k => valD ks l k) = some z from hz)
    obtain ⟨u, hu, ru⟩ := valD_v e4 hv
    exact .inr ⟨p, u, rfl, .inl ⟨_, k, e2, keyOf_v hk ry, hu.symm⟩, q u ru⟩
  | lst l =>
    cases y with
    | int i =>
      obtain rfl := rep_int.mp ry
      obtain ⟨p, vs, rfl, e2, e3⟩ := prep_lst.mp rx
      obtain ⟨u, hu, ru⟩ := atI_reps e3 (show atI l i = some z from hz)
      exact .inl (.inl ⟨p, vs, i, u, rfl, rfl, SqL.of e2, hu, q u ru⟩)
    | _ => cases hz
  | dct ks l => cases hz
  | tup l => exact .inl (lk_ix I H _ y z v w Q le rx ry hz q)
  | str l => exact .inl (lk_ix I H _ y z v w Q le rx ry hz q)
  | _ => cases hz
theorem lk_ixA : Lk2F K g (rIxA K) dIxA := fun I H x y z v w Q le rx ry hz q => lk_ixP le (rx.prep le) ry hz q
end
/-- name[e]: the name is read behind e -/
def ixNm (i : Nat) (f : D → D → Option D) (m : M D) : M D := fun env => match (env[i]?).bind Slot.dat with
  | some _ => bnd m (fun y env' => match (env'[i]?).bind Slot.dat with
    | some x => lift (f x y) env'
    | none => .bad) env
  | none => .bad
section
variable {X : Cx} {g : Gx} {W : WX} {pos p : Pos} {a b c e : Expr} {es : List Expr} {ma mb mc : M D} {mas : M (List D)}
theorem d_ixA {k : Nat} (hr : Room k X.A) (ha : DE X g W a ma) (hb : DE X g W b mb) (hs : PlainIx b := by exact fun _ _ => rfl) : DE X g W (.Subscript a b pos) (o2 dIxA ma mb) :=
  pe_imp (pe_ix (ix_all (hu_of hr)) ha hb hs) fun σ H Q h => tr_o2 lk_ixA.lk h
theorem d_ixN {k i : Nat} {x : Str} (hr : Room k X.A) (hN : X.N[i]? = some x) (hb : DE X g W b mb) (hv : Vis X.env.scope x := by first | exact Or.inl rfl | exact Or.inr (Or.inl rfl) | exact Or.inr (Or.inr rfl)) (hs : PlainIx b := by exact fun _ _ => rfl) (hd : (x == ("__debug__" : Str)) = false := by decide)
    (hcd : (x == ("__classdict__" : Str)) = false := by decide) : DE X g W (.Subscript (.Name x p) b pos) (ixNm i dIxA mb) :=
  pe_imp (pe_ix (ix_all (hu_of hr)) (pv i hN hv hd hcd) hb hs) fun σ H Q ⟨I, env, ok, h⟩ => by
    unfold ixNm at h
    cases e : (env[i]?).bind Slot.dat with
    | none => rw [e] at h; exact h.elim
    | some d0 =>
      rw [e] at h
      obtain ⟨s, e1, e2⟩ := dat_of e
      obtain ⟨x, hx, hs⟩ := ok.lk e1
      obtain ⟨v, rfl, r⟩ := hs.prep ok.sub e2
      refine ⟨v, hx, tr_bnd (Rr' := RD X.K g) ok h fun w y I1 H1 env1 st ry h1 => ?_⟩
      cases e3 : (env1[i]?).bind Slot.dat with
      | none => rw [e3] at h1; exact h1.elim
      | some d1 =>
        rw [e3] at h1
        obtain ⟨s1, z1, z2⟩ := dat_of e3
        obtain ⟨v', q1, q2⟩ := (st.ok.slot i s1 _ z1 hx).prep st.ok.sub z2
        cases q1
        obtain ⟨z, hz, q⟩ := out_lift h1
        exact lk_ixP st.ok.sub q2 ry hz fun u ru => q u I1 H1 (StpP.refl st.ok) ru
/-! ### name[e] = v, name a list of one's own, or the caller's -/
def stIx (i : Nat) (mi mv : M D) : M Fl := bnd mv fun v env => match (env[i]?).bind Slot.dat with
  | some _ => bnd mi (fun y env' => match env'[i]?, y with
    | some (.ol l), .int k => (match L2.ixN l.length k with
      | some j => .ok .nx (env'.set i (.ol (l.set j v)))
      | none => .bad)
    | some (.io l), .int k => (match L2.ixN l.length k with
      | some j => .ok .nx (env'.set i (.io (l.set j v)))
      | none => .bad)
    | _, _ => .bad) env
  | none => .bad
theorem s_stIx {i : Nat} {x : Str} {ei : Expr} {mi : M D} {p2 : Pos} (hN : X.N[i]? = some x) (hi : DE X g W ei mi) (he : DE X g W e ma) (hv : Vis X.env.scope x := by first | exact Or.inl rfl | exact Or.inr (Or.inl rfl) | exact Or.inr (Or.inr rfl))
    (ha : ∀ v, assign (.Subscript (.Name x p) ei p2) X.env v = (do let ov ← holding [v] (eval (.Name x p) X.env); let iv ← holding [v, ov] (eval ei X.env); standAt p2; holding [v, ov, iv] (setItem ov iv v); release [v, ov, iv] []) := by intro _; rfl)
    (hs : swapsWithSole [.Subscript (.Name x p) ei p2] e pos.line X.env = pure false := by rfl) (hw : swappedStores [.Subscript (.Name x p) ei p2] e X.env = pure none := by rfl)
    (h1 : (assignEach [.Subscript (.Name x p) ei p2] X.env).map (·.2) = [assign (.Subscript (.Name x p) ei p2) X.env] := by rfl) (hd : (x == ("__debug__" : Str)) = false := by decide) (hcd : (x == ("__classdict__" : Str)) = false := by decide) :
    DS X g W (.Assign [.Subscript (.Name x p) ei p2] e pos) (stIx i mi ma) :=
  ps_imp (ps_asg he (pg_sub (pv i hN hv hd hcd) hi set_list ha) hs hw h1) fun Dn σ H ⟨I, env, ok, h⟩ => trS_bnd (Rr := RD X.K g) ok h fun v d I1 H1 env1 st r h1 => by
    cases e0 : (env1[i]?).bind Slot.dat with
    | none => rw [e0] at h1; exact h1.elim
    | some d0 =>
      rw [e0] at h1
      obtain ⟨s, z1, z2⟩ := dat_of e0
      obtain ⟨x0, hx0, hs0⟩ := st.ok.lk z1
      obtain ⟨v0, rfl, _⟩ := hs0.prep st.ok.sub z2
      refine ⟨v0, hx0, trS_bnd (Rr := RD X.K g) st.ok h1 fun w y I2 H2 env2 st2 ry h2 => ?_⟩
      have rv := Rep.mono st2.sub r
      revert h2
      cases e2 : env2[i]? with
      | none => intro h2; exact h2.elim
      | some s2 =>
        obtain ⟨x2, hx2, hs2⟩ := st2.ok.lk e2
        rw [hx0] at hx2; cases hx2
        cases y with
        | int k =>
          obtain rfl := rep_int.mp ry
          cases s2 with
          | ol l =>
            intro h2
            obtain ⟨q, us, q1, q2, q3, q4⟩ := id hs2
            cases q1
            cases e4 : L2.ixN l.length k with
            | none => simp only [e4] at h2; exact h2.elim
            | some j =>
              simp only [e4] at h2
              exact ⟨q, us, k, j, rfl, rfl, q2, by rw [← q4.length]; exact e4, h2 σ I2 _ (st2.ok.mutate (s' := .ol (l.set j d)) e2 rfl rfl rfl hx0 (fun _ z => nomatch z) ⟨_, us.set j v, rfl, upd_same, q3, q4.set j rv⟩)⟩
          | io l =>
            intro h2
            obtain ⟨q, us, q1, q2, q3, q4⟩ := id hs2
            cases q1
            cases e4 : L2.ixN l.length k with
            | none => simp only [e4] at h2; exact h2.elim
            | some j =>
              simp only [e4] at h2
              exact ⟨q, us, k, j, rfl, rfl, q2, by rw [← q4.length]; exact e4, h2 σ I2 _ (st2.ok.mutate (s' := .io (l.set j d)) e2 rfl rfl rfl hx0 (fun _ z => nomatch z) ⟨_, us.set j v, rfl, upd_same, q3, q4.set j rv⟩)⟩
          | _ => intro h2; exact h2.elim
        | _ => intro h2; cases s2 <;> exact h2.elim
end
end DL
set_option Elab.async false
set_option linter.all false
set_option maxRecDepth 100000
set_option maxHeartbeats 4000000
set_option autoImplicit false
namespace DL
open PySem PySem.Spec PyProof.Rows L2 LamX

/-! ### calls of built-ins -/
/-- x(e, ..) is what r asks -/
structure BC (X : Cx) (x : Str) (r : List V → Hp → VK → Prop) : Prop where
  run : ∀ {e : Expr} {es : List Expr} {t : TA} {p pos : Pos}, PA X (e :: es) t → starEach (e :: es) X.env = (false, eval e X.env) :: starEach es X.env → (backTo pos (starEach es X.env)).any (·.1) = false → PE X (.Call (.Name x p) (e :: es) [] pos) (tCB r t)
section
variable {X : Cx}
theorem bcB {x : Str} {id : String} {r : List V → Hp → VK → Prop} (hc : CallR X (.builtin id) r) (hg : Gl X x) (hm : X.mg x = none) (hv : bootBuiltins x = some (.builtin id)) (hn : x ≠ "__name__" := by decide) (hdb : (x == ("__debug__" : Str)) = false := by decide) : BC X x r :=
  ⟨fun ha he hpl => pe_callB hc hg hm hv ha hn hdb he hpl⟩
theorem bcT {x : Str} {T : String} {r : List V → Hp → VK → Prop} (hc : CallR X (.type T) r) (hg : Gl X x) (hm : X.mg x = none) (hv : bootBuiltins x = some (.type T)) (hn : x ≠ "__name__" := by decide) (hdb : (x == ("__debug__" : Str)) = false := by decide) : BC X x r :=
  ⟨fun ha he hpl => pe_callTy hc hg hm hv ha hn hdb he hpl⟩
theorem bc_abs (hg : Gl X "abs") (hm : X.mg "abs" = none) : BC X "abs" (fun xs H Q => ∃ i, xs = [.int i] ∧ Q (.int (if i < 0 then -i else i)) H) := bcB call_abs hg hm (by decide +kernel)
theorem bc_int (hg : Gl X "int") (hm : X.mg "int" = none) : BC X "int" (fun xs H Q => (∃ i, xs = [.int i] ∧ Q (.int i) H) ∨ ∃ k, xs = [.bl k] ∧ Q (.int (if k then 1 else 0)) H) := bcT call_int1 hg hm (by decide +kernel)
def rLenA (X : Cx) : List V → Hp → VK → Prop := fun xs H Q => (∃ p ys, xs = [.ref p] ∧ (SqL X.K H p ys ∨ SqT X.K H p ys) ∧ Q (.int ys.length) H) ∨ ((∃ z, xs = [.str z] ∧ z.length ≤ sizeLine ∧ Q (.int z.length) H) ∨ (∃ a kvs, xs = [V.ref a] ∧ H a = some (.dK kvs) ∧ Q (.int kvs.length) H))
theorem CallR.or {f : Value} {r r' : List V → Hp → VK → Prop} (h : CallR X f r) (h' : CallR X f r') : CallR X f (fun xs H Q => r xs H Q ∨ r' xs H Q) := by
  intro pins s σ H xs us Q I rs q
  rcases q with q | q
  · exact h pins s σ H xs us Q I rs q
  · exact h' pins s σ H xs us Q I rs q
theorem bc_len (hg : Gl X "len") (hm : X.mg "len" = none) : BC X "len" (rLenA X) := bcB (CallR.or call_len_seq (CallR.or call_len_str call_lenD)) hg hm (by decide +kernel)
theorem bc_min2 (hc : X.calm = true) (hg : Gl X "min") (hm : X.mg "min" = none) : BC X "min" (fun xs H Q => ∃ i j, xs = [.int i, .int j] ∧ Q (.int (if j < i then j else i)) H) := bcB (call_min2 hc) hg hm (by decide +kernel)
theorem bc_max2 (hc : X.calm = true) (hg : Gl X "max") (hm : X.mg "max" = none) : BC X "max" (fun xs H Q => ∃ i j, xs = [.int i, .int j] ∧ Q (.int (if j > i then j else i)) H) := bcB (call_max2 hc) hg hm (by decide +kernel)
theorem bc_sum (hc : X.calm = true) (hg : Gl X "sum") (hm : X.mg "sum" = none) : BC X "sum" (rSum X.K) := bcB (cr_sum hc) hg hm (by decide +kernel)
theorem bc_maxL (hc : X.calm = true) (hg : Gl X "max") (hm : X.mg "max" = none) : BC X "max" (rMax X.K) := bcB (cr_max hc) hg hm (by decide +kernel)
theorem bc_minL (hc : X.calm = true) (hg : Gl X "min") (hm : X.mg "min" = none) : BC X "min" (rMin X.K) := bcB (cr_min hc) hg hm (by decide +kernel)
def rTupA (X : Cx) : List V → Hp → VK → Prop := fun xs H Q => ∃ p ys, xs = [.ref p] ∧ ((SqL X.K H p ys ∧ ∀ l, H l = none → Q (.ref l) (upd H l (.tup ys))) ∨ (SqT X.K H p ys ∧ Q (.ref p) H))
theorem bc_tuple (hg : Gl X "tuple") (hm : X.mg "tuple" = none) : BC X "tuple" (rTupA X) := bcT call_tuple_of hg hm (by decide +kernel)
def rListA (X : Cx) : List V → Hp → VK → Prop := fun xs H Q => (∃ p ys, xs = [.ref p] ∧ (SqL X.K H p ys ∨ SqT X.K H p ys) ∧ ∀ l, H l = none → Q (.ref l) (upd H l (.lst ys))) ∨ (∃ (a : Addr) (kvs : List (Key × V)), xs = [.ref a] ∧ Rd H a (.dK kvs) ∧ ∀ p, H p = none → Q (.ref p) (upd H p (.lst (kvs.map fun kv => kV kv.1))))
theorem bc_list (hc : X.calm = true) (hg : Gl X "list") (hm : X.mg "list" = none) : BC X "list" (rListA X) := bcT (CallR.or call_list_of (call_listD hc)) hg hm (by decide +kernel)
theorem bc_str (hg : Gl X "str") (hm : X.mg "str" = none) : BC X "str" (fun xs H Q => (∃ i, xs = [.int i] ∧ i.natAbs.log2 < 1920 ∧ Q (.str (toString i)) H) ∨ ∃ a, xs = [.str a] ∧ Q (.str a) H) := bcT (CallR.or call_str_int SkE.call_str_str) hg hm (by decide +kernel)
def rSortA (X : Cx) : List V → Hp → VK → Prop := fun vs H Q => rSortedI X.K vs H Q ∨ (rSortedS X.K vs H Q ∨ ((∃ (a : Addr) (kvs : List (Key × V)) (ks : List Str), vs = [.ref a] ∧ Rd H a (.dK kvs) ∧ kvs.map (·.1) = ks.map Sum.inr ∧ ks.length < 64 ∧ ∀ ys p, ys.Perm ks → sortedS ys = true → H p = none → Q (.ref p) (upd H p (.lst (ys.map V.str)))) ∨
    (∃ (a : Addr) (kvs : List (Key × V)) (ks : List Int), vs = [.ref a] ∧ Rd H a (.dK kvs) ∧ kvs.map (·.1) = ks.map Sum.inl ∧ ks.length < 64 ∧ ∀ (ys : List Int) (p : Addr), ys.Perm ks → ys.Pairwise (· ≤ ·) → H p = none → Q (.ref p) (upd H p (.lst (ys.map V.int))))))
theorem bc_sorted (hc : X.calm = true) (hg : Gl X "sorted") (hm : X.mg "sorted" = none) : BC X "sorted" (rSortA X) := bcB (CallR.or cr_sortedI (CallR.or cr_sortedS (CallR.or (call_sortedD hc) (call_sortedDI hc)))) hg hm (by decide +kernel)
end
/-! ### what they are worth -/
/-- one argument, read; a known answer -/
def LkP (K : PySem.W.Frag) (g : Gx) (r : List V → Hp → VK → Prop) (f : D → Option D) : Prop := ∀ (I H : Hp) (σ : L2.St) (env : DL.Env) (x z : D) (v : V) (Q : VK), EnvOk K g I H σ env → PRep K g I H x v → f x = some z → (∀ u I' H', StpE K g I H σ env I' H' σ env → Rep K g I' z u → Q u H') → r [v] H Q
/-- .. a fresh list -/
def LkPL (K : PySem.W.Frag) (g : Gx) (r : List V → Hp → VK → Prop) (f : D → Option (List D)) : Prop := ∀ (I H : Hp) (σ : L2.St) (env : DL.Env) (x : D) (z : List D) (v : V) (Q : VK), EnvOk K g I H σ env → PRep K g I H x v → f x = some z →
  (∀ u I' H', StpE K g I H σ env I' H' σ env → RO K g H I' H' z u → Q u H') → r [v] H Q
def o1L (f : D → Option (List D)) (a : M D) : M (List D) := bnd a fun x => lift (f x)
section
variable {X : Cx} {g : Gx} {W : WX} {p pos : Pos} {a b c e : Expr} {es : List Expr} {ma mb mc : M D} {mas : M (List D)} {x : Str} {r : List V → Hp → VK → Prop}
theorem out_liftR {K : PySem.W.Frag} {α β : Type} {Rr : Rl α β} {I H : Hp} {σ : L2.St} {env : DL.Env} {Q : β → Hp → Prop} {o : Option α} (h : Out K g W Rr I H σ env (lift o env) Q) : ∃ z, o = some z ∧ ∀ u I' H', StpE K g I H σ env I' H' σ env → Rr H I' H' z u → Q u H' := by
  cases o with
  | none => exact h.elim
  | some z => exact ⟨z, rfl, h⟩
theorem tr_cb1 {K : PySem.W.Frag} {σ : L2.St} {H : Hp} {Q : VK} {f : D → Option D} (hl : LkP K g r f) (h : tr K g W (RD K g) (o1 f ma) σ H Q) : tCB r (tCons (tr K g W (RP K g) ma) tNil) σ H Q := by
  obtain ⟨I, env, ok, h⟩ := h
  exact tr_bnd (Rr' := RP K g) ok h fun v d I1 H1 env1 st r1 h1 => by
    obtain ⟨z, hz, q⟩ := out_lift h1
    exact hl I1 H1 σ env1 d z v Q st.ok r1 hz q
theorem tr_cb1L {K : PySem.W.Frag} {σ : L2.St} {H : Hp} {Q : VK} {f : D → Option (List D)} (hl : LkPL K g r f) (h : tr K g W (RO K g) (o1L f ma) σ H Q) : tCB r (tCons (tr K g W (RP K g) ma) tNil) σ H Q := by
  obtain ⟨I, env, ok, h⟩ := h
  exact tr_bnd (Rr := RO K g) (Rr' := RP K g) ok h fun v d I1 H1 env1 st r1 h1 => by
    obtain ⟨z, hz, q⟩ := out_liftR h1
    exact hl I1 H1 σ env1 d z v Q st.ok r1 hz q
/-- x(e), e read -/
theorem d_b1 {f : D → Option D} (B : BC X x r) (hl : LkP X.K g r f) (ha : DP X g W e ma) (hs : starEach [e] X.env = [(false, eval e X.env)] := by rfl) : DE X g W (.Call (.Name x p) [e] [] pos) (o1 f ma) :=
  pe_imp (B.run (pa_cons ha pa_nil hs) hs rfl) fun σ H Q h => tr_cb1 hl h
/-- x(e), e read, a fresh list -/
theorem c_b1 {f : D → Option (List D)} (B : BC X x r) (hl : LkPL X.K g r f) (ha : DP X g W e ma) (hs : starEach [e] X.env = [(false, eval e X.env)] := by rfl) : DC X g W (.Call (.Name x p) [e] [] pos) (o1L f ma) :=
  pe_imp (B.run (pa_cons ha pa_nil hs) hs rfl) fun σ H Q h => tr_cb1L hl h
/-- x(e, ..) -/
theorem d_bn {f : List D → Option D} (B : BC X x r) (hl : LkC X.K g r f) (ha : DA X g W (e :: es) mas) (he : starEach (e :: es) X.env = (false, eval e X.env) :: starEach es X.env := by rfl) (hpl : (backTo pos (starEach es X.env)).any (·.1) = false := by rfl) : DE X g W (.Call (.Name x p) (e :: es) [] pos) (oc f mas) :=
  pe_imp (B.run ha he hpl) fun σ H Q h => tr_oc hl h
end
def intsD : List D → Option (List Int)
  | [] => some []
  | .int i :: ds => (intsD ds).map (i :: ·)
  | _ => none
def strsD : List D → Option (List Str)
  | [] => some []
  | .str i :: ds => (strsD ds).map (i :: ·)
  | _ => none
theorem intsD_of : ∀ {ds : List D} {ns : List Int}, intsD ds = some ns → ds = ns.map D.int
  | [], _, h => by cases h; rfl
  | .int i :: ds, _, h => by
    obtain ⟨ns, h1, rfl⟩ := Option.map_eq_some_iff.mp (show (intsD ds).map (i :: ·) = some _ from h)
    rw [intsD_of h1]; rfl
theorem strsD_of : ∀ {ds : List D} {ns : List Str}, strsD ds = some ns → ds = ns.map D.str
  | [], _, h => by cases h; rfl
  | .str i :: ds, _, h => by
    obtain ⟨ns, h1, rfl⟩ := Option.map_eq_some_iff.mp (show (strsD ds).map (i :: ·) = some _ from h)
    rw [strsD_of h1]; rfl
theorem intsD_map (ns : List Int) : intsD (ns.map D.int) = some ns := by
  induction ns with
  | nil => rfl
  | cons n ns ih => show (intsD (ns.map D.int)).map (n :: ·) = _; rw [ih]; rfl
theorem strsD_map (ns : List Str) : strsD (ns.map D.str) = some ns := by
  induction ns with
  | nil => rfl
  | cons n ns ih => show (strsD (ns.map D.str)).map (n :: ·) = _; rw [ih]; rfl
def dAbs : D → Option D
  | .int i => some (.int (if i < 0 then -i else i))
  | _ => none
def dInt : D → Option D
  | .int i => some (.int i)
  | .bl b => some (.int (if b then 1 else 0))
  | _ => none
def dLen : D → Option D
  | .lst l => some (.int l.length)
  | .tup l => some (.int l.length)
  | .str z => if z.length ≤ 16777216 then some (.int z.length) else none
  | _ => none
def dStr : D → Option D
  | .int i => if i.natAbs.log2 < 1920 then some (.str (toString i)) else none
  | .str a => some (.str a)
  | _ => none
def dMin2 : List D → Option D
  | [.int i, .int j] => some (.int (if j < i then j else i))
  | _ => none
def dMax2 : List D → Option D
  | [.int i, .int j] => some (.int (if j > i then j else i))
  | _ => none
def dSum : D → Option D
  | .lst l => (intsD l).map fun ns => .int ns.sum
  | _ => none
def dTup : D → Option D
  | .lst l => some (.tup l)
  | .tup l => some (.tup l)
  | _ => none
def dLst : D → Option (List D)
  | .lst l => some l
  | .tup l => some l
  | .dic ks _ => some (ks.map fun k => match k with
    | .inl i => .int i
    | .inr s => .str s)
  | _ => none
/-- the greatest, the least -/
def maxI : List Int → Int
  | [] => 0
  | n :: ns => ns.foldl max n
def minI : List Int → Int
  | [] => 0
  | n :: ns => ns.foldl min n
theorem foldl_max_le {ns : List Int} : ∀ {n : Int}, n ≤ ns.foldl max n ∧ (∀ y ∈ ns, y ≤ ns.foldl max n) ∧ (ns.foldl max n = n ∨ ns.foldl max n ∈ ns) := by
  induction ns with
  | nil => intro n; simp
  | cons a ns ih =>
    intro n
    obtain ⟨h1, h2, h3⟩ := ih (n := max n a)
    simp only [List.foldl_cons, List.mem_cons]
    refine ⟨by omega, ?_, ?_⟩
    · rintro y (rfl | hy)
      · omega
      · exact h2 y hy
    · rcases h3 with h | h
      · rw [h]
        by_cases c : n ≤ a
        · right; left; omega
        · left; omega
      · exact .inr (.inr h)
theorem foldl_min_le {ns : List Int} : ∀ {n : Int}, ns.foldl min n ≤ n ∧ (∀ y ∈ ns, ns.foldl min n ≤ y) ∧ (ns.foldl min n = n ∨ ns.foldl min n ∈ ns) := by
  induction ns with
  | nil => intro n; simp
  | cons a ns ih =>
    intro n
    obtain ⟨h1, h2, h3⟩ := ih (n := min n a)
    simp only [List.foldl_cons, List.mem_cons]
    refine ⟨by omega, ?_, ?_⟩
    · rintro y (rfl | hy)
      · omega
      · exact h2 y hy
    · rcases h3 with h | h
      · rw [h]
        by_cases c : a ≤ n
        · right; left; omega
        · left; omega
      · exact .inr (.inr h)
theorem maxI_spec {ns : List Int} (h : ns ≠ []) : maxI ns ∈ ns ∧ ∀ y ∈ ns, y ≤ maxI ns := by
  cases ns with
  | nil => exact absurd rfl h
  | cons a ns =>
    obtain ⟨h1, h2, h3⟩ := foldl_max_le (ns := ns) (n := a)
    refine ⟨?_, ?_⟩
    · show ns.foldl max a ∈ _
      rcases h3 with h | h
      · rw [h]; simp
      · simp [h]
    · intro y hy
      rcases List.mem_cons.mp hy with rfl | hy
      · exact h1
      · exact h2 y hy
theorem minI_spec {ns : List Int} (h : ns ≠ []) : minI ns ∈ ns ∧ ∀ y ∈ ns, minI ns ≤ y := by
  cases ns with
  | nil => exact absurd rfl h
  | cons a ns =>
    obtain ⟨h1, h2, h3⟩ := foldl_min_le (ns := ns) (n := a)
    refine ⟨?_, ?_⟩
    · show ns.foldl min a ∈ _
      rcases h3 with h | h
      · rw [h]; simp
      · simp [h]
    · intro y hy
      rcases List.mem_cons.mp hy with rfl | hy
      · exact h1
      · exact h2 y hy
def dMaxL : D → Option D
  | .lst l => (intsD l).bind fun ns => if ns = [] then none else some (.int (maxI ns))
  | _ => none
def dMinL : D → Option D
  | .lst l => (intsD l).bind fun ns => if ns = [] then none else some (.int (minI ns))
  | _ => none
/-- in order -/
def sortI (ns : List Int) : List Int := ns.mergeSort (fun a b => decide (a ≤ b))
theorem sortI_perm (ns : List Int) : (sortI ns).Perm ns := List.mergeSort_perm ns _
theorem sortI_pw (ns : List Int) : (sortI ns).Pairwise (· ≤ ·) := by
  have := List.pairwise_mergeSort (le := fun a b : Int => decide (a ≤ b)) (fun a b c h1 h2 => by simp at *; omega) (fun a b => by simp; omega) ns
  exact this.imp fun h => by simpa using h
theorem pw_unique : ∀ {l m : List Int}, l.Perm m → l.Pairwise (· ≤ ·) → m.Pairwise (· ≤ ·) → l = m := fun {l m} p h1 h2 => p.eq_of_pairwise (fun a b _ _ h h' => by omega) h1 h2
theorem sortI_of {ns ms : List Int} (p : ms.Perm ns) (h : ms.Pairwise (· ≤ ·)) : ms = sortI ns := pw_unique (p.trans (sortI_perm ns).symm) h (sortI_pw ns)
def keyInts : List Key → Option (List Int)
  | [] => some []
  | .inl i :: ks => (keyInts ks).map (i :: ·)
  | _ => none
theorem keyInts_of : ∀ {ks : List Key} {ns : List Int}, keyInts ks = some ns → ks = ns.map Sum.inl
  | [], _, h => by cases h; rfl
  | .inl i :: ks, _, h => by
    obtain ⟨ns, h1, rfl⟩ := Option.map_eq_some_iff.mp (show (keyInts ks).map (i :: ·) = some _ from h)
    rw [keyInts_of h1]; rfl
  | .inr i :: ks, _, h => by cases h
/-- sorted of ints -/
def dSort : D → Option (List D)
  | .lst l => (intsD l).map fun ns => (sortI ns).map D.int
  | .dic ks _ => (keyInts ks).bind fun ns => if ns.length < 64 then some ((sortI ns).map D.int) else none
  | _ => none
section
variable {X : Cx} {K : PySem.W.Frag} {g : Gx}
theorem lp_abs : LkP K g (fun xs H Q => ∃ i, xs = [.int i] ∧ Q (.int (if i < 0 then -i else i)) H) dAbs := by
  intro I H σ env x z v Q ok rx hz q
  cases x <;> first | (cases hz; done) | skip
  obtain rfl := pr_int rx
  cases hz
  exact ⟨_, rfl, q _ I H (StpP.refl ok) (rep_int.mpr rfl)⟩
theorem lp_int : LkP K g (fun xs H Q => (∃ i, xs = [.int i] ∧ Q (.int i) H) ∨ ∃ k, xs = [.bl k] ∧ Q (.int (if k then 1 else 0)) H) dInt := by
  intro I H σ env x z v Q ok rx hz q
  cases x <;> first | (cases hz; done) | skip
  · obtain rfl := pr_bl rx
    cases hz
    exact .inr ⟨_, rfl, q _ I H (StpP.refl ok) (rep_int.mpr rfl)⟩
  · obtain rfl := pr_int rx
    cases hz
    exact .inl ⟨_, rfl, q _ I H (StpP.refl ok) (rep_int.mpr rfl)⟩
theorem lp_str : LkP K g (fun xs H Q => (∃ i, xs = [.int i] ∧ i.natAbs.log2 < 1920 ∧ Q (.str (toString i)) H) ∨ ∃ a, xs = [.str a] ∧ Q (.str a) H) dStr := by
  intro I H σ env x z v Q ok rx hz q
  cases x <;> first | (cases hz; done) | skip
  · rename_i i
    obtain rfl := pr_int rx
    have hz' : (if i.natAbs.log2 < 1920 then some (D.str (toString i)) else none) = some z := hz
    split at hz'
    · rename_i h
      cases hz'
      exact .inl ⟨_, rfl, h, q _ I H (StpP.refl ok) (rep_str.mpr rfl)⟩
    · cases hz'
  · obtain rfl := pr_str rx
    cases hz
    exact .inr ⟨_, rfl, q _ I H (StpP.refl ok) (rep_str.mpr rfl)⟩
theorem lp_len : LkP X.K g (rLenA X) dLen := by
  intro I H σ env x z v Q ok rx hz q
  cases x <;> first | (cases hz; done) | skip
  · rename_i s
    obtain rfl := pr_str rx
    have hz' : (if s.length ≤ 16777216 then some (D.int s.length) else none) = some z := hz
    split at hz'
    · rename_i h
      cases hz'
      exact .inr (.inl ⟨_, rfl, by rw [line_eq]; exact h, q _ I H (StpP.refl ok) (rep_int.mpr rfl)⟩)
    · cases hz'
  · obtain ⟨p, vs, rfl, e2, e3⟩ := pr_tup rx
    cases hz
    exact .inl ⟨p, vs, rfl, .inr (sub_t ok.sub e2), q _ I H (StpP.refl ok) (rep_int.mpr (by rw [e3.length]))⟩
  · obtain ⟨p, vs, rfl, e2, e3⟩ := prep_lst.mp rx
    cases hz
    exact .inl ⟨p, vs, rfl, .inl (SqL.of e2), q _ I H (StpP.refl ok) (rep_int.mpr (by rw [e3.length]))⟩
theorem lc_min2 : LkC K g (fun xs H Q => ∃ i j, xs = [.int i, .int j] ∧ Q (.int (if j < i then j else i)) H) dMin2 := by
  intro I H σ env x z v Q ok rx hz q
  unfold dMin2 at hz
  split at hz
  · cases hz
    obtain ⟨u, us, rfl, r1, r'⟩ := reps_cons.mp rx
    obtain ⟨u2, us2, rfl, r2, r''⟩ := reps_cons.mp r'
    obtain rfl := reps_nil.mp r''
    obtain rfl := rep_int.mp r1
    obtain rfl := rep_int.mp r2
    exact ⟨_, _, rfl, q _ I H (StpP.refl ok) (rep_int.mpr rfl)⟩
  · cases hz
theorem lc_max2 : LkC K g (fun xs H Q => ∃ i j, xs = [.int i, .int j] ∧ Q (.int (if j > i then j else i)) H) dMax2 := by
  intro I H σ env x z v Q ok rx hz q
  unfold dMax2 at hz
  split at hz
  · cases hz
    obtain ⟨u, us, rfl, r1, r'⟩ := reps_cons.mp rx
    obtain ⟨u2, us2, rfl, r2, r''⟩ := reps_cons.mp r'
    obtain rfl := reps_nil.mp r''
    obtain rfl := rep_int.mp r1
    obtain rfl := rep_int.mp r2
    exact ⟨_, _, rfl, q _ I H (StpP.refl ok) (rep_int.mpr rfl)⟩
  · cases hz
theorem prep_ints {I H : Hp} {l : List D} {v : V} {ns : List Int} (rx : PRep K g I H (.lst l) v) (h : intsD l = some ns) : ∃ p, v = .ref p ∧ H p = some (.lst (ns.map V.int)) := by
  obtain ⟨p, vs, rfl, e2, e3⟩ := prep_lst.mp rx
  rw [intsD_of h] at e3
  rw [reps_ints e3] at e2
  exact ⟨p, rfl, e2⟩
theorem lp_sum : LkP K g (rSum K) dSum := by
  intro I H σ env x z v Q ok rx hz q
  cases x <;> first | (cases hz; done) | skip
  obtain ⟨ns, h1, rfl⟩ := Option.map_eq_some_iff.mp (show (intsD _).map (fun ns => D.int ns.sum) = some z from hz)
  obtain ⟨p, rfl, e2⟩ := prep_ints rx h1
  exact ⟨p, ns, rfl, SqL.of e2, q _ I H (StpP.refl ok) (rep_int.mpr rfl)⟩
theorem lp_maxL : LkP K g (rMax K) dMaxL := by
  intro I H σ env x z v Q ok rx hz q
  cases x <;> first | (cases hz; done) | skip
  obtain ⟨ns, h1, h2⟩ := Option.bind_eq_some_iff.mp (show (intsD _).bind (fun ns => if ns = [] then none else some (D.int (maxI ns))) = some z from hz)
  split at h2
  · cases h2
  · rename_i hne
    cases h2
    obtain ⟨p, rfl, e2⟩ := prep_ints rx h1
    obtain ⟨m1, m2⟩ := maxI_spec hne
    refine ⟨p, ns, rfl, SqL.of e2, List.length_pos_iff.mpr hne, fun m hm hall => ?_⟩
    have : m = maxI ns := by have := hall _ m1; have := m2 m hm; omega
    rw [this]
    exact q _ I H (StpP.refl ok) (rep_int.mpr rfl)
theorem lp_minL : LkP K g (rMin K) dMinL := by
  intro I H σ env x z v Q ok rx hz q
  cases x <;> first | (cases hz; done) | skip
  obtain ⟨ns, h1, h2⟩ := Option.bind_eq_some_iff.mp (show (intsD _).bind (fun ns => if ns = [] then none else some (D.int (minI ns))) = some z from hz)
  split at h2
  · cases h2
  · rename_i hne
    cases h2
    obtain ⟨p, rfl, e2⟩ := prep_ints rx h1
    obtain ⟨m1, m2⟩ := minI_spec hne
    refine ⟨p, ns, rfl, SqL.of e2, List.length_pos_iff.mpr hne, fun m hm hall => ?_⟩
    have : m = minI ns := by have := hall _ m1; have := m2 m hm; omega
    rw [this]
    exact q _ I H (StpP.refl ok) (rep_int.mpr rfl)
theorem lp_tup : LkP X.K g (rTupA X) dTup := by
  intro I H σ env x z v Q ok rx hz q
  cases x <;> first | (cases hz; done) | skip
  · obtain ⟨p, vs, rfl, e2, e3⟩ := pr_tup rx
    cases hz
    exact ⟨p, vs, rfl, .inr ⟨sub_t ok.sub e2, q _ I H (StpP.refl ok) rx⟩⟩
  · obtain ⟨p, vs, rfl, e2, e3⟩ := prep_lst.mp rx
    cases hz
    refine ⟨p, vs, rfl, .inl ⟨SqL.of e2, fun l hl => ?_⟩⟩
    obtain ⟨s2, r2⟩ := StpP.newTup ok hl e3
    exact q _ _ _ s2 r2
theorem roNew {I H : Hp} {σ : L2.St} {env : DL.Env} {l : Addr} {vs : List V} {ds : List D} (ok : EnvOk K g I H σ env) (hl : H l = none) (r : Reps K g I ds vs) : StpE K g I H σ env I (upd H l (.lst vs)) σ env ∧ RO K g H I (upd H l (.lst vs)) ds (.ref l) :=
  ⟨ok.newH hl, l, vs, rfl, upd_same, .inl hl, ok.fresh_i hl, r⟩
theorem keys_reps {I : Hp} : ∀ (ks : List Key), Reps K g I (ks.map fun k => match k with
    | .inl i => D.int i
    | .inr s => D.str s) (ks.map kV)
  | [] => Reps.nil
  | .inl i :: ks => Reps.cons (rep_int.mpr rfl) (keys_reps ks)
  | .inr i :: ks => Reps.cons (rep_str.mpr rfl) (keys_reps ks)
theorem zip_keys : ∀ {ks : List Key} {vs : List V}, ks.length = vs.length → (ks.zip vs).map (·.1) = ks
  | [], [], _ => rfl
  | k :: ks, v :: vs, h => by
    rw [List.zip_cons_cons, List.map_cons, zip_keys (by simpa using h)]
  | [], _ :: _, h => by simp at h
  | _ :: _, [], h => by simp at h
theorem ll_list : LkPL X.K g (rListA X) dLst := by
  intro I H σ env x z v Q ok rx hz q
  cases x <;> first | (cases hz; done) | skip
  · obtain ⟨p, vs, rfl, e2, e3⟩ := pr_tup rx
    cases hz
    refine .inl ⟨p, vs, rfl, .inr (sub_t ok.sub e2), fun l hl => ?_⟩
    obtain ⟨s2, r2⟩ := roNew ok hl e3
    exact q _ _ _ s2 r2
  · obtain ⟨p, vs, rfl, e2, e3⟩ := prep_lst.mp rx
    cases hz
    refine .inl ⟨p, vs, rfl, .inl (SqL.of e2), fun l hl => ?_⟩
    obtain ⟨s2, r2⟩ := roNew ok hl e3
    exact q _ _ _ s2 r2
  · rename_i ks l
    obtain ⟨p, vs, rfl, e2, e3, e4⟩ := prep_dic.mp rx
    cases hz
    refine .inr ⟨p, _, rfl, e2, fun l hl => ?_⟩
    have e : (ks.zip vs).map (fun kv => kV kv.1) = ks.map kV := by
      have := congrArg (List.map kV) (zip_keys e3)
      rw [List.map_map] at this
      exact this
    rw [e]
    obtain ⟨s2, r2⟩ := roNew ok hl (keys_reps (K := X.K) (g := g) (I := I) ks)
    exact q _ _ _ s2 r2
theorem ll_sort : LkPL X.K g (rSortA X) dSort := by
  intro I H σ env x z v Q ok rx hz q
  cases x <;> first | (cases hz; done) | skip
  · obtain ⟨ns, h1, rfl⟩ := Option.map_eq_some_iff.mp (show (intsD _).map (fun ns => (sortI ns).map D.int) = some z from hz)
    obtain ⟨p, rfl, e2⟩ := prep_ints rx h1
    refine .inl ⟨p, ns, rfl, SqL.of e2, fun ns' l hp hw hl => ?_⟩
    rw [sortI_of hp hw]
    obtain ⟨s2, r2⟩ := roNew ok hl (ints_reps (K := X.K) (g := g) (I := I) (sortI ns))
    exact q _ _ _ s2 r2
  · rename_i ks l
    obtain ⟨p, vs, rfl, e2, e3, e4⟩ := prep_dic.mp rx
    obtain ⟨ns, h1, h2⟩ := Option.bind_eq_some_iff.mp (show (keyInts ks).bind (fun ns => if ns.length < 64 then some ((sortI ns).map D.int) else none) = some z from hz)
    split at h2
    · rename_i hl
      cases h2
      refine .inr (.inr (.inr ⟨p, _, ns, rfl, e2, ?_, hl, fun ns' l hp hw hl => ?_⟩))
      · rw [zip_keys e3, keyInts_of h1]
      · rw [sortI_of hp hw]
        obtain ⟨s2, r2⟩ := roNew ok hl (ints_reps (K := X.K) (g := g) (I := I) (sortI ns))
        exact q _ _ _ s2 r2
    · cases h2
end
end DL
set_option Elab.async false
set_option linter.all false
set_option maxRecDepth 100000
set_option maxHeartbeats 4000000
set_option autoImplicit false
namespace DL
open PySem PySem.Spec PyProof.Rows L2 LamX

theorem MeD.mono {P : Program} {w : World} {K : PySem.W.Frag} {mg : Str → Option Value} {base : Heap} {g : Gx} {c : Nat} {m : Str} {k k' n : Nat} {sp : Sp} (h : MeD P w K mg base g c m k n sp) (hk : k ≤ k') : MeD P w K mg base g c m k' n sp := by
  obtain ⟨a, fd, ps, F, r⟩ := h.ex
  exact ⟨a, fd, ps, F.mono hk, r⟩
/-! ### a method by the class that the receiver has -/
def MeAll (P : Program) (w : World) (K : PySem.W.Frag) (mg : Str → Option Value) (base : Heap) (g : Gx) (m : Str) (k : Nat) (alts : List (Nat × FD)) : Prop := ∀ c f, alts.lookup c = some f → ∃ n, MeD P w K mg base g c m k n (spF K g n f) ∧ Ar n f
theorem MeAll.nil {P : Program} {w : World} {K : PySem.W.Frag} {mg : Str → Option Value} {base : Heap} {g : Gx} {m : Str} {k : Nat} : MeAll P w K mg base g m k [] := fun c f h => by cases h
theorem MeAll.cons {P : Program} {w : World} {K : PySem.W.Frag} {mg : Str → Option Value} {base : Heap} {g : Gx} {m : Str} {k k1 c n : Nat} {f : FD} {alts : List (Nat × FD)} (h : MeD P w K mg base g c m k1 n (spF K g n f)) (ha : Ar n f) (hk : k1 ≤ k) (r : MeAll P w K mg base g m k alts) :
    MeAll P w K mg base g m k ((c, f) :: alts) := fun c' f' e => by
  rw [List.lookup_cons] at e
  by_cases hc : c' = c
  · subst hc
    rw [beq_self_eq_true] at e
    cases e
    exact ⟨n, h.mono hk, ha⟩
  · rw [show (c' == c) = false by simpa using hc] at e
    exact r c' f' e
def meA (alts : List (Nat × FD)) (mo : M D) (mas : M (List D)) : M D := bnd mo fun x => match x with
  | .obj c l => (match alts.lookup c with
    | some f => bnd mas fun ds => callF f (.obj c l :: ds)
    | none => DL.bad)
  | _ => DL.bad
section
variable {X : Cx} {g : Gx} {W : WX} {p pos apos : Pos} {a b c e o : Expr} {es : List Expr} {ma mb mc : M D} {mas : M (List D)} {k n : Nat} {x m : Str}
def tMethA (X : Cx) (m : Str) (E : L2.St → XK) (ta : TE) (t : TA) : TE := fun σ H Q => ta σ H fun x H1 => ∃ a C dx fs f fd ps sp k, x = .ref a ∧ H1 a = some (.ins C dx fs) ∧ fs.lookup m = none ∧ Cls X.K C ∧ Meth X.K C m f ∧ FnOk X.prog X.w X.K X.mg X.base (L2.CX X.prog X.w) k f fd ps sp ∧ Binds X.K fd ps [] ∧ Room k X.A ∧
  t σ H1 fun vs H2 => sp (x :: vs) H2 Q (E σ)
theorem pe_methA {pl : Sem Bool} {ta : TE} {t : TA} {E : L2.St → XK} (he : PE X o ta) (hx : ∀ σ, PassesAt (L2.CX X.prog X.w) X σ (E σ)) (ha : PA X (e :: es) t)
    (hst : starEach (e :: es) X.env = (false, eval e X.env) :: starEach es X.env := by rfl) (hpl : (backTo pos (starEach es X.env)).any (·.1) = false := by rfl)
    (ht : eval (.Call (.Attribute o m apos) (e :: es) [] pos) X.env = (do let ov ← eval o X.env; standAt apos.atName; let (f, first) ← holding [ov] (getMethod ov m pl); callWith pos f first (backTo pos (starEach (e :: es) X.env)) (backToKw pos (keywordEach [] X.env))) := by rfl) :
    PE X (.Call (.Attribute o m apos) (e :: es) [] pos) (tMethA X m E ta t) := by
  refine ⟨fun pins s σ H Q I h => ?_⟩
  refine PySem.W.methodCall_KW (pl := pl) (thn (he.run pins s σ H _ I h) fun u s1 ⟨x, H1, I1, rx, a, C, dx, fs, f, fd, ps, sp, k, ex, ea, l, hc, hm, F, hb, hr, q⟩ => ?_) ht
  subst ex
  obtain rfl : u = Value.ref a := rx
  refine getmeth_ok I1 ea hc hm l ?_
  refine PySem.W.callWith_K (first := [.ref a]) (h₀ := X.base) I.ok.mod.kin hm.kp (thn (ha.run pos pins s1 σ H1 _ I1 q) fun us s2 ⟨vs, H2, I2, r, q2⟩ => ⟨I2.kIn, ?_⟩) hst hpl
  exact run_fnS (us := .ref a :: us) (vs := .ref a :: vs) F hr hb (hx σ) I2 (.cons rfl r) q2
theorem pe_methA0 {pl : Sem Bool} {ta : TE} {E : L2.St → XK} (he : PE X o ta) (hx : ∀ σ, PassesAt (L2.CX X.prog X.w) X σ (E σ))
    (ht : eval (.Call (.Attribute o m apos) [] [] pos) X.env = (do let ov ← eval o X.env; standAt apos.atName; let (f, first) ← holding [ov] (getMethod ov m pl); callWith pos f first (backTo pos (starEach [] X.env)) (backToKw pos (keywordEach [] X.env))) := by rfl) :
    PE X (.Call (.Attribute o m apos) [] [] pos) (tMethA X m E ta tNil) := by
  refine ⟨fun pins s σ H Q I h => ?_⟩
  refine PySem.W.methodCall_KW (pl := pl) (thn (he.run pins s σ H _ I h) fun u s1 ⟨x, H1, I1, rx, a, C, dx, fs, f, fd, ps, sp, k, ex, ea, l, hc, hm, F, hb, hr, q⟩ => ?_) ht
  subst ex
  obtain rfl : u = Value.ref a := rx
  refine getmeth_ok I1 ea hc hm l ?_
  exact PySem.W.callWith_K0 (first := [.ref a]) I1.kIn hm.kp (run_fnS (us := [.ref a]) (vs := [.ref a]) F hr hb (hx σ) I1 (.cons rfl .nil) q)
theorem d_methA {pl : Sem Bool} {alts : List (Nat × FD)} (M : MeAll X.prog X.w X.K X.mg X.base g m k alts) (tk : Takes X W) (hr : Room k X.A) (ho : DE X g W o mb) (ha : DA X g W (e :: es) mas)
    (hst : starEach (e :: es) X.env = (false, eval e X.env) :: starEach es X.env := by rfl) (hpl : (backTo pos (starEach es X.env)).any (·.1) = false := by rfl)
    (ht : eval (.Call (.Attribute o m apos) (e :: es) [] pos) X.env = (do let ov ← eval o X.env; standAt apos.atName; let (f, first) ← holding [ov] (getMethod ov m pl); callWith pos f first (backTo pos (starEach (e :: es) X.env)) (backToKw pos (keywordEach [] X.env))) := by rfl) : DE X g W (.Call (.Attribute o m apos) (e :: es) [] pos) (meA alts mb mas) := by
  refine pe_imp (pe_methA ho (fun σ => passAt tk σ) ha hst hpl ht) fun σ H Q ⟨I, env, ok, h⟩ => tr_bnd (Rr' := RD X.K g) ok h fun v d I1 H1 env1 st r h1 => ?_
  cases d with
  | obj c' l =>
    dsimp only at h1
    cases hc : alts.lookup c' with
    | none => rw [hc] at h1; exact h1.elim
    | some f =>
      rw [hc] at h1
      obtain ⟨n, F, hn⟩ := M c' f hc
      obtain ⟨a, fd, ps, F, hC, hm, hb, hl⟩ := F.ex
      obtain ⟨p, dx, vs, rfl, e2, e3, e4⟩ := rep_obj.mp r
      exact ⟨p, _, dx, _, a, fd, ps, _, k, rfl, st.ok.sub.get e2 rfl, lookup_zip_none hl, hC, hm, F, hb, hr, tr_bnd (Rr' := RL X.K g) st.ok h1 fun us ds I2 H2 env2 st2 r2 h2 => out_callF st2.ok hn (Reps.cons (Rep.mono st2.sub r) r2) h2⟩
  | _ => exact h1.elim
theorem d_methA0 {pl : Sem Bool} {alts : List (Nat × FD)} (M : MeAll X.prog X.w X.K X.mg X.base g m k alts) (tk : Takes X W) (hr : Room k X.A) (ho : DE X g W o mb)
    (ht : eval (.Call (.Attribute o m apos) [] [] pos) X.env = (do let ov ← eval o X.env; standAt apos.atName; let (f, first) ← holding [ov] (getMethod ov m pl); callWith pos f first (backTo pos (starEach [] X.env)) (backToKw pos (keywordEach [] X.env))) := by rfl) : DE X g W (.Call (.Attribute o m apos) [] [] pos) (meA alts mb (ret [])) := by
  refine pe_imp (pe_methA0 ho (fun σ => passAt tk σ) ht) fun σ H Q ⟨I, env, ok, h⟩ => tr_bnd (Rr' := RD X.K g) ok h fun v d I1 H1 env1 st r h1 => ?_
  cases d with
  | obj c' l =>
    dsimp only at h1
    cases hc : alts.lookup c' with
    | none => rw [hc] at h1; exact h1.elim
    | some f =>
      rw [hc] at h1
      obtain ⟨n, F, hn⟩ := M c' f hc
      obtain ⟨a, fd, ps, F, hC, hm, hb, hl⟩ := F.ex
      obtain ⟨p, dx, vs, rfl, e2, e3, e4⟩ := rep_obj.mp r
      exact ⟨p, _, dx, _, a, fd, ps, _, k, rfl, st.ok.sub.get e2 rfl, lookup_zip_none hl, hC, hm, F, hb, hr, out_callF st.ok hn (Reps.cons r Reps.nil) h1⟩
  | _ => exact h1.elim
end

/-! ### defs as the head tells them -/
section
variable {P : Program} {w : World} {K : PySem.W.Frag} {mg : Str → Option Value} {base : Heap} {g : Gx} {x qual : Str} {params : Arguments} {body : List Stmt} {scope : Scope} {f : Addr} {fd : FuncData} {N ps : List Str} {k : Nat} {m : M Fl}
theorem pre_lenS (S : FnScope N ps scope) : ps.length ≤ N.length := by
  have h : min ps.length N.length = ps.length := by
    have h := congrArg List.length S.pre
    rwa [List.length_take] at h
  omega
theorem outS_spF {N ps : List Str} {vs : List V} {H : Hp} {Q : VK} {E : XK} (hN : ps.length ≤ N.length) (h : spF K g ps.length (runF ps.length N.length m) vs H Q E) : trS K g (WF E) m { nx := fun _ H' => Q .non H', rt := Q } (L2.start N vs) H := by
  obtain ⟨hl, I, ds, pr, r, h⟩ := h
  refine ⟨I, env0 N.length ds, start_ok pr r (by rw [hl]; exact hN), ?_⟩
  unfold runF at h
  rw [if_pos (by rw [r.length]; exact hl)] at h
  cases e : m (env0 N.length ds) with
  | bad => rw [e] at h; exact h
  | err c env' => rw [e] at h; exact fun σ' I' H' s => h I' H' (fst_of s)
  | ok fl env' =>
    rw [e] at h
    cases fl with
    | nx => exact fun σ' I' H' s => h .non I' H' (fst_of s) (rep_non.mpr rfl)
    | ret d => exact fun v σ' I' H' s rv => h v I' H' (fst_of s) rv
    | brk => exact h.elim
    | ct => exact h.elim
/-- the body's word under any code object; LamD told where it is the def's own -/
def BodyD (P : Program) (w : World) (K : PySem.W.Frag) (mg : Str → Option Value) (base : Heap) (g : Gx) (qual : Str) (body : List Stmt) (scope : Scope) (N : List Str) (f : Addr) (cdv : Value) (k : Nat) (m : M Fl) : Prop :=
  ∀ (A : Around) (outer : List PySem.Env) (s : Shared) (H : Hp) (E : XK), Room k (A.deeper (envOfC qual scope s.heap.objs.size f cdv)) → DSs (cxOf (L2.CX P w) P w K mg base N qual scope f cdv A outer s H E) g (WF E) body m
theorem fnD_ok (F : FunD K x qual params body scope [] [] f fd) (S : FnScope N ps scope) (hb : BodyD P w K mg base g qual body scope N f fd.code k m) : FnOk P w K mg base (L2.CX P w) (k + 1) f fd ps (spF K g ps.length (runF ps.length N.length m)) := by
  obtain ⟨oc, od, dV, kV, doc, pm, an, cdv, ct, osl, rfl, lk, hcd, _, _⟩ := F.ex
  exact fn_of lk hcd S (fun vs H Q E h => h.1) fun A outer s H vs Q E hr h => ⟨_, hb A outer s H E hr, outS_spF (pre_lenS S) h⟩
theorem outS_sp1 {N ps : List Str} {vs : List V} {H : Hp} {Q : VK} {E : XK} (hN : ps.length ≤ N.length) (h : sp1 K g ps.length (run1 ps.length N.length m) vs H Q E) : trS K g (WF E) m { nx := fun _ H' => Q .non H', rt := Q } (L2.start N vs) H := by
  obtain ⟨hl, I, sl, ds, p, us, pr, rfl, hp, hs, r, h⟩ := h
  rw [List.length_cons] at hl
  obtain ⟨N1, Nr, rfl⟩ : ∃ a r, N = a :: r := by
    cases N with
    | nil => rw [List.length_nil] at hN; omega
    | cons a r => exact ⟨a, r, rfl⟩
  have hNr : us.length ≤ Nr.length := by rw [List.length_cons] at hN; omega
  have e0 : L2.start (N1 :: Nr) (.ref p :: us) = some (.ref p) :: L2.start Nr us := by
    unfold L2.start; simp
  have ok := start1_ok (N := Nr) (n := N1) pr hs r hNr
  unfold run1 at h
  rw [if_pos ⟨by rw [r.length]; exact hl, hp⟩] at h
  have e1 : (N1 :: Nr).length - 1 = Nr.length := by simp
  rw [e1] at h
  rw [e0]
  refine ⟨I, sl :: env0 Nr.length ds, ok, ?_⟩
  obtain ⟨p', o, e2, e3, e4, e5⟩ := hs.own_of (pin_own hp)
  cases e2
  have fin : ∀ {σ' : L2.St} {I' H' : Hp} {env' : DL.Env}, Stp K g I H (some (.ref p) :: L2.start Nr us) (sl :: env0 Nr.length ds) I' H' σ' env' → ∃ s', env'[0]? = some s' ∧ SlotOk K g I' H' s' (some (.ref p)) ∧ Fst K g (some p) I H I' H' := fun {σ' I' H' env'} s => by
    obtain ⟨q1, s', q2, q3⟩ := s.pin 0 sl rfl hp
    have q1 : σ'[0]? = some (some (.ref p)) := q1
    have so := s.ok.slot 0 s' _ q2 q1
    obtain ⟨p', o', z1, z2, z3, z4⟩ := so.own_of (pin_own q3)
    cases z1
    exact ⟨s', q2, so, fst1_of e3 s.fresh z3 s⟩
  cases e : m (sl :: env0 Nr.length ds) with
  | bad => rw [e] at h; exact h
  | err c env' =>
    rw [e] at h
    intro σ' I' H' s
    obtain ⟨s', q1, q2, q3⟩ := fin s
    dsimp only at h
    rw [q1] at h
    exact h I' H' q3 q2
  | ok fl env' =>
    rw [e] at h
    cases fl with
    | nx =>
      intro σ' I' H' s
      obtain ⟨s', q1, q2, q3⟩ := fin s
      dsimp only [out1] at h
      rw [q1] at h
      exact h .non I' H' q3 (rep_non.mpr rfl) q2
    | ret d =>
      intro v σ' I' H' s rv
      obtain ⟨s', q1, q2, q3⟩ := fin s
      dsimp only [out1] at h
      rw [q1] at h
      exact h v I' H' q3 rv q2
    | brk => exact h.elim
    | ct => exact h.elim
theorem fnD_ok1 (F : FunD K x qual params body scope [] [] f fd) (S : FnScope N ps scope) (hb : BodyD P w K mg base g qual body scope N f fd.code k m) : FnOk P w K mg base (L2.CX P w) (k + 1) f fd ps (sp1 K g ps.length (run1 ps.length N.length m)) := by
  obtain ⟨oc, od, dV, kV, doc, pm, an, cdv, ct, osl, rfl, lk, hcd, _, _⟩ := F.ex
  exact fn_of lk hcd S (fun vs H Q E h => h.1) fun A outer s H vs Q E hr h => ⟨_, hb A outer s H E hr, outS_sp1 (pre_lenS S) h⟩
end
end DL
set_option Elab.async false
set_option linter.all false
set_option maxRecDepth 100000
set_option maxHeartbeats 4000000
set_option autoImplicit false
namespace DL
open PySem PySem.Spec PyProof.Rows L2 LamX

/-! ### defs that return fresh lists: Rr tells of what kind -/
/-- a fresh list of one fresh list -/
abbrev RO1 (K : PySem.W.Frag) (g : Gx) : Rl (List D) V := fun H I' H' ds v => ∃ p q us, v = .ref p ∧ H' p = some (.lst [.ref q]) ∧ H' q = some (.lst us) ∧ Fr H p ∧ Fr H q ∧ p ≠ q ∧ I' p = none ∧ I' q = none ∧ Reps K g I' ds us
instance {K : PySem.W.Frag} {g : Gx} : RMono (RO1 K g) := ⟨fun {H H1 I' H' a b} f ⟨p, q, us, e1, e2, e3, e4, e5, e6⟩ => ⟨p, q, us, e1, e2, e3, f p e4, f q e5, e6⟩⟩
abbrev ML := M (List D)
section
variable {K : PySem.W.Frag} {g : Gx} {W : WX} {Rr : Rl (List D) V} [RMono Rr]
def OutG (K : PySem.W.Frag) (g : Gx) (W : WX) (Rr : Rl (List D) V) (I H : Hp) (σ : L2.St) (env : DL.Env) (r : R (List D)) (Dn : Ends) : Prop := match r with
  | .ok l env' => ∀ v σ' I' H', Stp K g I H σ env I' H' σ' env' → Rr H I' H' l v → Dn.rt v H'
  | .err c env' => ∀ σ' I' H', Stp K g I H σ env I' H' σ' env' → W (.ref (g.ca c)) none σ' H'
  | .bad => False
def trLs (K : PySem.W.Frag) (g : Gx) (W : WX) (Rr : Rl (List D) V) (m : ML) : TS := fun Dn σ H => ∃ I env, EnvOk K g I H σ env ∧ OutG K g W Rr I H σ env (m env) Dn
theorem OutG.trans {I H I1 H1 : Hp} {σ σ1 : L2.St} {env env1 : DL.Env} {r : R (List D)} {Dn : Ends} (h : OutG K g W Rr I H σ env r Dn) (s : Stp K g I H σ env I1 H1 σ1 env1) : OutG K g W Rr I1 H1 σ1 env1 r Dn := by
  cases r with
  | ok l env' => exact fun v σ' I' H' s' r' => h v σ' I' H' (s.trans s') (RMono.back s.there r')
  | err c env' => exact fun σ' I' H' s' => h σ' I' H' (s.trans s')
  | bad => exact h
theorem trLs_bnd {α β : Type} {R' : Rl α β} {I H : Hp} {σ : L2.St} {env : DL.Env} {m : M α} {f : α → ML} {Dn : Ends} {Q' : β → Hp → Prop} (ok : EnvOk K g I H σ env) (h : OutG K g W Rr I H σ env (bnd m f env) Dn)
    (k : ∀ b a I1 H1 env1, StpE K g I H σ env I1 H1 σ env1 → R' H I1 H1 a b → OutG K g W Rr I1 H1 σ env1 (f a env1) Dn → Q' b H1) : tr K g W R' m σ H Q' := by
  refine ⟨I, env, ok, ?_⟩
  unfold bnd at h
  cases e : m env with
  | bad => rw [e] at h; exact h
  | err c env' => rw [e] at h; exact fun I' H' s => h σ I' H' s.weak
  | ok a env' =>
    rw [e] at h
    exact fun b I' H' s r => k b a I' H' env' s r (h.trans s.weak)
/-- first m0, which goes on, then m -/
def sqL (m0 : M Fl) (m : ML) : ML := bnd m0 fun f => match f with
  | .nx => m
  | _ => DL.bad
abbrev DLs (X : Cx) (g : Gx) (W : WX) (Rr : Rl (List D) V) (sts : List Stmt) (m : ML) : Prop := PSs X sts (trLs X.K g W Rr m)
end
section
variable {X : Cx} {g : Gx} {W : WX} {Rr : Rl (List D) V} [RMono Rr] {pos : Pos} {c e : Expr} {st : Stmt} {sts sts2 : List Stmt} {m m1 m2 : ML} {m0 : M Fl} {mt : M Bool}
theorem l_ret (he : PE X e (tr X.K g W Rr m)) : DLs X g W Rr [.Return (some e) pos] m :=
  pss_imp (pss_one (ps_ret he)) fun Dn σ H ⟨I, env, ok, h⟩ => by
    refine ⟨I, env, ok, ?_⟩
    cases e : m env with
    | bad => rw [e] at h; exact h
    | err c env' => rw [e] at h; exact fun I' H' s => h σ I' H' s.weak
    | ok a env' => rw [e] at h; exact fun b I' H' s r => h b σ I' H' s.weak r
theorem l_cons (h1 : DS X g W st m0) (h2 : DLs X g W Rr sts m) : DLs X g W Rr (st :: sts) (sqL m0 m) :=
  pss_imp (pss_cons h1 h2) fun Dn σ H ⟨I, env, ok, h⟩ => by
    refine ⟨I, env, ok, ?_⟩
    unfold sqL bnd at h
    cases e : m0 env with
    | bad => rw [e] at h; exact h
    | err c env' => rw [e] at h; exact h
    | ok f env' =>
      rw [e] at h
      cases f with
      | nx => exact fun σ' I' H' s => ⟨I', env', s.ok, OutG.trans h s⟩
      | _ => exact h.elim
theorem l_if {sts3 : List Stmt} (hc : DT X g W c mt) (ha : DLs X g W Rr sts m1) (hb : DLs X g W Rr sts2 m2) : DLs X g W Rr (.If c sts [] pos :: sts2) (mIf mt m1 m2) :=
  pss_imp (pss_cons (ps_if hc ha pss_nil) hb) fun Dn σ H ⟨I, env, ok, h⟩ => trLs_bnd (R' := RB) ok h fun v d I1 H1 env1 st r h1 => by
    cases r
    cases v with
    | true =>
      rw [if_pos rfl] at h1 ⊢
      refine ⟨I1, env1, st.ok, ?_⟩
      cases e : m1 env1 with
      | bad => rw [e] at h1; exact h1
      | err c env' => rw [e] at h1; exact h1
      | ok a env' => rw [e] at h1; exact h1
    | false => rw [if_neg Bool.false_ne_true] at h1 ⊢; exact ⟨I1, env1, st.ok, h1⟩
end
inductive FRL where
  | ok (l : List D) | err (c : Nat) | bad
abbrev FDL := List D → FRL
def spG (K : PySem.W.Frag) (g : Gx) (Rr : Rl (List D) V) (n : Nat) (f : FDL) : Sp := fun vs H Q E => vs.length = n ∧ ∃ I ds, Pre K g I H ∧ Reps K g I ds vs ∧ match f ds with
  | .ok l => ∀ v I' H', Fst K g none I H I' H' → Rr H I' H' l v → Q v H'
  | .err c => ∀ I' H', Fst K g none I H I' H' → E (.ref (g.ca c)) none H'
  | .bad => False
def runL (n k : Nat) (m : ML) : FDL := fun ds => if ds.length = n then match m (env0 k ds) with
    | .ok l _ => .ok l
    | .err c _ => .err c
    | .bad => .bad
  else .bad
def ArL (n : Nat) (f : FDL) : Prop := ∀ ds, f ds ≠ .bad → ds.length = n
theorem ar_runL {n k : Nat} {m : ML} : ArL n (runL n k m) := fun ds h => by
  unfold runL at h
  split at h
  · assumption
  · exact absurd rfl h
def callL (f : FDL) (ds : List D) : ML := fun env => match f ds with
  | .ok l => .ok l env
  | .err c => .err c env
  | .bad => .bad
section
variable {P : Program} {w : World} {K : PySem.W.Frag} {mg : Str → Option Value} {base : Heap} {g : Gx} {x qual : Str} {params : Arguments} {body : List Stmt} {scope : Scope} {f : Addr} {fd : FuncData} {N ps : List Str} {k : Nat} {m : ML} {Rr : Rl (List D) V} [RMono Rr]
def BodyL (P : Program) (w : World) (K : PySem.W.Frag) (mg : Str → Option Value) (base : Heap) (g : Gx) (Rr : Rl (List D) V) (qual : Str) (body : List Stmt) (scope : Scope) (N : List Str) (f : Addr) (cdv : Value) (k : Nat) (m : ML) : Prop :=
  ∀ (A : Around) (outer : List PySem.Env) (s : Shared) (H : Hp) (E : XK), Room k (A.deeper (envOfC qual scope s.heap.objs.size f cdv)) → DLs (cxOf (L2.CX P w) P w K mg base N qual scope f cdv A outer s H E) g (WF E) Rr body m
theorem fnD_okL (F : FunD K x qual params body scope [] [] f fd) (S : FnScope N ps scope) (hb : BodyL P w K mg base g Rr qual body scope N f fd.code k m) : FnOk P w K mg base (L2.CX P w) (k + 1) f fd ps (spG K g Rr ps.length (runL ps.length N.length m)) := by
  obtain ⟨oc, od, dV, kV, doc, pm, an, cdv, ct, osl, rfl, lk, hcd, _, _⟩ := F.ex
  refine fn_of lk hcd S (fun vs H Q E h => h.1) fun A outer s H vs Q E hr h => ⟨_, hb A outer s H E hr, ?_⟩
  obtain ⟨hl, I, ds, pr, r, h⟩ := h
  refine ⟨I, env0 N.length ds, start_ok pr r (by rw [hl]; exact pre_lenS S), ?_⟩
  unfold runL at h
  rw [if_pos (by rw [r.length]; exact hl)] at h
  cases e : m (env0 N.length ds) with
  | bad => rw [e] at h; exact h
  | err c env' => rw [e] at h; exact fun σ' I' H' s => h I' H' (fst_of s)
  | ok l env' => rw [e] at h; exact fun v σ' I' H' s rv => h v I' H' (fst_of s) rv
end
section
variable {X : Cx} {g : Gx} {W : WX} {p pos : Pos} {e : Expr} {es : List Expr} {mas : M (List D)} {k n : Nat} {x : Str} {Rr : Rl (List D) V} [RMono Rr]
/-- x(e, ..), a fresh list -/
theorem c_call {f : FDL} (F : FnD X.prog X.w X.K X.mg X.base x k n (spG X.K g Rr n f)) (hn : ArL n f) (tk : Takes X W) (hr : Room k X.A) (ha : DA X g W (e :: es) mas) (hg : Gl X x := by rfl) (hdb : (x == ("__debug__" : Str)) = false := by decide)
    (he : starEach (e :: es) X.env = (false, eval e X.env) :: starEach es X.env := by rfl) (hpl : (backTo pos (starEach es X.env)).any (·.1) = false := by rfl) : PE X (.Call (.Name x p) (e :: es) [] pos) (tr X.K g W Rr (bnd mas (callL f))) := by
  obtain ⟨a, fd, ps, F, hm, hk, hb⟩ := F.ex
  refine pe_imp (pe_callS F hr hg hm hk hb (fun σ => passAt tk σ) ha hdb he hpl) fun σ H Q ⟨I, env, ok, h⟩ => tr_bnd (Rr' := RL X.K g) ok h fun vs ds I1 H1 env1 st r h1 => ?_
  unfold callL at h1
  cases hf : f ds with
  | bad => rw [hf] at h1; exact h1.elim
  | ok d =>
    rw [hf] at h1
    refine ⟨by rw [← r.length]; exact hn ds (by rw [hf]; simp), I1, ds, st.ok.pre, r, ?_⟩
    rw [hf]
    exact fun v I' H' fs rv => h1 v I' H' (st.ok.call fs) rv
  | err c =>
    rw [hf] at h1
    refine ⟨by rw [← r.length]; exact hn ds (by rw [hf]; simp), I1, ds, st.ok.pre, r, ?_⟩
    rw [hf]
    exact fun I' H' fs => h1 I' H' (st.ok.call fs)
end
/-! ### [fresh list for name in xs], xs of one item -/
def lc1 (i : Nat) (vs : List Nat) (m src : ML) : ML := bnd src fun ds env1 => match ds with
  | [d] => if noOwn env1 vs = true then (match setU i d (wipeE env1 vs) with
    | .ok _ env3 => (match m env3 with
      | .ok l env5 => if noOwn env5 vs = true then .ok l (restore env1 (wipeE env5 vs) vs) else .bad
      | _ => .bad)
    | _ => .bad) else .bad
  | _ => .bad
section
variable {X : Cx} {g : Gx} {W : WX} {pos : Pos} {e elt iter : Expr} {m src : ML} {y : Str} {py : Pos} {i : Nat}
theorem l_lc1 {scope : Scope} {own : List (Str × Nat)} (hc : X.calm = true) (hN : X.N.Nodup) (hi : DI X g W (.Name y py) iter src) (ok : BlkOk X.N X.env.scope scope own) (hiv : i ∈ own.map (·.2))
    (hg : ∀ (s : Shared) (H : Hp) (C : Addr) (cl : List (Str × Addr)) (fp : List Addr), PG (X.blk s H scope (compEnvC scope cl C X.env) fp) (.Name y py) (gName i))
    (he : ∀ (s : Shared) (H : Hp) (C : Addr) (cl : List (Str × Addr)) (fp : List Addr), PE (X.blk s H scope (compEnvC scope cl C X.env) fp) elt (tr X.K g W0 (RO X.K g) m)) (hs : ∀ x, foldedSetIterable iter X.env x = pure x := by intro _; rfl) :
    PE X (.ListComp elt [⟨.Name y py, iter, [], 0⟩] scope pos) (tr X.K g W (RO1 X.K g) (lc1 i (own.map (·.2)) m src)) := by
  refine pe_imp (pe_lc hc hN hi ok hg (fun _ _ _ _ _ => pts_nil) he hs) fun σ H Q ⟨I, env, ok, h⟩ => ?_
  refine ⟨I, env, ok, ?_⟩
  unfold lc1 bnd at h
  cases e : src env with
  | bad => rw [e] at h; exact h
  | err c env' => rw [e] at h; exact h
  | ok ds env1 =>
    rw [e] at h
    dsimp only at h
    intro J I1 H1 s1 walk D hD
    match ds, h, walk with
    | [], h, _ => exact h.elim
    | _ :: _ :: _, h, _ => exact h.elim
    | [d], h, walk =>
      dsimp only at h
      by_cases hn : noOwn env1 (own.map (·.2)) = true
      · rw [if_pos hn] at h
        have okw : EnvOk X.K g I1 H1 (wipe σ (own.map (·.2))) (wipeE env1 (own.map (·.2))) := (s1.ok.wipe (ee := True) hn).ok
        have iD1 : I1 D = none := okw.fresh_i hD
        refine ⟨fun j n H' => (j = 0 ∧ n = 1 ∧ H' = upd H1 D (.lst [])) ∨ (j = 1 ∧ n = 0 ∧ (Q (.ref D) H') ∧ ∃ I' env', EnvOk X.K g I' H' (wipe σ (own.map (·.2))) env' ∧ Le I1 I'), ⟨1, .inl ⟨rfl, rfl, rfl⟩⟩, ?_⟩
        rintro j n H2 (⟨rfl, rfl, rfl⟩ | ⟨rfl, rfl, hQ, I', env', ok', le'⟩)
        · have sD : StpE X.K g I1 H1 (wipe σ (own.map (·.2))) (wipeE env1 (own.map (·.2))) I1 (upd H1 D (.lst [])) (wipe σ (own.map (·.2))) (wipeE env1 (own.map (·.2))) := okw.newH hD
          obtain ⟨go, yl⟩ := (walk 0 I1 _ _ _ (Le.refl _) sD.ok).1 d rfl
          refine .inr ⟨go, fun H' => Q (.ref D) H' ∧ ∃ I' env', EnvOk X.K g I' H' (wipe σ (own.map (·.2))) env' ∧ Le I1 I', fun H' q => ⟨0, by omega, .inr ⟨rfl, rfl, q⟩⟩, fun x H3 y => ?_⟩
          obtain ⟨I3, s3, r3⟩ := yl x H3 y
          rcases setU_or i d (wipeE env1 (own.map (·.2))) with e1 | ⟨z, ez, hp, e1⟩
          · rw [e1] at h; exact h.elim
          · rw [e1] at h
            dsimp only at h
            have s4 := s3.ok.set (ee := True) (s := .im d) (x := x) ez hp rfl ⟨x, rfl, r3⟩
            have hw : wipe ((wipe σ (own.map (·.2))).set i (some x)) (own.map (·.2)) = wipe σ (own.map (·.2)) :=
              (wipe_eq (by rw [List.length_set]) fun j hj => List.getElem?_set_ne fun e => hj (by rw [← e]; exact hiv)).trans wipe_wipe
            refine ⟨hw, ?_⟩
            dsimp only [tYes]
            rw [if_pos rfl]
            refine ⟨I3, _, s4.ok, ?_⟩
            cases e3 : m ((wipeE env1 (own.map (·.2))).set i (.im d)) with
            | bad => rw [e3] at h; exact h.elim
            | err c env' => rw [e3] at h; exact h.elim
            | ok l env5 =>
              rw [e3] at h
              dsimp only at h
              by_cases hn5 : noOwn env5 (own.map (·.2)) = true
              · rw [if_pos hn5] at h
                rintro v I6 H6 s6 ⟨q, us, rfl, q1, q2, q3, q4⟩
                have s26 := (s3.trans s4).trans s6
                obtain ⟨z1, z2, z3⟩ := StpP.stays sD.ok s26 upd_same (fun _ z => nomatch z) iD1 (okw.noown (.inl hD) ∘ fun w => w)
                have sw := (sD.trans s26).trans (s6.ok.wipe (ee := True) hn5)
                rw [hw] at sw
                have hqD : q ≠ D := fun e => by
                  rw [e, z1] at q1
                  cases q1
                  have := s3.backF (s4.backF q2)
                  rw [e] at this
                  exact this.not upd_same (fun _ z => nomatch z)
                have frq : Fr H1 q := sD.backF (s3.backF (s4.backF q2))
                have swP := sw.poke (us' := [.ref q]) hD z1 z2 (StpP.newOwn okw sw (.inl hD))
                refine ⟨[], z1, by rw [line_eq]; exact (by decide : 0 < 16777216), ?_, _, _, swP.ok, swP.sub⟩
                refine h (.ref D) I6 _ (s1.trans (StpP.unwipe s1.ok hn swP)) ⟨D, q, us, rfl, upd_same, ?_, s1.back hD, s1.backF frq, Ne.symm hqD, z2, q3, q4⟩
                rw [upd_ne hqD]; exact q1
              · rw [if_neg hn5] at h; exact h.elim
        · exact .inl ⟨(walk 1 I' _ _ _ le' ok').2 (Nat.le_refl _), hQ⟩
      · rw [if_neg hn] at h; exact h.elim
/-! ### for name in (a fresh list of one fresh list): the name's own -/
def oneM (i : Nat) (src : ML) (b : M Fl) : M Fl := bnd src fun l => bnd (setS i (.io l)) fun _ => bnd b fun r => match r with
  | .ret d => ret (.ret d)
  | _ => ret .nx
theorem s_one {sts : List Stmt} {b : M Fl} (hp : PassesOwn (model X.prog X.w) X.A X.env X.xe) (hc : X.calm = true) (hN : X.N.Nodup) (hiN : X.N[i]? = some y) (he : PE X iter (tr X.K g W (RO1 X.K g) src)) (hb : DSs X g W sts b)
    (hx : Loc X.env.scope y := by first | exact Or.inl rfl | exact Or.inr rfl) (hf : X.fn y = true ∨ X.env.scope.names.lookup y = some .local := by first | exact .inl rfl | exact .inr rfl | assumption) (hs : ∀ x, foldedSetIterable iter X.env x = pure x := by intro _; rfl) :
    DS X g W (.For (.Name y py) iter sts [] pos) (oneM i src b) :=
  ps_imp (ps_for hp hc (pi_list he) (pg_name hN hiN hx hf) hb hs) fun Dn σ H ⟨I, env, ok, h⟩ => by
    refine ⟨I, env, ok, ?_⟩
    unfold oneM bnd at h
    cases e0 : src env with
    | bad => rw [e0] at h; exact h
    | err c env' => rw [e0] at h; exact fun I' H' s => h σ I' H' s.weak
    | ok l env1 =>
      rw [e0] at h
      dsimp only at h
      rintro v I1 H1 st ⟨p, q, us, rfl, e1, e2, e3, e4, e5, e6, e7, e8⟩
      refine ⟨p, rfl, ⟨_, SqL.of e1⟩, ?_⟩
      rcases setS_or i (.io l) env1 with ez | ⟨z, z1, z2, ez⟩
      · rw [ez] at h; exact h.elim
      · rw [ez] at h
        dsimp only at h
        have sg : Stp X.K g I H σ env I1 H1 (σ.set i (some (.ref q))) (env1.set i (.io l)) := StpP.give (t := .io l) ok st e4 z1 z2 rfl ⟨q, us, rfl, e2, e7, e8⟩
        have nO1 : ¬ Own σ env1 p := StpP.newOwn ok st e3
        have nO : ¬ Own (σ.set i (some (.ref q))) (env1.set i (.io l)) p := fun ⟨j, s, q1, q2, q3⟩ => by
          by_cases hj : j = i
          · subst hj
            have hl : j < σ.length := by rw [← st.ok.len]; exact (List.getElem?_eq_some_iff.mp z1).1
            rw [List.getElem?_set_self hl] at q3
            cases q3
            exact e5 rfl
          · rw [List.getElem?_set_ne (Ne.symm hj)] at q1 q3
            exact nO1 ⟨j, s, q1, q2, q3⟩
        have h2 := OutS.trans h sg
        refine ⟨fun j m σ' H' => (j = 0 ∧ m = 1 ∧ σ' = σ ∧ H' = H1) ∨ (j = 1 ∧ m = 0 ∧ Dn.nx σ' H' ∧ H' p = some (.lst [.ref q])), ⟨1, .inl ⟨rfl, rfl, rfl, rfl⟩⟩, ?_⟩
        rintro j m σ' H' (⟨rfl, rfl, rfl, rfl⟩ | ⟨rfl, rfl, hq, hp⟩)
        · refine .inr ⟨⟨_, _, SqL.of e1, rfl⟩, fun σ' H' => Dn.nx σ' H' ∧ H' p = some (.lst [.ref q]), fun σ' H' w => ⟨0, by omega, .inr ⟨rfl, rfl, w⟩⟩, fun x H2 ⟨y1, y2⟩ => ?_⟩
          subst y1
          have hxq : [V.ref q][0]? = some x := y2 _ (SqL.of e1)
          cases hxq
          refine ⟨I1, _, sg.ok, ?_⟩
          cases e9 : b (env1.set i (.io l)) with
          | bad => rw [e9] at h2; exact h2
          | err c env' => rw [e9] at h2; exact h2
          | ok r env' =>
            rw [e9] at h2
            cases r with
            | nx => exact fun σ' I' H' s => ⟨h2 σ' I' H' s, s.keep p _ e1 nO (fun _ z => nomatch z)⟩
            | ct => exact fun σ' I' H' s => ⟨h2 σ' I' H' s, s.keep p _ e1 nO (fun _ z => nomatch z)⟩
            | brk => exact h2
            | ret d => exact h2
        · exact .inl ⟨⟨_, SqL.of hp, Nat.le_refl _⟩, hq⟩
end
end DL
set_option Elab.async false
set_option linter.all false
set_option maxRecDepth 100000
set_option maxHeartbeats 4000000
set_option autoImplicit false
namespace DL
open PySem PySem.Spec PyProof.Rows L2 LamX

/-! ### the law's rounds: what it is worth is told of the script itself -/
def roundsEnv (ns : List Int) : DL.Env := [.no, .im (.int 1), .im (.lst ((ns.take 1).map D.int)), .no]
def noI : Hp := fun _ => none
def spR (K : PySem.W.Frag) (g : Gx) (mr : ML) : Sp := fun vs H Q E => vs.length = 2 ∧ ∃ a ns, vs = [.ref a, .int 1] ∧ SqL K H a (ns.map V.int) ∧ Tabs g.T H ∧ ∃ l, (∃ env', mr (roundsEnv ns) = .ok l env') ∧ ∀ v I' H', Fst K g none noI H I' H' → RO1 K g H I' H' l v → Q v H'
theorem noI_sub {H : Hp} : Sub noI H := ⟨fun {a o} h _ => (by have h2 : (none : Option HO) = some _ := h; cases h2), fun {a o} h => (by have h2 : (none : Option HO) = some _ := h; cases h2)⟩
theorem noI_nt (a : Addr) (ps : Array Value) : noI a ≠ some (.tbl ps) := fun h => (by have h2 : (none : Option HO) = some _ := h; cases h2)
theorem cut_one (ns : List Int) : cutV (ns.map V.int) none (some 1) = (ns.take 1).map V.int := by
  unfold cutV
  rw [HT.sIx_none, List.drop_zero, Nat.sub_zero]
  have : HT.sIx (ns.map V.int).length (ns.map V.int).length (some 1) = min 1 ns.length := by
    rw [List.length_map]
    exact HT.sIx_nat _ _ 1
  rw [this, List.map_take]
  cases ns with
  | nil => rfl
  | cons n ns => simp
section
variable {P : Program} {w : World} {K : PySem.W.Frag} {mg : Str → Option Value} {base : Heap} {g : Gx} {x qual : Str} {params : Arguments} {body : List Stmt} {scope : Scope} {f : Addr} {fd : FuncData} {k : Nat} {mr : ML} {n1 n2 n3 n4 : Str}
theorem fn_rounds (F : FunD K x qual params body scope [] [] f fd) (S : FnScope [n1, n2, n3, n4] [n1, n2] scope)
    (hb : ∀ (A : Around) (outer : List PySem.Env) (s : Shared) (H : Hp) (E : XK), Room k (A.deeper (envOfC qual scope s.heap.objs.size f fd.code)) → PSs (cxOf (L2.CX P w) P w K mg base [n1, n2, n3, n4] qual scope f fd.code A outer s H E) body (tSeq (tAsg (tSl (rSlL K) (tVar 0) tNoPart (tPart (tVar 1))) (gName 2)) (trLs K g (WF E) (RO1 K g) mr))) :
    FnOk P w K mg base (L2.CX P w) (k + 1) f fd [n1, n2] (spR K g mr) := by
  obtain ⟨oc, od, dV, kV, doc, pm, an, cdv, ct, osl, rfl, lk, hcd, _, _⟩ := F.ex
  refine fn_of lk hcd S (fun vs H Q E h => h.1) fun A outer s H vs Q E hr h => ⟨_, hb A outer s H E hr, ?_⟩
  obtain ⟨hl, a, ns, rfl, hS, hT, l, ⟨env', he⟩, h⟩ := h
  refine ⟨_, rfl, _, rfl, _, rfl, a, _, rfl, hS, fun p hp => ?_⟩
  rw [cut_one]
  have ok0 : EnvOk K g noI H [some (.ref a), some (.int 1), none, none] [.no, .im (.int 1), .no, .no] :=
    { sub := noI_sub, nt := noI_nt, tabs := hT, len := rfl
      slot := fun i z y e1 e2 => by
        match i, e1, e2 with
        | 0, e1, e2 => cases e1; trivial
        | 1, e1, e2 => cases e1; cases e2; exact ⟨_, rfl, rep_int.mpr rfl⟩
        | 2, e1, e2 => cases e1; trivial
        | 3, e1, e2 => cases e1; trivial
        | i + 4, e1, _ => simp at e1
      sep := fun i j z z' b e1 e2 o1 _ _ _ => by
        match i, e1 with
        | 0, e1 => cases e1; cases o1
        | 1, e1 => cases e1; cases o1
        | 2, e1 => cases e1; cases o1
        | 3, e1 => cases e1; cases o1
        | i + 4, e1 => simp at e1 }
  have s1 : Stp K g noI H [some (.ref a), some (.int 1), none, none] [.no, .im (.int 1), .no, .no] (upd noI p (.lst ((ns.take 1).map V.int))) (upd H p (.lst ((ns.take 1).map V.int))) _ _ := ok0.new hp (fun _ z => nomatch z)
  have s2 := s1.trans (s1.ok.set (ee := False) (i := 2) (s := .im (.lst ((ns.take 1).map D.int))) (z := .no) (x := .ref p) rfl rfl rfl ⟨_, rfl, rep_lst.mpr ⟨p, _, rfl, upd_same, ints_reps _⟩⟩)
  refine ⟨_, _, s2.ok, ?_⟩
  show OutG K g (WF E) (RO1 K g) _ _ _ _ (mr (roundsEnv ns)) _
  rw [he]
  intro v σ' I' H' s r
  have s3 := s2.trans s
  have nOw : ∀ b, ¬ Own [some (.ref a), some (.int 1), none, none] [Slot.no, .im (.int 1), .no, .no] b := fun b ⟨i, z, e1, o1, _⟩ => by
    match i, e1 with
    | 0, e1 => cases e1; cases o1
    | 1, e1 => cases e1; cases o1
    | 2, e1 => cases e1; cases o1
    | 3, e1 => cases e1; cases o1
    | i + 4, e1 => simp at e1
  refine h v I' H' ⟨s3.ok.sub, s3.ok.nt, s3.ok.tabs, s3.sub, fun b o e _ t => s3.keep b o e (nOw b) t, s3.there, fun b e => (s3.fresh b e).imp id fun q => q.elim id fun z => absurd z (nOw b)⟩ ?_
  obtain ⟨p', q, us, e1, e2, e3, e4, e5, e6⟩ := r
  exact ⟨p', q, us, e1, e2, e3, s2.backF e4, s2.backF e5, e6⟩
end
/-- for name in rounds(script, 1): .. -/
def tLaw (K : PySem.W.Frag) (g : Gx) (W : WX) (mr : ML) (i : Nat) (b : M Fl) : TS := fun Dn σ H => ∃ a ns env, EnvOk K g noI H σ env ∧ (∀ c, ¬ Own σ env c) ∧ σ[0]? = some (some (.ref a)) ∧ SqL K H a (ns.map V.int) ∧ (∃ z, env[i]? = some z ∧ z.pin = false) ∧ ∃ l, (∃ env', mr (roundsEnv ns) = .ok l env') ∧ match b (env.set i (.io l)) with
  | .ok (.ret d) _ => ∀ v I' H', Rep K g I' d v → Dn.rt v H'
  | .ok _ _ => ∀ σ' H', Dn.nx σ' H'
  | _ => False
section
variable {X : Cx} {g : Gx} {W : WX} {pos p p0 p1 pc py : Pos} {y x sx : Str} {i j k : Nat} {mr : ML} {sts : List Stmt} {b : M Fl}
theorem s_law (F : FnD X.prog X.w X.K X.mg X.base x k 2 (spR X.K g mr)) (tk : Takes X W) (hr : Room k X.A) (hp : PassesOwn (model X.prog X.w) X.A X.env X.xe) (hc : X.calm = true) (hN : X.N.Nodup) (hiN : X.N[i]? = some y) (h0 : X.N[0]? = some sx) (hb : DSs X g W sts b)
    (hx : Loc X.env.scope y := by first | exact Or.inl rfl | exact Or.inr rfl) (hv : Vis X.env.scope sx := by first | exact Or.inl rfl | exact Or.inr (Or.inl rfl) | exact Or.inr (Or.inr rfl)) (hf : X.fn y = true ∨ X.env.scope.names.lookup y = some .local := by first | exact .inl rfl | exact .inr rfl | assumption)
    (hg : Gl X x := by rfl) (hdb : (x == ("__debug__" : Str)) = false := by decide) (hd : (sx == ("__debug__" : Str)) = false := by decide) (hcd : (sx == ("__classdict__" : Str)) = false := by decide) (hs : ∀ z, foldedSetIterable (.Call (.Name x p) [.Name sx p0, .Constant (.int 1) j p1] [] pc) X.env z = pure z := by intro _; rfl)
    (he : starEach [.Name sx p0, .Constant (.int 1) j p1] X.env = (false, eval (.Name sx p0) X.env) :: starEach [.Constant (.int 1) j p1] X.env := by rfl) (he2 : starEach [.Constant (.int 1) j p1] X.env = (false, eval (.Constant (.int 1) j p1) X.env) :: starEach [] X.env := by rfl)
    (hpl : (backTo pc (starEach [.Constant (.int 1) j p1] X.env)).any (·.1) = false := by rfl) :
    PS X (.For (.Name y py) (.Call (.Name x p) [.Name sx p0, .Constant (.int 1) j p1] [] pc) sts [] pos) (tLaw X.K g W mr i b) := by
  obtain ⟨f, fd, ps, F, hm, hk, hbd⟩ := F.ex
  refine ps_imp (ps_for hp hc (pi_list (pe_callS F hr hg hm hk hbd (fun σ => passAt tk σ) (pa_cons (pv 0 h0 hv hd hcd) (pa_cons pe_int pa_nil he2) he) hdb he hpl)) (pg_name hN hiN hx hf) hb hs) fun Dn σ H h => ?_
  obtain ⟨a, ns, env, ok, nOw, ha, hS, ⟨z, z1, z2⟩, l, hl, h⟩ := h
  refine ⟨_, ha, rfl, a, ns, rfl, hS, ok.tabs, l, hl, fun v I1 H1 fs r => ?_⟩
  have st := ok.call fs
  obtain ⟨p, q, us, rfl, e1, e2, e3, e4, e5, e6, e7, e8⟩ := r
  refine ⟨p, rfl, ⟨_, SqL.of e1⟩, ?_⟩
  have sg : Stp X.K g noI H σ env I1 H1 (σ.set i (some (.ref q))) (env.set i (.io l)) := StpP.give (t := .io l) ok st e4 z1 z2 rfl ⟨q, us, rfl, e2, e7, e8⟩
  have nO : ¬ Own (σ.set i (some (.ref q))) (env.set i (.io l)) p := fun ⟨j, s, q1, q2, q3⟩ => by
    by_cases hj : j = i
    · subst hj
      have hl : j < σ.length := by rw [← ok.len]; exact (List.getElem?_eq_some_iff.mp z1).1
      rw [List.getElem?_set_self hl] at q3
      cases q3
      exact e5 rfl
    · rw [List.getElem?_set_ne (Ne.symm hj)] at q1 q3
      exact nOw p ⟨j, s, q1, q2, q3⟩
  refine ⟨fun j m σ' H' => (j = 0 ∧ m = 1 ∧ σ' = σ ∧ H' = H1) ∨ (j = 1 ∧ m = 0 ∧ Dn.nx σ' H' ∧ H' p = some (.lst [.ref q])), ⟨1, .inl ⟨rfl, rfl, rfl, rfl⟩⟩, ?_⟩
  rintro j m σ' H' (⟨rfl, rfl, rfl, rfl⟩ | ⟨rfl, rfl, hq, hp⟩)
  · refine .inr ⟨⟨_, _, SqL.of e1, rfl⟩, fun σ' H' => Dn.nx σ' H' ∧ H' p = some (.lst [.ref q]), fun σ' H' w => ⟨0, by omega, .inr ⟨rfl, rfl, w⟩⟩, fun x H2 ⟨y1, y2⟩ => ?_⟩
    subst y1
    have hxq : [V.ref q][0]? = some x := y2 _ (SqL.of e1)
    cases hxq
    refine ⟨I1, _, sg.ok, ?_⟩
    cases e9 : b (env.set i (.io l)) with
    | bad => rw [e9] at h; exact h.elim
    | err c env' => rw [e9] at h; exact h.elim
    | ok r env' =>
      rw [e9] at h
      cases r with
      | nx => exact fun σ' I' H' s => ⟨h σ' H', s.keep p _ e1 nO (fun _ z => nomatch z)⟩
      | ct => exact fun σ' I' H' s => ⟨h σ' H', s.keep p _ e1 nO (fun _ z => nomatch z)⟩
      | brk => exact fun σ' I' H' s => h σ' H'
      | ret d => exact fun v σ' I' H' s rv => h v I' H' rv
  · exact .inl ⟨⟨_, SqL.of hp, Nat.le_refl _⟩, hq⟩
end
/-- the law: behind the rounds it says True; Bt: what the script's first cell is -/
def spLaw (K : PySem.W.Frag) (g : Gx) : Sp := fun vs H Q _ => vs.length = 1 ∧ ∃ (a : Addr) (ns : List Int), vs = [.ref a] ∧ SqL K H a (ns.map V.int) ∧ (∀ z ∈ ns, Builtin.Int.intBits z ≤ 1048576) ∧ Tabs g.T H ∧ ∀ H', Q (.bl true) H'
theorem env0_law {K : PySem.W.Frag} {g : Gx} {H : Hp} {a : Addr} {N : List Str} (hT : Tabs g.T H) (hN : 1 ≤ N.length) : EnvOk K g noI H (L2.start N [.ref a]) (List.replicate N.length .no) ∧ ∀ c, ¬ Own (L2.start N [.ref a]) (List.replicate N.length .no) c := by
  have no : ∀ {i : Nat} {z : Slot}, (List.replicate N.length Slot.no)[i]? = some z → z = .no := fun {i z} h => (List.mem_replicate.mp (List.mem_of_getElem? h)).2
  refine ⟨⟨noI_sub, noI_nt, hT, by rw [start_len (by simpa using hN), List.length_replicate], fun i z y e1 e2 => by rw [no e1]; trivial, fun i j z z' b e1 _ o1 _ _ _ => by rw [no e1] at o1; cases o1⟩, fun c ⟨i, z, e1, o1, _⟩ => by rw [no e1] at o1; cases o1⟩
section
variable {P : Program} {w : World} {K : PySem.W.Frag} {mg : Str → Option Value} {base : Heap} {g : Gx} {x qual : Str} {params : Arguments} {body : List Stmt} {scope : Scope} {f : Addr} {fd : FuncData} {k i : Nat} {mr : ML} {b : M Fl} {N : List Str} {s1 : Str}
/-- what is left of a law: whatever the script's first cell, the rounds are told and the body goes on -/
def LawHolds (mr : ML) (b : M Fl) (n i : Nat) : Prop := ∀ ns : List Int, (∀ z ∈ ns, Builtin.Int.intBits z ≤ 1048576) → ∃ l env', mr (roundsEnv ns) = .ok l env' ∧ ∃ env2, b ((List.replicate n .no).set i (.io l)) = .ok .nx env2
theorem fn_law (F : FunD K x qual params body scope [] [] f fd) (S : FnScope N [s1] scope) (hi : i < N.length)
    (hb : ∀ (A : Around) (outer : List PySem.Env) (s : Shared) (H : Hp) (E : XK), Room k (A.deeper (envOfC qual scope s.heap.objs.size f fd.code)) → PSs (cxOf (L2.CX P w) P w K mg base N qual scope f fd.code A outer s H E) body (tSeq (tLaw K g (WF E) mr i b) (tRet (tC (.bl true)))))
    (hL : LawHolds mr b N.length i) : FnOk P w K mg base (L2.CX P w) (k + 1) f fd [s1] (spLaw K g) := by
  obtain ⟨oc, od, dV, kV, doc, pm, an, cdv, ct, osl, rfl, lk, hcd, _, _⟩ := F.ex
  refine fn_of lk hcd S (fun vs H Q E h => h.1) fun A outer s H vs Q E hr h => ⟨_, hb A outer s H E hr, ?_⟩
  obtain ⟨hl, a, ns, rfl, hS, hB, hT, h⟩ := h
  obtain ⟨l, env', he, env2, hb2⟩ := hL ns hB
  obtain ⟨ok, nOw⟩ := env0_law (K := K) (g := g) (H := H) (a := a) (N := N) hT (by omega)
  refine ⟨a, ns, _, ok, nOw, ?_, hS, ⟨.no, by rw [List.getElem?_replicate, if_pos hi], rfl⟩, l, ⟨env', he⟩, ?_⟩
  · cases N with
    | nil => simp at hi
    | cons n N => rfl
  · rw [hb2]
    exact fun σ' H' => h H'
end

/-! ### the head -/
theorem lookup_mem {α β : Type} [BEq α] [LawfulBEq α] {a : α} {b : β} : ∀ {l : List (α × β)}, l.lookup a = some b → (a, b) ∈ l
  | [], h => by cases h
  | (c, d) :: l, h => by
    rw [List.lookup_cons] at h
    by_cases e : a = c
    · subst e
      rw [beq_self_eq_true] at h
      cases h
      exact List.mem_cons_self
    · rw [show (a == c) = false by simpa using e] at h
      exact List.mem_cons_of_mem _ (lookup_mem h)
def isTab (o : Obj) : Bool := match o.cls, o.data with
  | .none, .fields vs => vs.isEmpty
  | _, _ => false
def frT (h : Addr → Option Obj) (as : List Addr) : PySem.W.Frag := (He.frG h as).filter fun q => !isTab q.2
theorem frT_in {as : List Addr} {h : Heap} : (frT h.get? as).In h := fun a o e => by
  have : ∀ (l : List (Addr × Obj)), (∀ q ∈ l, h.get? q.1 = some q.2) → ((l.filter fun q => !isTab q.2).lookup a = some o) → h.get? a = some o := fun l hl he => by
    have hm := lookup_mem he
    exact hl _ (List.mem_filter.mp hm).1
  refine this _ (fun q hq => ?_) e
  unfold He.frG at hq
  obtain ⟨b, _, hb⟩ := List.mem_filterMap.mp hq
  obtain ⟨o', ho, rfl⟩ := Option.map_eq_some_iff.mp hb
  exact ho
/-- the code object of a def, its table -/
def codeA (K : PySem.W.Frag) (p : Str × Option Str) : Addr := match K.lookup (He.fAd K p) with
  | some ⟨_, _, .func fd, _⟩ => (match fd.code with
    | .ref c => c
    | _ => 0)
  | _ => 0
def tabA (K : PySem.W.Frag) (p : Str × Option Str) : Addr := match K.lookup (codeA K p) with
  | some ⟨_, _, .fields vs, _⟩ => (match vs.getD 11 .none with
    | .ref P => P
    | _ => 0)
  | _ => 0
def codeOk (K : PySem.W.Frag) (p : Str × Option Str) : Bool := (match K.lookup (He.fAd K p) with
  | some ⟨_, _, .func fd, _⟩ => decide (fd.code = .ref (codeA K p))
  | _ => false) && ((match K.lookup (codeA K p) with
  | some ⟨.type c, _, .fields vs, _⟩ => decide (c = "code") && (decide (vs[11]? = some (.ref (tabA K p))) && (decide (vs.getD 11 .none = .ref (tabA K p)) && ((match vs.getD 18 .none with
    | .str _ _ => true
    | _ => false) && ((match vs.getD 7 .none with
    | .int _ _ => true
    | _ => false) && ((match vs.getD 9 .none with
    | .bool _ => true
    | _ => false) && (match vs.getD 10 .none with
    | .int _ _ => true
    | _ => false))))))
  | _ => false) && (decide (codeA K p ≠ tabA K p) && (K.lookup (tabA K p)).isNone))
def tabObjOk (h : Addr → Option Obj) (a : Addr) : Bool := match h a with
  | some ⟨.none, none, .fields ⟨[]⟩, ⟨[]⟩⟩ => true
  | _ => false
theorem tabObj_of {h : Addr → Option Obj} {a : Addr} (e : tabObjOk h a = true) : h a = some { cls := .none, data := .fields #[] } := by
  unfold tabObjOk at e
  split at e
  · rename_i q; exact q
  · cases e
/-- the classes of the facts compare as object does -/
def eqB (K : PySem.W.Frag) : He.Fa → Bool
  | .cls x => He.eqO (PySem.W.findIn K (.ref (He.ga K x)) "__eq__") (some (some (.builtin "object.__eq__"))) && He.eqO (PySem.W.findIn K (.ref (He.ga K x)) "__ne__") (some (some (.builtin "object.__ne__")))
  | _ => true
abbrev AlT : Type := Bool × He.AlD
def obsT (n : Nat) (fa : List He.Fa) (fn : List He.DefD) (lm : List (Str × Option Str)) (h : Addr → Option Obj) : AlT :=
  (fa.all (eqB (frT h (He.asD h n))) && ((lm.all fun p => codeOk (frT h (He.asD h n)) p && tabObjOk h (tabA (frT h (He.asD h n)) p)) && decide ((lm.map (tabA (frT h (He.asD h n)))).Nodup)), He.obsD fa fn (frT h (He.asD h n)))
def SaysT (fa : List He.Fa) (fn : List He.DefD) (lm : List (Str × Option Str)) (K : PySem.W.Frag) (h : Heap) : Prop := He.SaysD fa fn K ∧ (∀ p ∈ lm, codeOk K p = true ∧ h.get? (tabA K p) = some { cls := .none, data := .fields #[] }) ∧ (lm.map (tabA K)).Nodup ∧ fa.all (eqB K) = true
def hookT (n : Nat) (fa : List He.Fa) (fn : List He.DefD) (lm : List (Str × Option Str)) : PySem.W.Hook where
  α := AlT
  obs := fun s => obsT n fa fn lm s.heap.get?
  val := fun _ => (true, He.valD fn)
  says := fun _ h => ∃ K : PySem.W.Frag, K.In h ∧ SaysT fa fn lm K h
  of := fun _ s e => by
    have e00 : (fa.all (eqB (frT s.heap.get? (He.asD s.heap.get? n))) && ((lm.all fun p => codeOk (frT s.heap.get? (He.asD s.heap.get? n)) p && tabObjOk s.heap.get? (tabA (frT s.heap.get? (He.asD s.heap.get? n)) p)) && decide ((lm.map (tabA (frT s.heap.get? (He.asD s.heap.get? n)))).Nodup))) = true := congrArg Prod.fst e
    obtain ⟨e9, e0⟩ := Bool.and_eq_true_iff.mp e00
    obtain ⟨e1, e3⟩ := Bool.and_eq_true_iff.mp e0
    have e2 : He.obsD fa fn (frT s.heap.get? (He.asD s.heap.get? n)) = He.valD fn := congrArg Prod.snd e
    refine ⟨_, frT_in, e2, fun p hp => ?_, of_decide_eq_true e3, e9⟩
    have := List.all_eq_true.mp e1 p hp
    obtain ⟨a, b⟩ := Bool.and_eq_true_iff.mp this
    exact ⟨a, tabObj_of b⟩
  keeps := fun _ _ _ ⟨K, hK, c, d, e⟩ k => ⟨K, PySem.W.Frag.In.keeps hK k, c, fun p hp => ⟨(d p hp).1, k _ _ (d p hp).2⟩, e⟩
theorem obsT_eq {n : Nat} {fa : List He.Fa} {fn : List He.DefD} {lm : List (Str × Option Str)} {h : Addr → Option Obj} {s : Shared} (e : ∀ a, h a = s.heap.get? a) : obsT n fa fn lm h = (hookT n fa fn lm).obs s := by
  have e : h = s.heap.get? := funext e
  rw [e] <;> rfl
theorem codeOk_hd {K : PySem.W.Frag} {p : Str × Option Str} {h : Heap} (X : K.In h) (e : codeOk K p = true) : PySem.W.CodeHd h (codeA K p) (tabA K p) ∧ K.lookup (tabA K p) = none ∧ ∃ oc od fd osl, K.lookup (He.fAd K p) = some ⟨oc, od, .func fd, osl⟩ ∧ fd.code = .ref (codeA K p) := by
  unfold codeOk at e
  obtain ⟨e1, e2⟩ := Bool.and_eq_true_iff.mp e
  obtain ⟨e2, e3⟩ := Bool.and_eq_true_iff.mp e2
  obtain ⟨e3, e4⟩ := Bool.and_eq_true_iff.mp e3
  refine ⟨?_, by simpa using e4, ?_⟩
  · split at e2
    · rename_i c od vs sl q
      obtain ⟨a1, e2⟩ := Bool.and_eq_true_iff.mp e2
      obtain ⟨a2, e2⟩ := Bool.and_eq_true_iff.mp e2
      obtain ⟨a3, e2⟩ := Bool.and_eq_true_iff.mp e2
      obtain ⟨a4, e2⟩ := Bool.and_eq_true_iff.mp e2
      obtain ⟨a5, e2⟩ := Bool.and_eq_true_iff.mp e2
      obtain ⟨a6, a7⟩ := Bool.and_eq_true_iff.mp e2
      split at a4
      · rename_i file tf q4
        split at a5
        · rename_i fl tg q5
          split at a6
          · rename_i inF q6
            split at a7
            · rename_i tx tt q7
              exact ⟨_, vs, file, tf, fl, tg, inF, tx, tt, X _ _ q, congrArg Value.type (of_decide_eq_true a1), rfl, of_decide_eq_true a2, of_decide_eq_true a3, q4, q5, q6, q7, of_decide_eq_true e3⟩
            · cases a7
          · cases a6
        · cases a5
      · cases a4
    · cases e2
  · split at e1
    · rename_i oc od fd osl q
      exact ⟨oc, od, fd, osl, q, of_decide_eq_true e1⟩
    · cases e1
theorem nodup_inj {α β : Type} {f : α → β} : ∀ {l : List α}, (l.map f).Nodup → ∀ p ∈ l, ∀ q ∈ l, f p = f q → p = q
  | [], _, p, hp, _, _, _ => by cases hp
  | a :: l, h, p, hp, q, hq, e => by
    rw [List.map_cons, List.nodup_cons] at h
    rcases List.mem_cons.mp hp with rfl | hp'
    · rcases List.mem_cons.mp hq with rfl | hq'
      · rfl
      · exact absurd (List.mem_map.mpr ⟨q, hq', e.symm⟩) h.1
    · rcases List.mem_cons.mp hq with rfl | hq'
      · exact absurd (List.mem_map.mpr ⟨p, hp', e⟩) h.1
      · exact nodup_inj h.2 p hp' q hq' e
/-- a def's code object, as the head tells -/
theorem code_of {K : PySem.W.Frag} {h : Heap} {x qual : Str} {params : Arguments} {body : List Stmt} {scope : Scope} {fd : FuncData} {p : Str × Option Str} (X : K.In h) (e : codeOk K p = true) (F : FunD K x qual params body scope [] [] (He.fAd K p) fd) : fd.code = .ref (codeA K p) := by
  obtain ⟨_, _, oc, od, fd', osl, h1, h2⟩ := codeOk_hd X e
  obtain ⟨oc, od, dV, kV, doc, pm, an, cdv, ct, osl, rfl, lk, _⟩ := F.ex
  rw [lk] at h1
  cases h1
  exact h2
/-- the end of a law over such a head -/
theorem walk_law {l : PySem.W.OpenLaw} {k n : Nat} {q : Program} {loose : List Str} {XP : (Str → Option Value) → Heap → Prop} {fa : List He.Fa} {fn : List He.DefD} {lm : List (Str × Option Str)} {d : DefRec} {x : Str} {gx : PySem.W.Frag → Gx}
    (hn : l.most = some 63) (hdf : d.params.defaults = []) (hr : Room k callerA) (hT : ∀ K, ∀ p ∈ (gx K).T, ∃ q ∈ lm, p.1 = tabA K q)
    (F : ∀ (w : World) (mg : Str → Option Value) (fa' : Addr) (h : Heap) (K : PySem.W.Frag), K.In h → SaysT fa fn lm K h → h.Ns mainGlobals mg → mg d.name = some (.ref fa') →
      ∃ fd : FuncData, (∀ (s : Shared) (u : Value), BindsTo s fd ⟨[u], []⟩ [(x, u)]) ∧ ∀ base : Heap, K.In base → base.Ns mainGlobals mg → (∀ p ∈ lm, TabB base mg (codeA K p) (tabA K p)) → FnOk l.prog w K mg base (L2.CX l.prog w) k fa' fd [x] (spLaw K (gx K))) :
    PySem.W.WalkO q loose XP (hookT n fa fn lm).says l.row.toRowW d [] (fun f vs => PySem.call f vs) := by
  refine Att.attach_callB hn hdf fun w s₀ s₁ mg mb fa' o pm cd doc a vs ns G Y ho hd hcd hmg hobj hints hlen hbits hg => ?_
  obtain ⟨K, KX, c⟩ := Y
  obtain ⟨fd, hb, hF⟩ := F w mg fa' _ K KX c G.T.g hmg
  have hl63 : (63 : Nat) ≤ sizeLine := by rw [sizeLine_eq]; decide
  refine law_callTs (cs := lm.map fun p => (codeA K p, tabA K p)) (sp := spLaw K (gx K)) (CX := L2.CX l.prog w) KX G.T.g G.T.b G.T.builtins G.T.nolimit hg (fun p hp => ?_) (fun p hp => ?_) (fun p hp => ?_) G.T.bmain hobj hints (Nat.le_trans hlen hl63) hr (fun base hK hns hTB => hF base hK hns fun p hp => hTB _ (List.mem_map.mpr ⟨p, hp, rfl⟩)) hb (fun H hH hS => ?_) fun H e s' z => by obtain ⟨_, _, _, _, _, _, _, _, _, _, _, _, z⟩ := z; exact z
  · obtain ⟨p0, hp0, rfl⟩ := List.mem_map.mp hp
    exact (c.2.1 p0 hp0).2
  · obtain ⟨p0, hp0, rfl⟩ := List.mem_map.mp hp
    exact (codeOk_hd KX (c.2.1 p0 hp0).1).2.1
  · obtain ⟨p0, hp0, rfl⟩ := List.mem_map.mp hp
    exact (codeOk_hd KX (c.2.1 p0 hp0).1).1
  · refine ⟨rfl, a, ns, rfl, hS, hbits, fun p hp => ?_, fun H' => rfl⟩
    obtain ⟨q, hq, e⟩ := hT K p hp
    exact TabS.nil (by rw [e]; exact hH _ (List.mem_map.mpr ⟨q, hq, rfl⟩))
end DL
set_option Elab.async false
set_option linter.all false
set_option maxRecDepth 100000
set_option maxHeartbeats 4000000
set_option autoImplicit false
namespace DL
open PySem PySem.Spec PyProof.Rows L2 LamX RT
/-! ### list(reversed(a tuple)) -/
theorem tup_get {h k : Heap} {a : Addr} {ys : Array Value} (x : IsTup h a ys) (f : ∀ o, h.get? a = some o → k.get? a = some o) : IsTup k a ys := by
  obtain ⟨o, ho, r⟩ := x
  exact ⟨o, f o ho, r⟩
theorem walk_rt {prog : Program} {w : World} {A : Around} (hh : A.handled = none) (J t : Addr) (ne : t ≠ J) (ys : Array Value) (hz : ys.size ≤ sizeLine) :
    Walks prog w A J [J, t] [J] ys.size (fun i v => ys[ys.size - 1 - i]? = some v) (fun i h => i ≤ ys.size ∧ IsRt h J t ((ys.size : Int) - 1 - (i : Int)) ∧ IsTup h t ys) where
  sub := fun q hq => by
    rw [List.mem_singleton.mp hq]; exact List.mem_cons_self
  frame := fun i h h' x k => ⟨x.1, x.2.1.at fun o g => k J List.mem_cons_self o g, tup_get x.2.2 fun o g => k t (List.mem_cons_of_mem _ (List.mem_singleton.mpr rfl)) o g⟩
  item := fun i y Q E lt x go => by
    have e1 : (ys.size : Int) - 1 - (i : Int) = ((ys.size - 1 - i : Nat) : Int) := by omega
    have at0 := x.2.1
    rw [e1] at at0
    have got : ys[ys.size - 1 - i]? = some (ys[ys.size - 1 - i]'(by omega)) := Array.getElem?_eq_getElem (by omega)
    refine next_rt_item at0 x.2.2 got hz fun k at1 sb => ?_
    have e2 : ((ys.size - 1 - i : Nat) : Int) - 1 = (ys.size : Int) - 1 - ((i + 1 : Nat) : Int) := by omega
    rw [e2] at at1
    exact go _ k _ got ⟨lt, at1, tup_get x.2.2 fun o g => (sb.2 t ne).trans g⟩ fun q o nq g => sb.extBut q o (fun h => nq (List.mem_singleton.mpr h)) g
  done := fun y Q E x go => by
    have e1 : (ys.size : Int) - 1 - ((ys.size : Nat) : Int) = -1 := by omega
    have at0 := x.2.1
    rw [e1] at at0
    exact next_rt_end hh at0 fun k eb => go k _ fun q o nq g => eb q o (fun h => nq (List.mem_singleton.mpr h)) g
  self := fun i y Q E x go => iter_rt x.2.1 go
theorem rt_nolen : typeLookup (.type "reversed") "__len__" = pure none := by
  rw [typeLookup_type, builtinLookup_eq_fast]
  kernel_rfl
theorem rt_slot : PySem.Slot "reversed" "__length_hint__" "reversed.__length_hint__" :=
  .of (owner := "reversed") (n := "__length_hint__")
    (by rw [typeLookup_type, builtinLookup_eq_fast]; kernel_rfl)
    (by decide +kernel) (by decide +kernel) (by decide +kernel)
    (by first | exact .inl (by decide +kernel) | exact .inr (by decide +kernel))
    (by rw [isSubtype_type]; kernel_rfl)
theorem rt_entry : entryFor table "reversed.__length_hint__" = some Builtin.«reversed.__length_hint__» := entryFor_of_tree (by kernel_rfl)
theorem rt_args (a : Value) : argsOk "reversed.__length_hint__" ⟨[a], []⟩ := by
  unfold argsOk
  rw [signature?_of (id := "reversed.__length_hint__") (n := ['_', '_', 't', 'n', 'i', 'h', '_', 'h', 't', 'g', 'n', 'e', 'l', '_', '_']) (o := ['d', 'e', 's', 'r', 'e', 'v', 'e', 'r']) (by kernel_rfl) owner_rt]
  kernel_rfl
end DL
set_option Elab.async false
set_option linter.all false
set_option maxRecDepth 100000
set_option maxHeartbeats 4000000
set_option autoImplicit false
namespace DL
open PySem PySem.Spec PyProof.Rows L2 LamX RT
theorem rt_bind (self : Value) : bindSpecial (.builtin "reversed.__length_hint__") self = pure (.builtin "reversed.__length_hint__", [self]) := by
  have ty : typeOf (.builtin "reversed.__length_hint__") = pure (.type "method_descriptor") := by
    show builtinType _ = _
    rw [builtinType_eq_fast]
    kernel_rfl
  unfold bindSpecial
  rw [ty]
  rfl
section
variable {prog : Program} {w : World} {A : Around} {E : Value → Shared → Prop} {y : Shared}
theorem rt_hint {it t : Addr} {ys : Array Value} {Q : Bool → Shared → Prop} (hit : IsRt y.heap it t ((ys.size : Int) - 1)) (ht : IsTup y.heap t ys) (hz : ys.size ≤ sizeLine)
    (q : ∀ b tk, Q b { y with toks := tk }) : wpAny (model prog w) A (Builtin.List.listLengthHint (.ref it)) Q E y := by
  unfold Builtin.List.listLengthHint
  refine wpAny_bind (wpAny_specialOf hit.typeIs rt_nolen ?_)
  show wpAny _ _ (specialOf (Value.ref it) (Str.ofString "__length_hint__") >>= _) _ _ _
  refine wpAny_bind (wpAny_specialOf hit.typeIs rt_slot.lookup ?_)
  generalize hid : ("reversed.__length_hint__" : String) = id0
  wp_delta
  rw [show splitId id0 = some ("reversed", "__length_hint__") from by subst hid; decide +kernel]
  refine wpAny_bind (wpAny_isInstance (b := true) hit.typeIs (by rw [isSubtype_type]; kernel_rfl) ?_)
  rw [if_neg (by decide)]
  try dsimp only
  rw [if_neg (by subst hid; decide +kernel)]
  refine wpAny_bind (wpAny_rule ?_)
  subst hid
  refine wpAny_bind (wpAny_of_eq (rt_bind _) ?_)
  try dsimp only
  refine wpAny_bind (wpAny_attempt ?_)
  have hn := line63
  have big : ys.size < 2 ^ 63 := by rw [sizeLine_eq] at hz; omega
  obtain ⟨o, ho, hc, hd⟩ := id hit
  refine wpAny_call_entry rt_slot hit.typeIs rt_entry ?_ (rt_args _)
  unfold Builtin.«reversed.__length_hint__»
  refine wpAny_bind (wpAny_of_eq (a := Value.ref it) rfl ?_)
  refine wpAny_bind (wpAny_field ho hd (x := .ref t) rfl ?_)
  rw [if_neg (show ¬ (Value.ref t == Value.none) = true from fun h => nomatch h)]
  try dsimp only
  refine wpAny_bind (len_tuple ht (by omega) ?_)
  refine wpAny_bind (wpAny_of_eq (a := some (ys.size : Int)) rfl ?_)
  try dsimp only
  refine wpAny_bind (wpAny_field (s := { y with toks := y.toks + 1 + 1 }) ho hd (x := rawInt ((ys.size : Int) - 1)) rfl ?_)
  show wpAny _ _ (if (ys.size : Int) < (ys.size : Int) - 1 + 1 then _ else _) _ _ _
  rw [if_neg (by omega)]
  refine wpAny_bind (wpAny_mkInt ?_)
  refine wpAny_pure ⟨_, rfl, ?_⟩
  try dsimp only
  refine wpAny_bind (wpAny_of_eq (a := some ((ys.size : Int) - 1 + 1)) rfl ?_)
  try dsimp only
  have one : (ys.size : Int) - 1 + 1 = (ys.size : Int) := by omega
  rw [one]
  rw [if_neg (show ¬ (!Builtin.List.listFitsIndex (ys.size : Int)) = true by
    unfold Builtin.List.listFitsIndex
    have g1 : -(2 ^ 63 : Int) ≤ (ys.size : Int) := by omega
    have g2 : (ys.size : Int) < 2 ^ 63 := by omega
    simp only [g1, g2, decide_true, Bool.and_self, Bool.not_true]
    decide)]
  rw [if_neg (show ¬ (ys.size : Int) < 0 by omega)]
  rw [if_neg (show ¬ Builtin.List.listTooLong (ys.size : Int).toNat = true by
    unfold Builtin.List.listTooLong
    simp only [Int.toNat_natCast, decide_eq_true_eq, gt_iff_lt]
    omega)]
  exact wpAny_pure (q _ _)
end
end DL
set_option Elab.async false
set_option linter.all false
set_option maxRecDepth 100000
set_option maxHeartbeats 4000000
set_option autoImplicit false
namespace DL
open PySem PySem.Spec PyProof.Rows L2 LamX RT
section
variable {prog : Program} {w : World} {A : Around} {y : Shared} {R : Result → Shared → Prop}
theorem rt_init {it t S : Addr} {ys : Array Value} (hh : A.handled = none) (ne : t ≠ it) (hz : ys.size ≤ sizeLine) (hit : IsRt y.heap it t ((ys.size : Int) - 1)) (ht : IsTup y.heap t ys) (out : S ∉ [it, t])
    (hS : y.heap.get? S = some { cls := .type "list", data := .seq #[] })
    (go : ∀ z acc c, (∀ q o, q ≠ S → q ≠ it → y.heap.get? q = some o → z.heap.get? q = some o) → z = { y with heap := z.heap, toks := z.toks } → z.heap.get? S = some { cls := .type "list", dict := none, data := .seq acc c, slots := #[] }
      → ItemsOf (fun i v => ys[ys.size - 1 - i]? = some v) acc ys.size → R (.ok (.ret .none)) z) :
    wpAny (model prog w) A.in1 (Builtin.«list.__init__» ⟨[.ref S, .ref it], []⟩)
      (fun fin z => match fin with
        | .done f => R (.ok f) z
        | .again k => k.quiet = true ∧ codeAny (model prog w) A k R z) (fun e z => R (.error e) z) y := by
  have Sit : S ≠ it := fun e => out (e ▸ List.mem_cons_self)
  have St : S ≠ t := fun e => out (e ▸ List.mem_cons_of_mem _ (List.mem_singleton.mpr rfl))
  have wk := (walk_rt (prog := prog) (w := w) (A := A.in1) hh it t ne ys hz).toS
  show wpAny _ A.in1 (do let old ← Builtin.List.listItems (.ref S); Builtin.List.listUpdate (.ref S) (fun _ => #[]); letGo old.toList.reverse; Builtin.List.listExtendWith (.ref S) (.ref it) .none) _ _ y
  refine wpAny_bind ?_
  unfold Builtin.List.listItems
  refine wpAny_bind (wpAny_seqItems hS rfl (wpAny_pure ?_))
  show wpAny _ A.in1 (updateSeq S (fun _ => #[]) >>= fun _ => letGo (#[] : Array Value).toList.reverse >>= fun _ => Builtin.List.listExtendWith (.ref S) (.ref it) .none) _ _ y
  refine wpAny_bind (wpAny_updateSeq hS rfl ?_)
  have hS2 := Heap.get?_update_self (Obj.mapSeq (fun _ => (#[] : Array Value))) hS rfl
  have oth : ∀ q o, q ≠ S → y.heap.get? q = some o → (y.heap.update S (Obj.mapSeq (fun _ => (#[] : Array Value)))).get? q = some o := by
    intro q o nq g
    rw [Heap.get?_update_other _ _ (Ne.symm nq)]
    exact g
  refine wpAny_bind (wpAny_letGo ?_)
  have hit2 := hit.at (oth it · (Ne.symm Sit))
  have ht2 := tup_get ht (oth t · (Ne.symm St))
  have same : Builtin.List.listSameRef (.ref S) (.ref it) = false := by
    simp [Builtin.List.listSameRef, Sit]
  unfold Builtin.List.listExtendWith
  refine wpAny_bind (wpAny_typeOf (s := { y with heap := y.heap.update S (Obj.mapSeq (fun _ => (#[] : Array Value))) }) hit2.typeIs ?_)
  rw [if_neg (by rw [same]; decide)]
  refine wpAny_bind (iter_rt (s := { y with heap := y.heap.update S (Obj.mapSeq (fun _ => (#[] : Array Value))) }) hit2 ?_)
  refine wpAny_bind (wpAny_holding ?_)
  refine rt_hint (y := { y with heap := y.heap.update S (Obj.mapSeq (fun _ => (#[] : Array Value))) }) hit2 ht2 hz fun b tk => ?_
  have last : ∀ (k : Heap) (tk c0 : Nat), k.get? S = some { cls := .type "list", data := .seq #[] c0 } → (∀ q o, q ≠ S → y.heap.get? q = some o → k.get? q = some o) →
      wpAny (model prog w) A.in1 (again (.builtin "list.extend.loop" ⟨[.ref S, .ref it, .none], []⟩)) (fun fin z => match fin with
        | .done f => R (.ok f) z
        | .again k => k.quiet = true ∧ codeAny (model prog w) A k R z) (fun e z => R (.error e) z) { y with heap := k, toks := tk } := by
    intro k tk c0 hk oth2
    have e0 : (ys.size : Int) - 1 - ((0 : Nat) : Int) = (ys.size : Int) - 1 := by omega
    refine wpAny_pure ⟨plainId_quiet F.plain_extend_loop _, codeAny_extend_loopS wk hz _ out _ ys.size 0 _ _ _ rfl (Nat.zero_le _)
      ⟨Nat.zero_le _, by rw [e0]; exact hit.at (oth2 it · (Ne.symm Sit)), tup_get ht (oth2 t · (Ne.symm St))⟩ hk (ItemsOf.nil _) fun z acc c hm hz' hacc => ?_⟩
    have hm' := Moved.eq_with hm
    refine go z acc c (fun q o n1 n2 g => hm.heap q o ?_ (oth2 q o n1 g)) ?_ hz' hacc
    · intro h
      rcases List.mem_cons.mp h with h | h
      · exact n1 h
      · exact n2 (List.mem_singleton.mp h)
    · rw [hm']
  cases b
  · exact last _ _ _ hS2 oth
  · refine wpAny_bind (wpAny_rule ?_)
    refine wpAny_bind ?_
    show wpAny _ A.in1 (updateSeq S (·.push .none) >>= fun _ => updateSeq S (·.pop)) _ _ _
    refine wpAny_bind (wpAny_updateSeq (s := { y with heap := y.heap.update S (Obj.mapSeq (fun _ => (#[] : Array Value))), toks := tk }) hS2 rfl ?_)
    have hS3 := Heap.get?_update_self (Obj.mapSeq (·.push Value.none)) hS2 rfl
    refine wpAny_updateSeq (hz := by seq_fits) hS3 rfl ?_
    have hS4 := Heap.get?_update_self (Obj.mapSeq (·.pop)) hS3 rfl
    refine last _ _ _ hS4 fun q o nq g => ?_
    rw [Heap.get?_update_other _ _ (Ne.symm nq), Heap.get?_update_other _ _ (Ne.symm nq)]
    exact oth q o nq g
end
end DL
set_option Elab.async false
set_option linter.all false
set_option maxRecDepth 100000
set_option maxHeartbeats 4000000
set_option autoImplicit false
namespace DL
open PySem PySem.Spec PyProof.Rows L2 LamX RT
section
variable {prog : Program} {w : World} {A : Around} {E : Value → Shared → Prop} {y : Shared}
theorem rt_call {it t : Addr} {ys : Array Value} {G : Value → Shared → Prop} (hh : A.handled = none) (ne : t ≠ it) (hz : ys.size ≤ sizeLine) (hit : IsRt y.heap it t ((ys.size : Int) - 1)) (ht : IsTup y.heap t ys)
    (go : ∀ h tk acc c, (∀ q o, q ≠ it → y.heap.get? q = some o → h.get? q = some o) → h.get? y.heap.objs.size = some { cls := .type "list", dict := none, data := .seq acc c, slots := #[] }
      → ItemsOf (fun i v => ys[ys.size - 1 - i]? = some v) acc ys.size → G (.ref y.heap.objs.size) { y with heap := h, toks := tk }) :
    wpAny (model prog w) A (call (.type "list") [.ref it]) G E y := by
  obtain ⟨oi, hoi, _⟩ := id hit
  obtain ⟨ot, hot, _⟩ := id ht
  have out : y.heap.objs.size ∉ [it, t] := by
    intro h
    rcases List.mem_cons.mp h with h | h
    · exact Nat.ne_of_gt (Heap.lt_size hoi) h
    · exact Nat.ne_of_gt (Heap.lt_size hot) (List.mem_singleton.mp h)
  refine callType_codes (Q₁ := fun obj z => obj = .ref y.heap.objs.size ∧ z = { y with heap := y.heap.push { cls := .type "list", data := .seq #[] } })
    F.called_list (F.typeCall_list_1 _) F.entry_list_init (code_list_new _ ⟨rfl, rfl⟩) fun obj z hz1 => ?_
  obtain ⟨rfl, rfl⟩ := hz1
  have hS : (y.heap.push { cls := .type "list", data := .seq #[] }).get? y.heap.objs.size = some { cls := .type "list", data := .seq #[] } := Heap.get?_push_size _ rfl
  refine ⟨⟨_, hS, rfl⟩, F.args_list_init_2 _ _, rt_init (A := A.in1) hh ne hz (hit.at fun o g => Heap.get?_push_of_some _ g) (ht.push _) out hS fun z acc c keep same at1 items => ?_⟩
  refine ⟨rfl, ?_⟩
  rw [same]
  exact go _ _ acc c (fun q o n1 g => keep q o (fun h => absurd (Heap.lt_size g) (by rw [h]; exact Nat.lt_irrefl _)) n1 (Heap.get?_push_of_some _ g)) at1 items
end
/-- list(reversed(x)), x a tuple: a new list -/
def tLstRev (K : PySem.W.Frag) (te : TE) : TE := fun σ H Q => te σ H fun v H1 => ∃ (a : Addr) (xs : List V), v = .ref a ∧ SqT K H1 a xs ∧ ∀ q, H1 q = none → Q (.ref q) (upd H1 q (.lst xs.reverse))
theorem pe_lstRev {X : Cx} {e : Expr} {te : TE} {p p2 pos pos2 : Pos} (hc : X.calm = true) (hg : Gl X "list") (hm : X.mg "list" = none) (hg2 : Gl X "reversed") (hm2 : X.mg "reversed" = none) (he : PE X e te)
    (n1 : starEach [e] X.env = (false, eval e X.env) :: starEach [] X.env := by rfl)
    (n2 : starEach [.Call (.Name "reversed" p2) [e] [] pos2] X.env = (false, eval (.Call (.Name "reversed" p2) [e] [] pos2) X.env) :: starEach [] X.env := by rfl) :
    PE X (.Call (.Name "list" p) [.Call (.Name "reversed" p2) [e] [] pos2] [] pos) (tLstRev X.K te) := by
  refine ⟨fun pins s σ H Q I h => ?_⟩
  refine Call_ (ld_blt I hg hm boot_list (PyProof.Rows.callWith_type1 (args_cons (Call_ (ld_blt I hg2 hm2 PyProof.Rows.boot_reversed (PyProof.Rows.callWith_type1
    (args_cons (thn (he.run pins s σ H _ I h) fun u z ⟨v, H1, I1, r1, q1⟩ => args_nil ?_) n1) n1 rfl))) n2) n2 rfl))
  obtain ⟨a, xs, rfl, hq, go⟩ := q1
  obtain rfl : u = Value.ref a := r1
  obtain ⟨its, rv, tup, hz⟩ := I1.tuple hq
  have hl := rv.length
  have line := line63
  refine call_reversed_tup tup (fun A E Q k => len_tuple tup (by simp only [List.size_toArray] <;> omega) k) (args_nil ?_)
  have I2 : Inv X pins σ H1 { z with heap := z.heap.push (rtObj a ((its.toArray.size : Int) - 1)), toks := z.toks + 1 + 1 } := I1.kept (t' := z.toks + 1 + 1) fun b o g => Heap.get?_push_of_some _ g
  obtain ⟨f0, f1, f2, f3, f4, f5⟩ := I1.fpOk (H' := H1) (b := z.heap.objs.size) (Nat.le_refl _) (I1.hok.fresh (Nat.le_refl _))
  obtain ⟨ot, hot, _⟩ := id tup
  have ne : a ≠ z.heap.objs.size := Nat.ne_of_lt (Heap.lt_size hot)
  have hn : its.toArray.size ≤ sizeLine := by rw [List.size_toArray, ← rv.length]; exact hz
  refine rt_call (y := { z with heap := z.heap.push (rtObj a ((its.toArray.size : Int) - 1)), toks := z.toks + 1 + 1 }) (I.ok.hd hc) ne hn ⟨_, Heap.get?_push_size _ rfl, rfl, rfl⟩ (tup.push _) fun k tk acc c keep at1 items => ?_
  have sz : (z.heap.push (rtObj a ((its.toArray.size : Int) - 1))).objs.size = z.heap.objs.size + 1 := Heap.size_push ..
  have old : ∀ b o, z.heap.get? b = some o → k.get? b = some o := fun b o g =>
    keep b o (Nat.ne_of_lt (Heap.lt_size g)) (Heap.get?_push_of_some _ g)
  have at2 : k.get? (z.heap.objs.size + 1) = some { cls := .type "list", dict := none, data := .seq acc c, slots := #[] } := by
    rw [← sz]; exact at1
  have okl : ObjOk X.prog X.w (upd H1 (z.heap.objs.size + 1) (.lst xs.reverse)) k (z.heap.objs.size + 1) (.lst xs.reverse) :=
    ⟨by rw [List.length_reverse]; exact hz, acc.toList, c, vals_rev rv items, by rw [Array.toArray_toList]; exact at2⟩
  refine ⟨.ref (z.heap.objs.size + 1), upd H1 (z.heap.objs.size + 1) (.lst xs.reverse), I1.laid (t' := tk) old (Nat.le_succ _) okl, ?_, go _ (I1.hok.fresh (Nat.le_succ _))⟩
  show Value.ref (z.heap.push (rtObj a ((its.toArray.size : Int) - 1))).objs.size = _
  rw [sz]
end DL
set_option Elab.async false
set_option linter.all false
set_option maxRecDepth 100000
set_option maxHeartbeats 4000000
set_option autoImplicit false
namespace DL
open PySem PySem.Spec PyProof.Rows L2 LamX
/-! ### an instance against a text -/
section
variable {M : Model} {prog : Program} {w : World} {A : Around} {E : Value → Shared → Prop} {y : Shared} {K : PySem.W.Frag} {x C : Addr} {ox : Obj} {od : Option Obj} {a : PySem.Str} {t : Tok}
theorem ob_eq {Q : Fin → Shared → Prop} (q : Q (.done (.ret .notImplemented)) y) : wpAny M A (Builtin.«object.__eq__» ⟨[.ref x, .str a t], []⟩) Q E y := by
  unfold Builtin.«object.__eq__»
  repeat (first | with_reducible refine wpAny_of_eq (rfl : isSame (.ref x) (.str a t) = pure false) ?_ | wp_step)
  exact q
theorem st_cmp {o : Obj} {m : String} {f : List Nat → List Nat → Bool} {Q : Fin → Shared → Prop} (ho : y.heap.get? x = some o) (hd : ∀ v, o.data ≠ .prim v) (q : Q (.done (.ret .notImplemented)) y) : wpAny M A (Builtin.Str.strCompare m f ⟨[.str a t, .ref x], []⟩) Q E y := by
  unfold Builtin.Str.strCompare
  refine wpAny_bind (wpAny_of_eq (a := (Value.str a t, a, [.ref x])) rfl ?_)
  show wpAny _ _ (asStr? (.ref x) >>= _) _ _ _
  unfold asStr?
  refine wpAny_bind (wpAny_bind (wpAny_load ho ?_))
  split
  · rename_i h
    exact absurd h (hd _)
  · refine wpAny_pure ?_
    refine wpAny_bind (wpAny_rule ?_)
    exact wpAny_pure q
/-- an instance's own __eq__ asked with a text: not told -/
theorem ob_call {Q : Value → Shared → Prop} (X : K.In y.heap) (I : PySem.W.InstAt y.heap x ox C od) (hm : PySem.W.mroIn K C (.type "object") = some true) (q : Q .notImplemented y) :
    wpAny (model prog w) A (call (.builtin "object.__eq__") [.ref x, .str a t]) Q E y := by
  refine wpAny_call (codeAny_call_builtin F.cmp_object.eq.plain F.cmpEntry_eq ?_)
  exact PySem.W.check_slot F.cmpKind_eq F.cmpSplit_eq (I.type.andThen (PySem.W.looks_mroIn X hm)) (F.cmpArgs_eq _ _) (ob_eq q)
theorem sub_text : PySem.W.subIn K (.type "str") (.ref C) = some false := by
  have e : fastBuiltinMro "str" = some [.type "str", .type "object"] := by
    decide +kernel
  show (fastBuiltinMro "str").map (·.contains (.ref C)) = some false
  rw [e]
  simp
end
end DL
set_option Elab.async false
set_option linter.all false
set_option maxRecDepth 100000
set_option maxHeartbeats 4000000
set_option autoImplicit false
namespace DL
open PySem PySem.Spec PyProof.Rows L2 LamX
section
variable {M : Model} {prog : Program} {w : World} {A : Around} {E : Value → Shared → Prop} {y : Shared} {K : PySem.W.Frag} {x C : Addr} {ox : Obj} {od : Option Obj} {a : PySem.Str} {t : Tok}
theorem rc_text {Q : Value → Shared → Prop} (hu : A.units < cLine) (X : K.In y.heap) (I : PySem.W.InstAt y.heap x ox C od) (hm : PySem.W.mroIn K C (.type "object") = some true)
    (hs : PySem.W.findIn K (.ref C) "__eq__" = some (some (.builtin "object.__eq__"))) {o : Obj} (ho : y.heap.get? x = some o) (hd : ∀ v, o.data ≠ .prim v) (q : Q (.bool false) y) :
    wpAny (model prog w) A (richCompare .Eq (.ref x) (.str a t)) Q E y := by
  have one : wpAny (model prog w) A (tryCompare (.ref x) "__eq__" (.str a t)) (fun r z => r = none ∧ z = y) E y := by
    unfold tryCompare
    exact wpAny_bind (HN.ifBound_objEq X I hs (ob_call X I hm (wpAny_pure ⟨rfl, rfl⟩)))
  have two : wpAny (model prog w) A (tryCompare (.str a t) "__eq__" (.ref x)) (fun r z => r = none ∧ z = y) E y := by
    refine wpAny_tryCompare_declines (typeIs_str _ _ _) F.slot_str_eq_refl ?_
    refine wpAny_call (codeAny_call_builtin F.slot_str_eq_refl.plain F.entry_str_eq (F.slot_str_eq_refl.check _ _ _ _ _ _ _ _ (typeIs_str _ _ _) (F.args_str_eq_2 _ _) ?_))
    exact st_cmp ho hd ⟨rfl, rfl, rfl⟩
  simp only [richCompare, cmpInfo_Eq, oneThing_ref]
  refine wpAny_holding (wpAny_bind (wpAny_cRoomFor hu ?_))
  refine wpAny_bind (I.type.here ?_)
  refine wpAny_bind (wpAny_typeOf (typeIs_str _ _ _) ?_)
  split
  · refine wpAny_bind ((PySem.W.looks_subIn X sub_text).here ?_)
    simp only [Bool.false_eq_true, if_false, Bool.not_false, if_true]
    refine wpAny_bind (m := tryCompare (.ref x) _ (.str a t)) (wpAny_mono one (fun r z e => ?_) fun _ _ e => e)
    obtain ⟨rfl, rfl⟩ := e
    refine wpAny_bind (m := tryCompare (.str a t) _ (.ref x)) (wpAny_mono two (fun r z e => ?_) fun _ _ e => e)
    obtain ⟨rfl, rfl⟩ := e
    exact wpAny_bind (wpAny_rule (wpAny_bind (wpAny_of_eq (rfl : isSame (.ref x) (.str a t) = pure false) (wpAny_pure q))))
  · rename_i h
    exact absurd (by simp) h
end
end DL
set_option Elab.async false
set_option linter.all false
set_option maxRecDepth 100000
set_option maxHeartbeats 4000000
set_option autoImplicit false
namespace DL
open PySem PySem.Spec PyProof.Rows L2 LamX
section
variable {M : Model} {prog : Program} {w : World} {A : Around} {E : Value → Shared → Prop} {y : Shared} {K : PySem.W.Frag} {x C : Addr} {ox : Obj} {od : Option Obj} {a : PySem.Str} {t : Tok}
/-- an instance's own __ne__ asked with a text: not told -/
theorem on_ne {Q : Fin → Shared → Prop} (hu : A.units < cLine) (X : K.In y.heap) (I : PySem.W.InstAt y.heap x ox C od) (hm : PySem.W.mroIn K C (.type "object") = some true)
    (hs : PySem.W.findIn K (.ref C) "__eq__" = some (some (.builtin "object.__eq__"))) (q : Q (.done (.ret .notImplemented)) y) : wpAny (model prog w) A (Builtin.«object.__ne__» ⟨[.ref x, .str a t], []⟩) Q E y := by
  unfold Builtin.«object.__ne__»
  repeat (first | with_reducible refine wpAny_cRoomFor hu ?_ | with_reducible refine HN.ifBound_objEq X I hs (ob_call X I hm ?_) | wp_step)
  exact q
theorem on_call {Q : Value → Shared → Prop} (hu : A.units + 1 < cLine) (X : K.In y.heap) (I : PySem.W.InstAt y.heap x ox C od) (hm : PySem.W.mroIn K C (.type "object") = some true)
    (hs : PySem.W.findIn K (.ref C) "__eq__" = some (some (.builtin "object.__eq__"))) (q : Q .notImplemented y) :
    wpAny (model prog w) A (call (.builtin "object.__ne__") [.ref x, .str a t]) Q E y := by
  refine wpAny_call (codeAny_call_builtin F.cmp_object.ne.plain F.cmpEntry_ne ?_)
  exact PySem.W.check_slot F.cmpKind_ne F.cmpSplit_ne (I.type.andThen (PySem.W.looks_mroIn X hm)) (F.cmpArgs_ne _ _) (on_ne (A := A.in1) hu X I hm hs q)
theorem ifBound_objNe {args : List Value} {Q : Option Value → Shared → Prop} (X : K.In y.heap) (I : PySem.W.InstAt y.heap x ox C od) (hs : PySem.W.findIn K (.ref C) "__ne__" = some (some (.builtin "object.__ne__")))
    (h : wpAny M A (call (.builtin "object.__ne__") (.ref x :: args)) (fun v => Q (some v)) E y) : wpAny M A (callSpecialIfBound? (.ref x) "__ne__" args) Q E y := by
  simp only [callSpecialIfBound?, bindSpecialIfBound?]
  refine wpAny_holding (wpAny_bind (wpAny_bind (wpAny_bind (I.type.here ((PySem.W.looks_findIn X hs).here ?_)))))
  refine wpAny_bind (wpAny_askSetting (wpAny_ite ?_))
  have fin : wpAny M A (call (.builtin "object.__ne__") ([.ref x] ++ args) >>= fun v => pure (some v)) Q E y := wpAny_bind (wpAny_mono h (fun v s' h' => wpAny_pure h') fun _ _ h' => h')
  split
  · exact wpAny_bind (wpAny_of_eq (F.cmp_object.ne.bind _) (wpAny_pure (by exact fin)))
  · exact wpAny_tryCatch (wpAny_bind (wpAny_of_eq (F.cmp_object.ne.bind _) (wpAny_pure (by exact fin))))
theorem rn_text {Q : Value → Shared → Prop} (hu : A.units + 1 < cLine) (X : K.In y.heap) (I : PySem.W.InstAt y.heap x ox C od) (hm : PySem.W.mroIn K C (.type "object") = some true)
    (hs : PySem.W.findIn K (.ref C) "__eq__" = some (some (.builtin "object.__eq__"))) (hn : PySem.W.findIn K (.ref C) "__ne__" = some (some (.builtin "object.__ne__"))) {o : Obj} (ho : y.heap.get? x = some o) (hd : ∀ v, o.data ≠ .prim v) (q : Q (.bool true) y) :
    wpAny (model prog w) A (richCompare .NotEq (.ref x) (.str a t)) Q E y := by
  have hu0 : A.units < cLine := Nat.lt_of_succ_lt hu
  have one : wpAny (model prog w) A (tryCompare (.ref x) "__ne__" (.str a t)) (fun r z => r = none ∧ z = y) E y := by
    unfold tryCompare
    exact wpAny_bind (ifBound_objNe X I hn (on_call hu X I hm hs (wpAny_pure ⟨rfl, rfl⟩)))
  have two : wpAny (model prog w) A (tryCompare (.str a t) "__ne__" (.ref x)) (fun r z => r = none ∧ z = y) E y := by
    refine wpAny_tryCompare_declines (typeIs_str _ _ _) F.slot_str_ne_refl ?_
    refine wpAny_call (codeAny_call_builtin F.slot_str_ne_refl.plain F.entry_str_ne (F.slot_str_ne_refl.check _ _ _ _ _ _ _ _ (typeIs_str _ _ _) (F.args_str_ne_2 _ _) ?_))
    exact st_cmp ho hd ⟨rfl, rfl, rfl⟩
  simp only [richCompare, cmpInfo_NotEq, oneThing_ref]
  refine wpAny_holding (wpAny_bind (wpAny_cRoomFor hu0 ?_))
  refine wpAny_bind (I.type.here ?_)
  refine wpAny_bind (wpAny_typeOf (typeIs_str _ _ _) ?_)
  split
  · refine wpAny_bind ((PySem.W.looks_subIn X sub_text).here ?_)
    simp only [Bool.false_eq_true, if_false, Bool.not_false, if_true]
    refine wpAny_bind (m := tryCompare (.ref x) _ (.str a t)) (wpAny_mono one (fun r z e => ?_) fun _ _ e => e)
    obtain ⟨rfl, rfl⟩ := e
    refine wpAny_bind (m := tryCompare (.str a t) _ (.ref x)) (wpAny_mono two (fun r z e => ?_) fun _ _ e => e)
    obtain ⟨rfl, rfl⟩ := e
    exact wpAny_bind (wpAny_rule (wpAny_bind (wpAny_of_eq (rfl : isSame (.ref x) (.str a t) = pure false) (wpAny_pure q))))
  · rename_i h
    exact absurd (by simp) h
end
/-- a class that compares as object does -/
structure EqCls (K : PySem.W.Frag) (C : Addr) : Prop where
  mro : PySem.W.mroIn K C (.type "object") = some true
  eq : PySem.W.findIn K (.ref C) "__eq__" = some (some (.builtin "object.__eq__"))
  ne : PySem.W.findIn K (.ref C) "__ne__" = some (some (.builtin "object.__ne__"))
theorem eqCls_of {fa : List He.Fa} {fn : List He.DefD} {K : PySem.W.Frag} {x : Str} (c : He.SaysD fa fn K) (e : fa.all (eqB K) = true) (i : Nat) (h : fa[i]? = some (.cls x) := by rfl) : EqCls K (He.ga K x) := by
  have h1 := List.all_eq_true.mp e _ (List.mem_of_getElem? h)
  obtain ⟨a, b⟩ := He.ba (show (He.eqO _ _ && He.eqO _ _) = true from h1)
  refine ⟨?_, He.eqO_ok a, He.eqO_ok b⟩
  have cl := He.cls_ok (c.fact i h)
  obtain ⟨cd, hc, ho⟩ := PySem.W.any_some cl.po
  have ne : cd.mro.isEmpty = false := by cases q : cd.mro with | nil => rw [q] at ho; cases ho | cons _ _ => rfl
  unfold PySem.W.mroIn
  rw [hc, Option.bind_some, if_neg (by rw [ne]; decide), PySem.W.only_has ho]
def rInTx (K : PySem.W.Frag) (neg : Bool) : R2 := fun x y H Q => ∃ a C dx fs t, x = .ref a ∧ y = .str t ∧ H a = some (.ins C dx fs) ∧ EqCls K C ∧ Q (.bl neg) H
theorem op_eqTx {X : Cx} (hu : X.A.units < cLine) : OpR X (compareOp .Eq) (rInTx X.K false) := by
  intro pins s σ H x y v u Q I rx ry h
  obtain ⟨a, C, dx, fs, t, rfl, rfl, ha, e, q⟩ := h
  cases rx
  obtain ⟨tk, rfl⟩ := ry
  obtain ⟨mA, O, _⟩ := ins_get I.hok ha
  obtain ⟨od, J, _⟩ := O.look
  exact rc_text (A := X.A) hu I.kIn J e.mro e.eq O.obj (fun v z => by cases z) ⟨.bl _, H, I, rfl, q⟩
theorem op_neTx {X : Cx} (hu : X.A.units + 1 < cLine) : OpR X (compareOp .NotEq) (rInTx X.K true) := by
  intro pins s σ H x y v u Q I rx ry h
  obtain ⟨a, C, dx, fs, t, rfl, rfl, ha, e, q⟩ := h
  cases rx
  obtain ⟨tk, rfl⟩ := ry
  obtain ⟨mA, O, _⟩ := ins_get I.hok ha
  obtain ⟨od, J, _⟩ := O.look
  exact rn_text (A := X.A) hu I.kIn J e.mro e.eq e.ne O.obj (fun v z => by cases z) ⟨.bl _, H, I, rfl, q⟩
/-- a tuple against a text -/
def rTpTx (K : PySem.W.Frag) (neg : Bool) : R2 := fun x y H Q => ∃ p xs t, x = .ref p ∧ y = .str t ∧ SqT K H p xs ∧ Q (.bl neg) H
theorem op_eqTp {X : Cx} (hu : X.A.units < cLine) : OpR X (compareOp .Eq) (rTpTx X.K false) := by
  intro pins s σ H x y v u Q I rx ry h
  obtain ⟨p, xs, t, rfl, rfl, hp, q⟩ := h
  cases rx
  obtain ⟨tk, rfl⟩ := ry
  obtain ⟨its, _, hl, _⟩ := I.tuple hp
  exact SeqAt.RcAt.tuple_str t tk hl hu _ _ _ _ ⟨.bl _, H, I, rfl, q⟩
theorem op_neTp {X : Cx} (hu : X.A.units < cLine) : OpR X (compareOp .NotEq) (rTpTx X.K true) := by
  intro pins s σ H x y v u Q I rx ry h
  obtain ⟨p, xs, t, rfl, rfl, hp, q⟩ := h
  cases rx
  obtain ⟨tk, rfl⟩ := ry
  obtain ⟨its, _, hl, _⟩ := I.tuple hp
  exact SeqAt.RcNeAt.tuple_str t tk hl hu _ _ _ _ ⟨.bl _, H, I, rfl, q⟩
theorem OpR.or {X : Cx} {f : Value → Value → Sem Value} {r1 r2 : R2} (h1 : OpR X f r1) (h2 : OpR X f r2) : OpR X f (fun x y H Q => r1 x y H Q ∨ r2 x y H Q) := fun pins s σ H x y v u Q I rx ry h => by
  rcases h with h | h
  · exact h1 pins s σ H x y v u Q I rx ry h
  · exact h2 pins s σ H x y v u Q I rx ry h
/-! ### an instance or a plain value against a text -/
def dEqT (cs : List Nat) (x y : D) : Option D := match x, y with
  | .obj c _, .str _ => if c ∈ cs then some (.bl false) else none
  | .tup _, .str _ => some (.bl false)
  | x, y => dEq x y
def dNeT (cs : List Nat) (x y : D) : Option D := match x, y with
  | .obj c _, .str _ => if c ∈ cs then some (.bl true) else none
  | .tup _, .str _ => some (.bl true)
  | x, y => dNe x y
/-- the classes that compare as object does, by their numbers -/
def EqAll (K : PySem.W.Frag) (g : Gx) (cs : List Nat) : Prop := ∀ c ∈ cs, EqCls K (g.ca c)
theorem EqAll.nil {K : PySem.W.Frag} {g : Gx} : EqAll K g [] := fun c h => by cases h
theorem EqAll.cons {K : PySem.W.Frag} {g : Gx} {c : Nat} {cs : List Nat} (h : EqCls K (g.ca c)) (r : EqAll K g cs) : EqAll K g (c :: cs) := fun d q => by
  rcases List.mem_cons.mp q with rfl | q
  · exact h
  · exact r d q
section
variable {K : PySem.W.Frag} {g : Gx} {cs : List Nat}
theorem lk_eqT (he : EqAll K g cs) : Lk2F K g (fun x y H Q => rEqD K x y H Q ∨ (rInTx K false x y H Q ∨ rTpTx K false x y H Q)) (dEqT cs) := by
  intro I H x y z v w Q le rx ry hz q
  unfold dEqT at hz
  split at hz
  · rename_i c l t
    split at hz
    · rename_i hc
      cases hz
      obtain ⟨p, dx, vs, rfl, e2, _⟩ := rep_obj.mp rx
      obtain rfl := rep_str.mp ry
      exact .inr (.inl ⟨p, _, dx, _, t, rfl, rfl, le.get e2 rfl, he c hc, q _ (rep_bl.mpr rfl)⟩)
    · cases hz
  · cases hz
    obtain ⟨p, us, rfl, e2, e3⟩ := rep_tup.mp rx
    obtain rfl := rep_str.mp ry
    exact .inr (.inr ⟨p, us, _, rfl, rfl, sub_t le e2, q _ (rep_bl.mpr rfl)⟩)
  · exact .inl (lk_eq I H x y z v w Q le rx ry hz q)
theorem lk_neT (he : EqAll K g cs) : Lk2F K g (fun x y H Q => rNeD K x y H Q ∨ (rInTx K true x y H Q ∨ rTpTx K true x y H Q)) (dNeT cs) := by
  intro I H x y z v w Q le rx ry hz q
  unfold dNeT at hz
  split at hz
  · rename_i c l t
    split at hz
    · rename_i hc
      cases hz
      obtain ⟨p, dx, vs, rfl, e2, _⟩ := rep_obj.mp rx
      obtain rfl := rep_str.mp ry
      exact .inr (.inl ⟨p, _, dx, _, t, rfl, rfl, le.get e2 rfl, he c hc, q _ (rep_bl.mpr rfl)⟩)
    · cases hz
  · cases hz
    obtain ⟨p, us, rfl, e2, e3⟩ := rep_tup.mp rx
    obtain rfl := rep_str.mp ry
    exact .inr (.inr ⟨p, us, _, rfl, rfl, sub_t le e2, q _ (rep_bl.mpr rfl)⟩)
  · exact .inl (lk_ne I H x y z v w Q le rx ry hz q)
end
section
variable {X : Cx} {g : Gx} {W : WX} {pos : Pos} {a b : Expr} {ma mb : M D} {cs : List Nat}
theorem d_eqT {k : Nat} (he : EqAll X.K g cs) (hr : Room k X.A) (ha : DE X g W a ma) (hb : DE X g W b mb) : DE X g W (.Compare a [.Eq] [b] pos) (o2 (dEqT cs) ma mb) := d_cmp (OpR.or (op_eqD hr.units) (OpR.or (op_eqTx (by have := hr.units; omega)) (op_eqTp (by have := hr.units; omega)))) (lk_eqT he).lk ha hb
theorem d_neT {k : Nat} (he : EqAll X.K g cs) (hr : Room k X.A) (ha : DE X g W a ma) (hb : DE X g W b mb) : DE X g W (.Compare a [.NotEq] [b] pos) (o2 (dNeT cs) ma mb) := d_cmp (OpR.or (op_neD hr.units) (OpR.or (op_neTx (by have := hr.units; omega)) (op_neTp (by have := hr.units; omega)))) (lk_neT he).lk ha hb
theorem t_eqT {k : Nat} (he : EqAll X.K g cs) (hr : Room k X.A) (ha : DE X g W a ma) (hb : DE X g W b mb) : DT X g W (.Compare a [.Eq] [b] pos) (tst (o2 (dEqT cs) ma mb)) := t_cmp (OpR.or (op_eqD hr.units) (OpR.or (op_eqTx (by have := hr.units; omega)) (op_eqTp (by have := hr.units; omega)))) (lk_eqT he).lk ha hb
theorem t_neT {k : Nat} (he : EqAll X.K g cs) (hr : Room k X.A) (ha : DE X g W a ma) (hb : DE X g W b mb) : DT X g W (.Compare a [.NotEq] [b] pos) (tst (o2 (dNeT cs) ma mb)) := t_cmp (OpR.or (op_neD hr.units) (OpR.or (op_neTx (by have := hr.units; omega)) (op_neTp (by have := hr.units; omega)))) (lk_neT he).lk ha hb
end
end DL
set_option Elab.async false
set_option linter.all false
set_option maxRecDepth 100000
set_option maxHeartbeats 4000000
set_option autoImplicit false
namespace DL
open PySem PySem.Spec PyProof.Rows L2 LamX

section
variable {X : Cx} {g : Gx} {W : WX} {pos p : Pos} {a b c e tg : Expr} {es : List Expr} {ma mb mc : M D} {mas : M (List D)}
theorem pi_run {t : TI} (h : ∀ pins s σ H R, Inv X pins σ H s → t σ H R → ∃ t', PI X tg e t' ∧ t' σ H R) : PI X tg e t := ⟨fun pins s σ H R I q => by
  obtain ⟨t', hp, q'⟩ := h pins s σ H R I q
  exact hp.run pins s σ H R I q'⟩
/-- a list or a tuple walked -/
theorem i_seq (he : DE X g W e ma) : DI X g W tg e (lstM ma) := pi_run fun pins s σ H R Iv ⟨I, env, ok, h⟩ => by
  unfold lstM bnd at h
  cases e1 : ma env with
  | bad => rw [e1] at h; exact h.elim
  | err c env' =>
    refine ⟨_, i_list he, I, env, ok, ?_⟩
    rw [e1] at h
    unfold seqL bnd
    rw [e1]; exact h
  | ok d env' =>
    rw [e1] at h
    cases d with
    | lst l =>
      refine ⟨_, i_list he, I, env, ok, ?_⟩
      unfold seqL bnd
      rw [e1]; exact h
    | tup l =>
      refine ⟨_, i_tup he, I, env, ok, ?_⟩
      unfold seqT bnd
      rw [e1]; exact h
    | _ => exact h.elim
/-- range by steps -/
def rng3 (m : M (List D)) : M (List D) := bnd m fun ds => match ds with
  | [.int i, .int j, .int c] => if 0 < c ∧ c < 1073741824 ∧ 0 ≤ Builtin.Range.rangeSize i j c ∧ Builtin.Range.small i j c = true then ret ((List.range (Builtin.Range.rangeSize i j c).toNat).map fun (k : Nat) => .int (i + (k : Int) * c)) else DL.bad
  | _ => DL.bad
theorem three_ints {ds : List D} {α : Type} {f : Int → Int → Int → M α} {m : M α} (hm : m = (match ds with
  | [.int i, .int j, .int c] => f i j c
  | _ => DL.bad)) : (m = DL.bad) ∨ ∃ i j c, ds = [.int i, .int j, .int c] ∧ m = f i j c := by
  subst hm
  split
  · exact .inr ⟨_, _, _, rfl, rfl⟩
  · exact .inl rfl
theorem walk_rangeC {K : PySem.W.Frag} {I : Hp} {i c : Int} {n : Nat} : Walk K g I (Itc i c n) ((List.range n).map fun (k : Nat) => D.int (i + (k : Int) * c)) := fun j I' H' σ env le ok => by
  refine ⟨fun d hd => ?_, fun hl => by rw [List.length_map, List.length_range] at hl; exact hl⟩
  rw [List.getElem?_map] at hd
  obtain ⟨k, hk, rfl⟩ := Option.map_eq_some_iff.mp hd
  obtain ⟨hk1, hk2⟩ := List.getElem?_eq_some_iff.mp hk
  rw [List.length_range] at hk1
  rw [List.getElem_range] at hk2
  subst hk2
  refine ⟨hk1, fun x H1 ⟨e, y⟩ => ?_⟩
  subst e y
  exact ⟨I', StpP.refl ok, rep_int.mpr rfl⟩
theorem i_rng3 {p : Pos} (hg : Gl X "range") (hm : X.mg "range" = none) (ha : DA X g W [a, b, c] mas) (hs : starEach [a, b, c] X.env = (false, eval a X.env) :: starEach [b, c] X.env := by rfl) (hpl : (backTo pos (starEach [b, c] X.env)).any (·.1) = false := by rfl) :
    DI X g W tg (.Call (.Name "range" p) [a, b, c] [] pos) (rng3 mas) :=
  pi_imp (pi_range3 hg hm ha hs hpl) fun σ H Q ⟨I, env, ok, h⟩ => trI_bnd (α' := List D) (Rr := RL X.K g) ok h fun vs ds I1 H1 env1 st r h1 => by
    rcases three_ints (ds := ds) (f := fun i j c => if 0 < c ∧ c < 1073741824 ∧ 0 ≤ Builtin.Range.rangeSize i j c ∧ Builtin.Range.small i j c = true then ret ((List.range (Builtin.Range.rangeSize i j c).toNat).map fun (k : Nat) => D.int (i + (k : Int) * c)) else DL.bad) rfl with e | ⟨i, j, k, rfl, e⟩
    · rw [e] at h1; exact h1.elim
    · rw [e] at h1
      obtain ⟨u, us, rfl, r1, t1⟩ := reps_cons.mp r
      obtain ⟨u2, us2, rfl, r2, t2⟩ := reps_cons.mp t1
      obtain ⟨u3, us3, rfl, r3, t3⟩ := reps_cons.mp t2
      obtain rfl := reps_nil.mp t3
      obtain rfl := rep_int.mp r1
      obtain rfl := rep_int.mp r2
      obtain rfl := rep_int.mp r3
      split at h1
      · rename_i hc
        exact ⟨i, j, k, _, rfl, ⟨by omega, by omega, hc.2.2.2, (Int.toNat_of_nonneg hc.2.2.1).symm⟩, h1 _ I1 H1 (StpP.refl st.ok) walk_rangeC⟩
      · exact h1.elim
end
/-! ### dict(a list of pairs) -/
section
variable {κ : Type} [DecidableEq κ]
def putD (q : List κ × List D) (k : κ) (v : D) : List κ × List D := if k ∈ q.1 then (q.1, List.zipWith (fun k' d => if k' = k then v else d) q.1 q.2) else (q.1 ++ [k], q.2 ++ [v])
end
def pairsD : List D → Option (List (Key × D))
  | [] => some []
  | .tup [k, v] :: ds => match keyOf k, pairsD ds with
    | some k, some r => some ((k, v) :: r)
    | _, _ => none
  | _ => none
def mergeD (l : List (Key × D)) : List Key × List D := l.foldl (fun q kv => putD q kv.1 kv.2) ([], [])
def dDict : D → Option D
  | .lst l => (pairsD l).map fun ps => .dic (mergeD ps).1 (mergeD ps).2
  | _ => none
theorem bc_dict {X : Cx} (hc : X.calm = true) (hg : Gl X "dict") (hm : X.mg "dict" = none) : BC X "dict" (fun xs H Q => ∃ (a : Addr) (ps : List Addr) (kvs : List (Key × V)), xs = [.ref a] ∧ SqL X.K H a (ps.map V.ref) ∧ Paired (fun p kv => SqT X.K H p [kV kv.1, kv.2]) ps kvs ∧
    ∀ p, H p = none → Q (.ref p) (upd H p (.dK (mergeK [] kvs)))) := bcT (call_dictP hc) hg hm (by decide +kernel)
section
variable {K : PySem.W.Frag} {g : Gx} {I H : Hp}
theorem pairs_rep : ∀ {l : List D} {ps : List (Key × D)} {vs : List V}, pairsD l = some ps → Reps K g I l vs → ∃ (as : List Addr) (kvs : List (Key × V)), vs = as.map V.ref ∧ Paired (fun p kv => SqT K I p [kV kv.1, kv.2]) as kvs ∧ kvs.map (·.1) = ps.map (·.1) ∧ Reps K g I (ps.map (·.2)) (kvs.map (·.2))
  | [], _, _, h, r => by
    cases h
    obtain rfl := reps_nil.mp r
    exact ⟨[], [], rfl, .nil, rfl, reps_nil.mpr rfl⟩
  | d :: ds, ps, vs, h, r => by
    unfold pairsD at h
    split at h
    · rename_i he; cases he
    · rename_i k v ds' he
      obtain ⟨rfl, rfl⟩ := List.cons.inj he
      split at h
      · rename_i k' r' hk hr
        cases h
        obtain ⟨u, us, rfl, r1, r2⟩ := reps_cons.mp r
        obtain ⟨as, kvs, rfl, h2, h3, h4⟩ := pairs_rep hr r2
        obtain ⟨p, ws, rfl, e2, e3⟩ := rep_tup.mp r1
        obtain ⟨w1, ws', rfl, q1, q2⟩ := reps_cons.mp e3
        obtain ⟨w2, ws'', rfl, q3, q4⟩ := reps_cons.mp q2
        obtain rfl := reps_nil.mp q4
        have hw : w1 = kV k' := by
          cases k <;> first | (cases hk; done) | skip
          · cases hk; exact rep_int.mp q1
          · cases hk; exact rep_str.mp q1
        subst hw
        exact ⟨p :: as, (k', w2) :: kvs, rfl, .cons e2 h2, by simp [h3], reps_cons.mpr ⟨_, _, rfl, q3, h4⟩⟩
      · cases h
    · cases h
theorem put_rep {q : List Key × List D} {acc : List (Key × V)} {k : Key} {v : D} {w : V} (h1 : q.1 = acc.map (·.1)) (h2 : Reps K g I q.2 (acc.map (·.2))) (hv : Rep K g I v w) : (putD q k v).1 = (putK acc k w).map (·.1) ∧ Reps K g I (putD q k v).2 ((putK acc k w).map (·.2)) := by
  obtain ⟨ks, ds⟩ := q
  subst h1
  unfold putD putK
  by_cases hm : k ∈ acc.map (·.1)
  · have ha : (acc.any fun kv => decide (kv.1 = k)) = true := by
      obtain ⟨kv, hk, e⟩ := List.mem_map.mp hm
      exact List.any_eq_true.mpr ⟨kv, hk, by simpa using e⟩
    rw [if_pos hm, if_pos ha]
    clear hm ha
    constructor
    · show acc.map _ = _
      rw [List.map_map]
      refine List.map_congr_left fun kv _ => ?_
      show kv.1 = (if kv.1 = k then (kv.1, w) else kv).1
      split <;> rfl
    · show Reps K g I (List.zipWith (fun k' d => if k' = k then v else d) (acc.map (·.1)) ds) _
      induction acc generalizing ds with
      | nil => exact reps_nil.mpr rfl
      | cons kv acc ih =>
        cases ds with
        | nil => obtain h := reps_nil.mp h2; cases h
        | cons d ds =>
          obtain ⟨u, us, he, r1, r2⟩ := reps_cons.mp h2
          obtain ⟨rfl, rfl⟩ := List.cons.inj he
          refine reps_cons.mpr ⟨_, _, rfl, ?_, ih ds r2⟩
          show Rep K g I (if kv.1 = k then v else d) (if kv.1 = k then (kv.1, w) else kv).2
          split
          · exact hv
          · exact r1
  · have ha : ¬ (acc.any fun kv => decide (kv.1 = k)) = true := fun h => by
      obtain ⟨kv, hk, e⟩ := List.any_eq_true.mp h
      exact hm (List.mem_map.mpr ⟨kv, hk, by simpa using e⟩)
    rw [if_neg hm, if_neg ha]
    refine ⟨by simp, ?_⟩
    show Reps K g I (ds ++ [v]) _
    rw [List.map_append]
    exact Reps.append h2 (reps_cons.mpr ⟨_, _, rfl, hv, reps_nil.mpr rfl⟩)
theorem merge_rep : ∀ {ps : List (Key × D)} {kvs : List (Key × V)} {q : List Key × List D} {acc : List (Key × V)}, kvs.map (·.1) = ps.map (·.1) → Reps K g I (ps.map (·.2)) (kvs.map (·.2)) → q.1 = acc.map (·.1) → Reps K g I q.2 (acc.map (·.2)) →
    (ps.foldl (fun q kv => putD q kv.1 kv.2) q).1 = (mergeK acc kvs).map (·.1) ∧ Reps K g I (ps.foldl (fun q kv => putD q kv.1 kv.2) q).2 ((mergeK acc kvs).map (·.2))
  | [], kvs, q, acc, e, r, h1, h2 => by
    cases kvs with
    | nil => exact ⟨h1, h2⟩
    | cons _ _ => cases e
  | p :: ps, kvs, q, acc, e, r, h1, h2 => by
    cases kvs with
    | nil => cases e
    | cons kv kvs =>
      obtain ⟨e1, e2⟩ := List.cons.inj e
      obtain ⟨u, us, he, r1, r2⟩ := reps_cons.mp r
      obtain ⟨rfl, rfl⟩ := List.cons.inj he
      have h3 := put_rep (k := p.1) h1 h2 r1
      rw [List.foldl_cons]
      have e1' : kv.1 = p.1 := e1
      show _ = (mergeK (putK acc kv.1 kv.2) kvs).map (·.1) ∧ Reps K g I _ ((mergeK (putK acc kv.1 kv.2) kvs).map (·.2))
      rw [e1']
      exact merge_rep e2 r2 h3.1 h3.2
theorem zip_self : ∀ l : List (Key × V), (l.map (·.1)).zip (l.map (·.2)) = l
  | [] => rfl
  | x :: l => by
    show (x.1, x.2) :: (l.map (·.1)).zip (l.map (·.2)) = _
    rw [zip_self l]
theorem paired_imp {α β : Type} {F G : α → β → Prop} (h : ∀ a b, F a b → G a b) : ∀ {as : List α} {bs : List β}, Paired F as bs → Paired G as bs
  | _, _, .nil => .nil
  | _, _, .cons a t => .cons (h _ _ a) (paired_imp h t)
end
theorem lp_dict {X : Cx} {g : Gx} : LkP X.K g (fun xs H Q => ∃ (a : Addr) (ps : List Addr) (kvs : List (Key × V)), xs = [.ref a] ∧ SqL X.K H a (ps.map V.ref) ∧ Paired (fun p kv => SqT X.K H p [kV kv.1, kv.2]) ps kvs ∧
    ∀ p, H p = none → Q (.ref p) (upd H p (.dK (mergeK [] kvs)))) dDict := by
  intro I H σ env x z v Q ok rx hz q
  cases x <;> first | (cases hz; done) | skip
  rename_i l
  obtain ⟨p, vs, rfl, e2, e3⟩ := prep_lst.mp rx
  obtain ⟨ps, h1, h2⟩ := Option.map_eq_some_iff.mp (show (pairsD l).map _ = some z from hz)
  subst h2
  obtain ⟨as, kvs, rfl, k2, k3, k4⟩ := pairs_rep h1 e3
  refine ⟨p, as, kvs, rfl, SqL.of e2, paired_imp (fun a kv h => sub_t ok.sub h) k2, fun a ha => ?_⟩
  obtain ⟨m1, m2⟩ := merge_rep (q := ([], [])) (acc := []) k3 k4 rfl (reps_nil.mpr rfl)
  refine q _ _ _ (ok.new ha (fun _ z => nomatch z)) (rep_dic.mpr ⟨a, (mergeK [] kvs).map (·.2), rfl, ?_, ?_, ?_⟩)
  · rw [upd_same]
    have : (mergeD ps).1 = (mergeK [] kvs).map (·.1) := m1
    rw [this, zip_self]
  · have : (mergeD ps).1 = (mergeK [] kvs).map (·.1) := m1
    rw [this]; simp
  · exact Reps.mono (Le.new (ok.fresh_i ha)) m2
def dRev : D → Option (List D)
  | .tup l => some l.reverse
  | _ => none
def dMinN : List D → Option D
  | ds => (intsD ds).bind fun ns => if ns.length = 5 then some (.int (minI ns)) else none
/-! ### min of five whole numbers -/
section
variable {prog : Program} {w : World} {A : Around} {E : Value → Shared → Prop} {z : Shared}
theorem five_args (a b c d e : Value) : argsOk "min" ⟨[a, b, c, d, e], []⟩ := by
  unfold argsOk
  kernel_rfl
/-- the walk over the tuple of the five -/
theorem five_call {a b c d e : Value} {G : Value → Shared → Prop}
    (go : wpAny (model prog w) A.in1 (pyIter (.ref z.heap.objs.size))
      (fun it y => ∃ J low wr n P St lt, it = .ref J ∧ Walks prog w A.in1 J low wr n P St ∧ St 0 y.heap ∧ (∀ q ∈ low, q < y.heap.objs.size) ∧ 0 < n
        ∧ CmpOf prog w A.in1 .Lt P lt ∧ ∀ v k tk, P (argBest lt (n - 1)) v → (∀ q o, q ∉ wr → y.heap.get? q = some o → k.get? q = some o) → G v { y with heap := k, toks := tk })
      E { z with heap := z.heap.push { cls := .type "tuple", data := .seq #[a, b, c, d, e] } }) :
    wpAny (model prog w) A (call (.builtin "min") [a, b, c, d, e]) G E z := by
  have nm : (toString "min" ++ toString ".loop" : String) = "min.loop" := by
    decide
  refine call_function_tree F.kind_min F.plain_min F.entry_min (five_args a b c d e) ?_
  show wpAny _ A.in1 (Builtin.Builtins.bindParams "min" ["key", "default"] 0 ⟨[], []⟩ >>= _) _ E z
  refine wpAny_bind (wpAny_of_eq
    (show Builtin.Builtins.bindParams "min" ["key", "default"] 0 ⟨[], []⟩
      = pure [none, none] from rfl) ?_)
  show wpAny _ A.in1 (newTuple [a, b, c, d, e] >>= _) _ E z
  refine wpAny_bind (wpAny_newObj_type ?_)
  refine wpAny_bind (wpAny_mono go (fun it y hy => ?_) fun _ _ x => x)
  obtain ⟨J, low, wr, n, P, St, lt, rfl, wk, st, hlow, hn, hlt, hG⟩ := hy
  refine wpAny_bind (wpAny_newObj_type ?_)
  have out : y.heap.objs.size ∉ low := fun hm => absurd (hlow _ hm) (Nat.lt_irrefl _)
  rw [nm]
  refine wpAny_pure ⟨plainId_quiet F.plain_min_loop _, ?_⟩
  refine codeAny_min_loop_first wk lt hlt y.heap.objs.size out hn
    (wk.frame _ _ _ st fun _ _ _ g => Heap.get?_push_of_some _ g) (Heap.get?_push_size _ rfl) ?_
  intro v k tk hp hk
  exact hG v k tk hp fun q o nw g => hk q o nw
    (Nat.ne_of_lt (Heap.lt_size g)) (Heap.get?_push_of_some _ g)
/-- .. the least of them -/
theorem five_least {xs : Array (Int × Tok)} {p1 p2 p3 p4 p5 : Int × Tok} {G : Value → Shared → Prop} (hh : A.handled = none) (hx : xs = #[p1, p2, p3, p4, p5])
    (go : ∀ k tk m t, (∀ q o, z.heap.get? q = some o → k.get? q = some o) → m ∈ [p1.1, p2.1, p3.1, p4.1, p5.1] → (∀ y, y ∈ [p1.1, p2.1, p3.1, p4.1, p5.1] → m ≤ y) → G (.int m t) { z with heap := k, toks := tk }) :
    wpAny (model prog w) A (call (.builtin "min") [.int p1.1 p1.2, .int p2.1 p2.2, .int p3.1 p3.2, .int p4.1 p4.2, .int p5.1 p5.2]) G E z := by
  have tup : (z.heap.push { cls := .type "tuple", data := .seq #[.int p1.1 p1.2, .int p2.1 p2.2, .int p3.1 p3.2, .int p4.1 p4.2, .int p5.1 p5.2] }).IsTuple z.heap.objs.size (intItems xs) :=
    ⟨_, Heap.get?_push_size _ rfl, rfl, 0, by subst hx; simp [intItems]⟩
  have five : xs.size = 5 := by subst hx; rfl
  have nx : (intItems xs).size = 5 := by simp [intItems, five]
  have ml : xs.toList.map (·.1) = [p1.1, p2.1, p3.1, p4.1, p5.1] := by subst hx; rfl
  refine five_call (wpAny_pyIter_tuple tup ?_)
  have up : (z.heap.push { cls := .type "tuple", data := .seq #[.int p1.1 p1.2, .int p2.1 p2.2, .int p3.1 p3.2, .int p4.1 p4.2, .int p5.1 p5.2] }).objs.size = z.heap.objs.size + 1 := Heap.size_push ..
  refine ⟨_, [_, z.heap.objs.size], [_], _, _, _, _, rfl,
    Walks.tuple (A := A.in1) hh _ z.heap.objs.size
      (by rw [up]; exact Nat.ne_of_lt (Nat.lt_succ_self _)) (intItems xs),
    ⟨⟨_, Heap.get?_push_size _ rfl, rfl, rfl⟩, tup.push _⟩, ?_, by omega,
    CmpOf.ints_lt (numAt xs) (fun _ _ => intItems_at), ?_⟩
  · intro q hq
    show q < ((z.heap.push _).push _).objs.size
    rw [Heap.size_push, up]
    rcases List.mem_cons.mp hq with rfl | hq'
    · rw [up]; exact Nat.lt_succ_self _
    · rw [List.mem_singleton.mp hq']
      exact Nat.lt_add_of_pos_right (k := 2) (by decide)
  · intro v k tk hp hk
    obtain ⟨t, rfl⟩ := intItems_at hp
    obtain ⟨b1, b2⟩ := argBest_lt (numAt xs) ((intItems xs).size - 1)
    refine go k tk _ t ?_ ?_ ?_
    · intro q o g
      refine hk q o (fun hm => ?_) (Heap.get?_push_of_some _ (Heap.get?_push_of_some _ g))
      have l := Heap.lt_size g
      rw [List.mem_singleton.mp hm, up] at l
      exact absurd l (Nat.not_lt_of_le (Nat.le_succ _))
    · rw [numAt_eq, ← ml]
      exact PySem.getD_mem (by rw [ml]; show _ < 5; omega)
    · intro y hy
      obtain ⟨j, hj, rfl⟩ := mem_getD hy
      rw [← ml, ← numAt_eq]
      have hj' : j < 5 := hj
      exact b2 j (by omega)
theorem call_min5 {X : Cx} (hc : X.calm = true) : CallR X (.builtin "min") (fun xs H Q => ∃ ns : List Int, xs = ns.map V.int ∧ ns.length = 5 ∧ ∀ m, m ∈ ns → (∀ y, y ∈ ns → m ≤ y) → Q (.int m) H) := by
  intro pins s σ H vs us Q I r h
  obtain ⟨ns, rfl, h5, q⟩ := h
  obtain ⟨n1, n2, n3, n4, n5, rfl⟩ : ∃ a b c d e, ns = [a, b, c, d, e] := by
    match ns, h5 with
    | [a, b, c, d, e], _ => exact ⟨a, b, c, d, e, rfl⟩
  cases r with
  | cons r1 r =>
    cases r with
    | cons r2 r =>
      cases r with
      | cons r3 r =>
        obtain ⟨v4, v5, rfl, r4, r5⟩ := L2.vals2 r
        obtain ⟨t1, rfl⟩ := r1
        obtain ⟨t2, rfl⟩ := r2
        obtain ⟨t3, rfl⟩ := r3
        obtain ⟨t4, rfl⟩ := r4
        obtain ⟨t5, rfl⟩ := r5
        exact five_least (p1 := (n1, t1)) (p2 := (n2, t2)) (p3 := (n3, t3)) (p4 := (n4, t4)) (p5 := (n5, t5)) (I.ok.hd hc) rfl
          fun k tk m t kept h1 h2 => ⟨.int _, H, I.kept kept, ⟨_, rfl⟩, q m h1 h2⟩
end
theorem bc_minN {X : Cx} (hc : X.calm = true) (hg : Gl X "min") (hm : X.mg "min" = none) : BC X "min" (fun xs H Q => ∃ ns : List Int, xs = ns.map V.int ∧ ns.length = 5 ∧ ∀ m, m ∈ ns → (∀ y, y ∈ ns → m ≤ y) → Q (.int m) H) := bcB (call_min5 hc) hg hm (by decide +kernel)
theorem lc_minN {K : PySem.W.Frag} {g : Gx} : LkC K g (fun xs H Q => ∃ ns : List Int, xs = ns.map V.int ∧ ns.length = 5 ∧ ∀ m, m ∈ ns → (∀ y, y ∈ ns → m ≤ y) → Q (.int m) H) dMinN := by
  intro I H σ env x z v Q ok rx hz q
  obtain ⟨ns, h1, h2⟩ := Option.bind_eq_some_iff.mp (show (intsD x).bind (fun ns => if ns.length = 5 then some (D.int (minI ns)) else none) = some z from hz)
  rw [intsD_of h1] at rx
  obtain rfl := reps_ints rx
  split at h2
  · rename_i h5
    cases h2
    have hne : ns ≠ [] := fun e => by subst e; cases h5
    obtain ⟨m1, m2⟩ := minI_spec hne
    refine ⟨ns, rfl, h5, fun m hm hall => ?_⟩
    have : m = minI ns := by have := hall _ m1; have := m2 m hm; omega
    rw [this]
    exact q _ I H (StpP.refl ok) (rep_int.mpr rfl)
  · cases h2
section
variable {X : Cx} {g : Gx} {W : WX} {pos p p2 pos2 : Pos} {e : Expr} {ma : M D}
theorem c_listRev (hc : X.calm = true) (hg : Gl X "list") (hm : X.mg "list" = none) (hg2 : Gl X "reversed") (hm2 : X.mg "reversed" = none) (he : DE X g W e ma) (n1 : starEach [e] X.env = (false, eval e X.env) :: starEach [] X.env := by rfl) : DC X g W (.Call (.Name "list" p) [.Call (.Name "reversed" p2) [e] [] pos2] [] pos) (o1L dRev ma) :=
  pe_imp (pe_lstRev hc hg hm hg2 hm2 he n1) fun σ H Q ⟨I, env, ok, h⟩ => tr_bnd (Rr := RO X.K g) (Rr' := RD X.K g) ok h fun v d I1 H1 env1 st r1 h1 => by
    obtain ⟨z, hz, q⟩ := out_liftR h1
    cases d <;> first | (cases hz; done) | skip
    cases hz
    obtain ⟨a, vs, rfl, e2, e3⟩ := rep_tup.mp r1
    refine ⟨a, vs, rfl, sub_t st.ok.sub e2, fun b hb => ?_⟩
    obtain ⟨s2, r2⟩ := roNew st.ok hb (Reps.reverse e3)
    exact q _ _ _ s2 r2
end
end DL
set_option Elab.async false
set_option linter.all false
set_option maxRecDepth 100000
set_option maxHeartbeats 4000000
set_option autoImplicit false
namespace DL
open PySem PySem.Spec PyProof.Rows L2 LamX
/-! ### expressions that leave all as it stands, in a frame of their own -/
theorem _root_.PySem.Keeps.rfl' (s : Shared) : Keeps s s := ⟨s.heap, s.toks, rfl, fun _ _ e => e⟩
theorem _root_.PySem.Keeps.tok' (s : Shared) (k : Nat) : Keeps s { s with toks := k } := ⟨s.heap, k, rfl, fun _ _ e => e⟩
theorem _root_.PySem.Keeps.then' {s s1 s2 : Shared} (a : Keeps s s1) (b : Keeps s1 s2) : Keeps s s2 := by
  obtain ⟨h1, t1, rfl, k1⟩ := a
  obtain ⟨h2, t2, rfl, k2⟩ := b
  exact ⟨h2, t2, rfl, fun b o e => k2 b o (k1 b o e)⟩
theorem _root_.PySem.Keeps.heap' {s s1 : Shared} (a : Keeps s s1) : ∀ b o, s.heap.get? b = some o → s1.heap.get? b = some o := by
  obtain ⟨h1, t1, rfl, k1⟩ := a
  exact k1
/-- a generator's frame: its scope, its names, what they hold -/
structure GF (P : Program) (w : World) (K : PySem.W.Frag) (sc : Scope) (N : List Str) (H : Hp) (cenv : PySem.Env) (A : Around) (s : Shared) (us : List V) : Prop where
  sce : cenv.scope = sc
  kd : sc.kind = .function
  hd : A.handled = none
  un : A.units + 80 < cLine
  kin : K.In s.heap
  hok : HOk P w H s.heap
  loc : ∃ m, s.heap.Ns cenv.locals m ∧ ∀ (i : Nat) (x : Str) (u : V), N[i]? = some x → us[i]? = some u → Vis sc x → ∃ y, RelV u y ∧ Look cenv s.heap m x y
section
variable {P : Program} {w : World} {K : PySem.W.Frag} {g : Gx} {sc : Scope} {N : List Str} {H : Hp} {cenv : PySem.Env} {A : Around} {s s1 : Shared} {us : List V}
theorem GF.keeps (F : GF P w K sc N H cenv A s us) (k : Keeps s s1) : GF P w K sc N H cenv A s1 us where
  sce := F.sce
  kd := F.kd
  hd := F.hd
  un := F.un
  kin := F.kin.keeps k.heap'
  hok := F.hok.kept k.heap'
  loc := by
    obtain ⟨m, n, h⟩ := F.loc
    refine ⟨m, n.keeps k.heap', fun i x u e1 e2 v => ?_⟩
    obtain ⟨y, r, l⟩ := h i x u e1 e2 v
    refine ⟨y, r, ?_⟩
    rcases l with l | ⟨l, c, e, q⟩
    · exact .inl l
    · exact .inr ⟨l, c, e, q.keeps k.heap'⟩
/-- e is worth q of what the names hold; nothing else happens -/
def QQ (P : Program) (w : World) (K : PySem.W.Frag) (g : Gx) (sc : Scope) (N : List Str) (e : Expr) (q : List D → Option D) : Prop :=
  ∀ (H I : Hp) (ds : List D) (us : List V) (d : D) (cenv : PySem.Env) (A : Around) (E : Value → Shared → Prop) (s : Shared), Sub I H → Reps K g I ds us → q ds = some d → GF P w K sc N H cenv A s us →
    wpAny (model P w) A (eval e cenv) (fun y s' => (∃ v, RelV v y ∧ Rep K g I d v) ∧ Keeps s s') E s
/-- an operator that leaves all as it stands -/
def QO (P : Program) (w : World) (K : PySem.W.Frag) (g : Gx) (f : Value → Value → Sem Value) (d : D → D → Option D) : Prop :=
  ∀ (H I : Hp) (x y z : D) (a b : V) (v u : Value) (A : Around) (E : Value → Shared → Prop) (s : Shared), Sub I H → K.In s.heap → HOk P w H s.heap → A.handled = none → A.units + 80 < cLine → Rep K g I x a → RelV a v → Rep K g I y b → RelV b u → d x y = some z →
    wpAny (model P w) A (f v u) (fun r s' => (∃ c, RelV c r ∧ Rep K g I z c) ∧ Keeps s s') E s
theorem qo_ii {f : Value → Value → Sem Value} {h : Int → Int → Bool} (r : ∀ (A : Around) (E : Value → Shared → Prop) (s : Shared) (i j : Int) (t u : Tok) (Q : Value → Shared → Prop), Q (.bool (h i j)) s → wpAny (model P w) A (f (.int i t) (.int j u)) Q E s) : QO P w K g f (dII fun i j => some (.bl (h i j))) := by
  intro H I x y z a b v u A E s sb ki ho hh hu ra rv rb ru hz
  cases x <;> cases y <;> first | (cases hz; done) | skip
  rename_i i j
  obtain rfl := rep_int.mp ra
  obtain rfl := rep_int.mp rb
  obtain ⟨t1, rfl⟩ := rv
  obtain ⟨t2, rfl⟩ := ru
  cases hz
  exact r A E s i j t1 t2 _ ⟨⟨.bl _, rfl, rep_bl.mpr rfl⟩, Keeps.rfl' s⟩
theorem qo_lt : QO P w K g (compareOp .Lt) dLtI := qo_ii fun _ _ _ _ _ _ _ _ q => lt_int q
theorem qo_le : QO P w K g (compareOp .LtE) dLe := qo_ii fun _ _ _ _ _ _ _ _ q => le_int q
theorem qo_gt : QO P w K g (compareOp .Gt) dGt := qo_ii fun _ _ _ _ _ _ _ _ q => gt_int q
theorem qo_ge : QO P w K g (compareOp .GtE) dGe := qo_ii fun _ _ _ _ _ _ _ _ q => ge_int q
def dEqI : D → D → Option D
  | .int i, .int j => some (.bl (i == j))
  | .str a, .str b => some (.bl (a == b))
  | _, _ => none
def dNeI : D → D → Option D
  | .int i, .int j => some (.bl (i != j))
  | .str a, .str b => some (.bl (a != b))
  | _, _ => none
def dModI : D → D → Option D := dII fun i j => if 0 < j then some (.int (i % j)) else none
theorem strB {a b : Str} : (a.cps.toList == b.cps.toList) = (a == b) := by
  rw [Bool.eq_iff_iff, beq_iff_eq, beq_iff_eq]
  constructor
  · intro h
    cases a; cases b
    simp only [PySem.Str.mk.injEq]
    exact Array.toList_inj.mp h
  · rintro rfl; rfl
theorem qo_eq : QO P w K g (compareOp .Eq) dEqI := by
  intro H I x y z a b v u A E s sb ki ho hh hu ra rv rb ru hz
  cases x <;> cases y <;> first | (cases hz; done) | skip
  · obtain rfl := rep_int.mp ra
    obtain rfl := rep_int.mp rb
    obtain ⟨t1, rfl⟩ := rv
    obtain ⟨t2, rfl⟩ := ru
    cases hz
    exact eq_int ⟨⟨.bl _, rfl, rep_bl.mpr rfl⟩, Keeps.rfl' s⟩
  · obtain rfl := rep_str.mp ra
    obtain rfl := rep_str.mp rb
    obtain ⟨t1, rfl⟩ := rv
    obtain ⟨t2, rfl⟩ := ru
    cases hz
    refine PySem.P.eq_str ⟨⟨.bl _, rfl, rep_bl.mpr ?_⟩, Keeps.rfl' s⟩
    rw [strB]
theorem qo_ne : QO P w K g (compareOp .NotEq) dNeI := by
  intro H I x y z a b v u A E s sb ki ho hh hu ra rv rb ru hz
  cases x <;> cases y <;> first | (cases hz; done) | skip
  · obtain rfl := rep_int.mp ra
    obtain rfl := rep_int.mp rb
    obtain ⟨t1, rfl⟩ := rv
    obtain ⟨t2, rfl⟩ := ru
    cases hz
    exact ne_int ⟨⟨.bl _, rfl, rep_bl.mpr rfl⟩, Keeps.rfl' s⟩
  · obtain rfl := rep_str.mp ra
    obtain rfl := rep_str.mp rb
    obtain ⟨t1, rfl⟩ := rv
    obtain ⟨t2, rfl⟩ := ru
    cases hz
    refine PySem.P.ne_str ⟨⟨.bl _, rfl, rep_bl.mpr ?_⟩, Keeps.rfl' s⟩
    show _ = V.bl (!(_ == _))
    rw [← strB]; rfl
theorem qo_mod : QO P w K g (binaryOp .Mod) dModI := by
  intro H I x y z a b v u A E s sb ki ho hh hu ra rv rb ru hz
  cases x <;> cases y <;> first | (cases hz; done) | skip
  rename_i i j
  obtain rfl := rep_int.mp ra
  obtain rfl := rep_int.mp rb
  obtain ⟨t1, rfl⟩ := rv
  obtain ⟨t2, rfl⟩ := ru
  have hz' : (if 0 < j then some (D.int (i % j)) else none) = some z := hz
  split at hz'
  · rename_i hj
    cases hz'
    refine mod_int (by omega) ⟨⟨.int _, ⟨_, rfl⟩, rep_int.mpr ?_⟩, Keeps.tok' s _⟩
    rw [Int.fmod_eq_emod_of_nonneg _ (by omega)]
  · cases hz'
end
section
variable {P : Program} {w : World} {K : PySem.W.Frag} {g : Gx} {sc : Scope} {N : List Str} {pos : Pos} {a b c e : Expr} {rest : List Expr} {qa qb qc : List D → Option D}
def qv (i : Nat) : List D → Option D := fun ds => ds[i]?
def qk (d : D) : List D → Option D := fun _ => some d
def q1 (f : D → Option D) (a : List D → Option D) : List D → Option D := fun ds => (a ds).bind f
def q2 (f : D → D → Option D) (a b : List D → Option D) : List D → Option D := fun ds => (a ds).bind fun x => (b ds).bind fun y => f x y
def qAnd (a b : List D → Option D) : List D → Option D := fun ds => (a ds).bind fun x => match x with
  | .bl true => b ds
  | .bl false => some (.bl false)
  | _ => none
def qOr (a b : List D → Option D) : List D → Option D := fun ds => (a ds).bind fun x => match x with
  | .bl true => some (.bl true)
  | .bl false => b ds
  | _ => none
def qNot (a : List D → Option D) : List D → Option D := fun ds => (a ds).bind fun x => match x with
  | .bl k => some (.bl (!k))
  | _ => none
/-- a op b op' c -/
def qCh (f f' : D → D → Option D) (a b c : List D → Option D) : List D → Option D := fun ds => (a ds).bind fun x => (b ds).bind fun y => (f x y).bind fun z => match z with
  | .bl true => (c ds).bind fun u => f' y u
  | .bl false => some (.bl false)
  | _ => none
theorem qe_name {i : Nat} {x : Str} (hN : N[i]? = some x) (hv : Vis sc x) (hd : (x == ("__debug__" : Str)) = false := by decide) (hcd : (x == ("__classdict__" : Str)) = false := by decide) : QQ P w K g sc N (.Name x pos) (qv i) := by
  intro H I ds us d cenv A E s sb rs hq F
  obtain ⟨u, hu, ru⟩ := rs.get hq
  obtain ⟨m, n, h⟩ := F.loc
  obtain ⟨y, r, l⟩ := h i x u hN hu hv
  have kd : cenv.scope.kind = .function := by rw [F.sce]; exact F.kd
  have done : (fun y s' => (∃ v, RelV v y ∧ Rep K g I d v) ∧ Keeps s s') y s := ⟨⟨u, r, ru⟩, Keeps.rfl' s⟩
  rcases l with ⟨hk, hm⟩ | ⟨hk, c, hc, hcell⟩
  · exact wpAny_Name (wpAny_loadName_local kd hk n hm done) hd
  · rcases hk with hk | hk
    · exact wpAny_Name (wpAny_loadName_cell kd hk hc hcell done) hd
    · exact wpAny_Name (wpAny_loadName_free kd hk hc hcell done hcd) hd
theorem qe_int {i : Int} {j : Nat} : QQ P w K g sc N (.Constant (.int i) j pos) (qk (.int i)) := fun H I ds us d cenv A E s sb rs hq F => by
  cases hq
  exact wpAny_Constant_int ⟨⟨.int i, ⟨_, rfl⟩, rep_int.mpr rfl⟩, Keeps.tok' s _⟩
theorem qe_str {i : Str} {j : Nat} : QQ P w K g sc N (.Constant (.str i) j pos) (qk (.str i)) := fun H I ds us d cenv A E s sb rs hq F => by
  cases hq
  exact Calls.Constant_str ⟨⟨.str i, ⟨_, rfl⟩, rep_str.mpr rfl⟩, Keeps.tok' s _⟩
theorem qe_fld {f : Str} {al : List (Nat × Nat)} (hf : FldOk K g f al) (he : QQ P w K g sc N e qa) (hb : ∀ env : PySem.Env, attributeBase e f env (eval e env) = eval e env := by intro _; rfl) : QQ P w K g sc N (.Attribute e f pos) (q1 (dFld al) qa) := by
  intro H I ds us d cenv A E s sb rs hq F
  obtain ⟨x, hx, hq⟩ := Option.bind_eq_some_iff.mp hq
  refine attr_of (hb cenv) (wpAny_mono (he H I ds us x cenv A E s sb rs hx F) (fun y s1 h => ?_) fun _ _ e => e)
  obtain ⟨⟨v, rv, rx⟩, k⟩ := h
  have F1 := F.keeps k
  cases x <;> first | (cases hq; done) | skip
  rename_i c l
  unfold dFld at hq
  obtain ⟨i, hi, hl⟩ := Option.bind_eq_some_iff.mp hq
  obtain ⟨cl, na, l1, l2⟩ := hf c i hi
  obtain ⟨p, dx, vs, rfl, e2, e3, e4⟩ := rep_obj.mp rx
  obtain rfl : y = Value.ref p := rv
  obtain ⟨mA, O, r, _, _, _⟩ := ins_get F1.hok (sb.get e2 rfl)
  obtain ⟨u, hu, ru⟩ := e4.get hl
  have lk := lookup_zip l1 l2 hu
  obtain ⟨z, hz, rz⟩ := RelO.some_of (v := u) (o := mA f) (by rw [← lk]; exact r f)
  exact get_map F1.kin O (cl.get f) cl.hd na hz (handed_of rz) ⟨⟨u, rz, ru⟩, k.then' (Keeps.tok' s1 _)⟩
theorem qe_cmp {op : CmpOp} {f : D → D → Option D} (ho : QO P w K g (compareOp op) f) (ha : QQ P w K g sc N a qa) (hb : QQ P w K g sc N b qb) (hm : behindInMarks op b = false := by first | exact nomark _ | rfl) : QQ P w K g sc N (.Compare a [op] [b] pos) (q2 f qa qb) := by
  intro H I ds us d cenv A E s sb rs hq F
  obtain ⟨x, hx, hq⟩ := Option.bind_eq_some_iff.mp hq
  obtain ⟨y, hy, hq⟩ := Option.bind_eq_some_iff.mp hq
  refine wpAny_Compare1 (wpAny_mono (ha H I ds us x cenv A E s sb rs hx F) (fun v s1 h => ?_) fun _ _ e => e) hm
  obtain ⟨⟨v', rv, rx⟩, k⟩ := h
  refine wpAny_mono (hb H I ds us y cenv A E s1 sb rs hy (F.keeps k)) (fun u s2 h => ?_) fun _ _ e => e
  obtain ⟨⟨u', ru, ry⟩, k2⟩ := h
  have F2 := F.keeps (k.then' k2)
  refine wpAny_mono (ho H I x y d v' u' v u A E s2 sb F2.kin F2.hok F.hd F.un rx rv ry ru hq) (fun r s3 h => ?_) fun _ _ e => e
  exact ⟨h.1, (k.then' k2).then' h.2⟩
theorem qe_bin {op : Operator} {f : D → D → Option D} (ho : QO P w K g (binaryOp op) f) (ha : QQ P w K g sc N a qa) (hb : QQ P w K g sc N b qb) : QQ P w K g sc N (.BinOp a op b pos) (q2 f qa qb) := by
  intro H I ds us d cenv A E s sb rs hq F
  obtain ⟨x, hx, hq⟩ := Option.bind_eq_some_iff.mp hq
  obtain ⟨y, hy, hq⟩ := Option.bind_eq_some_iff.mp hq
  refine wpAny_BinOp (wpAny_mono (ha H I ds us x cenv A E s sb rs hx F) (fun v s1 h => ?_) fun _ _ e => e)
  obtain ⟨⟨v', rv, rx⟩, k⟩ := h
  refine wpAny_mono (hb H I ds us y cenv A E s1 sb rs hy (F.keeps k)) (fun u s2 h => ?_) fun _ _ e => e
  obtain ⟨⟨u', ru, ry⟩, k2⟩ := h
  have F2 := F.keeps (k.then' k2)
  refine wpAny_mono (ho H I x y d v' u' v u A E s2 sb F2.kin F2.hok F.hd F.un rx rv ry ru hq) (fun r s3 h => ?_) fun _ _ e => e
  exact ⟨h.1, (k.then' k2).then' h.2⟩
theorem qe_one {op : BoolOp} (ha : QQ P w K g sc N a qa) : QQ P w K g sc N (.BoolOp op [a] pos) qa := fun H I ds us d cenv A E s sb rs hq F => BoolOp_one (ha H I ds us d cenv A E s sb rs hq F)
theorem qe_and (ha : QQ P w K g sc N a qa) (hb : QQ P w K g sc N (.BoolOp .And (b :: rest) pos) qb) : QQ P w K g sc N (.BoolOp .And (a :: b :: rest) pos) (qAnd qa qb) := by
  intro H I ds us d cenv A E s sb rs hq F
  obtain ⟨x, hx, hq⟩ := Option.bind_eq_some_iff.mp hq
  refine BoolOp_and (wpAny_mono (ha H I ds us x cenv A E s sb rs hx F) (fun v s1 h => ?_) fun _ _ e => e)
  obtain ⟨⟨v', rv, rx⟩, k⟩ := h
  cases x <;> first | (cases hq; done) | skip
  rename_i bb
  obtain rfl := rep_bl.mp rx
  obtain rfl : v = Value.bool bb := rv
  refine wpAny_truthy_bool ?_
  cases bb with
  | true => exact wpAny_mono (hb H I ds us d cenv A E s1 sb rs hq (F.keeps k)) (fun u s2 h => ⟨h.1, k.then' h.2⟩) fun _ _ e => e
  | false => cases hq; exact ⟨⟨.bl false, rfl, rx⟩, k⟩
theorem qe_or (ha : QQ P w K g sc N a qa) (hb : QQ P w K g sc N (.BoolOp .Or (b :: rest) pos) qb) : QQ P w K g sc N (.BoolOp .Or (a :: b :: rest) pos) (qOr qa qb) := by
  intro H I ds us d cenv A E s sb rs hq F
  obtain ⟨x, hx, hq⟩ := Option.bind_eq_some_iff.mp hq
  refine BoolOp_or (wpAny_mono (ha H I ds us x cenv A E s sb rs hx F) (fun v s1 h => ?_) fun _ _ e => e)
  obtain ⟨⟨v', rv, rx⟩, k⟩ := h
  cases x <;> first | (cases hq; done) | skip
  rename_i bb
  obtain rfl := rep_bl.mp rx
  obtain rfl : v = Value.bool bb := rv
  refine wpAny_truthy_bool ?_
  cases bb with
  | false => exact wpAny_mono (hb H I ds us d cenv A E s1 sb rs hq (F.keeps k)) (fun u s2 h => ⟨h.1, k.then' h.2⟩) fun _ _ e => e
  | true => cases hq; exact ⟨⟨.bl true, rfl, rx⟩, k⟩
theorem qe_not (ha : QQ P w K g sc N a qa) : QQ P w K g sc N (.UnaryOp .Not a pos) (qNot qa) := by
  intro H I ds us d cenv A E s sb rs hq F
  obtain ⟨x, hx, hq⟩ := Option.bind_eq_some_iff.mp hq
  refine UnaryOp_ (wpAny_mono (ha H I ds us x cenv A E s sb rs hx F) (fun v s1 h => ?_) fun _ _ e => e)
  obtain ⟨⟨v', rv, rx⟩, k⟩ := h
  cases x <;> first | (cases hq; done) | skip
  rename_i bb
  obtain rfl := rep_bl.mp rx
  obtain rfl : v = Value.bool bb := rv
  cases hq
  exact not_of (wpAny_truthy_bool ⟨⟨.bl (!bb), rfl, rep_bl.mpr rfl⟩, k⟩)
theorem qe_chain {op op' : CmpOp} {f f' : D → D → Option D} (ho : QO P w K g (compareOp op) f) (ho' : QO P w K g (compareOp op') f') (ha : QQ P w K g sc N a qa) (hb : QQ P w K g sc N b qb) (hc : QQ P w K g sc N c qc)
    (hm : lastMarks [op, op'] [b, c] = false := by with_unfolding_all rfl) : QQ P w K g sc N (.Compare a [op, op'] [b, c] pos) (qCh f f' qa qb qc) := by
  intro H I ds us d cenv A E s sb rs hq F
  obtain ⟨x, hx, hq⟩ := Option.bind_eq_some_iff.mp hq
  obtain ⟨y, hy, hq⟩ := Option.bind_eq_some_iff.mp hq
  obtain ⟨z, hz, hq⟩ := Option.bind_eq_some_iff.mp hq
  refine Compare_chain (wpAny_mono (ha H I ds us x cenv A E s sb rs hx F) (fun v s1 h => ?_) fun _ _ e => e) hm
  obtain ⟨⟨v', rv, rx⟩, k⟩ := h
  refine chain_link (wpAny_mono (hb H I ds us y cenv A E s1 sb rs hy (F.keeps k)) (fun u s2 h => ?_) fun _ _ e => e)
  obtain ⟨⟨u', ru, ry⟩, k2⟩ := h
  have F2 := F.keeps (k.then' k2)
  refine wpAny_mono (ho H I x y z v' u' v u A E s2 sb F2.kin F2.hok F.hd F.un rx rv ry ru hz) (fun r s3 h => ?_) fun _ _ e => e
  obtain ⟨⟨c', rc, rz⟩, k3⟩ := h
  have k4 := (k.then' k2).then' k3
  cases z <;> first | (cases hq; done) | skip
  rename_i bb
  obtain rfl := rep_bl.mp rz
  obtain rfl : r = Value.bool bb := rc
  refine wpAny_truthy_bool ?_
  cases bb with
  | false => cases hq; exact ite_ff ⟨⟨.bl false, rfl, rz⟩, k4⟩
  | true =>
    obtain ⟨t, ht, hq⟩ := Option.bind_eq_some_iff.mp hq
    refine ite_tt (chain_last (wpAny_mono (hc H I ds us t cenv A E s3 sb rs ht (F.keeps k4)) (fun o s5 h => ?_) fun _ _ e => e))
    obtain ⟨⟨o', ro, rt⟩, k5⟩ := h
    have F5 := F.keeps (k4.then' k5)
    refine wpAny_mono (ho' H I y t d u' o' u o A E s5 sb F5.kin F5.hok F.hd F.un ry ru rt ro hq) (fun r s6 h => ?_) fun _ _ e => e
    exact ⟨h.1, (k4.then' k5).then' h.2⟩
end
end DL
set_option Elab.async false
set_option linter.all false
set_option maxRecDepth 100000
set_option maxHeartbeats 4000000
set_option autoImplicit false
namespace DL
open PySem PySem.Spec PyProof.Rows L2 LamX
/-! ### generator expressions: the maker's code object, its table -/
structure GenD (X : Cx) (g : Gx) : Prop where
  ex : ∃ c P : Addr, TabB X.base X.mg c P ∧ X.env.code = .ref c ∧ (P, X.env.qual ++ "<genexpr>") ∈ g.T ∧ ∀ p ∈ g.T, p.1 = P → p.2 = X.env.qual ++ "<genexpr>"
section
variable {X : Cx} {g : Gx} {pins : List (Addr × Obj)} {σ : L2.St} {H : Hp} {s : Shared}
/-- only the heap and that the generators are bare matter -/
theorem inv_gens {h' : Heap} {t' : Nat} {s' : Shared} (J : Inv X pins σ H { s with heap := h', toks := t' }) (e1 : s'.heap = h') (e2 : s'.os = s.os) (e3 : AllBare s'.gens) : Inv X pins σ H s' := by
  subst e1
  exact ⟨J.ok, e2.trans J.os, e3, J.base, J.loc, J.cell, J.free, J.freeC, J.pin, J.hok, J.len⟩
/-- behind the making of a generator over what o walks: h3; the iterator at the place of o alone may change -/
structure GenH (X : Cx) (g : Gx) (pins : List (Addr × Obj)) (σ : L2.St) (H : Hp) (s : Shared) (o : Obj) (h3 : Heap) : Prop where
  iter : h3.get? s.heap.objs.size = (s.heap.push o).get? s.heap.objs.size
  old : ∀ b x, H b = some x → (∀ ps, x ≠ .tbl ps) → ∀ u, s.heap.get? b = some u → h3.get? b = some u
  size : s.heap.objs.size < h3.objs.size
  lim : h3.NoLimit
  stat : cStatics < s.heap.objs.size
  back : ∀ s' : Shared, s'.os = s.os → AllBare s'.gens → (∀ b u, b ≠ s.heap.objs.size → h3.get? b = some u → s'.heap.get? b = some u) → ∃ H2, ExtN H H2 ∧ Tabs g.T H2 ∧ Inv X pins σ H2 s'
theorem gen_code {scope : Scope} {gpos : Pos} {Q : Value → Addr → Shared → Prop} {E : Value → Shared → Prop} {o : Obj} (ho : Obj.isFreed o = false) (I : Inv X pins σ H s) (D : GenD X g) (hT : Tabs g.T H)
    (h : ∀ code h3 tk, GenH X g pins σ H s o h3 → Q code builtinsNs { s with heap := h3, toks := tk }) :
    wpAny (model X.prog X.w) X.A (genexprCode X.env gpos (X.env.qual ++ "<genexpr>") scope) (fun code s₃ => wpAny (model X.prog X.w) X.A (builtinsFor X.env.globals X.env.builtins) (fun bi s₄ => Q code bi s₄) E s₃) E { s with heap := s.heap.push o } := by
  obtain ⟨c, P, TB, hcode, hm, hu⟩ := D.ex
  obtain ⟨ps, hP, ht, ha⟩ := hT _ hm
  have hPs : s.heap.get? P = some { cls := .none, data := .fields ps } := I.hok P _ hP
  have hPl : P < s.heap.objs.size := Heap.lt_size hPs
  have hPu : (s.heap.push o).get? P = some { cls := .none, data := .fields ps } := Heap.get?_push_of_some _ hPs
  have cd : PySem.W.CodeHd (s.heap.push o) c P := TB.code.keeps fun b u e => Heap.get?_push_of_some _ (I.bk b u e)
  obtain ⟨bm, ob, e1, e2, e3, e4, e5, e6, e7, e8⟩ := TB.bm
  have hcl : cStatics < s.heap.objs.size := by
    obtain ⟨_, hns, _⟩ := I.nolimit
    exact hns.lt
  have hcP : cStatics ≠ P := fun e => by
    obtain ⟨_, hns, _⟩ := I.nolimit
    obtain ⟨o', es, ep, q1, q2, _⟩ := hns
    rw [e, hPs] at q1
    cases q1
    cases q2
  have szp : (s.heap.push o).objs.size = s.heap.objs.size + 1 := Heap.size_push ..
  have tail : ∀ (code : Value) (h3 : Heap) (tk : Nat), Heap.ExtBut P (s.heap.push o) h3 → GenH X g pins σ H s o h3 → wpAny (model X.prog X.w) X.A (builtinsFor X.env.globals X.env.builtins) (fun bi s₄ => Q code bi s₄) E { s with heap := h3, toks := tk } := fun code h3 tk hx G => by
    refine wpAny_builtinsFor (m := X.mg) (by rw [I.ok.glob]; exact ((I.mod.glob.keeps I.bk).push o).extBut hx TB.gP) e1 e2 (hx _ _ e4 (Heap.get?_push_of_some _ (I.bk _ _ e5))) e6 e7 e8 ?_
    exact h code h3 tk G
  have nit : s.heap.objs.size ≠ P := Nat.ne_of_gt hPl
  cases hf : codeAmong gpos ps.toList with
  | none =>
    refine wpAny_genexprCodeX hcode (cd.code hPu ht) (cd.tab hPu) hf fun c' h' tk hx hge hlt hco' hrec htab' _ => ?_
    rw [szp] at hge
    obtain ⟨c2, oc, vs, t, ee, hoc, hd, hv⟩ := hrec
    cases ee
    refine tail _ h' tk hx ⟨?_, fun b x q1 q2 u q3 => hx b u (fun z => q2 ps (Option.some.inj (q1.symm.trans (by rw [z]; exact hP)))) (Heap.get?_push_of_some _ q3), by omega, (I.nolimit.push o).extBut hx hcP, hcl, fun s' os' ag kp => ?_⟩
    · have q := Heap.get?_push_size s.heap (o := o) ho
      rw [q]
      exact hx _ _ nit q
    · have nC : H c' = none := I.hok.fresh (by omega)
      have c'n : c' ≠ s.heap.objs.size := by omega
      have J := inv_table (t' := s'.toks) (more := #[rawInt gpos.line, rawInt gpos.col, .ref c']) (h' := s'.heap) (c := c') (q := X.env.qual ++ "<genexpr>") I hP
        (fun b u hb e => kp b u (Nat.ne_of_lt (Heap.lt_size e)) (hx b u hb (Heap.get?_push_of_some _ e))) (kp P _ nit.symm htab'.2) (by omega) ⟨oc, vs, t, kp c' _ c'n hoc, hd, hv⟩
      have hE : ExtN H (upd (upd H P (.tbl (ps ++ #[rawInt gpos.line, rawInt gpos.col, .ref c']))) c' (CodeO c' (X.env.qual ++ "<genexpr>"))) := fun b u e n => by
        have nb : b ≠ P := fun z => n ps (Option.some.inj (e.symm.trans (show H b = _ by rw [z]; exact hP)))
        rw [upd_ne (ne_of_none e nC), upd_ne nb]
        exact e
      refine ⟨_, hE, fun p hp => ?_, inv_gens J rfl os' ag⟩
      have eL : (ps ++ #[rawInt gpos.line, rawInt gpos.col, .ref c']).toList = ps.toList ++ [rawInt gpos.line, rawInt gpos.col, .ref c'] := Array.toList_append
      by_cases hb : p.1 = P
      · rw [hu p hp hb, hb]
        refine ⟨_, by rw [upd_ne (ne_of_none hP nC), upd_same], by rw [eL]; exact PySem.TriplesOk_snoc _ _ _ _ ht, fun p' cv hcv => ?_⟩
        rw [eL] at hcv
        rcases among_app _ ht hcv with z | z
        · obtain ⟨c0, z1, z2⟩ := ha p' cv z
          exact ⟨c0, z1, hE _ _ z2 codeO_ne⟩
        · exact ⟨c', z, upd_same⟩
      · obtain ⟨ps', a1, a2, a3⟩ := hT p hp
        refine ⟨ps', by rw [upd_ne (ne_of_none a1 nC), upd_ne hb]; exact a1, a2, fun p' cv hcv => ?_⟩
        obtain ⟨c0, z1, z2⟩ := a3 p' cv hcv
        exact ⟨c0, z1, hE _ _ z2 codeO_ne⟩
  | some cv =>
    refine wpAny_genexprCode_hit hcode (cd.code hPu ht) hf ?_
    refine tail cv (s.heap.push o) s.toks (Heap.ExtBut.refl _ _) ⟨rfl, fun b x q1 q2 u q3 => Heap.get?_push_of_some _ q3, by omega, I.nolimit.push o, hcl, fun s' os' ag kp => ?_⟩
    exact ⟨H, ExtN.refl H, hT, inv_gens (I.kept (h' := s'.heap) (t' := s'.toks) fun b u e => kp b u (Nat.ne_of_lt (Heap.lt_size e)) (Heap.get?_push_of_some _ e)) rfl os' ag⟩
end
end DL
set_option Elab.async false
set_option linter.all false
set_option maxRecDepth 100000
set_option maxHeartbeats 4000000
set_option autoImplicit false
namespace DL
open PySem PySem.Spec PyProof.Rows L2 LamX
/-! ### any, all of a generator expression -/
def seqD : D → Option (List D)
  | .lst l => some l
  | .tup l => some l
  | _ => none
def boolsQ (q : List D → Option D) : List (List D) → Option (List Bool)
  | [] => some []
  | r :: rs => match q r, boolsQ q rs with
    | some (.bl b), some bs => some (b :: bs)
    | _, _ => none
def rows1 (l : List D) : Option (List (List D)) := some (l.map fun d => [d])
def rows2 : List D → Option (List (List D))
  | [] => some []
  | .tup [x, y] :: ds => (rows2 ds).map ([x, y] :: ·)
  | _ => none
def dGen (fin : List Bool → Bool) (rows : List D → Option (List (List D))) (q : List D → Option D) (d : D) : Option D := (seqD d).bind fun l => (rows l).bind fun rs => (boolsQ q rs).map fun bs => .bl (fin bs)
theorem boolsQ_at {q : List D → Option D} : ∀ {rs : List (List D)} {bs : List Bool}, boolsQ q rs = some bs → rs.length = bs.length ∧ ∀ (i : Nat) (r : List D), rs[i]? = some r → ∃ b, bs[i]? = some b ∧ q r = some (.bl b)
  | [], bs, h => by cases h; exact ⟨rfl, fun i r e => by simp at e⟩
  | r :: rs, bs, h => by
    unfold boolsQ at h
    split at h
    · rename_i b bs' h1 h2
      cases h
      obtain ⟨e1, e2⟩ := boolsQ_at h2
      refine ⟨by simp [e1], fun i r' e => ?_⟩
      cases i with
      | zero => cases e; exact ⟨b, rfl, h1⟩
      | succ i => exact e2 i r' e
    · cases h
/-- a generator of truths, ready to be walked -/
structure GReady (X : Cx) (g : Gx) (pins : List (Addr × Obj)) (σ : L2.St) (H1 : Hp) (bs : List Bool) (ga : Addr) (s5 : Shared) : Prop where
  ex : ∃ (fp wr : List Addr) (G : Array GenState → Array GenState → Prop) (F : Nat → Value → Prop) (St : Nat → Shared → Prop),
    WalksS X.prog X.w X.A.in1 ga fp wr G bs.length F St ∧ St 0 s5 ∧ TruthOf X.prog X.w X.A.in1 F (fun j => bs.getD j false) ∧
    ∀ s', Moved wr G s5 s' → ∃ H2, ExtN H1 H2 ∧ Tabs g.T H2 ∧ Inv X pins σ H2 s'
theorem truth_at {P : Program} {w : World} {A : Around} {bs : List Bool} {f : List Nat} (hf : f = List.range bs.length) : TruthOf P w A (fun j y => ∃ i, f[j]? = some i ∧ ∃ b, bs[i]? = some b ∧ y = .bool b) (fun j => bs.getD j false) := by
  intro j y sj Qj Ej hy hQj
  obtain ⟨i, hij, b, hb, rfl⟩ := hy
  subst hf
  obtain ⟨hj, ej⟩ := List.getElem?_eq_some_iff.mp hij
  rw [List.getElem_range] at ej
  subst ej
  have hQ2 : Qj (bs.getD j false) sj := hQj
  rw [List.getD_eq_getElem?_getD, hb] at hQ2
  exact wpAny_truthy_bool hQ2
theorem pass_all (n : Nat) : passing (fun _ => true) n 0 = List.range n := by
  unfold passing
  rw [List.drop_zero, List.filter_eq_self.mpr]
  intro _ _; rfl
section
variable {X : Cx} {g : Gx} {W : WX} {pins : List (Addr × Obj)} {σ : L2.St} {H : Hp} {s : Shared}
/-- a list's, a tuple's iterator is made: o; behind it all that walks it -/
theorem seq_iter {I1 : Hp} {d : D} {l : List D} {v : V} {xv : Value} {env1 : DL.Env} {Q : Value → Shared → Prop} {E : Value → Shared → Prop} (I : Inv X pins σ H s) (ok : EnvOk X.K g I1 H σ env1) (r : Rep X.K g I1 d v) (rx : RelV v xv) (hd : seqD d = some l)
    (h : ∀ o : Obj, Obj.isFreed o = false → (∀ h3 : Heap, GenH X g pins σ H s o h3 → ∃ (p : Addr) (us : List V) (its : List Value) (St : Nat → Heap → Prop), Reps X.K g I1 l us ∧ Vals us its ∧ p < h3.objs.size ∧
      (∀ A' : Around, A'.handled = none → Walks X.prog X.w A' s.heap.objs.size [s.heap.objs.size, p] [s.heap.objs.size] its.toArray.size (fun i v => its.toArray[i]? = some v) St) ∧ St 0 h3) → Q (.ref s.heap.objs.size) { s with heap := s.heap.push o }) :
    wpAny (model X.prog X.w) X.A (pyIter xv) Q E s := by
  cases d <;> first | (cases hd; done) | skip
  · cases hd
    obtain ⟨p, us, rfl, e2, e3⟩ := rep_tup.mp r
    obtain rfl : xv = Value.ref p := rx
    have q := sub_t ok.sub e2
    obtain ⟨its, rv, hl, _⟩ := I.tuple q
    refine wpAny_pyIter_tuple hl (h _ rfl fun h3 G => ?_)
    obtain ⟨H2, e, t, J⟩ := G.back { s with heap := h3 } rfl I.bare fun b u _ z => z
    obtain ⟨its2, rv2, hl2, _⟩ := J.tuple (sub_t (ok.extN e t).ok.sub e2)
    have hp : p < s.heap.objs.size := let ⟨o, z, _⟩ := hl; Heap.lt_size z
    exact ⟨p, us, its2, _, e3, rv2, Nat.lt_trans hp G.size, fun A' hA => Walks.tuple hA _ p (Nat.ne_of_lt hp) its2.toArray, ⟨_, by rw [G.iter]; exact Heap.get?_push_size _ rfl, rfl, rfl⟩, hl2⟩
  · cases hd
    obtain ⟨p, us, rfl, e2, e3⟩ := rep_lst.mp r
    obtain rfl : xv = Value.ref p := rx
    have q := ok.sub.get e2 rfl
    obtain ⟨its, rv, hl, _⟩ := I.list (SqL.of q)
    refine wpAny_pyIter_list hl.isList (h _ rfl fun h3 G => ?_)
    obtain ⟨H2, e, t, J⟩ := G.back { s with heap := h3 } rfl I.bare fun b u _ z => z
    obtain ⟨its2, rv2, hl2, _⟩ := J.list (SqL.of ((ok.extN e t).ok.sub.get e2 rfl))
    have hp : p < s.heap.objs.size := hl.lt
    exact ⟨p, us, its2, _, e3, rv2, Nat.lt_trans hp G.size, fun A' hA => Walks.list hA _ p (Nat.ne_of_lt hp) its2.toArray, ⟨_, by rw [G.iter]; exact Heap.get?_push_size _ rfl, rfl, rfl⟩, hl2.isList⟩
theorem vals_get : ∀ {us : List V} {its : List Value} {i : Nat} {y : Value}, Vals us its → its[i]? = some y → ∃ u, us[i]? = some u ∧ RelV u y
  | _, _, _, _, .nil, e => by simp at e
  | u :: us, w :: its, 0, y, .cons r t, e => by
    simp at e; subst e
    exact ⟨u, rfl, r⟩
  | u :: us, w :: its, i + 1, y, .cons r t, e => by
    obtain ⟨z, h1, h2⟩ := vals_get (i := i) t (by simpa using e)
    exact ⟨z, by simpa using h1, h2⟩
theorem gen_make1 {elt iter : Expr} {x : Str} {px gpos : Pos} {scope : Scope} {q : List D → Option D} {k : Nat} {mi : M D} {Q' : Value → Shared → Prop} {R : List Bool → Hp → DL.Env → Hp → Prop} (hr : Room k X.A) (D : GenD X g) (S : GxR.GenS X.env scope x) (hi : DE X g W iter mi) (hq : QQ X.prog X.w X.K g scope [x] elt q)
    (hs : ∀ v, genFold iter X.env v = pure v) (I : Inv X pins σ H s)
    (h : tr X.K g W (RD X.K g) mi σ H fun v H1 => ∃ I1 env1 d l rs bs, EnvOk X.K g I1 H1 σ env1 ∧ Rep X.K g I1 d v ∧ seqD d = some l ∧ rows1 l = some rs ∧ boolsQ q rs = some bs ∧ R bs I1 env1 H1)
    (hQ : ∀ bs I1 env1 H1 ga s5, EnvOk X.K g I1 H1 σ env1 → R bs I1 env1 H1 → GReady X g pins σ H1 bs ga s5 → Q' (.ref ga) s5) :
    wpAny (model X.prog X.w) X.A (eval (.GeneratorExp elt [⟨.Name x px, iter, [], 0⟩] scope gpos) X.env) Q' X.xe s := by
  refine wpAny_GeneratorExp_walksQD hr.hd S.co (closure_ok S.free) S.cell S.dot S.loc S.kind hr.depth ?_ hs
  refine thn (hi.run pins s σ H _ I h) fun xv s1 ⟨v, H1, J, r1, I1, env1, d, l, rs, bs, ok, rv, hd, hrw, hb, hR⟩ => ?_
  refine seq_iter J ok rv r1 hd fun o ho hsrc => ⟨J.nolimit.push o, ?_⟩
  cases hrw
  refine gen_code ho J D ok.tabs fun code h3 tk G => ?_
  obtain ⟨p, us, its, St, hus, hvs, hp, hW, hst⟩ := hsrc h3 G
  have hlen : its.toArray.size = bs.length := by
    rw [List.size_toArray, ← hvs.length, ← hus.length, ← (boolsQ_at hb).1, List.length_map]
  rw [hlen] at hW
  refine ⟨s1.heap.objs.size, [s1.heap.objs.size, p], [s1.heap.objs.size], bs.length, _, St, (fun _ => true), (fun i y => ∃ b, bs[i]? = some b ∧ y = .bool b), rfl, hW, hst, ?_, G.lim, ?_, ?_, ?_⟩
  · intro b hb'
    simp only [List.mem_cons, List.not_mem_nil, or_false] at hb'
    rcases hb' with rfl | rfl
    · exact G.size
    · exact hp
  · intro z
    simp only [List.mem_cons, List.not_mem_nil, or_false] at z
    exact Nat.ne_of_lt G.stat z
  · intro href hhref
    refine ⟨fun A' E' i v s₂ m₂ hA _ _ hPv hn hm hk => wpAny_pure ⟨rfl, Keeps.rfl' _⟩, fun A' E' i v s₂ m₂ hA hdp hun hPv hp hn hm hk => ?_⟩
    have e9 : its[i]? = some v := by rw [← List.getElem?_toArray]; exact hPv
    obtain ⟨u, hu, ru⟩ := vals_get hvs e9
    obtain ⟨di, hdi, rdi⟩ := hus.get' hu
    obtain ⟨b, hbi, hqb⟩ := (boolsQ_at hb).2 i [di] (by rw [List.getElem?_map, hdi]; rfl)
    obtain ⟨H2, e, t, J2⟩ := G.back { s1 with heap := s₂.heap } rfl J.bare fun b u hne z => hk b (List.mem_range.mpr (Heap.lt_size z)) (by simpa using hne) u (hhref b u z)
    refine wpAny_mono (hq H2 I1 [di] [u] (.bl b) _ A' E' s₂ (ok.extN e t).ok.sub (Reps.cons rdi Reps.nil) hqb ⟨rfl, S.kind, hA, by have := hr.un; have h9 : A'.units ≤ X.A.units + 8 := hun; omega, J2.kIn, J2.hok, m₂, hn, fun j z u' z1 z2 _ => ?_⟩) (fun y s3 hy => ?_) fun _ _ e => e
    · match j, z1, z2 with
      | 0, z1, z2 =>
        cases z1; cases z2
        exact ⟨v, ru, .inl ⟨S.loc, hm⟩⟩
      | j + 1, z1, _ => simp at z1
    · obtain ⟨⟨v', rv', rb⟩, kk⟩ := hy
      obtain rfl := rep_bl.mp rb
      exact ⟨⟨b, hbi, rv'⟩, kk⟩
  · intro ga h5 tk5 gs hgb hag hsz5 hk5 W5 hat
    rw [pass_all, List.length_range] at W5
    refine hQ bs I1 env1 H1 ga _ ok hR ⟨_, _, _, _, _, W5.in4_1, hat, truth_at rfl, fun s' hm => ?_⟩
    refine G.back s' hm.os (AllBare.movedS (J.bare.push hgb) hm) fun b u hne z => hm.heap b u (fun y => ?_) (hk5 b u z)
    rcases List.mem_cons.mp y with y | y
    · exact Nat.ne_of_lt (Heap.lt_size z) y
    · exact hne (by simpa using y)
end
end DL
set_option Elab.async false
set_option linter.all false
set_option maxRecDepth 100000
set_option maxHeartbeats 4000000
set_option autoImplicit false
namespace DL
open PySem PySem.Spec PyProof.Rows L2 LamX
/-! ### for a, b in a sequence of pairs -/
section
variable {prog : Program} {w : World} {A : Around} {E : Value → Shared → Prop} {s : Shared}
theorem owned_tupiter {elts : List Expr} {k : Nat} {pos : Pos} {it t T : Addr} {i : Nat} {Q : Unit → Shared → Prop} (hit : s.heap.IsTupleIter it t i) (hQ : Q () s) :
    wpAny (model prog w) A (letOwnedTupleGo (.Tuple elts k pos) (.ref it) (.ref T)) Q E s := by
  obtain ⟨ob, q1, q2, q3⟩ := hit
  unfold letOwnedTupleGo
  refine wpAny_bind (wpAny_load q1 ?_)
  rw [q2, q3]
  have no : ((["enumerate", "zip", "dict_itemiterator", "dict_reverseitemiterator", "odict_iterator", "itertools.zip_longest", "itertools.pairwise"] : List String).contains "tuple_iterator" && (#[.ref t, .int i 0] : Array Value)[0]? == some (rawInt T)) = false := by
    rw [show ((["enumerate", "zip", "dict_itemiterator", "dict_reverseitemiterator", "odict_iterator", "itertools.zip_longest", "itertools.pairwise"] : List String).contains "tuple_iterator") = false from by decide]
    rfl
  show wpAny (model prog w) A (ite (_ = true) _ _) Q E s
  rw [if_neg (by rw [no]; decide)]
  exact wpAny_pure hQ
end
theorem walksU_tup {prog : Program} {w : World} {A : Around} (hh : A.handled = none) (it t : Addr) (hne : t ≠ it) (its : Array Value) (Ts : Nat → Addr) (vals : Nat → Array Value)
    (hr : ∀ j, j < its.size → its[j]? = some (.ref (Ts j))) (hn : ∀ j, j < its.size → Ts j ≠ it) :
    WalksU prog w A it (it :: t :: (List.range its.size).map Ts) [it] its.size (fun j v => v = vals j)
      (fun j h => h.IsTupleIter it t j ∧ h.IsTuple t its ∧ ∀ m, m < its.size → h.IsTuple (Ts m) (vals m))
      (fun j T h => (j < its.size ∧ T = Ts j) ∧ h.IsTupleIter it t (j + 1) ∧ h.IsTuple t its ∧ ∀ m, m < its.size → h.IsTuple (Ts m) (vals m)) where
  sub := by
    intro b hb
    rw [List.mem_singleton.mp hb]
    exact List.mem_cons_self ..
  frame := by
    intro j h h' st hk
    obtain ⟨s1, s2, s3⟩ := st
    refine ⟨s1.at fun o e => hk it (List.mem_cons_self ..) o e, s2.at fun o e => hk t (List.mem_cons_of_mem _ (List.mem_cons_self ..)) o e, fun m hm => (s3 m hm).at fun o e => ?_⟩
    exact hk (Ts m) (List.mem_cons_of_mem _ (List.mem_cons_of_mem _ (List.mem_map_of_mem (List.mem_range.mpr hm)))) o e
  item := by
    intro j s Q E hj st hQ
    obtain ⟨s1, s2, s3⟩ := st
    refine wpAny_pyNext_tuple_item s1 s2 (x := .ref (Ts j)) (hr j hj) fun h' q1 q2 => ?_
    have tt : ∀ m, m < its.size → h'.IsTuple (Ts m) (vals m) := fun m hm => (s3 m hm).extBut q2.extBut (hn m hm)
    refine hQ (Ts j) (vals j) h' s.toks rfl (tt j hj) ⟨⟨hj, rfl⟩, q1, s2.extBut q2.extBut hne, tt⟩ fun b o hb e => q2.extBut b o (fun z => hb ?_) e
    rw [z]; exact List.mem_singleton.mpr rfl
  go := by
    intro elts k pos j T s Q E hm hQ
    exact owned_tupiter hm.2.1 (hQ s.heap hm.2 fun _ _ _ e => e)
  apart := by
    intro j T h hm hmem
    exact hn j hm.1.1 (hm.1.2.symm.trans (List.mem_singleton.mp hmem))
  done := by
    intro s Q E st hQ
    refine wpAny_pyNext_tuple_end hh st.1 st.2.1 (by simp) fun h' he' => hQ h' s.toks fun b o hb e => he' b o (fun z => hb ?_) e
    rw [z]; exact List.mem_singleton.mpr rfl
  self := by
    intro j s Q E st hQ
    exact wpAny_pyIter_tupleiter st.1 hQ
theorem rows2_at : ∀ {l : List D} {rs : List (List D)}, rows2 l = some rs → rs.length = l.length ∧ ∀ (i : Nat) (d : D), l[i]? = some d → ∃ x y, d = .tup [x, y] ∧ rs[i]? = some [x, y]
  | [], rs, h => by cases h; exact ⟨rfl, fun i d e => by simp at e⟩
  | d :: ds, rs, h => by
    unfold rows2 at h
    split at h
    · rename_i he; cases he
    · rename_i x y ds' he
      obtain ⟨rfl, rfl⟩ := List.cons.inj he
      obtain ⟨rs', h1, rfl⟩ := Option.map_eq_some_iff.mp h
      obtain ⟨e1, e2⟩ := rows2_at h1
      refine ⟨by simp [e1], fun i d e => ?_⟩
      cases i with
      | zero => cases e; exact ⟨x, y, rfl, rfl⟩
      | succ i => exact e2 i d e
    · cases h
section
variable {X : Cx} {g : Gx} {W : WX} {pins : List (Addr × Obj)} {σ : L2.St} {H : Hp} {s : Shared}
/-- the pairs, where they stand in the state at hand -/
theorem pairs_at {I1 : Hp} {l : List D} {rs : List (List D)} {us : List V} {its : List Value} (hus : Reps X.K g I1 l us) (hvs : Vals us its) (hrw : rows2 l = some rs) :
    ∀ (i : Nat), i < its.length → ∃ (T : Addr) (x y : D) (u1 u2 : V), its[i]? = some (.ref T) ∧ rs[i]? = some [x, y] ∧ Rep X.K g I1 x u1 ∧ Rep X.K g I1 y u2 ∧ SqT X.K I1 T [u1, u2] := by
  intro i hi
  obtain ⟨u, hu, ru⟩ := vals_get hvs (List.getElem?_eq_getElem hi)
  obtain ⟨d, hd, rd⟩ := hus.get' hu
  obtain ⟨x, y, rfl, hr⟩ := (rows2_at hrw).2 i d hd
  obtain ⟨T, ws, rfl, e2, e3⟩ := rep_tup.mp rd
  obtain ⟨w1, ws', rfl, q1, q2⟩ := reps_cons.mp e3
  obtain ⟨w2, ws'', rfl, q3, q4⟩ := reps_cons.mp q2
  obtain rfl := reps_nil.mp q4
  have : its[i] = Value.ref T := ru
  exact ⟨T, x, y, w1, w2, by rw [List.getElem?_eq_getElem hi, this], hr, q1, q3, e2⟩
/-- what a row's two values are -/
def RowIs (K : PySem.W.Frag) (g : Gx) (I1 : Hp) (rs : List (List D)) (i : Nat) (vals : Array Value) : Prop := ∃ va vb u1 u2 x y, vals = #[va, vb] ∧ rs[i]? = some [x, y] ∧ Rep K g I1 x u1 ∧ RelV u1 va ∧ Rep K g I1 y u2 ∧ RelV u2 vb
theorem seq_iter2 {I1 : Hp} {d : D} {l : List D} {rs : List (List D)} {v : V} {xv : Value} {env1 : DL.Env} {Q : Value → Shared → Prop} {E : Value → Shared → Prop} (I : Inv X pins σ H s) (ok : EnvOk X.K g I1 H σ env1) (r : Rep X.K g I1 d v) (rx : RelV v xv) (hd : seqD d = some l) (hrw : rows2 l = some rs)
    (h : ∀ o : Obj, Obj.isFreed o = false → (∀ h3 : Heap, GenH X g pins σ H s o h3 → ∃ (fp : List Addr) (Pt : Nat → Array Value → Prop) (St : Nat → Heap → Prop) (Mid : Nat → Addr → Heap → Prop), (∀ b ∈ fp, b < h3.objs.size) ∧ (∀ i vals, Pt i vals → RowIs X.K g I1 rs i vals) ∧
      (∀ A' : Around, A'.handled = none → WalksU X.prog X.w A' s.heap.objs.size fp [s.heap.objs.size] rs.length Pt St Mid) ∧ St 0 h3) → Q (.ref s.heap.objs.size) { s with heap := s.heap.push o }) :
    wpAny (model X.prog X.w) X.A (pyIter xv) Q E s := by
  have key : ∀ {us : List V} {its : List Value} (h3 : Heap) (o : Obj), GenH X g pins σ H s o h3 → Reps X.K g I1 l us → Vals us its → ∃ (Ts : Nat → Addr) (vals : Nat → Array Value), ∀ i, i < its.length → its[i]? = some (.ref (Ts i)) ∧ Ts i < s.heap.objs.size ∧ h3.IsTuple (Ts i) (vals i) ∧ RowIs X.K g I1 rs i (vals i) := by
    intro us its h3 o G hus hvs
    have hx : ∀ i : Nat, ∃ tv : Addr × Array Value, i < its.length → its[i]? = some (.ref tv.1) ∧ tv.1 < s.heap.objs.size ∧ h3.IsTuple tv.1 tv.2 ∧ RowIs X.K g I1 rs i tv.2 := by
      intro i
      by_cases hi : i < its.length
      · obtain ⟨T, x, y, u1, u2, q1, q2, q3, q4, q5⟩ := pairs_at hus hvs hrw i hi
        obtain ⟨its1, _, hl1, _⟩ := I.tuple (sub_t ok.sub q5)
        obtain ⟨H2, e, t, J⟩ := G.back { s with heap := h3 } rfl I.bare fun b u _ z => z
        obtain ⟨its2, rv2, hl2, _⟩ := J.tuple (sub_t (ok.extN e t).ok.sub q5)
        obtain ⟨va, vb, rfl, ra, rb⟩ := L2.vals2 rv2
        exact ⟨(T, #[va, vb]), fun _ => ⟨q1, let ⟨o, z, _⟩ := hl1; Heap.lt_size z, hl2, va, vb, u1, u2, x, y, rfl, q2, q3, ra, q4, rb⟩⟩
      · exact ⟨(0, #[]), fun z => absurd z hi⟩
    obtain ⟨f, hf⟩ := Classical.axiomOfChoice hx
    exact ⟨fun i => (f i).1, fun i => (f i).2, hf⟩
  have fpl : ∀ {h3 : Heap} {p : Addr} {n : Nat} {Ts : Nat → Addr}, s.heap.objs.size < h3.objs.size → p < s.heap.objs.size → (∀ i, i < n → Ts i < s.heap.objs.size) → ∀ b ∈ s.heap.objs.size :: p :: (List.range n).map Ts, b < h3.objs.size := by
    intro h3 p n Ts q1 q2 q3 b hb
    rcases List.mem_cons.mp hb with rfl | hb
    · exact q1
    rcases List.mem_cons.mp hb with rfl | hb
    · exact Nat.lt_trans q2 q1
    obtain ⟨i, hi, rfl⟩ := List.mem_map.mp hb
    exact Nat.lt_trans (q3 i (List.mem_range.mp hi)) q1
  cases d <;> first | (cases hd; done) | skip
  · cases hd
    obtain ⟨p, us, rfl, e2, e3⟩ := rep_tup.mp r
    obtain rfl : xv = Value.ref p := rx
    obtain ⟨its, rv, hl, _⟩ := I.tuple (sub_t ok.sub e2)
    refine wpAny_pyIter_tuple hl (h _ rfl fun h3 G => ?_)
    obtain ⟨H2, e, t, J⟩ := G.back { s with heap := h3 } rfl I.bare fun b u _ z => z
    obtain ⟨its2, rv2, hl2, _⟩ := J.tuple (sub_t (ok.extN e t).ok.sub e2)
    have hp : p < s.heap.objs.size := let ⟨o, z, _⟩ := hl; Heap.lt_size z
    obtain ⟨Ts, vals, hk⟩ := key h3 _ G e3 rv2
    have hlen : its2.toArray.size = rs.length := by rw [List.size_toArray, ← rv2.length, ← e3.length, (rows2_at hrw).1]
    have hlen' : its2.length = rs.length := by rw [← List.size_toArray]; exact hlen
    refine ⟨_, _, (fun j h => h.IsTupleIter s.heap.objs.size p j ∧ h.IsTuple p its2.toArray ∧ ∀ m, m < its2.toArray.size → h.IsTuple (Ts m) (vals m)), _, fpl G.size hp fun i hi => (hk i (by rw [hlen', ← hlen]; exact hi)).2.1, fun i vs z => ?_, fun A' hA => by rw [← hlen]; exact (walksU_tup hA _ p (Nat.ne_of_lt hp) its2.toArray Ts vals (fun j hj => by rw [List.getElem?_toArray]; exact (hk j (by simpa using hj)).1) fun j hj => Nat.ne_of_lt (hk j (by simpa using hj)).2.1).bound,
      ⟨_, by rw [G.iter]; exact Heap.get?_push_size _ rfl, rfl, rfl⟩, hl2, fun m hm => (hk m (by simpa using hm)).2.2.1⟩
    obtain ⟨z1, rfl⟩ := z
    exact (hk i (by simpa using z1)).2.2.2
  · cases hd
    obtain ⟨p, us, rfl, e2, e3⟩ := rep_lst.mp r
    obtain rfl : xv = Value.ref p := rx
    obtain ⟨its, rv, hl, _⟩ := I.list (SqL.of (ok.sub.get e2 rfl))
    refine wpAny_pyIter_list hl.isList (h _ rfl fun h3 G => ?_)
    obtain ⟨H2, e, t, J⟩ := G.back { s with heap := h3 } rfl I.bare fun b u _ z => z
    obtain ⟨its2, rv2, hl2, _⟩ := J.list (SqL.of ((ok.extN e t).ok.sub.get e2 rfl))
    have hp : p < s.heap.objs.size := hl.lt
    obtain ⟨Ts, vals, hk⟩ := key h3 _ G e3 rv2
    have hlen : its2.toArray.size = rs.length := by rw [List.size_toArray, ← rv2.length, ← e3.length, (rows2_at hrw).1]
    have hlen' : its2.length = rs.length := by rw [← List.size_toArray]; exact hlen
    refine ⟨_, _, (fun j h => h.IsListIter s.heap.objs.size p j ∧ h.IsList p its2.toArray ∧ ∀ m, m < its2.toArray.size → h.IsTuple (Ts m) (vals m)), _, fpl G.size hp fun i hi => (hk i (by rw [hlen', ← hlen]; exact hi)).2.1, fun i vs z => ?_, fun A' hA => by rw [← hlen]; exact (WalksU.listOfTuples hA _ p (Nat.ne_of_lt hp) its2.toArray Ts vals (fun j hj => by rw [List.getElem?_toArray]; exact (hk j (by simpa using hj)).1) fun j hj => Nat.ne_of_lt (hk j (by simpa using hj)).2.1).bound,
      ⟨_, by rw [G.iter]; exact Heap.get?_push_size _ rfl, rfl, rfl⟩, hl2.isList, fun m hm => (hk m (by simpa using hm)).2.2.1⟩
    obtain ⟨z1, rfl⟩ := z
    exact (hk i (by simpa using z1)).2.2.2
end
end DL
set_option Elab.async false
set_option linter.all false
set_option maxRecDepth 100000
set_option maxHeartbeats 4000000
set_option autoImplicit false
namespace DL
open PySem PySem.Spec PyProof.Rows L2 LamX
/-- the scope of a generator over pairs -/
structure GenS2 (env : PySem.Env) (scope : Scope) (x y : Str) : Prop where
  kind : scope.kind = .function
  co : scope.isCoroutine = false
  cell : ∀ z ∈ scope.names, z.2 ≠ .cell
  dot : scope.names.lookup (".0" : Str) = some NameKind.local
  locx : scope.names.lookup x = some .local
  locy : scope.names.lookup y = some .local
  ne : x ≠ y
  free : ∀ z ∈ scope.names, z.2 = .free → ∃ c, env.cells.lookup z.1 = some c
section
variable {X : Cx} {g : Gx} {W : WX} {pins : List (Addr × Obj)} {σ : L2.St} {H : Hp} {s : Shared}
theorem gen_make2 {elt iter : Expr} {x y : Str} {px py pt gpos : Pos} {kt : Nat} {scope : Scope} {q : List D → Option D} {k : Nat} {mi : M D} {Q' : Value → Shared → Prop} {R : List Bool → Hp → DL.Env → Hp → Prop} (hr : Room k X.A) (D : GenD X g) (S : GenS2 X.env scope x y) (hi : DE X g W iter mi) (hq : QQ X.prog X.w X.K g scope [x, y] elt q)
    (hs : ∀ v, genFold iter X.env v = pure v) (I : Inv X pins σ H s)
    (h : tr X.K g W (RD X.K g) mi σ H fun v H1 => ∃ I1 env1 d l rs bs, EnvOk X.K g I1 H1 σ env1 ∧ Rep X.K g I1 d v ∧ seqD d = some l ∧ rows2 l = some rs ∧ boolsQ q rs = some bs ∧ R bs I1 env1 H1)
    (hQ : ∀ bs I1 env1 H1 ga s5, EnvOk X.K g I1 H1 σ env1 → R bs I1 env1 H1 → GReady X g pins σ H1 bs ga s5 → Q' (.ref ga) s5) :
    wpAny (model X.prog X.w) X.A (eval (.GeneratorExp elt [⟨.Tuple [.Name x px, .Name y py] kt pt, iter, [], 0⟩] scope gpos) X.env) Q' X.xe s := by
  refine wpAny_GeneratorExp_walksQTD hr.hd S.co (closure_ok S.free) S.cell S.dot S.locx S.locy S.ne S.kind hr.depth ?_ hs
  refine thn (hi.run pins s σ H _ I h) fun xv s1 ⟨v, H1, J, r1, I1, env1, d, l, rs, bs, ok, rv, hd, hrw, hb, hR⟩ => ?_
  refine seq_iter2 J ok rv r1 hd hrw fun o ho hsrc => ⟨J.nolimit.push o, ?_⟩
  refine gen_code ho J D ok.tabs fun code h3 tk G => ?_
  obtain ⟨fp, Pt, St, Mid, hfp, hrow, hW, hst⟩ := hsrc h3 G
  rw [(boolsQ_at hb).1] at hW
  refine ⟨s1.heap.objs.size, fp, [s1.heap.objs.size], bs.length, Pt, St, Mid, (fun _ => true), (fun i y => ∃ b, bs[i]? = some b ∧ y = .bool b), rfl, hW, fun i vals z => ?_, hst, hfp, G.lim, ?_, ?_, ?_⟩
  · obtain ⟨va, vb, _, _, _, _, e, _⟩ := hrow i vals z
    exact ⟨va, vb, e⟩
  · intro z
    exact Nat.ne_of_lt G.stat (List.mem_singleton.mp z)
  · intro href hhref
    refine ⟨fun A' E' i va vb s₂ m₂ hA _ _ hPv hn hm hm' hk => wpAny_pure ⟨rfl, Keeps.rfl' _⟩, fun A' E' i va vb s₂ m₂ hA hdp hun hPv hp hn hm hm' hk => ?_⟩
    obtain ⟨va', vb', u1, u2, dx, dy, ev, hri, r1, rv1, r2, rv2⟩ := hrow i _ hPv
    have ev2 : [va, vb] = [va', vb'] := congrArg Array.toList ev
    simp only [List.cons.injEq, and_true] at ev2
    obtain ⟨rfl, rfl⟩ := ev2
    obtain ⟨b, hbi, hqb⟩ := (boolsQ_at hb).2 i [dx, dy] hri
    obtain ⟨H2, e, t, J2⟩ := G.back { s1 with heap := s₂.heap } rfl J.bare fun b u hne z => hk b (List.mem_range.mpr (Heap.lt_size z)) (fun y => hne (List.mem_singleton.mp y)) u (hhref b u z)
    refine wpAny_mono (hq H2 I1 [dx, dy] [u1, u2] (.bl b) _ A' E' s₂ (ok.extN e t).ok.sub (Reps.cons r1 (Reps.cons r2 Reps.nil)) hqb ⟨rfl, S.kind, hA, by have := hr.un; have h9 : A'.units ≤ X.A.units + 8 := hun; omega, J2.kIn, J2.hok, m₂, hn, fun j z u' z1 z2 _ => ?_⟩) (fun y s3 hy => ?_) fun _ _ e => e
    · match j, z1, z2 with
      | 0, z1, z2 =>
        cases z1; cases z2
        exact ⟨va, rv1, .inl ⟨S.locx, hm⟩⟩
      | 1, z1, z2 =>
        cases z1; cases z2
        exact ⟨vb, rv2, .inl ⟨S.locy, hm'⟩⟩
      | j + 2, z1, _ => simp at z1
    · obtain ⟨⟨v', rv', rb⟩, kk⟩ := hy
      obtain rfl := rep_bl.mp rb
      exact ⟨⟨b, hbi, rv'⟩, kk⟩
  · intro ga h5 tk5 gs hgb hag hsz5 hk5 W5 hat
    rw [pass_all, List.length_range] at W5
    refine hQ bs I1 env1 H1 ga _ ok hR ⟨_, _, _, _, _, W5.in4_1, hat, truth_at rfl, fun s' hm => ?_⟩
    refine G.back s' hm.os (AllBare.movedS (J.bare.push hgb) hm) fun b u hne z => hm.heap b u (fun y => ?_) (hk5 b u z)
    rcases List.mem_cons.mp y with y | y
    · exact Nat.ne_of_lt (Heap.lt_size z) y
    · exact hne (List.mem_singleton.mp y)
theorem any_bs (bs : List Bool) : (List.range bs.length).any (fun j => bs.getD j false) = bs.any id := by
  rw [Bool.eq_iff_iff, List.any_eq_true, List.any_eq_true]
  constructor
  · rintro ⟨j, hj, h⟩
    have hj' := List.mem_range.mp hj
    rw [List.getD_eq_getElem?_getD, List.getElem?_eq_getElem hj'] at h
    exact ⟨_, List.getElem_mem hj', h⟩
  · rintro ⟨b, hb, h⟩
    obtain ⟨j, hj, e⟩ := List.getElem_of_mem hb
    refine ⟨j, List.mem_range.mpr hj, ?_⟩
    rw [List.getD_eq_getElem?_getD, List.getElem?_eq_getElem hj, e]
    exact h
theorem all_bs (bs : List Bool) : (List.range bs.length).all (fun j => bs.getD j false) = bs.all id := by
  rw [Bool.eq_iff_iff, List.all_eq_true, List.all_eq_true]
  constructor
  · intro h b hb
    obtain ⟨j, hj, e⟩ := List.getElem_of_mem hb
    have := h j (List.mem_range.mpr hj)
    rw [List.getD_eq_getElem?_getD, List.getElem?_eq_getElem hj, e] at this
    exact this
  · intro h j hj
    have hj' := List.mem_range.mp hj
    rw [List.getD_eq_getElem?_getD, List.getElem?_eq_getElem hj']
    exact h _ (List.getElem_mem hj')
/-- any, all -/
structure FinG (P : Program) (w : World) (x : Str) (fin : List Bool → Bool) : Prop where
  ex : ∃ id : String, bootBuiltins x = some (.builtin id) ∧ ∀ (X : Cx) (g : Gx) (pins : List (Addr × Obj)) (σ : L2.St) (H1 : Hp) (bs : List Bool) (ga : Addr) (s5 : Shared) (Q : VK), X.prog = P → X.w = w → GReady X g pins σ H1 bs ga s5 → (∀ H2, ExtN H1 H2 → Tabs g.T H2 → Q (.bl (fin bs)) H2) →
    wpAny (model P w) X.A (call (.builtin id) [.ref ga]) (EP X pins σ Q) X.xe s5
theorem fin_any {P : Program} {w : World} : FinG P w "any" (fun bs => bs.any id) := ⟨"any", boot_any, fun X g pins σ H1 bs ga s5 Q e1 e2 R q => by
  subst e1; subst e2
  obtain ⟨fp, wr, G, F, St, Wk, hst, htr, hI⟩ := R.ex
  refine call_any_walkS (Wk.self 0 _ _ _ hst ⟨ga, fp, wr, G, _, F, St, _, rfl, Wk, hst, htr, fun s' hmv => ?_⟩)
  obtain ⟨H2, e, t, J⟩ := hI s' hmv
  refine ⟨.bl _, H2, J, rfl, ?_⟩
  rw [any_bs]
  exact q H2 e t⟩
theorem fin_all {P : Program} {w : World} : FinG P w "all" (fun bs => bs.all id) := ⟨"all", boot_all, fun X g pins σ H1 bs ga s5 Q e1 e2 R q => by
  subst e1; subst e2
  obtain ⟨fp, wr, G, F, St, Wk, hst, htr, hI⟩ := R.ex
  refine call_all_walkS (Wk.self 0 _ _ _ hst ⟨ga, fp, wr, G, _, F, St, _, rfl, Wk, hst, htr, fun s' hmv => ?_⟩)
  obtain ⟨H2, e, t, J⟩ := hI s' hmv
  refine ⟨.bl _, H2, J, rfl, ?_⟩
  rw [all_bs]
  exact q H2 e t⟩
theorem gen_call {f : Str} {fin : List Bool → Bool} {ge : Expr} {rows : List D → Option (List (List D))} {q : List D → Option D} {mi : M D} {p pos : Pos} (hg : Gl X f) (hm : X.mg f = none) (hf : FinG X.prog X.w f fin) (hn : f ≠ "__name__") (hdb : (f == ("__debug__" : Str)) = false)
    (he : starEach [ge] X.env = (false, eval ge X.env) :: starEach [] X.env)
    (mk : ∀ (pins : List (Addr × Obj)) (σ : L2.St) (H : Hp) (s : Shared) (Q' : Value → Shared → Prop) (R : List Bool → Hp → DL.Env → Hp → Prop), Inv X pins σ H s →
      tr X.K g W (RD X.K g) mi σ H (fun v H1 => ∃ I1 env1 d l rs bs, EnvOk X.K g I1 H1 σ env1 ∧ Rep X.K g I1 d v ∧ seqD d = some l ∧ rows l = some rs ∧ boolsQ q rs = some bs ∧ R bs I1 env1 H1) →
      (∀ bs I1 env1 H1 ga s5, EnvOk X.K g I1 H1 σ env1 → R bs I1 env1 H1 → GReady X g pins σ H1 bs ga s5 → Q' (.ref ga) s5) → wpAny (model X.prog X.w) X.A (eval ge X.env) Q' X.xe s) :
    DE X g W (.Call (.Name f p) [ge] [] pos) (o1 (dGen fin rows q) mi) := by
  obtain ⟨id, hb, hfin⟩ := hf.ex
  refine ⟨fun pins s σ H Q I ⟨I0, env, ok, h⟩ => ?_⟩
  refine wpAny_Call_Name_kw (ld_blt I hg hm hb ?_ hn hdb)
  refine PyProof.Rows.callWith_builtin1 ?_ he (by rfl)
  rw [he]
  show wpAny _ _ (spliced ((false, eval ge X.env) :: backTo pos (starEach [] X.env))) _ _ s
  refine Calls.spliced_cons (mk pins σ H s _ (fun bs I1 env1 H1 => Out X.K g W (RD X.K g) I1 H1 σ env1 (ret (.bl (fin bs)) env1) Q) I ?_ fun bs I1 env1 H1 ga s5 ok1 hR hG => ?_)
  · exact tr_bnd (Rr := RD X.K g) (Rr' := RD X.K g) ok h fun v d I1 H1 env1 st r h1 => by
      obtain ⟨z, hz, q1⟩ := out_lift h1
      obtain ⟨l, z1, hz⟩ := Option.bind_eq_some_iff.mp hz
      obtain ⟨rs, z2, hz⟩ := Option.bind_eq_some_iff.mp hz
      obtain ⟨bs, z3, rfl⟩ := Option.map_eq_some_iff.mp hz
      exact ⟨I1, env1, d, l, rs, bs, st.ok, r, z1, z2, z3, q1⟩
  · refine Calls.spliced_nil ?_
    refine hfin X g pins σ H1 bs ga s5 Q rfl rfl hG fun H2 e t => ?_
    exact hR _ _ _ (ok1.extN e t) (rep_bl.mpr rfl)
end
section
variable {X : Cx} {g : Gx} {W : WX} {p pos px py pt gpos : Pos} {kt k : Nat} {elt iter : Expr} {f x y : Str} {scope : Scope} {q : List D → Option D} {mi : M D} {fin : List Bool → Bool}
theorem d_gen1 (hf : FinG X.prog X.w f fin) (hg : Gl X f) (hm : X.mg f = none) (hr : Room k X.A) (D : GenD X g) (S : GxR.GenS X.env scope x) (hi : DE X g W iter mi) (hq : QQ X.prog X.w X.K g scope [x] elt q) (hs : ∀ v, genFold iter X.env v = pure v := by intro _; rfl)
    (he : starEach [.GeneratorExp elt [⟨.Name x px, iter, [], 0⟩] scope gpos] X.env = (false, eval (.GeneratorExp elt [⟨.Name x px, iter, [], 0⟩] scope gpos) X.env) :: starEach [] X.env := by rfl) (hn : f ≠ "__name__" := by decide) (hdb : (f == ("__debug__" : Str)) = false := by decide) :
    DE X g W (.Call (.Name f p) [.GeneratorExp elt [⟨.Name x px, iter, [], 0⟩] scope gpos] [] pos) (o1 (dGen fin rows1 q) mi) :=
  gen_call hg hm hf hn hdb he fun pins σ H s Q' R I h hQ => gen_make1 hr D S hi hq hs I h hQ
theorem d_gen2 (hf : FinG X.prog X.w f fin) (hg : Gl X f) (hm : X.mg f = none) (hr : Room k X.A) (D : GenD X g) (S : GenS2 X.env scope x y) (hi : DE X g W iter mi) (hq : QQ X.prog X.w X.K g scope [x, y] elt q) (hs : ∀ v, genFold iter X.env v = pure v := by intro _; rfl)
    (he : starEach [.GeneratorExp elt [⟨.Tuple [.Name x px, .Name y py] kt pt, iter, [], 0⟩] scope gpos] X.env = (false, eval (.GeneratorExp elt [⟨.Tuple [.Name x px, .Name y py] kt pt, iter, [], 0⟩] scope gpos) X.env) :: starEach [] X.env := by rfl) (hn : f ≠ "__name__" := by decide) (hdb : (f == ("__debug__" : Str)) = false := by decide) :
    DE X g W (.Call (.Name f p) [.GeneratorExp elt [⟨.Tuple [.Name x px, .Name y py] kt pt, iter, [], 0⟩] scope gpos] [] pos) (o1 (dGen fin rows2 q) mi) :=
  gen_call hg hm hf hn hdb he fun pins σ H s Q' R I h hQ => gen_make2 hr D S hi hq hs I h hQ
end
end DL
set_option Elab.async false
set_option linter.all false
set_option maxRecDepth 100000
set_option maxHeartbeats 4000000
set_option autoImplicit false
namespace DL
open PySem PySem.Spec PyProof.Rows L2 LamX
/-! ### name.insert(place, e) on an own list -/
def insF (i : Nat) (ds : List D) (env : DL.Env) : R Fl := match ds, env[i]? with
  | [.int j, d], some (.ol l) => if l.length < 16777216 ∧ 0 ≤ j ∧ j < 2 ^ 63 then .ok .nx (env.set i (.ol (l.take j.toNat ++ [d] ++ l.drop j.toNat))) else .bad
  | _, _ => .bad
def insM (i : Nat) (m : M (List D)) : M Fl := fun env => match env[i]? with
  | some (.ol _) => bnd m (insF i) env
  | _ => .bad
theorem insF_of {K : PySem.W.Frag} {g : Gx} {W : WX} {I H : Hp} {σ : L2.St} {env : DL.Env} {i : Nat} {ds : List D} {Dn : Ends} (h : OutS K g W I H σ env (insF i ds env) Dn) : ∃ j d l, ds = [.int j, d] ∧ env[i]? = some (.ol l) ∧ (l.length < 16777216 ∧ 0 ≤ j ∧ j < 2 ^ 63) ∧ OutS K g W I H σ env (.ok .nx (env.set i (.ol (l.take j.toNat ++ [d] ++ l.drop j.toNat)))) Dn := by
  unfold insF at h
  split at h
  · rename_i j d l e
    split at h
    · rename_i hc
      exact ⟨j, d, l, rfl, e, hc, h⟩
    · exact h.elim
  · exact h.elim
section
variable {X : Cx} {g : Gx} {W : WX} {pos apos : Pos} {a b c e e2 : Expr} {es : List Expr} {ma mb mc : M D} {mas m : M (List D)}
theorem s_ins {i : Nat} {x : Str} {p : Pos} (hN : X.N[i]? = some x) (he : DA X g W [e, e2] mas) (hv : Vis X.env.scope x := by first | exact Or.inl rfl | exact Or.inr (Or.inl rfl) | exact Or.inr (Or.inr rfl)) (hd : (x == ("__debug__" : Str)) = false := by decide) (hcd : (x == ("__classdict__" : Str)) = false := by decide)
    (hb : attributeBase (.Name x p) "insert" X.env (eval (.Name x p) X.env) = eval (.Name x p) X.env := by rfl) (hl : (apos.endLine == pos.line) = true := by rfl) (hs : starEach [e, e2] X.env = (false, eval e X.env) :: starEach [e2] X.env := by rfl)
    (hfew : ((backTo pos (starEach [e, e2] X.env)).all (fun x => !x.1) && (backToKw pos (keywordEach [] X.env)).all (fun x => x.1.isSome) && decide ([e, e2].length + ([] : List Keyword).length + (if ([] : List Keyword).isEmpty then 0 else 1) < 30)) = true := by rfl)
    (hpl : (backTo pos (starEach [e2] X.env)).any (·.1) = false := by rfl)
    {pos2 : Pos} (hsw : swapsWith (.Call (.Attribute (.Name x p) "insert" apos) [e, e2] [] pos) none pos2.line X.env = pure false := by rfl) : DS X g W (.Expr (.Call (.Attribute (.Name x p) "insert" apos) [e, e2] [] pos) pos2) (insM i mas) :=
  ps_imp (ps_expr (pe_bm PySem.F.plainAttrs_list PySem.F.slot_list_insert PySem.F.type_list_insert mt_insert (pv i hN hv hd hcd) he hb hfew hl hs hpl) hsw) fun Dn σ H ⟨I, env, ok, h⟩ => by
    unfold insM at h
    cases e0 : env[i]? with
    | none => rw [e0] at h; exact h.elim
    | some s =>
      rw [e0] at h
      cases s with
      | ol l0 =>
        obtain ⟨x0, hx0, p0, vs, rfl, q1, q2, q3⟩ := ok.lk e0
        refine ⟨.ref p0, hx0, .inl ⟨rfl, vs, SqL.of q1⟩, ?_⟩
        refine trS_bnd (Rr := RL X.K g) ok h fun v ds I1 H1 env1 st r h1 => ?_
        obtain ⟨j, d, l, rfl, e1, hl2, h2⟩ := insF_of h1
        obtain ⟨w1, ws, rfl, r1, rt⟩ := reps_cons.mp r
        obtain ⟨w2, ws2, rfl, r2, rt2⟩ := reps_cons.mp rt
        obtain rfl := reps_nil.mp rt2
        obtain rfl := rep_int.mp r1
        obtain ⟨x1, hx1, p1, us, rfl, z1, z2, z3⟩ := st.ok.lk e1
        rw [hx0] at hx1; cases hx1
        refine ⟨_, us, j, w2, rfl, rfl, z1, by rw [← z3.length, line_eq]; exact hl2.1, hl2.2.1, hl2.2.2, ?_⟩
        exact h2 σ I1 _ (st.ok.mutate (s' := .ol (l.take j.toNat ++ [d] ++ l.drop j.toNat)) e1 rfl rfl rfl hx0 (fun _ z => nomatch z) ⟨_, _, rfl, upd_same, z2, ((z3.take _).append (Reps.cons r2 Reps.nil)).append (z3.drop _)⟩)
      | _ => exact h.elim
end
end DL
namespace DL
open PySem PySem.Spec PyProof.Rows L2 LamX
def genSB (scope : Scope) (xs : List Str) : Bool := decide (scope.kind = .function) && (!scope.isCoroutine && ((scope.names.all fun y => decide (y.2 ≠ .cell) && decide (y.2 ≠ .free)) && (decide (scope.names.lookup (".0" : Str) = some NameKind.local) && xs.all fun x => decide (scope.names.lookup x = some .local))))
theorem genSB_of {scope : Scope} {xs : List Str} (h : genSB scope xs = true) : scope.kind = .function ∧ scope.isCoroutine = false ∧ (∀ y ∈ scope.names, y.2 ≠ .cell ∧ y.2 ≠ .free) ∧ scope.names.lookup (".0" : Str) = some NameKind.local ∧ ∀ x ∈ xs, scope.names.lookup x = some .local := by
  unfold genSB at h
  simp only [Bool.and_eq_true, decide_eq_true_eq, Bool.not_eq_true', List.all_eq_true] at h
  exact ⟨h.1, h.2.1, h.2.2.1, h.2.2.2.1, h.2.2.2.2⟩
theorem genS_by {env : PySem.Env} {scope : Scope} {x : Str} (h : genSB scope [x] = true) : GxR.GenS env scope x := by
  obtain ⟨h1, h2, h3, h4, h5⟩ := genSB_of h
  exact ⟨h1, h2, fun y hy => (h3 y hy).1, h4, h5 x (by simp), fun y hy e => absurd e (h3 y hy).2⟩
theorem genS2_by {env : PySem.Env} {scope : Scope} {x y : Str} (h : genSB scope [x, y] = true) (hn : x ≠ y := by decide) : GenS2 env scope x y := by
  obtain ⟨h1, h2, h3, h4, h5⟩ := genSB_of h
  exact ⟨h1, h2, fun y hy => (h3 y hy).1, h4, h5 x (by simp), h5 y (by simp), hn, fun y hy e => absurd e (h3 y hy).2⟩
end DL
set_option Elab.async false
set_option linter.all false
set_option maxRecDepth 100000
set_option maxHeartbeats 4000000
set_option autoImplicit false
namespace DL
open PySem PySem.Spec PyProof.Rows L2 LamX
/-! ### name op= e -/
def rIAdd : R2 := fun x y H Q => rI0 (fun i j => .int (i + j)) x y H Q ∨ ∃ i j, x = .str i ∧ y = .str j ∧ i.length + j.length ≤ sizeLine ∧ Q (.str (i ++ j)) H
theorem iop_addA {X : Cx} : OpR X (inplaceOp .Add) rIAdd := OpR.or iop_add iop_add_str
def dAddI : D → D → Option D
  | .int i, .int j => some (.int (i + j))
  | .str a, .str b => if a.length + b.length ≤ 16777216 then some (.str (a ++ b)) else none
  | _, _ => none
section
variable {K : PySem.W.Frag} {g : Gx}
theorem lk_iadd : Lk2F K g rIAdd dAddI := by
  intro I H x y z v w Q le rx ry hz q
  cases x <;> cases y <;> first | (cases hz; done) | skip
  · rename_i i j
    obtain rfl := rep_int.mp rx
    obtain rfl := rep_int.mp ry
    cases hz
    exact .inl ⟨i, j, rfl, rfl, q _ (rep_int.mpr rfl)⟩
  · rename_i a b
    obtain rfl := rep_str.mp rx
    obtain rfl := rep_str.mp ry
    have hz' : (if a.length + b.length ≤ 16777216 then some (D.str (a ++ b)) else none) = some z := hz
    split at hz'
    · rename_i hl
      cases hz'
      exact .inr ⟨a, b, rfl, rfl, by rw [line_eq]; exact hl, q _ (rep_str.mpr rfl)⟩
    · cases hz'
instance (i j : Int) : Decidable (CMul i j) := by unfold CMul; infer_instance
def dMulI : D → D → Option D := dII fun i j => if CMul i j then some (.int (i * j)) else none
theorem lk_imul : Lk2F K g (rI CMul fun i j => .int (i * j)) dMulI := lk_iiC (C := CMul) fun _ _ _ => rep_int.mpr rfl
end
end DL
set_option Elab.async false
set_option linter.all false
set_option maxRecDepth 100000
set_option maxHeartbeats 4000000
set_option autoImplicit false
namespace DL
open PySem PySem.Spec PyProof.Rows L2 LamX
open PySem.W (EachIs dataLt alike AllAlike Sortable SortsAt keyToks)
/-! ### sorted of plain data that are alike -/
def zipSort (xs : List V) (ds : List PyData) : List V := ((xs.zip ds).mergeSort fun p q => !dataLt q.2 p.2).map Prod.fst
def rSortP (K : PySem.W.Frag) : List V → Hp → VK → Prop := fun vs H Q => ∃ (a : Addr) (xs : List V) (ds : List PyData), vs = [V.ref a] ∧ SqL K H a xs ∧ DpAll K H xs ds ∧ AllAlike ds ∧ Sortable ds ∧ (∀ d ∈ ds, d.depth ≤ 64) ∧
  ∀ p, H p = none → Q (.ref p) (upd H p (.lst (zipSort xs ds)))
theorem dpAll_each {K : PySem.W.Frag} {H : Hp} : ∀ {xs : List V} {ds : List PyData}, DpAll K H xs ds → EachIs (fun x d => Dp K H x d) xs ds
  | _, _, .nil => .nil
  | _, _, .cons a t => .cons a (dpAll_each t)
theorem each_vals {xs : List V} {us : List Value} : Vals xs us → EachIs (fun u x => RelV x u) us xs
  | .nil => .nil
  | .cons r t => .cons r (each_vals t)
theorem vals_each {xs : List V} {us : List Value} : EachIs (fun u x => RelV x u) us xs → Vals xs us
  | .nil => .nil
  | .cons r t => .cons r (vals_each t)
theorem each_three {α β γ : Type} {R : α → β → Prop} {S : β → γ → Prop} {as : List α} {bs : List β} {cs : List γ} (h : EachIs R as bs) (t : EachIs S bs cs) : EachIs (fun a (p : β × γ) => R a p.1 ∧ S p.1 p.2) as (bs.zip cs) := by
  induction h generalizing cs with
  | nil => cases t; exact .nil
  | cons a _ ih =>
    cases t with
    | cons b t => exact .cons ⟨a, b⟩ (ih t)
theorem each_map {α β γ : Type} {R : α → β → Prop} {S : α → γ → Prop} {f : β → γ} {as : List α} {bs : List β} (h : EachIs R as bs) (i : ∀ a b, R a b → S a (f b)) : EachIs S as (bs.map f) := by
  induction h with
  | nil => exact .nil
  | cons a _ ih => exact .cons (i _ _ a) ih
theorem each_imp {α β : Type} {R S : α → β → Prop} {as : List α} {bs : List β} (h : EachIs R as bs) (i : ∀ a b, b ∈ bs → R a b → S a b) : EachIs S as bs := by
  induction h with
  | nil => exact .nil
  | @cons a b as bs r t ih => exact .cons (i a b (List.mem_cons_self ..) r) (ih fun a' b' m => i a' b' (List.mem_cons_of_mem _ m))
theorem call_sortP {X : Cx} (hu : ∃ k, Room k X.A) : CallR X (.builtin "sorted") (rSortP X.K) := by
  intro pins s σ H vs us Q I r h
  obtain ⟨a, xs, ds, rfl, hs, hd, hal, hso, hdep, q⟩ := h
  obtain ⟨its, rv, hl, hz⟩ := I.list hs
  obtain ⟨k, hr⟩ := hu
  obtain ⟨u, ut, rfl, ru, rt⟩ : ∃ u ut, us = u :: ut ∧ RelV (.ref a) u ∧ Vals [] ut := by
    cases r with
    | cons a b => exact ⟨_, _, rfl, a, b⟩
  cases rt
  obtain rfl : u = Value.ref a := ru
  have hrd : EachIs (fun v (p : V × PyData) => RelV p.1 v ∧ Dp X.K H p.1 p.2) its (xs.zip ds) := each_three (each_vals rv) (dpAll_each hd)
  have hl2 : xs.length = ds.length := by
    have := (dpAll_each hd).length
    exact this
  have hreads : ∀ h' : Heap, (∀ b o, s.heap.get? b = some o → h'.get? b = some o) → EachIs (fun v (p : V × PyData) => ∃ as, Reads h' v p.2 as) its (xs.zip ds) := fun h' keep => each_imp hrd fun v p _ hp => by
    obtain ⟨as, r1⟩ := Dp.reads I p.2 p.1 v hp.2 hp.1
    exact ⟨as, PyProof.Rows.Reads.keeps keep r1⟩
  have hreads2 : ∀ h' : Heap, (∀ b o, s.heap.get? b = some o → h'.get? b = some o) → EachIs (fun v d => ∃ as, Reads h' v d as) its ds := fun h' keep => by
    have := each_map (f := Prod.snd) (S := fun v d => ∃ as, Reads h' v d as) (hreads h' keep) fun a b r => r
    rwa [List.map_snd_zip (by omega)] at this
  have old : ∀ b o, s.heap.get? b = some o → (PySem.W.sortingHeap (PySem.W.copyHeap s.heap its) (s.heap.objs.size + 1) its).get? b = some o := fun b o e => PySem.W.sorting_copy_old e
  have hlz : its.length ≤ sizeLine := by rw [← rv.length]; exact hz
  refine PySem.W.sorted_vals (κ := PySem.W.dataKind (PySem.W.sortingHeap (PySem.W.copyHeap s.heap its) (s.heap.objs.size + 1) its) ds) hl.isList (SortsAt.data (A := X.A.in1.in1) (s := { s with heap := PySem.W.sortingHeap (PySem.W.copyHeap s.heap its) (s.heap.objs.size + 1) its }) (hreads2 _ old) hal hso fun d hd => ?_) hlz ?_
  · have := hr.un
    have h9 : X.A.in1.in1.units = X.A.units + 2 := rfl
    have := hdep d hd
    omega
  · have key := PySem.W.sortVals_each (κ := PySem.W.dataKind (PySem.W.sortingHeap (PySem.W.copyHeap s.heap its) (s.heap.objs.size + 1) its) ds) (rev := false) (ks := its) (fun p : V × PyData => keyToks p.2) hrd (each_imp (hreads _ old) fun v p hm hp => by
      obtain ⟨as, r1⟩ := hp
      exact PySem.W.dataKind_some hal (List.of_mem_zip hm).2 r1)
    have key2 : Vals (zipSort xs ds) (PySem.W.sortVals (PySem.W.dataKind (PySem.W.sortingHeap (PySem.W.copyHeap s.heap its) (s.heap.objs.size + 1) its) ds) false its its) := vals_each (each_map (f := Prod.fst) key fun a b r => r.1)
    revert key2
    generalize PySem.W.sortVals (PySem.W.dataKind (PySem.W.sortingHeap (PySem.W.copyHeap s.heap its) (s.heap.objs.size + 1) its) ds) false its its = out
    intro key2
    obtain ⟨ep, he'⟩ := PyProof.Rows.sortedAll_at s.heap its out.toArray
    have hlen : (zipSort xs ds).length ≤ sizeLine := by
      unfold zipSort
      rw [List.length_map, (List.mergeSort_perm _ _).length_eq, List.length_zip]
      omega
    exact ⟨.ref _, upd H (s.heap.objs.size + 1) (.lst (zipSort xs ds)), I.laid (t' := s.toks) (fun _ _ => PyProof.Rows.sortedAll_old) (Nat.le_succ _) ⟨hlen, out, ep, key2, he'⟩, rfl, q _ (I.hok.fresh (Nat.le_succ _))⟩
/-- x ≤ y of plain data -/
def ordD (x y : D) : Bool := match toPy x, toPy y with
  | some a, some b => !dataLt b a
  | _, _ => true
def alikeB (as : List PyData) : Bool := as.all fun a => as.all fun b => alike a b
def isTupC : PyData → Bool
  | .tuple (_ :: _) => true
  | _ => false
def isOther : PyData → Bool
  | .tuple _ => false
  | .none => false
  | _ => true
def sortB (as : List PyData) : Bool := as.all isTupC || as.all isOther
theorem sortB_ok {as : List PyData} (h : sortB as = true) : Sortable as := by
  unfold sortB at h
  rcases Bool.or_eq_true_iff.mp h with h | h
  · refine .inl fun d hd => ?_
    have := List.all_eq_true.mp h d hd
    unfold isTupC at this
    split at this
    · exact ⟨_, _, rfl⟩
    · cases this
  · refine .inr fun d hd => ?_
    have := List.all_eq_true.mp h d hd
    unfold isOther at this
    split at this
    · cases this
    · cases this
    · rename_i h1 h2
      exact ⟨h2, h1⟩
theorem alikeB_ok {as : List PyData} (h : alikeB as = true) : AllAlike as := fun d hd e he => List.all_eq_true.mp (List.all_eq_true.mp h d hd) e he
def dSortP : D → Option (List D)
  | .lst l => (toPys l).bind fun as => if alikeB as = true ∧ sortB as = true ∧ as.all (fun a => decide (a.depth ≤ 64)) = true then some (l.mergeSort ordD) else none
  | _ => none
def dSortA (d : D) : Option (List D) := match dSort d with
  | some r => some r
  | none => dSortP d
section
variable {X : Cx} {K : PySem.W.Frag} {g : Gx}
theorem zip_reps {I : Hp} : ∀ {l : List D} {xs : List V} {as : List PyData}, Reps K g I l xs → toPys l = some as → EachIs (fun (p : V × PyData) d => Rep K g I d p.1 ∧ toPy d = some p.2) (xs.zip as) l
  | [], xs, as, r, h => by
    obtain rfl := reps_nil.mp r
    exact .nil
  | d :: l, xs, as, r, h => by
    obtain ⟨u, us, rfl, r1, r2⟩ := reps_cons.mp r
    unfold toPys at h
    split at h
    · rename_i a as' h1 h2
      cases h
      exact .cons ⟨r1, h1⟩ (zip_reps r2 h2)
    · cases h
theorem reps_each {I : Hp} {l : List D} {ps : List (V × PyData)} : EachIs (fun (p : V × PyData) d => Rep K g I d p.1 ∧ toPy d = some p.2) ps l → Reps K g I l (ps.map Prod.fst)
  | .nil => Reps.nil
  | .cons a t => Reps.cons a.1 (reps_each t)
theorem sort_reps {I : Hp} {l : List D} {xs : List V} {as : List PyData} (r : Reps K g I l xs) (h : toPys l = some as) : Reps K g I (l.mergeSort ordD) (zipSort xs as) := by
  have e := zip_reps r h
  refine reps_each (PySem.W.sort_each (r := fun p q => !dataLt q.2 p.2) (s := ordD) e fun p hp q hq => ?_)
  have a1 := (e.zip p hp).2
  have a2 := (e.zip q hq).2
  unfold ordD
  rw [a1, a2]
theorem ll_sortP : LkPL X.K g (rSortP X.K) dSortP := by
  intro I H σ env x z v Q ok rx hz q
  cases x <;> first | (cases hz; done) | skip
  rename_i l
  obtain ⟨as, h1, h2⟩ := Option.bind_eq_some_iff.mp (show (toPys l).bind _ = some z from hz)
  split at h2
  · rename_i hc
    cases h2
    obtain ⟨p, vs, rfl, e2, e3⟩ := prep_lst.mp rx
    refine ⟨p, vs, as, rfl, SqL.of e2, toPys_dp ok.sub h1 e3, alikeB_ok hc.1, sortB_ok hc.2.1, fun d hd => of_decide_eq_true (List.all_eq_true.mp hc.2.2 d hd), fun b hb => ?_⟩
    obtain ⟨s2, r2⟩ := roNew ok hb (sort_reps e3 h1)
    exact q _ _ _ s2 r2
  · cases h2
theorem ll_sortA : LkPL X.K g (fun vs H Q => rSortA X vs H Q ∨ rSortP X.K vs H Q) dSortA := by
  intro I H σ env x z v Q ok rx hz q
  unfold dSortA at hz
  split at hz
  · rename_i r h
    cases hz
    exact .inl (ll_sort I H σ env x _ v Q ok rx h q)
  · exact .inr (ll_sortP I H σ env x z v Q ok rx hz q)
theorem bc_sortedA {k : Nat} (hr : Room k X.A) (hc : X.calm = true) (hg : Gl X "sorted") (hm : X.mg "sorted" = none) : BC X "sorted" (fun vs H Q => rSortA X vs H Q ∨ rSortP X.K vs H Q) := bcB (CallR.or (CallR.or cr_sortedI (CallR.or cr_sortedS (CallR.or (call_sortedD hc) (call_sortedDI hc)))) (call_sortP ⟨k, hr⟩)) hg hm (by decide +kernel)
end
end DL
set_option Elab.async false
set_option linter.all false
set_option maxRecDepth 100000
set_option maxHeartbeats 4000000
set_option autoImplicit false
namespace DL
open PySem PySem.Spec PyProof.Rows L2 LamX
/-! ### a generator expression of one clause, by its turns; its truths are asked till one is not c -/
def noX : Value → Shared → Prop := fun _ _ => False
structure GTurns (prog : Program) (w : World) (A1 A0 : Around) (cenv : PySem.Env) (tg elt : Expr) (I : Addr) (c : Bool) (n : Nat) (J : Nat → Shared → Prop) (Js Jx : Shared → Prop) : Prop where
  step : ∀ i s, i < n → J i s → wpAny (model prog w) A1 (pyNext (.ref I)) (fun r s1 => ∃ u, r = some u ∧ wpAny (model prog w) A1 (letOwnedTupleGo tg (.ref I) u) (fun _ s2 => wpAny (model prog w) A1 (assign tg cenv u) (fun _ s3 => wpAny (model prog w) A1 (eval elt cenv) (fun y s4 => ∃ b : Bool, y = .bool b ∧ (b = c → J (i + 1) s4) ∧ (b ≠ c → Js s4)) noX s3) noX s2) noX s1) noX s
  stop : ∀ s, J n s → wpAny (model prog w) A1 (pyNext (.ref I)) (fun r s1 => r = none ∧ Jx s1) noX s
  self : ∀ s (Q : Value → Shared → Prop) (E : Value → Shared → Prop), J 0 s → Q (.ref I) s → wpAny (model prog w) A0 (pyIter (.ref I)) Q E s
def GR (Jx : Shared → Prop) : GenEnd := fun m _ r s₁ => r = .ok .next ∧ (m = 1 ∧ Jx s₁)
def GP (c : Bool) (n : Nat) (J : Nat → Shared → Prop) (Js : Shared → Prop) : Protocol := fun m _ v s kap => ∃ i b, i < n ∧ m = n - i ∧ v = .bool b ∧ (b = c → J (i + 1) s ∧ ∀ s'', J (i + 1) s'' → kap (.send .none) s'') ∧ (b ≠ c → Js s)
section
variable {prog : Program} {w : World} {A : Around} {cenv : PySem.Env} {tg elt iter : Expr} {scope : Scope} {pos : Pos} {I : Addr} {c : Bool} {n : Nat} {J : Nat → Shared → Prop} {Js Jx : Shared → Prop}
theorem seg_loopG (hco : cenv.scope.isCoroutine = false) (T : GTurns prog w (A.over (.compLoop (.GeneratorExp elt [⟨tg, iter, [], 0⟩] scope pos) 0 (.ref I) .none cenv) []) (A.over (.compStart (.GeneratorExp elt [⟨tg, iter, [], 0⟩] scope pos) 0 (.ref I) .none cenv) []) cenv tg elt I c n J Js Jx) :
    ∀ (k i : Nat) (s₀ s : Shared), n - i = k → i ≤ n → J i s →
      Seg (model prog w) A (GR Jx) (GP c n J Js) (n - i + 1) s₀ (.compLoop (.GeneratorExp elt [⟨tg, iter, [], 0⟩] scope pos) 0 (.ref I) .none cenv)
        ((model prog w).den (.compLoop (.GeneratorExp elt [⟨tg, iter, [], 0⟩] scope pos) 0 (.ref I) .none cenv)) [] s := by
  intro k
  induction k with
  | zero =>
    intro i s₀ s hk hi hJ
    have hin : i = n := by omega
    subst hin
    show Seg _ A _ _ _ s₀ _ ((compTurn (.GeneratorExp elt [⟨tg, iter, [], 0⟩] scope pos) 0 (.ref I) .none cenv).onRaise (leaving cenv)) [] s
    rw [compTurn_gen, Sem.onRaise_eq_wrap]
    refine seg_bind_wrap (wpAny_standAt ?_)
    refine seg_bind_wrap (wpAny_mono (T.stop s hJ) (fun r s1 h => ?_) fun _ _ h => False.elim h)
    obtain ⟨rfl, hx⟩ := h
    exact seg_end (.ok .next) ⟨rfl, by omega, hx⟩
  | succ k ih =>
    intro i s₀ s hk hi hJ
    have hlt : i < n := by omega
    show Seg _ A _ _ _ s₀ _ ((compTurn (.GeneratorExp elt [⟨tg, iter, [], 0⟩] scope pos) 0 (.ref I) .none cenv).onRaise (leaving cenv)) [] s
    rw [compTurn_gen, Sem.onRaise_eq_wrap]
    refine seg_bind_wrap (wpAny_standAt ?_)
    refine seg_bind_wrap (wpAny_mono (T.step i s hlt hJ) (fun r s1 h => ?_) fun _ _ h => False.elim h)
    obtain ⟨u, rfl, h⟩ := h
    refine seg_bind_wrap (wpAny_mono h (fun _ s2 h => ?_) fun _ _ h => False.elim h)
    refine seg_bind_wrap (wpAny_mono h (fun _ s3 h => ?_) fun _ _ h => False.elim h)
    refine seg_bind_wrap (wpAny_pure ?_)
    simp only [if_true]
    have hy : ∀ v, yieldOut cenv v = yieldValue v := fun v => by simp only [yieldOut, hco, Bool.false_eq_true, if_false]
    simp only [hy]
    rw [Sem.bind_eq_wrap', Sem.bind_eq_wrap', Sem.wrap_wrap, Sem.wrap_wrap]
    refine seg_wrap (wpAny_mono h (fun y s4 h => ?_) fun _ _ h => False.elim h)
    obtain ⟨b, rfl, h1, h2⟩ := h
    refine seg_at (seg_yield rfl rfl rfl ⟨i, b, hlt, rfl, rfl, fun e => ⟨h1 e, fun s'' hJ'' => ?_⟩, h2⟩)
    have hn : n - i = (n - (i + 1)) + 1 := by omega
    rw [hn]
    exact seg_again rfl (ih (i + 1) s'' s'' (by omega) hlt hJ'')
theorem seg_startG (hco : cenv.scope.isCoroutine = false) (T : GTurns prog w (A.over (.compLoop (.GeneratorExp elt [⟨tg, iter, [], 0⟩] scope pos) 0 (.ref I) .none cenv) []) (A.over (.compStart (.GeneratorExp elt [⟨tg, iter, [], 0⟩] scope pos) 0 (.ref I) .none cenv) []) cenv tg elt I c n J Js Jx)
    (s₀ s : Shared) (hJ : J 0 s) :
    Seg (model prog w) A (GR Jx) (GP c n J Js) (n + 1) s₀ (.compStart (.GeneratorExp elt [⟨tg, iter, [], 0⟩] scope pos) 0 (.ref I) .none cenv)
      ((model prog w).den (.compStart (.GeneratorExp elt [⟨tg, iter, [], 0⟩] scope pos) 0 (.ref I) .none cenv)) [] s := by
  have loop := seg_loopG hco T n 0 s₀ s (Nat.sub_zero _) (Nat.zero_le _) hJ
  rw [Nat.sub_zero] at loop
  show Seg _ A _ _ _ s₀ _ ((compStart (.GeneratorExp elt [⟨tg, iter, [], 0⟩] scope pos) 0 (.ref I) .none cenv).onRaise (leaving cenv)) [] s
  unfold compStart
  rw [Sem.onRaise_eq_wrap]
  show Seg _ A _ _ _ s₀ _ ((ask >>= _).wrap _ _ _ _) [] s
  refine seg_bind_wrap (wpAny_askSetting ?_)
  split
  · exact seg_again rfl loop
  · first
      | exact seg_bind_wrap (wpAny_rule (seg_bind_wrap (wpAny_standAt (seg_bind_wrap (T.self s _ _ hJ (seg_again rfl loop))))))
      | (refine seg_bind_wrap (wpAny_rule ?_); show Seg _ A _ _ _ s₀ _ ((standAt iter.pos >>= _).wrap _ _ _ _) [] s; exact seg_bind_wrap (wpAny_standAt (seg_bind_wrap (T.self s _ _ hJ (seg_again rfl loop)))))
end
end DL
set_option Elab.async false
set_option linter.all false
set_option maxRecDepth 100000
set_option maxHeartbeats 4000000
set_option autoImplicit false
namespace DL
open PySem PySem.Spec PyProof.Rows L2 LamX
/-! ### the generator's object: its turns; any, all over it -/
def GAt (prog : Program) (w : World) (A : Around) (g : Nat) (c : Bool) (n : Nat) (J : Nat → Shared → Prop) (Js Jx : Shared → Prop) (j : Nat) (s : Shared) : Prop :=
  ∃ gs, s.gens[g]? = some gs ∧ J j s ∧ ∀ s'', J j s'' → gs.Goes (model prog w) A.in1 (fun m _ r s₁ => r = .ok .next ∧ (m = 1 ∧ Jx s₁)) (GP c n J Js) (n - j + 1) (.send .none) s''
structure GObj (a : Addr) (g : Nat) (J : Nat → Shared → Prop) (Js Jx : Shared → Prop) : Prop where
  is : ∀ j s, J j s → s.heap.IsGen a g ∧ s.heap.NoLimit
  set : ∀ j s x, x.bare = true → J j s → J j (s.setGen g x)
  sets : ∀ s x, x.bare = true → Js s → Js (s.setGen g x)
  setx : ∀ s x h', x.bare = true → Jx s → (∀ b o, s.heap.get? b = some o → h'.get? b = some o) → Jx { s.setGen g x with heap := h' }
section
variable {prog : Program} {w : World} {A : Around} {a : Addr} {g n : Nat} {c : Bool} {J : Nat → Shared → Prop} {Js Jx : Shared → Prop}
theorem gens_lt {s : Shared} {g : Nat} {x : GenState} (h : s.gens[g]? = some x) : g < s.gens.size := by
  obtain ⟨q, _⟩ := Array.getElem?_eq_some_iff.mp h
  exact q
theorem setGen_at {s : Shared} {g : Nat} {x : GenState} (h : g + 1 ≤ (s.setGen g x).gens.size) : (s.setGen g x).gens[g]? = some x := by
  simp only [Shared.setGen, Array.size_setIfInBounds] at h ⊢
  rw [Array.getElem?_setIfInBounds]
  simp; omega
theorem gat_item (hh : A.handled = none) (hroom : A.depth < recursionLimit) (O : GObj a g J Js Jx) {j : Nat} {s : Shared} {Q : Option Value → Shared → Prop} {E : Value → Shared → Prop} (hj : j < n) (h : GAt prog w A g c n J Js Jx j s)
    (hQ : ∀ (b : Bool) s', (b = c → GAt prog w A g c n J Js Jx (j + 1) s') → (b ≠ c → Js s') → Q (some (.bool b)) s') : wpAny (model prog w) A (pyNext (.ref a)) Q E s := by
  obtain ⟨gs, hgs, hJ, hgo⟩ := h
  obtain ⟨hg, hl⟩ := O.is j s hJ
  obtain ⟨m, hm⟩ : ∃ m, n - j = m + 1 := ⟨n - j - 1, by omega⟩
  refine GenW.wpAny_gsz (n := g + 1) (gens_lt hgs) ?_
  refine wpAny_pyNext_genexpQ (P := fun m _ s₁ => m = 1 ∧ Jx s₁) (Y := GP c n J Js) hh hl hroom hg hgs (hgo _ (O.set j s _ rfl hJ)) (fun v s₁ gs' hb hv => ?_) (fun s₁ hp h' hk => ?_)
  · obtain ⟨i, b, hi, hmi, rfl, h1, h2⟩ := hv
    have hij : i = j := by omega
    subst hij
    intro hsz
    refine hQ b _ (fun e => ?_) fun e => O.sets _ _ hb (h2 e)
    obtain ⟨h3, h4⟩ := h1 e
    have hm2 : n - (i + 1) + 1 = n - i := by omega
    exact ⟨gs', setGen_at hsz, O.set _ _ _ hb h3, fun s'' hJ'' => by rw [hm2]; exact h4 s'' hJ''⟩
  · have := hp.1; omega
theorem gat_done (hh : A.handled = none) (hroom : A.depth < recursionLimit) (O : GObj a g J Js Jx) {s : Shared} {Q : Option Value → Shared → Prop} {E : Value → Shared → Prop} (h : GAt prog w A g c n J Js Jx n s)
    (hQ : ∀ s', Jx s' → Q none s') : wpAny (model prog w) A (pyNext (.ref a)) Q E s := by
  obtain ⟨gs, hgs, hJ, hgo⟩ := h
  obtain ⟨hg, hl⟩ := O.is n s hJ
  refine wpAny_pyNext_genexpQ (P := fun m _ s₁ => m = 1 ∧ Jx s₁) (Y := GP c n J Js) hh hl hroom hg hgs (hgo _ (O.set n s _ rfl hJ)) (fun v s₁ gs' hb hv => ?_) (fun s₁ hp h' hk => ?_)
  · obtain ⟨i, b, hi, hmi, rfl, h1, h2⟩ := hv
    omega
  · exact hQ _ (O.setx _ _ _ rfl hp.2 hk)
theorem truthy_bool {A : Around} {b : Bool} {s : Shared} {Q : Bool → Shared → Prop} {E : Value → Shared → Prop} (h : Q b s) : wpAny (model prog w) A (truthy (.bool b)) Q E s := wpAny_truthy_bool h
theorem all_loopG {R : Result → Shared → Prop} (hh : A.in1.handled = none) (hroom : A.in1.depth < recursionLimit) (O : GObj a g J Js Jx) : ∀ (k j : Nat) (s : Shared), n - j = k → j ≤ n → GAt prog w A.in1 g true n J Js Jx j s →
    (∀ s', Jx s' → R (.ok (.ret (.bool true))) s') → (∀ s', Js s' → R (.ok (.ret (.bool false))) s') → codeAny (model prog w) A (.builtin "all.loop" ⟨[.ref a], []⟩) R s := by
  intro k
  induction k with
  | zero =>
    intro j s hk hj hG h1 h2
    have hjn : j = n := by omega
    subst hjn
    refine codeAny_builtin F.entry_all_loop ?_
    rw [Around.under_plainId F.plain_all_loop _]
    show wpAny _ A.in1 (pyNext (.ref a) >>= _) _ _ s
    refine wpAny_bind (gat_done hh hroom O hG fun s' hx => ?_)
    exact wpAny_bind (wpAny_rule (wpAny_pure (h1 s' hx)))
  | succ k ih =>
    intro j s hk hj hG h1 h2
    have hlt : j < n := by omega
    refine codeAny_builtin F.entry_all_loop ?_
    rw [Around.under_plainId F.plain_all_loop _]
    show wpAny _ A.in1 (pyNext (.ref a) >>= _) _ _ s
    refine wpAny_bind (gat_item hh hroom O hlt hG fun b s' q1 q2 => ?_)
    refine wpAny_bind (wpAny_holding (truthy_bool ?_))
    refine wpAny_bind (wpAny_letGo ?_)
    cases b with
    | true =>
      simp only [if_true]
      exact wpAny_pure ⟨plainId_quiet F.plain_all_loop _, ih (j + 1) _ (by omega) hlt (q1 rfl) h1 h2⟩
    | false =>
      simp only [Bool.false_eq_true, if_false]
      exact wpAny_bind (wpAny_rule (wpAny_pure (h2 s' (q2 (by decide)))))
theorem any_loopG {R : Result → Shared → Prop} (hh : A.in1.handled = none) (hroom : A.in1.depth < recursionLimit) (O : GObj a g J Js Jx) : ∀ (k j : Nat) (s : Shared), n - j = k → j ≤ n → GAt prog w A.in1 g false n J Js Jx j s →
    (∀ s', Jx s' → R (.ok (.ret (.bool false))) s') → (∀ s', Js s' → R (.ok (.ret (.bool true))) s') → codeAny (model prog w) A (.builtin "any.loop" ⟨[.ref a], []⟩) R s := by
  intro k
  induction k with
  | zero =>
    intro j s hk hj hG h1 h2
    have hjn : j = n := by omega
    subst hjn
    refine codeAny_builtin F.entry_any_loop ?_
    rw [Around.under_plainId F.plain_any_loop _]
    show wpAny _ A.in1 (pyNext (.ref a) >>= _) _ _ s
    refine wpAny_bind (gat_done hh hroom O hG fun s' hx => ?_)
    exact wpAny_bind (wpAny_rule (wpAny_pure (h1 s' hx)))
  | succ k ih =>
    intro j s hk hj hG h1 h2
    have hlt : j < n := by omega
    refine codeAny_builtin F.entry_any_loop ?_
    rw [Around.under_plainId F.plain_any_loop _]
    show wpAny _ A.in1 (pyNext (.ref a) >>= _) _ _ s
    refine wpAny_bind (gat_item hh hroom O hlt hG fun b s' q1 q2 => ?_)
    refine wpAny_bind (wpAny_holding (truthy_bool ?_))
    refine wpAny_bind (wpAny_letGo ?_)
    cases b with
    | false =>
      simp only [Bool.false_eq_true, if_false]
      exact wpAny_pure ⟨plainId_quiet F.plain_any_loop _, ih (j + 1) _ (by omega) hlt (q1 rfl) h1 h2⟩
    | true =>
      simp only [if_true]
      exact wpAny_bind (wpAny_rule (wpAny_pure (h2 s' (q2 (by decide)))))
/-- any, all: the argument is a generator that has not begun -/
theorem call_allG {Q : Value → Shared → Prop} {E : Value → Shared → Prop} {s : Shared} (hh : A.handled = none) (hroom : A.depth < recursionLimit) (O : GObj a g J Js Jx) (h : GAt prog w A.in1 g true n J Js Jx 0 s)
    (h1 : ∀ s', Jx s' → Q (.bool true) s') (h2 : ∀ s', Js s' → Q (.bool false) s') : wpAny (model prog w) A (call (.builtin "all") [.ref a]) Q E s := by
  refine call_function_tree F.kind_all F.plain_all F.entry_all (F.args_all1 _) ?_
  unfold Builtin.«all»
  refine wpAny_bind (m := oneArg "all" _) (wpAny_pure ?_)
  have hg := let ⟨gs, _, hJ, _⟩ := h; (O.is 0 s hJ).1
  refine wpAny_bind (wpAny_pyIter_gen hg ?_)
  exact wpAny_pure ⟨plainId_quiet F.plain_all_loop _, all_loopG hh hroom O n 0 s (Nat.sub_zero _) (Nat.zero_le _) h h1 h2⟩
theorem call_anyG {Q : Value → Shared → Prop} {E : Value → Shared → Prop} {s : Shared} (hh : A.handled = none) (hroom : A.depth < recursionLimit) (O : GObj a g J Js Jx) (h : GAt prog w A.in1 g false n J Js Jx 0 s)
    (h1 : ∀ s', Jx s' → Q (.bool false) s') (h2 : ∀ s', Js s' → Q (.bool true) s') : wpAny (model prog w) A (call (.builtin "any") [.ref a]) Q E s := by
  refine call_function_tree F.kind_any F.plain_any F.entry_any (F.args_any1 _) ?_
  unfold Builtin.«any»
  refine wpAny_bind (m := oneArg "any" _) (wpAny_pure ?_)
  have hg := let ⟨gs, _, hJ, _⟩ := h; (O.is 0 s hJ).1
  refine wpAny_bind (wpAny_pyIter_gen hg ?_)
  exact wpAny_pure ⟨plainId_quiet F.plain_any_loop _, any_loopG hh hroom O n 0 s (Nat.sub_zero _) (Nat.zero_le _) h h1 h2⟩
end
end DL
set_option Elab.async false
set_option linter.all false
set_option maxRecDepth 100000
set_option maxHeartbeats 4000000
set_option autoImplicit false
namespace DL
open PySem PySem.Spec PyProof.Rows L2 LamX
/-! ### the generator's own frame as a context -/
/-- the scope of a generator: its targets are local, what it takes from around is free -/
structure GenSN (env : PySem.Env) (scope : Scope) (tgs : List Str) (caps : List (Str × Nat)) : Prop where
  kind : scope.kind = .function
  co : scope.isCoroutine = false
  cell : ∀ z ∈ scope.names, z.2 ≠ .cell
  dot : scope.names.lookup (".0" : Str) = some NameKind.local
  free : ∀ z ∈ scope.names, z.2 = .free → env.scope.names.lookup z.1 = some .cell ∨ env.scope.names.lookup z.1 = some .free
  cap : ∀ p ∈ caps, scope.names.lookup p.1 = some .free
def genSNB (sc scope : Scope) (caps : List (Str × Nat)) : Bool :=
  decide (scope.kind = .function) && !scope.isCoroutine && (scope.names.all fun y => !decide (y.2 = .cell) && (!decide (y.2 = .free) || decide (sc.names.lookup y.1 = some .cell) || decide (sc.names.lookup y.1 = some .free))) && decide (scope.names.lookup (".0" : Str) = some NameKind.local) && caps.all fun p => decide (scope.names.lookup p.1 = some .free)
theorem genSN_by {env : PySem.Env} {sc scope : Scope} {tgs : List Str} {caps : List (Str × Nat)} (hsc : env.scope = sc) (h : genSNB sc scope caps = true) : GenSN env scope tgs caps := by
  subst hsc
  unfold genSNB at h
  simp only [Bool.and_eq_true, Bool.or_eq_true, Bool.not_eq_true', decide_eq_true_eq, decide_eq_false_iff_not, List.all_eq_true] at h
  obtain ⟨⟨⟨⟨h1, h2⟩, h3⟩, h4⟩, h5⟩ := h
  refine ⟨h1, h2, fun z hz => (h3 z hz).1, h4, fun z hz e => ?_, h5⟩
  rcases (h3 z hz).2 with (q | q) | q
  · exact absurd e q
  · exact .inl q
  · exact .inr q
theorem capsN_nil {N : List Str} : ∀ p ∈ ([] : List (Str × Nat)), N[p.2]? = some p.1 := fun _ h => nomatch h
theorem capsN_cons {N : List Str} {x : Str} {i : Nat} {caps : List (Str × Nat)} (h : N[i]? = some x) (t : ∀ p ∈ caps, N[p.2]? = some p.1) : ∀ p ∈ (x, i) :: caps, N[p.2]? = some p.1 := fun p hp => by
  rcases List.mem_cons.mp hp with rfl | hp
  · exact h
  · exact t p hp
/-- its names, what they hold at first -/
def genN (tgs : List Str) (caps : List (Str × Nat)) : List Str := tgs ++ caps.map (·.1)
def genσ (tgs : List Str) (caps : List (Str × Nat)) (σ : L2.St) : L2.St := tgs.map (fun _ => none) ++ caps.map fun p => (σ[p.2]?).join
def capS : Option Slot → Slot
  | some (.im d) => .im d
  | _ => .no
def capE (tgs : List Str) (caps : List (Str × Nat)) (env : DL.Env) : DL.Env := tgs.map (fun _ => Slot.no) ++ caps.map fun p => capS env[p.2]?
def genCx (X : Cx) (A1 : Around) (N' : List Str) (cenv : PySem.Env) (fp : List Addr) (s : Shared) (H : Hp) : Cx where
  prog := X.prog
  w := X.w
  K := X.K
  mg := X.mg
  base := X.base
  A := A1
  N := N'
  s_0 := s
  H_0 := H
  env := cenv
  outer := X.stack
  stack := cenv :: X.stack
  ex := fp
  fn := fun _ => false
  calm := true
  pn := []
  xe := noX
section
variable {X : Cx} {g : Gx} {W : WX} {pins : List (Addr × Obj)} {σ : L2.St} {H : Hp} {s : Shared}
theorem gen_code2 {scope : Scope} {gpos : Pos} {Q : Value → Addr → Shared → Prop} {E : Value → Shared → Prop} (I : Inv X pins σ H s) (D : GenD X g) (hT : Tabs g.T H)
    (h : ∀ code H2 h3 tk, Inv X pins σ H2 { s with heap := h3, toks := tk } → ExtN H H2 → Tabs g.T H2 → (∀ b o, s.heap.get? b = some o → H b = none → h3.get? b = some o ∧ H2 b = none) → s.heap.objs.size ≤ h3.objs.size → Q code builtinsNs { s with heap := h3, toks := tk }) :
    wpAny (model X.prog X.w) X.A (genexprCode X.env gpos (X.env.qual ++ "<genexpr>") scope) (fun code s₃ => wpAny (model X.prog X.w) X.A (builtinsFor X.env.globals X.env.builtins) (fun bi s₄ => Q code bi s₄) E s₃) E s := by
  obtain ⟨c, P, TB, hcode, hm, hu⟩ := D.ex
  obtain ⟨ps, hP, ht, ha⟩ := hT _ hm
  have hPs : s.heap.get? P = some { cls := .none, data := .fields ps } := I.hok P _ hP
  have hPl : P < s.heap.objs.size := Heap.lt_size hPs
  have cd : PySem.W.CodeHd s.heap c P := TB.code.keeps fun b u e => I.bk b u e
  obtain ⟨bm, ob, e1, e2, e3, e4, e5, e6, e7, e8⟩ := TB.bm
  have tail : ∀ (code : Value) (h3 : Heap) (tk : Nat), Heap.ExtBut P s.heap h3 → (∀ bi, bi = builtinsNs → Q code bi { s with heap := h3, toks := tk }) → wpAny (model X.prog X.w) X.A (builtinsFor X.env.globals X.env.builtins) (fun bi s₄ => Q code bi s₄) E { s with heap := h3, toks := tk } := fun code h3 tk hx G => by
    refine wpAny_builtinsFor (m := X.mg) (by rw [I.ok.glob]; exact (I.mod.glob.keeps I.bk).extBut hx TB.gP) e1 e2 (hx _ _ e4 (I.bk _ _ e5)) e6 e7 e8 ?_
    exact G _ rfl
  cases hf : codeAmong gpos ps.toList with
  | none =>
    refine wpAny_genexprCodeX hcode (cd.code hPs ht) (cd.tab hPs) hf fun c' h' tk hx hge hlt hco' hrec htab' _ => ?_
    obtain ⟨c2, oc, vs, t, ee, hoc, hd, hv⟩ := hrec
    cases ee
    refine tail _ h' tk hx fun bi hbi => ?_
    subst hbi
    have nC : H c' = none := I.hok.fresh hge
    have J := inv_table (t' := tk) (more := #[rawInt gpos.line, rawInt gpos.col, .ref c']) (h' := h') (c := c') (q := X.env.qual ++ "<genexpr>") I hP
      (fun b u hb e => hx b u hb e) htab'.2 hge ⟨oc, vs, t, hoc, hd, hv⟩
    have hE : ExtN H (upd (upd H P (.tbl (ps ++ #[rawInt gpos.line, rawInt gpos.col, .ref c']))) c' (CodeO c' (X.env.qual ++ "<genexpr>"))) := fun b u e n => by
      have nb : b ≠ P := fun z => n ps (Option.some.inj (e.symm.trans (show H b = _ by rw [z]; exact hP)))
      rw [upd_ne (ne_of_none e nC), upd_ne nb]
      exact e
    have eL : (ps ++ #[rawInt gpos.line, rawInt gpos.col, .ref c']).toList = ps.toList ++ [rawInt gpos.line, rawInt gpos.col, .ref c'] := Array.toList_append
    refine h _ _ h' tk J hE (fun p hp => ?_) (fun b o e n => ?_) (Nat.le_trans hge (Nat.le_of_lt hlt))
    · by_cases hb : p.1 = P
      · rw [hu p hp hb, hb]
        refine ⟨_, by rw [upd_ne (ne_of_none hP nC), upd_same], by rw [eL]; exact PySem.TriplesOk_snoc _ _ _ _ ht, fun p' cv hcv => ?_⟩
        rw [eL] at hcv
        rcases among_app _ ht hcv with z | z
        · obtain ⟨c0, z1, z2⟩ := ha p' cv z
          exact ⟨c0, z1, hE _ _ z2 codeO_ne⟩
        · exact ⟨c', z, upd_same⟩
      · obtain ⟨ps', a1, a2, a3⟩ := hT p hp
        refine ⟨ps', by rw [upd_ne (ne_of_none a1 nC), upd_ne hb]; exact a1, a2, fun p' cv hcv => ?_⟩
        obtain ⟨c0, z1, z2⟩ := a3 p' cv hcv
        exact ⟨c0, z1, hE _ _ z2 codeO_ne⟩
    · have nb : b ≠ P := fun z => by rw [z, hP] at n; cases n
      have nc : b ≠ c' := fun z => by have := Heap.lt_size e; rw [z] at this; exact Nat.lt_irrefl _ (Nat.lt_of_lt_of_le this hge)
      exact ⟨hx b o nb e, by rw [upd_ne nc, upd_ne nb]; exact n⟩
  | some cv =>
    refine wpAny_genexprCode_hit hcode (cd.code hPs ht) hf ?_
    refine tail cv s.heap s.toks (Heap.ExtBut.refl _ _) fun bi hbi => ?_
    subst hbi
    exact h cv H s.heap s.toks I (ExtN.refl H) hT (fun b o e n => ⟨e, n⟩) (Nat.le_refl _)
end
end DL
set_option Elab.async false
set_option linter.all false
set_option maxRecDepth 100000
set_option maxHeartbeats 4000000
set_option autoImplicit false
namespace DL
open PySem PySem.Spec PyProof.Rows L2 LamX
theorem genN_at {tgs : List Str} {caps : List (Str × Nat)} {σ : L2.St} {i : Nat} {x : Str} {v : V} (h1 : (genN tgs caps)[i]? = some x) (h2 : (genσ tgs caps σ)[i]? = some (some v)) : ∃ p ∈ caps, p.1 = x ∧ σ[p.2]? = some (some v) ∧ ∃ j, i = tgs.length + j ∧ caps[j]? = some p := by
  unfold genN at h1
  unfold genσ at h2
  by_cases hi : i < tgs.length
  · rw [List.getElem?_append_left (by simpa using hi), List.getElem?_map] at h2
    cases e : tgs[i]? with
    | none => rw [e] at h2; cases h2
    | some t => rw [e] at h2; cases h2
  · rw [List.getElem?_append_right (by omega), List.getElem?_map] at h1
    rw [List.getElem?_append_right (by simp; omega), List.getElem?_map, List.length_map] at h2
    cases e : caps[i - tgs.length]? with
    | none => rw [e] at h1; cases h1
    | some p =>
      rw [e] at h1 h2
      have h1' : p.1 = x := Option.some.inj h1
      have h2' : (σ[p.2]?).join = some v := Option.some.inj h2
      refine ⟨p, List.mem_of_getElem? e, h1', ?_, i - tgs.length, by omega, e⟩
      cases e3 : σ[p.2]? with
      | none => rw [e3] at h2'; cases h2'
      | some y => rw [e3] at h2'; exact congrArg some h2'
section
variable {X : Cx} {g : Gx} {W : WX} {pins : List (Addr × Obj)} {σ : L2.St} {H : Hp} {s : Shared}
theorem gen_inv {A1 : Around} {scope : Scope} {tgs : List Str} {caps : List (Str × Nat)} {fp : List Addr} {code : Value} {C a : Addr} {ob : Obj} {s5 : Shared} (I : Inv X pins σ H s) (S : GenSN X.env scope tgs caps)
    (hN : ∀ p ∈ caps, X.N[p.2]? = some p.1) (hh : A1.handled = none) (hf : A1.frames = some (genEnv scope (cloFrom X.env.cells scope.names []) C code builtinsNs X.env :: X.stack))
    (hC : s.heap.objs.size ≤ C) (ha : s.heap.objs.size ≤ a) (haC : a ≠ C) (hob : s5.heap.get? a = some ob) (hnc : ∀ v, ob.data ≠ .cell v) (hns : ∃ m, s5.heap.Ns C m) (kp : ∀ b o, s.heap.get? b = some o → s5.heap.get? b = some o) (os : s5.os = s.os) (ab : AllBare s5.gens)
    (hfp : ∀ b ∈ fp, FpOk X pins H b ∧ ∃ o, s.heap.get? b = some o) :
    Inv (genCx X A1 (genN tgs caps) (genEnv scope (cloFrom X.env.cells scope.names []) C code builtinsNs X.env) fp s H) [(a, ob)] (genσ tgs caps σ) H s5 ∧
      ∀ b ∈ fp, FpOk (genCx X A1 (genN tgs caps) (genEnv scope (cloFrom X.env.cells scope.names []) C code builtinsNs X.env) fp s H) [(a, ob)] H b := by
  have e0 := I.env0
  have hfree : ∀ y ∈ scope.names, y.2 = .free → ∃ c, X.env.cells.lookup y.1 = some c := fun y hy e => by
    rcases S.free y hy e with k | k
    · exact I.ok.has _ (.inl k)
    · exact I.ok.has _ (.inr k)
  have cm : ∀ {y c}, (cloFrom X.env.cells scope.names []).lookup y = some c → X.env.cells.lookup y = some c := fun {y c} e => by
    rcases cloFrom_mem (PySem.mem_of_lookup e) with hm | ⟨h1, h2⟩
    · cases hm
    · obtain ⟨c1, hc⟩ := hfree _ h1 rfl
      have hc : X.env.cells.lookup y = some c1 := hc
      have e2 : c = c1 := by
        rw [h2, hc] <;> rfl
      rw [e2]
      exact hc
  have look : ∀ {y}, scope.names.lookup y = some .free → ∃ c, (cloFrom X.env.cells scope.names []).lookup y = some c := fun {y} hl => by
    have hy : (y, NameKind.free) ∈ scope.names := PySem.mem_of_lookup hl
    exact mem_lookup (cloFrom_has (cells := X.env.cells) (acc := []) hy)
  have cellK : ∀ {c : Addr} {v : Option Value}, s.heap.IsCell c v → s5.heap.IsCell c v := fun {c v} ⟨o, ho, hd⟩ => ⟨o, kp _ _ ho, hd⟩
  have fpst : ∀ b ∈ fp, b ∉ frs X.stack := fun b hb z => by
    rcases List.mem_cons.mp (I.stkSub b z) with e | e
    · exact (hfp b hb).1.2.1 e
    · exact (hfp b hb).1.2.2.1 e
  have fplt : ∀ b ∈ fp, b < s.heap.objs.size := fun b hb => let ⟨_, e⟩ := (hfp b hb).2; Heap.lt_size e
  have fpC : ∀ b ∈ fp, b ≠ C := fun b hb => Nat.ne_of_lt (Nat.lt_of_lt_of_le (fplt b hb) hC)
  have fpcell : ∀ b ∈ fp, ∀ x c, (cloFrom X.env.cells scope.names []).lookup x = some c → c ≠ b := fun b hb x c e => (hfp b hb).1.2.2.2.2.1 x c (cm e)
  have nofr : ∀ f, s.heap.objs.size ≤ f → f ∉ frs X.stack := fun f hf z => by
    rcases List.mem_cons.mp (I.stkSub _ z) with e | e
    · have h1 := I.lt
      rw [← e] at h1
      exact Nat.lt_irrefl _ (Nat.lt_of_lt_of_le h1 hf)
    · exact I.nofs hf e
  have pinA : ∀ b ∈ fp, a ≠ b := fun b hb => Nat.ne_of_gt (Nat.lt_of_lt_of_le (fplt b hb) ha)
  refine ⟨⟨⟨e0.mod, S.kind, I.ok.glob, rfl, hC, fun y z c e1 e2 => I.ok.inj y z c (cm e1) (cm e2), fun y hy => ?_, fun y c z _ => ?_, fun _ => hh, hf, .inr ⟨rfl, rfl⟩, fun b z => ⟨fpC b z, fpcell b z⟩, e0.bs, e0.bsz, fun b o e z => ?_,
      fun b z => fpst b z, e0.funs, e0.frf⟩,
    os, ab, Un.kept kp, ?_, fun y c e => ?_, I.hok.fresh hC, fun y c e => I.freeC y c (cm e), fun q hq => ?_, I.hok.kept kp, ?_⟩, fun b hb => ⟨(hfp b hb).1.1, fpC b hb, fpst b hb, .inl hb, fpcell b hb, fun q hq => ?_⟩⟩
  · have hy : scope.names.lookup y = some .cell ∨ scope.names.lookup y = some .free := hy
    rcases hy with hy | hy
    · exact absurd rfl (S.cell _ (PySem.mem_of_lookup hy))
    · exact look hy
  · have z : false = true := z
    cases z
  · have z : b ∈ fp := z
    rcases (hfp b z).1.2.2.2.1 with q | q
    · exact I.ok.noex b o e q
    · exact absurd (Nat.lt_of_lt_of_le (Heap.lt_size e) (Nat.le_trans I.ok.bsz q)) (Nat.lt_irrefl _)
  · obtain ⟨m5, hn5⟩ := hns
    refine ⟨m5, hn5, fun i y v e1 e2 e3 => ?_⟩
    obtain ⟨p, hp, rfl, e4, _⟩ := genN_at e1 e2
    have k := S.cap p hp
    obtain ⟨m, hn, hl⟩ := I.loc
    have hvis : Vis X.env.scope p.1 := (S.free _ (PySem.mem_of_lookup k) rfl).elim (fun k => .inr (.inl k)) (fun k => .inr (.inr k))
    obtain ⟨w', r, q⟩ := hl p.2 p.1 v (hN p hp) e4 hvis
    obtain ⟨c2, h2⟩ := look k
    refine ⟨w', r, .inr ⟨.inr k, c2, h2, ?_⟩⟩
    have c1 := cm h2
    rcases q with ⟨k', _⟩ | ⟨_, c3, e', z⟩
    · have k' : X.env.scope.names.lookup p.1 = some .local := k'
      rcases S.free _ (PySem.mem_of_lookup k) rfl with k2 | k2 <;> rw [show X.env.scope.names.lookup p.1 = _ from k2] at k' <;> cases k'
    · rw [c1] at e'
      cases e'
      exact cellK z
  · obtain ⟨w', z⟩ := I.cell y c (cm e)
    exact ⟨w', cellK z⟩
  · have hq : q ∈ ([] : List (Addr × Obj)) ++ [(a, ob)] := hq
    rw [List.nil_append, List.mem_singleton] at hq
    subst hq
    exact ⟨hob, I.hok.fresh ha, haC, nofr a ha, hnc⟩
  · show (genσ tgs caps σ).length = (genN tgs caps).length
    unfold genσ genN
    simp
  · have hq : q ∈ ([] : List (Addr × Obj)) ++ [(a, ob)] := hq
    rw [List.nil_append, List.mem_singleton] at hq
    subst hq
    exact pinA b hb
/-- what the generator's frame knows at first -/
theorem gen_envok {K : PySem.W.Frag} {I0 : Hp} {env : DL.Env} {tgs : List Str} {caps : List (Str × Nat)} (ok : EnvOk K g I0 H σ env) : EnvOk K g I0 H (genσ tgs caps σ) (capE tgs caps env) := by
  have noown : ∀ (i : Nat) (z : Slot), (capE tgs caps env)[i]? = some z → z.own = false := fun i z e => by
    unfold capE at e
    by_cases hi : i < tgs.length
    · rw [List.getElem?_append_left (by simpa using hi), List.getElem?_map] at e
      cases e1 : tgs[i]? with
      | none => rw [e1] at e; cases e
      | some t => rw [e1] at e; cases e; rfl
    · rw [List.getElem?_append_right (by simp; omega), List.getElem?_map, List.length_map] at e
      cases e1 : caps[i - tgs.length]? with
      | none => rw [e1] at e; cases e
      | some p =>
        rw [e1] at e
        have e' : capS env[p.2]? = z := Option.some.inj e
        subst e'
        unfold capS
        split <;> rfl
  refine ⟨ok.sub, ok.nt, ok.tabs, by unfold genσ capE; simp, fun i z x e1 e2 => ?_, fun i j z z' a e1 e2 h1 => by rw [noown i z e1] at h1; cases h1⟩
  unfold capE at e1
  unfold genσ at e2
  by_cases hi : i < tgs.length
  · rw [List.getElem?_append_left (by simpa using hi), List.getElem?_map] at e1
    cases e3 : tgs[i]? with
    | none => rw [e3] at e1; cases e1
    | some t => rw [e3] at e1; cases e1; trivial
  · rw [List.getElem?_append_right (by simp; omega), List.getElem?_map, List.length_map] at e1 e2
    cases e3 : caps[i - tgs.length]? with
    | none => rw [e3] at e1; cases e1
    | some p =>
      rw [e3] at e1 e2
      have e1' : capS env[p.2]? = z := Option.some.inj e1
      have e2' : (σ[p.2]?).join = x := Option.some.inj e2
      subst e1' e2'
      cases e4 : env[p.2]? with
      | none => trivial
      | some z =>
        cases z with
        | im d =>
          obtain ⟨y, hy, hs⟩ := ok.lk e4
          rw [hy]
          exact hs
        | _ => trivial
end
end DL
set_option Elab.async false
set_option linter.all false
set_option maxRecDepth 100000
set_option maxHeartbeats 4000000
set_option autoImplicit false
namespace DL
open PySem PySem.Spec PyProof.Rows L2 LamX
/-! ### what a generator's truths come to -/
def ownF (e : DL.Env) : Bool := e.all fun s => !s.own
def genRun (c : Bool) (vs : List Nat) (f : D → M Unit) (m : M D) : List D → DL.Env → Option Bool
  | [], _ => some c
  | x :: xs, e => if ownF e = true then (match f x e with
      | .ok _ e1 => (match m e1 with
        | .ok (.bl b) e2 => if b = c then genRun c vs f m xs (wipeE e2 vs) else some (!c)
        | _ => none)
      | _ => none) else none
section
variable {K : PySem.W.Frag} {g : Gx} {W : WX} {I H I1 H1 I2 H2 : Hp} {σ σ1 : L2.St} {env env1 : DL.Env}
theorem own_free {e : DL.Env} (h : ownF e = true) {a : Addr} : ¬ Own σ e a := fun ⟨i, s, h1, h2, _⟩ => by
  have := List.all_eq_true.mp h s (List.mem_of_getElem? h1)
  rw [h2] at this; cases this
theorem fst_refl (ok : EnvOk K g I H σ env) : Fst K g none I H I H := ⟨ok.sub, ok.nt, ok.tabs, Le.refl I, fun _ _ e _ _ => e, fun _ h => h, fun _ h => .inl h⟩
theorem fst_step (a : Fst K g none I H I1 H1) (ho : ownF env = true) (b : Stp K g I1 H1 σ env I2 H2 σ1 env1) : Fst K g none I H I2 H2 where
  sub := b.ok.sub
  nt := b.ok.nt
  tabs := b.ok.tabs
  le := a.le.trans b.sub
  keep := fun x o e n t => b.keep x o (a.keep x o e n t) (own_free ho) t
  there := fun x h => a.there x (b.there x h)
  fresh := fun x h => by
    rcases b.fresh x h with q | q | q
    · exact a.fresh x q
    · exact .inr (a.there x q)
    · exact absurd q (own_free ho)
theorem ok_wipe {vs : List Nat} (ok : EnvOk K g I H σ env) : EnvOk K g I H σ (wipeE env vs) := by
  have at_ : ∀ (i : Nat) (s : Slot), (wipeE env vs)[i]? = some s → s = .no ∨ env[i]? = some s := fun i s e => by
    by_cases hi : i ∈ vs
    · exact .inl (wipeE_in hi e)
    · rw [wipeE_out hi] at e; exact .inr e
  refine ⟨ok.sub, ok.nt, ok.tabs, by rw [wipeE_len]; exact ok.len, fun i s x e1 e2 => ?_, fun i j s s' a e1 e2 o1 o2 h1 h2 => ?_⟩
  · rcases at_ i s e1 with rfl | q
    · trivial
    · exact ok.slot i s x q e2
  · rcases at_ i s e1 with rfl | q1
    · cases o1
    · rcases at_ j s' e2 with rfl | q2
      · cases o2
      · exact ok.sep i j s s' a q1 q2 o1 o2 h1 h2
end
section
variable {X : Cx} {g : Gx} {A1 : Around} {N' : List Str} {cenv : PySem.Env} {fp : List Addr} {s0 : Shared} {H0 : Hp}
theorem gen_takes : Takes (genCx X A1 N' cenv fp s0 H0) W0 := fun u s' ⟨a, B, sI, pins, σ, H, cls, d, e, I, nb, up, sky, na, os, ag, w⟩ => w.elim
/-- where the generator stands ahead of item i -/
def GJ (X : Cx) (g : Gx) (A1 : Around) (N' : List Str) (cenv : PySem.Env) (fp : List Addr) (s0 : Shared) (H0 : Hp) (pins : List (Addr × Obj)) (tn : Nat → Heap → Prop) (I1 : Hp) (c : Bool) (vs : List Nat) (f : D → M Unit) (m : M D) (ds : List D) (r : Bool) (i : Nat) (s : Shared) : Prop :=
  ∃ σ' H' I' e, Inv (genCx X A1 N' cenv fp s0 H0) pins σ' H' s ∧ EnvOk X.K g I' H' σ' e ∧ Fst X.K g none I1 H0 I' H' ∧ tn i s.heap ∧ (∀ b ∈ fp, H' b = none) ∧ genRun c vs f m (ds.drop i) e = some r
def GE (X : Cx) (g : Gx) (A1 : Around) (N' : List Str) (cenv : PySem.Env) (fp : List Addr) (s0 : Shared) (H0 : Hp) (pins : List (Addr × Obj)) (I1 : Hp) (p : Prop) (s : Shared) : Prop :=
  p ∧ ∃ σ' H' I', Inv (genCx X A1 N' cenv fp s0 H0) pins σ' H' s ∧ Fst X.K g none I1 H0 I' H'
theorem gen_turns {A0 : Around} {tg elt : Expr} {pins : List (Addr × Obj)} {it : Addr} {tn : Nat → Heap → Prop} {Jt : It} {I1 : Hp} {c : Bool} {vs : List Nat} {f : D → M Unit} {m : M D} {ds : List D} {r : Bool}
    (T : Turn X.prog X.w X.K tg Jt fp it tn) (hfp : ∀ b ∈ fp, FpOk (genCx X A1 N' cenv fp s0 H0) pins H0 b) (wk : Walk X.K g I1 Jt ds) (hg : DG (genCx X A1 N' cenv fp s0 H0) g tg f) (he : DE (genCx X A1 N' cenv fp s0 H0) g W0 elt m) :
    GTurns X.prog X.w A1 A0 cenv tg elt it c ds.length (GJ X g A1 N' cenv fp s0 H0 pins tn I1 c vs f m ds r) (GE X g A1 N' cenv fp s0 H0 pins I1 (r = !c)) (GE X g A1 N' cenv fp s0 H0 pins I1 (r = c)) where
  step := by
    rintro i s hi ⟨σ', H', I', e, Iv, ok, fs, st, fr, hr⟩
    have stat : ∀ {H'' : Hp}, (∀ b ∈ fp, H'' b = none) → ∀ b ∈ fp, FpOk (genCx X A1 N' cenv fp s0 H0) pins H'' b := fun hn b hb => ⟨hn b hb, (hfp b hb).2⟩
    have hd : ds.drop i = ds[i] :: ds.drop (i + 1) := List.drop_eq_getElem_cons hi
    obtain ⟨go, yl⟩ := (wk i I' H' σ' e fs.le ok).1 ds[i] (List.getElem?_eq_getElem hi)
    rw [hd] at hr
    unfold genRun at hr
    by_cases ho : ownF e = true
    · rw [if_pos ho] at hr
      refine thn (T.item (genCx X A1 N' cenv fp s0 H0) rfl rfl rfl rfl i pins s σ' H' noX Iv (stat fr) st go) fun rr s4 ⟨u, hu, h4⟩ => ⟨u, hu, ?_⟩
      refine thn h4 fun _ s5 ⟨x, H5, I5, r5, y5, st5, fr5⟩ => ?_
      obtain ⟨I2, s2, rx⟩ := yl x H5 y5
      have I5' := I5.pinned (stat fr5) (T.obj _ _ st5)
      cases e1 : f ds[i] e with
      | bad => rw [e1] at hr; cases hr
      | err cc env' => rw [e1] at hr; cases hr
      | ok uu env1 =>
        rw [e1] at hr
        dsimp only at hr
        cases e2 : m env1 with
        | bad => rw [e2] at hr; cases hr
        | err cc env' => rw [e2] at hr; cases hr
        | ok d env2 =>
          rw [e2] at hr
          cases d with
          | bl b =>
            dsimp only at hr
            have tG : trG X.K g f x σ' H5 (fun σ6 H6 => ∃ I6, Stp X.K g I2 H5 σ' e I6 H6 σ6 env1) := ⟨I2, e, ds[i], s2.ok, rx, by rw [e1]; exact fun σ6 I6 H6 q => ⟨I6, q⟩⟩
            refine thn (hg.run _ s5 σ' H5 x u _ I5' r5 tG) fun _ s6 ⟨σ6, H6, I6v, I6, q6⟩ => ?_
            have tE : tr X.K g W0 (RD X.K g) m σ6 H6 (fun v H7 => ∃ I7, StpE X.K g I6 H6 σ6 env1 I7 H7 σ6 env2 ∧ v = .bl b) := ⟨I6, env1, q6.ok, by
              rw [e2]
              exact fun v I7 H7 q rv => ⟨I7, q, rep_bl.mp rv⟩⟩
            refine thn (he.run _ s6 σ6 H6 _ I6v tE) fun y s7 ⟨v, H7, I7v, rv, I7, q7, ev⟩ => ?_
            subst ev
            have ry : y = .bool b := rv
            subst ry
            have stp : Stp X.K g I' H' σ' e I7 H7 σ6 env2 := (s2.weak.trans q6).trans q7.weak
            have fs' := fst_step fs ho stp
            refine ⟨b, rfl, fun hb => ?_, fun hb => ?_⟩
            · rw [if_pos hb] at hr
              refine ⟨σ6, H7, I7, wipeE env2 vs, I7v.unpinned, ok_wipe stp.ok, fs', T.keep _ _ _ st5 fun b hb o e => (I7v.pin (b, o) (List.mem_append_right _ (List.mem_append_right _ (mem_pinsAt hb e)))).1, fun b hb => ?_, hr⟩
              obtain ⟨o, e, d⟩ := T.obj _ _ st5 b hb
              exact (I7v.pin (b, o) (List.mem_append_right _ (List.mem_append_right _ (mem_pinsAt hb e)))).2.1
            · rw [if_neg hb] at hr
              exact ⟨(Option.some.inj hr).symm, σ6, H7, I7, I7v.unpinned, fs'⟩
          | _ => cases hr
    · rw [if_neg ho] at hr; cases hr
  stop := by
    rintro s ⟨σ', H', I', e, Iv, ok, fs, st, fr, hr⟩
    have stat : ∀ {H'' : Hp}, (∀ b ∈ fp, H'' b = none) → ∀ b ∈ fp, FpOk (genCx X A1 N' cenv fp s0 H0) pins H'' b := fun hn b hb => ⟨hn b hb, (hfp b hb).2⟩
    rw [List.drop_length] at hr
    unfold genRun at hr
    have stop := (wk ds.length I' H' σ' e fs.le ok).2 (Nat.le_refl _)
    exact thn (T.done (genCx X A1 N' cenv fp s0 H0) rfl rfl rfl rfl ds.length pins s σ' H' noX Iv (stat fr) st stop) fun rr s4 ⟨hu, I4⟩ => ⟨hu, (Option.some.inj hr).symm, σ', H', I', I4, fs⟩
  self := fun s Q E ⟨σ', H', I', e, Iv, ok, fs, st, fr, hr⟩ hQ => T.self A0 0 s Q E st hQ
theorem bare_set {s : Shared} {gi : Nat} {x : GenState} (h : AllBare s.gens) (hx : x.bare = true) : AllBare (s.setGen gi x).gens := fun y hy => by
  have hy : y ∈ s.gens.setIfInBounds gi x := hy
  rcases Array.mem_or_eq_of_mem_setIfInBounds hy with q | q
  · exact h y q
  · rw [q]; exact hx
/-- the generator's object -/
theorem gen_obj {a gi : Nat} {t1 t2 : Tok} {q1 q2 : Str} {pins : List (Addr × Obj)} {tn : Nat → Heap → Prop} {I1 : Hp} {c : Bool} {vs : List Nat} {f : D → M Unit} {m : M D} {ds : List D} {r : Bool} {p1 p2 : Prop}
    (hp : ∀ q ∈ pins, q = (a, ({ cls := .type "generator", data := .fields #[.int gi 0, .str q1 t1, .str q2 t2] } : Obj))) (hne : pins ≠ []) :
    GObj a gi (GJ X g A1 N' cenv fp s0 H0 pins tn I1 c vs f m ds r) (GE X g A1 N' cenv fp s0 H0 pins I1 p1) (GE X g A1 N' cenv fp s0 H0 pins I1 p2) where
  is := by
    rintro j s ⟨σ', H', I', e, Iv, ok, fs, st, fr, hr⟩
    refine ⟨?_, Iv.nolimit⟩
    cases pins with
    | nil => exact absurd rfl hne
    | cons q qs =>
      have hq := hp q List.mem_cons_self
      have := (Iv.pin q (List.mem_append_right _ List.mem_cons_self)).1
      rw [hq] at this
      exact ⟨_, _, _, this, rfl, rfl, rfl⟩
  set := by
    rintro j s x hx ⟨σ', H', I', e, Iv, ok, fs, st, fr, hr⟩
    exact ⟨σ', H', I', e, inv_gens (h' := s.heap) (t' := s.toks) (s' := s.setGen gi x) Iv rfl rfl (bare_set Iv.bare hx), ok, fs, st, fr, hr⟩
  sets := by
    rintro s x hx ⟨hp, σ', H', I', Iv, fs⟩
    exact ⟨hp, σ', H', I', inv_gens (h' := s.heap) (t' := s.toks) (s' := s.setGen gi x) Iv rfl rfl (bare_set Iv.bare hx), fs⟩
  setx := by
    rintro s x h' hx ⟨hp, σ', H', I', Iv, fs⟩ hk
    exact ⟨hp, σ', H', I', (inv_gens (h' := s.heap) (t' := s.toks) (s' := s.setGen gi x) Iv rfl rfl (bare_set Iv.bare hx)).kept (t' := s.toks) hk, fs⟩
end
end DL
set_option Elab.async false
set_option linter.all false
set_option maxRecDepth 100000
set_option maxHeartbeats 4000000
set_option autoImplicit false
namespace DL
open PySem PySem.Spec PyProof.Rows L2 LamX
structure FinC (P : Program) (w : World) (x : Str) (c : Bool) : Prop where
  ex : ∃ id : String, bootBuiltins x = some (.builtin id) ∧ ∀ (A : Around) (a gi n : Nat) (J : Nat → Shared → Prop) (Js Jx : Shared → Prop) (Q : Value → Shared → Prop) (E : Value → Shared → Prop) (s : Shared), A.handled = none → A.depth < recursionLimit → GObj a gi J Js Jx → GAt P w A.in1 gi c n J Js Jx 0 s →
    (∀ s', Jx s' → Q (.bool c) s') → (∀ s', Js s' → Q (.bool (!c)) s') → wpAny (model P w) A (call (.builtin id) [.ref a]) Q E s
theorem finC_all {P : Program} {w : World} : FinC P w "all" true := ⟨"all", boot_all, fun A a gi n J Js Jx Q E s hh hd O h h1 h2 => call_allG hh hd O h h1 h2⟩
theorem finC_any {P : Program} {w : World} : FinC P w "any" false := ⟨"any", boot_any, fun A a gi n J Js Jx Q E s hh hd O h h1 h2 => call_anyG hh hd O h h1 h2⟩
/-- any (c: false), all (c: true) of a generator expression -/
def genM (c : Bool) (tgs : List Str) (caps : List (Str × Nat)) (vs : List Nat) (f : D → M Unit) (m : M D) (src : M (List D)) : M D := bnd src fun ds env => match genRun c vs f m ds (capE tgs caps env) with
  | some b => .ok (.bl b) env
  | none => .bad
theorem genEnv_frames {A : Around} {elt tg iter : Expr} {gpos : Pos} {it : Value} {scope : Scope} {cl : List (Str × Addr)} {C : Addr} {code : Value} {env : PySem.Env} {stack : List PySem.Env} (h : A.frames = some stack) :
    (A.in1.in1.over (.compLoop (.GeneratorExp elt [⟨tg, iter, [], 0⟩] scope gpos) 0 it .none (genEnv scope cl C code builtinsNs env)) []).frames = some (genEnv scope cl C code builtinsNs env :: stack) := by
  have e : A.in1.in1.frames = some stack := h
  show pushEnvs (Code.compLoop (.GeneratorExp elt [⟨tg, iter, [], 0⟩] scope gpos) 0 it .none (genEnv scope cl C code builtinsNs env)).envs (pushEnvs (envsOf (List.map Frame.where_ [])) A.in1.in1.frames) = _
  rw [e]
  rfl
section
variable {X : Cx} {g : Gx} {W : WX} {p pos gpos : Pos} {k : Nat} {elt iter tg : Expr} {x : Str} {scope : Scope} {c : Bool} {tgs : List Str} {caps : List (Str × Nat)} {vs : List Nat} {f : D → M Unit} {m : M D} {src : M (List D)}
theorem d_genC (hf : FinC X.prog X.w x c) (hg : Gl X x) (hm : X.mg x = none) (hr : Room (k + 1) X.A) (D : GenD X g) (S : GenSN X.env scope tgs caps) (hN : ∀ p ∈ caps, X.N[p.2]? = some p.1) (hi : DI X g W tg iter src)
    (hgT : ∀ (A1 : Around) (C : Addr) (code : Value) (fp : List Addr) (s : Shared) (H : Hp), DG (genCx X A1 (genN tgs caps) (genEnv scope (cloFrom X.env.cells scope.names []) C code builtinsNs X.env) fp s H) g tg f)
    (he : ∀ (A1 : Around) (C : Addr) (code : Value) (fp : List Addr) (s : Shared) (H : Hp), Room k A1 → DE (genCx X A1 (genN tgs caps) (genEnv scope (cloFrom X.env.cells scope.names []) C code builtinsNs X.env) fp s H) g W0 elt m)
    (hs : ∀ v, genFold iter X.env v = pure v := by intro _; rfl)
    (hsp : starEach [.GeneratorExp elt [⟨tg, iter, [], 0⟩] scope gpos] X.env = (false, eval (.GeneratorExp elt [⟨tg, iter, [], 0⟩] scope gpos) X.env) :: starEach [] X.env := by rfl) (hn : x ≠ "__name__" := by decide) (hdb : (x == ("__debug__" : Str)) = false := by decide) :
    DE X g W (.Call (.Name x p) [.GeneratorExp elt [⟨tg, iter, [], 0⟩] scope gpos] [] pos) (genM c tgs caps vs f m src) := by
  obtain ⟨id, hb, hfin⟩ := hf.ex
  refine ⟨fun pins s σ H Q I ⟨I0, env, ok, h⟩ => ?_⟩
  refine wpAny_Call_Name_kw (ld_blt I hg hm hb ?_ hn hdb)
  refine PyProof.Rows.callWith_builtin1 ?_ hsp (by rfl)
  rw [hsp]
  show wpAny _ _ (spliced ((false, eval (.GeneratorExp elt [⟨tg, iter, [], 0⟩] scope gpos) X.env) :: backTo pos (starEach [] X.env))) _ _ s
  have hfree : ∀ y ∈ scope.names, y.2 = .free → ∃ c, X.env.cells.lookup y.1 = some c := fun y hy e => by
    rcases S.free y hy e with k | k
    · exact I.ok.has _ (.inl k)
    · exact I.ok.has _ (.inr k)
  have tI : trI X.K g W src σ H (fun J H' => ∃ I1 env1 ds, StpE X.K g I0 H σ env I1 H' σ env1 ∧ Walk X.K g I1 J ds ∧ Out X.K g W (RD X.K g) I1 H' σ env1 ((match genRun c vs f m ds (capE tgs caps env1) with
      | some b => .ok (.bl b) env1
      | none => .bad : R DL.D)) Q) := by
    refine ⟨I0, env, ok, ?_⟩
    unfold genM bnd at h
    cases e1 : src env with
    | bad => rw [e1] at h; exact h.elim
    | err cc env' => rw [e1] at h; exact h
    | ok ds env1 =>
      rw [e1] at h
      exact fun J I1 H' st wk => ⟨I1, env1, ds, st, wk, Out.trans h st⟩
  refine Calls.spliced_cons (wpAny_GeneratorExp_make S.co (closure_ok hfree) S.cell S.dot S.kind hr.depth (thn (hi.run pins s σ H _ I tI) fun v s1 h1 => thn h1 fun itv s2 h2 => ?_) hs)
  obtain ⟨it, fp, tn, Jt, H1, rfl, I2, T, st2, f2, I1, env1, ds, stp, wk, ho⟩ := h2
  cases hrun : genRun c vs f m ds (capE tgs caps env1) with
  | none => rw [hrun] at ho; exact ho.elim
  | some r =>
    rw [hrun] at ho
    refine ⟨I2.nolimit, gen_code2 I2 D stp.ok.tabs fun code H2 h3 tk I3 eN t3 kN hsz => ?_⟩
    intro h' hns hsb
    refine Calls.spliced_nil ?_
    have kp4 : ∀ b o, h3.get? b = some o → h'.get? b = some o := fun b o e => hsb.extBut b o (Nat.ne_of_lt (Heap.lt_size e)) (Heap.get?_push_of_some _ e)
    have hlt : h3.objs.size < h'.objs.size := hns.lt
    have I3s : Inv X pins σ H2 { s2 with heap := h3, toks := tk } := I3
    have okx := stp.ok.extN eN t3
    have fpo : ∀ b ∈ fp, FpOk X pins H2 b ∧ ∃ o, h3.get? b = some o := fun b hb' => by
      obtain ⟨o, e, _⟩ := T.obj _ _ st2 b hb'
      obtain ⟨q1, q2⟩ := kN b o e (f2 b hb').1
      exact ⟨⟨q2, (f2 b hb').2⟩, o, q1⟩
    have st3 : tn 0 h3 := T.keep _ _ _ st2 fun b hb' o e => (kN b o e (f2 b hb').1).1
    have hrA : Room k (X.A.in1.in1.over (.compLoop (.GeneratorExp elt [⟨tg, iter, [], 0⟩] scope gpos) 0 (.ref it) .none (genEnv scope (cloFrom X.env.cells scope.names []) h3.objs.size code builtinsNs X.env)) []) :=
      ⟨hr.hd, by have := hr.dp; show X.A.depth + 1 + 3 * k + 5 < _; omega, by
        have := hr.un
        have e : (X.A.in1.in1.over (.compLoop (.GeneratorExp elt [⟨tg, iter, [], 0⟩] scope gpos) 0 (.ref it) .none (genEnv scope (cloFrom X.env.cells scope.names []) h3.objs.size code builtinsNs X.env)) []).units ≤ X.A.units + 8 := by
          have e3 : (X.A.in1.in1.over (.compLoop (.GeneratorExp elt [⟨tg, iter, [], 0⟩] scope gpos) 0 (.ref it) .none (genEnv scope (cloFrom X.env.cells scope.names []) h3.objs.size code builtinsNs X.env)) []).units ≤ X.A.in1.in1.units + 3 := Nat.le_of_eq rfl
          have e4 : X.A.in1.in1.units = X.A.units + 1 + 1 := rfl
          omega
        omega⟩
    obtain ⟨I5, f5⟩ := gen_inv (A1 := X.A.in1.in1.over (.compLoop (.GeneratorExp elt [⟨tg, iter, [], 0⟩] scope gpos) 0 (.ref it) .none (genEnv scope (cloFrom X.env.cells scope.names []) h3.objs.size code builtinsNs X.env)) [])
      (code := code) (C := h3.objs.size) (a := h'.objs.size) (fp := fp) (ob := { cls := .type "generator", data := .fields #[.int s2.gens.size 0, .str "<genexpr>" (tk + 1), .str (X.env.qual ++ "<genexpr>") (tk + 1 + 1)] })
      (s5 := { s2 with gens := s2.gens.push (.fresh (.compStart (.GeneratorExp elt [⟨tg, iter, [], 0⟩] scope gpos) 0 (.ref it) .none (genEnv scope (cloFrom X.env.cells scope.names []) h3.objs.size code builtinsNs X.env))), toks := tk + 1 + 1 + 1, heap := h'.push { cls := .type "generator", data := .fields #[.int s2.gens.size 0, .str "<genexpr>" (tk + 1), .str (X.env.qual ++ "<genexpr>") (tk + 1 + 1)] } })
      I3s S hN hr.hd (genEnv_frames I.ok.frames) (Nat.le_refl _) (Nat.le_of_lt hlt) (Nat.ne_of_gt hlt) (Heap.get?_push_size _ rfl) (fun v z => nomatch z) ⟨_, hns.push _⟩ (fun b o e => Heap.get?_push_of_some _ (kp4 b o e)) rfl (I2.bare.push rfl) fpo
    have turns := gen_turns (c := c) (vs := vs) (r := r) (A0 := X.A.in1.in1.over (.compStart (.GeneratorExp elt [⟨tg, iter, [], 0⟩] scope gpos) 0 (.ref it) .none (genEnv scope (cloFrom X.env.cells scope.names []) h3.objs.size code builtinsNs X.env)) []) T f5 wk (hgT _ _ _ _ _ _) (he _ _ _ _ _ _ hrA)
    have O := gen_obj (X := X) (g := g) (A1 := X.A.in1.in1.over (.compLoop (.GeneratorExp elt [⟨tg, iter, [], 0⟩] scope gpos) 0 (.ref it) .none (genEnv scope (cloFrom X.env.cells scope.names []) h3.objs.size code builtinsNs X.env)) []) (N' := genN tgs caps) (cenv := genEnv scope (cloFrom X.env.cells scope.names []) h3.objs.size code builtinsNs X.env) (fp := fp)
      (s0 := { s2 with heap := h3, toks := tk }) (H0 := H2) (tn := tn) (I1 := I1) (c := c) (vs := vs) (f := f) (m := m) (ds := ds) (r := r) (p1 := (r = !c)) (p2 := (r = c)) (pins := [(h'.objs.size, { cls := .type "generator", data := .fields #[.int s2.gens.size 0, .str "<genexpr>" (tk + 1), .str (X.env.qual ++ "<genexpr>") (tk + 1 + 1)] })])
      (fun q hq => List.mem_singleton.mp hq) (by simp)
    have ends : ∀ {p : Prop} {s' : Shared}, GE X g (X.A.in1.in1.over (.compLoop (.GeneratorExp elt [⟨tg, iter, [], 0⟩] scope gpos) 0 (.ref it) .none (genEnv scope (cloFrom X.env.cells scope.names []) h3.objs.size code builtinsNs X.env)) []) (genN tgs caps) (genEnv scope (cloFrom X.env.cells scope.names []) h3.objs.size code builtinsNs X.env) fp { s2 with heap := h3, toks := tk } H2
        [(h'.objs.size, { cls := .type "generator", data := .fields #[.int s2.gens.size 0, .str "<genexpr>" (tk + 1), .str (X.env.qual ++ "<genexpr>") (tk + 1 + 1)] })] I1 p s' → p ∧ EP X pins σ Q (.bool r) s' := fun {p s'} ⟨hp, σ', H3, I4, Iv, fs⟩ => by
      refine ⟨hp, .bl r, H3, I3s.call' (s' := s') (ch := fp) Iv.os Iv.base Iv.hok Iv.bare (fun b hb' => ⟨(fpo b hb').1.2.2.2.1, (fpo b hb').1.2.1, (fpo b hb').1.2.2.2.2.1, (fpo b hb').1.2.2.2.2.2⟩), rfl, ?_⟩
      exact ho (.bl r) I4 H3 (okx.trans (okx.ok.call fs)) (rep_bl.mpr rfl)
    refine hfin X.A _ s2.gens.size ds.length _ _ _ _ _ _ hr.hd hr.depth O ⟨_, Array.getElem?_push_size, ⟨_, H2, I1, _, I5, gen_envok okx.ok, fst_refl okx.ok, T.keep _ _ _ st3 fun b hb' o e => Heap.get?_push_of_some _ (kp4 b o e), fun b hb' => (fpo b hb').1.1, by rw [List.drop_zero]; exact hrun⟩, fun s'' hJ => ⟨rfl, by rw [Nat.sub_zero]; exact seg_startG S.co turns s'' s'' hJ⟩⟩ (fun s' hx => ?_) fun s' hx => ?_
    · obtain ⟨hp, q⟩ := ends hx
      rw [hp] at q; exact q
    · obtain ⟨hp, q⟩ := ends hx
      rw [hp] at q; exact q
end
end DL
set_option Elab.async false
set_option linter.all false
set_option maxRecDepth 100000
set_option maxHeartbeats 4000000
set_option autoImplicit false
namespace DL
open PySem PySem.Spec PyProof.Rows L2 LamX
/-! ### zip of two lists, of two tuples -/
def zipD (a b : List D) : List D := (a.zip b).map fun p => .tup [p.1, p.2]
def zipM (m : M (List D)) : M (List D) := bnd m fun ds => match ds with
  | [.lst a, .lst b] => ret (zipD a b)
  | [.tup a, .tup b] => ret (zipD a b)
  | _ => DL.bad
theorem zipD_at {a b : List D} {i : Nat} {d : D} (h : (zipD a b)[i]? = some d) : ∃ x y, a[i]? = some x ∧ b[i]? = some y ∧ d = .tup [x, y] := by
  unfold zipD at h
  rw [List.getElem?_map] at h
  obtain ⟨⟨x, y⟩, h1, rfl⟩ := Option.map_eq_some_iff.mp h
  rw [List.getElem?_zip_eq_some] at h1
  exact ⟨x, y, h1.1, h1.2, rfl⟩
theorem zipD_len {a b : List D} : (zipD a b).length = min a.length b.length := by unfold zipD; rw [List.length_map, List.length_zip]
theorem zip_new {K : PySem.W.Frag} {g : Gx} {I H H1 : Hp} {σ : L2.St} {env : DL.Env} {T : Addr} {x y : V} {dx dy : D} (ok : EnvOk K g I H σ env) (hT : H T = none) (e : H1 = upd H T (.tup [x, y])) (r1 : Rep K g I dx x) (r2 : Rep K g I dy y) :
    ∃ I1, StpE K g I H σ env I1 H1 σ env ∧ Rep K g I1 (.tup [dx, dy]) (.ref T) := by
  subst e
  have st := EnvOk.new (ee := True) ok (o := .tup [x, y]) hT (fun _ z => nomatch z)
  refine ⟨_, st, rep_tup.mpr ⟨T, [x, y], rfl, SqT.of upd_same, reps_cons.mpr ⟨x, [y], rfl, Rep.mono st.sub r1, reps_cons.mpr ⟨y, [], rfl, Rep.mono st.sub r2, reps_nil.mpr rfl⟩⟩⟩⟩
theorem walk_zipL {K : PySem.W.Frag} {g : Gx} {I : Hp} {p q : Addr} {vs us : List V} {ds es : List D} (hp : I p = some (.lst vs)) (hq : I q = some (.lst us)) (r : Reps K g I ds vs) (r' : Reps K g I es us) : Walk K g I (Itz K p q) (zipD ds es) := fun i I' H' σ env le ok => by
  have h1 : SqL K H' p vs := SqL.of (ok.sub.get (le _ _ hp) rfl)
  have h2 : SqL K H' q us := SqL.of (ok.sub.get (le _ _ hq) rfl)
  refine ⟨fun d hd => ?_, fun hl => ⟨vs, us, h1, h2, ?_⟩⟩
  · obtain ⟨dx, dy, e1, e2, rfl⟩ := zipD_at hd
    obtain ⟨v, hv, rv⟩ := r.get e1
    obtain ⟨u, hu, ru⟩ := r'.get e2
    refine ⟨⟨vs, us, v, u, h1, h2, hv, hu⟩, fun x H1 ⟨T, x', y', ex, hT, e, y1, y2⟩ => ?_⟩
    subst ex
    have q1 := y1 vs h1
    have q2 := y2 us h2
    rw [hv] at q1; cases q1
    rw [hu] at q2; cases q2
    exact zip_new ok hT e (Rep.mono le rv) (Rep.mono le ru)
  · rw [zipD_len, r.length, r'.length] at hl
    omega
theorem walk_zipT {K : PySem.W.Frag} {g : Gx} {I : Hp} {p q : Addr} {vs us : List V} {ds es : List D} (hp : SqT K I p vs) (hq : SqT K I q us) (r : Reps K g I ds vs) (r' : Reps K g I es us) : Walk K g I (RZ.ItzT K p q) (zipD ds es) := fun i I' H' σ env le ok => by
  have h1 : SqT K H' p vs := sub_t ok.sub (le_t le hp)
  have h2 : SqT K H' q us := sub_t ok.sub (le_t le hq)
  refine ⟨fun d hd => ?_, fun hl => ⟨vs, us, h1, h2, ?_⟩⟩
  · obtain ⟨dx, dy, e1, e2, rfl⟩ := zipD_at hd
    obtain ⟨v, hv, rv⟩ := r.get e1
    obtain ⟨u, hu, ru⟩ := r'.get e2
    refine ⟨⟨vs, us, v, u, h1, h2, hv, hu⟩, fun x H1 ⟨T, x', y', ex, hT, e, y1, y2⟩ => ?_⟩
    subst ex
    have q1 := y1 vs h1
    have q2 := y2 us h2
    rw [hv] at q1; cases q1
    rw [hu] at q2; cases q2
    exact zip_new ok hT e (Rep.mono le rv) (Rep.mono le ru)
  · rw [zipD_len, r.length, r'.length] at hl
    omega
section
variable {X : Cx} {g : Gx} {W : WX} {p pos tpos : Pos} {a b : Expr} {elts : List Expr} {kk : Nat} {mas : M (List D)}
theorem i_zip (hg : Gl X "zip") (hm : X.mg "zip" = none) (ha : DA X g W [a, b] mas)
    (hs : starEach [a, b] X.env = (false, eval a X.env) :: starEach [b] X.env := by rfl) (hpl : (backTo pos (starEach [b] X.env)).any (·.1) = false := by rfl) :
    DI X g W (.Tuple elts kk tpos) (.Call (.Name "zip" p) [a, b] [] pos) (zipM mas) :=
  pi_imp (RZ.pi_zipA hg hm ha hs hpl) fun σ H Q ⟨I, env, ok, h⟩ => trI_bnd (α' := D) (Rr := RL X.K g) ok h fun vs ds I1 H1 env1 st r h1 => by
    match ds, r, h1 with
    | [], r, h1 => exact h1.elim
    | [d], r, h1 => cases d <;> exact False.elim h1
    | d :: d' :: _ :: _, r, h1 => cases d <;> cases d' <;> exact False.elim h1
    | [d, d'], r, h1 =>
      cases d <;> first | (exact False.elim h1) | skip
      · cases d' <;> first | (exact False.elim h1) | skip
        rename_i a b
        obtain ⟨u, us, rfl, r1, r2⟩ := reps_cons.mp r
        obtain ⟨u2, us2, rfl, r3, r4⟩ := reps_cons.mp r2
        obtain rfl := reps_nil.mp r4
        obtain ⟨p1, v1, rfl, e2, e3⟩ := rep_tup.mp r1
        obtain ⟨p2, v2, rfl, e4, e5⟩ := rep_tup.mp r3
        exact ⟨p1, p2, v1, v2, rfl, .inr ⟨sub_t st.ok.sub e2, sub_t st.ok.sub e4, h1 _ I1 H1 (StpP.refl st.ok) (walk_zipT e2 e4 e3 e5)⟩⟩
      · cases d' <;> first | (exact False.elim h1) | skip
        rename_i a b
        obtain ⟨u, us, rfl, r1, r2⟩ := reps_cons.mp r
        obtain ⟨u2, us2, rfl, r3, r4⟩ := reps_cons.mp r2
        obtain rfl := reps_nil.mp r4
        obtain ⟨p1, v1, rfl, e2, e3⟩ := rep_lst.mp r1
        obtain ⟨p2, v2, rfl, e4, e5⟩ := rep_lst.mp r3
        exact ⟨p1, p2, v1, v2, rfl, .inl ⟨SqL.of (st.ok.sub.get e2 rfl), SqL.of (st.ok.sub.get e4 rfl), h1 _ I1 H1 (StpP.refl st.ok) (walk_zipL e2 e4 e3 e5)⟩⟩
end
end DL
set_option Elab.async false
set_option linter.all false
set_option maxRecDepth 100000
set_option maxHeartbeats 4000000
set_option autoImplicit false
namespace DL
open PySem PySem.Spec PyProof.Rows L2 LamX
/-! ### min of three whole numbers -/
section
variable {prog : Program} {w : World} {A : Around} {E : Value → Shared → Prop} {z : Shared}
theorem max3_args (a b c : Value) : argsOk "max" ⟨[a, b, c], []⟩ := by
  unfold argsOk
  kernel_rfl
/-- the walk over the tuple of the five -/
theorem max3_call {a b c : Value} {G : Value → Shared → Prop}
    (go : wpAny (model prog w) A.in1 (pyIter (.ref z.heap.objs.size))
      (fun it y => ∃ J low wr n P St lt, it = .ref J ∧ Walks prog w A.in1 J low wr n P St ∧ St 0 y.heap ∧ (∀ q ∈ low, q < y.heap.objs.size) ∧ 0 < n
        ∧ CmpOf prog w A.in1 .Gt P lt ∧ ∀ v k tk, P (argBest lt (n - 1)) v → (∀ q o, q ∉ wr → y.heap.get? q = some o → k.get? q = some o) → G v { y with heap := k, toks := tk })
      E { z with heap := z.heap.push { cls := .type "tuple", data := .seq #[a, b, c] } }) :
    wpAny (model prog w) A (call (.builtin "max") [a, b, c]) G E z := by
  have nm : (toString "max" ++ toString ".loop" : String) = "max.loop" := by
    decide
  refine call_function_tree F.kind_max F.plain_max F.entry_max (max3_args a b c) ?_
  show wpAny _ A.in1 (Builtin.Builtins.bindParams "max" ["key", "default"] 0 ⟨[], []⟩ >>= _) _ E z
  refine wpAny_bind (wpAny_of_eq
    (show Builtin.Builtins.bindParams "max" ["key", "default"] 0 ⟨[], []⟩
      = pure [none, none] from rfl) ?_)
  show wpAny _ A.in1 (newTuple [a, b, c] >>= _) _ E z
  refine wpAny_bind (wpAny_newObj_type ?_)
  refine wpAny_bind (wpAny_mono go (fun it y hy => ?_) fun _ _ x => x)
  obtain ⟨J, low, wr, n, P, St, lt, rfl, wk, st, hlow, hn, hlt, hG⟩ := hy
  refine wpAny_bind (wpAny_newObj_type ?_)
  have out : y.heap.objs.size ∉ low := fun hm => absurd (hlow _ hm) (Nat.lt_irrefl _)
  rw [nm]
  refine wpAny_pure ⟨plainId_quiet F.plain_max_loop _, ?_⟩
  refine codeAny_max_loop_first wk lt hlt y.heap.objs.size out hn
    (wk.frame _ _ _ st fun _ _ _ g => Heap.get?_push_of_some _ g) (Heap.get?_push_size _ rfl) ?_
  intro v k tk hp hk
  exact hG v k tk hp fun q o nw g => hk q o nw
    (Nat.ne_of_lt (Heap.lt_size g)) (Heap.get?_push_of_some _ g)
/-- .. the least of them -/
theorem max3_most {xs : Array (Int × Tok)} {p1 p2 p3 : Int × Tok} {G : Value → Shared → Prop} (hh : A.handled = none) (hx : xs = #[p1, p2, p3])
    (go : ∀ k tk m t, (∀ q o, z.heap.get? q = some o → k.get? q = some o) → m ∈ [p1.1, p2.1, p3.1] → (∀ y, y ∈ [p1.1, p2.1, p3.1] → y ≤ m) → G (.int m t) { z with heap := k, toks := tk }) :
    wpAny (model prog w) A (call (.builtin "max") [.int p1.1 p1.2, .int p2.1 p2.2, .int p3.1 p3.2]) G E z := by
  have tup : (z.heap.push { cls := .type "tuple", data := .seq #[.int p1.1 p1.2, .int p2.1 p2.2, .int p3.1 p3.2] }).IsTuple z.heap.objs.size (intItems xs) :=
    ⟨_, Heap.get?_push_size _ rfl, rfl, 0, by subst hx; simp [intItems]⟩
  have three : xs.size = 3 := by subst hx; rfl
  have nx : (intItems xs).size = 3 := by simp [intItems, three]
  have ml : xs.toList.map (·.1) = [p1.1, p2.1, p3.1] := by subst hx; rfl
  refine max3_call (wpAny_pyIter_tuple tup ?_)
  have up : (z.heap.push { cls := .type "tuple", data := .seq #[.int p1.1 p1.2, .int p2.1 p2.2, .int p3.1 p3.2] }).objs.size = z.heap.objs.size + 1 := Heap.size_push ..
  refine ⟨_, [_, z.heap.objs.size], [_], _, _, _, _, rfl,
    Walks.tuple (A := A.in1) hh _ z.heap.objs.size
      (by rw [up]; exact Nat.ne_of_lt (Nat.lt_succ_self _)) (intItems xs),
    ⟨⟨_, Heap.get?_push_size _ rfl, rfl, rfl⟩, tup.push _⟩, ?_, by omega,
    CmpOf.ints_gt (numAt xs) (fun _ _ => intItems_at), ?_⟩
  · intro q hq
    show q < ((z.heap.push _).push _).objs.size
    rw [Heap.size_push, up]
    rcases List.mem_cons.mp hq with rfl | hq'
    · rw [up]; exact Nat.lt_succ_self _
    · rw [List.mem_singleton.mp hq']
      exact Nat.lt_add_of_pos_right (k := 2) (by decide)
  · intro v k tk hp hk
    obtain ⟨t, rfl⟩ := intItems_at hp
    obtain ⟨b1, b2⟩ := argBest_gt (numAt xs) ((intItems xs).size - 1)
    refine go k tk _ t ?_ ?_ ?_
    · intro q o g
      refine hk q o (fun hm => ?_) (Heap.get?_push_of_some _ (Heap.get?_push_of_some _ g))
      have l := Heap.lt_size g
      rw [List.mem_singleton.mp hm, up] at l
      exact absurd l (Nat.not_lt_of_le (Nat.le_succ _))
    · rw [numAt_eq, ← ml]
      exact PySem.getD_mem (by rw [ml]; show _ < 3; omega)
    · intro y hy
      obtain ⟨j, hj, rfl⟩ := mem_getD hy
      rw [← ml, ← numAt_eq]
      have hj' : j < 3 := hj
      exact b2 j (by omega)
theorem call_max3 {X : Cx} (hc : X.calm = true) : CallR X (.builtin "max") (fun xs H Q => ∃ ns : List Int, xs = ns.map V.int ∧ ns.length = 3 ∧ ∀ m, m ∈ ns → (∀ y, y ∈ ns → y ≤ m) → Q (.int m) H) := by
  intro pins s σ H vs us Q I r h
  obtain ⟨ns, rfl, h5, q⟩ := h
  obtain ⟨n1, n2, n3, rfl⟩ : ∃ a b c, ns = [a, b, c] := by
    match ns, h5 with
    | [a, b, c], _ => exact ⟨a, b, c, rfl⟩
  cases r with
  | cons r1 r =>
    obtain ⟨v4, v5, rfl, r4, r5⟩ := L2.vals2 r
    obtain ⟨t1, rfl⟩ := r1
    obtain ⟨t4, rfl⟩ := r4
    obtain ⟨t5, rfl⟩ := r5
    exact max3_most (p1 := (n1, t1)) (p2 := (n2, t4)) (p3 := (n3, t5)) (I.ok.hd hc) rfl
      fun k tk m t kept h1 h2 => ⟨.int _, H, I.kept kept, ⟨_, rfl⟩, q m h1 h2⟩
end
theorem bc_maxN {X : Cx} (hc : X.calm = true) (hg : Gl X "max") (hm : X.mg "max" = none) : BC X "max" (fun xs H Q => ∃ ns : List Int, xs = ns.map V.int ∧ ns.length = 3 ∧ ∀ m, m ∈ ns → (∀ y, y ∈ ns → y ≤ m) → Q (.int m) H) := bcB (call_max3 hc) hg hm (by decide +kernel)
def dMaxN : List D → Option D
  | ds => (intsD ds).bind fun ns => match ns with
    | [a, b, c] => some (.int (max (max a b) c))
    | _ => none
theorem lc_maxN {K : PySem.W.Frag} {g : Gx} : LkC K g (fun xs H Q => ∃ ns : List Int, xs = ns.map V.int ∧ ns.length = 3 ∧ ∀ m, m ∈ ns → (∀ y, y ∈ ns → y ≤ m) → Q (.int m) H) dMaxN := by
  intro I H σ env x z v Q ok rx hz q
  obtain ⟨ns, h1, h2⟩ := Option.bind_eq_some_iff.mp hz
  rw [intsD_of h1] at rx
  obtain rfl := reps_ints rx
  match ns, h2 with
  | [a, b, c], h2 =>
    cases h2
    refine ⟨[a, b, c], rfl, rfl, fun m hm hall => ?_⟩
    have e1 := hall a (by simp)
    have e2 := hall b (by simp)
    have e3 := hall c (by simp)
    have : m = max (max a b) c := by
      simp only [List.mem_cons, List.not_mem_nil, or_false] at hm
      omega
    rw [this]
    exact q _ I H (StpP.refl ok) (rep_int.mpr rfl)

/-! ### enumerate of a list, of a tuple -/
theorem meets_enumerate_newT (l : Addr) (items : Array Value) (n : Nat) (dct : Option Addr) (sl : Array (Option Value)) :
    Meets (Builtin.«enumerate.__new__» ⟨[.type "enumerate", .ref l], []⟩) (fun _ R s => s.heap.get? l = some { cls := .type "tuple", dict := dct, data := .seq items n, slots := sl } ∧
      R (.ok (.ret (.ref (s.heap.push { cls := .type "tuple_iterator", data := .fields #[.ref l, .int 0 0] }).objs.size)))
        { s with heap := (s.heap.push { cls := .type "tuple_iterator", data := .fields #[.ref l, .int 0 0] }).push { cls := .type "enumerate", data := .fields #[.none, .bool false, .ref s.heap.objs.size, rawInt 0, .none, .none] } }) :=
  .of_wp fun prog w A R s h => by
    obtain ⟨hp, g, d, tk, os⟩ := s; obtain ⟨hl, h⟩ := h
    have hsub := sub_enumerate
    have hL : Heap.IsTuple (Shared.heap ⟨hp, g, d, tk, os⟩) l items := ⟨_, hl, rfl, n, rfl⟩
    wp_walk using AutoSeq1.wpAny_loadPart' hl
    refine wpAny_stack_any fun st => wpAny_pure ?_
    split
    · rename_i c _ _ _ _ _
      cases (c == Value.type "enumerate")
      · wp_walk using AutoSeq1.wpAny_loadPart' hl, wpAny_pyIter_tuple hL
        exact ⟨_, rfl, h⟩
      · wp_walk using AutoSeq1.wpAny_loadPart' hl, wpAny_pyIter_tuple hL
        exact ⟨_, rfl, h⟩
    · wp_walk using AutoSeq1.wpAny_loadPart' hl, wpAny_pyIter_tuple hL
      exact ⟨_, rfl, h⟩
end DL
set_option Elab.async false
set_option linter.all false
set_option maxRecDepth 100000
set_option maxHeartbeats 4000000
set_option autoImplicit false
namespace DL
open PySem PySem.Spec PyProof.Rows L2 LamX
section
variable {prog : Program} {w : World} {A : Around} {E : Value → Shared → Prop} {s : Shared}
theorem call_enumerate_tuple {l : Addr} {items : Array Value} {Q : Value → Shared → Prop} (hL : s.heap.IsTuple l items)
    (h : ∀ h', IsEnum h' (s.heap.objs.size + 1) s.heap.objs.size 0 .none → h'.IsTupleIter s.heap.objs.size l 0 → h'.objs.size = s.heap.objs.size + 2 →
      (∀ b o, s.heap.get? b = some o → h'.get? b = some o) → Q (.ref (s.heap.objs.size + 1)) { s with heap := h' }) :
    wpAny (model prog w) A (call (.type "enumerate") [.ref l]) Q E s := by
  obtain ⟨⟨c, dct, dt, sl⟩, hl, hc, n, hd⟩ := hL
  replace hc : c = .type "tuple" := hc
  replace hd : dt = .seq items n := hd
  subst hc hd
  refine callType_new F.called_enumerate (by decide) (F.typeCall_enumerate_1 _) (F.newCall_enumerate_1 _) (fun obj => F.args_object_init_2 obj _) F.entry_enumerate_new
    (meets_enumerate_newT l items n dct sl) ⟨hl, ?_⟩
  have hz : (s.heap.push { cls := .type "tuple_iterator", data := .fields #[.ref l, .int 0 0] }).objs.size = s.heap.objs.size + 1 := Heap.size_push ..
  show _ ∧ _
  rw [hz]
  have he : IsEnum ((s.heap.push { cls := .type "tuple_iterator", data := .fields #[.ref l, .int 0 0] }).push
      { cls := .type "enumerate", data := .fields #[.none, .bool false, .ref s.heap.objs.size, rawInt 0, .none, .none] }) (s.heap.objs.size + 1) s.heap.objs.size 0 .none := by
    have := Heap.get?_push_size (s.heap.push { cls := .type "tuple_iterator", data := .fields #[.ref l, .int 0 0] })
      (o := { cls := .type "enumerate", data := .fields #[.none, .bool false, .ref s.heap.objs.size, rawInt 0, .none, .none] }) rfl
    rw [hz] at this; exact this
  refine ⟨⟨_, he, rfl⟩, h _ he ⟨_, Heap.get?_push_of_some _ (Heap.get?_push_size _ rfl), rfl, rfl⟩ (by rw [Heap.size_push, hz]) fun b o x => Heap.get?_push_of_some _ (Heap.get?_push_of_some _ x)⟩
theorem pyNext_enum_endT {e it t : Addr} {i : Nat} {items : Array Value} {old : Value} {Q : Option Value → Shared → Prop} (hh : A.handled = none) (he : IsEnum s.heap e it i old) (h1 : s.heap.IsTupleIter it t i) (h2 : s.heap.IsTuple t items) (hx : items[i]? = none)
    (hQ : ∀ h', Heap.ExtBut it s.heap h' → Q none { s with heap := h' }) : wpAny (model prog w) A (pyNext (.ref e)) Q E s := by
  have hT : s.TypeIs (.ref e) "enumerate" := ⟨_, he, rfl⟩
  unfold pyNext
  refine wpAny_bind (wpAny_attempt (wpAny_callSpecial?_slot (name := Str.ofString "__next__") hT F.slot_enumerate_next
    (wpAny_call_entry F.slot_enumerate_next hT F.entry_enumerate_next ?_ (F.args_enumerate_next_1 _))))
  show wpAny _ _ (field (.ref e) 2 >>= _) _ _ _
  refine wpAny_bind (wpAny_field he rfl (x := .ref it) rfl ?_)
  refine wpAny_bind (wpAny_nextOf_tuple_end hh h1 h2 hx fun h' x he' hx' => ?_)
  obtain ⟨o, ho, hc⟩ := hx'
  refine wpAny_bind (wpAny_isInstance (T := "StopIteration") (b := true) ⟨o, ho, hc⟩ isSubtype_stop ?_)
  exact wpAny_pure (hQ _ he')
end
/-- the tuple at a as it stands at each turn, each item in a new pair -/
def ItE (K : PySem.W.Frag) (a : Addr) : It :=
  ⟨fun i H => ∃ (xs : List V) (x : V), SqT K H a xs ∧ xs[i]? = some x, fun i H v H' => ∃ T x, v = .ref T ∧ H T = none ∧ H' = upd H T (.tup [.int (i : Nat), x]) ∧ ∀ xs, SqT K H a xs → xs[i]? = some x, fun i H => ∃ xs : List V, SqT K H a xs ∧ xs.length ≤ i⟩
theorem turn_enumT {P : Program} {w : World} {K : PySem.W.Frag} {elts : List Expr} {kk : Nat} {tpos : Pos} (a e it : Addr) :
    Turn P w K (.Tuple elts kk tpos) (ItE K a) [e, it] e (fun i h => (∃ old, IsEnum h e it ((i : Nat) : Int) old) ∧ h.IsTupleIter it a i ∧ e ≠ it ∧ a ≠ it ∧ a ≠ e) where
  mem := by simp
  obj := fun i h st b hb => by
    obtain ⟨⟨old, he⟩, ⟨o, ho, hc, hd⟩, _⟩ := st
    have e' : b = e ∨ b = it := by simpa using hb
    rcases e' with z | z
    · rw [z]; exact ⟨_, he, fun v q => nomatch q⟩
    · rw [z]; exact ⟨o, ho, fun v q => by rw [hd] at q; cases q⟩
  keep := fun i h h' st k => let ⟨⟨old, he⟩, hi, hne⟩ := st; ⟨⟨old, k e (by simp) _ he⟩, hi.at fun o q => k it (by simp) o q, hne⟩
  item := by
    intro X hP hw hK hc i pins s σ H E I hf st hg
    subst hP hw hK
    obtain ⟨⟨old, he⟩, hit, hne, hai, hae⟩ := st
    obtain ⟨xs, x, hq, hx⟩ := hg
    obtain ⟨its, rv, p, _⟩ := I.tuple hq
    obtain ⟨u, hu, ru⟩ := rv.get hx
    have hel : e < s.heap.objs.size := Heap.lt_size he
    have hil : it < s.heap.objs.size := by obtain ⟨_, q, _⟩ := hit; exact Heap.lt_size q
    have hlt : i < its.toArray.size := by
      have := (List.getElem?_eq_some_iff.mp hu).1
      simpa using this
    have Dr := Draws.tuple (prog := X.prog) (w := X.w) (A := X.A.in1) (I.ok.hd hc) it a hai its.toArray
    refine wpAny_pyNext_enum_itemD Dr he ⟨hit, p⟩ hlt hne (by simp; exact ⟨hne, Ne.symm hae⟩) fun u' h' tk hu' ho hst' hT hsz hk => ?_
    have eu : u' = u := by
      have : its.toArray[i]? = some u' := hu'
      rw [List.getElem?_toArray, hu] at this
      exact (Option.some.inj this).symm
    subst eu
    obtain ⟨hit', p'⟩ := hst'
    refine ⟨_, rfl, wpAny_letOwnedTupleGo_enum (s := { s with heap := h', toks := tk + 1 }) ho fun h'' he' sb => ?_⟩
    have hT2 : h''.get? s.heap.objs.size = some { cls := .type "tuple", data := .seq #[.int i tk, u'] } := (sb.2 _ (Nat.ne_of_gt hel)).trans hT
    have new : ObjOk X.prog X.w (upd H s.heap.objs.size (.tup [.int (i : Nat), x])) h'' s.heap.objs.size (.tup [.int (i : Nat), x]) :=
      ⟨by show 2 ≤ sizeLine; decide, [.int i tk, u'], .cons ⟨_, rfl⟩ (.cons ru .nil), ⟨_, hT2, rfl, _, rfl⟩⟩
    have I1 : Inv X pins σ (upd H s.heap.objs.size (.tup [.int (i : Nat), x])) { s with heap := h'', toks := tk + 1 } :=
      I.turnedNew (ch := [e, it]) (fun b ob hb q => (sb.2 b (fun z => hb (by simp [z]))).trans (hk b ob (fun z => hb (by simp [z])) (fun z => hb (by simp [z])) q)) hf (Nat.le_refl _) new
    refine ⟨.ref s.heap.objs.size, _, I1, rfl, ⟨_, x, rfl, I.hok.fresh (Nat.le_refl _), rfl, fun ys hy => by rw [I.tuple_inj hy hq]; exact hx⟩, ⟨⟨u', ?_⟩, hit'.at fun o q => (sb.2 it (Ne.symm hne)).trans q, hne, hai, hae⟩, fun b hb => ?_⟩
    · have e1 : ((i + 1 : Nat) : Int) = (i : Int) + 1 := by omega
      rw [e1]; exact he'
    · have hb' : b < s.heap.objs.size := by
        have e' : b = e ∨ b = it := by simpa using hb
        rcases e' with z | z
        · rw [z]; exact hel
        · rw [z]; exact hil
      rw [upd_ne (Nat.ne_of_lt hb')]
      exact (hf b hb).1
  done := by
    intro X hP hw hK hc i pins s σ H E I hf st hg
    subst hP hw hK
    obtain ⟨⟨old, he⟩, hit, hne, hai, hae⟩ := st
    obtain ⟨xs, hq, hx⟩ := hg
    obtain ⟨its, rv, p, _⟩ := I.tuple hq
    obtain ⟨f0, f1, f2, f3, f4, f5⟩ := hf it (by simp)
    have hl := rv.length
    exact pyNext_enum_endT (I.ok.hd hc) he hit p (by simp; omega) fun h' eb => ⟨rfl, I.turned (t' := s.toks) (fun b o hb q => eb b o hb q) f0 f1 f3 f4 f5⟩
  self := fun A i s Q E st h => let ⟨⟨_, he⟩, _⟩ := st; wpAny_pyIter_enum he h
def iEnumA (K : PySem.W.Frag) (ta : TA) : TI := fun σ H R => ta σ H fun vs H1 => ∃ a xs, vs = [.ref a] ∧ ((SqL K H1 a xs ∧ R (Ite K a) H1) ∨ (SqT K H1 a xs ∧ R (ItE K a) H1))
theorem pi_enumA {X : Cx} {e : Expr} {ta : TA} {p pos tpos : Pos} {elts : List Expr} {kk : Nat} (hg : Gl X "enumerate") (hm : X.mg "enumerate" = none) (ha : PA X [e] ta) (hs : starEach [e] X.env = [(false, eval e X.env)] := by rfl) :
    PI X (.Tuple elts kk tpos) (.Call (.Name "enumerate" p) [e] [] pos) (iEnumA X.K ta) := by
  refine ⟨fun pins s σ H R I h => ?_⟩
  refine Call_ (ld_blt I hg hm boot_enumerate (PyProof.Rows.callWith_type1 (thn (ha.run pos pins s σ H _ I h) fun us s1 ⟨vs, H1, I1, r1, q1⟩ => ?_) hs rfl))
  obtain ⟨a, xs, ex, q1⟩ := q1
  subst ex
  cases r1 with
  | cons r rr =>
    cases rr
    cases r
    have fresh2 : ∀ b, b ∈ [s1.heap.objs.size + 1, s1.heap.objs.size] → FpOk X pins H1 b := fun b hb => by
      have e' : b = s1.heap.objs.size + 1 ∨ b = s1.heap.objs.size := by simpa using hb
      have hle : s1.heap.objs.size ≤ b := by
        rcases e' with z | z
        · rw [z]; exact Nat.le_add_right _ _
        · rw [z]; exact Nat.le_refl _
      exact I1.fpOk hle (I1.hok.fresh hle)
    rcases q1 with ⟨hq, q⟩ | ⟨hq, q⟩
    · obtain ⟨its, rv, p', hz⟩ := I1.list hq
      refine call_enumerate_list p'.isList fun h' he hit hsz hk => wpAny_pyIter_enum he ?_
      have I2 : Inv X pins σ H1 { s1 with heap := h' } := I1.kept (t' := s1.toks) hk
      exact ⟨s1.heap.objs.size + 1, [s1.heap.objs.size + 1, s1.heap.objs.size], _, _, H1, rfl, I2, turn_enum a (s1.heap.objs.size + 1) s1.heap.objs.size, ⟨⟨.none, he⟩, hit, Nat.succ_ne_self _⟩, fresh2, q⟩
    · obtain ⟨its, rv, p', _⟩ := I1.tuple hq
      obtain ⟨o1, ho1, _⟩ := id p'
      have hlt := Heap.lt_size ho1
      refine call_enumerate_tuple (show s1.heap.IsTuple a its.toArray from p') fun h' he hit hsz hk => wpAny_pyIter_enum he ?_
      have I2 : Inv X pins σ H1 { s1 with heap := h' } := I1.kept (t' := s1.toks) hk
      exact ⟨s1.heap.objs.size + 1, [s1.heap.objs.size + 1, s1.heap.objs.size], _, _, H1, rfl, I2, turn_enumT a (s1.heap.objs.size + 1) s1.heap.objs.size, ⟨⟨.none, he⟩, hit, Nat.succ_ne_self _, Nat.ne_of_lt hlt, Nat.ne_of_lt (Nat.lt_succ_of_lt hlt)⟩, fresh2, q⟩
/-! the data -/
def enumD (l : List D) : List D := (List.range l.length).map fun i => .tup [.int (i : Nat), l.getD i .non]
def enumM (m : M (List D)) : M (List D) := bnd m fun ds => match ds with
  | [.lst l] => ret (enumD l)
  | [.tup l] => ret (enumD l)
  | _ => DL.bad
theorem enumD_at {l : List D} {i : Nat} {d : D} (h : (enumD l)[i]? = some d) : ∃ x, l[i]? = some x ∧ d = .tup [.int (i : Nat), x] := by
  unfold enumD at h
  rw [List.getElem?_map] at h
  obtain ⟨k, h1, rfl⟩ := Option.map_eq_some_iff.mp h
  obtain ⟨h2, h3⟩ := List.getElem?_eq_some_iff.mp h1
  rw [List.length_range] at h2
  rw [List.getElem_range] at h3
  subst h3
  exact ⟨l[i], List.getElem?_eq_getElem h2, by rw [List.getD_eq_getElem?_getD, List.getElem?_eq_getElem h2]; rfl⟩
theorem enumD_len {l : List D} : (enumD l).length = l.length := by unfold enumD; simp
theorem walk_enumL {K : PySem.W.Frag} {g : Gx} {I : Hp} {p : Addr} {vs : List V} {ds : List D} (hp : I p = some (.lst vs)) (r : Reps K g I ds vs) : Walk K g I (Ite K p) (enumD ds) := fun i I' H' σ env le ok => by
  have h1 : SqL K H' p vs := SqL.of (ok.sub.get (le _ _ hp) rfl)
  refine ⟨fun d hd => ?_, fun hl => ⟨vs, h1, by rw [enumD_len, r.length] at hl; exact hl⟩⟩
  obtain ⟨dx, e1, rfl⟩ := enumD_at hd
  obtain ⟨v, hv, rv⟩ := r.get e1
  refine ⟨⟨vs, v, h1, hv⟩, fun x H1 ⟨T, x', ex, hT, e, y1⟩ => ?_⟩
  subst ex
  have q1 := y1 vs h1
  rw [hv] at q1; cases q1
  exact zip_new ok hT e (rep_int.mpr rfl) (Rep.mono le rv)
theorem walk_enumT {K : PySem.W.Frag} {g : Gx} {I : Hp} {p : Addr} {vs : List V} {ds : List D} (hp : SqT K I p vs) (r : Reps K g I ds vs) : Walk K g I (ItE K p) (enumD ds) := fun i I' H' σ env le ok => by
  have h1 : SqT K H' p vs := sub_t ok.sub (le_t le hp)
  refine ⟨fun d hd => ?_, fun hl => ⟨vs, h1, by rw [enumD_len, r.length] at hl; exact hl⟩⟩
  obtain ⟨dx, e1, rfl⟩ := enumD_at hd
  obtain ⟨v, hv, rv⟩ := r.get e1
  refine ⟨⟨vs, v, h1, hv⟩, fun x H1 ⟨T, x', ex, hT, e, y1⟩ => ?_⟩
  subst ex
  have q1 := y1 vs h1
  rw [hv] at q1; cases q1
  exact zip_new ok hT e (rep_int.mpr rfl) (Rep.mono le rv)
section
variable {X : Cx} {g : Gx} {W : WX} {p pos tpos : Pos} {a : Expr} {elts : List Expr} {kk : Nat} {mas : M (List D)}
theorem i_enum (hg : Gl X "enumerate") (hm : X.mg "enumerate" = none) (ha : DA X g W [a] mas) (hs : starEach [a] X.env = [(false, eval a X.env)] := by rfl) :
    DI X g W (.Tuple elts kk tpos) (.Call (.Name "enumerate" p) [a] [] pos) (enumM mas) :=
  pi_imp (pi_enumA hg hm ha hs) fun σ H Q ⟨I, env, ok, h⟩ => trI_bnd (α' := D) (Rr := RL X.K g) ok h fun vs ds I1 H1 env1 st r h1 => by
    match ds, r, h1 with
    | [], r, h1 => exact h1.elim
    | d :: _ :: _, r, h1 => cases d <;> exact False.elim h1
    | [d], r, h1 =>
      cases d <;> first | (exact False.elim h1) | skip
      · obtain ⟨u, us, rfl, r1, r2⟩ := reps_cons.mp r
        obtain rfl := reps_nil.mp r2
        obtain ⟨p1, v1, rfl, e2, e3⟩ := rep_tup.mp r1
        exact ⟨p1, v1, rfl, .inr ⟨sub_t st.ok.sub e2, h1 _ I1 H1 (StpP.refl st.ok) (walk_enumT e2 e3)⟩⟩
      · obtain ⟨u, us, rfl, r1, r2⟩ := reps_cons.mp r
        obtain rfl := reps_nil.mp r2
        obtain ⟨p1, v1, rfl, e2, e3⟩ := rep_lst.mp r1
        exact ⟨p1, v1, rfl, .inl ⟨SqL.of (st.ok.sub.get e2 rfl), h1 _ I1 H1 (StpP.refl st.ok) (walk_enumL e2 e3)⟩⟩
end
end DL
set_option Elab.async false
set_option linter.all false
set_option maxRecDepth 100000
set_option maxHeartbeats 4000000
set_option autoImplicit false
namespace DL
open PySem PySem.Spec PyProof.Rows L2 LamX
/-! ### (a, b, ..) = a list of that length -/
def gunlU (n : Nat) (fs : List D → M Unit) : D → M Unit
  | .lst l => if l.length = n then fs l else DL.bad
  | _ => DL.bad
section
variable {X : Cx} {g : Gx} {es : List Expr} {pos : Pos} {fs : List D → M Unit}
theorem g_unl {k n : Nat} (hc : X.calm = true) (h : DGs X g es fs) (hn : (assignEach es X.env).length = n := by rfl) (hst : (assignEach es X.env).findIdx? (·.1) = none := by rfl) : DG X g (.Tuple es k pos) (gunlU n fs) :=
  ⟨fun pins s σ H v u Q Iv r h' => (pg_unl hc h hn hst).run pins s σ H v u Q Iv r (by
    obtain ⟨I, env, d, ok, rd, h⟩ := h'
    cases d with
    | lst l =>
      obtain ⟨p, vs, rfl, e2, e3⟩ := rep_lst.mp rd
      have h2 : OutU X.K g I H σ env ((if l.length = n then fs l else DL.bad) env) Q := h
      split at h2
      · rename_i hl
        exact ⟨p, vs, rfl, SqL.of (ok.sub.get e2 rfl), by rw [← e3.length]; exact hl, I, env, l, ok, e3, h2⟩
      · exact h2.elim
    | _ => exact h.elim)⟩
theorem calm_unl {n : Nat} (h : Calms fs) : Calm (gunlU n fs) := fun d env c env' q => by
  unfold gunlU at q
  split at q
  · split at q
    · exact h _ _ _ _ q
    · cases q
  · cases q
end
end DL
set_option Elab.async false
set_option linter.all false
set_option maxRecDepth 100000
set_option maxHeartbeats 4000000
set_option autoImplicit false
namespace DL
open PySem PySem.Spec PyProof.Rows L2 LamX
/-! ### x, y = data, a fresh list  (and the other way round) -/
def parDO (i j : Nat) (ma : M D) (mc : M (List D)) : M Fl := bnd ma fun d => bnd mc fun l => bnd (setS j (.ol l)) fun _ => bnd (setU i d) fun _ => ret .nx
def parOD (i j : Nat) (mc : M (List D)) (mb : M D) : M Fl := bnd mc fun l => bnd mb fun d => bnd (setS i (.ol l)) fun _ => bnd (setU j d) fun _ => ret .nx
section
variable {X : Cx} {g : Gx} {W : WX} {pos : Pos} {a b : Expr} {ma mb : M D} {mc : M (List D)}
theorem outS_sets {K : PySem.W.Frag} {I H I' H' : Hp} {σ : L2.St} {env env' : DL.Env} {i j : Nat} {d : D} {l : List D} {v : V} {p : Addr} {vs : List V} {Dn : Ends} (ok : EnvOk K g I H σ env) (s : StpE K g I H σ env I' H' σ env') (hp : Fr H p) (e2 : H' p = some (.lst vs)) (e4 : I' p = none) (e5 : Reps K g I' l vs) (r : Rep K g I' d v)
    (h : OutS K g W I H σ env (bnd (setS j (.ol l)) (fun _ => bnd (setU i d) fun _ => ret .nx) env') Dn) : Dn.nx ((σ.set j (some (.ref p))).set i (some v)) H' := by
  unfold bnd at h
  rcases setS_or j (.ol l) env' with e1 | ⟨z, ez, hz, e1⟩
  · rw [e1] at h; exact h.elim
  · rw [e1] at h
    dsimp only at h
    have st := StpP.give ok s hp ez hz (t := .ol l) rfl ⟨p, vs, rfl, e2, e4, e5⟩
    rcases setU_or i d (env'.set j (.ol l)) with e | ⟨z2, ez2, hz2, e3⟩
    · rw [e] at h; exact h.elim
    · rw [e3] at h
      dsimp only at h
      exact h _ I' H' (st.trans (st.ok.set (ee := False) ez2 hz2 (s := .im d) (x := v) rfl ⟨v, rfl, r⟩))
theorem outS_sets' {K : PySem.W.Frag} {I H I' H' : Hp} {σ : L2.St} {env env' : DL.Env} {i j : Nat} {d : D} {l : List D} {v : V} {p : Addr} {vs : List V} {Dn : Ends} (ok : EnvOk K g I H σ env) (s : StpE K g I H σ env I' H' σ env') (hp : Fr H p) (e2 : H' p = some (.lst vs)) (e4 : I' p = none) (e5 : Reps K g I' l vs) (r : Rep K g I' d v)
    (h : OutS K g W I H σ env (bnd (setS i (.ol l)) (fun _ => bnd (setU j d) fun _ => ret .nx) env') Dn) : Dn.nx ((σ.set i (some (.ref p))).set j (some v)) H' := outS_sets ok s hp e2 e4 e5 r h
theorem s_parDO {i j : Nat} {x y : Str} {px py pt : Pos} {kt k2 : Nat} {pt2 : Pos} (hc : X.calm = true) (hN : X.N.Nodup) (hi : X.N[i]? = some x) (hj : X.N[j]? = some y) (hij : i ≠ j) (hx : X.env.scope.names.lookup x = some .local) (hy : X.env.scope.names.lookup y = some .local) (ha : DE X g W a ma) (hb : DC X g W b mc)
    (hw : swappedStores [.Tuple [.Name x px, .Name y py] kt pt] (.Tuple [a, b] k2 pt2) X.env = pure (some [x, y]))
    (he1 : starEach [a, b] X.env = (false, eval a X.env) :: starEach [b] X.env := by rfl) (he2 : starEach [b] X.env = (false, eval b X.env) :: starEach [] X.env := by rfl)
    (hs : swapsWithSole [.Tuple [.Name x px, .Name y py] kt pt] (.Tuple [a, b] k2 pt2) pos.line X.env = pure false := by rfl) : DS X g W (.Assign [.Tuple [.Name x px, .Name y py] kt pt] (.Tuple [a, b] k2 pt2) pos) (parDO i j ma mc) :=
  ps_imp (ps_par hc hN hi hj hij hx hy (pa_cons ha (pa_cons hb pa_nil he2) he1) hw hs) fun Dn σ H ⟨I, env, ok, h⟩ => trS_bnd (Rr := RD X.K g) ok h fun v d I1 H1 env1 st r h1 => by
    refine ⟨I1, env1, st.ok, ?_⟩
    unfold bnd at h1
    cases e : mc env1 with
    | bad => rw [e] at h1; exact h1
    | err c env' => rw [e] at h1; exact fun I' H' s => h1 σ I' H' s.weak
    | ok l env' =>
      rw [e] at h1
      dsimp only at h1
      rintro u I' H' s ⟨p, vs, rfl, e2, e3, e4, e5⟩
      refine ⟨v, .ref p, rfl, ?_⟩
      rw [List.set_comm _ _ hij]
      exact outS_sets st.ok s e3 e2 e4 e5 (Rep.mono s.sub r) h1
theorem s_parOD {i j : Nat} {x y : Str} {px py pt : Pos} {kt k2 : Nat} {pt2 : Pos} (hc : X.calm = true) (hN : X.N.Nodup) (hi : X.N[i]? = some x) (hj : X.N[j]? = some y) (hij : i ≠ j) (hx : X.env.scope.names.lookup x = some .local) (hy : X.env.scope.names.lookup y = some .local) (ha : DC X g W a mc) (hb : DE X g W b mb)
    (hw : swappedStores [.Tuple [.Name x px, .Name y py] kt pt] (.Tuple [a, b] k2 pt2) X.env = pure (some [x, y]))
    (he1 : starEach [a, b] X.env = (false, eval a X.env) :: starEach [b] X.env := by rfl) (he2 : starEach [b] X.env = (false, eval b X.env) :: starEach [] X.env := by rfl)
    (hs : swapsWithSole [.Tuple [.Name x px, .Name y py] kt pt] (.Tuple [a, b] k2 pt2) pos.line X.env = pure false := by rfl) : DS X g W (.Assign [.Tuple [.Name x px, .Name y py] kt pt] (.Tuple [a, b] k2 pt2) pos) (parOD i j mc mb) :=
  ps_imp (ps_par hc hN hi hj hij hx hy (pa_cons ha (pa_cons hb pa_nil he2) he1) hw hs) fun Dn σ H ⟨I, env, ok, h⟩ => by
    refine ⟨I, env, ok, ?_⟩
    unfold parOD bnd at h
    cases e0 : mc env with
    | bad => rw [e0] at h; exact h
    | err c env' => rw [e0] at h; exact fun I' H' s => h σ I' H' s.weak
    | ok l env1 =>
      rw [e0] at h
      dsimp only at h
      rintro v I1 H1 st ⟨p, vs, rfl, e2, e3, e4, e5⟩
      refine ⟨I1, env1, st.ok, ?_⟩
      cases e : mb env1 with
      | bad => rw [e] at h; exact h
      | err c env' => rw [e] at h; exact fun I' H' s => h σ I' H' (st.trans s).weak
      | ok d env' =>
        rw [e] at h
        dsimp only at h
        rintro u I' H' s r2
        refine ⟨.ref p, u, rfl, ?_⟩
        have hno : ¬ Own σ env1 p := StpP.newOwn ok st e3
        have k2 : H' p = some (.lst vs) := s.keep p _ e2 hno (fun _ z => nomatch z)
        have k4 : I' p = none := by
          cases q : I' p with
          | none => rfl
          | some z =>
            rcases s.fresh p (by rw [q]; simp) with w | w | w
            · exact absurd e4 w
            · exact (w.not e2 (fun _ z => nomatch z)).elim
            · exact absurd w hno
        exact outS_sets' ok (st.trans s) e3 k2 k4 (e5.mono s.sub) r2 h
end
end DL
set_option Elab.async false
set_option linter.all false
set_option maxRecDepth 100000
set_option maxHeartbeats 4000000
set_option autoImplicit false
namespace DL
open PySem PySem.Spec PyProof.Rows L2 LamX
/-! ### a whole number in a list, a tuple of whole numbers -/
def dInI (neg : Bool) : D → D → Option D
  | .int i, .lst l => (intsD l).map fun ns => .bl (if neg then !decide (i ∈ ns) else decide (i ∈ ns))
  | .int i, .tup l => (intsD l).map fun ns => .bl (if neg then !decide (i ∈ ns) else decide (i ∈ ns))
  | _, _ => none
theorem inV_ints {i : Int} : ∀ ns : List Int, inV (.int i) (ns.map V.int) = decide (i ∈ ns)
  | [] => rfl
  | n :: ns => by
    have ih := inV_ints (i := i) ns
    unfold inV at ih ⊢
    rw [List.map_cons, List.any_cons, ih]
    show (n == i || decide (i ∈ ns)) = _
    rw [Bool.eq_iff_iff]
    simp only [Bool.or_eq_true, beq_iff_eq, decide_eq_true_eq, List.mem_cons]
    exact ⟨fun h => h.imp Eq.symm id, fun h => h.imp Eq.symm id⟩
theorem flat_ints : ∀ ns : List Int, (ns.map V.int).all flatV = true
  | [] => rfl
  | n :: ns => by rw [List.map_cons, List.all_cons, flat_ints ns]; rfl
theorem lk_inI {K : PySem.W.Frag} {g : Gx} {neg : Bool} : Lk2F K g (rIn K neg) (dInI neg) := by
  intro I H x y z v w Q le rx ry hz q
  cases x <;> first | (cases hz; done) | skip
  cases y <;> first | (cases hz; done) | skip
  · rename_i i l
    obtain ⟨ns, h1, rfl⟩ := Option.map_eq_some_iff.mp (show (intsD l).map _ = some z from hz)
    obtain rfl := rep_int.mp rx
    obtain ⟨p, vs, rfl, e2, e3⟩ := rep_tup.mp ry
    rw [intsD_of h1] at e3
    obtain rfl := reps_ints e3
    exact ⟨p, _, rfl, .inr (sub_t le e2), rfl, flat_ints ns, by rw [inV_ints]; exact q _ (rep_bl.mpr rfl)⟩
  · rename_i i l
    obtain ⟨ns, h1, rfl⟩ := Option.map_eq_some_iff.mp (show (intsD l).map _ = some z from hz)
    obtain rfl := rep_int.mp rx
    obtain ⟨p, vs, rfl, e2, e3⟩ := rep_lst.mp ry
    rw [intsD_of h1] at e3
    obtain rfl := reps_ints e3
    exact ⟨p, _, rfl, .inl (SqL.of (le.get e2 rfl)), rfl, flat_ints ns, by rw [inV_ints]; exact q _ (rep_bl.mpr rfl)⟩
section
variable {X : Cx} {g : Gx} {W : WX} {pos : Pos} {a b : Expr} {ma mb : M D}
theorem d_in (ha : DE X g W a ma) (hb : DE X g W b mb) (hm : behindInMarks .In b = false := by rfl) : DE X g W (.Compare a [.In] [b] pos) (o2 (dInI false) ma mb) := d_cmp op_in_seq lk_inI.lk ha hb hm
theorem d_notIn (ha : DE X g W a ma) (hb : DE X g W b mb) (hm : behindInMarks .NotIn b = false := by rfl) : DE X g W (.Compare a [.NotIn] [b] pos) (o2 (dInI true) ma mb) := d_cmp op_notIn_seq lk_inI.lk ha hb hm
theorem t_in (ha : DE X g W a ma) (hb : DE X g W b mb) (hm : behindInMarks .In b = false := by rfl) : DT X g W (.Compare a [.In] [b] pos) (tst (o2 (dInI false) ma mb)) := t_cmp op_in_seq lk_inI.lk ha hb hm
theorem t_notIn (ha : DE X g W a ma) (hb : DE X g W b mb) (hm : behindInMarks .NotIn b = false := by rfl) : DT X g W (.Compare a [.NotIn] [b] pos) (tst (o2 (dInI true) ma mb)) := t_cmp op_notIn_seq lk_inI.lk ha hb hm
end
end DL
set_option Elab.async false
set_option linter.all false
set_option maxRecDepth 100000
set_option maxHeartbeats 4000000
set_option autoImplicit false
namespace DL
open PySem PySem.Spec PyProof.Rows L2 LamX
/-! ### a key in a dict; In, NotIn of both kinds -/
def dInD (neg : Bool) : D → D → Option D
  | x, .dic ks l => (keyOf x).map fun k => .bl (if neg then !(valD ks l k).isSome else (valD ks l k).isSome)
  | _, _ => none
/-- In, NotIn: a whole number in a list or tuple of such, a key in a dict -/
def dInA (neg : Bool) (x y : D) : Option D := match y with
  | .dic _ _ => dInD neg x y
  | _ => dInI neg x y
def rDIn (neg : Bool) : R2 := fun x y H Q => ∃ a o, y = .ref a ∧ DGet H a x o ∧ Q (.bl (if neg then !o.isSome else o.isSome)) H
def rInA (K : PySem.W.Frag) (neg : Bool) : R2 := fun x y H Q => rIn K neg x y H Q ∨ rDIn neg x y H Q
section
variable {X : Cx}
theorem op_inA (hu : X.A.units + 1 < cLine) : OpR X (compareOp .In) (rInA X.K false) := by
  intro pins s σ H x y v u Q I rx ry h
  rcases h with h | ⟨a, o, rfl, g, q⟩
  · exact op_in_seq pins s σ H x y v u Q I rx ry h
  · obtain rfl : u = Value.ref a := ry
    exact L2.d_in hu I g rx fun s' I' => ⟨.bl o.isSome, H, I', rfl, q⟩
theorem op_notInA (hu : X.A.units + 1 < cLine) : OpR X (compareOp .NotIn) (rInA X.K true) := by
  intro pins s σ H x y v u Q I rx ry h
  rcases h with h | ⟨a, o, rfl, g, q⟩
  · exact op_notIn_seq pins s σ H x y v u Q I rx ry h
  · obtain rfl : u = Value.ref a := ry
    exact L2.d_notIn hu I g rx fun s' I' => ⟨.bl (!o.isSome), H, I', rfl, q⟩
end
theorem lk_inA {K : PySem.W.Frag} {g : Gx} {neg : Bool} : Lk2F K g (rInA K neg) (dInA neg) := by
  intro I H x y z v w Q le rx ry hz q
  cases y <;> first | exact .inl (lk_inI I H x _ z v w Q le rx ry hz q) | skip
  rename_i ks l
  obtain ⟨k, h1, rfl⟩ := Option.map_eq_some_iff.mp (show (keyOf x).map _ = some z from hz)
  have ev := keyOf_v h1 rx
  subst ev
  obtain ⟨p, vs, rfl, e2, e3, e4⟩ := rep_dic.mp ry
  refine .inr ⟨p, valV (ks.zip vs) k, rfl, .inl ⟨_, k, le.rd e2, rfl, rfl⟩, ?_⟩
  have hs : (valV (ks.zip vs) k).isSome = (valD ks l k).isSome := by
    cases hd : valD ks l k with
    | none => rw [valD_none e4 hd]; rfl
    | some d =>
      obtain ⟨v, hv, _⟩ := valD_v e4 hd
      rw [hv]; rfl
  rw [hs]
  exact q _ (rep_bl.mpr rfl)
section
variable {X : Cx} {g : Gx} {W : WX} {pos : Pos} {a b : Expr} {ma mb : M D} {k : Nat}
theorem d_inA (hr : Room k X.A) (ha : DE X g W a ma) (hb : DE X g W b mb) (hm : behindInMarks .In b = false := by rfl) : DE X g W (.Compare a [.In] [b] pos) (o2 (dInA false) ma mb) := d_cmp (op_inA (by have := hr.units; omega)) lk_inA.lk ha hb hm
theorem d_notInA (hr : Room k X.A) (ha : DE X g W a ma) (hb : DE X g W b mb) (hm : behindInMarks .NotIn b = false := by rfl) : DE X g W (.Compare a [.NotIn] [b] pos) (o2 (dInA true) ma mb) := d_cmp (op_notInA (by have := hr.units; omega)) lk_inA.lk ha hb hm
theorem t_inA (hr : Room k X.A) (ha : DE X g W a ma) (hb : DE X g W b mb) (hm : behindInMarks .In b = false := by rfl) : DT X g W (.Compare a [.In] [b] pos) (tst (o2 (dInA false) ma mb)) := t_cmp (op_inA (by have := hr.units; omega)) lk_inA.lk ha hb hm
theorem t_notInA (hr : Room k X.A) (ha : DE X g W a ma) (hb : DE X g W b mb) (hm : behindInMarks .NotIn b = false := by rfl) : DT X g W (.Compare a [.NotIn] [b] pos) (tst (o2 (dInA true) ma mb)) := t_cmp (op_notInA (by have := hr.units; omega)) lk_inA.lk ha hb hm
end
end DL
set_option Elab.async false
set_option linter.all false
set_option maxRecDepth 100000
set_option maxHeartbeats 4000000
set_option autoImplicit false
namespace DL
open PySem PySem.Spec PyProof.Rows L2 LamX
/-! ### a, b, .. = data, fresh lists, new dicts -/
abbrev RSl (K : PySem.W.Frag) (g : Gx) : Rl Slot V := fun H I' H' s v => s.pin = false ∧ SlotOk K g I' H' s (some v) ∧ (s.own = true → ∃ p, v = .ref p ∧ Fr H p)
instance {K : PySem.W.Frag} {g : Gx} : RMono (RSl K g) := ⟨fun f ⟨h1, h2, h3⟩ => ⟨h1, h2, fun o => let ⟨p, e, q⟩ := h3 o; ⟨p, e, f p q⟩⟩⟩
def SsOk (K : PySem.W.Frag) (g : Gx) (H I' H' : Hp) : List Slot → List V → Prop
  | [], vs => vs = []
  | s :: ss, vs => ∃ v r, vs = v :: r ∧ RSl K g H I' H' s v ∧ (s.own = true → ∀ (j : Nat) (s' : Slot), ss[j]? = some s' → s'.own = true → r[j]? ≠ some v) ∧ SsOk K g H I' H' ss r
abbrev RSs (K : PySem.W.Frag) (g : Gx) : Rl (List Slot) (List V) := fun H I' H' ss vs => SsOk K g H I' H' ss vs
theorem SsOk.back {K : PySem.W.Frag} {g : Gx} {H H1 I' H' : Hp} (f : ∀ x, Fr H1 x → Fr H x) : ∀ {ss : List Slot} {vs : List V}, SsOk K g H1 I' H' ss vs → SsOk K g H I' H' ss vs
  | [], _, h => h
  | s :: ss, _, ⟨v, r, e, h1, h2, h3⟩ => ⟨v, r, e, RMono.back (R := RSl K g) f h1, h2, SsOk.back f h3⟩
instance {K : PySem.W.Frag} {g : Gx} : RMono (RSs K g) := ⟨fun f h => SsOk.back f h⟩
section
variable {K : PySem.W.Frag} {g : Gx} {W : WX} {I H I1 H1 I2 H2 I' H' : Hp} {σ σ' : L2.St} {env env1 env' : DL.Env}
theorem SsOk.fr {H0 : Hp} : ∀ {ss : List Slot} {vs : List V}, SsOk K g H0 I' H' ss vs → ∀ (j : Nat) (s : Slot) (v : V), ss[j]? = some s → vs[j]? = some v → s.own = true → ∃ p, v = .ref p ∧ Fr H0 p
  | [], _, _, j, s, v, e, _, _ => by simp at e
  | s0 :: ss, _, ⟨v0, r, rfl, h1, h2, h3⟩, 0, s, v, e, e', o => by
    simp at e e'; subst e e'
    exact h1.2.2 o
  | s0 :: ss, _, ⟨v0, r, rfl, h1, h2, h3⟩, j + 1, s, v, e, e', o => SsOk.fr h3 j s v (by simpa using e) (by simpa using e') o
theorem SsOk.keep {H0 : Hp} (k : ∀ p o, H' p = some o → H2 p = some o) : ∀ {ss : List Slot} {vs : List V}, SsOk K g H0 I' H' ss vs → SsOk K g H0 I' H2 ss vs
  | [], _, h => h
  | s0 :: ss, _, ⟨v0, r, e, h1, h2, h3⟩ => ⟨v0, r, e, ⟨h1.1, h1.2.1.mono (Le.refl _) (fun p o _ _ q => k p o q) (fun p ho hv => by
      obtain ⟨p', o', e1, e2, e3, _⟩ := h1.2.1.own_of ho
      rw [hv] at e1; cases e1; exact e3), h1.2.2⟩, h2, SsOk.keep k h3⟩
theorem ss_cons_ok (ok : EnvOk K g I H σ env) {s : Slot} {ss : List Slot} {v : V} {vs : List V} (s1 : StpE K g I H σ env I1 H1 σ env1) (h1 : RSl K g H I1 H1 s v) (s2 : StpE K g I1 H1 σ env1 I2 H2 σ env') (h2 : SsOk K g H1 I2 H2 ss vs) : SsOk K g H I2 H2 (s :: ss) (v :: vs) := by
  refine ⟨v, vs, rfl, ⟨h1.1, h1.2.1.mono s2.sub (fun p o ho hv hp => ?_) (fun p ho hv => ?_), h1.2.2⟩, fun ho j s' e1 o' e2 => ?_, SsOk.back (fun x q => s1.there x q) h2⟩
  · obtain ⟨p', e, fp⟩ := h1.2.2 ho
    cases hv; cases e
    obtain ⟨p', o2, e1, e2, e3, nt⟩ := h1.2.1.own_of ho
    cases e1
    rw [hp] at e2; cases e2
    exact s2.keep p _ hp (StpP.newOwn ok s1 fp) nt
  · obtain ⟨p', e, fp⟩ := h1.2.2 ho
    cases hv; cases e
    obtain ⟨p', o2, e1, e2, e3, nt⟩ := h1.2.1.own_of ho
    cases e1
    cases q : I2 p with
    | none => rfl
    | some z =>
      rcases s2.fresh p (by rw [q]; simp) with w | w | w
      · exact absurd e3 w
      · exact (w.not e2 nt).elim
      · exact absurd w (StpP.newOwn ok s1 fp)
  · obtain ⟨p', e, fp⟩ := h1.2.2 ho
    obtain ⟨p2, o2, e3, e4, e5, nt⟩ := h1.2.1.own_of ho
    cases e3; cases e
    obtain ⟨q, eq, fq⟩ := SsOk.fr h2 j s' _ e1 e2 o'
    cases eq
    exact fq.not e4 nt
end
abbrev DSl (X : Cx) (g : Gx) (W : WX) (e : Expr) (m : M Slot) : Prop := PE X e (tr X.K g W (RSl X.K g) m)
abbrev DSL (X : Cx) (g : Gx) (W : WX) (es : List Expr) (m : M (List Slot)) : Prop := PA X es (tr X.K g W (RSs X.K g) m)
def mconsS (a : M Slot) (as : M (List Slot)) : M (List Slot) := bnd a fun x => bnd as fun xs => ret (x :: xs)
def slIm (m : M D) : M Slot := bnd m fun d => ret (.im d)
def slOl (m : M (List D)) : M Slot := bnd m fun l => ret (.ol l)
def setSs : List Nat → List Slot → M Unit
  | [], [] => ret ()
  | i :: is, s :: ss => bnd (setS i s) fun _ => setSs is ss
  | _, _ => DL.bad
def parS (is : List Nat) (m : M (List Slot)) : M Fl := bnd m fun ss => bnd (setSs is ss) fun _ => ret .nx
def setAll (σ : L2.St) : List Nat → List V → L2.St
  | i :: is, v :: vs => setAll (σ.set i (some v)) is vs
  | _, _ => σ
section
variable {X : Cx} {g : Gx} {W : WX} {pos : Pos} {e : Expr} {es : List Expr} {ma : M D} {mc : M (List D)} {ms : M Slot} {mss : M (List Slot)}
theorem sl_im (h : DE X g W e ma) : DSl X g W e (slIm ma) := pe_imp h fun σ H Q ⟨I, env, ok, h⟩ => tr_bnd (Rr := RSl X.K g) (Rr' := RD X.K g) ok h fun v d I1 H1 env1 st r h1 => h1.done st.ok ⟨rfl, ⟨v, rfl, r⟩, fun z => nomatch z⟩
theorem sl_ol (h : DC X g W e mc) : DSl X g W e (slOl mc) := pe_imp h fun σ H Q ⟨I, env, ok, h⟩ => by
  refine ⟨I, env, ok, ?_⟩
  unfold slOl bnd at h
  cases e : mc env with
  | bad => rw [e] at h; exact h
  | err c env' => rw [e] at h; exact h
  | ok a env' =>
    rw [e] at h
    rintro b I' H' s ⟨p, vs, rfl, e2, e3, e4, e5⟩
    exact h (.ref p) I' H' s ⟨rfl, ⟨p, vs, rfl, e2, e4, e5⟩, fun _ => ⟨p, rfl, e3⟩⟩
theorem sl_od : DSl X g W (.Dict [] [] pos) (ret (.od [] [])) := pe_imp pe_dnewK fun σ H Q ⟨I, env, ok, h⟩ => fun p hp => by
  exact h (.ref p) I _ (ok.newH hp) ⟨rfl, ⟨p, [], rfl, upd_same, ok.fresh_i hp, rfl, Reps.nil⟩, fun _ => ⟨p, rfl, .inl hp⟩⟩
theorem sl_nil : DSL X g W [] (ret []) := pa_imp pa_nil fun σ H Q ⟨I, env, ok, h⟩ => h.done ok rfl
theorem sl_cons (ha : DSl X g W e ms) (hr : DSL X g W es mss) (hs : starEach (e :: es) X.env = (false, eval e X.env) :: starEach es X.env := by rfl) : DSL X g W (e :: es) (mconsS ms mss) :=
  pa_imp (pa_cons ha hr hs) fun σ H Q ⟨I, env, ok, h⟩ => by
    refine ⟨I, env, ok, ?_⟩
    unfold mconsS bnd at h
    cases e : ms env with
    | bad => rw [e] at h; exact h
    | err c env' => rw [e] at h; exact h
    | ok s env1 =>
      rw [e] at h
      dsimp only at h
      intro v I1 H1 s1 h1
      refine ⟨I1, env1, s1.ok, ?_⟩
      cases e2 : mss env1 with
      | bad => rw [e2] at h; exact h
      | err c env' => rw [e2] at h; exact fun I' H' s2 => h I' H' (s1.trans s2)
      | ok ss env2 =>
        rw [e2] at h
        dsimp only at h
        intro vs I2 H2 s2 h2
        exact h (v :: vs) I2 H2 (s1.trans s2) (ss_cons_ok ok s1 h1 s2 h2)
end
section
variable {K : PySem.W.Frag} {g : Gx} {W : WX} {I H I1 H1 I2 H2 I' H' : Hp} {σ σ' : L2.St} {env env1 env' : DL.Env}
theorem own_set {i : Nat} {s : Slot} {v : V} {a : Addr} (h : Own (σ.set i (some v)) (env.set i s) a) : (v = .ref a ∧ s.own = true) ∨ Own σ env a := by
  obtain ⟨j, y, h1, h2, h3⟩ := h
  by_cases hj : j = i
  · subst hj
    have hl : j < σ.length := by
      have := (List.getElem?_eq_some_iff.mp h3).1
      rwa [List.length_set] at this
    have hl2 : j < env.length := by
      have := (List.getElem?_eq_some_iff.mp h1).1
      rwa [List.length_set] at this
    rw [List.getElem?_set_self hl] at h3
    rw [List.getElem?_set_self hl2] at h1
    cases h3; cases h1
    exact .inl ⟨rfl, h2⟩
  · rw [List.getElem?_set_ne (Ne.symm hj)] at h1 h3
    exact .inr ⟨j, y, h1, h2, h3⟩
theorem StpP.setSl (s : Stp K g I H σ env I' H' σ' env') {i : Nat} {z t : Slot} {v : V} (hz : env'[i]? = some z) (hzp : z.pin = false) (hs : RSl K g H I' H' t v) (hn : t.own = true → ∀ p, v = .ref p → ¬ Own σ' env' p) :
    Stp K g I H σ env I' H' (σ'.set i (some v)) (env'.set i t) := by
  cases ho : t.own with
  | false => exact s.trans (s.ok.set (ee := False) hz hzp ho hs.2.1)
  | true =>
    obtain ⟨p, rfl, fp⟩ := hs.2.2 ho
    obtain ⟨k1, k2, k3⟩ := s.ok.setOwn hz hzp ho hs.2.1 (hn ho p rfl) (H0 := H) fp
    refine ⟨k1, s.sub, s.keep, s.there, s.fresh, fun a q => (k2 a q).elim (s.own a) .inr, fun j y h1 h2 => ?_⟩
    obtain ⟨e1, s1, h3, p1⟩ := s.pin j y h1 h2
    obtain ⟨e2, s2, h4, p2⟩ := k3 j s1 h3 p1
    exact ⟨e2.trans e1, s2, h4, p2⟩
theorem outS_setSs {Dn : Ends} : ∀ {is : List Nat} {ss : List Slot} {vs : List V} {σ' : L2.St} {env' : DL.Env}, Stp K g I H σ env I' H' σ' env' → SsOk K g H I' H' ss vs → (∀ (j : Nat) (s : Slot) (p : Addr), ss[j]? = some s → s.own = true → vs[j]? = some (.ref p) → ¬ Own σ' env' p) →
    OutS K g W I H σ env (bnd (setSs is ss) (fun _ => ret .nx) env') Dn → is.length = vs.length ∧ Dn.nx (setAll σ' is vs) H'
  | [], [], vs, σ', env', s, hv, hn, h => by
    obtain rfl : vs = [] := hv
    exact ⟨rfl, h _ I' H' s⟩
  | i :: is, t :: ss, vs, σ', env', s, ⟨v, r, e, h1, h2, h3⟩, hn, h => by
    subst e
    have h' : OutS K g W I H σ env (bnd (bnd (setS i t) fun _ => setSs is ss) (fun _ => ret .nx) env') Dn := h
    unfold bnd at h'
    rcases setS_or i t env' with e1 | ⟨z, ez, hz, e1⟩
    · rw [e1] at h'; exact h'.elim
    · rw [e1] at h'
      dsimp only at h'
      have st := StpP.setSl s ez hz h1 (fun ho p hp => hn 0 t p rfl ho (by rw [hp]; rfl))
      obtain ⟨k1, k2⟩ := outS_setSs (is := is) st h3 (fun j s' p e2 ho e3 q => by
        rcases own_set q with ⟨e4, e5⟩ | q
        · exact h2 e5 j s' e2 ho (by rw [e4]; exact e3)
        · exact hn (j + 1) s' p (by simpa using e2) ho (by simpa using e3) q) (by unfold bnd; exact h')
      exact ⟨by rw [List.length_cons, List.length_cons, k1], k2⟩
  | [], t :: ss, _, _, _, _, _, _, h => h.elim
  | i :: is, [], _, _, _, _, _, _, h => h.elim
theorem trS_parS {Dn : Ends} {is : List Nat} {mss : M (List Slot)} (h : trS K g W (parS is mss) Dn σ H) : tr K g W (RSs K g) mss σ H fun vs H1 => is.length = vs.length ∧ Dn.nx (setAll σ is vs) H1 := by
  obtain ⟨I, env, ok, h⟩ := h
  refine ⟨I, env, ok, ?_⟩
  unfold parS bnd at h
  cases e : mss env with
  | bad => rw [e] at h; exact h
  | err c env' => rw [e] at h; exact fun I' H' s => h σ I' H' s.weak
  | ok ss env' =>
    rw [e] at h
    dsimp only at h
    intro vs I' H' s hv
    exact outS_setSs s.weak hv (fun j s' p e1 ho e2 => by
      obtain ⟨q, e3, fq⟩ := SsOk.fr hv j s' _ e1 e2 ho
      cases e3
      exact StpP.newOwn ok s fq) (by unfold bnd; exact h)
/-- the same where the pair is made first -/
theorem trS_parT {Dn : Ends} {is : List Nat} {mss : M (List Slot)} (hl : is.length ≤ 16777216) (h : trS K g W (parS is mss) Dn σ H) : tr K g W (RSs K g) mss σ H fun vs H1 => vs.length ≤ 16777216 ∧ ∀ p, H1 p = none → is.length = vs.length ∧ Dn.nx (setAll σ is vs) (upd H1 p (.tup vs)) := by
  obtain ⟨I, env, ok, h⟩ := h
  refine ⟨I, env, ok, ?_⟩
  unfold parS bnd at h
  cases e : mss env with
  | bad => rw [e] at h; exact h
  | err c env' => rw [e] at h; exact fun I' H' s => h σ I' H' s.weak
  | ok ss env' =>
    rw [e] at h
    dsimp only at h
    intro vs I' H' s hv
    have key : ∀ H2, StpE K g I H σ env I' H2 σ env' → SsOk K g H I' H2 ss vs → is.length = vs.length ∧ Dn.nx (setAll σ is vs) H2 := fun H2 s2 hv2 => outS_setSs s2.weak hv2 (fun j s' p e1 ho e2 => by
      obtain ⟨q, e3, fq⟩ := SsOk.fr hv2 j s' _ e1 e2 ho
      cases e3
      exact StpP.newOwn ok s2 fq) (by unfold bnd; exact h)
    refine ⟨by rw [← (key H' s hv).1]; exact hl, fun p hp => key _ (s.trans (s.ok.newH hp)) (SsOk.keep (fun q o e => ?_) hv)⟩
    rw [upd_ne (fun z => by rw [z, hp] at e; cases e)]
    exact e
end
def gNames : List Nat → TGs
  | [] => gNil
  | i :: is => gCons (gName i) (gNames is)
theorem gNames_all : ∀ {is : List Nat} {vs : List V} {σ : L2.St} {H : Hp} {Q : L2.St → Hp → Prop}, is.length = vs.length → Q (setAll σ is vs) H → gNames is vs σ H Q
  | [], [], _, _, _, _, h => ⟨rfl, h⟩
  | i :: is, v :: vs, σ, H, Q, hl, h => ⟨v, vs, rfl, gNames_all (is := is) (by simpa using hl) h⟩
section
variable {X : Cx} {g : Gx} {W : WX} {pos : Pos} {a b c e : Expr} {es vs : List Expr} {mss : M (List Slot)}
theorem s_parS2 {i j : Nat} {x y : Str} {px py pt : Pos} {kt k2 : Nat} {pt2 : Pos} (hc : X.calm = true) (hN : X.N.Nodup) (hi : X.N[i]? = some x) (hj : X.N[j]? = some y) (hij : i ≠ j) (hx : X.env.scope.names.lookup x = some .local) (hy : X.env.scope.names.lookup y = some .local) (ha : DSL X g W [a, b] mss)
    (hw : swappedStores [.Tuple [.Name x px, .Name y py] kt pt] (.Tuple [a, b] k2 pt2) X.env = pure (some [x, y]))
    (hs : swapsWithSole [.Tuple [.Name x px, .Name y py] kt pt] (.Tuple [a, b] k2 pt2) pos.line X.env = pure false := by rfl) : DS X g W (.Assign [.Tuple [.Name x px, .Name y py] kt pt] (.Tuple [a, b] k2 pt2) pos) (parS [i, j] mss) :=
  ps_imp (ps_par hc hN hi hj hij hx hy ha hw hs) fun Dn σ H h => tr_thn (trS_parS h) fun vs H1 ⟨hl, q⟩ => by
    match vs, hl with
    | [v, w], _ => exact ⟨v, w, rfl, q⟩
theorem s_parS3 {i j l : Nat} {x y z : Str} {px py pz pt : Pos} {kt k2 : Nat} {pt2 : Pos} (hc : X.calm = true) (hN : X.N.Nodup) (hi : X.N[i]? = some x) (hj : X.N[j]? = some y) (hl : X.N[l]? = some z) (hij : i ≠ j) (hil : i ≠ l) (hjl : j ≠ l) (hx : X.env.scope.names.lookup x = some .local) (hy : X.env.scope.names.lookup y = some .local) (hz : X.env.scope.names.lookup z = some .local) (ha : DSL X g W [a, b, c] mss)
    (hw : swappedStores [.Tuple [.Name x px, .Name y py, .Name z pz] kt pt] (.Tuple [a, b, c] k2 pt2) X.env = pure (some [x, y, z]))
    (hs : swapsWithSole [.Tuple [.Name x px, .Name y py, .Name z pz] kt pt] (.Tuple [a, b, c] k2 pt2) pos.line X.env = pure false := by rfl) : DS X g W (.Assign [.Tuple [.Name x px, .Name y py, .Name z pz] kt pt] (.Tuple [a, b, c] k2 pt2) pos) (parS [i, j, l] mss) :=
  ps_imp (ps_par3 hc hN hi hj hl hij hil hjl hx hy hz ha hw hs) fun Dn σ H h => tr_thn (trS_parS h) fun vs H1 ⟨hl, q⟩ => by
    match vs, hl with
    | [v, w, u], _ => exact ⟨v, w, u, rfl, q⟩
/-- .. through a tuple: names of any kind -/
theorem s_parT {is : List Nat} {kt k2 : Nat} {pt pt2 : Pos} (hc : X.calm = true) (ha : DSL X g W vs mss) (hg : PGs X es (gNames is)) (hl : is.length ≤ 16777216 := by decide) (hn : (assignEach es X.env).length = is.length := by rfl) (hst : (assignEach es X.env).findIdx? (·.1) = none := by rfl)
    (hs : swapsWithSole [.Tuple es kt pt] (.Tuple vs k2 pt2) pos.line X.env = pure false := by rfl) (hw : swappedStores [.Tuple es kt pt] (.Tuple vs k2 pt2) X.env = pure none := by rfl) (h1 : (assignEach [.Tuple es kt pt] X.env).map (·.2) = [assign (.Tuple es kt pt) X.env] := by rfl) :
    DS X g W (.Assign [.Tuple es kt pt] (.Tuple vs k2 pt2) pos) (parS is mss) :=
  ps_imp (ps_asg (pe_tup ha) (pg_tup hc hg hn hst) hs hw h1) fun Dn σ H h => tr_thn (trS_parT hl h) fun us H1 ⟨h16, q⟩ => by
    refine ⟨by rw [line_eq]; exact h16, fun p hp => ?_⟩
    obtain ⟨k1, k2⟩ := q p hp
    exact ⟨p, us, rfl, .inl (.inl upd_same), k1.symm, gNames_all k1 k2⟩
end
end DL
set_option Elab.async false
set_option linter.all false
set_option maxRecDepth 100000
set_option maxHeartbeats 4000000
set_option autoImplicit false
namespace DL
open PySem PySem.Spec PyProof.Rows L2 LamX
/-! ### {k: v, ..}: data; keys whole numbers and texts -/
abbrev RPr (K : PySem.W.Frag) (g : Gx) : Rl (List D) (List (V × V)) := fun _ I' _ ds ps => Reps K g I' ds (ps.flatMap fun p => [p.1, p.2])
instance {K : PySem.W.Frag} {g : Gx} : RMono (RPr K g) := ⟨fun _ h => h⟩
def DPs (X : Cx) (g : Gx) (W : WX) (pos : Pos) (keys : List (Option Expr)) (values : List Expr) (m : M (List D)) : Prop := ∃ trs, PPs X pos keys values trs ∧ ∀ σ H Q, tr X.K g W (RPr X.K g) m σ H Q → tPairs trs σ H Q
def mpair (mk mv : M D) (m : M (List D)) : M (List D) := bnd mk fun x => bnd mv fun y => bnd m fun r => ret (x :: y :: r)
def pairA : List D → Option (List (Key × D))
  | [] => some []
  | k :: v :: r => match keyOf k, pairA r with
    | some k, some r => some ((k, v) :: r)
    | _, _ => none
  | _ => none
def dDisp (l : List D) : Option D := (pairA l).bind fun ps => if ps.length ≤ 15 then some (.dic (mergeD ps).1 (mergeD ps).2) else none
section
variable {K : PySem.W.Frag} {g : Gx} {W : WX} {I H I' H' : Hp} {σ σ' : L2.St} {env env' : DL.Env}
theorem pairA_rep : ∀ {l : List D} {ps : List (Key × D)} {vs : List (V × V)}, pairA l = some ps → Reps K g I l (vs.flatMap fun p => [p.1, p.2]) → ∃ kvs : List (Key × V), vs = kvs.map (fun kv => (kV kv.1, kv.2)) ∧ kvs.map (·.1) = ps.map (·.1) ∧ Reps K g I (ps.map (·.2)) (kvs.map (·.2))
  | [], ps, vs, h, r => by
    cases h
    have r := reps_nil.mp r
    cases vs with
    | nil => exact ⟨[], rfl, rfl, Reps.nil⟩
    | cons a t => cases r
  | [_], ps, vs, h, r => by cases h
  | k :: v :: l, ps, vs, h, r => by
    unfold pairA at h
    split at h
    · rename_i k' r' hk hr
      cases h
      cases vs with
      | nil => obtain ⟨u, us, e, _⟩ := reps_cons.mp r; cases e
      | cons p vs =>
        obtain ⟨u, us, e, r1, r2⟩ := reps_cons.mp r
        rw [List.flatMap_cons] at e
        obtain ⟨rfl, rfl⟩ := List.cons.inj e
        obtain ⟨u2, us2, e2, r3, r4⟩ := reps_cons.mp r2
        obtain ⟨rfl, rfl⟩ := List.cons.inj e2
        obtain ⟨kvs, rfl, h3, h4⟩ := pairA_rep hr r4
        have := keyOf_v hk r1
        obtain ⟨p1, p2⟩ := p
        cases this
        exact ⟨(k', p2) :: kvs, rfl, by simp [h3], reps_cons.mpr ⟨_, _, rfl, r3, h4⟩⟩
    · cases h
theorem StpP.pokeD {D : Addr} {o : HO} (s : StpE K g I H σ env I' H' σ' env') (hD : H D = none) (hD' : H' D = some (.dK [])) (iD : I' D = none) (nO : ¬ Own σ' env' D) : StpE K g I H σ env I' (upd H' D o) σ' env' := by
  refine ⟨⟨⟨fun {a u} q dk => ?_, fun {a u} q => ?_⟩, s.ok.nt, fun q hq => ?_, s.ok.len, fun i z x h1 h2 => ?_, s.ok.sep⟩, s.sub, fun a o q n t => ?_, fun a q => ?_, s.fresh, s.own, s.pin⟩
  · have : a ≠ D := fun z => by rw [z, iD] at q; cases q
    rw [upd_ne this]; exact s.ok.sub.get q dk
  · have : a ≠ D := fun z => by rw [z, iD] at q; cases q
    rcases s.ok.sub.rd q with r | ⟨u', r⟩
    · exact .inl (by rw [upd_ne this]; exact r)
    · exact .inr ⟨u', by rw [upd_ne this]; exact r⟩
  · obtain ⟨ps, h1, h2, h3⟩ := s.ok.tabs q hq
    have n1 : q.1 ≠ D := fun z => by rw [z, hD'] at h1; cases h1
    refine ⟨ps, by rw [upd_ne n1]; exact h1, h2, fun pos cv hc => ?_⟩
    obtain ⟨c, z1, z2⟩ := h3 pos cv hc
    have n2 : c ≠ D := fun z => by rw [z, hD'] at z2; unfold CodeO at z2; cases z2
    exact ⟨c, z1, by rw [upd_ne n2]; exact z2⟩
  · refine (s.ok.slot i z x h1 h2).mono (Le.refl _) (fun p o ho hq r => ?_) fun p ho hq => ?_
    · have : p ≠ D := fun e => nO ⟨i, z, h1, ho, by rw [h2, hq, e]⟩
      rw [upd_ne this]; exact r
    · obtain ⟨p', o', e3, _, e5, _⟩ := (s.ok.slot i z x h1 h2).own_of ho
      rw [hq] at e3; cases e3
      exact e5
  · have : a ≠ D := fun z => by rw [z, hD] at q; cases q
    rw [upd_ne this]; exact s.keep a _ q n t
  · by_cases h : a = D
    · rw [h]; exact .inl hD
    · exact s.there a (q.elim (fun r => .inl (by rw [upd_ne h] at r; exact r)) fun ⟨ps, r⟩ => .inr ⟨ps, by rw [upd_ne h] at r; exact r⟩)
end
section
variable {X : Cx} {g : Gx} {W : WX} {pos : Pos} {k v : Expr} {keys : List (Option Expr)} {values : List Expr} {mk mv : M D} {m : M (List D)}
theorem dp_nil : DPs X g W pos [] [] (ret []) := ⟨[], pps_nil, fun σ H Q ⟨I, env, ok, h⟩ => h.done ok Reps.nil⟩
theorem dp_cons (hk : DE X g W k mk) (hv : DE X g W v mv) (hr : DPs X g W pos keys values m) : DPs X g W pos (some k :: keys) (v :: values) (mpair mk mv m) := by
  obtain ⟨trs, hp, hi⟩ := hr
  refine ⟨_, pps_cons hk hv hp, fun σ H Q ⟨I, env, ok, h⟩ => ?_⟩
  refine tr_bnd (Rr := RPr X.K g) (Rr' := RD X.K g) ok h fun x dx I1 H1 env1 st rx h1 => tr_bnd (Rr := RPr X.K g) (Rr' := RD X.K g) st.ok h1 fun y dy I2 H2 env2 st2 ry h2 => hi σ H2 _ (tr_bnd (Rr := RPr X.K g) (Rr' := RPr X.K g) st2.ok h2 fun ps ds I3 H3 env3 st3 rps h3 => h3.done st3.ok ?_)
  exact Reps.cons (Rep.mono st3.sub (Rep.mono st2.sub rx)) (Reps.cons (Rep.mono st3.sub ry) rps)
theorem d_disp (hp : DPs X g W pos keys values m) (hall : keys.all (·.isSome) = true := by rfl) (hl : keys.length = values.length := by rfl) (h0 : keys ≠ [] := by exact fun z => nomatch z) (h15 : keys.length ≤ 15 := by decide) : DE X g W (.Dict keys values pos) (oc dDisp m) := by
  obtain ⟨trs, hp, hi⟩ := hp
  refine pe_imp (pe_disp hp hall hl h0 h15) fun σ H Q ⟨I, env, ok, h⟩ => fun p hp => hi σ _ _ ?_
  have s0 : StpE X.K g I H σ env I (upd H p (.dK [])) σ env := ok.newH hp
  refine ⟨I, env, s0.ok, ?_⟩
  unfold oc bnd at h
  cases e : m env with
  | bad => rw [e] at h; exact h
  | err c env' => rw [e] at h; exact fun I' H' s => h I' H' (s0.trans s)
  | ok l env' =>
    rw [e] at h
    dsimp only at h
    intro ps I2 H2 s2 r
    obtain ⟨z, hz⟩ : ∃ z, dDisp l = some z := by
      cases q : dDisp l with
      | none => rw [q] at h; exact h.elim
      | some z => exact ⟨z, rfl⟩
    rw [hz] at h
    have h2 : ∀ v I' H', StpE X.K g I H σ env I' H' σ env' → Rep X.K g I' z v → Q v H' := h
    have nO : ¬ Own σ env' p := StpP.newOwn ok (s0.trans s2) (.inl hp)
    have hk : H2 p = some (.dK []) := s2.keep p _ upd_same (StpP.newOwn ok s0 (.inl hp)) (fun _ z => nomatch z)
    have ip : I2 p = none := by
      cases q : I2 p with
      | none => rfl
      | some z =>
        rcases s2.fresh p (by rw [q]; simp) with w | w | w
        · exact absurd (ok.fresh_i hp) w
        · exact (w.not upd_same (fun _ z => nomatch z)).elim
        · exact absurd w (StpP.newOwn ok s0 (.inl hp))
    obtain ⟨kps, h3, h4⟩ := Option.bind_eq_some_iff.mp (show (pairA l).bind _ = some z from hz)
    split at h4
    · rename_i h5
      cases h4
      obtain ⟨kvs, rfl, k1, k2⟩ := pairA_rep h3 r
      have hlen : kvs.length = kps.length := by
        have := congrArg List.length k1
        simpa using this
      refine ⟨hk, kvs, rfl, by omega, ?_⟩
      obtain ⟨m1, m2⟩ := merge_rep (q := ([], [])) (acc := []) k1 k2 rfl (reps_nil.mpr rfl)
      have st : StpE X.K g I H σ env I2 (upd H2 p (.dK (mergeK [] kvs))) σ env' := (s0.trans s2).pokeD hp hk ip nO
      have st2 := st.know (.inl hp) ip upd_same (fun _ z => nomatch z) nO
      refine h2 (.ref p) _ _ st2 (rep_dic.mpr ⟨p, (mergeK [] kvs).map (·.2), rfl, ?_, ?_, ?_⟩)
      · rw [upd_same]
        have : (mergeD kps).1 = (mergeK [] kvs).map (·.1) := m1
        rw [this, zip_self]
      · have : (mergeD kps).1 = (mergeK [] kvs).map (·.1) := m1
        rw [this]; simp
      · exact Reps.mono (Le.new ip) m2
    · cases h4
end
end DL
set_option Elab.async false
set_option linter.all false
set_option maxRecDepth 100000
set_option maxHeartbeats 4000000
set_option autoImplicit false
namespace DL
open PySem PySem.Spec PyProof.Rows L2 LamX
/-! ### sorted of a dict whose keys are texts -/
def leT (a b : Str) : Bool := !ltCps b.cps.toList a.cps.toList
theorem leT_iff {a b : Str} : leT a b = true ↔ a.cps.toList ≤ b.cps.toList := by
  unfold leT
  rw [ltCps_eq]
  simp
theorem leT_trans (a b c : Str) (h : leT a b = true) (h2 : leT b c = true) : leT a c = true := leT_iff.mpr (List.le_trans (leT_iff.mp h) (leT_iff.mp h2))
theorem leT_total (a b : Str) : (leT a b || leT b a) = true := by
  rw [Bool.or_eq_true, leT_iff, leT_iff]
  exact List.le_total _ _
theorem leT_anti {a b : Str} (h : leT a b = true) (h2 : leT b a = true) : a = b := by
  have := List.le_antisymm (leT_iff.mp h) (leT_iff.mp h2)
  cases a; cases b
  simpa using this
def sortT (ks : List Str) : List Str := ks.mergeSort leT
theorem sortT_perm (ks : List Str) : (sortT ks).Perm ks := List.mergeSort_perm ks _
theorem sortT_pw (ks : List Str) : (sortT ks).Pairwise fun a b => leT a b = true := List.pairwise_mergeSort leT_trans leT_total ks
theorem rising_pw : ∀ {l : List Str} {p : Str}, risingS p l = true → (p :: l).Pairwise fun a b => leT a b = true
  | [], _, _ => by simp
  | x :: r, p, h => by
    obtain ⟨h1, h2⟩ := (Bool.and_eq_true _ _).mp (show (!ltCps x.cps.toList p.cps.toList && risingS x r) = true from h) |> fun z => z
    have ih := rising_pw h2
    refine List.pairwise_cons.mpr ⟨fun b hb => ?_, ih⟩
    rcases List.mem_cons.mp hb with rfl | hb
    · exact h1
    · exact leT_trans _ _ _ h1 ((List.pairwise_cons.mp ih).1 b hb)
theorem sorted_pw {l : List Str} (h : sortedS l = true) : l.Pairwise fun a b => leT a b = true := by
  cases l with
  | nil => simp
  | cons x r => exact rising_pw h
theorem sortT_of {ks ys : List Str} (p : ys.Perm ks) (h : sortedS ys = true) : ys = sortT ks := (p.trans (sortT_perm ks).symm).eq_of_pairwise (fun a b _ _ h h' => leT_anti h h') (sorted_pw h) (sortT_pw ks)
def keyStrs : List Key → Option (List Str)
  | [] => some []
  | .inr i :: ks => (keyStrs ks).map (i :: ·)
  | _ => none
theorem keyStrs_of : ∀ {ks : List Key} {ns : List Str}, keyStrs ks = some ns → ks = ns.map Sum.inr
  | [], _, h => by cases h; rfl
  | .inr i :: ks, _, h => by
    obtain ⟨ns, h1, rfl⟩ := Option.map_eq_some_iff.mp (show (keyStrs ks).map (i :: ·) = some _ from h)
    rw [keyStrs_of h1]; rfl
  | .inl i :: ks, _, h => by cases h
/-- sorted: whole numbers; a dict's keys; plain data -/
def dSortB : D → Option (List D)
  | .dic ks l => match keyStrs ks with
    | some ns => if ns.length < 64 then some ((sortT ns).map D.str) else none
    | none => dSortA (.dic ks l)
  | x => dSortA x
theorem ll_sortB {X : Cx} {g : Gx} : LkPL X.K g (fun vs H Q => rSortA X vs H Q ∨ rSortP X.K vs H Q) dSortB := by
  intro I H σ env x z v Q ok rx hz q
  cases x <;> first | exact ll_sortA I H σ env _ z v Q ok rx hz q | skip
  rename_i ks l
  have hz' : (match keyStrs ks with
    | some ns => if ns.length < 64 then some ((sortT ns).map D.str) else none
    | none => dSortA (.dic ks l)) = some z := hz
  split at hz'
  · rename_i ns h1
    split at hz'
    · rename_i h64
      cases hz'
      obtain ⟨p, vs, rfl, e2, e3, e4⟩ := prep_dic.mp rx
      refine .inl (.inr (.inr (.inl ⟨p, _, ns, rfl, e2, ?_, h64, fun ys l hp hw hl => ?_⟩)))
      · rw [zip_keys e3, keyStrs_of h1]
      · rw [sortT_of hp hw]
        obtain ⟨s2, r2⟩ := roNew ok hl (strs_reps (K := X.K) (g := g) (I := I) (sortT ns))
        exact q _ _ _ s2 r2
    · cases hz'
  · exact ll_sortA I H σ env _ z v Q ok rx hz' q
end DL
set_option Elab.async false
set_option linter.all false
set_option maxRecDepth 100000
set_option maxHeartbeats 4000000
set_option autoImplicit false
namespace DL
open PySem PySem.Spec PyProof.Rows L2 LamX
/-! ### raise X(e); name = {} ; {} as data -/
def raiseE (c : Nat) (m : M D) : M Fl := bnd m fun _ => raise c
def asgSl (m : M Slot) (i : Nat) : M Fl := bnd m fun s => bnd (setS i s) fun _ => ret .nx
section
variable {X : Cx} {g : Gx} {W : WX} {pos pos' p : Pos} {x : Str} {c : Nat} {e : Expr} {ma : M D} {ms : M Slot}
theorem s_raiseE (hE : ExD X.K X.mg g c x) (tk : Takes X W) (he : DE X g W e ma) (hc : X.calm = true := by rfl) (hg : Gl X x := by rfl) (hs : starEach [e] X.env = (false, eval e X.env) :: starEach [] X.env := by rfl) (hdb : (x == ("__debug__" : Str)) = false := by decide) : DS X g W (.Raise (some (.Call (.Name x p) [e] [] pos)) none pos') (raiseE c ma) :=
  ps_imp (ps_raise hc tk (SkE.pmk_own1 PySem.F.excBase_ValueError hE.exc hE.gl hE.kp (raises_own hE.sb hE.ty) hg he hs hdb)) fun Dn σ H ⟨I, env, ok, h⟩ => trS_bnd (Rr := RD X.K g) ok h fun v d I1 H1 env1 st r h1 => h1 σ I1 H1 (StpP.refl st.ok)
theorem s_setSl {i : Nat} {x : Str} {pos' : Pos} (hN : X.N.Nodup) (hi : X.N[i]? = some x) (he : DSl X g W e ms) (hx : Loc X.env.scope x := by first | exact Or.inl rfl | exact Or.inr rfl) (hs : swapsWith e (some (.Name x pos')) pos.line X.env = pure false := by rfl) (hf : X.fn x = true ∨ X.env.scope.names.lookup x = some .local := by first | exact .inl rfl | exact .inr rfl | assumption) :
    DS X g W (.Assign [.Name x pos'] e pos) (asgSl ms i) :=
  ps_imp (ps_set hN hi hx he hs hf) fun Dn σ H ⟨I, env, ok, h⟩ => by
    refine ⟨I, env, ok, ?_⟩
    unfold asgSl bnd at h
    cases e : ms env with
    | bad => rw [e] at h; exact h
    | err c env' => rw [e] at h; exact fun I' H' s => h σ I' H' s.weak
    | ok t env' =>
      rw [e] at h
      dsimp only at h
      intro v I' H' s hv
      rcases setS_or i t env' with e1 | ⟨z, ez, hp, e1⟩
      · rw [e1] at h; exact h.elim
      · rw [e1] at h
        exact h _ I' H' (StpP.setSl s.weak ez hp hv fun ho p hp => by
          obtain ⟨q, eq, fq⟩ := hv.2.2 ho
          rw [hp] at eq; cases eq
          exact StpP.newOwn ok s fq)
theorem d_dnew : DE X g W (.Dict [] [] pos) (ret (.dic [] [])) := pe_imp pe_dnewK fun σ H Q ⟨I, env, ok, h⟩ => fun p hp => by
  exact h (.ref p) _ _ (ok.new hp (fun _ z => nomatch z)) (rep_dic.mpr ⟨p, [], rfl, upd_same, rfl, Reps.nil⟩)
end
end DL
set_option Elab.async false
set_option linter.all false
set_option maxRecDepth 100000
set_option maxHeartbeats 4000000
set_option autoImplicit false
namespace DL
open PySem PySem.Spec PyProof.Rows L2 LamX
/-! ### sorted(x, reverse=True): whole numbers of a list, of a dict's keys -/
section
variable {X : Cx}
def rSortRevD (b : Bool) : List V → List V → Hp → VK → Prop := fun vs zs H Q => ∃ (a : Addr) (kvs : List (Key × V)) (ks : List Int), vs = [.ref a] ∧ zs = [.bl b] ∧ Rd H a (.dK kvs) ∧ kvs.map (·.1) = ks.map Sum.inl ∧ ks.length < 64 ∧ ∀ (ys : List Int) (p : Addr), ys.Perm ks → OrdB b ys → H p = none → Q (.ref p) (upd H p (.lst (ys.map V.int)))
theorem cr_sortedRevD (hcalm : X.calm = true) {b : Bool} : CallRK X (.builtin "sorted") [Str.ofString "reverse"] (rSortRevD b) := by
  intro pins s σ H xs zs us ws Q I r rz q
  obtain ⟨a, kvs, ks, rfl, rfl, hd, hks, h64, q⟩ := q
  obtain rfl := Vals.ref1 r
  obtain ⟨w1, rfl, e1⟩ := vals1 rz
  obtain rfl : w1 = Value.bool b := e1
  obtain ⟨z, lo, vs, rel, dd⟩ := dk_rd I.hok hd
  obtain ⟨ep, hat⟩ := dd.dictAt
  have hkeys : vs.map (·.1) = ks.map Sum.inl := rel.keys.symm.trans hks
  have hl : vs.length = ks.length := by
    have e := congrArg List.length hkeys
    rw [List.length_map, List.length_map] at e
    exact e
  have h16 : vs.length ≤ sizeLine := by rw [hl, sizeLine_eq]; omega
  refine PyProof.Rows.call_function_entry_kw PyProof.Rows.kind_sorted PyProof.Rows.plain_sorted PyProof.Rows.entry_sorted (PyProof.Rows.args_sorted_rev _ _) ?_
  unfold Builtin.«sorted»
  refine wpAny_bind (m := checkCount "sorted" 1 1 _) (wpAny_pure ?_)
  refine wpAny_bind (PySem.W.kdu_collect (A := X.A.in1) (PySem.W.kdl_dict (knd := mixKind X.prog X.w) (kvs := vs) (ep := ep) lo) (I.ok.hd hcalm) hat h16 fun h' tk acc hk hacc => ?_)
  have hal : acc.toList.length = ks.length := by rw [Array.length_toList, hacc.1, hl]
  have hS : IntsAre acc.toList ks := ints_each hal fun j v e => by
    obtain ⟨k, x, e1, e2⟩ := hacc.2 j v (by rw [← Array.getElem?_toList]; exact e)
    have e3 : (vs.map (·.1))[j]? = some k := by rw [List.getElem?_map, e1]; rfl
    rw [hkeys, List.getElem?_map] at e3
    cases e4 : ks[j]? with
    | none => rw [e4] at e3; cases e3
    | some y =>
      rw [e4] at e3
      have e5 : Sum.inl y = k := Option.some.inj e3
      subst e5
      rcases keyIs_shape (show keyIs (Sum.inl y) v = true from e2) with ⟨i, t, ek, ev⟩ | ⟨z, t, ek, ev⟩
      · cases ek
        exact ⟨y, t, rfl, ev⟩
      · cases ek
  have I1 : Inv X pins σ H { s with heap := h', toks := tk } := I.kept hk
  refine wpAny_bind (wpAny_newList ?_ (by rw [hal, sizeLine_eq]; omega))
  have hoL : (h'.push (seqObj "list" acc.toList.toArray 0)).get? h'.objs.size = some (seqObj "list" acc.toList.toArray 0) := Heap.get?_push_size _ rfl
  show wpAny _ _ _ _ _ { s with heap := h'.push (seqObj "list" acc.toList.toArray 0), toks := tk }
  have hz : acc.toList.length ≤ sizeLine := by rw [hal, sizeLine_eq]; omega
  refine wpAny_bind (wpAny_holding (wpAny_call_entry_kw PyProof.Rows.slot_list_sort ⟨_, hoL, rfl⟩ PyProof.Rows.entry_list_sort ?_ (PyProof.Rows.args_list_sort_rev _ _)))
  refine SrtR.list_sort_ordR (s := { s with heap := h'.push (seqObj "list" acc.toList.toArray 0), toks := tk }) SrtO.swo_int hoL hz (fun h2 => SrtO.ints_sortable hS h2) fun out h1 h2 => ⟨_, rfl, ?_⟩
  obtain ⟨ys, g1, g2, g3⟩ := SrtR.ints_outR hS h1 h2
  obtain ⟨e', he'⟩ := PyProof.Rows.sortedHeap_at (vs := acc.toList) (out := if b = true then out.toArray.reverse else out.toArray) hoL
  have hlen : (ys.map V.int).length ≤ sizeLine := by
    rw [List.length_map, g2.length_eq]
    exact Nat.le_trans (Nat.le_of_lt h64) (by decide)
  refine wpAny_pure ⟨_, rfl, .ref h'.objs.size, upd H h'.objs.size (.lst (ys.map V.int)), I1.laid (t' := tk) (fun b u e => ?_) (Nat.le_refl _)
    (show ObjOk X.prog X.w _ _ _ (.lst (ys.map V.int)) from ⟨hlen, _, e', vals_of_ints g1, by rw [Array.toArray_toList]; exact he'⟩), rfl, q ys _ g2 g3 (I1.hok.fresh (Nat.le_refl _))⟩
  have hb : b < h'.objs.size := Heap.lt_size e
  rw [PyProof.Rows.sortedHeap_old (Nat.ne_of_lt hb) (by rw [size_push']; exact Nat.lt_succ_of_lt hb)]
  exact Heap.get?_push_of_some _ e
end
def sortR (ns : List Int) : List Int := (sortI ns).reverse
theorem sortR_of {ns ms : List Int} (p : ms.Perm ns) (h : ms.Pairwise (· ≥ ·)) : ms = sortR ns := by
  have := sortI_of (ns := ns) (ms := ms.reverse) ((List.reverse_perm _).trans p) (List.pairwise_reverse.mpr h)
  unfold sortR
  rw [← this, List.reverse_reverse]
def dSortR : D → Option (List D)
  | .lst l => (intsD l).map fun ns => (sortR ns).map D.int
  | .dic ks _ => (keyInts ks).bind fun ns => if ns.length < 64 then some ((sortR ns).map D.int) else none
  | _ => none
theorem ll_sortR {X : Cx} {g : Gx} : LkPL X.K g (fun vs H Q => rSortedKw X.K true [.bl true] vs [.bl true] H Q ∨ rSortRevD true vs [.bl true] H Q) dSortR := by
  intro I H σ env x z v Q ok rx hz q
  cases x <;> first | (cases hz; done) | skip
  · obtain ⟨ns, h1, rfl⟩ := Option.map_eq_some_iff.mp (show (intsD _).map (fun ns => (sortR ns).map D.int) = some z from hz)
    obtain ⟨p, rfl, e2⟩ := prep_ints rx h1
    refine .inl ⟨p, ns, rfl, rfl, SqL.of e2, fun ns' l hp hw hl => ?_⟩
    rw [sortR_of hp hw]
    obtain ⟨s2, r2⟩ := roNew ok hl (ints_reps (K := X.K) (g := g) (I := I) (sortR ns))
    exact q _ _ _ s2 r2
  · rename_i ks l
    obtain ⟨p, vs, rfl, e2, e3, e4⟩ := prep_dic.mp rx
    obtain ⟨ns, h1, h2⟩ := Option.bind_eq_some_iff.mp (show (keyInts ks).bind (fun ns => if ns.length < 64 then some ((sortR ns).map D.int) else none) = some z from hz)
    split at h2
    · rename_i hl
      cases h2
      refine .inr ⟨p, _, ns, rfl, rfl, e2, ?_, hl, fun ns' l hp hw hl => ?_⟩
      · rw [zip_keys e3, keyInts_of h1]
      · rw [sortR_of hp hw]
        obtain ⟨s2, r2⟩ := roNew ok hl (ints_reps (K := X.K) (g := g) (I := I) (sortR ns))
        exact q _ _ _ s2 r2
    · cases h2
theorem CallRK.or {X : Cx} {f : Value} {ks : List Str} {r1 r2 : List V → List V → Hp → VK → Prop} (h1 : CallRK X f ks r1) (h2 : CallRK X f ks r2) : CallRK X f ks (fun vs zs H Q => r1 vs zs H Q ∨ r2 vs zs H Q) := fun pins s σ H xs zs us ws Q I r rz h => by
  rcases h with h | h
  · exact h1 pins s σ H xs zs us ws Q I r rz h
  · exact h2 pins s σ H xs zs us ws Q I r rz h
section
variable {X : Cx} {g : Gx} {W : WX} {pos p p2 p3 : Pos} {a b e : Expr} {ma mb : M D} {j : Nat}
theorem c_sortRev (hc : X.calm = true) (hg : Gl X "sorted") (hm : X.mg "sorted" = none) (ha : DP X g W e ma) (hs : starEach [e] X.env = [(false, eval e X.env)] := by rfl)
    (he : backTo pos (starEach [e] X.env) = (false, eval e X.env) :: backTo pos (starEach [] X.env) := by rfl) (hpl : (backTo pos (starEach [e] X.env)).any (·.1) = false := by rfl)
    (hall : (backToKw pos (keywordEach [⟨some "reverse", .Constant (.bool true) j p2, p3⟩] X.env)).all (·.1.isSome) = true := by rfl) (hnone : (backToKw pos (keywordEach [⟨some "reverse", .Constant (.bool true) j p2, p3⟩] X.env)).any (·.1.isNone) = false := by rfl) (hks : (backToKw pos (keywordEach [⟨some "reverse", .Constant (.bool true) j p2, p3⟩] X.env)).filterMap (·.1) = [Str.ofString "reverse"] := by rfl) :
    DC X g W (.Call (.Name "sorted" p) [e] [⟨some "reverse", .Constant (.bool true) j p2, p3⟩] pos) (o1L dSortR ma) :=
  pe_imp (pe_callBK (CallRK.or cr_sortedRev (cr_sortedRevD hc)) hg hm (by decide +kernel) (pa_cons ha pa_nil hs) (pk_cons pe_bl pk_nil) (by decide) (by decide) he hpl hall hnone hks) fun σ H Q h => tr_cb1L ll_sortR h
/-! ### x in name, the name's list an own one -/
def Lk2P (K : PySem.W.Frag) (g : Gx) (r : R2) (f : D → D → Option D) : Prop := ∀ (I H : Hp) (x y z : D) (v w : V) (Q : VK), Sub I H → Rep K g I x v → PRep K g I H y w → f x y = some z → (∀ u, Rep K g I z u → Q u H) → r v w H Q
theorem lk_inP {K : PySem.W.Frag} {neg : Bool} : Lk2P K g (rIn K neg) (dInI neg) := by
  intro I H x y z v w Q le rx ry hz q
  cases x <;> first | (cases hz; done) | skip
  cases y <;> first | (cases hz; done) | skip
  · exact lk_inI I H _ _ z v w Q le rx (show Rep K g I _ w from ry) hz q
  · rename_i i l
    obtain ⟨ns, h1, rfl⟩ := Option.map_eq_some_iff.mp (show (intsD l).map _ = some z from hz)
    obtain rfl := rep_int.mp rx
    obtain ⟨p, vs, rfl, e2, e3⟩ := prep_lst.mp ry
    rw [intsD_of h1] at e3
    obtain rfl := reps_ints e3
    exact ⟨p, _, rfl, .inl (SqL.of e2), rfl, flat_ints ns, by rw [inV_ints]; exact q _ (rep_bl.mpr rfl)⟩
theorem tr_o2P {K : PySem.W.Frag} {r : R2} {f : D → D → Option D} {σ : L2.St} {H : Hp} {Q : VK} (hl : Lk2P K g r f) (h : tr K g W (RD K g) (o2 f ma mb) σ H Q) : tOp r (tr K g W (RD K g) ma) (tr K g W (RP K g) mb) σ H Q := by
  obtain ⟨I, env, ok, h⟩ := h
  exact tr_bnd (Rr := RD K g) (Rr' := RD K g) ok h fun v x I1 H1 env1 st rx h1 => tr_bnd (Rr := RD K g) (Rr' := RP K g) st.ok h1 fun w y I2 H2 env2 st2 ry h2 => by
    obtain ⟨z, hz, h3⟩ := out_lift h2
    exact hl I2 H2 x y z v w Q st2.ok.sub (Rep.mono st2.sub rx) ry hz fun u ru => h3 u I2 H2 (StpP.refl st2.ok) ru
theorem d_inP (ha : DE X g W a ma) (hb : DP X g W b mb) (hm : behindInMarks .In b = false := by rfl) : DE X g W (.Compare a [.In] [b] pos) (o2 (dInI false) ma mb) := pe_imp (pe_cmpR op_in_seq ha hb hm) fun σ H Q h => tr_o2P lk_inP h
theorem d_notInP (ha : DE X g W a ma) (hb : DP X g W b mb) (hm : behindInMarks .NotIn b = false := by rfl) : DE X g W (.Compare a [.NotIn] [b] pos) (o2 (dInI true) ma mb) := pe_imp (pe_cmpR op_notIn_seq ha hb hm) fun σ H Q h => tr_o2P lk_inP h
theorem t_inP (ha : DE X g W a ma) (hb : DP X g W b mb) (hm : behindInMarks .In b = false := by rfl) : DT X g W (.Compare a [.In] [b] pos) (tst (o2 (dInI false) ma mb)) := pt_imp (pt_cmpR op_in_seq ha hb hm) fun σ H Q ⟨I, env, ok, h⟩ => tr_o2P lk_inP (out_tst ok h)
theorem t_notInP (ha : DE X g W a ma) (hb : DP X g W b mb) (hm : behindInMarks .NotIn b = false := by rfl) : DT X g W (.Compare a [.NotIn] [b] pos) (tst (o2 (dInI true) ma mb)) := pt_imp (pt_cmpR op_notIn_seq ha hb hm) fun σ H Q ⟨I, env, ok, h⟩ => tr_o2P lk_inP (out_tst ok h)
end
end DL
set_option Elab.async false
set_option linter.all false
set_option maxRecDepth 100000
set_option maxHeartbeats 4000000
set_option autoImplicit false
namespace DL
open PySem PySem.Spec PyProof.Rows L2 LamX

/-! # what a denotation comes to, told backwards -/
/-- the type of the errors' word hangs on what is wished for: so simp leaves the wish alone -/
abbrev XT {α : Type} (P : α → DL.Env → Prop) : Type := Nat → DL.Env → Prop
def wp {α : Type} (m : M α) (env : DL.Env) (P : α → DL.Env → Prop) (X : XT P) : Prop := match m env with
  | .ok a e => P a e
  | .err c e => X c e
  | .bad => False
theorem wp_imp {α : Type} {m : M α} {env : DL.Env} {P P' : α → DL.Env → Prop} {X X' : Nat → DL.Env → Prop} (h : wp m env P X) (hP : ∀ a e, P a e → P' a e) (hX : ∀ c e, X c e → X' c e) : wp m env P' X' := by
  unfold wp at *
  cases e : m env with
  | ok a e' => rw [e] at h; exact hP _ _ h
  | err c e' => rw [e] at h; exact hX _ _ h
  | bad => rw [e] at h; exact h
theorem wp_ok {α : Type} {m : M α} {env : DL.Env} {a : α} {e : DL.Env} (h : m env = .ok a e) {P : α → DL.Env → Prop} {X : Nat → DL.Env → Prop} : wp m env P X = P a e := by unfold wp; rw [h]
theorem wp_err {α : Type} {m : M α} {env : DL.Env} {c : Nat} {e : DL.Env} (h : m env = .err c e) {P : α → DL.Env → Prop} {X : Nat → DL.Env → Prop} : wp m env P X = X c e := by unfold wp; rw [h]
theorem wp_get {α : Type} {m : M α} {env : DL.Env} {P : α → DL.Env → Prop} (h : wp m env P (fun _ _ => False)) : ∃ a e, m env = .ok a e ∧ P a e := by
  unfold wp at h
  cases e : m env with
  | ok a e' => rw [e] at h; exact ⟨a, e', rfl, h⟩
  | err c e' => rw [e] at h; exact h.elim
  | bad => rw [e] at h; exact h.elim
theorem wp_fun {α : Type} {m : M α} {env : DL.Env} {P P' : α → DL.Env → Prop} {X : Nat → DL.Env → Prop} (h : ∀ a e, P a e = P' a e) : wp m env P X = wp m env P' X := by
  have : P = P' := funext fun a => funext fun e => h a e
  subst this; rfl
section
variable {α β : Type} {env e : DL.Env} {P : α → DL.Env → Prop} {PD : D → DL.Env → Prop} {PB : Bool → DL.Env → Prop} {PL : List D → DL.Env → Prop} {PF : Fl → DL.Env → Prop} {PU : Unit → DL.Env → Prop} {X : Nat → DL.Env → Prop} {s : Slot} {i : Nat} {d : D}
@[simp ↓] theorem wp_ret {a : α} : wp (ret a) env P X = P a env := rfl
@[simp ↓] theorem wp_raise {c : Nat} : wp (raise c : M α) env P X = X c env := rfl
@[simp ↓] theorem wp_bad : wp (DL.bad : M α) env P X = False := rfl
@[simp ↓] theorem wp_bnd {m : M β} {f : β → M α} : wp (bnd m f) env P X = wp m env (fun a e => wp (f a) e P X) X := by
  unfold wp bnd
  cases h : m env <;> rfl
@[simp ↓] theorem wp_lift_some {a : α} : wp (lift (some a)) env P X = P a env := rfl
@[simp ↓] theorem wp_lift_none : wp (lift (none : Option α)) env P X = False := rfl
@[simp ↓] theorem wp_o1 {f : D → Option D} {a : M D} : wp (o1 f a) env PD X = wp a env (fun x e => wp (lift (f x)) e PD X) X := wp_bnd
@[simp ↓] theorem wp_o1L {f : D → Option (List D)} {a : M D} : wp (o1L f a) env PL X = wp a env (fun x e => wp (lift (f x)) e PL X) X := wp_bnd
@[simp ↓] theorem wp_o2 {f : D → D → Option D} {a b : M D} : wp (o2 f a b) env PD X = wp a env (fun x e => wp b e (fun y e => wp (lift (f x y)) e PD X) X) X := by
  unfold o2; rw [wp_bnd]; refine wp_fun fun x e => ?_; rw [wp_bnd]
@[simp ↓] theorem wp_oc {f : List D → Option D} {a : M (List D)} : wp (oc f a) env PD X = wp a env (fun x e => wp (lift (f x)) e PD X) X := wp_bnd
@[simp ↓] theorem wp_tst {m : M D} : wp (tst m) env PB X = wp m env (fun d e => match d with
  | .bl b => PB b e
  | _ => False) X := by
  unfold tst; rw [wp_bnd]; refine wp_fun fun d e => ?_; cases d <;> rfl
@[simp ↓] theorem wp_mIf {c : M Bool} {a b : M α} : wp (mIf c a b) env P X = wp c env (fun k e => if k = true then wp a e P X else wp b e P X) X := by
  unfold mIf; rw [wp_bnd]; refine wp_fun fun k e => ?_; cases k <;> rfl
@[simp ↓] theorem wp_mNot {a : M Bool} : wp (mNot a) env PB X = wp a env (fun k e => PB (!k) e) X := wp_bnd
@[simp ↓] theorem wp_mNotV {a : M D} : wp (mNotV a) env PD X = wp (tst a) env (fun k e => PD (.bl (!k)) e) X := wp_bnd
@[simp ↓] theorem wp_mAndV {a b : M D} : wp (mAndV a b) env PD X = wp (tst a) env (fun k e => if k = true then wp b e PD X else PD (.bl false) e) X := by
  unfold mAndV; rw [wp_bnd]; refine wp_fun fun k e => ?_; cases k <;> rfl
@[simp ↓] theorem wp_mOrV {a b : M D} : wp (mOrV a b) env PD X = wp (tst a) env (fun k e => if k = true then PD (.bl true) e else wp b e PD X) X := by
  unfold mOrV; rw [wp_bnd]; refine wp_fun fun k e => ?_; cases k <;> rfl
@[simp ↓] theorem wp_och {f f' : D → D → Option D} {a b c : M D} : wp (och f f' a b c) env PD X = wp a env (fun x e => wp b e (fun y e => wp (lift (f x y)) e (fun z e => match z with
  | .bl true => wp c e (fun w e => wp (lift (f' y w)) e PD X) X
  | .bl false => PD (.bl false) e
  | _ => False) X) X) X := by
  unfold och; rw [wp_bnd]; refine wp_fun fun x e => ?_; rw [wp_bnd]; refine wp_fun fun y e => ?_; rw [wp_bnd]; refine wp_fun fun z e => ?_
  cases z with
  | bl b => cases b <;> simp
  | _ => rfl
@[simp ↓] theorem wp_mcons {a : M D} {as : M (List D)} : wp (mcons a as) env PL X = wp a env (fun x e => wp as e (fun xs e => PL (x :: xs) e) X) X := by
  unfold mcons; rw [wp_bnd]; refine wp_fun fun x e => ?_; rw [wp_bnd]; rfl
@[simp ↓] theorem wp_mtup {as : M (List D)} : wp (mtup as) env PD X = wp as env (fun xs e => xs.length ≤ 16777216 ∧ PD (.tup xs) e) X := by
  unfold mtup; rw [wp_bnd]; refine wp_fun fun x e => ?_
  by_cases h : x.length ≤ 16777216
  · rw [if_pos h]; simp [h]
  · rw [if_neg h]; simp [h]
@[simp ↓] theorem wp_mlst {as : M (List D)} : wp (mlst as) env PD X = wp as env (fun xs e => xs.length ≤ 16777216 ∧ PD (.lst xs) e) X := by
  unfold mlst; rw [wp_bnd]; refine wp_fun fun x e => ?_
  by_cases h : x.length ≤ 16777216
  · rw [if_pos h]; simp [h]
  · rw [if_neg h]; simp [h]
@[simp ↓] theorem wp_mlo {as : M (List D)} : wp (mlo as) env PL X = wp as env (fun xs e => xs.length ≤ 16777216 ∧ PL xs e) X := by
  unfold mlo; rw [wp_bnd]; refine wp_fun fun x e => ?_
  by_cases h : x.length ≤ 16777216
  · rw [if_pos h]; simp [h]
  · rw [if_neg h]; simp [h]
@[simp ↓] theorem wp_mpart {m : M D} {PO : Option Int → DL.Env → Prop} : wp (mpart m) env PO X = wp m env (fun d e => match d with
  | .int i => PO (some i) e
  | _ => False) X := by
  unfold mpart; rw [wp_bnd]; refine wp_fun fun d e => ?_; cases d <;> rfl
@[simp ↓] theorem wp_mSl {m : M D} {l h : M (Option Int)} : wp (mSl m l h) env PD X = wp m env (fun x e => wp l e (fun lo e => wp h e (fun hi e => wp (lift (dCut x lo hi)) e PD X) X) X) X := by
  unfold mSl; rw [wp_bnd]; refine wp_fun fun x e => ?_; rw [wp_bnd]; refine wp_fun fun lo e => ?_; rw [wp_bnd]
/-! names -/
@[simp ↓] theorem wp_gv0 : wp (gv 0) (.im d :: e) PD X = PD d (.im d :: e) := rfl
@[simp ↓] theorem wp_gv0l {l : List D} : wp (gv 0) (.ol l :: e) PD X = PD (.lst l) (.im (.lst l) :: e) := rfl
@[simp ↓] theorem wp_gvS : wp (gv (i + 1)) (s :: e) PD X = wp (gv i) e (fun d e => PD d (s :: e)) X := by
  unfold wp gv
  rw [List.getElem?_cons_succ]
  cases h : e[i]? with
  | none => rfl
  | some z => cases z <;> rfl
@[simp ↓] theorem wp_gp0 : wp (gp 0) (.im d :: e) PD X = PD d (.im d :: e) := rfl
@[simp ↓] theorem wp_gp0l {l : List D} : wp (gp 0) (.ol l :: e) PD X = PD (.lst l) (.ol l :: e) := rfl
@[simp ↓] theorem wp_gp0i {l : List D} : wp (gp 0) (.io l :: e) PD X = PD (.lst l) (.io l :: e) := rfl
@[simp ↓] theorem wp_gpS : wp (gp (i + 1)) (s :: e) PD X = wp (gp i) e (fun d e => PD d (s :: e)) X := by
  unfold wp gp
  rw [List.getElem?_cons_succ]
  cases h : (e[i]?).bind Slot.dat <;> rfl
theorem gp_ok {i : Nat} {env : DL.Env} {d : D} (h : (env[i]?).bind Slot.dat = some d) : gp i env = .ok d env := by unfold gp; rw [h]
@[simp ↓] theorem wp_ixNm {f : D → D → Option D} {m : M D} : wp (ixNm i f m) env PD X = wp (gp i) env (fun _ e => wp m e (fun y e => wp (gp i) e (fun x e => wp (lift (f x y)) e PD X) X) X) X := by
  cases h : (env[i]?).bind Slot.dat with
  | none =>
    unfold wp ixNm gp
    rw [h]
  | some d =>
    rw [wp_ok (gp_ok h)]
    unfold wp ixNm bnd
    rw [h]
    dsimp only
    cases h1 : m env with
    | ok y e' =>
      dsimp only
      unfold gp
      cases h2 : (e'[i]?).bind Slot.dat <;> rfl
    | err c e' => rfl
    | bad => rfl
theorem wp_setU0 (h : s.pin = false) : wp (setU 0 d) (s :: e) PU X = PU () (.im d :: e) := by
  unfold wp setU
  simp [h]
@[simp ↓] theorem wp_setUS : wp (setU (i + 1) d) (s :: e) PU X = wp (setU i d) e (fun u e => PU u (s :: e)) X := by
  unfold wp setU
  rw [List.getElem?_cons_succ, List.set_cons_succ]
  cases h : e[i]? with
  | none => rfl
  | some z => cases hp : z.pin <;> simp [hp]
theorem wp_setS0 {t : Slot} (h : s.pin = false) : wp (setS 0 t) (s :: e) PU X = PU () (t :: e) := by
  unfold wp setS
  simp [h]
@[simp ↓] theorem wp_setSS {t : Slot} : wp (setS (i + 1) t) (s :: e) PU X = wp (setS i t) e (fun u e => PU u (s :: e)) X := by
  unfold wp setS
  rw [List.getElem?_cons_succ, List.set_cons_succ]
  cases h : e[i]? with
  | none => rfl
  | some z => cases hp : z.pin <;> simp [hp]
@[simp ↓] theorem wp_setU0n : wp (setU 0 d) (.no :: e) PU X = PU () (.im d :: e) := rfl
@[simp ↓] theorem wp_setU0i {d' : D} : wp (setU 0 d) (.im d' :: e) PU X = PU () (.im d :: e) := rfl
@[simp ↓] theorem wp_setU0l {l : List D} : wp (setU 0 d) (.ol l :: e) PU X = PU () (.im d :: e) := rfl
@[simp ↓] theorem wp_setU0d {ks : List Key} {l : List D} : wp (setU 0 d) (.od ks l :: e) PU X = PU () (.im d :: e) := rfl
@[simp ↓] theorem wp_setS0n {t : Slot} : wp (setS 0 t) (.no :: e) PU X = PU () (t :: e) := rfl
@[simp ↓] theorem wp_setS0i {t : Slot} {d' : D} : wp (setS 0 t) (.im d' :: e) PU X = PU () (t :: e) := rfl
@[simp ↓] theorem wp_setS0l {t : Slot} {l : List D} : wp (setS 0 t) (.ol l :: e) PU X = PU () (t :: e) := rfl
@[simp] theorem pin_no : Slot.pin .no = false := rfl
@[simp] theorem pin_im : Slot.pin (.im d) = false := rfl
@[simp] theorem pin_ol {l : List D} : Slot.pin (.ol l) = false := rfl
@[simp] theorem pin_io {l : List D} : Slot.pin (.io l) = true := rfl
@[simp] theorem pin_sf {c : Nat} {l : List D} : Slot.pin (.sf c l) = true := rfl
@[simp] theorem own_no : Slot.own .no = false := rfl
@[simp] theorem own_im : Slot.own (.im d) = false := rfl
/-! statements -/
@[simp ↓] theorem wp_nxM : wp nxM env PF X = PF .nx env := rfl
@[simp ↓] theorem wp_seqM {a b : M Fl} : wp (seqM a b) env PF X = wp a env (fun f e => match f with
  | .nx => wp b e PF X
  | f => PF f e) X := by
  unfold seqM; rw [wp_bnd]; refine wp_fun fun f e => ?_; cases f <;> rfl
@[simp ↓] theorem wp_retM {m : M D} : wp (retM m) env PF X = wp m env (fun d e => PF (.ret d) e) X := wp_bnd
@[simp ↓] theorem wp_dropM {m : M D} : wp (dropM m) env PF X = wp m env (fun _ e => PF .nx e) X := wp_bnd
@[simp ↓] theorem wp_asgM {m : M D} {f : D → M Unit} : wp (asgM m f) env PF X = wp m env (fun d e => wp (f d) e (fun _ e => PF .nx e) X) X := by
  unfold asgM; rw [wp_bnd]; refine wp_fun fun d e => ?_; rw [wp_bnd]; rfl
@[simp ↓] theorem wp_asgO {m : M (List D)} : wp (asgO m i) env PF X = wp m env (fun l e => wp (setS i (.ol l)) e (fun _ e => PF .nx e) X) X := by
  unfold asgO; rw [wp_bnd]; refine wp_fun fun d e => ?_; rw [wp_bnd]; rfl
@[simp ↓] theorem wp_asgK {m : M (List D)} : wp (asgK m i) env PF X = wp m env (fun l e => wp (setU i (.lst l)) e (fun _ e => PF .nx e) X) X := by
  unfold asgK; rw [wp_bnd]; refine wp_fun fun d e => ?_; rw [wp_bnd]; rfl
@[simp ↓] theorem wp_par2 {j : Nat} {m : M (List D)} : wp (par2 i j m) env PF X = wp m env (fun ds e => match ds with
  | [x, y] => wp (setU i x) e (fun _ e => wp (setU j y) e (fun _ e => PF .nx e) X) X
  | _ => False) X := by
  unfold par2; rw [wp_bnd]; refine wp_fun fun ds e => ?_
  match ds with
  | [] => rfl
  | [x] => rfl
  | [x, y] => dsimp only; rw [wp_bnd]; refine wp_fun fun _ e => ?_; rw [wp_bnd]; rfl
  | _ :: _ :: _ :: _ => rfl
@[simp ↓] theorem wp_par3 {j k : Nat} {m : M (List D)} : wp (par3 i j k m) env PF X = wp m env (fun ds e => match ds with
  | [x, y, z] => wp (setU i x) e (fun _ e => wp (setU j y) e (fun _ e => wp (setU k z) e (fun _ e => PF .nx e) X) X) X
  | _ => False) X := by
  unfold par3; rw [wp_bnd]; refine wp_fun fun ds e => ?_
  match ds with
  | [] => rfl
  | [x] => rfl
  | [x, y] => rfl
  | [x, y, z] => dsimp only; rw [wp_bnd]; refine wp_fun fun _ e => ?_; rw [wp_bnd]; refine wp_fun fun _ e => ?_; rw [wp_bnd]; rfl
  | _ :: _ :: _ :: _ :: _ => rfl
@[simp ↓] theorem wp_augM {f : D → D → Option D} {m : M D} : wp (augM i f m) env PF X = wp (gv i) env (fun x e => wp m e (fun y e => wp (lift (f x y)) e (fun z e => wp (setU i z) e (fun _ e => PF .nx e) X) X) X) X := by
  unfold augM; rw [wp_bnd]; refine wp_fun fun x e => ?_; rw [wp_bnd]; refine wp_fun fun y e => ?_; rw [wp_bnd]; refine wp_fun fun z e => ?_; rw [wp_bnd]; rfl
@[simp ↓] theorem wp_gtupU {n : Nat} {fs : List D → M Unit} {l : List D} : wp (gtupU n fs (.tup l)) env PU X = (l.length = n ∧ wp (fs l) env PU X) := by
  unfold gtupU
  dsimp only
  by_cases h : l.length = n
  · rw [if_pos h]; simp [h]
  · rw [if_neg h]; simp [h]
@[simp ↓] theorem wp_gconsU {f : D → M Unit} {fs : List D → M Unit} {ds : List D} : wp (gconsU f fs (d :: ds)) env PU X = wp (f d) env (fun _ e => wp (fs ds) e PU X) X := wp_bnd
@[simp ↓] theorem wp_gnilU : wp (gnilU []) env PU X = PU () env := rfl
/-- self.f = d -/
def fldS (i c j : Nat) (d : D) : M Fl := fun env => match env[i]? with
  | some (.sf c' l) => if c' = c then (if l.length = j then .ok .nx (env.set i (.sf c (l ++ [d]))) else .bad) else .bad
  | _ => .bad
@[simp ↓] theorem wp_fldM {c j : Nat} {m : M D} : wp (fldM i c j m) env PF X = wp m env (fun d e => wp (fldS i c j d) e PF X) X := by
  unfold fldM; rw [wp_bnd]; rfl
@[simp ↓] theorem wp_fldS0 {c j : Nat} {l : List D} : wp (fldS 0 c j d) (.sf c l :: e) PF X = (l.length = j ∧ PF .nx (.sf c (l ++ [d]) :: e)) := by
  unfold wp fldS
  by_cases h : l.length = j <;> simp [h]
/-- name.append -/
def appS (i : Nat) (d : D) : M Fl := fun env => match env[i]? with
  | some (.ol l) => if l.length < 16777216 then .ok .nx (env.set i (.ol (l ++ [d]))) else .bad
  | _ => .bad
def isOl (i : Nat) : M Unit := fun env => match env[i]? with
  | some (.ol _) => .ok () env
  | _ => .bad
@[simp ↓] theorem wp_appM {m : M D} : wp (appM i m) env PF X = wp (isOl i) env (fun _ e => wp m e (fun d e => wp (appS i d) e PF X) X) X := by
  unfold wp appM isOl bnd appS
  cases h : env[i]? with
  | none => rfl
  | some z => cases z with
    | ol l => dsimp only; cases h1 : m env <;> rfl
    | _ => rfl
@[simp ↓] theorem wp_isOl0 {l : List D} : wp (isOl 0) (.ol l :: e) PU X = PU () (.ol l :: e) := rfl
@[simp ↓] theorem wp_isOlS : wp (isOl (i + 1)) (s :: e) PU X = wp (isOl i) e (fun u e => PU u (s :: e)) X := by
  unfold wp isOl
  rw [List.getElem?_cons_succ]
  cases h : e[i]? with
  | none => rfl
  | some z => cases z <;> rfl
@[simp ↓] theorem wp_appS0 {l : List D} : wp (appS 0 d) (.ol l :: e) PF X = (l.length < 16777216 ∧ PF .nx (.ol (l ++ [d]) :: e)) := by
  unfold wp appS
  by_cases h : l.length < 16777216 <;> simp [h]
@[simp ↓] theorem wp_appSS : wp (appS (i + 1) d) (s :: e) PF X = wp (appS i d) e (fun u e => PF u (s :: e)) X := by
  unfold wp appS
  rw [List.getElem?_cons_succ]
  cases h : e[i]? with
  | none => rfl
  | some z => cases z with
    | ol l => by_cases hc : l.length < 16777216 <;> simp [hc]
    | _ => rfl
/-- name[y] = v -/
def stoS (i : Nat) (y v : D) : M Fl := fun env' => match env'[i]?, y with
    | some (.ol l), .int k => (match L2.ixN l.length k with
      | some j => .ok .nx (env'.set i (.ol (l.set j v)))
      | none => .bad)
    | some (.io l), .int k => (match L2.ixN l.length k with
      | some j => .ok .nx (env'.set i (.io (l.set j v)))
      | none => .bad)
    | _, _ => .bad
@[simp ↓] theorem wp_stIx {mi mv : M D} : wp (stIx i mi mv) env PF X = wp mv env (fun v e => wp (gp i) e (fun _ e => wp mi e (fun y e => wp (stoS i y v) e PF X) X) X) X := by
  unfold stIx; rw [wp_bnd]; refine wp_fun fun v e => ?_
  cases h : (e[i]?).bind Slot.dat with
  | none =>
    unfold wp gp
    dsimp only
    rw [h]
  | some d =>
    rw [wp_ok (gp_ok h)]
    unfold wp bnd
    dsimp only
    rw [h]
    dsimp only
    cases h1 : mi e <;> rfl
@[simp ↓] theorem wp_stoS0 {l : List D} {k : Int} {v : D} : wp (stoS 0 (.int k) v) (.io l :: e) PF X = (match L2.ixN l.length k with
    | some j => PF .nx (.io (l.set j v) :: e)
    | none => False) := by
  unfold wp stoS
  dsimp only [List.getElem?_cons_zero]
  cases L2.ixN l.length k <;> rfl
@[simp ↓] theorem wp_stoS0l {l : List D} {k : Int} {v : D} : wp (stoS 0 (.int k) v) (.ol l :: e) PF X = (match L2.ixN l.length k with
    | some j => PF .nx (.ol (l.set j v) :: e)
    | none => False) := by
  unfold wp stoS
  dsimp only [List.getElem?_cons_zero]
  cases L2.ixN l.length k <;> rfl
@[simp ↓] theorem wp_stoSS {y v : D} : wp (stoS (i + 1) y v) (s :: e) PF X = wp (stoS i y v) e (fun u e => PF u (s :: e)) X := by
  unfold wp stoS
  rw [List.getElem?_cons_succ]
  cases h : e[i]? with
  | none => rfl
  | some z => cases z <;> cases y <;> first | rfl | (rename_i l k; cases hk : L2.ixN l.length k <;> simp [hk])
/-! calls -/
theorem wp_callF {f : FD} {ds : List D} (h : f ds = .ok d) : wp (callF f ds) env PD X = PD d env := by
  have e : callF f ds env = .ok d env := by
    show (match f ds with
      | .ok d => R.ok d env
      | .err c => R.err c env
      | .bad => (R.bad : R D)) = _
    rw [h]
  rw [wp_ok e]
theorem wp_callFe {f : FD} {ds : List D} {c : Nat} (h : f ds = .err c) : wp (callF f ds) env PD X = X c env := by
  have e : callF f ds env = .err c env := by
    show (match f ds with
      | .ok d => R.ok d env
      | .err c => R.err c env
      | .bad => (R.bad : R D)) = _
    rw [h]
  rw [wp_err e]
theorem wp_callL {f : FDL} {ds l : List D} (h : f ds = .ok l) : wp (callL f ds) env PL X = PL l env := by
  have e : callL f ds env = .ok l env := by
    show (match f ds with
      | .ok d => R.ok d env
      | .err c => R.err c env
      | .bad => (R.bad : R (List D))) = _
    rw [h]
  rw [wp_ok e]
def disp (alts : List (Nat × FD)) (mas : M (List D)) (X : Nat → DL.Env → Prop) (PD : D → DL.Env → Prop) (x : D) (e : DL.Env) : Prop := match x with
  | .obj c l => (match alts.lookup c with
    | some f => wp mas e (fun ds e => wp (callF f (.obj c l :: ds)) e PD X) X
    | none => False)
  | _ => False
@[simp ↓] theorem wp_meA {alts : List (Nat × FD)} {mo : M D} {mas : M (List D)} : wp (meA alts mo mas) env PD X = wp mo env (fun x e => disp alts mas X PD x e) X := by
  unfold meA; rw [wp_bnd]; refine wp_fun fun x e => ?_
  cases x with
  | obj c l =>
    unfold disp
    dsimp only
    cases alts.lookup c with
    | none => rfl
    | some f => dsimp only; rw [wp_bnd]
  | _ => rfl
def isPin (i : Nat) : M Unit := fun env => match env[i]? with
  | some s => if s.pin = true then .ok () env else .bad
  | none => .bad
@[simp ↓] theorem wp_pinned {m : M D} : wp (pinned i m) env PD X = wp (isPin i) env (fun _ e => wp m e PD X) X := by
  unfold wp pinned isPin
  cases h : env[i]? with
  | none => rfl
  | some z => cases hp : z.pin <;> simp [hp]
theorem wp_isPin0 (h : s.pin = true) : wp (isPin 0) (s :: e) PU X = PU () (s :: e) := by
  unfold wp isPin
  simp [h]
@[simp ↓] theorem wp_isPin0i {l : List D} : wp (isPin 0) (.io l :: e) PU X = PU () (.io l :: e) := rfl
@[simp ↓] theorem wp_isPinS : wp (isPin (i + 1)) (s :: e) PU X = wp (isPin i) e (fun u e => PU u (s :: e)) X := by
  unfold wp isPin
  rw [List.getElem?_cons_succ]
  cases h : e[i]? with
  | none => rfl
  | some z => cases hp : z.pin <;> simp [hp]
theorem wp_call1 {f : FD1} {ds : List D} {s' : Slot} (hp : s.pin = true) (hp' : s'.pin = true) (h : f s ds = .ok d s') : wp (call1 0 f ds) (s :: e) PD X = PD d (s' :: e) := by
  unfold wp call1
  simp [hp, hp', h]
@[simp ↓] theorem wp_call1S {f : FD1} {ds : List D} : wp (call1 (i + 1) f ds) (s :: e) PD X = wp (call1 i f ds) e (fun d e => PD d (s :: e)) (fun c e => X c (s :: e)) := by
  unfold wp call1
  rw [List.getElem?_cons_succ]
  cases h : e[i]? with
  | none => rfl
  | some z =>
    cases hp : z.pin with
    | false => simp [hp]
    | true =>
      cases hf : f z ds with
      | ok d s' => cases hq : s'.pin <;> simp [hp, hf, hq]
      | err c s' => cases hq : s'.pin <;> simp only [hp, hf, hq] <;> rfl
      | bad => simp [hp, hf]
@[simp ↓] theorem wp_toldM {tab : List (Nat × Str)} {m : M D} : wp (toldM tab m) env PD X = wp m env PD (fun c e => match tab.lookup c with
  | some s => PD (.str s) e
  | none => False) := by
  unfold wp toldM
  cases h : m env with
  | ok d e' => rfl
  | err c e' => dsimp only; cases tab.lookup c <;> rfl
  | bad => rfl
end
/-! ### defs -/
def flD (d : D) : Fl → Prop
  | .ret x => x = d
  | .nx => d = .non
  | _ => False
@[simp] theorem flD_ret {d x : D} : flD d (.ret x) = (x = d) := rfl
@[simp] theorem flD_nx {d : D} : flD d .nx = (d = .non) := rfl
theorem runF_ok {n k : Nat} {m : M Fl} {ds : List D} {d : D} (hl : ds.length = n) (h : wp m (env0 k ds) (fun f _ => flD d f) (fun _ _ => False)) : runF n k m ds = .ok d := by
  unfold runF
  rw [if_pos hl]
  obtain ⟨f, e, h1, h2⟩ := wp_get h
  rw [h1]
  cases f with
  | ret x => cases h2; rfl
  | nx => cases h2; rfl
  | brk => cases h2
  | ct => cases h2
theorem runF_err {n k c : Nat} {m : M Fl} {ds : List D} (hl : ds.length = n) (h : wp m (env0 k ds) (fun _ _ => False) (fun c' _ => c' = c)) : runF n k m ds = .err c := by
  unfold runF
  rw [if_pos hl]
  unfold wp at h
  cases e : m (env0 k ds) with
  | ok a e' => rw [e] at h; exact h.elim
  | err c' e' => rw [e] at h; cases h; rfl
  | bad => rw [e] at h; exact h.elim
theorem run1_ok {n k : Nat} {m : M Fl} {s s' : Slot} {ds : List D} {d : D} (hl : ds.length + 1 = n) (hp : s.pin = true) (h : wp m (s :: env0 (k - 1) ds) (fun f e => flD d f ∧ e[0]? = some s') (fun _ _ => False)) : run1 n k m s ds = .ok d s' := by
  unfold run1
  rw [if_pos ⟨hl, hp⟩]
  obtain ⟨f, e, h1, h2, h3⟩ := wp_get h
  rw [h1]
  cases f with
  | ret x => cases h2; dsimp only [out1]; rw [h3]
  | nx => cases h2; dsimp only [out1]; rw [h3]
  | brk => cases h2
  | ct => cases h2
theorem run1_err {n k c : Nat} {m : M Fl} {s s' : Slot} {ds : List D} (hl : ds.length + 1 = n) (hp : s.pin = true) (h : wp m (s :: env0 (k - 1) ds) (fun _ _ => False) (fun c' e => c' = c ∧ e[0]? = some s')) : run1 n k m s ds = .err c s' := by
  unfold run1
  rw [if_pos ⟨hl, hp⟩]
  unfold wp at h
  cases e : m (s :: env0 (k - 1) ds) with
  | ok a e' => rw [e] at h; exact h.elim
  | err c' e' =>
    rw [e] at h
    obtain ⟨h1, h2⟩ := h
    subst h1
    dsimp only
    rw [h2]
  | bad => rw [e] at h; exact h.elim
/-! ### operators on what is told -/
section
variable {env : DL.Env} {PD : D → DL.Env → Prop} {PL : List D → DL.Env → Prop} {X : Nat → DL.Env → Prop} {i j : Int}
@[simp ↓] theorem wl_add : wp (lift (dAdd (.int i) (.int j))) env PD X = PD (.int (i + j)) env := rfl
@[simp ↓] theorem wl_sub : wp (lift (dSub (.int i) (.int j))) env PD X = PD (.int (i - j)) env := rfl
@[simp ↓] theorem wl_neg : wp (lift (dNeg (.int i))) env PD X = PD (.int (-i)) env := rfl
@[simp ↓] theorem wl_mul : wp (lift (dMul (.int i) (.int j))) env PD X = (CMulA i j ∧ PD (.int (i * j)) env) := by
  show wp (lift (if CMulA i j then some (D.int (i * j)) else none)) env PD X = _
  by_cases h : CMulA i j
  · rw [if_pos h]; simp [h]
  · rw [if_neg h]; simp [h]
@[simp ↓] theorem wl_div : wp (lift (dDiv (.int i) (.int j))) env PD X = (CDivW i j ∧ PD (.int (i / j)) env) := by
  show wp (lift (if CDivW i j then some (D.int (i / j)) else none)) env PD X = _
  by_cases h : CDivW i j
  · rw [if_pos h]; simp [h]
  · rw [if_neg h]; simp [h]
@[simp ↓] theorem wl_mod : wp (lift (dMod (.int i) (.int j))) env PD X = (0 < j ∧ PD (.int (i % j)) env) := by
  show wp (lift (if 0 < j then some (D.int (i % j)) else none)) env PD X = _
  by_cases h : 0 < j
  · rw [if_pos h]; simp [h]
  · rw [if_neg h]; simp [h]
@[simp ↓] theorem wl_pow : wp (lift (dPow (.int i) (.int j))) env PD X = (CPow i j ∧ PD (.int (i ^ j.toNat)) env) := by
  show wp (lift (if CPow i j then some (D.int (i ^ j.toNat)) else none)) env PD X = _
  by_cases h : CPow i j
  · rw [if_pos h]; simp [h]
  · rw [if_neg h]; simp [h]
@[simp ↓] theorem wl_lt : wp (lift (dLt (.int i) (.int j))) env PD X = PD (.bl (decide (i < j))) env := rfl
@[simp ↓] theorem wl_le : wp (lift (dLe (.int i) (.int j))) env PD X = PD (.bl (decide (i ≤ j))) env := rfl
@[simp ↓] theorem wl_gt : wp (lift (dGt (.int i) (.int j))) env PD X = PD (.bl (decide (j < i))) env := rfl
@[simp ↓] theorem wl_ge : wp (lift (dGe (.int i) (.int j))) env PD X = PD (.bl (decide (j ≤ i))) env := rfl
@[simp ↓] theorem wl_abs : wp (lift (dAbs (.int i))) env PD X = PD (.int (if i < 0 then -i else i)) env := rfl
@[simp ↓] theorem wl_int : wp (lift (dInt (.int i))) env PD X = PD (.int i) env := rfl
@[simp ↓] theorem wl_intb {b : Bool} : wp (lift (dInt (.bl b))) env PD X = PD (.int (if b then 1 else 0)) env := rfl
@[simp ↓] theorem wl_lenl {l : List D} : wp (lift (dLen (.lst l))) env PD X = PD (.int l.length) env := rfl
@[simp ↓] theorem wl_lent {l : List D} : wp (lift (dLen (.tup l))) env PD X = PD (.int l.length) env := rfl
@[simp ↓] theorem wl_tupl {l : List D} : wp (lift (dTup (.lst l))) env PD X = PD (.tup l) env := rfl
@[simp ↓] theorem wl_tupt {l : List D} : wp (lift (dTup (.tup l))) env PD X = PD (.tup l) env := rfl
@[simp ↓] theorem wl_lstl {l : List D} : wp (lift (dLst (.lst l))) env PL X = PL l env := rfl
@[simp ↓] theorem wl_lstt {l : List D} : wp (lift (dLst (.tup l))) env PL X = PL l env := rfl
@[simp ↓] theorem wl_revt {l : List D} : wp (lift (dRev (.tup l))) env PL X = PL l.reverse env := rfl
@[simp ↓] theorem wl_ixl {l : List D} {k : Int} : wp (lift (dIxA (.lst l) (.int k))) env PD X = wp (lift (L2.atI l k)) env PD X := rfl
@[simp ↓] theorem wl_ixt {l : List D} {k : Int} : wp (lift (dIxA (.tup l) (.int k))) env PD X = wp (lift (L2.atI l k)) env PD X := rfl
end
/-! ### == of plain data -/
mutual
def Smp : Nat → D → Prop
  | _, .non => True
  | _, .int _ => True
  | _, .str x => (PyData.str x).canLay0 = true
  | n + 1, .tup l => Smps n l
  | n + 1, .lst l => Smps n l
  | _, _ => False
def Smps : Nat → List D → Prop
  | _, [] => True
  | n, d :: ds => Smp n d ∧ Smps n ds
end
mutual
theorem Smp.py : ∀ {n : Nat} {d : D}, Smp n d → ∃ a, toPy d = some a ∧ a.canLay0 = true ∧ a.depth ≤ n
  | _, .non, _ => ⟨.none, rfl, rfl, Nat.zero_le _⟩
  | _, .int i, _ => ⟨.int i, rfl, rfl, Nat.zero_le _⟩
  | _, .str x, h => ⟨.str x, rfl, by unfold Smp at h; exact h, Nat.zero_le _⟩
  | n + 1, .tup l, h => by
    unfold Smp at h
    obtain ⟨as, e1, e2, e3⟩ := Smps.py h
    exact ⟨.tuple as, by unfold toPy; rw [e1]; rfl, by unfold PyData.canLay0; exact e2, by unfold PyData.depth; omega⟩
  | n + 1, .lst l, h => by
    unfold Smp at h
    obtain ⟨as, e1, e2, e3⟩ := Smps.py h
    exact ⟨.list as, by unfold toPy; rw [e1]; rfl, by unfold PyData.canLay0; exact e2, by unfold PyData.depth; omega⟩
  | 0, .tup l, h => by unfold Smp at h; exact h.elim
  | 0, .lst l, h => by unfold Smp at h; exact h.elim
  | _, .bl _, h => by unfold Smp at h; exact h.elim
  | _, .dic _ _, h => by unfold Smp at h; exact h.elim
  | _, .dct _ _, h => by unfold Smp at h; exact h.elim
  | _, .obj _ _, h => by unfold Smp at h; exact h.elim
  | _, .raw _, h => by unfold Smp at h; exact h.elim
theorem Smps.py : ∀ {n : Nat} {l : List D}, Smps n l → ∃ as, toPys l = some as ∧ PyData.canLayAll0 as = true ∧ PyData.depthAll as ≤ n
  | _, [], _ => ⟨[], rfl, rfl, Nat.zero_le _⟩
  | n, d :: ds, h => by
    unfold Smps at h
    obtain ⟨a, e1, e2, e3⟩ := Smp.py h.1
    obtain ⟨as, f1, f2, f3⟩ := Smps.py h.2
    exact ⟨a :: as, by unfold toPys; rw [e1, f1], by unfold PyData.canLayAll0; rw [e2, f2]; rfl, by unfold PyData.depthAll; omega⟩
end
mutual
theorem eqv_iff : ∀ {n m : Nat} {x y : D} {a b : PyData}, Smp n x → Smp m y → toPy x = some a → toPy y = some b → (PyData.eqv a b = true ↔ x = y)
  | n, m, x, y, a, b, hx, hy, ha, hb => by
    cases x <;> cases y <;> first
      | (cases ha; cases hb; simp [PyData.eqv]; done)
      | (unfold Smp at hx; exact hx.elim)
      | (unfold Smp at hy; exact hy.elim)
      | skip
    all_goals (try (unfold toPy at ha hb))
    all_goals (try (obtain ⟨as, h1, rfl⟩ := Option.map_eq_some_iff.mp ha))
    all_goals (try (obtain ⟨bs, h2, rfl⟩ := Option.map_eq_some_iff.mp hb))
    all_goals (try (cases ha))
    all_goals (try (cases hb))
    all_goals (first
      | (simp [PyData.eqv]; done)
      | (cases n <;> cases m <;> unfold Smp at hx hy <;> first
          | exact hx.elim
          | exact hy.elim
          | (simp only [PyData.eqv, D.tup.injEq, D.lst.injEq]; exact eqvAll_iff hx hy h1 h2)))
theorem eqvAll_iff : ∀ {n m : Nat} {x y : List D} {a b : List PyData}, Smps n x → Smps m y → toPys x = some a → toPys y = some b → (PyData.eqvAll a b = true ↔ x = y)
  | n, m, [], [], a, b, _, _, ha, hb => by cases ha; cases hb; simp [PyData.eqvAll]
  | n, m, [], y :: ys, a, b, _, hy, ha, hb => by
    cases ha
    obtain ⟨bs, h1, _⟩ := hy.py
    rw [hb] at h1; cases h1
    unfold toPys at hb
    split at hb
    · cases hb; simp [PyData.eqvAll]
    · cases hb
  | n, m, x :: xs, [], a, b, hx, _, ha, hb => by
    cases hb
    unfold toPys at ha
    split at ha
    · cases ha; simp [PyData.eqvAll]
    · cases ha
  | n, m, x :: xs, y :: ys, a, b, hx, hy, ha, hb => by
    unfold Smps at hx hy
    unfold toPys at ha hb
    split at ha
    · rename_i a1 as ha1 has
      cases ha
      split at hb
      · rename_i b1 bs hb1 hbs
        cases hb
        simp only [PyData.eqvAll, Bool.and_eq_true, List.cons.injEq]
        rw [eqv_iff hx.1 hy.1 ha1 hb1, eqvAll_iff hx.2 hy.2 has hbs]
      · cases hb
    · cases ha
end
open Classical in
theorem dEq_of {n m : Nat} {x y : D} (hx : Smp n x) (hy : Smp m y) (hn : n ≤ 64) (hm : m ≤ 64) : dEq x y = some (.bl (decide (x = y))) := by
  obtain ⟨a, ha, a1, a2⟩ := hx.py
  obtain ⟨b, hb, b1, b2⟩ := hy.py
  unfold dEq
  rw [ha, hb]
  dsimp only
  rw [if_pos ⟨by unfold SeqAt.shaped; rw [a1]; simp; omega, by unfold SeqAt.shaped; rw [b1]; simp; omega⟩]
  congr 2
  by_cases h : x = y
  · rw [decide_eq_true h]; exact (eqv_iff hx hy ha hb).mpr h
  · rw [decide_eq_false h]
    cases q : PyData.eqv a b with
    | false => rfl
    | true => exact absurd ((eqv_iff hx hy ha hb).mp q) h
open Classical in
theorem dNe_of {n m : Nat} {x y : D} (hx : Smp n x) (hy : Smp m y) (hn : n ≤ 64) (hm : m ≤ 64) : dNe x y = some (.bl (decide (x ≠ y))) := by
  obtain ⟨a, ha, a1, a2⟩ := hx.py
  obtain ⟨b, hb, b1, b2⟩ := hy.py
  unfold dNe
  rw [ha, hb]
  dsimp only
  rw [if_pos ⟨by unfold SeqAt.shaped; rw [a1]; simp; omega, by unfold SeqAt.shaped; rw [b1]; simp; omega⟩]
  congr 2
  by_cases h : x = y
  · rw [decide_eq_false (by simpa using h), (eqv_iff hx hy ha hb).mpr h]; rfl
  · rw [decide_eq_true h]
    cases q : PyData.eqv a b with
    | false => rfl
    | true => exact absurd ((eqv_iff hx hy ha hb).mp q) h
@[simp] theorem smp_int {n : Nat} {i : Int} : Smp n (.int i) := by unfold Smp; trivial
@[simp] theorem smp_non {n : Nat} : Smp n .non := by unfold Smp; trivial
@[simp] theorem smp_tup {n : Nat} {l : List D} : Smp (n + 1) (.tup l) = Smps n l := by rw [Smp]
@[simp] theorem smp_lst {n : Nat} {l : List D} : Smp (n + 1) (.lst l) = Smps n l := by rw [Smp]
@[simp] theorem smp_str {n : Nat} {x : Str} : Smp n (.str x) = ((PyData.str x).canLay0 = true) := by unfold Smp; rfl
@[simp] theorem smps_nil {n : Nat} : Smps n [] := by unfold Smps; trivial
@[simp] theorem smps_cons {n : Nat} {d : D} {ds : List D} : Smps n (d :: ds) = (Smp n d ∧ Smps n ds) := by rw [Smps]
theorem smps_of {n : Nat} {l : List D} (h : ∀ d ∈ l, Smp n d) : Smps n l := by
  induction l with
  | nil => simp
  | cons d ds ih => rw [smps_cons]; exact ⟨h d (by simp), ih fun x hx => h x (by simp [hx])⟩
section
variable {env : DL.Env} {PD : D → DL.Env → Prop} {X : Nat → DL.Env → Prop} {x y : D}
open Classical in
theorem wl_eq (hx : Smp 8 x) (hy : Smp 8 y) : wp (lift (dEq x y)) env PD X = PD (.bl (decide (x = y))) env := by rw [dEq_of hx hy (by decide) (by decide)]; rfl
open Classical in
theorem wl_ne (hx : Smp 8 x) (hy : Smp 8 y) : wp (lift (dNe x y)) env PD X = PD (.bl (decide (x ≠ y))) env := by rw [dNe_of hx hy (by decide) (by decide)]; rfl
@[simp ↓] theorem wl_eqi {i j : Int} : wp (lift (dEq (.int i) (.int j))) env PD X = PD (.bl (decide (i = j))) env := by
  rw [wl_eq (by simp) (by simp)]
  congr 2
  simp
@[simp ↓] theorem wl_nei {i j : Int} : wp (lift (dNe (.int i) (.int j))) env PD X = PD (.bl (decide (i ≠ j))) env := by
  rw [wl_ne (by simp) (by simp)]
  congr 2
  simp
end
/-! ### comprehensions, loops -/
section
variable {env e : DL.Env} {PL : List D → DL.Env → Prop} {PF : Fl → DL.Env → Prop} {PU : Unit → DL.Env → Prop} {X : Nat → DL.Env → Prop} {vs : List Nat} {f : D → M Unit} {t : M Bool} {m : M D} {i : Nat}
@[simp ↓] theorem wp_sqL {m0 : M Fl} {m : ML} : wp (sqL m0 m) env PL X = wp m0 env (fun f e => match f with
  | .nx => wp m e PL X
  | _ => False) X := by
  unfold sqL; rw [wp_bnd]; refine wp_fun fun f e => ?_; cases f <;> rfl
@[simp ↓] theorem wp_wipeM : wp (wipeM vs) env PU X = (noOwn env vs = true ∧ PU () (wipeE env vs)) := by
  unfold wp wipeM
  by_cases h : noOwn env vs = true
  · simp [h]
  · simp [h]
@[simp ↓] theorem wp_lc1 {m src : ML} : wp (lc1 i vs m src) env PL X = wp src env (fun ds e1 => match ds with
  | [d] => noOwn e1 vs = true ∧ wp (setU i d) (wipeE e1 vs) (fun _ e3 => wp m e3 (fun l e5 => noOwn e5 vs = true ∧ PL l (restore e1 (wipeE e5 vs) vs)) (fun _ _ => False)) (fun _ _ => False)
  | _ => False) X := by
  unfold lc1; rw [wp_bnd]; refine wp_fun fun ds e1 => ?_
  match ds with
  | [] => rfl
  | _ :: _ :: _ => rfl
  | [d] =>
    dsimp only
    by_cases h : noOwn e1 vs = true
    · unfold wp
      dsimp only
      rw [if_pos h]
      cases h1 : setU i d (wipeE e1 vs) with
      | ok u e3 =>
        dsimp only
        cases h2 : m e3 with
        | ok l e5 =>
          dsimp only
          by_cases h3 : noOwn e5 vs = true
          · rw [if_pos h3]; simp [h, h3]
          · rw [if_neg h3]; simp [h3]
        | err c e5 => simp
        | bad => simp
      | err c e5 => simp
      | bad => simp
    · unfold wp
      dsimp only
      rw [if_neg h]; simp [h]
@[simp ↓] theorem wp_lcM {src : M (List D)} : wp (lcM vs f t m src) env PL X = wp src env (fun ds e1 => noOwn e1 vs = true ∧ wp (lcGo vs f t m ds []) (wipeE e1 vs) (fun acc e => PL acc (restore e1 e vs)) (fun _ _ => False)) X := by
  unfold lcM; rw [wp_bnd]; refine wp_fun fun ds e1 => ?_
  unfold wp lcB
  dsimp only
  by_cases h : noOwn e1 vs = true
  · rw [if_pos h]
    cases h1 : lcGo vs f t m ds [] (wipeE e1 vs) <;> simp [h]
  · rw [if_neg h]; simp [h]
theorem wp_lcGo_nil {acc : List D} : wp (lcGo vs f t m [] acc) env PL X = PL acc env := rfl
theorem wp_lcGo_cons {x : D} {xs acc : List D} : wp (lcGo vs f t m (x :: xs) acc) env PL X = wp (f x) env (fun _ e => wp t e (fun b e => if b = true then wp m e (fun y e => noOwn e vs = true ∧ acc.length < 16777216 ∧ wp (lcGo vs f t m xs (acc ++ [y])) (wipeE e vs) PL X) X else noOwn e vs = true ∧ wp (lcGo vs f t m xs acc) (wipeE e vs) PL X) X) X := by
  rw [show lcGo vs f t m (x :: xs) acc = bnd (f x) (fun _ => bnd t fun b => if b = true then bnd m fun y => bnd (wipeM vs) fun _ => if acc.length < 16777216 then lcGo vs f t m xs (acc ++ [y]) else DL.bad
    else bnd (wipeM vs) fun _ => lcGo vs f t m xs acc) from rfl]
  rw [wp_bnd]; refine wp_fun fun u e => ?_; rw [wp_bnd]; refine wp_fun fun b e => ?_
  cases b with
  | true =>
    rw [if_pos rfl, if_pos rfl, wp_bnd]; refine wp_fun fun y e => ?_; rw [wp_bnd, wp_wipeM]
    by_cases h : acc.length < 16777216
    · rw [if_pos h]; simp [h]
    · rw [if_neg h]; simp [h]
  | false =>
    rw [if_neg Bool.false_ne_true, if_neg Bool.false_ne_true, wp_bnd, wp_wipeM]
/-- a comprehension by an invariant: (turns done, what is made, slots) -/
theorem wp_lcGo_inv {xs : List D} (Inv : Nat → List D → DL.Env → Prop) (h0 : Inv 0 [] env)
    (hs : ∀ i x acc e, xs[i]? = some x → Inv i acc e → wp (f x) e (fun _ e => wp t e (fun b e => if b = true then wp m e (fun y e => noOwn e vs = true ∧ acc.length < 16777216 ∧ Inv (i + 1) (acc ++ [y]) (wipeE e vs)) X else noOwn e vs = true ∧ Inv (i + 1) acc (wipeE e vs)) X) X)
    (hP : ∀ acc e, Inv xs.length acc e → PL acc e) : wp (lcGo vs f t m xs []) env PL X := by
  have go : ∀ (ys : List D) (i : Nat) (acc : List D) (e : DL.Env), i + ys.length = xs.length → xs.drop i = ys → Inv i acc e → wp (lcGo vs f t m ys acc) e PL X := fun ys => by
    induction ys with
    | nil =>
      intro i acc e hl hd hi
      rw [wp_lcGo_nil]
      have : i = xs.length := by simpa using hl
      subst this; exact hP acc e hi
    | cons y ys ih =>
      intro i acc e hl hd hi
      have hx : xs[i]? = some y := by
        have := congrArg (fun l => l[0]?) hd
        simpa using this
      have hd2 : xs.drop (i + 1) = ys := by
        have := congrArg List.tail hd
        simpa using this
      rw [wp_lcGo_cons]
      refine wp_imp (hs i y acc e hx hi) (fun _ e h => wp_imp h (fun b e h => ?_) fun _ _ h => h) fun _ _ h => h
      cases b with
      | true =>
        rw [if_pos rfl] at h ⊢
        exact wp_imp h (fun z e h => ⟨h.1, h.2.1, ih (i + 1) _ _ (by simp at hl; omega) hd2 h.2.2⟩) fun _ _ h => h
      | false =>
        rw [if_neg Bool.false_ne_true] at h ⊢
        exact ⟨h.1, ih (i + 1) _ _ (by simp at hl; omega) hd2 h.2⟩
  exact go xs 0 [] env (by simp) (by simp) h0
/-- a comprehension that changes no slot -/
theorem wp_lcGo_pure {xs : List D} (p : D → Bool) (g : D → D) (hl : xs.length < 16777216)
    (hs : ∀ x ∈ xs, wp (f x) env (fun _ e => noOwn e vs = true ∧ wipeE e vs = env ∧ wp t e (fun b e' => b = p x ∧ e' = e ∧ (b = true → wp m e (fun y e' => y = g x ∧ e' = e) (fun _ _ => False))) (fun _ _ => False)) (fun _ _ => False))
    (hP : PL ((xs.filter p).map g) env) : wp (lcGo vs f t m xs []) env PL X := by
  refine wp_lcGo_inv (fun i acc e => i ≤ xs.length ∧ acc = ((xs.take i).filter p).map g ∧ e = env) ⟨Nat.zero_le _, by simp, rfl⟩ ?_ ?_
  · rintro i x acc e hx ⟨hi, rfl, rfl⟩
    have hlt : i < xs.length := (List.getElem?_eq_some_iff.mp hx).1
    have hm := hs x (List.mem_of_getElem? hx)
    refine wp_imp hm (fun _ e1 h => ?_) fun _ _ h => h.elim
    obtain ⟨h1, h2, h3⟩ := h
    refine wp_imp h3 (fun b e' h => ?_) fun _ _ h => h.elim
    obtain ⟨rfl, rfl, h4⟩ := h
    have et : xs.take (i + 1) = xs.take i ++ [x] := by rw [List.take_add_one, hx]; rfl
    cases hb : p x with
    | true =>
      rw [if_pos rfl]
      refine wp_imp (h4 hb) (fun y e2 h => ?_) fun _ _ h => h.elim
      obtain ⟨rfl, rfl⟩ := h
      refine ⟨h1, ?_, hlt, ?_, h2⟩
      · refine Nat.lt_of_le_of_lt ?_ hl
        rw [List.length_map]
        exact Nat.le_trans (List.length_filter_le _ _) (by rw [List.length_take]; omega)
      · rw [et, List.filter_append, List.map_append]; simp [hb]
    | false =>
      rw [if_neg Bool.false_ne_true]
      refine ⟨h1, hlt, ?_, h2⟩
      rw [et, List.filter_append, List.map_append]; simp [hb]
  · rintro acc e ⟨_, rfl, rfl⟩
    rw [List.take_length]; exact hP
theorem wp_forM_nil {b : M Fl} : wp (forM f b []) env PF X = PF .nx env := rfl
theorem wp_forM_cons {b : M Fl} {x : D} {xs : List D} : wp (forM f b (x :: xs)) env PF X = wp (f x) env (fun _ e => wp b e (fun r e => match r with
  | .nx => wp (forM f b xs) e PF X
  | .ct => wp (forM f b xs) e PF X
  | .brk => PF .nx e
  | .ret d => PF (.ret d) e) X) X := by
  rw [show forM f b (x :: xs) = bnd (f x) (fun _ => bnd b fun r => match r with
      | .nx => forM f b xs
      | .ct => forM f b xs
      | .brk => ret .nx
      | .ret d => ret (.ret d)) from rfl]
  rw [wp_bnd]; refine wp_fun fun u e => ?_; rw [wp_bnd]; refine wp_fun fun r e => ?_
  cases r <;> rfl
/-- a loop by an invariant (turns done, slots) -/
theorem wp_forM_inv {b : M Fl} {xs : List D} (Inv : Nat → DL.Env → Prop) (h0 : Inv 0 env)
    (hs : ∀ i x e, xs[i]? = some x → Inv i e → wp (f x) e (fun _ e => wp b e (fun r e => match r with
      | .nx => Inv (i + 1) e
      | .ct => Inv (i + 1) e
      | .brk => PF .nx e
      | .ret d => PF (.ret d) e) X) X)
    (hP : ∀ e, Inv xs.length e → PF .nx e) : wp (forM f b xs) env PF X := by
  have go : ∀ (ys : List D) (i : Nat) (e : DL.Env), i + ys.length = xs.length → xs.drop i = ys → Inv i e → wp (forM f b ys) e PF X := fun ys => by
    induction ys with
    | nil =>
      intro i e hl hd hi
      rw [wp_forM_nil]
      have : i = xs.length := by simpa using hl
      subst this; exact hP e hi
    | cons y ys ih =>
      intro i e hl hd hi
      have hx : xs[i]? = some y := by
        have := congrArg (fun l => l[0]?) hd
        simpa using this
      have hd2 : xs.drop (i + 1) = ys := by
        have := congrArg List.tail hd
        simpa using this
      rw [wp_forM_cons]
      refine wp_imp (hs i y e hx hi) (fun _ e h => wp_imp h (fun r e h => ?_) fun _ _ h => h) fun _ _ h => h
      cases r with
      | nx => exact ih (i + 1) e (by simp at hl; omega) hd2 h
      | ct => exact ih (i + 1) e (by simp at hl; omega) hd2 h
      | brk => exact h
      | ret d => exact h
  exact go xs 0 env (by simp) (by simp) h0
@[simp ↓] theorem wp_lstM {m : M D} : wp (lstM m) env PL X = wp m env (fun d e => match d with
  | .lst l => PL l e
  | .tup l => PL l e
  | _ => False) X := by
  unfold lstM; rw [wp_bnd]; refine wp_fun fun d e => ?_; cases d <;> rfl
@[simp ↓] theorem wp_rng1 {m : M (List D)} : wp (rng1 m) env PL X = wp m env (fun ds e => match ds with
  | [.int j] => (-(2 ^ 62) ≤ j ∧ j < 2 ^ 62) ∧ PL (ups 0 j.toNat) e
  | _ => False) X := by
  unfold rng1; rw [wp_bnd]; refine wp_fun fun ds e => ?_
  match ds with
  | [] => rfl
  | x :: y :: r => cases x <;> rfl
  | [d] =>
    cases d <;> first | rfl | skip
    rename_i j
    dsimp only
    by_cases h : -(2 ^ 62) ≤ j ∧ j < 2 ^ 62
    · rw [if_pos h]; exact propext ⟨fun q => ⟨h, q⟩, fun q => q.2⟩
    · rw [if_neg h]; exact propext ⟨fun q => q.elim, fun q => h q.1⟩
@[simp ↓] theorem wp_rng2 {m : M (List D)} : wp (rng2 m) env PL X = wp m env (fun ds e => match ds with
  | [.int i, .int j] => (-(2 ^ 62) ≤ i ∧ i < 2 ^ 62 ∧ -(2 ^ 62) ≤ j ∧ j < 2 ^ 62) ∧ PL (ups i (j - i).toNat) e
  | _ => False) X := by
  unfold rng2; rw [wp_bnd]; refine wp_fun fun ds e => ?_
  match ds with
  | [] => rfl
  | [d] => cases d <;> rfl
  | _ :: _ :: _ :: _ => rename_i x y _ _; cases x <;> cases y <;> rfl
  | [d, d'] =>
    cases d <;> cases d' <;> first | rfl | skip
    rename_i i j
    dsimp only
    by_cases h : -(2 ^ 62) ≤ i ∧ i < 2 ^ 62 ∧ -(2 ^ 62) ≤ j ∧ j < 2 ^ 62
    · rw [if_pos h]; exact propext ⟨fun q => ⟨h, q⟩, fun q => q.2⟩
    · rw [if_neg h]; exact propext ⟨fun q => q.elim, fun q => h q.1⟩
end
end DL
set_option Elab.async false
set_option linter.all false
set_option maxRecDepth 100000
set_option maxHeartbeats 4000000
set_option autoImplicit false
namespace DL
open PySem PySem.Spec PyProof.Rows L2 LamX
section
variable {α : Type} {env e : DL.Env} {P : α → DL.Env → Prop} {PD : D → DL.Env → Prop} {PB : Bool → DL.Env → Prop} {PL : List D → DL.Env → Prop} {PF : Fl → DL.Env → Prop} {PU : Unit → DL.Env → Prop} {PS : Slot → DL.Env → Prop} {PSs : List Slot → DL.Env → Prop} {X : Nat → DL.Env → Prop} {i j n : Nat} {s : Slot}
@[simp ↓] theorem wp_enumM {m : M (List D)} : wp (enumM m) env PL X = wp m env (fun ds e => match ds with
  | [.lst l] => PL (enumD l) e
  | [.tup l] => PL (enumD l) e
  | _ => False) X := by
  unfold enumM; rw [wp_bnd]; refine wp_fun fun ds e => ?_
  match ds with
  | [] => rfl
  | d :: _ :: _ => cases d <;> rfl
  | [d] => cases d <;> rfl
@[simp ↓] theorem wp_zipM {m : M (List D)} : wp (zipM m) env PL X = wp m env (fun ds e => match ds with
  | [.lst a, .lst b] => PL (zipD a b) e
  | [.tup a, .tup b] => PL (zipD a b) e
  | _ => False) X := by
  unfold zipM; rw [wp_bnd]; refine wp_fun fun ds e => ?_
  match ds with
  | [] => rfl
  | [d] => cases d <;> rfl
  | d :: d' :: _ :: _ => cases d <;> cases d' <;> rfl
  | [d, d'] => cases d <;> cases d' <;> rfl
@[simp ↓] theorem wp_genM {c : Bool} {tgs : List Str} {caps : List (Str × Nat)} {vs : List Nat} {f : D → M Unit} {m : M D} {src : M (List D)} : wp (genM c tgs caps vs f m src) env PD X = wp src env (fun ds e => ∃ b, genRun c vs f m ds (capE tgs caps e) = some b ∧ PD (.bl b) e) X := by
  unfold genM; rw [wp_bnd]; refine wp_fun fun ds e => ?_
  unfold wp
  dsimp only
  generalize genRun c vs f m ds (capE tgs caps e) = o
  cases o with
  | none => simp
  | some b => simp
/-- a generator's turns, the test of each told -/
theorem genRun_ok {c : Bool} {vs : List Nat} {f : D → M Unit} {m : M D} (ho : ownF e = true) : ∀ {xs : List D} (p : D → Bool),
    (∀ x ∈ xs, wp (f x) e (fun _ e1 => wp m e1 (fun y e2 => y = .bl (p x) ∧ wipeE e2 vs = e) (fun _ _ => False)) (fun _ _ => False)) → genRun c vs f m xs e = some (if c then xs.all p else xs.any p)
  | [], p, h => by cases c <;> rfl
  | x :: xs, p, h => by
    obtain ⟨_, e3, h1, h2⟩ := wp_get (h x (List.mem_cons_self ..))
    obtain ⟨y, e4, h3, rfl, h4⟩ := wp_get h2
    have ih := genRun_ok (c := c) ho (xs := xs) p fun y hy => h y (List.mem_cons_of_mem _ hy)
    unfold genRun
    rw [if_pos ho, h1]
    dsimp only
    rw [h3]
    dsimp only
    rw [h4, ih]
    cases c <;> cases hp : p x <;> simp [hp]
@[simp ↓] theorem wp_rng3 {m : M (List D)} : wp (rng3 m) env PL X = wp m env (fun ds e => match ds with
  | [.int i, .int j, .int c] => (0 < c ∧ c < 1073741824 ∧ 0 ≤ Builtin.Range.rangeSize i j c ∧ Builtin.Range.small i j c = true) ∧ PL ((List.range (Builtin.Range.rangeSize i j c).toNat).map fun (k : Nat) => D.int (i + (k : Int) * c)) e
  | _ => False) X := by
  unfold rng3; rw [wp_bnd]; refine wp_fun fun ds e => ?_
  match ds with
  | [] => rfl
  | [d] => cases d <;> rfl
  | [d, d'] => cases d <;> cases d' <;> rfl
  | _ :: _ :: _ :: _ :: _ => rename_i x y z _ _; cases x <;> cases y <;> cases z <;> rfl
  | [d, d', d''] =>
    cases d <;> cases d' <;> cases d'' <;> first | rfl | skip
    rename_i i j c
    dsimp only
    by_cases h : 0 < c ∧ c < 1073741824 ∧ 0 ≤ Builtin.Range.rangeSize i j c ∧ Builtin.Range.small i j c = true
    · rw [if_pos h]; exact propext ⟨fun q => ⟨h, q⟩, fun q => q.2⟩
    · rw [if_neg h]; exact propext ⟨fun q => q.elim, fun q => h q.1⟩
@[simp ↓] theorem wp_parDO {ma : M D} {mc : M (List D)} : wp (parDO i j ma mc) env PF X = wp ma env (fun d e => wp mc e (fun l e => wp (setS j (.ol l)) e (fun _ e => wp (setU i d) e (fun _ e => PF .nx e) X) X) X) X := by
  unfold parDO; rw [wp_bnd]; refine wp_fun fun d e => ?_; rw [wp_bnd]; refine wp_fun fun l e => ?_; rw [wp_bnd]; refine wp_fun fun _ e => ?_; rw [wp_bnd]; rfl
@[simp ↓] theorem wp_parOD {mb : M D} {mc : M (List D)} : wp (parOD i j mc mb) env PF X = wp mc env (fun l e => wp mb e (fun d e => wp (setS i (.ol l)) e (fun _ e => wp (setU j d) e (fun _ e => PF .nx e) X) X) X) X := by
  unfold parOD; rw [wp_bnd]; refine wp_fun fun d e => ?_; rw [wp_bnd]; refine wp_fun fun l e => ?_; rw [wp_bnd]; refine wp_fun fun _ e => ?_; rw [wp_bnd]; rfl
@[simp ↓] theorem wp_parS {is : List Nat} {m : M (List Slot)} : wp (parS is m) env PF X = wp m env (fun ss e => wp (setSs is ss) e (fun _ e => PF .nx e) X) X := by
  unfold parS; rw [wp_bnd]; refine wp_fun fun d e => ?_; rw [wp_bnd]; rfl
@[simp ↓] theorem wp_setSs0 : wp (setSs [] []) env PU X = PU () env := rfl
@[simp ↓] theorem wp_setSs1 {is : List Nat} {ss : List Slot} : wp (setSs (i :: is) (s :: ss)) env PU X = wp (setS i s) env (fun _ e => wp (setSs is ss) e PU X) X := wp_bnd
@[simp ↓] theorem wp_mconsS {a : M Slot} {as : M (List Slot)} : wp (mconsS a as) env PSs X = wp a env (fun x e => wp as e (fun xs e => PSs (x :: xs) e) X) X := by
  unfold mconsS; rw [wp_bnd]; refine wp_fun fun x e => ?_; rw [wp_bnd]; rfl
@[simp ↓] theorem wp_slIm {m : M D} : wp (slIm m) env PS X = wp m env (fun d e => PS (.im d) e) X := wp_bnd
@[simp ↓] theorem wp_slOl {m : M (List D)} : wp (slOl m) env PS X = wp m env (fun d e => PS (.ol d) e) X := wp_bnd
@[simp ↓] theorem wp_asgSl {m : M Slot} : wp (asgSl m i) env PF X = wp m env (fun s e => wp (setS i s) e (fun _ e => PF .nx e) X) X := by
  unfold asgSl; rw [wp_bnd]; refine wp_fun fun d e => ?_; rw [wp_bnd]; rfl
@[simp ↓] theorem wp_raiseE {c : Nat} {m : M D} : wp (raiseE c m) env PF X = wp m env (fun _ e => X c e) X := wp_bnd
@[simp ↓] theorem wp_mpair {mk mv : M D} {m : M (List D)} : wp (mpair mk mv m) env PL X = wp mk env (fun x e => wp mv e (fun y e => wp m e (fun r e => PL (x :: y :: r) e) X) X) X := by
  unfold mpair; rw [wp_bnd]; refine wp_fun fun x e => ?_; rw [wp_bnd]; refine wp_fun fun y e => ?_; rw [wp_bnd]; rfl
@[simp ↓] theorem wp_setS0d {t : Slot} {ks : List Key} {l : List D} : wp (setS 0 t) (.od ks l :: e) PU X = PU () (t :: e) := rfl
@[simp] theorem pin_od {ks : List Key} {l : List D} : Slot.pin (.od ks l) = false := rfl
theorem wp_while_zero {c : M Bool} {b : M Fl} : wp (whileM c b 0) env PF X = False := rfl
theorem wp_while_succ {c : M Bool} {b : M Fl} {n : Nat} : wp (whileM c b (n + 1)) env PF X = wp c env (fun k e => if k = true then wp b e (fun r e => match r with
  | .nx => wp (whileM c b n) e PF X
  | .ct => wp (whileM c b n) e PF X
  | .brk => PF .nx e
  | .ret d => PF (.ret d) e) X else PF .nx e) X := by
  show wp (bnd c _) env PF X = _
  rw [wp_bnd]
  refine wp_fun fun k e => ?_
  cases k with
  | false => rfl
  | true =>
    show wp (bnd b _) e PF X = _
    rw [wp_bnd]
    refine wp_fun fun r e => ?_
    cases r <;> rfl
/-- a while by an invariant with a number that falls -/
theorem wp_while_inv {c : M Bool} {b : M Fl} {fu : Nat} (Inv : Nat → DL.Env → Prop) (k0 : Nat) (h0 : Inv k0 env) (hf : k0 < fu)
    (hs : ∀ k e, Inv k e → wp c e (fun t e => if t = true then wp b e (fun r e => match r with
      | .nx => ∃ j, j < k ∧ Inv j e
      | .ct => ∃ j, j < k ∧ Inv j e
      | .brk => PF .nx e
      | .ret d => PF (.ret d) e) X else PF .nx e) X) : wp (whileM c b fu) env PF X := by
  induction fu generalizing k0 env with
  | zero => omega
  | succ fu ih =>
    rw [wp_while_succ]
    refine wp_imp (hs k0 env h0) (fun t e h => ?_) fun _ _ h => h
    cases t with
    | false => exact h
    | true =>
      rw [if_pos rfl] at h ⊢
      refine wp_imp h (fun r e h => ?_) fun _ _ h => h
      cases r with
      | nx => obtain ⟨j, hj, hi⟩ := h; exact ih j hi (by omega)
      | ct => obtain ⟨j, hj, hi⟩ := h; exact ih j hi (by omega)
      | brk => exact h
      | ret d => exact h
@[simp ↓] theorem wl_mulI {i j : Int} : wp (lift (dMulI (.int i) (.int j))) env PD X = (CMul i j ∧ PD (.int (i * j)) env) := by
  show wp (lift (if CMul i j then some (D.int (i * j)) else none)) env PD X = _
  by_cases h : CMul i j
  · rw [if_pos h]; simp [h]
  · rw [if_neg h]; simp [h]
theorem cmulI {i j : Int} (h : -(2 ^ 62) < i ∧ i < 2 ^ 62) : CMul i j := .inl ⟨by omega, by omega⟩
theorem wl_addl {a b : List D} (h : a.length + b.length ≤ 16777216) : wp (lift (dAdd (.lst a) (.lst b))) env PD X = PD (.lst (a ++ b)) env := by
  show wp (lift (if a.length + b.length ≤ 16777216 then some (D.lst (a ++ b)) else none)) env PD X = _
  rw [if_pos h]; rfl
end
end DL
set_option Elab.async false
set_option linter.all false
set_option maxRecDepth 100000
set_option maxHeartbeats 4000000
set_option autoImplicit false
namespace LW
open PySem PySem.Spec PyProof.Rows L2 LamX DL
abbrev cSh : Nat := 9
def sh (q : Rat) : D := .obj cSh [.int q.num, .int q.den]
def lp (q : Rat) : D := .tup [.int q.num, .int q.den]
def al_bottom : List (Nat × Nat) := [(9, 1)]
def al_factor : List (Nat × Nat) := [(10, 0)]
def al_rows : List (Nat × Nat) := [(11, 0)]
def al_start : List (Nat × Nat) := [(10, 1)]
def al_top : List (Nat × Nat) := [(9, 0)]
def csT : List Nat := [9, 10, 11]
def toldTab : List (Nat × Str) := [(3, "kind"), (1, "name"), (2, "number"), (4, "rule"), (5, "no such"), (6, "no way"), (7, "large"), (8, "text")]
def m__law_dice : ML := mIf (tst (och dLt dLt (o2 dSub (ret (.int 0)) (ret (.int 10))) (gv 0) (ret (.int 10)))) (mlo (mcons (o1 dAbs (gp 0)) (mcons (ret (.int 0)) (mcons (ret (.int 2)) (ret []))))) (mlo (mcons (gv 0) (mcons (o2 dAdd (ret (.int 1)) (o2 dMod (o1 dInt (gp 0)) (ret (.int 1009)))) (mcons (o1 dInt (o2 dGe (gv 0) (o2 dPow (ret (.int 10)) (ret (.int 18))))) (ret [])))))
def f__law_dice : FDL := runL 1 1 m__law_dice
def m__law_rounds : ML := sqL (mIf (tst (o2 dEq (gv 2) (bnd (mlo (ret [])) fun l => ret (.lst l)))) (asgM (bnd (mlo (mcons (ret (.int 0)) (ret []))) fun l => ret (.lst l)) (setU 2)) (nxM)) (lc1 3 [3] (bnd (mcons (gv 3) (ret [])) (callL f__law_dice)) (lstM (gv 2)))
def m_shared_part : M Fl := seqM (par2 0 1 (mcons (o1 dAbs (gp 0)) (mcons (o1 dAbs (gp 1)) (ret [])))) (seqM (whileM (tst (o2 dNe (gv 1) (ret (.int 0)))) (par2 0 1 (mcons (gv 1) (mcons (o2 dMod (gv 0) (gv 1)) (ret [])))) 4000) (retM (gv 0)))
def f_shared_part : FD := runF 2 2 m_shared_part
def m_Share___init__ : M Fl := seqM (mIf (tst (o2 dEq (gv 2) (ret (.int 0)))) (raise 2) (nxM)) (seqM (asgM (bnd (mcons (gv 1) (mcons (gv 2) (ret []))) (callF f_shared_part)) (setU 3)) (seqM (asgM (mIf (tst (o2 dLt (gv 2) (ret (.int 0)))) (o1 dNeg (ret (.int 1))) (ret (.int 1))) (setU 4)) (seqM (fldM 0 9 0 (o2 dDiv (o2 dMul (gv 4) (gv 1)) (gv 3))) (fldM 0 9 1 (o2 dDiv (o2 dMul (gv 4) (gv 2)) (gv 3))))))
def f_Share___init__ : FD1 := run1 3 5 m_Share___init__
def mk_Share : FD := mkF 9 2 f_Share___init__
def m__law_roll : M Fl := seqM (mIf (mIf (tst (o2 dEq (ixNm 0 dIxA (ret (.int 2))) (ret (.int 2)))) (ret true) (mIf (tst (o2 dEq (ixNm 0 dIxA (ret (.int 2))) (ret (.int 1)))) (tst (o2 dGt (ixNm 0 dIxA (ret (.int 0))) (ret (.int 0)))) (ret false))) (seqM (asgM (o2 dMod (o1 dInt (ixNm 0 dIxA (ret (.int 0)))) (gv 1)) (setU 2)) (seqM (stIx 0 (ret (.int 0)) (o2 dDiv (ixNm 0 dIxA (ret (.int 0))) (gv 1))) (retM (gv 2)))) (nxM)) (seqM (stIx 0 (ret (.int 2)) (ret (.int 0))) (seqM (stIx 0 (ret (.int 0)) (o2 dMod (o1 dInt (o2 dAdd (o2 dAdd (o2 dMul (ixNm 0 dIxA (ret (.int 0))) (ret (.int 48271))) (o2 dMul (ixNm 0 dIxA (ret (.int 1))) (ret (.int 69621)))) (ret (.int 11)))) (ret (.int 2147483647)))) (seqM (stIx 0 (ret (.int 1)) (o2 dAdd (ixNm 0 dIxA (ret (.int 1))) (ret (.int 1)))) (retM (o2 dMod (o1 dInt (o2 dAdd (o2 dDiv (ixNm 0 dIxA (ret (.int 0))) (ret (.int 7))) (ixNm 0 dIxA (ret (.int 0))))) (gv 1))))))
def f__law_roll : FD1 := run1 2 3 m__law_roll
def m_Scale___init__ : M Fl := seqM (mIf (tst (o2 dEq (o1 (dFld al_top) (gv 1)) (ret (.int 0)))) (raise 4) (nxM)) (seqM (fldM 0 10 0 (gv 1)) (fldM 0 10 1 (gv 2)))
def f_Scale___init__ : FD1 := run1 3 3 m_Scale___init__
def mk_Scale : FD := mkF 10 2 f_Scale___init__
def m__law_share : M Fl := retM (bnd (mcons (o2 dAdd (gv 1) (pinned 0 (bnd (mcons (o2 dAdd (o2 dSub (gv 2) (gv 1)) (ret (.int 1))) (ret [])) (call1 0 f__law_roll)))) (mcons (o2 dAdd (ret (.int 1)) (pinned 0 (bnd (mcons (gv 3) (ret [])) (call1 0 f__law_roll)))) (ret []))) (callF mk_Share))
def f__law_share : FD1 := run1 4 4 m__law_share
def m__law_scale : M Fl := seqM (asgM (bnd (mcons (o2 dMul (o2 dIxA (bnd (mlo (mcons (ret (.int 1)) (mcons (ret (.int 2)) (mcons (ret (.int 3)) (mcons (ret (.int 5)) (mcons (ret (.int 9)) (ret []))))))) fun l => ret (.lst l)) (pinned 0 (bnd (mcons (ret (.int 5)) (ret [])) (call1 0 f__law_roll)))) (o2 dIxA (bnd (mlo (mcons (ret (.int 1)) (mcons (o2 dSub (ret (.int 0)) (ret (.int 1))) (ret [])))) fun l => ret (.lst l)) (pinned 0 (bnd (mcons (ret (.int 2)) (ret [])) (call1 0 f__law_roll))))) (mcons (o2 dAdd (ret (.int 1)) (pinned 0 (bnd (mcons (ret (.int 5)) (ret [])) (call1 0 f__law_roll)))) (ret []))) (callF mk_Share)) (setU 1)) (retM (bnd (mcons (gv 1) (mcons (pinned 0 (bnd (mcons (o2 dSub (ret (.int 0)) (ret (.int 40))) (mcons (ret (.int 40)) (mcons (ret (.int 4)) (ret [])))) (call1 0 f__law_share))) (ret []))) (callF mk_Scale)))
def f__law_scale : FD1 := run1 1 2 m__law_scale
def m__law_low : M Fl := seqM (par2 2 3 (mcons (o1 dAbs (gp 0)) (mcons (o1 dAbs (gp 1)) (ret [])))) (seqM (bnd (rng1 (mcons (ret (.int 200)) (ret []))) (forM (setU 4) (seqM (mIf (tst (o2 dEq (gv 3) (ret (.int 0)))) (ret .brk) (nxM)) (par2 2 3 (mcons (gv 3) (mcons (o2 dMod (gv 2) (gv 3)) (ret []))))))) (retM (mIf (tst (o2 dGt (gv 1) (ret (.int 0)))) (mtup (mcons (o2 dDiv (gv 0) (gv 2)) (mcons (o2 dDiv (gv 1) (gv 2)) (ret [])))) (mtup (mcons (o2 dSub (ret (.int 0)) (o2 dDiv (gv 0) (gv 2))) (mcons (o2 dSub (ret (.int 0)) (o2 dDiv (gv 1) (gv 2))) (ret [])))))))
def f__law_low : FD := runF 2 5 m__law_low
def m__law_plus : M Fl := retM (bnd (mcons (o2 dAdd (o2 dMul (ixNm 0 dIxA (ret (.int 0))) (ixNm 1 dIxA (ret (.int 1)))) (o2 dMul (ixNm 1 dIxA (ret (.int 0))) (ixNm 0 dIxA (ret (.int 1))))) (mcons (o2 dMul (ixNm 0 dIxA (ret (.int 1))) (ixNm 1 dIxA (ret (.int 1)))) (ret []))) (callF f__law_low))
def f__law_plus : FD := runF 2 2 m__law_plus
def m__law_times : M Fl := retM (bnd (mcons (o2 dMul (ixNm 0 dIxA (ret (.int 0))) (ixNm 1 dIxA (ret (.int 0)))) (mcons (o2 dMul (ixNm 0 dIxA (ret (.int 1))) (ixNm 1 dIxA (ret (.int 1)))) (ret []))) (callF f__law_low))
def f__law_times : FD := runF 2 2 m__law_times
def m_Share_key : M Fl := retM (mtup (mcons (o1 (dFld al_top) (gv 0)) (mcons (o1 (dFld al_bottom) (gv 0)) (ret []))))
def f_Share_key : FD := runF 1 1 m_Share_key
def ma_key_0_Scale : List (Nat × FD) := [(9, f_Share_key)]
def m_Scale_key : M Fl := retM (mtup (mcons (meA ma_key_0_Scale (o1 (dFld al_factor) (gv 0)) (ret [])) (mcons (meA ma_key_0_Scale (o1 (dFld al_start) (gv 0)) (ret [])) (ret []))))
def f_Scale_key : FD := runF 1 1 m_Scale_key
def m_Share_plus : M Fl := retM (bnd (mcons (o2 dAdd (o2 dMul (o1 (dFld al_top) (gv 0)) (o1 (dFld al_bottom) (gv 1))) (o2 dMul (o1 (dFld al_top) (gv 1)) (o1 (dFld al_bottom) (gv 0)))) (mcons (o2 dMul (o1 (dFld al_bottom) (gv 0)) (o1 (dFld al_bottom) (gv 1))) (ret []))) (callF mk_Share))
def f_Share_plus : FD := runF 2 2 m_Share_plus
def m_Share_times : M Fl := retM (bnd (mcons (o2 dMul (o1 (dFld al_top) (gv 0)) (o1 (dFld al_top) (gv 1))) (mcons (o2 dMul (o1 (dFld al_bottom) (gv 0)) (o1 (dFld al_bottom) (gv 1))) (ret []))) (callF mk_Share))
def f_Share_times : FD := runF 2 2 m_Share_times
def ma_times_1 : List (Nat × FD) := [(9, f_Share_times)]
def ma_plus_1 : List (Nat × FD) := [(9, f_Share_plus)]
def m_Scale_plain : M Fl := retM (meA ma_plus_1 (meA ma_times_1 (gv 1) (mcons (o1 (dFld al_factor) (gv 0)) (ret []))) (mcons (o1 (dFld al_start) (gv 0)) (ret [])))
def f_Scale_plain : FD := runF 2 2 m_Scale_plain
def m_Share_over : M Fl := retM (bnd (mcons (o2 dMul (o1 (dFld al_top) (gv 0)) (o1 (dFld al_bottom) (gv 1))) (mcons (o2 dMul (o1 (dFld al_bottom) (gv 0)) (o1 (dFld al_top) (gv 1))) (ret []))) (callF mk_Share))
def f_Share_over : FD := runF 2 2 m_Share_over
def m_Share_less : M Fl := retM (bnd (mcons (o2 dSub (o2 dMul (o1 (dFld al_top) (gv 0)) (o1 (dFld al_bottom) (gv 1))) (o2 dMul (o1 (dFld al_top) (gv 1)) (o1 (dFld al_bottom) (gv 0)))) (mcons (o2 dMul (o1 (dFld al_bottom) (gv 0)) (o1 (dFld al_bottom) (gv 1))) (ret []))) (callF mk_Share))
def f_Share_less : FD := runF 2 2 m_Share_less
def ma_less_1 : List (Nat × FD) := [(9, f_Share_less)]
def ma_over_1 : List (Nat × FD) := [(9, f_Share_over)]
def m_Scale_mark : M Fl := retM (meA ma_over_1 (meA ma_less_1 (gv 1) (mcons (o1 (dFld al_start) (gv 0)) (ret []))) (mcons (o1 (dFld al_factor) (gv 0)) (ret [])))
def f_Scale_mark : FD := runF 2 2 m_Scale_mark
def m_Scale_step : M Fl := retM (meA ma_times_1 (gv 1) (mcons (o1 (dFld al_factor) (gv 0)) (ret [])))
def f_Scale_step : FD := runF 2 2 m_Scale_step
def m_Scale_told_by : M Fl := retM (bnd (mcons (meA ma_times_1 (o1 (dFld al_factor) (gv 0)) (mcons (o1 (dFld al_factor) (gv 1)) (ret []))) (mcons (meA ma_plus_1 (meA ma_times_1 (o1 (dFld al_start) (gv 0)) (mcons (o1 (dFld al_factor) (gv 1)) (ret []))) (mcons (o1 (dFld al_start) (gv 1)) (ret []))) (ret []))) (callF mk_Scale))
def f_Scale_told_by : FD := runF 2 2 m_Scale_told_by
def m_Scale_turned : M Fl := retM (bnd (mcons (meA ma_over_1 (bnd (mcons (ret (.int 1)) (mcons (ret (.int 1)) (ret []))) (callF mk_Share)) (mcons (o1 (dFld al_factor) (gv 0)) (ret []))) (mcons (meA ma_over_1 (meA ma_less_1 (bnd (mcons (ret (.int 0)) (mcons (ret (.int 1)) (ret []))) (callF mk_Share)) (mcons (o1 (dFld al_start) (gv 0)) (ret []))) (mcons (o1 (dFld al_factor) (gv 0)) (ret []))) (ret []))) (callF mk_Scale))
def f_Scale_turned : FD := runF 1 1 m_Scale_turned
def ma_told_by_1 : List (Nat × FD) := [(10, f_Scale_told_by)]
def ma_turned_0 : List (Nat × FD) := [(10, f_Scale_turned)]
def m_between : M Fl := retM (meA ma_told_by_1 (gv 0) (mcons (meA ma_turned_0 (gv 1) (ret [])) (ret [])))
def f_between : FD := runF 2 2 m_between
def m__law_over : M Fl := retM (bnd (mcons (o2 dMul (ixNm 0 dIxA (ret (.int 0))) (ixNm 1 dIxA (ret (.int 1)))) (mcons (o2 dMul (ixNm 0 dIxA (ret (.int 1))) (ixNm 1 dIxA (ret (.int 0)))) (ret []))) (callF f__law_low))
def f__law_over : FD := runF 2 2 m__law_over
def m__law_less : M Fl := retM (bnd (mcons (o2 dSub (o2 dMul (ixNm 0 dIxA (ret (.int 0))) (ixNm 1 dIxA (ret (.int 1)))) (o2 dMul (ixNm 1 dIxA (ret (.int 0))) (ixNm 0 dIxA (ret (.int 1))))) (mcons (o2 dMul (ixNm 0 dIxA (ret (.int 1))) (ixNm 1 dIxA (ret (.int 1)))) (ret []))) (callF f__law_low))
def f__law_less : FD := runF 2 2 m__law_less
def m_Share_order : M Fl := seqM (asgM (o2 dSub (o2 dMul (o1 (dFld al_top) (gv 0)) (o1 (dFld al_bottom) (gv 1))) (o2 dMul (o1 (dFld al_top) (gv 1)) (o1 (dFld al_bottom) (gv 0)))) (setU 2)) (retM (mIf (tst (o2 dEq (gv 2) (ret (.int 0)))) (ret (.int 0)) (mIf (tst (o2 dGt (gv 2) (ret (.int 0)))) (ret (.int 1)) (o1 dNeg (ret (.int 1))))))
def f_Share_order : FD := runF 2 3 m_Share_order
def ma_order_1 : List (Nat × FD) := [(9, f_Share_order)]
def m_agree_at : M Fl := seqM (asgM (bnd (mcons (gv 0) (mcons (gv 1) (ret []))) (callF f_between)) (setU 2)) (seqM (mIf (tst (o2 dEq (meA ma_order_1 (o1 (dFld al_factor) (gv 2)) (mcons (bnd (mcons (ret (.int 1)) (mcons (ret (.int 1)) (ret []))) (callF mk_Share)) (ret []))) (ret (.int 0)))) (raise 6) (nxM)) (retM (meA ma_over_1 (o1 (dFld al_start) (gv 2)) (mcons (meA ma_less_1 (bnd (mcons (ret (.int 1)) (mcons (ret (.int 1)) (ret []))) (callF mk_Share)) (mcons (o1 (dFld al_factor) (gv 2)) (ret []))) (ret [])))))
def f_agree_at : FD := runF 2 3 m_agree_at
def m_from_points : M Fl := seqM (asgM (meA ma_less_1 (ixNm 1 dIxA (ret (.int 0))) (mcons (ixNm 0 dIxA (ret (.int 0))) (ret []))) (setU 2)) (seqM (mIf (tst (o2 dEq (o1 (dFld al_top) (gv 2)) (ret (.int 0)))) (raise 4) (nxM)) (seqM (asgM (meA ma_over_1 (meA ma_less_1 (ixNm 1 dIxA (ret (.int 1))) (mcons (ixNm 0 dIxA (ret (.int 1))) (ret []))) (mcons (gv 2) (ret []))) (setU 3)) (retM (bnd (mcons (gv 3) (mcons (meA ma_less_1 (ixNm 0 dIxA (ret (.int 1))) (mcons (meA ma_times_1 (ixNm 0 dIxA (ret (.int 0))) (mcons (gv 3) (ret []))) (ret []))) (ret []))) (callF mk_Scale)))))
def f_from_points : FD := runF 2 4 m_from_points
def m_Scales___init__ : M Fl := fldM 0 11 0 (o1 dDict (bnd (lcM [2] (setU 2) (ret true) (mtup (mcons (gv 2) (mcons (ixNm 1 dIxA (gv 2)) (ret [])))) (lstM (bnd (o1L dSortB (gp 1)) fun l => ret (.lst l)))) fun l => ret (.lst l)))
def f_Scales___init__ : FD1 := run1 2 3 m_Scales___init__
def mk_Scales : FD := mkF 11 1 f_Scales___init__
def m_Scales_scale_of : M Fl := seqM (mIf (tst (o2 (dInA true) (gv 1) (o1 (dFld al_rows) (gv 0)))) (raiseE 5 (gv 1)) (nxM)) (retM (o2 dIxA (o1 (dFld al_rows) (gv 0)) (gv 1)))
def f_Scales_scale_of : FD := runF 2 2 m_Scales_scale_of
def ma_scale_of_1 : List (Nat × FD) := [(11, f_Scales_scale_of)]
def ma_mark_1 : List (Nat × FD) := [(10, f_Scale_mark)]
def ma_plain_1 : List (Nat × FD) := [(10, f_Scale_plain)]
def m_Scales_told : M Fl := retM (meA ma_mark_1 (meA ma_scale_of_1 (gv 0) (mcons (gv 3) (ret []))) (mcons (meA ma_plain_1 (meA ma_scale_of_1 (gv 0) (mcons (gv 2) (ret []))) (mcons (gv 1) (ret []))) (ret [])))
def f_Scales_told : FD := runF 4 4 m_Scales_told
def ma_step_1 : List (Nat × FD) := [(10, f_Scale_step)]
def m_Scales_gap : M Fl := retM (meA ma_over_1 (meA ma_step_1 (meA ma_scale_of_1 (gv 0) (mcons (gv 2) (ret []))) (mcons (gv 1) (ret []))) (mcons (o1 (dFld al_factor) (meA ma_scale_of_1 (gv 0) (mcons (gv 3) (ret [])))) (ret [])))
def f_Scales_gap : FD := runF 4 4 m_Scales_gap
def ma_told_3 : List (Nat × FD) := [(11, f_Scales_told)]
def m_Scales_table : M Fl := seqM (mIf (tst (o2 dLe (o1 (dFld al_top) (gv 5)) (ret (.int 0)))) (raise 2) (nxM)) (seqM (parOD 6 7 (mlo (ret [])) (gv 3)) (seqM (whileM (tst (o2 dLe (meA ma_order_1 (gv 7) (mcons (gv 4) (ret []))) (ret (.int 0)))) (seqM (appM 6 (mtup (mcons (gv 7) (mcons (meA ma_told_3 (gv 0) (mcons (gv 7) (mcons (gv 1) (mcons (gv 2) (ret []))))) (ret []))))) (asgM (meA ma_plus_1 (gv 7) (mcons (gv 5) (ret []))) (setU 7))) 300) (retM (o1 dTup (gp 6)))))
def f_Scales_table : FD := runF 6 8 m_Scales_table
def m__law_is_less : M Fl := retM (o2 dLt (o2 dMul (ixNm 0 dIxA (ret (.int 0))) (ixNm 1 dIxA (ret (.int 1)))) (o2 dMul (ixNm 1 dIxA (ret (.int 0))) (ixNm 0 dIxA (ret (.int 1)))))
def f__law_is_less : FD := runF 2 2 m__law_is_less
def m_Scales_rises : M Fl := retM (o2 dGt (o1 (dFld al_top) (o1 (dFld al_factor) (bnd (mcons (meA ma_scale_of_1 (gv 0) (mcons (gv 1) (ret []))) (mcons (meA ma_scale_of_1 (gv 0) (mcons (gv 2) (ret []))) (ret []))) (callF f_between)))) (ret (.int 0)))
def f_Scales_rises : FD := runF 3 3 m_Scales_rises
def m_Scales_meet : M Fl := retM (bnd (mcons (meA ma_scale_of_1 (gv 0) (mcons (gv 1) (ret []))) (mcons (meA ma_scale_of_1 (gv 0) (mcons (gv 2) (ret []))) (ret []))) (callF f_agree_at))
def f_Scales_meet : FD := runF 3 3 m_Scales_meet
def m_Share_is_whole : M Fl := retM (o2 dEq (o1 (dFld al_bottom) (gv 0)) (ret (.int 1)))
def f_Share_is_whole : FD := runF 1 1 m_Share_is_whole
def ma_is_whole_0 : List (Nat × FD) := [(9, f_Share_is_whole)]
def m_Scales_whole_marks : M Fl := retM (o1 dTup (bnd (lcM [5] (setU 5) (tst (meA ma_is_whole_0 (meA ma_told_3 (gv 0) (mcons (bnd (mcons (gv 5) (mcons (ret (.int 1)) (ret []))) (callF mk_Share)) (mcons (gv 1) (mcons (gv 2) (ret []))))) (ret []))) (gv 5) (rng2 (mcons (gv 3) (mcons (o2 dAdd (gv 4) (ret (.int 1))) (ret []))))) fun l => ret (.lst l)))
def f_Scales_whole_marks : FD := runF 5 6 m_Scales_whole_marks
def m_between_points : M Fl := seqM (mIf (mIf (tst (o2 dLt (o1 dLen (gp 0)) (ret (.int 2)))) (ret true) (tst (genM false ["k"] [("points", 0)] [0] (setU 0) (o2 dLe (meA ma_order_1 (o2 dIxA (ixNm 1 dIxA (gv 0)) (ret (.int 0))) (mcons (o2 dIxA (ixNm 1 dIxA (o2 dSub (gv 0) (ret (.int 1)))) (ret (.int 0))) (ret []))) (ret (.int 0))) (rng2 (mcons (ret (.int 1)) (mcons (o1 dLen (gp 0)) (ret []))))))) (raise 4) (nxM)) (seqM (bnd (rng2 (mcons (ret (.int 1)) (mcons (o1 dLen (gp 0)) (ret [])))) (forM (setU 2) (mIf (mIf (tst (o2 dLe (meA ma_order_1 (o2 dIxA (ixNm 0 dIxA (o2 dSub (gv 2) (ret (.int 1)))) (ret (.int 0))) (mcons (gv 1) (ret []))) (ret (.int 0)))) (tst (o2 dLe (meA ma_order_1 (gv 1) (mcons (o2 dIxA (ixNm 0 dIxA (gv 2)) (ret (.int 0))) (ret []))) (ret (.int 0)))) (ret false)) (seqM (par2 3 4 (mcons (ixNm 0 dIxA (o2 dSub (gv 2) (ret (.int 1)))) (mcons (ixNm 0 dIxA (gv 2)) (ret [])))) (seqM (asgM (meA ma_over_1 (meA ma_less_1 (gv 1) (mcons (ixNm 3 dIxA (ret (.int 0))) (ret []))) (mcons (meA ma_less_1 (ixNm 4 dIxA (ret (.int 0))) (mcons (ixNm 3 dIxA (ret (.int 0))) (ret []))) (ret []))) (setU 5)) (retM (meA ma_plus_1 (ixNm 3 dIxA (ret (.int 1))) (mcons (meA ma_times_1 (meA ma_less_1 (ixNm 4 dIxA (ret (.int 1))) (mcons (ixNm 3 dIxA (ret (.int 1))) (ret []))) (mcons (gv 5) (ret []))) (ret [])))))) (nxM)))) (raise 2))
def f_between_points : FD := runF 2 6 m_between_points
def m_worst_gap : M Fl := seqM (asgM (ret .non) (setU 2)) (seqM (bnd (lstM (gv 0)) (forM (gtupU 2 (gconsU (setU 3) (gconsU (setU 4) (gnilU)))) (seqM (asgM (meA ma_less_1 (meA ma_plain_1 (gv 1) (mcons (gv 3) (ret []))) (mcons (gv 4) (ret []))) (setU 5)) (seqM (asgM (bnd (mcons (o1 dAbs (o1 (dFld al_top) (gv 5))) (mcons (o1 (dFld al_bottom) (gv 5)) (ret []))) (callF mk_Share)) (setU 5)) (mIf (mIf (tst (o2 dIsN (gv 2) (ret .non))) (ret true) (tst (o2 dGt (meA ma_order_1 (gv 5) (mcons (ixNm 2 dIxA (ret (.int 0))) (ret []))) (ret (.int 0))))) (asgM (mtup (mcons (gv 5) (mcons (gv 3) (ret [])))) (setU 2)) (nxM)))))) (seqM (mIf (tst (o2 dIsN (gv 2) (ret .non))) (raise 4) (nxM)) (retM (gv 2))))
def f_worst_gap : FD := runF 2 6 m_worst_gap
def ma_table_5 : List (Nat × FD) := [(11, f_Scales_table)]
def m__law_wrong_points : M Fl := seqM (mIf (tst (o2 dNe (toldM toldTab (bnd (mcons (mSl (gv 0) (ret none) (mpart (ret (.int 1)))) (mcons (gv 2) (ret []))) (callF f_between_points))) (ret (.str "rule")))) (retM (ret (.bl false))) (nxM)) (seqM (mIf (tst (o2 dNe (toldM toldTab (meA ma_table_5 (gv 1) (mcons (ret (.str "one")) (mcons (ret (.str "two")) (mcons (gv 2) (mcons (gv 3) (mcons (bnd (mcons (ret (.int 0)) (mcons (ret (.int 1)) (ret []))) (callF mk_Share)) (ret [])))))))) (ret (.str "number")))) (retM (ret (.bl false))) (nxM)) (seqM (mIf (tst (o2 dNe (toldM toldTab (bnd (mcons (bnd (mlo (ret [])) fun l => ret (.lst l)) (mcons (gv 4) (ret []))) (callF f_worst_gap))) (ret (.str "rule")))) (retM (ret (.bl false))) (nxM)) (retM (ret (.bl true)))))
def f__law_wrong_points : FD := runF 5 5 m__law_wrong_points
def ma_whole_marks_4 : List (Nat × FD) := [(11, f_Scales_whole_marks)]
def ma_key_0 : List (Nat × FD) := [(9, f_Share_key), (10, f_Scale_key)]
def m__law_rest1 : M Fl := seqM (asgM (o2 dSub (pinned 0 (bnd (mcons (ret (.int 20)) (ret [])) (call1 0 f__law_roll))) (ret (.int 10))) (setU 7)) (seqM (asgK (lcM [6] (setU 6) (tst (o2 dEq (o1 (dFld al_bottom) (meA ma_told_3 (gv 4) (mcons (bnd (mcons (gv 6) (mcons (ret (.int 1)) (ret []))) (callF mk_Share)) (mcons (ret (.str "one")) (mcons (ret (.str "two")) (ret [])))))) (ret (.int 1)))) (gv 6) (rng2 (mcons (gv 7) (mcons (o2 dAdd (gv 7) (ret (.int 12))) (ret []))))) 8) (seqM (mIf (tst (o2 dNe (bnd (o1L dLst (meA ma_whole_marks_4 (gv 4) (mcons (ret (.str "one")) (mcons (ret (.str "two")) (mcons (gv 7) (mcons (o2 dAdd (gv 7) (ret (.int 11))) (ret []))))))) fun l => ret (.lst l)) (gv 8))) (retM (ret (.bl false))) (nxM)) (seqM (parS [22, 9] (mconsS (slOl (mlo (ret []))) (mconsS (slIm (bnd (mcons (pinned 0 (bnd (mcons (ret (.int 5)) (ret [])) (call1 0 f__law_roll))) (mcons (ret (.int 1)) (ret []))) (callF mk_Share))) (ret [])))) (seqM (bnd (rng1 (mcons (o2 dAdd (ret (.int 2)) (pinned 0 (bnd (mcons (ret (.int 4)) (ret [])) (call1 0 f__law_roll)))) (ret []))) (forM (setU 6) (seqM (appM 22 (mtup (mcons (gv 9) (mcons (pinned 0 (bnd (mcons (o2 dSub (ret (.int 0)) (ret (.int 20))) (mcons (ret (.int 20)) (mcons (ret (.int 3)) (ret [])))) (call1 0 f__law_share))) (ret []))))) (asgM (meA ma_plus_1 (gv 9) (mcons (bnd (mcons (o2 dAdd (ret (.int 1)) (pinned 0 (bnd (mcons (ret (.int 5)) (ret [])) (call1 0 f__law_roll)))) (mcons (ret (.int 2)) (ret []))) (callF mk_Share)) (ret []))) (setU 9))))) (seqM (asgM (pinned 0 (bnd (mcons (o2 dSub (ret (.int 0)) (ret (.int 2))) (mcons (ret (.int 18)) (mcons (ret (.int 2)) (ret [])))) (call1 0 f__law_share))) (setU 21)) (seqM (asgM (toldM toldTab (bnd (mcons (gv 22) (mcons (gv 21) (ret []))) (callF f_between_points))) (setU 10)) (seqM (asgM (mAndV (mNotV (bnd (mcons (meA ma_key_0 (gv 21) (ret [])) (mcons (meA ma_key_0 (o2 dIxA (ixNm 22 dIxA (ret (.int 0))) (ret (.int 0))) (ret [])) (ret []))) (callF f__law_is_less))) (mNotV (bnd (mcons (meA ma_key_0 (o2 dIxA (ixNm 22 dIxA (o2 dSub (o1 dLen (gp 22)) (ret (.int 1)))) (ret (.int 0))) (ret [])) (mcons (meA ma_key_0 (gv 21) (ret [])) (ret []))) (callF f__law_is_less)))) (setU 11)) (seqM (mIf (tst (o2 dEq (o2 (dEqT csT) (gv 10) (ret (.str "number"))) (gv 11))) (retM (ret (.bl false))) (nxM)) (seqM (mIf (tst (gv 11)) (seqM (asgM (o1 dMinL (bnd (lcM [23] (setU 23) (mNot (tst (bnd (mcons (meA ma_key_0 (o2 dIxA (ixNm 22 dIxA (gv 23)) (ret (.int 0))) (ret [])) (mcons (meA ma_key_0 (gv 21) (ret [])) (ret []))) (callF f__law_is_less)))) (gv 23) (rng2 (mcons (ret (.int 1)) (mcons (o1 dLen (gp 22)) (ret []))))) fun l => ret (.lst l))) (setU 6)) (seqM (asgM (ixNm 22 dIxA (o2 dSub (gv 6) (ret (.int 1)))) (gtupU 2 (gconsU (setU 12) (gconsU (setU 13) (gnilU))))) (seqM (asgM (ixNm 22 dIxA (gv 6)) (gtupU 2 (gconsU (setU 14) (gconsU (setU 15) (gnilU))))) (seqM (asgM (bnd (mcons (bnd (mcons (meA ma_key_0 (gv 21) (ret [])) (mcons (meA ma_key_0 (gv 12) (ret [])) (ret []))) (callF f__law_less)) (mcons (bnd (mcons (meA ma_key_0 (gv 14) (ret [])) (mcons (meA ma_key_0 (gv 12) (ret [])) (ret []))) (callF f__law_less)) (ret []))) (callF f__law_over)) (setU 16)) (mIf (tst (o2 dNe (meA ma_key_0 (gv 10) (ret [])) (bnd (mcons (meA ma_key_0 (gv 13) (ret [])) (mcons (bnd (mcons (gv 16) (mcons (bnd (mcons (meA ma_key_0 (gv 15) (ret [])) (mcons (meA ma_key_0 (gv 13) (ret [])) (ret []))) (callF f__law_less)) (ret []))) (callF f__law_times)) (ret []))) (callF f__law_plus)))) (retM (ret (.bl false))) (nxM)))))) (nxM)) (seqM (asgM (bnd (lcM [12, 13] (gtupU 2 (gconsU (setU 12) (gconsU (setU 13) (gnilU)))) (ret true) (bnd (mcons (meA ma_key_0 (meA ma_plain_1 (gv 1) (mcons (gv 12) (ret []))) (ret [])) (mcons (meA ma_key_0 (gv 13) (ret [])) (ret []))) (callF f__law_less)) (lstM (gv 22))) fun l => ret (.lst l)) (setU 17)) (seqM (asgM (bnd (lcM [24, 25] (gtupU 2 (gconsU (setU 24) (gconsU (setU 25) (gnilU)))) (ret true) (mtup (mcons (o1 dAbs (gp 24)) (mcons (gv 25) (ret [])))) (lstM (gv 17))) fun l => ret (.lst l)) (setU 17)) (seqM (asgM (o2 dIxA (bnd (lcM [6] (setU 6) (tst (o2 dEq (bnd (lcM [18] (setU 18) (tst (bnd (mcons (ixNm 17 dIxA (gv 6)) (mcons (gv 18) (ret []))) (callF f__law_is_less))) (gv 18) (lstM (gv 17))) fun l => ret (.lst l)) (bnd (mlo (ret [])) fun l => ret (.lst l)))) (gv 6) (rng1 (mcons (o1 dLen (gp 17)) (ret [])))) fun l => ret (.lst l)) (ret (.int 0))) (setU 19)) (seqM (asgM (bnd (mcons (gv 22) (mcons (gv 1) (ret []))) (callF f_worst_gap)) (gtupU 2 (gconsU (setU 18) (gconsU (setU 20) (gnilU))))) (seqM (mIf (mIf (tst (o2 dNe (meA ma_key_0 (gv 18) (ret [])) (ixNm 17 dIxA (gv 19)))) (ret true) (tst (o2 dNe (meA ma_key_0 (gv 20) (ret [])) (meA ma_key_0 (o2 dIxA (ixNm 22 dIxA (gv 19)) (ret (.int 0))) (ret []))))) (retM (ret (.bl false))) (nxM)) (seqM (mIf (tst (o2 dNe (toldM toldTab (bnd (mcons (bnd (mcons (ret (.int 0)) (mcons (ret (.int 1)) (ret []))) (callF mk_Share)) (mcons (gv 2) (ret []))) (callF mk_Scale))) (ret (.str "rule")))) (retM (ret (.bl false))) (nxM)) (seqM (mIf (tst (o2 dNe (toldM toldTab (meA ma_told_3 (gv 4) (mcons (gv 2) (mcons (ret (.str "one")) (mcons (ret (.str "none")) (ret [])))))) (ret (.str "no such")))) (retM (ret (.bl false))) (nxM)) (seqM (mIf (tst (o2 dNe (toldM toldTab (bnd (mcons (mtup (mcons (gv 2) (mcons (gv 2) (ret [])))) (mcons (mtup (mcons (gv 2) (mcons (gv 3) (ret [])))) (ret []))) (callF f_from_points))) (ret (.str "rule")))) (retM (ret (.bl false))) (nxM)) (seqM (mIf (mNot (tst (bnd (mcons (gv 22) (mcons (gv 4) (mcons (gv 2) (mcons (gv 5) (mcons (gv 1) (ret [])))))) (callF f__law_wrong_points)))) (retM (ret (.bl false))) (nxM)) (retM (ret (.bl true)))))))))))))))))))))
def f__law_rest1 : FD1 := run1 7 26 m__law_rest1
def ma_gap_3 : List (Nat × FD) := [(11, f_Scales_gap)]
def ma_rises_2 : List (Nat × FD) := [(11, f_Scales_rises)]
def ma_meet_2 : List (Nat × FD) := [(11, f_Scales_meet)]
def m__law_rest2 : M Fl := seqM (asgM (bnd (mcons (gv 1) (mcons (gv 2) (ret []))) (callF f_between)) (setU 5)) (seqM (asgM (bnd (mcons (bnd (mcons (gv 4) (mcons (meA ma_key_0 (o1 (dFld al_start) (gv 2)) (ret [])) (ret []))) (callF f__law_less)) (mcons (meA ma_key_0 (o1 (dFld al_factor) (gv 2)) (ret [])) (ret []))) (callF f__law_over)) (setU 6)) (seqM (mIf (tst (o2 dNe (meA ma_key_0 (meA ma_plain_1 (gv 5) (mcons (gv 3) (ret []))) (ret [])) (gv 6))) (retM (ret (.bl false))) (nxM)) (seqM (asgM (toldM toldTab (bnd (mcons (gv 1) (mcons (gv 2) (ret []))) (callF f_agree_at))) (setU 7)) (seqM (mIf (tst (o2 dNe (o2 (dEqT csT) (gv 7) (ret (.str "no way"))) (o2 dEq (meA ma_key_0 (o1 (dFld al_factor) (gv 1)) (ret [])) (meA ma_key_0 (o1 (dFld al_factor) (gv 2)) (ret []))))) (retM (ret (.bl false))) (nxM)) (seqM (mIf (mIf (tst (o2 (dNeT csT) (gv 7) (ret (.str "no way")))) (tst (o2 dNe (meA ma_key_0 (meA ma_plain_1 (gv 1) (mcons (gv 7) (ret []))) (ret [])) (meA ma_key_0 (meA ma_plain_1 (gv 2) (mcons (gv 7) (ret []))) (ret [])))) (ret false)) (retM (ret (.bl false))) (nxM)) (seqM (asgM (meA ma_plus_1 (gv 3) (mcons (bnd (mcons (o2 dAdd (ret (.int 1)) (pinned 0 (bnd (mcons (ret (.int 9)) (ret [])) (call1 0 f__law_roll)))) (mcons (ret (.int 2)) (ret []))) (callF mk_Share)) (ret []))) (setU 8)) (seqM (mIf (tst (o2 dNe (meA ma_key_0 (bnd (mcons (mtup (mcons (gv 3) (mcons (meA ma_plain_1 (gv 1) (mcons (gv 3) (ret []))) (ret [])))) (mcons (mtup (mcons (gv 8) (mcons (meA ma_plain_1 (gv 1) (mcons (gv 8) (ret []))) (ret [])))) (ret []))) (callF f_from_points)) (ret [])) (meA ma_key_0 (gv 1) (ret [])))) (retM (ret (.bl false))) (nxM)) (seqM (asgM (bnd (mcons (oc dDisp (mpair (ret (.str "one")) (gv 1) (mpair (ret (.str "two")) (gv 2) (mpair (ret (.str "plain")) (bnd (mcons (bnd (mcons (ret (.int 1)) (mcons (ret (.int 1)) (ret []))) (callF mk_Share)) (mcons (bnd (mcons (ret (.int 0)) (mcons (ret (.int 1)) (ret []))) (callF mk_Share)) (ret []))) (callF mk_Scale)) (ret []))))) (ret [])) (callF mk_Scales)) (setU 16)) (seqM (mIf (mIf (tst (o2 dNe (meA ma_key_0 (meA ma_told_3 (gv 16) (mcons (gv 3) (mcons (ret (.str "one")) (mcons (ret (.str "two")) (ret []))))) (ret [])) (gv 6))) (ret true) (tst (o2 dNe (meA ma_key_0 (meA ma_told_3 (gv 16) (mcons (gv 3) (mcons (ret (.str "one")) (mcons (ret (.str "plain")) (ret []))))) (ret [])) (gv 4)))) (retM (ret (.bl false))) (nxM)) (seqM (mIf (tst (o2 dNe (meA ma_key_0 (meA ma_gap_3 (gv 16) (mcons (gv 3) (mcons (ret (.str "one")) (mcons (ret (.str "two")) (ret []))))) (ret [])) (bnd (mcons (bnd (mcons (meA ma_key_0 (gv 3) (ret [])) (mcons (meA ma_key_0 (o1 (dFld al_factor) (gv 1)) (ret [])) (ret []))) (callF f__law_times)) (mcons (meA ma_key_0 (o1 (dFld al_factor) (gv 2)) (ret [])) (ret []))) (callF f__law_over)))) (retM (ret (.bl false))) (nxM)) (seqM (par2 9 10 (mcons (bnd (mcons (o2 dAdd (ret (.int 1)) (pinned 0 (bnd (mcons (ret (.int 5)) (ret [])) (call1 0 f__law_roll)))) (mcons (ret (.int 2)) (ret []))) (callF mk_Share)) (mcons (meA ma_plus_1 (gv 3) (mcons (bnd (mcons (pinned 0 (bnd (mcons (ret (.int 9)) (ret [])) (call1 0 f__law_roll))) (mcons (ret (.int 1)) (ret []))) (callF mk_Share)) (ret []))) (ret [])))) (seqM (asgM (meA ma_table_5 (gv 16) (mcons (ret (.str "one")) (mcons (ret (.str "two")) (mcons (gv 3) (mcons (gv 10) (mcons (gv 9) (ret []))))))) (setU 11)) (seqM (parDO 12 13 (meA ma_key_0 (gv 3) (ret [])) (mlo (ret []))) (seqM (bnd (rng1 (mcons (ret (.int 20)) (ret []))) (forM (setU 14) (seqM (mIf (mNot (tst (bnd (mcons (meA ma_key_0 (gv 10) (ret [])) (mcons (gv 12) (ret []))) (callF f__law_is_less)))) (appM 13 (mtup (mcons (gv 12) (mcons (meA ma_key_0 (meA ma_told_3 (gv 16) (mcons (bnd (mcons (ixNm 12 dIxA (ret (.int 0))) (mcons (ixNm 12 dIxA (ret (.int 1))) (ret []))) (callF mk_Share)) (mcons (ret (.str "one")) (mcons (ret (.str "two")) (ret []))))) (ret [])) (ret []))))) (nxM)) (asgM (bnd (mcons (gv 12) (mcons (meA ma_key_0 (gv 9) (ret [])) (ret []))) (callF f__law_plus)) (setU 12))))) (seqM (mIf (tst (o2 dNe (bnd (lcM [17, 18] (gtupU 2 (gconsU (setU 17) (gconsU (setU 18) (gnilU)))) (ret true) (mtup (mcons (meA ma_key_0 (gv 17) (ret [])) (mcons (meA ma_key_0 (gv 18) (ret [])) (ret [])))) (lstM (gv 11))) fun l => ret (.lst l)) (gv 13))) (retM (ret (.bl false))) (nxM)) (seqM (asgM (o2 dGt (o2 dMul (o1 (dFld al_top) (o1 (dFld al_factor) (gv 1))) (o1 (dFld al_top) (o1 (dFld al_factor) (gv 2)))) (ret (.int 0))) (setU 15)) (seqM (mIf (tst (o2 dNe (meA ma_rises_2 (gv 16) (mcons (ret (.str "one")) (mcons (ret (.str "two")) (ret [])))) (gv 15))) (retM (ret (.bl false))) (nxM)) (seqM (mIf (tst (o2 dNe (toldM toldTab (meA ma_key_0 (meA ma_meet_2 (gv 16) (mcons (ret (.str "one")) (mcons (ret (.str "two")) (ret [])))) (ret []))) (mIf (tst (o2 (dEqT csT) (gv 7) (ret (.str "no way")))) (gv 7) (meA ma_key_0 (gv 7) (ret []))))) (retM (ret (.bl false))) (nxM)) (seqM (mIf (mNot (tst (pinned 0 (bnd (mcons (gv 1) (mcons (gv 3) (mcons (gv 8) (mcons (gv 16) (mcons (gv 10) (mcons (gv 14) (ret []))))))) (call1 0 f__law_rest1))))) (retM (ret (.bl false))) (nxM)) (retM (ret (.bl true))))))))))))))))))))))
def f__law_rest2 : FD1 := run1 5 19 m__law_rest2
def m_law : M Fl := seqM (par2 2 3 (mcons (pinned 1 (bnd (ret []) (call1 1 f__law_scale))) (mcons (pinned 1 (bnd (ret []) (call1 1 f__law_scale))) (ret [])))) (seqM (asgM (pinned 1 (bnd (mcons (o2 dSub (ret (.int 0)) (ret (.int 60))) (mcons (ret (.int 60)) (mcons (ret (.int 6)) (ret [])))) (call1 1 f__law_share))) (setU 4)) (seqM (asgM (bnd (mcons (bnd (mcons (meA ma_key_0 (gv 4) (ret [])) (mcons (meA ma_key_0 (o1 (dFld al_factor) (gv 2)) (ret [])) (ret []))) (callF f__law_times)) (mcons (meA ma_key_0 (o1 (dFld al_start) (gv 2)) (ret [])) (ret []))) (callF f__law_plus)) (setU 5)) (seqM (mIf (mIf (tst (o2 dNe (meA ma_key_0 (meA ma_plain_1 (gv 2) (mcons (gv 4) (ret []))) (ret [])) (gv 5))) (ret true) (tst (o2 dNe (meA ma_key_0 (meA ma_mark_1 (gv 2) (mcons (meA ma_plain_1 (gv 2) (mcons (gv 4) (ret []))) (ret []))) (ret [])) (meA ma_key_0 (gv 4) (ret []))))) (retM (ret (.bl false))) (nxM)) (seqM (mIf (tst (o2 dNe (meA ma_key_0 (meA ma_step_1 (gv 2) (mcons (gv 4) (ret []))) (ret [])) (bnd (mcons (meA ma_key_0 (gv 4) (ret [])) (mcons (meA ma_key_0 (o1 (dFld al_factor) (gv 2)) (ret [])) (ret []))) (callF f__law_times)))) (retM (ret (.bl false))) (nxM)) (seqM (asgM (meA ma_told_by_1 (gv 2) (mcons (gv 3) (ret []))) (setU 6)) (seqM (mIf (tst (o2 dNe (meA ma_key_0 (meA ma_plain_1 (gv 6) (mcons (gv 4) (ret []))) (ret [])) (meA ma_key_0 (meA ma_plain_1 (gv 3) (mcons (meA ma_plain_1 (gv 2) (mcons (gv 4) (ret []))) (ret []))) (ret [])))) (retM (ret (.bl false))) (nxM)) (seqM (mIf (tst (o2 dNe (meA ma_key_0 (meA ma_plain_1 (meA ma_turned_0 (gv 2) (ret [])) (mcons (gv 4) (ret []))) (ret [])) (meA ma_key_0 (meA ma_mark_1 (gv 2) (mcons (gv 4) (ret []))) (ret [])))) (retM (ret (.bl false))) (nxM)) (seqM (mIf (tst (o2 dNe (meA ma_key_0 (meA ma_turned_0 (meA ma_turned_0 (gv 2) (ret [])) (ret [])) (ret [])) (meA ma_key_0 (gv 2) (ret [])))) (retM (ret (.bl false))) (nxM)) (mIf (mNot (tst (pinned 1 (bnd (mcons (gv 2) (mcons (gv 3) (mcons (gv 4) (mcons (gv 5) (ret []))))) (call1 1 f__law_rest2))))) (retM (ret (.bl false))) (nxM))))))))))
end LW
set_option Elab.async false
set_option linter.all false
set_option maxRecDepth 100000
set_option maxHeartbeats 4000000
set_option autoImplicit false
namespace LW
open PySem PySem.Spec PyProof.Rows L2 LamX DL
section
variable {mas : M (List D)} {e : DL.Env} {PD : D → DL.Env → Prop} {X : Nat → DL.Env → Prop}
@[simp ↓] theorem di_key_0_Scale_Share {l : List D} : disp ma_key_0_Scale mas X PD (.obj 9 l) e = wp mas e (fun ds e => wp (callF f_Share_key (.obj 9 l :: ds)) e PD X) X := rfl
@[simp ↓] theorem di_key_0_Scale_sh {q : Rat} : disp ma_key_0_Scale mas X PD (sh q) e = wp mas e (fun ds e => wp (callF f_Share_key (sh q :: ds)) e PD X) X := rfl
@[simp ↓] theorem di_times_1_Share {l : List D} : disp ma_times_1 mas X PD (.obj 9 l) e = wp mas e (fun ds e => wp (callF f_Share_times (.obj 9 l :: ds)) e PD X) X := rfl
@[simp ↓] theorem di_times_1_sh {q : Rat} : disp ma_times_1 mas X PD (sh q) e = wp mas e (fun ds e => wp (callF f_Share_times (sh q :: ds)) e PD X) X := rfl
@[simp ↓] theorem di_plus_1_Share {l : List D} : disp ma_plus_1 mas X PD (.obj 9 l) e = wp mas e (fun ds e => wp (callF f_Share_plus (.obj 9 l :: ds)) e PD X) X := rfl
@[simp ↓] theorem di_plus_1_sh {q : Rat} : disp ma_plus_1 mas X PD (sh q) e = wp mas e (fun ds e => wp (callF f_Share_plus (sh q :: ds)) e PD X) X := rfl
@[simp ↓] theorem di_less_1_Share {l : List D} : disp ma_less_1 mas X PD (.obj 9 l) e = wp mas e (fun ds e => wp (callF f_Share_less (.obj 9 l :: ds)) e PD X) X := rfl
@[simp ↓] theorem di_less_1_sh {q : Rat} : disp ma_less_1 mas X PD (sh q) e = wp mas e (fun ds e => wp (callF f_Share_less (sh q :: ds)) e PD X) X := rfl
@[simp ↓] theorem di_over_1_Share {l : List D} : disp ma_over_1 mas X PD (.obj 9 l) e = wp mas e (fun ds e => wp (callF f_Share_over (.obj 9 l :: ds)) e PD X) X := rfl
@[simp ↓] theorem di_over_1_sh {q : Rat} : disp ma_over_1 mas X PD (sh q) e = wp mas e (fun ds e => wp (callF f_Share_over (sh q :: ds)) e PD X) X := rfl
@[simp ↓] theorem di_told_by_1_Scale {l : List D} : disp ma_told_by_1 mas X PD (.obj 10 l) e = wp mas e (fun ds e => wp (callF f_Scale_told_by (.obj 10 l :: ds)) e PD X) X := rfl
@[simp ↓] theorem di_turned_0_Scale {l : List D} : disp ma_turned_0 mas X PD (.obj 10 l) e = wp mas e (fun ds e => wp (callF f_Scale_turned (.obj 10 l :: ds)) e PD X) X := rfl
@[simp ↓] theorem di_order_1_Share {l : List D} : disp ma_order_1 mas X PD (.obj 9 l) e = wp mas e (fun ds e => wp (callF f_Share_order (.obj 9 l :: ds)) e PD X) X := rfl
@[simp ↓] theorem di_order_1_sh {q : Rat} : disp ma_order_1 mas X PD (sh q) e = wp mas e (fun ds e => wp (callF f_Share_order (sh q :: ds)) e PD X) X := rfl
@[simp ↓] theorem di_scale_of_1_Scales {l : List D} : disp ma_scale_of_1 mas X PD (.obj 11 l) e = wp mas e (fun ds e => wp (callF f_Scales_scale_of (.obj 11 l :: ds)) e PD X) X := rfl
@[simp ↓] theorem di_mark_1_Scale {l : List D} : disp ma_mark_1 mas X PD (.obj 10 l) e = wp mas e (fun ds e => wp (callF f_Scale_mark (.obj 10 l :: ds)) e PD X) X := rfl
@[simp ↓] theorem di_plain_1_Scale {l : List D} : disp ma_plain_1 mas X PD (.obj 10 l) e = wp mas e (fun ds e => wp (callF f_Scale_plain (.obj 10 l :: ds)) e PD X) X := rfl
@[simp ↓] theorem di_step_1_Scale {l : List D} : disp ma_step_1 mas X PD (.obj 10 l) e = wp mas e (fun ds e => wp (callF f_Scale_step (.obj 10 l :: ds)) e PD X) X := rfl
@[simp ↓] theorem di_told_3_Scales {l : List D} : disp ma_told_3 mas X PD (.obj 11 l) e = wp mas e (fun ds e => wp (callF f_Scales_told (.obj 11 l :: ds)) e PD X) X := rfl
@[simp ↓] theorem di_is_whole_0_Share {l : List D} : disp ma_is_whole_0 mas X PD (.obj 9 l) e = wp mas e (fun ds e => wp (callF f_Share_is_whole (.obj 9 l :: ds)) e PD X) X := rfl
@[simp ↓] theorem di_is_whole_0_sh {q : Rat} : disp ma_is_whole_0 mas X PD (sh q) e = wp mas e (fun ds e => wp (callF f_Share_is_whole (sh q :: ds)) e PD X) X := rfl
@[simp ↓] theorem di_table_5_Scales {l : List D} : disp ma_table_5 mas X PD (.obj 11 l) e = wp mas e (fun ds e => wp (callF f_Scales_table (.obj 11 l :: ds)) e PD X) X := rfl
@[simp ↓] theorem di_whole_marks_4_Scales {l : List D} : disp ma_whole_marks_4 mas X PD (.obj 11 l) e = wp mas e (fun ds e => wp (callF f_Scales_whole_marks (.obj 11 l :: ds)) e PD X) X := rfl
@[simp ↓] theorem di_key_0_Share {l : List D} : disp ma_key_0 mas X PD (.obj 9 l) e = wp mas e (fun ds e => wp (callF f_Share_key (.obj 9 l :: ds)) e PD X) X := rfl
@[simp ↓] theorem di_key_0_sh {q : Rat} : disp ma_key_0 mas X PD (sh q) e = wp mas e (fun ds e => wp (callF f_Share_key (sh q :: ds)) e PD X) X := rfl
@[simp ↓] theorem di_key_0_Scale {l : List D} : disp ma_key_0 mas X PD (.obj 10 l) e = wp mas e (fun ds e => wp (callF f_Scale_key (.obj 10 l :: ds)) e PD X) X := rfl
@[simp ↓] theorem di_gap_3_Scales {l : List D} : disp ma_gap_3 mas X PD (.obj 11 l) e = wp mas e (fun ds e => wp (callF f_Scales_gap (.obj 11 l :: ds)) e PD X) X := rfl
@[simp ↓] theorem di_rises_2_Scales {l : List D} : disp ma_rises_2 mas X PD (.obj 11 l) e = wp mas e (fun ds e => wp (callF f_Scales_rises (.obj 11 l :: ds)) e PD X) X := rfl
@[simp ↓] theorem di_meet_2_Scales {l : List D} : disp ma_meet_2 mas X PD (.obj 11 l) e = wp mas e (fun ds e => wp (callF f_Scales_meet (.obj 11 l :: ds)) e PD X) X := rfl
@[simp ↓] theorem fd_factor_10 {x0 x1 : D} : wp (lift (dFld al_factor (.obj 10 [x0, x1]))) e PD X = PD x0 e := rfl
@[simp ↓] theorem fd_rows_11 {x0 : D} : wp (lift (dFld al_rows (.obj 11 [x0]))) e PD X = PD x0 e := rfl
@[simp ↓] theorem fd_start_10 {x0 x1 : D} : wp (lift (dFld al_start (.obj 10 [x0, x1]))) e PD X = PD x1 e := rfl
@[simp] theorem tl_BadKind : toldTab.lookup 3 = some "kind" := rfl
@[simp] theorem tl_BadName : toldTab.lookup 1 = some "name" := rfl
@[simp] theorem tl_BadNumber : toldTab.lookup 2 = some "number" := rfl
@[simp] theorem tl_BadRule : toldTab.lookup 4 = some "rule" := rfl
@[simp] theorem tl_NoSuch : toldTab.lookup 5 = some "no such" := rfl
@[simp] theorem tl_NoWay : toldTab.lookup 6 = some "no way" := rfl
@[simp] theorem tl_TooLarge : toldTab.lookup 7 = some "large" := rfl
@[simp] theorem tl_BadText : toldTab.lookup 8 = some "text" := rfl
end
end LW
set_option Elab.async false
set_option linter.all false
set_option maxRecDepth 100000
set_option maxHeartbeats 4000000
set_option autoImplicit false
namespace LW
open PySem PySem.Spec PyProof.Rows L2 LamX DL
/-! # shares -/
def dl (a b c : Int) : List D := [.int a, .int b, .int c]
section
variable {env e : DL.Env} {PD : D → DL.Env → Prop} {X : Nat → DL.Env → Prop}
@[simp ↓] theorem wl_top {q : Rat} : wp (lift (dFld al_top (sh q))) env PD X = PD (.int q.num) env := rfl
@[simp ↓] theorem wl_bottom {q : Rat} : wp (lift (dFld al_bottom (sh q))) env PD X = PD (.int q.den) env := rfl
@[simp ↓] theorem wl_lp0 {q : Rat} : wp (lift (dIxA (lp q) (.int 0))) env PD X = PD (.int q.num) env := rfl
@[simp ↓] theorem wl_lp1 {q : Rat} : wp (lift (dIxA (lp q) (.int 1))) env PD X = PD (.int q.den) env := rfl
end
theorem natAbs_if (i : Int) : (if i < 0 then -i else i) = (i.natAbs : Int) := by omega
/-- Euclid's turns -/
theorem gcd_turns : ∀ (n fuel : Nat) (a b : Nat), b < 2 ^ n → 2 * n + 1 ≤ fuel →
    whileM (tst (o2 dNe (gv 1) (ret (.int 0)))) (par2 0 1 (mcons (gv 1) (mcons (o2 dMod (gv 0) (gv 1)) (ret [])))) fuel [.im (.int a), .im (.int b)] = .ok .nx [.im (.int (Nat.gcd a b)), .im (.int 0)] := by
  have step : ∀ (fuel : Nat) (a b : Nat), b ≠ 0 → whileM (tst (o2 dNe (gv 1) (ret (.int 0)))) (par2 0 1 (mcons (gv 1) (mcons (o2 dMod (gv 0) (gv 1)) (ret [])))) (fuel + 1) [.im (.int a), .im (.int b)] =
      whileM (tst (o2 dNe (gv 1) (ret (.int 0)))) (par2 0 1 (mcons (gv 1) (mcons (o2 dMod (gv 0) (gv 1)) (ret [])))) fuel [.im (.int b), .im (.int (a % b : Nat))] := by
    intro fuel a b hb
    have hb' : (0 : Int) < b := by omega
    have h1 : (tst (o2 dNe (gv 1) (ret (.int 0)))) [.im (.int a), .im (.int b)] = .ok true [.im (.int a), .im (.int b)] := by
      obtain ⟨k, e, h1, h2⟩ := wp_get (m := tst (o2 dNe (gv 1) (ret (.int 0)))) (env := [.im (.int a), .im (.int b)]) (P := fun k e => k = true ∧ e = [.im (.int a), .im (.int b)]) (by simp; omega)
      rw [h1, h2.1, h2.2]
    have h2 : (par2 0 1 (mcons (gv 1) (mcons (o2 dMod (gv 0) (gv 1)) (ret [])))) [.im (.int a), .im (.int b)] = .ok .nx [.im (.int b), .im (.int (a % b : Nat))] := by
      obtain ⟨k, e, h1, h2⟩ := wp_get (m := par2 0 1 (mcons (gv 1) (mcons (o2 dMod (gv 0) (gv 1)) (ret [])))) (env := [.im (.int a), .im (.int b)]) (P := fun k e => k = .nx ∧ e = [.im (.int b), .im (.int (a % b : Nat))]) (by simp; omega)
      rw [h1, h2.1, h2.2]
    show bnd _ _ _ = _
    unfold bnd
    rw [h1]
    dsimp only
    rw [if_pos rfl]
    show bnd _ _ _ = _
    unfold bnd
    rw [h2]
  have zero : ∀ (fuel : Nat) (a : Nat), whileM (tst (o2 dNe (gv 1) (ret (.int 0)))) (par2 0 1 (mcons (gv 1) (mcons (o2 dMod (gv 0) (gv 1)) (ret [])))) (fuel + 1) [.im (.int a), .im (.int 0)] = .ok .nx [.im (.int a), .im (.int 0)] := fun fuel a => by
    have h1 : (tst (o2 dNe (gv 1) (ret (.int 0)))) [.im (.int a), .im (.int 0)] = .ok false [.im (.int a), .im (.int 0)] := by
      obtain ⟨k, e, h1, h2⟩ := wp_get (m := tst (o2 dNe (gv 1) (ret (.int 0)))) (env := [.im (.int a), .im (.int 0)]) (P := fun k e => k = false ∧ e = [.im (.int a), .im (.int 0)]) (by simp)
      rw [h1, h2.1, h2.2]
    show bnd _ _ _ = _
    unfold bnd
    rw [h1]
    rfl
  intro n
  induction n with
  | zero =>
    intro fuel a b hb hf
    have : b = 0 := by simpa using hb
    subst this
    obtain ⟨f, rfl⟩ : ∃ f, fuel = f + 1 := ⟨fuel - 1, by omega⟩
    rw [Nat.gcd_zero_right]
    exact zero f a
  | succ n ih =>
    intro fuel a b hb hf
    obtain ⟨f, rfl⟩ : ∃ f, fuel = f + 2 := ⟨fuel - 2, by omega⟩
    by_cases h0 : b = 0
    · subst h0; rw [Nat.gcd_zero_right]; exact zero (f + 1) a
    · rw [step (f + 1) a b h0]
      by_cases h1 : a % b = 0
      · rw [h1]
        have : Nat.gcd a b = b := by rw [Nat.gcd_comm, Nat.gcd_rec, h1, Nat.gcd_zero_left]
        rw [this]
        exact zero f b
      · rw [step f b (a % b) h1]
        have e : Nat.gcd (a % b) (b % (a % b)) = Nat.gcd a b := by
          rw [Nat.gcd_comm a b, Nat.gcd_rec b a, Nat.gcd_rec (a % b) b, Nat.gcd_comm]
        rw [← e]
        refine ih f _ _ ?_ (by omega)
        have l1 : a % b < b := Nat.mod_lt _ (by omega)
        have l2 : b % (a % b) < a % b := Nat.mod_lt _ (by omega)
        have l3 : b % (a % b) + (a % b) ≤ b := by
          have := Nat.div_add_mod b (a % b)
          have h3 : 1 ≤ b / (a % b) := Nat.div_pos (by omega) (by omega)
          have h4 : (a % b) * 1 ≤ (a % b) * (b / (a % b)) := Nat.mul_le_mul_left _ h3
          omega
        rw [Nat.pow_succ] at hb
        omega
theorem shared_ok {a b : Int} (hb : b.natAbs < 2 ^ 250) : f_shared_part [.int a, .int b] = .ok (.int (Int.gcd a b)) := by
  refine runF_ok rfl ?_
  have h := gcd_turns 250 4000 a.natAbs b.natAbs hb (by decide)
  simp [m_shared_part, env0, natAbs_if, wp_ok h, Int.gcd]

/-! ## sizes: bits of the bottom, bits of the worth -/
class Sz (d m : outParam Nat) (q : Rat) : Prop where
  den : q.den < 2 ^ d
  mag : q.num.natAbs < 2 ^ m * q.den
theorem Sz.num {d m : Nat} {q : Rat} (h : Sz d m q) : q.num.natAbs < 2 ^ (m + d) := by
  rw [Nat.pow_add]
  exact Nat.lt_of_lt_of_le h.mag (Nat.mul_le_mul_left _ (Nat.le_of_lt h.den))
theorem two_le {d m : Nat} {q : Rat} (h : Sz d m q) : 0 < d := by
  have := h.den
  have h1 := q.den_pos
  cases d with
  | zero => simp at this; omega
  | succ n => omega
theorem dv_cross {a b : Int} (hb : b ≠ 0) : (Rat.divInt a b).num * b = a * (Rat.divInt a b).den := by
  have h := Rat.num_divInt_den (Rat.divInt a b)
  exact (Rat.divInt_eq_divInt_iff (by have := (Rat.divInt a b).den_pos; omega) hb).mp h
theorem sz_divInt {a b : Int} {d m : Nat} (h0 : b ≠ 0) (hb : b.natAbs < 2 ^ d) (ha : a.natAbs < 2 ^ m * b.natAbs) : Sz d m (Rat.divInt a b) := by
  constructor
  · rw [Rat.den_divInt, if_neg h0]
    exact Nat.lt_of_le_of_lt (Nat.div_le_self _ _) hb
  · have h := congrArg Int.natAbs (dv_cross (a := a) h0)
    rw [Int.natAbs_mul, Int.natAbs_mul] at h
    have h1 : (Rat.divInt a b).num.natAbs * b.natAbs < 2 ^ m * (Rat.divInt a b).den * b.natAbs := by
      rw [h]
      have h2 := Nat.mul_lt_mul_of_pos_right ha (show 0 < (Rat.divInt a b).den from (Rat.divInt a b).den_pos)
      have e : 2 ^ m * (Rat.divInt a b).den * b.natAbs = 2 ^ m * b.natAbs * (Rat.divInt a b).den := Nat.mul_right_comm ..
      rw [e]
      exact h2
    exact Nat.lt_of_mul_lt_mul_right h1
theorem mul_lt_pow {a b : Int} {n m : Nat} (ha : a.natAbs < 2 ^ n) (hb : b.natAbs < 2 ^ m) : (a * b).natAbs < 2 ^ (n + m) := by
  rw [Int.natAbs_mul, Nat.pow_add]
  exact Nat.mul_lt_mul'' ha hb
theorem pow_mono {x n m : Nat} (h : x < 2 ^ n) (hm : n ≤ m) : x < 2 ^ m := Nat.lt_of_lt_of_le h (Nat.pow_le_pow_right (by decide) hm)
theorem den_abs (q : Rat) : (q.den : Int).natAbs = q.den := rfl
section
variable {p q : Rat} {d m d' m' : Nat}
theorem add_div (p q : Rat) : Rat.divInt (p.num * q.den + q.num * p.den) (p.den * q.den) = p + q := by
  rw [Rat.add_def', ← Rat.divInt_ofNat]; simp
theorem sub_div (p q : Rat) : Rat.divInt (p.num * q.den - q.num * p.den) (p.den * q.den) = p - q := by
  rw [Rat.sub_def', ← Rat.divInt_ofNat]; simp
theorem mul_div (p q : Rat) : Rat.divInt (p.num * q.num) (p.den * q.den) = p * q := by
  rw [Rat.mul_def', ← Rat.divInt_ofNat]; simp
theorem div_div (p q : Rat) : Rat.divInt (p.num * q.den) (p.den * q.num) = p / q := by
  rw [Rat.div_def, Rat.inv_def, ← Rat.divInt_mul_divInt, Rat.num_divInt_den]
theorem dd_pos (p q : Rat) : ((p.den : Int) * q.den) ≠ 0 := Int.mul_ne_zero (by have := p.den_pos; omega) (by have := q.den_pos; omega)
theorem pow_split {a b n m : Nat} (h : n ≤ m) (ha : a < 2 ^ n * b) : a < 2 ^ m * b := Nat.lt_of_lt_of_le ha (Nat.mul_le_mul_right _ (Nat.pow_le_pow_right (by decide) h))
theorem Sz.mono (h : Sz d m p) (hd : d ≤ d') (hm : m ≤ m') : Sz d' m' p := ⟨pow_mono h.den hd, pow_split hm h.mag⟩
/-- two of m bits and fewer: one more -/
theorem two_sum {x y a b M : Nat} (hx : x < 2 ^ M * a) (hy : y < 2 ^ M * b) : x * b + y * a < 2 ^ (M + 1) * (a * b) := by
  have ha : 0 < a := by
    rcases Nat.eq_zero_or_pos a with e | e
    · subst e; simp at hx
    · exact e
  have hb : 0 < b := by
    rcases Nat.eq_zero_or_pos b with e | e
    · subst e; simp at hy
    · exact e
  have h1 : x * b < 2 ^ M * (a * b) := by
    have := Nat.mul_lt_mul_of_pos_right hx hb
    rwa [Nat.mul_assoc] at this
  have h2 : y * a < 2 ^ M * (a * b) := by
    have := Nat.mul_lt_mul_of_pos_right hy ha
    rwa [Nat.mul_assoc, Nat.mul_comm b a] at this
  rw [Nat.pow_succ, Nat.mul_comm (2 ^ M) 2, Nat.mul_assoc]
  omega
theorem sz_acc (h : Sz d m p) (h' : Sz d' m' q) (hm : m' ≤ m) : Sz (d + d') (m + 1) (p + q) := by
  rw [← add_div]
  refine sz_divInt (dd_pos p q) (mul_lt_pow (a := p.den) (b := q.den) h.den h'.den) ?_
  have h1 := two_sum h.mag (pow_split hm h'.mag)
  rw [Int.natAbs_mul, den_abs, den_abs]
  refine Nat.lt_of_le_of_lt (Int.natAbs_add_le _ _) ?_
  rw [Int.natAbs_mul, Int.natAbs_mul, den_abs, den_abs]
  exact h1
theorem sz_neg (h : Sz d m q) : Sz d m (-q) := ⟨by rw [Rat.neg_den]; exact h.den, by rw [Rat.neg_den, Rat.neg_num, Int.natAbs_neg]; exact h.mag⟩
theorem sz_dif (h : Sz d m p) (h' : Sz d' m' q) (hm : m' ≤ m) : Sz (d + d') (m + 1) (p - q) := by
  rw [Rat.sub_eq_add_neg]
  exact sz_acc h (sz_neg h') hm
theorem sz_dif2 (h : Sz d m p) (h' : Sz d' m' q) (hm : m ≤ m') : Sz (d + d') (m' + 1) (p - q) := sz_dif (h.mono (Nat.le_refl _) hm) h' (Nat.le_refl _)
instance sz_add [h : Sz d m p] [h' : Sz d' m' q] : Sz (d + d') (m + m' + 1) (p + q) := sz_acc (h.mono (Nat.le_refl _) (by omega)) h' (by omega)
instance sz_sub [h : Sz d m p] [h' : Sz d' m' q] : Sz (d + d') (m + m' + 1) (p - q) := sz_dif (h.mono (Nat.le_refl _) (by omega)) h' (by omega)
instance sz_mul [h : Sz d m p] [h' : Sz d' m' q] : Sz (d + d') (m + m') (p * q) := by
  rw [← mul_div]
  refine sz_divInt (dd_pos p q) (mul_lt_pow (a := p.den) (b := q.den) h.den h'.den) ?_
  rw [Int.natAbs_mul, Int.natAbs_mul, den_abs, den_abs, Nat.pow_add]
  have := Nat.mul_lt_mul'' h.mag h'.mag
  have e : 2 ^ m * 2 ^ m' * (p.den * q.den) = 2 ^ m * p.den * (2 ^ m' * q.den) := by
    rw [Nat.mul_mul_mul_comm]
  rw [e]; exact this
instance sz_zero : Sz 1 0 0 := ⟨by decide, by decide⟩
instance sz_one : Sz 1 1 1 := ⟨by decide, by decide⟩
instance sz_div [h : Sz d m p] [h' : Sz d' m' q] : Sz (d + (m' + d')) (m + d') (p / q) := by
  by_cases h0 : q = 0
  · subst h0
    rw [Rat.div_def, Rat.inv_zero, Rat.mul_zero]
    exact sz_zero.mono (by have := two_le h; omega) (by omega)
  · have hn : q.num ≠ 0 := fun e => h0 (Rat.num_eq_zero.mp e)
    rw [← div_div]
    refine sz_divInt (Int.mul_ne_zero (by have := p.den_pos; omega) hn) (mul_lt_pow (a := p.den) h.den h'.num) ?_
    rw [Int.natAbs_mul, Int.natAbs_mul, den_abs, den_abs, Nat.pow_add]
    have h1 : p.num.natAbs * q.den < 2 ^ m * p.den * 2 ^ d' := Nat.mul_lt_mul'' h.mag h'.den
    have h2 : 1 ≤ q.num.natAbs := by omega
    have h3 : 2 ^ m * p.den * 2 ^ d' = 2 ^ m * 2 ^ d' * p.den := Nat.mul_right_comm ..
    rw [h3] at h1
    refine Nat.lt_of_lt_of_le h1 ?_
    have h4 := Nat.mul_le_mul_left (2 ^ m * 2 ^ d' * p.den) h2
    rw [Nat.mul_one, Nat.mul_assoc] at h4
    rw [← Nat.mul_assoc] at h4
    have e : 2 ^ m * 2 ^ d' * p.den * q.num.natAbs = 2 ^ m * 2 ^ d' * (p.den * q.num.natAbs) := Nat.mul_assoc ..
    omega
end
theorem cmul_of {a b : Int} {n m : Nat} (ha : a.natAbs < 2 ^ n) (hb : b.natAbs < 2 ^ m) (h : n + m ≤ 900000) : CMulA a b := by
  refine .inr (.inr ?_)
  unfold CMulW
  have h1 : a.natAbs.log2 ≤ n := by
    by_cases h0 : a.natAbs = 0
    · rw [h0]; simp
    · exact Nat.le_of_lt ((Nat.log2_lt h0).mpr ha)
  have h2 : b.natAbs.log2 ≤ m := by
    by_cases h0 : b.natAbs = 0
    · rw [h0]; simp
    · exact Nat.le_of_lt ((Nat.log2_lt h0).mpr hb)
  omega
theorem cdiv_of {a b : Int} {n : Nat} (hb : b.natAbs < 2 ^ n) (h0 : 0 < b) (h : n ≤ 9000) : CDivW a b := ⟨h0, by
  have h1 : b.natAbs.log2 < n := (Nat.log2_lt (by omega)).mpr hb
  omega⟩
/-! ## Share(a, b) -/
theorem cmul_sign {a b : Int} : CMulA (if b < 0 then -1 else 1) a := .inl (by split <;> decide)
theorem gcd_pos' {a b : Int} (h0 : b ≠ 0) : 0 < (Int.gcd a b : Int) := by
  have := Int.gcd_pos_of_ne_zero_right a h0
  omega
theorem init_ok {a b : Int} (hb : b.natAbs < 2 ^ 250) (h0 : b ≠ 0) : f_Share___init__ (.sf cSh []) [.int a, .int b] = .ok .non (.sf cSh [.int (Rat.divInt a b).num, .int (Rat.divInt a b).den]) := by
  refine run1_ok rfl rfl ?_
  have hg : CDivW ((if b < 0 then -1 else 1) * a) (Int.gcd a b) := cdiv_of (n := 250) (Nat.lt_of_le_of_lt (by have := Int.gcd_le_natAbs_right a h0; simpa using this) hb) (gcd_pos' h0) (by decide)
  have hg2 : CDivW ((if b < 0 then -1 else 1) * b) (Int.gcd a b) := ⟨hg.1, hg.2⟩
  have c1 := cmul_sign (a := a) (b := b)
  have c2 := cmul_sign (a := b) (b := b)
  have e1 : (if b < 0 then -1 else 1) * a / (Int.gcd a b : Int) = (Rat.divInt a b).num := by
    rw [Rat.num_divInt, Int.gcd_comm]
    congr 2
    rcases Int.lt_trichotomy b 0 with h | h | h
    · rw [if_pos h, Int.sign_eq_neg_one_of_neg h]
    · exact absurd h h0
    · rw [if_neg (by omega), Int.sign_eq_one_of_pos h]
  have e2 : (if b < 0 then -1 else 1) * b / (Int.gcd a b : Int) = ((Rat.divInt a b).den : Int) := by
    rw [Rat.den_divInt, if_neg h0, Int.gcd_comm]
    have : (if b < 0 then -1 else 1) * b = (b.natAbs : Int) := by split <;> omega
    rw [this]
    exact (Int.natCast_ediv _ _).symm
  have hsg : ∀ {P : Int → Prop}, P (if b < 0 then -1 else 1) → (b < 0 → P (-1)) ∧ (0 ≤ b → P 1) := fun {P} h => ⟨fun hb => by rw [if_pos hb] at h; exact h, fun hb => by rw [if_neg (by omega)] at h; exact h⟩
  by_cases hb0 : b < 0
  · simp only [hb0, if_true] at hg hg2 c1 c2 e1 e2
    simp only [m_Share___init__, env0, List.map_cons, List.map_nil, List.length_cons, List.length_nil, Nat.reduceAdd, Nat.reduceSub, List.replicate, List.cons_append, List.nil_append]
    simp only [Int.neg_mul, Int.one_mul] at hg hg2 e1 e2
    simp [h0, hb0, wp_callF (shared_ok hb), hg, hg2, c1, c2, e1, e2]
  · simp only [hb0, if_false] at hg hg2 c1 c2 e1 e2
    simp only [m_Share___init__, env0, List.map_cons, List.map_nil, List.length_cons, List.length_nil, Nat.reduceAdd, Nat.reduceSub, List.replicate, List.cons_append, List.nil_append]
    simp only [Int.neg_mul, Int.one_mul] at hg hg2 e1 e2
    simp [h0, hb0, wp_callF (shared_ok hb), hg, hg2, c1, c2, e1, e2]

theorem mk_ok {a b : Int} (hb : b.natAbs < 2 ^ 250) (h0 : b ≠ 0) : mk_Share [.int a, .int b] = .ok (sh (Rat.divInt a b)) := by
  unfold mk_Share mkF
  rw [show f_Share___init__ (Slot.sf cSh []) [.int a, .int b] = _ from init_ok hb h0]
  rfl
theorem init_err {a : Int} : f_Share___init__ (.sf cSh []) [.int a, .int 0] = .err 2 (.sf cSh []) := by
  refine run1_err rfl rfl ?_
  simp [m_Share___init__, env0]
theorem mk_err {a : Int} : mk_Share [.int a, .int 0] = .err 2 := by
  unfold mk_Share mkF
  rw [show f_Share___init__ (Slot.sf cSh []) [.int a, .int 0] = _ from init_err]
section
variable {env e : DL.Env} {PD : D → DL.Env → Prop} {X : Nat → DL.Env → Prop} {p q : Rat} {d m d' m' n : Nat} {a b : Int}
theorem wp_mk (hb : b.natAbs < 2 ^ 250) (h0 : b ≠ 0) : wp (callF mk_Share [.int a, .int b]) env PD X = PD (sh (Rat.divInt a b)) env := wp_callF (mk_ok hb h0)
@[simp ↓] theorem wp_mk0 : wp (callF mk_Share [.int a, .int 0]) env PD X = X 2 env := wp_callFe mk_err
@[simp ↓] theorem wp_mk1 : wp (callF mk_Share [.int a, .int 1]) env PD X = PD (sh a) env := by
  rw [wp_mk (by decide) (by decide)]
  congr 2
  exact Rat.ext (by rw [Rat.num_divInt]; simp) (by rw [Rat.den_divInt]; simp)
end
/-! ## the methods -/
section
variable {env e : DL.Env} {PD : D → DL.Env → Prop} {X : Nat → DL.Env → Prop} {p q : Rat} {d m d' m' n : Nat}
theorem key_ok (q : Rat) : f_Share_key [sh q] = .ok (lp q) := by
  refine runF_ok rfl ?_
  simp [m_Share_key, env0, lp]
@[simp ↓] theorem wp_key : wp (callF f_Share_key [sh q]) env PD X = PD (lp q) env := wp_callF (key_ok q)
theorem plus_ok (p q : Rat) [hp : Sz d m p] [hq : Sz d' m' q] (h : d + m + (d' + m') ≤ 240) : f_Share_plus [sh p, sh q] = .ok (sh (p + q)) := by
  refine runF_ok rfl ?_
  have c1 : CMulA p.num q.den := cmul_of hp.num (b := q.den) hq.den (by omega)
  have c2 : CMulA q.num p.den := cmul_of hq.num (b := p.den) hp.den (by omega)
  have c3 : CMulA p.den q.den := cmul_of (a := p.den) (b := q.den) hp.den hq.den (by omega)
  have hd : ((p.den : Int) * q.den).natAbs < 2 ^ 250 := pow_mono (mul_lt_pow (a := p.den) (b := q.den) hp.den hq.den) (by omega)
  simp [m_Share_plus, env0, c1, c2, c3, wp_mk hd (dd_pos p q), add_div]
theorem less_ok (p q : Rat) [hp : Sz d m p] [hq : Sz d' m' q] (h : d + m + (d' + m') ≤ 240) : f_Share_less [sh p, sh q] = .ok (sh (p - q)) := by
  refine runF_ok rfl ?_
  have c1 : CMulA p.num q.den := cmul_of hp.num (b := q.den) hq.den (by omega)
  have c2 : CMulA q.num p.den := cmul_of hq.num (b := p.den) hp.den (by omega)
  have c3 : CMulA p.den q.den := cmul_of (a := p.den) (b := q.den) hp.den hq.den (by omega)
  have hd : ((p.den : Int) * q.den).natAbs < 2 ^ 250 := pow_mono (mul_lt_pow (a := p.den) (b := q.den) hp.den hq.den) (by omega)
  simp [m_Share_less, env0, c1, c2, c3, wp_mk hd (dd_pos p q), sub_div]
theorem times_ok (p q : Rat) [hp : Sz d m p] [hq : Sz d' m' q] (h : d + m + (d' + m') ≤ 240) : f_Share_times [sh p, sh q] = .ok (sh (p * q)) := by
  refine runF_ok rfl ?_
  have c1 : CMulA p.num q.num := cmul_of hp.num hq.num (by omega)
  have c3 : CMulA p.den q.den := cmul_of (a := p.den) (b := q.den) hp.den hq.den (by omega)
  have hd : ((p.den : Int) * q.den).natAbs < 2 ^ 250 := pow_mono (mul_lt_pow (a := p.den) (b := q.den) hp.den hq.den) (by omega)
  simp [m_Share_times, env0, c1, c3, wp_mk hd (dd_pos p q), mul_div]
theorem num_ne {q : Rat} (h : q ≠ 0) : q.num ≠ 0 := fun e => h (Rat.num_eq_zero.mp e)
theorem over_ok (p q : Rat) [hp : Sz d m p] [hq : Sz d' m' q] (h : d + m + (d' + m') ≤ 240) (h0 : q ≠ 0) : f_Share_over [sh p, sh q] = .ok (sh (p / q)) := by
  refine runF_ok rfl ?_
  have c1 : CMulA p.num q.den := cmul_of hp.num (b := q.den) hq.den (by omega)
  have c3 : CMulA p.den q.num := cmul_of (a := p.den) hp.den hq.num (by omega)
  have hd : ((p.den : Int) * q.num).natAbs < 2 ^ 250 := pow_mono (mul_lt_pow (a := p.den) hp.den hq.num) (by omega)
  have h1 : (p.den : Int) * q.num ≠ 0 := Int.mul_ne_zero (by have := p.den_pos; omega) (num_ne h0)
  simp [m_Share_over, env0, c1, c3, wp_mk hd h1, div_div]
theorem over_err (p : Rat) [hp : Sz d m p] (h : d + m ≤ 240) : f_Share_over [sh p, sh 0] = .err 2 := by
  refine runF_err rfl ?_
  have c1 : CMulA p.num 1 := .inr (.inl (by decide))
  have c3 : CMulA p.den 0 := .inr (.inl (by decide))
  simp [m_Share_over, env0, c1, c3]
theorem order_ok (p q : Rat) [hp : Sz d m p] [hq : Sz d' m' q] (h : d + m + (d' + m') ≤ 240) : f_Share_order [sh p, sh q] = .ok (.int (if p = q then 0 else if q < p then 1 else -1)) := by
  refine runF_ok rfl ?_
  have c1 : CMulA p.num q.den := cmul_of hp.num (b := q.den) hq.den (by omega)
  have c2 : CMulA q.num p.den := cmul_of hq.num (b := p.den) hp.den (by omega)
  have e1 : (p = q) ↔ p.num * q.den - q.num * p.den = 0 := by rw [Rat.eq_iff_mul_eq_mul]; omega
  have e2 : (q < p) ↔ 0 < p.num * q.den - q.num * p.den := by rw [Rat.lt_iff]; omega
  simp only [m_Share_order, env0, List.map_cons, List.map_nil, List.length_cons, List.length_nil, Nat.reduceAdd, Nat.reduceSub, List.replicate, List.cons_append, List.nil_append]
  simp [c1, c2]
  by_cases h1 : p.num * q.den - q.num * p.den = 0
  · simp [h1, e1.mpr h1]
  · have h1' : ¬ p = q := fun z => h1 (e1.mp z)
    by_cases h2 : 0 < p.num * q.den - q.num * p.den
    · simp [h1, h1', e2.mpr h2]; omega
    · have h2' : ¬ q < p := fun z => h2 (e2.mp z)
      simp [h1, h1', h2']; omega
@[simp ↓] theorem wp_plus [hp : Sz d m p] [hq : Sz d' m' q] (h : d + m + (d' + m') ≤ 240) : wp (callF f_Share_plus [sh p, sh q]) env PD X = PD (sh (p + q)) env := wp_callF (plus_ok p q h)
@[simp ↓] theorem wp_less [hp : Sz d m p] [hq : Sz d' m' q] (h : d + m + (d' + m') ≤ 240) : wp (callF f_Share_less [sh p, sh q]) env PD X = PD (sh (p - q)) env := wp_callF (less_ok p q h)
@[simp ↓] theorem wp_times [hp : Sz d m p] [hq : Sz d' m' q] (h : d + m + (d' + m') ≤ 240) : wp (callF f_Share_times [sh p, sh q]) env PD X = PD (sh (p * q)) env := wp_callF (times_ok p q h)
@[simp ↓] theorem wp_over [hp : Sz d m p] [hq : Sz d' m' q] (h : d + m + (d' + m') ≤ 240) (h0 : q ≠ 0) : wp (callF f_Share_over [sh p, sh q]) env PD X = PD (sh (p / q)) env := wp_callF (over_ok p q h h0)
@[simp ↓] theorem wp_order [hp : Sz d m p] [hq : Sz d' m' q] (h : d + m + (d' + m') ≤ 240) : wp (callF f_Share_order [sh p, sh q]) env PD X = PD (.int (if p = q then 0 else if q < p then 1 else -1)) env := wp_callF (order_ok p q h)
end

/-! ## the law's own shares -/
theorem low_turns : ∀ (n : Nat) (ds : List D) (a b : Nat) (s0 s1 sk : Slot), sk.pin = false → b < 2 ^ n → 2 * n + 1 ≤ ds.length →
    ∃ x, forM (setU 4) (seqM (mIf (tst (o2 dEq (gv 3) (ret (.int 0)))) (ret .brk) (nxM)) (par2 2 3 (mcons (gv 3) (mcons (o2 dMod (gv 2) (gv 3)) (ret []))))) ds [s0, s1, .im (.int a), .im (.int b), sk] = .ok .nx [s0, s1, .im (.int (Nat.gcd a b)), .im (.int 0), .im x] := by
  have step : ∀ (d : D) (ds : List D) (a b : Nat) (s0 s1 sk : Slot), sk.pin = false → b ≠ 0 → forM (setU 4) (seqM (mIf (tst (o2 dEq (gv 3) (ret (.int 0)))) (ret .brk) (nxM)) (par2 2 3 (mcons (gv 3) (mcons (o2 dMod (gv 2) (gv 3)) (ret []))))) (d :: ds) [s0, s1, .im (.int a), .im (.int b), sk] =
      forM (setU 4) (seqM (mIf (tst (o2 dEq (gv 3) (ret (.int 0)))) (ret .brk) (nxM)) (par2 2 3 (mcons (gv 3) (mcons (o2 dMod (gv 2) (gv 3)) (ret []))))) ds [s0, s1, .im (.int b), .im (.int (a % b : Nat)), .im d] := by
    intro d ds a b s0 s1 sk hk hb
    have h0 : setU 4 d [s0, s1, .im (.int a), .im (.int b), sk] = .ok () [s0, s1, .im (.int a), .im (.int b), .im d] := by
      obtain ⟨k, e, h1, h2⟩ := wp_get (m := setU 4 d) (env := [s0, s1, .im (.int a), .im (.int b), sk]) (P := fun k e => e = [s0, s1, .im (.int a), .im (.int b), .im d]) (by simp [wp_setU0 hk])
      rw [h1, h2]
    have h2 : (seqM (mIf (tst (o2 dEq (gv 3) (ret (.int 0)))) (ret .brk) (nxM)) (par2 2 3 (mcons (gv 3) (mcons (o2 dMod (gv 2) (gv 3)) (ret []))))) [s0, s1, .im (.int a), .im (.int b), .im d] = .ok .nx [s0, s1, .im (.int b), .im (.int (a % b : Nat)), .im d] := by
      obtain ⟨k, e, h1, h2⟩ := wp_get (m := seqM (mIf (tst (o2 dEq (gv 3) (ret (.int 0)))) (ret .brk) (nxM)) (par2 2 3 (mcons (gv 3) (mcons (o2 dMod (gv 2) (gv 3)) (ret []))))) (env := [s0, s1, .im (.int a), .im (.int b), .im d]) (P := fun k e => k = .nx ∧ e = [s0, s1, .im (.int b), .im (.int (a % b : Nat)), .im d]) (by simp [hb]; omega)
      rw [h1, h2.1, h2.2]
    show bnd _ _ _ = _
    unfold bnd
    rw [h0]
    dsimp only
    show bnd _ _ _ = _
    unfold bnd
    rw [h2]
  have zero : ∀ (d : D) (ds : List D) (a : Nat) (s0 s1 sk : Slot), sk.pin = false → forM (setU 4) (seqM (mIf (tst (o2 dEq (gv 3) (ret (.int 0)))) (ret .brk) (nxM)) (par2 2 3 (mcons (gv 3) (mcons (o2 dMod (gv 2) (gv 3)) (ret []))))) (d :: ds) [s0, s1, .im (.int a), .im (.int 0), sk] = .ok .nx [s0, s1, .im (.int a), .im (.int 0), .im d] := fun d ds a s0 s1 sk hk => by
    have h0 : setU 4 d [s0, s1, .im (.int a), .im (.int 0), sk] = .ok () [s0, s1, .im (.int a), .im (.int 0), .im d] := by
      obtain ⟨k, e, h1, h2⟩ := wp_get (m := setU 4 d) (env := [s0, s1, .im (.int a), .im (.int 0), sk]) (P := fun k e => e = [s0, s1, .im (.int a), .im (.int 0), .im d]) (by simp [wp_setU0 hk])
      rw [h1, h2]
    have h2 : (seqM (mIf (tst (o2 dEq (gv 3) (ret (.int 0)))) (ret .brk) (nxM)) (par2 2 3 (mcons (gv 3) (mcons (o2 dMod (gv 2) (gv 3)) (ret []))))) [s0, s1, .im (.int a), .im (.int 0), .im d] = .ok .brk [s0, s1, .im (.int a), .im (.int 0), .im d] := by
      obtain ⟨k, e, h1, h2⟩ := wp_get (m := seqM (mIf (tst (o2 dEq (gv 3) (ret (.int 0)))) (ret .brk) (nxM)) (par2 2 3 (mcons (gv 3) (mcons (o2 dMod (gv 2) (gv 3)) (ret []))))) (env := [s0, s1, .im (.int a), .im (.int 0), .im d]) (P := fun k e => k = .brk ∧ e = [s0, s1, .im (.int a), .im (.int 0), .im d]) (by simp)
      rw [h1, h2.1, h2.2]
    show bnd _ _ _ = _
    unfold bnd
    rw [h0]
    dsimp only
    rw [h2]
    rfl
  intro n
  induction n with
  | zero =>
    intro ds a b s0 s1 sk hk hb hf
    have : b = 0 := by simpa using hb
    subst this
    match ds, hf with
    | d :: ds, _ =>
      rw [Nat.gcd_zero_right]
      exact ⟨d, zero d ds a s0 s1 sk hk⟩
  | succ n ih =>
    intro ds a b s0 s1 sk hk hb hf
    match ds, hf with
    | d :: d2 :: ds, hf =>
      by_cases h0 : b = 0
      · subst h0; rw [Nat.gcd_zero_right]; exact ⟨d, zero d _ a s0 s1 sk hk⟩
      · rw [step d _ a b s0 s1 sk hk h0]
        by_cases h1 : a % b = 0
        · rw [h1]
          have : Nat.gcd a b = b := by rw [Nat.gcd_comm, Nat.gcd_rec, h1, Nat.gcd_zero_left]
          rw [this]
          exact ⟨d2, zero d2 _ b s0 s1 _ rfl⟩
        · rw [step d2 _ b (a % b) s0 s1 _ rfl h1]
          have e : Nat.gcd (a % b) (b % (a % b)) = Nat.gcd a b := by
            rw [Nat.gcd_comm a b, Nat.gcd_rec b a, Nat.gcd_rec (a % b) b, Nat.gcd_comm]
          rw [← e]
          refine ih ds _ _ s0 s1 _ rfl ?_ (by simp at hf; omega)
          have l1 : a % b < b := Nat.mod_lt _ (by omega)
          have l2 : b % (a % b) < a % b := Nat.mod_lt _ (by omega)
          have l3 : b % (a % b) + (a % b) ≤ b := by
            have := Nat.div_add_mod b (a % b)
            have h3 : 1 ≤ b / (a % b) := Nat.div_pos (by omega) (by omega)
            have h4 : (a % b) * 1 ≤ (a % b) * (b / (a % b)) := Nat.mul_le_mul_left _ h3
            omega
          rw [Nat.pow_succ] at hb
          omega
theorem low_ok {a b : Int} (hb : b.natAbs < 2 ^ 99) (h0 : b ≠ 0) : f__law_low [.int a, .int b] = .ok (lp (Rat.divInt a b)) := by
  refine runF_ok rfl ?_
  obtain ⟨x, h⟩ := low_turns 99 (ups 0 200) a.natAbs b.natAbs (.im (.int a)) (.im (.int b)) .no rfl hb (by unfold ups; simp)
  have hg : CDivW a (Int.gcd a b) := cdiv_of (n := 99) (Nat.lt_of_le_of_lt (by have := Int.gcd_le_natAbs_right a h0; simpa using this) hb) (gcd_pos' h0) (by decide)
  have hg2 : CDivW b (Int.gcd a b) := ⟨hg.1, hg.2⟩
  have hN : ((Nat.gcd a.natAbs b.natAbs : Nat) : Int) = (Int.gcd a b : Int) := rfl
  have e1 : ∀ s : Int, s = b.sign → s * a / (Int.gcd a b : Int) = (Rat.divInt a b).num := fun s hs => by
    rw [Rat.num_divInt, Int.gcd_comm, hs]
  have e2 : b.natAbs / (Int.gcd a b : Int) = ((Rat.divInt a b).den : Int) := by
    rw [Rat.den_divInt, if_neg h0, Int.gcd_comm]
    exact (Int.natCast_ediv _ _).symm
  simp only [m__law_low, env0, List.map_cons, List.map_nil, List.length_cons, List.length_nil, Nat.reduceAdd, Nat.reduceSub, List.replicate, List.cons_append, List.nil_append]
  have hdv : ∀ {c : Int}, (Int.gcd a b : Int) ∣ c → -(c / (Int.gcd a b : Int)) = (-c) / (Int.gcd a b : Int) := fun {c} hc => (Int.neg_ediv_of_dvd hc).symm
  have hda : (Int.gcd a b : Int) ∣ a := Int.gcd_dvd_left ..
  have hdb : (Int.gcd a b : Int) ∣ b := Int.gcd_dvd_right ..
  by_cases hp : 0 < b
  · have f1 := e1 1 (Int.sign_eq_one_of_pos hp).symm
    have f2 : b / (Int.gcd a b : Int) = ((Rat.divInt a b).den : Int) := by rw [← e2]; congr 1; omega
    rw [Int.one_mul] at f1
    simp [rng1, natAbs_if, wp_ok h, hN, hp, hg, hg2, f1, f2, lp]
  · have f1 := e1 (-1) (Int.sign_eq_neg_one_of_neg (by omega)).symm
    have f2 : (-b) / (Int.gcd a b : Int) = ((Rat.divInt a b).den : Int) := by rw [← e2]; congr 1; omega
    rw [Int.neg_mul, Int.one_mul] at f1
    simp [rng1, natAbs_if, wp_ok h, hN, hp, hg, hg2, hdv hda, hdv hdb, f1, f2, lp]

section
variable {env e : DL.Env} {PD : D → DL.Env → Prop} {X : Nat → DL.Env → Prop} {p q : Rat} {d m d' m' n : Nat}
theorem lplus_ok (p q : Rat) [hp : Sz d m p] [hq : Sz d' m' q] (h : d + d' ≤ 99) (hm : m + m' ≤ 1000) : f__law_plus [lp p, lp q] = .ok (lp (p + q)) := by
  refine runF_ok rfl ?_
  have c1 : CMulA p.num q.den := cmul_of hp.num (b := q.den) hq.den (by omega)
  have c2 : CMulA q.num p.den := cmul_of hq.num (b := p.den) hp.den (by omega)
  have c3 : CMulA p.den q.den := cmul_of (a := p.den) (b := q.den) hp.den hq.den (by omega)
  have hd : ((p.den : Int) * q.den).natAbs < 2 ^ 99 := pow_mono (mul_lt_pow (a := p.den) (b := q.den) hp.den hq.den) (by omega)
  simp [m__law_plus, env0, c1, c2, c3, wp_callF (low_ok hd (dd_pos p q)), add_div]
theorem lless_ok (p q : Rat) [hp : Sz d m p] [hq : Sz d' m' q] (h : d + d' ≤ 99) (hm : m + m' ≤ 1000) : f__law_less [lp p, lp q] = .ok (lp (p - q)) := by
  refine runF_ok rfl ?_
  have c1 : CMulA p.num q.den := cmul_of hp.num (b := q.den) hq.den (by omega)
  have c2 : CMulA q.num p.den := cmul_of hq.num (b := p.den) hp.den (by omega)
  have c3 : CMulA p.den q.den := cmul_of (a := p.den) (b := q.den) hp.den hq.den (by omega)
  have hd : ((p.den : Int) * q.den).natAbs < 2 ^ 99 := pow_mono (mul_lt_pow (a := p.den) (b := q.den) hp.den hq.den) (by omega)
  simp [m__law_less, env0, c1, c2, c3, wp_callF (low_ok hd (dd_pos p q)), sub_div]
theorem ltimes_ok (p q : Rat) [hp : Sz d m p] [hq : Sz d' m' q] (h : d + d' ≤ 99) (hm : m + m' ≤ 1000) : f__law_times [lp p, lp q] = .ok (lp (p * q)) := by
  refine runF_ok rfl ?_
  have c1 : CMulA p.num q.num := cmul_of hp.num hq.num (by omega)
  have c3 : CMulA p.den q.den := cmul_of (a := p.den) (b := q.den) hp.den hq.den (by omega)
  have hd : ((p.den : Int) * q.den).natAbs < 2 ^ 99 := pow_mono (mul_lt_pow (a := p.den) (b := q.den) hp.den hq.den) (by omega)
  simp [m__law_times, env0, c1, c3, wp_callF (low_ok hd (dd_pos p q)), mul_div]
theorem lover_ok (p q : Rat) [hp : Sz d m p] [hq : Sz d' m' q] (h : d + (m' + d') ≤ 99) (hm : m ≤ 1000) (h0 : q ≠ 0) : f__law_over [lp p, lp q] = .ok (lp (p / q)) := by
  refine runF_ok rfl ?_
  have c1 : CMulA p.num q.den := cmul_of hp.num (b := q.den) hq.den (by omega)
  have c3 : CMulA p.den q.num := cmul_of (a := p.den) hp.den hq.num (by omega)
  have hd : ((p.den : Int) * q.num).natAbs < 2 ^ 99 := pow_mono (mul_lt_pow (a := p.den) hp.den hq.num) (by omega)
  have h1 : (p.den : Int) * q.num ≠ 0 := Int.mul_ne_zero (by have := p.den_pos; omega) (num_ne h0)
  simp [m__law_over, env0, c1, c3, wp_callF (low_ok hd h1), div_div]
theorem lisless_ok (p q : Rat) [hp : Sz d m p] [hq : Sz d' m' q] (h : d + m + (d' + m') ≤ 5000) : f__law_is_less [lp p, lp q] = .ok (.bl (decide (p < q))) := by
  refine runF_ok rfl ?_
  have c1 : CMulA p.num q.den := cmul_of hp.num (b := q.den) hq.den (by omega)
  have c2 : CMulA q.num p.den := cmul_of hq.num (b := p.den) hp.den (by omega)
  simp [m__law_is_less, env0, c1, c2, Rat.lt_iff]
@[simp ↓] theorem wp_lplus [hp : Sz d m p] [hq : Sz d' m' q] (h : d + d' ≤ 99) (hm : m + m' ≤ 1000) : wp (callF f__law_plus [lp p, lp q]) env PD X = PD (lp (p + q)) env := wp_callF (lplus_ok p q h hm)
@[simp ↓] theorem wp_lless [hp : Sz d m p] [hq : Sz d' m' q] (h : d + d' ≤ 99) (hm : m + m' ≤ 1000) : wp (callF f__law_less [lp p, lp q]) env PD X = PD (lp (p - q)) env := wp_callF (lless_ok p q h hm)
@[simp ↓] theorem wp_ltimes [hp : Sz d m p] [hq : Sz d' m' q] (h : d + d' ≤ 99) (hm : m + m' ≤ 1000) : wp (callF f__law_times [lp p, lp q]) env PD X = PD (lp (p * q)) env := wp_callF (ltimes_ok p q h hm)
@[simp ↓] theorem wp_lover [hp : Sz d m p] [hq : Sz d' m' q] (h : d + (m' + d') ≤ 99) (hm : m ≤ 1000) (h0 : q ≠ 0) : wp (callF f__law_over [lp p, lp q]) env PD X = PD (lp (p / q)) env := wp_callF (lover_ok p q h hm h0)
@[simp ↓] theorem wp_lisless [hp : Sz d m p] [hq : Sz d' m' q] (h : d + m + (d' + m') ≤ 5000) : wp (callF f__law_is_less [lp p, lp q]) env PD X = PD (.bl (decide (p < q))) env := wp_callF (lisless_ok p q h)
theorem lp_inj {p q : Rat} : lp p = lp q ↔ p = q := by
  unfold lp
  constructor
  · intro h
    simp at h
    exact Rat.ext h.1 (by omega)
  · rintro rfl; rfl
@[simp] theorem smp_lp {q : Rat} {k : Nat} : Smp (k + 1) (lp q) := by unfold lp; simp
@[simp ↓] theorem wl_eqlp : wp (lift (dEq (lp p) (lp q))) env PD X = PD (.bl (decide (p = q))) env := by
  rw [wl_eq smp_lp smp_lp]
  congr 2
  simp [lp_inj]
@[simp ↓] theorem wl_nelp : wp (lift (dNe (lp p) (lp q))) env PD X = PD (.bl (decide (p ≠ q))) env := by
  rw [wl_ne smp_lp smp_lp]
  congr 2
  simp [lp_inj]
end
/-! ## dice -/
section
variable {env e : DL.Env} {PD : D → DL.Env → Prop} {X : Nat → DL.Env → Prop} {a b c m : Int}
theorem roll_ok (hm : 0 < m) (hl : m.natAbs < 2 ^ 60) : ∃ v a' b' c', 0 ≤ v ∧ v < m ∧ f__law_roll (.io (dl a b c)) [.int m] = .ok (.int v) (.io (dl a' b' c')) := by
  have hd : CDivW a m := cdiv_of hl hm (by decide)
  have k1 : CMulA a 48271 := .inr (.inl (by decide))
  have k2 : CMulA b 69621 := .inr (.inl (by decide))
  have d7 : ∀ x, CDivW x 7 := fun x => cdiv_of (n := 3) (by decide) (by decide) (by decide)
  by_cases h1 : c = 2
  · refine ⟨a % m, a / m, b, c, Int.emod_nonneg _ (by omega), Int.emod_lt_of_pos _ hm, run1_ok rfl rfl ?_⟩
    simp [m__law_roll, env0, dl, h1, hm, hd, L2.atI, L2.ixN]
  · by_cases h2 : c = 1 ∧ 0 < a
    · refine ⟨a % m, a / m, b, c, Int.emod_nonneg _ (by omega), Int.emod_lt_of_pos _ hm, run1_ok rfl rfl ?_⟩
      simp [m__law_roll, env0, dl, h1, h2, hm, hd, L2.atI, L2.ixN]
    · refine ⟨((a * 48271 + b * 69621 + 11) % 2147483647 / 7 + (a * 48271 + b * 69621 + 11) % 2147483647) % m, (a * 48271 + b * 69621 + 11) % 2147483647, b + 1, 0, Int.emod_nonneg _ (by omega), Int.emod_lt_of_pos _ hm, run1_ok rfl rfl ?_⟩
      by_cases h3 : c = 1
      · have h4 : ¬ 0 < a := fun z => h2 ⟨h3, z⟩
        simp [m__law_roll, env0, dl, h3, h4, hm, hd, k1, k2, d7, L2.atI, L2.ixN]
      · simp [m__law_roll, env0, dl, h1, h3, hm, hd, k1, k2, d7, L2.atI, L2.ixN]
theorem wp_roll (hm : 0 < m) (hl : m.natAbs < 2 ^ 60) (h : ∀ v a' b' c', 0 ≤ v → v < m → PD (.int v) (.io (dl a' b' c') :: e)) : wp (call1 0 f__law_roll [.int m]) (.io (dl a b c) :: e) PD X := by
  obtain ⟨v, a', b', c', h1, h2, h3⟩ := roll_ok (a := a) (b := b) (c := c) hm hl
  rw [wp_call1 rfl rfl h3]
  exact h v a' b' c' h1 h2
end

section
variable {env e : DL.Env} {PD : D → DL.Env → Prop} {X : Nat → DL.Env → Prop} {a b c lo hi bt : Int}
theorem sz_dv {t u : Int} {d m : Nat} (ht : t.natAbs < 2 ^ m) (hu : 1 ≤ u) (hb : u.natAbs < 2 ^ d) : Sz d m (Rat.divInt t u) := by
  refine sz_divInt (by omega) hb ?_
  have h : 1 ≤ u.natAbs := by omega
  have := Nat.mul_le_mul_left (2 ^ m) h
  omega
theorem share_ok (kd km : Nat) (h1 : lo ≤ hi) (h2 : 0 < bt) (hlo : lo.natAbs < 2 ^ km) (hhi : hi.natAbs < 2 ^ km) (hbt : bt.natAbs < 2 ^ kd) (hk : km ≤ 50 ∧ kd ≤ 50) : ∃ t u a' b' c', lo ≤ t ∧ t ≤ hi ∧ 1 ≤ u ∧ u ≤ bt ∧ Sz kd km (Rat.divInt t u) ∧ f__law_share (.io (dl a b c)) [.int lo, .int hi, .int bt] = .ok (sh (Rat.divInt t u)) (.io (dl a' b' c')) := by
  have p1 : (2 : Nat) ^ km ≤ 2 ^ 50 := Nat.pow_le_pow_right (by decide) hk.1
  have p2 : (2 : Nat) ^ kd ≤ 2 ^ 50 := Nat.pow_le_pow_right (by decide) hk.2
  have e50 : (2 : Nat) ^ 50 = 1125899906842624 := by decide
  obtain ⟨v, a1, b1, c1, v0, v1, hv⟩ := roll_ok (a := a) (b := b) (c := c) (m := hi - lo + 1) (by omega) (by omega)
  obtain ⟨w, a2, b2, c2, w0, w1, hw⟩ := roll_ok (a := a1) (b := b1) (c := c1) (m := bt) h2 (by omega)
  have hu : (1 + w).natAbs < 2 ^ kd := by omega
  have ht : (lo + v).natAbs < 2 ^ km := by omega
  refine ⟨lo + v, 1 + w, a2, b2, c2, by omega, by omega, by omega, by omega, sz_dv ht (by omega) hu, run1_ok rfl rfl ?_⟩
  simp [m__law_share, env0, wp_call1 rfl rfl hv, wp_call1 rfl rfl hw, wp_mk (pow_mono hu (show kd ≤ 250 by omega)) (show (1 + w : Int) ≠ 0 by omega)]
theorem wp_share (kd km : Nat) (h1 : lo ≤ hi) (h2 : 0 < bt) (hlo : lo.natAbs < 2 ^ km) (hhi : hi.natAbs < 2 ^ km) (hbt : bt.natAbs < 2 ^ kd) (hk : km ≤ 50 ∧ kd ≤ 50)
    (h : ∀ t u a' b' c', lo ≤ t → t ≤ hi → 1 ≤ u → u ≤ bt → Sz kd km (Rat.divInt t u) → PD (sh (Rat.divInt t u)) (.io (dl a' b' c') :: e)) : wp (call1 0 f__law_share [.int lo, .int hi, .int bt]) (.io (dl a b c) :: e) PD X := by
  obtain ⟨t, u, a', b', c', q1, q2, q3, q4, q5, q6⟩ := share_ok (a := a) (b := b) (c := c) kd km h1 h2 hlo hhi hbt hk
  rw [wp_call1 rfl rfl q6]
  exact h t u a' b' c' q1 q2 q3 q4 q5
end
theorem dv_mul {t u : Int} (hu : 1 ≤ u) : Rat.divInt t u * (u : Rat) = (t : Rat) := by
  rw [Rat.divInt_eq_div]
  exact Rat.div_mul_cancel (by intro e; have : u = 0 := by exact_mod_cast e
                               omega)
theorem dv_pos {t u : Int} (ht : 0 < t) (hu : 1 ≤ u) : 0 < Rat.divInt t u := by
  have h := dv_mul (t := t) hu
  have h1 : (0 : Rat) < (t : Rat) := by exact_mod_cast ht
  have h2 : (0 : Rat) < (u : Rat) := by exact_mod_cast (show (0 : Int) < u by omega)
  rw [← h] at h1
  exact (Rat.mul_pos_iff_of_pos_right h2).mp h1
theorem dv_le {t u hi : Int} (ht : t ≤ hi) (hh : 0 ≤ hi) (hu : 1 ≤ u) : Rat.divInt t u ≤ (hi : Rat) := by
  have h := dv_mul (t := t) hu
  have h2 : (0 : Rat) < (u : Rat) := by exact_mod_cast (show (0 : Int) < u by omega)
  refine Rat.le_of_mul_le_mul_right (c := (u : Rat)) ?_ h2
  rw [h]
  have : t ≤ hi * u := Int.le_trans ht (by have := Int.mul_le_mul_of_nonneg_left hu hh; omega)
  exact_mod_cast this
theorem le_dv {t u lo : Int} (ht : lo ≤ t) (hh : lo ≤ 0) (hu : 1 ≤ u) : (lo : Rat) ≤ Rat.divInt t u := by
  have h := dv_mul (t := t) hu
  have h2 : (0 : Rat) < (u : Rat) := by exact_mod_cast (show (0 : Int) < u by omega)
  refine Rat.le_of_mul_le_mul_right (c := (u : Rat)) ?_ h2
  rw [h]
  have : lo * u ≤ t := Int.le_trans (by have := Int.mul_le_mul_of_nonneg_left hu (show 0 ≤ -lo by omega); rw [Int.neg_mul, Int.neg_mul] at this; omega) ht
  exact_mod_cast this
section
variable {env e : DL.Env} {PD : D → DL.Env → Prop} {X : Nat → DL.Env → Prop} {a b c lo hi bt : Int}
theorem wp_sharep (kd km : Nat) (h1 : lo ≤ hi) (h2 : 0 < bt) (hlo : lo.natAbs < 2 ^ km) (hhi : hi.natAbs < 2 ^ km) (hbt : bt.natAbs < 2 ^ kd) (hk : km ≤ 50 ∧ kd ≤ 50) (h0 : 0 < lo)
    (h : ∀ q a' b' c', Sz kd km q → 0 < q → q ≤ (hi : Rat) → (lo : Rat) ≤ q * (bt : Rat) → PD (sh q) (.io (dl a' b' c') :: e)) : wp (call1 0 f__law_share [.int lo, .int hi, .int bt]) (.io (dl a b c) :: e) PD X := by
  refine wp_share kd km h1 h2 hlo hhi hbt hk fun t u a' b' c' q1 q2 q3 q4 q5 => h _ a' b' c' q5 (dv_pos (by omega) q3) (dv_le q2 (by omega) q3) ?_
  have h5 := dv_mul (t := t) q3
  have h6 : 0 < Rat.divInt t u := dv_pos (by omega) q3
  have h7 : (u : Rat) ≤ (bt : Rat) := by exact_mod_cast q4
  have h8 : Rat.divInt t u * (u : Rat) ≤ Rat.divInt t u * (bt : Rat) := Rat.mul_le_mul_of_nonneg_left h7 (Rat.le_of_lt h6)
  rw [h5] at h8
  have h9 : (lo : Rat) ≤ (t : Rat) := by exact_mod_cast q1
  exact Rat.le_trans h9 h8
theorem wp_sharea (kd km : Nat) (h1 : lo ≤ hi) (h2 : 0 < bt) (hlo : lo.natAbs < 2 ^ km) (hhi : hi.natAbs < 2 ^ km) (hbt : bt.natAbs < 2 ^ kd) (hk : km ≤ 50 ∧ kd ≤ 50) (h0 : lo ≤ 0) (h00 : 0 ≤ hi)
    (h : ∀ q a' b' c', Sz kd km q → (lo : Rat) ≤ q → q ≤ (hi : Rat) → PD (sh q) (.io (dl a' b' c') :: e)) : wp (call1 0 f__law_share [.int lo, .int hi, .int bt]) (.io (dl a b c) :: e) PD X :=
  wp_share kd km h1 h2 hlo hhi hbt hk fun t u a' b' c' q1 q2 q3 q4 q5 => h _ a' b' c' q5 (le_dv q1 h0 q3) (dv_le q2 h00 q3)
end
/-! ## the rounds -/
theorem runL_ok {n k : Nat} {m : ML} {ds l : List D} (hl : ds.length = n) (h : wp m (env0 k ds) (fun x _ => x = l) (fun _ _ => False)) : runL n k m ds = .ok l := by
  unfold runL
  rw [if_pos hl]
  obtain ⟨f, e, h1, h2⟩ := wp_get h
  rw [h1, h2]
theorem dice_ok (n : Int) : ∃ a b c, f__law_dice [.int n] = .ok (dl a b c) := by
  have cp : CPow 10 18 := by unfold CPow; decide
  by_cases h : -10 < n ∧ n < 10
  · refine ⟨if n < 0 then -n else n, 0, 2, runL_ok rfl ?_⟩
    simp [m__law_dice, env0, h, dl]
  · refine ⟨n, 1 + n % 1009, if 10 ^ 18 ≤ n then 1 else 0, runL_ok rfl ?_⟩
    by_cases h1 : -10 < n
    · have h2 : ¬ n < 10 := fun z => h ⟨h1, z⟩
      simp [m__law_dice, env0, h1, h2, dl, cp]
    · simp [m__law_dice, env0, h1, dl, cp]
theorem rounds_ok (ns : List Int) : ∃ a b c env', m__law_rounds (roundsEnv ns) = .ok (dl a b c) env' := by
  have go : ∀ n : Int, ∃ a b c, f__law_dice [.int n] = .ok (dl a b c) := dice_ok
  have fin : ∀ {a b c : Int}, wp m__law_rounds (roundsEnv ns) (fun l _ => l = dl a b c) (fun _ _ => False) → ∃ a b c env', m__law_rounds (roundsEnv ns) = .ok (dl a b c) env' := fun {a b c} h => by
    obtain ⟨l, e, h1, h2⟩ := wp_get h
    exact ⟨a, b, c, e, by rw [h1, h2]⟩
  cases ns with
  | nil =>
    obtain ⟨a, b, c, h⟩ := go 0
    refine fin (a := a) (b := b) (c := c) ?_
    simp [m__law_rounds, roundsEnv, wl_eq, noOwn, wipeE, restore, wp_callL h]
  | cons n ns =>
    obtain ⟨a, b, c, h⟩ := go n
    refine fin (a := a) (b := b) (c := c) ?_
    simp [m__law_rounds, roundsEnv, wl_eq, noOwn, wipeE, restore, wp_callL h]
/-- what a law's body must do -/
theorem law_of {b : M Fl} {n i : Nat} (h : ∀ x y z, wp b ((List.replicate n .no).set i (.io (dl x y z))) (fun f _ => f = .nx) (fun _ _ => False)) : LawHolds m__law_rounds b n i := fun ns _ => by
  obtain ⟨x, y, z, env', h1⟩ := rounds_ok ns
  obtain ⟨f, e, h2, h3⟩ := wp_get (h x y z)
  exact ⟨_, env', h1, e, by rw [h2, h3]⟩
end LW
set_option Elab.async false
set_option linter.all false
set_option maxRecDepth 100000
set_option maxHeartbeats 4000000
set_option autoImplicit false
namespace LW
open PySem PySem.Spec PyProof.Rows L2 LamX DL
theorem rdiv_pos {a b : Rat} (ha : 0 < a) (hb : 0 < b) : 0 < a / b := by
  have h : a / b * b = a := Rat.div_mul_cancel (fun e => by subst e; exact absurd hb Rat.lt_irrefl)
  rw [← h] at ha
  exact (Rat.mul_pos_iff_of_pos_right hb).mp ha
theorem num_le0 {q : Rat} : (q.num ≤ 0) ↔ q ≤ 0 := by rw [Rat.le_iff]; simp
theorem num_lt0 {q : Rat} : (q.num < 0) ↔ q < 0 := by rw [Rat.lt_iff]; simp
theorem num_gt0 {q : Rat} : (0 < q.num) ↔ 0 < q := by rw [Rat.lt_iff]; simp
theorem nle {q : Rat} (h : 0 < q) : ¬ q ≤ 0 := Rat.not_le.mpr h
theorem nz {q : Rat} (h : 0 < q) : q ≠ 0 := fun e => by subst e; exact absurd h Rat.lt_irrefl
theorem so_number : (PyData.str "number").canLay0 = true := by decide +kernel
theorem so_rule : (PyData.str "rule").canLay0 = true := by decide +kernel
theorem so_noway : (PyData.str "no way").canLay0 = true := by decide +kernel
theorem so_nosuch : (PyData.str "no such").canLay0 = true := by decide +kernel
theorem so_name : (PyData.str "name").canLay0 = true := by decide +kernel
theorem so_large : (PyData.str "large").canLay0 = true := by decide +kernel
theorem lp_of_int {k : Int} : D.tup [.int k, .int 1] = lp (k : Rat) := rfl
theorem sz_int {k : Int} {m : Nat} (h : k.natAbs < 2 ^ m) : Sz 1 m (k : Rat) := ⟨by show (1 : Nat) < 2 ^ 1; decide, by show k.natAbs < 2 ^ m * 1; omega⟩
theorem mem_ups {lo : Int} {n : Nat} {x : D} (h : x ∈ ups lo n) : ∃ k : Int, x = .int k ∧ lo ≤ k ∧ k < lo + n := by
  unfold ups at h
  obtain ⟨k, hk, rfl⟩ := List.mem_map.mp h
  exact ⟨_, rfl, by omega, by have := List.mem_range.mp hk; omega⟩
theorem ups_len {lo : Int} {n : Nat} : (ups lo n).length = n := by unfold ups; simp
/-- how many whole numbers of a range lie past A and up to B -/
theorem count_range (lo A B : Int) (hA : lo - 1 ≤ A) : ∀ n : Nat, ((List.range n).filter fun (k : Nat) => decide (A < lo + (k : Int) ∧ lo + (k : Int) ≤ B)).length = (min B (lo + n - 1) - A).toNat := by
  intro n
  induction n with
  | zero => simp; omega
  | succ n ih =>
    rw [List.range_succ, List.filter_append, List.length_append, ih]
    by_cases h : A < lo + (n : Int) ∧ lo + (n : Int) ≤ B
    · simp [h]; omega
    · simp [h]; omega
theorem count_ups {lo A B : Int} {n : Nat} (hA : lo - 1 ≤ A) (hB : B ≤ lo + n - 1) {p : D → Bool} (hp : ∀ k : Int, p (.int k) = decide (A < k ∧ k ≤ B)) : ((ups lo n).filter p).length = (B - A).toNat := by
  unfold ups
  rw [List.filter_map, List.length_map]
  have : (p ∘ fun (k : Nat) => D.int (lo + (k : Int))) = fun (k : Nat) => decide (A < lo + (k : Int) ∧ lo + (k : Int) ≤ B) := by
    funext k
    exact hp _
  rw [this, count_range lo A B hA n]
  congr 1
  omega
theorem floor_lt {q : Rat} {k : Int} : q < (k : Rat) ↔ q.floor < k := Rat.floor_lt_iff.symm
theorem le_floor' {q : Rat} {k : Int} : (k : Rat) ≤ q ↔ k ≤ q.floor := (Rat.le_floor_iff).symm
theorem lt_mul_of {p r k : Rat} (hr : 0 < r) : p < k * r ↔ p / r < k := by
  have h : p / r * r = p := Rat.div_mul_cancel (nz hr)
  constructor
  · intro hh
    rw [← h] at hh
    exact Rat.lt_of_mul_lt_mul_right hh (Rat.le_of_lt hr)
  · intro hh
    have := Rat.mul_lt_mul_of_pos_right hh hr
    rw [h] at this
    exact this
section
variable {env e : DL.Env} {PD : D → DL.Env → Prop} {X : Nat → DL.Env → Prop} {q : Rat} {d m : Nat}
theorem wp_mkself [h : Sz d m q] (hn : d ≤ 240) : wp (callF mk_Share [.int q.num, .int q.den]) env PD X = PD (sh q) env := by
  rw [wp_mk (b := q.den) (pow_mono h.den (by omega)) (by have := q.den_pos; omega), Rat.num_divInt_den]
end
def lst (n : Nat) (f : Nat → D) : List D := (List.range n).map f
abbrev shs (n : Nat) (H : Nat → Rat) : List D := lst n fun k => sh (H k)
abbrev lps (n : Nat) (H : Nat → Rat) : List D := lst n fun k => lp (H k)
theorem atI_lst {f : Nat → D} {n : Nat} {k : Int} (j : Nat) (hk : k = (j : Int)) (h : j < n) : L2.atI (lst n f) k = some (f j) := by
  subst hk
  unfold L2.atI L2.ixN lst
  rw [if_pos (by omega), if_pos (by simp; omega)]
  simp [h]
@[simp] theorem lst_len {n : Nat} {f : Nat → D} : (lst n f).length = n := by unfold lst; simp
theorem get_lst {n i : Nat} {f : Nat → D} {d : D} (h : (lst n f)[i]? = some d) : i < n ∧ d = f i := by
  unfold lst at h
  rw [List.getElem?_map] at h
  obtain ⟨k, hk, rfl⟩ := Option.map_eq_some_iff.mp h
  obtain ⟨h1, h2⟩ := List.getElem?_eq_some_iff.mp hk
  simp at h1 h2
  subst h2
  exact ⟨h1, rfl⟩
theorem mem_lst {n : Nat} {f : Nat → D} {d : D} (h : d ∈ lst n f) : ∃ k, k < n ∧ d = f k := by
  obtain ⟨k, hk, rfl⟩ := List.mem_map.mp h
  exact ⟨k, List.mem_range.mp hk, rfl⟩
theorem lst_map {n : Nat} {f : Nat → D} {g : D → D} : (lst n f).map g = lst n fun k => g (f k) := by unfold lst; rw [List.map_map]; rfl
theorem lst_rev {n : Nat} {f : Nat → D} : (lst n f).reverse = lst n fun k => f (n - 1 - k) := by
  unfold lst
  apply List.ext_getElem?
  intro i
  by_cases h : i < n
  · rw [List.getElem?_reverse (by simpa using h)]
    have : n - 1 - i < n := by omega
    simp [h, this]
  · simp [h]
theorem lst_congr {n : Nat} {f g : Nat → D} (h : ∀ k, k < n → f k = g k) : lst n f = lst n g := List.map_congr_left fun k hk => h k (List.mem_range.mp hk)
theorem ups_lst {lo : Int} {n : Nat} : ups lo n = lst n fun k => .int (lo + (k : Int)) := rfl
theorem get_ups {lo : Int} {n i : Nat} {x : D} (h : (ups lo n)[i]? = some x) : i < n ∧ x = .int (lo + (i : Int)) := get_lst h
/-- what a list holds, told by a function -/
theorem lst_of {P : D → Prop} (d0 : D) (h0 : P d0) (acc : List D) (h : ∀ d ∈ acc, P d) : ∃ f : Nat → D, acc = lst acc.length f ∧ ∀ k, P (f k) := by
  refine ⟨fun k => acc.getD k d0, ?_, fun k => ?_⟩
  · apply List.ext_getElem?
    intro i
    unfold lst
    rw [List.getElem?_map]
    by_cases hi : i < acc.length
    · rw [List.getElem?_range hi, List.getElem?_eq_getElem hi]
      simp [hi]
    · rw [List.getElem?_eq_none (by omega), List.getElem?_eq_none (by simp; omega)]
      rfl
  · show P (acc.getD k d0)
    rw [List.getD_eq_getElem?_getD]
    by_cases hi : k < acc.length
    · rw [List.getElem?_eq_getElem hi]; exact h _ (List.getElem_mem hi)
    · rw [List.getElem?_eq_none (by omega)]; exact h0
theorem rats_of {P : Rat → Prop} (q0 : Rat) (h0 : P q0) (acc : List D) (h : ∀ d ∈ acc, ∃ q, d = sh q ∧ P q) : ∃ H : Nat → Rat, acc = shs acc.length H ∧ ∀ k, P (H k) := by
  obtain ⟨f, h1, h2⟩ := lst_of (P := fun d => ∃ q, d = sh q ∧ P q) (sh q0) ⟨q0, rfl, h0⟩ acc h
  refine ⟨fun k => Classical.choose (h2 k), ?_, fun k => (Classical.choose_spec (h2 k)).2⟩
  rw [h1, lst_len]
  exact lst_congr fun k hk => (Classical.choose_spec (h2 k)).1
def psum (F : Nat → Rat) : Nat → Rat
  | 0 => 0
  | i + 1 => psum F i + F i
theorem sz_psum {F : Nat → Rat} {d m : Nat} (h : ∀ k, Sz d m (F k)) : ∀ i, Sz (1 + d * i) (m + i) (psum F i)
  | 0 => sz_zero.mono (by omega) (by omega)
  | i + 1 => by
    have h1 := sz_acc (sz_psum h i) (h i) (by omega)
    exact h1.mono (by rw [Nat.mul_succ]; omega) (by omega)
theorem psum_congr {F G : Nat → Rat} : ∀ n, (∀ k, k < n → F k = G k) → psum F n = psum G n
  | 0, _ => rfl
  | n + 1, h => by
    show psum F n + F n = psum G n + G n
    rw [psum_congr n fun k hk => h k (by omega), h n (by omega)]
theorem psum_left {F : Nat → Rat} : ∀ n, psum F (n + 1) = F 0 + psum (fun k => F (k + 1)) n
  | 0 => by show psum F 0 + F 0 = _; simp [psum]; grind
  | n + 1 => by
    show psum F (n + 1) + F (n + 1) = F 0 + (psum (fun k => F (k + 1)) n + F (n + 1))
    rw [psum_left n]; grind
theorem psum_rev {F : Nat → Rat} : ∀ n, psum (fun k => F (n - 1 - k)) n = psum F n
  | 0 => rfl
  | n + 1 => by
    rw [psum_left]
    show F (n + 1 - 1 - 0) + psum (fun k => F (n + 1 - 1 - (k + 1))) n = psum F n + F n
    have h1 : psum (fun k => F (n + 1 - 1 - (k + 1))) n = psum (fun k => F (n - 1 - k)) n := psum_congr n fun k hk => by
      have : n + 1 - 1 - (k + 1) = n - 1 - k := by omega
      rw [this]
    rw [h1, psum_rev n]
    have : n + 1 - 1 - 0 = n := by omega
    rw [this]; grind
theorem psum_add {F : Nat → Rat} {a : Nat} : ∀ b, psum F (a + b) = psum F a + psum (fun k => F (a + k)) b
  | 0 => by show psum F a = psum F a + 0; grind
  | b + 1 => by
    show psum F (a + b) + F (a + b) = psum F a + (psum (fun k => F (a + k)) b + F (a + b))
    rw [psum_add b]; grind
theorem psum_mono {F : Nat → Rat} (h : ∀ k, 0 ≤ F k) {i j : Nat} (hij : i ≤ j) : psum F i ≤ psum F j := by
  induction j with
  | zero => have : i = 0 := by omega
            subst this; exact Rat.le_refl
  | succ j ih =>
    by_cases e : i = j + 1
    · subst e; exact Rat.le_refl
    · have h1 := ih (by omega)
      have h2 := h j
      show psum F i ≤ psum F j + F j
      grind
theorem fok {f : FD} {n k : Nat} {m : M Fl} {ds : List D} {d : D} (hf : f = runF n k m) (hl : ds.length = n) (h : wp m (env0 k ds) (fun f _ => flD d f) (fun _ _ => False)) : f ds = .ok d := by
  subst hf; exact runF_ok hl h
theorem ferr {f : FD} {n k : Nat} {m : M Fl} {ds : List D} {c : Nat} (hf : f = runF n k m) (hl : ds.length = n) (h : wp m (env0 k ds) (fun _ _ => False) (fun x _ => x = c)) : f ds = .err c := by
  subst hf; exact runF_err hl h
/-- a function whose first parameter is the dice -/
theorem run1_dl {f : FD1} {n k : Nat} {m : M Fl} {ds : List D} {d : D} {x y z : Int} (hf : f = run1 n k m) (hl : ds.length + 1 = n) (h : wp m (.io (dl x y z) :: env0 (k - 1) ds) (fun f e => flD d f ∧ ∃ a b c, e[0]? = some (.io (dl a b c))) (fun _ _ => False)) : ∃ a b c, f (.io (dl x y z)) ds = .ok d (.io (dl a b c)) := by
  subst hf
  obtain ⟨f, e, h1, h2, a, b, c, h3⟩ := wp_get h
  refine ⟨a, b, c, ?_⟩
  unfold run1
  rw [if_pos ⟨hl, rfl⟩, h1]
  cases f with
  | ret x => cases h2; dsimp only [out1]; rw [h3]
  | nx => cases h2; dsimp only [out1]; rw [h3]
  | brk => cases h2
  | ct => cases h2
/-- a comprehension that draws -/
theorem wp_lcGo_dice {f : D → M Unit} {t : M Bool} {m : M D} {vs : List Nat} {xs : List D} {E : DL.Env} {PL : List D → DL.Env → Prop} {X : Nat → DL.Env → Prop} {x0 y0 z0 : Int} (Q : D → Prop) (hl : xs.length < 16777216)
    (hs : ∀ x y z d, d ∈ xs → wp (f d) (.io (dl x y z) :: E) (fun _ e => wp t e (fun b e => b = true ∧ wp m e (fun y e => Q y ∧ noOwn e vs = true ∧ ∃ x' y' z', wipeE e vs = .io (dl x' y' z') :: E) X) X) X)
    (hP : ∀ acc x y z, acc.length = xs.length → (∀ d ∈ acc, Q d) → PL acc (.io (dl x y z) :: E)) : wp (lcGo vs f t m xs []) (.io (dl x0 y0 z0) :: E) PL X := by
  refine wp_lcGo_inv (fun i acc e => i ≤ xs.length ∧ acc.length = i ∧ (∀ d ∈ acc, Q d) ∧ ∃ x y z, e = .io (dl x y z) :: E) ⟨by omega, rfl, by simp, _, _, _, rfl⟩ ?_ ?_
  · rintro i d acc e hx ⟨hi, ha, hq, x, y, z, rfl⟩
    have hlt : i < xs.length := (List.getElem?_eq_some_iff.mp hx).1
    refine wp_imp (hs x y z d (List.mem_of_getElem? hx)) (fun _ e h => ?_) fun _ _ h => h
    refine wp_imp h (fun b e h => ?_) fun _ _ h => h
    obtain ⟨rfl, h⟩ := h
    rw [if_pos rfl]
    refine wp_imp h (fun v e h => ?_) fun _ _ h => h
    obtain ⟨h1, h2, x', y', z', h3⟩ := h
    refine ⟨h2, by omega, by omega, by simp [ha], ?_, x', y', z', h3⟩
    intro d' hd
    rcases List.mem_append.mp hd with hd | hd
    · exact hq d' hd
    · rw [List.mem_singleton.mp hd]; exact h1
  · rintro acc e ⟨hi, ha, hq, x, y, z, rfl⟩
    exact hP acc x y z ha hq
theorem smps_ints {k : Nat} {l : List D} (h : ∀ d ∈ l, ∃ i : Int, d = .int i) : Smps k l := smps_of fun d hd => by
  obtain ⟨i, rfl⟩ := h d hd
  exact smp_int
theorem at0 {a : D} {l : List D} : L2.atI (a :: l) 0 = some a := by
  unfold L2.atI L2.ixN
  rw [if_pos (by omega), if_pos (by simp <;> omega)]
  rfl
theorem at1 {a b : D} {l : List D} : L2.atI (a :: b :: l) 1 = some b := by
  unfold L2.atI L2.ixN
  rw [if_pos (by omega), if_pos (by simp <;> omega)]
  rfl
section
variable {env e : DL.Env} {PD : D → DL.Env → Prop} {PB : Bool → DL.Env → Prop} {PL : List D → DL.Env → Prop} {X : Nat → DL.Env → Prop}
@[simp ↓] theorem wl_nebb {a b : Bool} : wp (lift (dNe (.bl a) (.bl b))) env PD X = PD (.bl (a != b)) env := by cases a <;> cases b <;> rfl
@[simp ↓] theorem wl_eqbb {a b : Bool} : wp (lift (dEq (.bl a) (.bl b))) env PD X = PD (.bl (a == b)) env := by cases a <;> cases b <;> rfl
@[simp ↓] theorem wl_isNt {l : List D} : wp (lift (dIsN (.tup l) .non)) env PD X = PD (.bl false) env := rfl
@[simp ↓] theorem wl_isNn : wp (lift (dIsN .non .non)) env PD X = PD (.bl true) env := rfl
@[simp ↓] theorem wl_isNs {s : Str} : wp (lift (dIsN (.str s) .non)) env PD X = PD (.bl false) env := rfl
@[simp ↓] theorem wl_isNi {i : Int} : wp (lift (dIsN (.int i) .non)) env PD X = PD (.bl false) env := rfl
@[simp ↓] theorem wl_isNo {c : Nat} {l : List D} : wp (lift (dIsN (.obj c l) .non)) env PD X = PD (.bl false) env := rfl
@[simp ↓] theorem wl_notNn : wp (lift (dNotN .non .non)) env PD X = PD (.bl false) env := rfl
@[simp ↓] theorem wl_notNs {s : Str} : wp (lift (dNotN (.str s) .non)) env PD X = PD (.bl true) env := rfl
@[simp ↓] theorem wl_notNi {i : Int} : wp (lift (dNotN (.int i) .non)) env PD X = PD (.bl true) env := rfl
@[simp ↓] theorem wl_notNo {c : Nat} {l : List D} : wp (lift (dNotN (.obj c l) .non)) env PD X = PD (.bl true) env := rfl
@[simp ↓] theorem wl_notNt {l : List D} : wp (lift (dNotN (.tup l) .non)) env PD X = PD (.bl true) env := rfl
@[simp ↓] theorem wl_addi {i j : Int} : wp (lift (dAddI (.int i) (.int j))) env PD X = PD (.int (i + j)) env := rfl
@[simp ↓] theorem wl_addt {a b : List D} : wp (lift (dAdd (.tup a) (.tup b))) env PD X = (a.length + b.length ≤ 16777216 ∧ PD (.tup (a ++ b)) env) := by
  show wp (lift (if a.length + b.length ≤ 16777216 then some (D.tup (a ++ b)) else none)) env PD X = _
  by_cases h : a.length + b.length ≤ 16777216
  · rw [if_pos h]; simp [h]
  · rw [if_neg h]; simp [h]
theorem boolsQ_map {q : List D → Option D} {p : List D → Bool} : ∀ {rs : List (List D)}, (∀ r ∈ rs, q r = some (.bl (p r))) → boolsQ q rs = some (rs.map p)
  | [], _ => rfl
  | r :: rs, h => by
    unfold boolsQ
    rw [h r (List.mem_cons_self ..), boolsQ_map fun r hr => h r (List.mem_cons_of_mem _ hr)]
    rfl
theorem rows2_lst {n : Nat} {f g : Nat → D} : rows2 (lst n fun k => .tup [f k, g k]) = some ((List.range n).map fun k => [f k, g k]) := by
  unfold lst
  generalize List.range n = l
  induction l with
  | nil => rfl
  | cons k l ih =>
    show (rows2 (l.map fun k => D.tup [f k, g k])).map ([f k, g k] :: ·) = _
    rw [ih]; rfl
/-- a generator over a list told by a function -/
theorem gen1_lst {fin : List Bool → Bool} {q : List D → Option D} {d : D} {n : Nat} {f : Nat → D} {p : Nat → Bool} (hd : seqD d = some (lst n f)) (hq : ∀ k, k < n → q [f k] = some (.bl (p k))) : dGen fin rows1 q d = some (.bl (fin ((List.range n).map p))) := by
  have h : ∀ l : List Nat, (∀ k ∈ l, k < n) → boolsQ q ((l.map f).map fun d => [d]) = some (l.map p) := fun l => by
    induction l with
    | nil => intro _; rfl
    | cons k l ih =>
      intro hl
      show boolsQ q ([f k] :: (l.map f).map fun d => [d]) = _
      unfold boolsQ
      rw [hq k (hl k (List.mem_cons_self ..)), ih fun j hj => hl j (List.mem_cons_of_mem _ hj)]
      rfl
  unfold dGen
  rw [hd]
  show (boolsQ q ((lst n f).map fun d => [d])).map _ = _
  rw [show boolsQ q ((lst n f).map fun d => [d]) = _ from h (List.range n) fun k hk => List.mem_range.mp hk]
  rfl
theorem gen2_lst {fin : List Bool → Bool} {q : List D → Option D} {d : D} {n : Nat} {f g : Nat → D} {p : Nat → Bool} (hd : seqD d = some (lst n fun k => .tup [f k, g k])) (hq : ∀ k, k < n → q [f k, g k] = some (.bl (p k))) : dGen fin rows2 q d = some (.bl (fin ((List.range n).map p))) := by
  have h : ∀ l : List Nat, (∀ k ∈ l, k < n) → boolsQ q (l.map fun k => [f k, g k]) = some (l.map p) := fun l => by
    induction l with
    | nil => intro _; rfl
    | cons k l ih =>
      intro hl
      show boolsQ q ([f k, g k] :: l.map fun k => [f k, g k]) = _
      unfold boolsQ
      rw [hq k (hl k (List.mem_cons_self ..)), ih fun j hj => hl j (List.mem_cons_of_mem _ hj)]
      rfl
  unfold dGen
  rw [hd]
  show (rows2 (lst n fun k => .tup [f k, g k])).bind _ = _
  rw [rows2_lst]
  show (boolsQ q ((List.range n).map fun k => [f k, g k])).map _ = _
  rw [h (List.range n) fun k hk => List.mem_range.mp hk]
  rfl
theorem any_none {n : Nat} {p : Nat → Bool} (h : ∀ k, k < n → p k = false) : ((List.range n).map p).any id = false := by
  rw [List.any_eq_false]
  intro b hb
  obtain ⟨k, hk, rfl⟩ := List.mem_map.mp hb
  rw [h k (List.mem_range.mp hk)]; decide
theorem any_some_ {n : Nat} {p : Nat → Bool} {k : Nat} (hk : k < n) (h : p k = true) : ((List.range n).map p).any id = true := by
  rw [List.any_eq_true]
  exact ⟨true, List.mem_map.mpr ⟨k, List.mem_range.mpr hk, h⟩, rfl⟩
end
theorem ord_gt {p q : Rat} : (0 < if p = q then (0 : Int) else if q < p then 1 else -1) ↔ q < p := by
  by_cases h : p = q
  · subst h; simp [Rat.lt_irrefl]
  · by_cases h2 : q < p <;> simp [h, h2]
theorem ord_lt {p q : Rat} : ((if p = q then (0 : Int) else if q < p then 1 else -1) < 0) ↔ p < q := by
  by_cases h : p = q
  · subst h; simp [Rat.lt_irrefl]
  · by_cases h2 : q < p
    · have : ¬ p < q := by grind
      simp [h, h2, this]
    · have : p < q := by grind
      simp [h, h2, this]
theorem ord_le {p q : Rat} : ((if p = q then (0 : Int) else if q < p then 1 else -1) ≤ 0) ↔ p ≤ q := by
  rw [← Int.not_lt, ord_gt, Rat.not_lt]
theorem ord_ge {p q : Rat} : (0 ≤ if p = q then (0 : Int) else if q < p then 1 else -1) ↔ q ≤ p := by
  rw [← Int.not_lt, ord_lt, Rat.not_lt]
/-- the first that a test lets pass -/
theorem first_ups {n : Nat} {p : D → Bool} (h : ¬ (ups 0 n).filter p = []) : ∃ k : Nat, k < n ∧ L2.atI ((ups 0 n).filter p) 0 = some (.int (k : Int)) ∧ p (.int (k : Int)) = true ∧ ∀ j : Nat, j < k → p (.int (j : Int)) = false := by
  have hk : ∃ k : Nat, (List.range n).find? (fun k : Nat => p (.int (k : Int))) = some k := by
    cases e : (List.range n).find? (fun k : Nat => p (.int (k : Int))) with
    | some k => exact ⟨k, rfl⟩
    | none =>
      refine absurd ?_ h
      rw [List.filter_eq_nil_iff]
      intro d hd
      obtain ⟨k, rfl, k0, k1⟩ := mem_ups hd
      have := List.find?_eq_none.mp e k.toNat (List.mem_range.mpr (by omega))
      have e2 : ((k.toNat : Nat) : Int) = k := by omega
      rw [e2] at this
      exact this
  obtain ⟨k, hk⟩ := hk
  have hk' := List.find?_range_eq_some.mp hk
  refine ⟨k, List.mem_range.mp hk'.2.1, ?_, hk'.1, fun j hj => by have := hk'.2.2 j hj; simpa using this⟩
  have hh : ((ups 0 n).filter p).head? = some (.int (k : Int)) := by
    rw [List.head?_filter]
    have : ups 0 n = (List.range n).map fun k : Nat => D.int (k : Int) := by
      unfold ups
      exact List.map_congr_left fun k _ => by rw [Int.zero_add]
    rw [this, List.find?_map]
    have e3 : (p ∘ fun k : Nat => D.int (k : Int)) = fun k : Nat => p (.int (k : Int)) := rfl
    rw [e3, hk]; rfl
  revert hh
  generalize (ups 0 n).filter p = l
  intro hh
  cases l with
  | nil => cases hh
  | cons a l => rw [at0]; exact hh
theorem none_ups {n : Nat} {p : D → Bool} (h : (ups 0 n).filter p = []) : ∀ k : Nat, k < n → p (.int (k : Int)) = false := fun k hk => by
  have := List.filter_eq_nil_iff.mp h (.int (0 + (k : Int))) (List.mem_map.mpr ⟨k, List.mem_range.mpr hk, rfl⟩)
  rw [Int.zero_add] at this
  simpa using this
end LW
set_option Elab.async false
set_option linter.all false
set_option maxRecDepth 100000
set_option maxHeartbeats 4000000
set_option autoImplicit false
namespace LW
open PySem PySem.Spec PyProof.Rows L2 LamX DL
section
variable {env e : DL.Env} {PL : List D → DL.Env → Prop} {PF : Fl → DL.Env → Prop} {X : Nat → DL.Env → Prop} {f : D → M Unit} {t : M Bool} {m : M D} {vs : List Nat}
theorem lst_succ {n : Nat} {h : Nat → D} : lst (n + 1) h = lst n h ++ [h n] := by unfold lst; rw [List.range_succ, List.map_append]; rfl
/-- a comprehension over a list told by a function -/
theorem wp_lcGo_lst {n : Nat} {x : Nat → D} (h : Nat → D) (hn : n < 16777216)
    (hs : ∀ k, k < n → wp (f (x k)) env (fun _ e => wp t e (fun b e => b = true ∧ wp m e (fun y e => y = h k ∧ noOwn e vs = true ∧ wipeE e vs = env) (fun _ _ => False)) (fun _ _ => False)) (fun _ _ => False)) (hP : PL (lst n h) env) : wp (lcGo vs f t m (lst n x) []) env PL X := by
  refine wp_lcGo_inv (fun i acc e => i ≤ n ∧ acc = lst i h ∧ e = env) ⟨Nat.zero_le _, rfl, rfl⟩ ?_ ?_
  · rintro i d acc e hx ⟨hi, rfl, rfl⟩
    obtain ⟨hlt, rfl⟩ := get_lst hx
    refine wp_imp (hs i hlt) (fun _ e h1 => wp_imp h1 (fun b e h2 => ?_) fun _ _ h => h.elim) fun _ _ h => h.elim
    obtain ⟨rfl, h2⟩ := h2
    rw [if_pos rfl]
    refine wp_imp h2 (fun y e h3 => ?_) fun _ _ h => h.elim
    obtain ⟨rfl, h4, h5⟩ := h3
    exact ⟨h4, by rw [lst_len]; omega, by omega, lst_succ.symm, h5⟩
  · rintro acc e ⟨_, rfl, rfl⟩
    rw [lst_len]; exact hP
/-- a loop over a list told by a function, by an invariant -/
theorem wp_forM_lst {b : M Fl} {n : Nat} {x : Nat → D} (Inv : Nat → DL.Env → Prop) (h0 : Inv 0 env)
    (hs : ∀ k e, k < n → Inv k e → wp (f (x k)) e (fun _ e => wp b e (fun r e => match r with
      | .nx => Inv (k + 1) e
      | .ct => Inv (k + 1) e
      | .brk => PF .nx e
      | .ret d => PF (.ret d) e) X) X)
    (hP : ∀ e, Inv n e → PF .nx e) : wp (forM f b (lst n x)) env PF X := by
  refine wp_forM_inv Inv h0 (fun i d e hx hi => ?_) (fun e h => hP e (by rw [lst_len] at h; exact h))
  obtain ⟨hlt, rfl⟩ := get_lst hx
  exact hs i e hlt hi
end
section
variable {env e : DL.Env} {PD : D → DL.Env → Prop} {X : Nat → DL.Env → Prop} {F : Nat → Rat} {n d m : Nat}
end
end LW
set_option Elab.async false
set_option linter.all false
set_option maxRecDepth 100000
set_option maxHeartbeats 4000000
set_option autoImplicit false
namespace LW
open PySem PySem.Spec PyProof.Rows L2 LamX DL
/-- a scale -/
abbrev scl (f s : Rat) : D := .obj 10 [sh f, sh s]
section
variable {env e : DL.Env} {PD : D → DL.Env → Prop} {X : Nat → DL.Env → Prop} {f s f' s' q : Rat} {d m d' m' c n c' n' : Nat}
theorem mkscl_ok (h : f ≠ 0) : mk_Scale [sh f, sh s] = .ok (scl f s) := by
  have h1 : f_Scale___init__ (.sf 10 []) [sh f, sh s] = .ok .non (.sf 10 [sh f, sh s]) := by
    refine run1_ok rfl rfl ?_
    have := num_ne h
    simp -implicitDefEqProofs [m_Scale___init__, env0, this]
  unfold mk_Scale mkF
  rw [h1]
  rfl
theorem mkscl_err : mk_Scale [sh 0, sh s] = .err 4 := by
  have h1 : f_Scale___init__ (.sf 10 []) [sh 0, sh s] = .err 4 (.sf 10 []) := by
    refine run1_err rfl rfl ?_
    simp -implicitDefEqProofs [m_Scale___init__, env0]
  unfold mk_Scale mkF
  rw [h1]
@[simp ↓] theorem wp_mkscl (h : f ≠ 0) : wp (callF mk_Scale [sh f, sh s]) env PD X = PD (scl f s) env := wp_callF (mkscl_ok h)
theorem plain_ok [zf : Sz d m f] [zs : Sz c n s] [zq : Sz d' m' q] (h : d' + m' + (d + m) + (c + n) ≤ 240) : f_Scale_plain [scl f s, sh q] = .ok (sh (q * f + s)) := by
  refine fok rfl rfl ?_
  have h1 : d' + m' + (d + m) ≤ 240 := by omega
  have h2 : d' + d + (m' + m) + (c + n) ≤ 240 := by omega
  simp -implicitDefEqProofs [m_Scale_plain, env0, h1, h2]
theorem mark_ok [zf : Sz d m f] [zs : Sz c n s] [zq : Sz d' m' q] (h : d' + m' + (d + m) + (c + n) + 1 ≤ 240) (h0 : f ≠ 0) : f_Scale_mark [scl f s, sh q] = .ok (sh ((q - s) / f)) := by
  refine fok rfl rfl ?_
  have h1 : d' + m' + (c + n) ≤ 240 := by omega
  have h2 : d' + c + (m' + n + 1) + (d + m) ≤ 240 := by omega
  simp -implicitDefEqProofs [m_Scale_mark, env0, h1, h2, h0]
theorem step_ok [zf : Sz d m f] [zq : Sz d' m' q] (h : d' + m' + (d + m) ≤ 240) : f_Scale_step [scl f s, sh q] = .ok (sh (q * f)) := by
  refine fok rfl rfl ?_
  simp -implicitDefEqProofs [m_Scale_step, env0, h]
theorem toldby_ok [zf : Sz d m f] [zs : Sz c n s] [zf' : Sz d' m' f'] [zs' : Sz c' n' s'] (h : d + m + (d' + m') ≤ 240) (h2 : c + n + (d' + m') + (c' + n') ≤ 240) (h0 : f ≠ 0) (h0' : f' ≠ 0) : f_Scale_told_by [scl f s, scl f' s'] = .ok (scl (f * f') (s * f' + s')) := by
  refine fok rfl rfl ?_
  have h1 : c + n + (d' + m') ≤ 240 := by omega
  have h3 : c + d' + (n + m') + (c' + n') ≤ 240 := by omega
  have h4 : f * f' ≠ 0 := by
    intro e
    rcases Rat.mul_eq_zero.mp e with e | e
    · exact h0 e
    · exact h0' e
  simp -implicitDefEqProofs [m_Scale_told_by, env0, h, h1, h3, h4]
theorem inv_ne (h0 : f ≠ 0) : 1 / f ≠ 0 := by
  intro e
  have := Rat.div_mul_cancel (a := 1) h0
  rw [e, Rat.zero_mul] at this
  exact absurd this (by decide)
theorem turned_ok [zf : Sz d m f] [zs : Sz c n s] (h : d + m + (c + n) ≤ 200) (h0 : f ≠ 0) : f_Scale_turned [scl f s] = .ok (scl (1 / f) ((0 - s) / f)) := by
  refine fok rfl rfl ?_
  have h1 : 1 + 1 + (d + m) ≤ 240 := by omega
  have h2 : 1 + 0 + (c + n) ≤ 240 := by omega
  have h3 : 1 + c + (0 + n + 1) + (d + m) ≤ 240 := by omega
  have e1 : sh ((1 : Int) : Rat) = sh 1 := rfl
  have e0 : sh ((0 : Int) : Rat) = sh 0 := rfl
  simp -implicitDefEqProofs [m_Scale_turned, env0, h1, h2, h0, e1, e0]
  rw [wp_over h3 h0]
  simp -implicitDefEqProofs [inv_ne h0]
theorem skey_ok : f_Scale_key [scl f s] = .ok (.tup [lp f, lp s]) := by
  refine fok rfl rfl ?_
  simp -implicitDefEqProofs [m_Scale_key, env0]
@[simp ↓] theorem wp_plain [zf : Sz d m f] [zs : Sz c n s] [zq : Sz d' m' q] (h : d' + m' + (d + m) + (c + n) ≤ 240) : wp (callF f_Scale_plain [scl f s, sh q]) env PD X = PD (sh (q * f + s)) env := wp_callF (plain_ok h)
@[simp ↓] theorem wp_mark [zf : Sz d m f] [zs : Sz c n s] [zq : Sz d' m' q] (h : d' + m' + (d + m) + (c + n) + 1 ≤ 240) (h0 : f ≠ 0) : wp (callF f_Scale_mark [scl f s, sh q]) env PD X = PD (sh ((q - s) / f)) env := wp_callF (mark_ok h h0)
@[simp ↓] theorem wp_step [zf : Sz d m f] [zq : Sz d' m' q] (h : d' + m' + (d + m) ≤ 240) : wp (callF f_Scale_step [scl f s, sh q]) env PD X = PD (sh (q * f)) env := wp_callF (step_ok h)
@[simp ↓] theorem wp_toldby [zf : Sz d m f] [zs : Sz c n s] [zf' : Sz d' m' f'] [zs' : Sz c' n' s'] (h : d + m + (d' + m') ≤ 240) (h2 : c + n + (d' + m') + (c' + n') ≤ 240) (h0 : f ≠ 0) (h0' : f' ≠ 0) : wp (callF f_Scale_told_by [scl f s, scl f' s']) env PD X = PD (scl (f * f') (s * f' + s')) env := wp_callF (toldby_ok h h2 h0 h0')
@[simp ↓] theorem wp_turned [zf : Sz d m f] [zs : Sz c n s] (h : d + m + (c + n) ≤ 200) (h0 : f ≠ 0) : wp (callF f_Scale_turned [scl f s]) env PD X = PD (scl (1 / f) ((0 - s) / f)) env := wp_callF (turned_ok h h0)
@[simp ↓] theorem wp_skey : wp (callF f_Scale_key [scl f s]) env PD X = PD (.tup [lp f, lp s]) env := wp_callF skey_ok
end
end LW
set_option Elab.async false
set_option linter.all false
set_option maxRecDepth 100000
set_option maxHeartbeats 4000000
set_option autoImplicit false
namespace LW
open PySem PySem.Spec PyProof.Rows L2 LamX DL
abbrev tf (f f' : Rat) : Rat := f * (1 / f')
abbrev ts (s f' s' : Rat) : Rat := s * (1 / f') + (0 - s') / f'
/-- two scales -/
structure Two (f s f' s' : Rat) : Prop where
  zf : Sz 3 4 f
  zs : Sz 3 6 s
  zf' : Sz 3 4 f'
  zs' : Sz 3 6 s'
  n : f ≠ 0
  n' : f' ≠ 0
section
variable {env e : DL.Env} {PD : D → DL.Env → Prop} {X : Nat → DL.Env → Prop} {f s f' s' q p : Rat} {d m d' m' c n c' n' : Nat}
theorem tf_ne (h : f ≠ 0) (h' : f' ≠ 0) : tf f f' ≠ 0 := by
  intro e
  rcases Rat.mul_eq_zero.mp e with e | e
  · exact h e
  · exact inv_ne h' e
theorem tf_one (h' : f' ≠ 0) : tf f f' = 1 ↔ f = f' := by
  have h1 : tf f f' * f' = f := by
    show f * (1 / f') * f' = f
    rw [Rat.mul_assoc, Rat.div_mul_cancel h', Rat.mul_one]
  constructor
  · intro e; rw [← h1, e, Rat.one_mul]
  · intro e
    subst e
    show f * (1 / f) = 1
    rw [Rat.mul_comm]; exact Rat.div_mul_cancel h'
theorem between_ok (t : Two f s f' s') : f_between [scl f s, scl f' s'] = .ok (scl (tf f f') (ts s f' s')) := by
  refine fok rfl rfl ?_
  have z1 := t.zf
  have z2 := t.zs
  have z3 := t.zf'
  have z4 := t.zs'
  have n1 := t.n
  have n2 := t.n'
  have n3 := inv_ne n2
  simp -implicitDefEqProofs [m_between, env0, n1, n2, n3]
@[simp ↓] theorem wp_between (t : Two f s f' s') : wp (callF f_between [scl f s, scl f' s']) env PD X = PD (scl (tf f f') (ts s f' s')) env := wp_callF (between_ok t)
theorem eq_lit {a b : Rat} (h : sh a = sh b) : a = b := by
  unfold sh at h
  injection h with _ h
  injection h with h1 h2
  injection h2 with h2 _
  injection h1 with h1
  injection h2 with h2
  exact Rat.ext h1 (by omega)
theorem sh_one : sh ((1 : Int) : Rat) = sh 1 := rfl
theorem sh_zero : sh ((0 : Int) : Rat) = sh 0 := rfl
theorem agree_ok (t : Two f s f' s') (h : f ≠ f') : f_agree_at [scl f s, scl f' s'] = .ok (sh (ts s f' s' / (1 - tf f f'))) := by
  refine fok rfl rfl ?_
  have z1 := t.zf
  have z2 := t.zs
  have z3 := t.zf'
  have z4 := t.zs'
  have n1 := t.n
  have n2 := t.n'
  have h1 : ¬ tf f f' = 1 := fun e => h ((tf_one n2).mp e)
  have h2 : 1 - tf f f' ≠ 0 := by grind
  have h3 : ¬ (if 1 < tf f f' then (1 : Int) else -1) = 0 := by split <;> decide
  simp -implicitDefEqProofs [m_agree_at, env0, wp_between t, sh_one, h1, h2, h3]
theorem agree_err (t : Two f s f' s') (h : f = f') : f_agree_at [scl f s, scl f' s'] = .err 6 := by
  refine ferr rfl rfl ?_
  have z1 := t.zf
  have z2 := t.zs
  have z3 := t.zf'
  have z4 := t.zs'
  have n1 := t.n
  have n2 := t.n'
  have h1 : tf f f' = 1 := (tf_one n2).mpr h
  simp -implicitDefEqProofs [m_agree_at, env0, wp_between t, sh_one, h1]
/-- what two scales tell alike -/
theorem agree_eq (t : Two f s f' s') (h : f ≠ f') : ts s f' s' / (1 - tf f f') * f + s = ts s f' s' / (1 - tf f f') * f' + s' := by
  have n2 := t.n'
  have h1 : ¬ tf f f' = 1 := fun e => h ((tf_one n2).mp e)
  have h2 : 1 - tf f f' ≠ 0 := by grind
  have e1 : ts s f' s' / (1 - tf f f') * (1 - tf f f') = ts s f' s' := Rat.div_mul_cancel h2
  have e2 : (1 / f') * f' = 1 := Rat.div_mul_cancel n2
  have e3 : (0 - s') / f' * f' = 0 - s' := Rat.div_mul_cancel n2
  have e5 : tf f f' * f' = f := by
    show f * (1 / f') * f' = f
    rw [Rat.mul_assoc, e2, Rat.mul_one]
  have e6 : ts s f' s' * f' = s - s' := by
    show (s * (1 / f') + (0 - s') / f') * f' = _
    grind
  generalize ts s f' s' / (1 - tf f f') = x at *
  generalize tf f f' = y at *
  generalize ts s f' s' = w at *
  grind
theorem points_ok {a b : Rat} [za : Sz 3 6 a] [zb : Sz 6 12 b] [zf : Sz 3 4 f] [zs : Sz 3 6 s] (h : a ≠ b) (h0 : f ≠ 0) : f_from_points [.tup [sh a, sh (a * f + s)], .tup [sh b, sh (b * f + s)]] = .ok (scl f s) := by
  refine fok rfl rfl ?_
  have h1 : b - a ≠ 0 := by grind
  have h2 : ¬ (b - a).num = 0 := num_ne h1
  have e1 : (b * f + s - (a * f + s)) / (b - a) = f := by
    have : b * f + s - (a * f + s) = f * (b - a) := by grind
    rw [this, Rat.mul_div_cancel h1]
  have e2 : a * f + s - a * f = s := by grind
  simp -implicitDefEqProofs [m_from_points, env0, at0, at1, h1, h2, e1, e2, h0]
theorem points_err {a : Rat} [za : Sz 3 6 a] {x y : D} : f_from_points [.tup [sh a, x], .tup [sh a, y]] = .err 4 := by
  refine ferr rfl rfl ?_
  have e1 : a - a = 0 := by grind
  simp -implicitDefEqProofs [m_from_points, env0, at0, at1, e1]
end
end LW
set_option Elab.async false
set_option linter.all false
set_option maxRecDepth 100000
set_option maxHeartbeats 4000000
set_option autoImplicit false
namespace LW
open PySem PySem.Spec PyProof.Rows L2 LamX DL
abbrev K3 : List Key := [.inr "one", .inr "plain", .inr "two"]
abbrev scs (f s f' s' : Rat) : D := .obj 11 [.dic K3 [scl f s, scl 1 0, scl f' s']]
section
variable {env e : DL.Env} {PD : D → DL.Env → Prop} {X : Nat → DL.Env → Prop} {f s f' s' q p : Rat} {d m d' m' c n c' n' : Nat}
@[simp ↓] theorem in_one {a b c : D} : wp (lift (dInA true (.str "one") (.dic K3 [a, b, c]))) env PD X = PD (.bl false) env := rfl
@[simp ↓] theorem in_two {a b c : D} : wp (lift (dInA true (.str "two") (.dic K3 [a, b, c]))) env PD X = PD (.bl false) env := rfl
@[simp ↓] theorem in_plain {a b c : D} : wp (lift (dInA true (.str "plain") (.dic K3 [a, b, c]))) env PD X = PD (.bl false) env := rfl
@[simp ↓] theorem in_none {a b c : D} : wp (lift (dInA true (.str "none") (.dic K3 [a, b, c]))) env PD X = PD (.bl true) env := rfl
@[simp ↓] theorem ix_one {a b c : D} : wp (lift (dIxA (.dic K3 [a, b, c]) (.str "one"))) env PD X = PD a env := rfl
@[simp ↓] theorem ix_two {a b c : D} : wp (lift (dIxA (.dic K3 [a, b, c]) (.str "two"))) env PD X = PD c env := rfl
@[simp ↓] theorem ix_plain {a b c : D} : wp (lift (dIxA (.dic K3 [a, b, c]) (.str "plain"))) env PD X = PD b env := rfl
@[simp ↓] theorem sc_one : wp (callF f_Scales_scale_of [scs f s f' s', .str "one"]) env PD X = PD (scl f s) env := wp_callF (by
  refine fok rfl rfl ?_
  simp -implicitDefEqProofs [m_Scales_scale_of, env0])
@[simp ↓] theorem sc_two : wp (callF f_Scales_scale_of [scs f s f' s', .str "two"]) env PD X = PD (scl f' s') env := wp_callF (by
  refine fok rfl rfl ?_
  simp -implicitDefEqProofs [m_Scales_scale_of, env0])
@[simp ↓] theorem sc_plain : wp (callF f_Scales_scale_of [scs f s f' s', .str "plain"]) env PD X = PD (scl 1 0) env := wp_callF (by
  refine fok rfl rfl ?_
  simp -implicitDefEqProofs [m_Scales_scale_of, env0])
@[simp ↓] theorem sc_none : wp (callF f_Scales_scale_of [scs f s f' s', .str "none"]) env PD X = X 5 env := wp_callFe (by
  refine ferr rfl rfl ?_
  simp -implicitDefEqProofs [m_Scales_scale_of, env0])
theorem sort3 : sortT (["one", "two", "plain"] : List Str) = (["one", "plain", "two"] : List Str) := (sortT_of (ks := ["one", "two", "plain"]) (ys := ["one", "plain", "two"]) (by decide +kernel) (by decide +kernel)).symm
theorem disp3 {a b c : D} : dDisp [.str "one", a, .str "two", b, .str "plain", c] = some (.dic [.inr "one", .inr "two", .inr "plain"] [a, b, c]) := rfl
theorem scales_ok {a b c : D} : mk_Scales [.dic [.inr "one", .inr "two", .inr "plain"] [a, b, c]] = .ok (.obj 11 [.dic K3 [a, c, b]]) := by
  have h1 : f_Scales___init__ (.sf 11 []) [.dic [.inr "one", .inr "two", .inr "plain"] [a, b, c]] = .ok .non (.sf 11 [.dic K3 [a, c, b]]) := by
    refine run1_ok rfl rfl ?_
    have e1 : dSortB (.dic [.inr "one", .inr "two", .inr "plain"] [a, b, c]) = some [.str "one", .str "plain", .str "two"] := by
      show (if (["one", "two", "plain"] : List Str).length < 64 then some ((sortT ["one", "two", "plain"]).map D.str) else none) = _
      rw [if_pos (by decide), sort3]
      rfl
    have i1 : ∀ {e : DL.Env} {P : D → DL.Env → Prop} {X : Nat → DL.Env → Prop}, wp (lift (dIxA (.dic [.inr "one", .inr "two", .inr "plain"] [a, b, c]) (.str "one"))) e P X = P a e := rfl
    have i2 : ∀ {e : DL.Env} {P : D → DL.Env → Prop} {X : Nat → DL.Env → Prop}, wp (lift (dIxA (.dic [.inr "one", .inr "two", .inr "plain"] [a, b, c]) (.str "two"))) e P X = P b e := rfl
    have i3 : ∀ {e : DL.Env} {P : D → DL.Env → Prop} {X : Nat → DL.Env → Prop}, wp (lift (dIxA (.dic [.inr "one", .inr "two", .inr "plain"] [a, b, c]) (.str "plain"))) e P X = P c e := rfl
    have d1 : dDict (.lst [.tup [.str "one", a], .tup [.str "plain", c], .tup [.str "two", b]]) = some (.dic K3 [a, c, b]) := rfl
    simp -implicitDefEqProofs [m_Scales___init__, env0, e1, noOwn, wipeE, restore, wp_lcGo_cons, wp_lcGo_nil, i1, i2, i3, d1]
  unfold mk_Scales mkF
  rw [h1]
  rfl
theorem told_ok [zf : Sz d m f] [zs : Sz c n s] [zf' : Sz d' m' f'] [zs' : Sz c' n' s'] [zq : Sz 6 16 q] (h : d + m + (c + n) + (d' + m') + (c' + n') ≤ 200) (h0 : f' ≠ 0) : f_Scales_told [scs f s f' s', sh q, .str "one", .str "two"] = .ok (sh ((q * f + s - s') / f')) := by
  refine fok rfl rfl ?_
  simp -implicitDefEqProofs [m_Scales_told, env0]
  rw [wp_plain (by omega), wp_mark (by omega) h0]
theorem toldp_ok (t : Two f s f' s') [zq : Sz 3 6 q] : f_Scales_told [scs f s f' s', sh q, .str "one", .str "plain"] = .ok (sh (q * f + s)) := by
  refine fok rfl rfl ?_
  have z1 := t.zf
  have z2 := t.zs
  have e1 : (q * f + s - 0) / 1 = q * f + s := by grind
  simp -implicitDefEqProofs [m_Scales_told, env0, e1]
theorem told_err : f_Scales_told [scs f s f' s', sh q, .str "one", .str "none"] = .err 5 := by
  refine ferr rfl rfl ?_
  simp -implicitDefEqProofs [m_Scales_told, env0]
theorem gap_ok (t : Two f s f' s') [zq : Sz 3 6 q] : f_Scales_gap [scs f s f' s', sh q, .str "one", .str "two"] = .ok (sh (q * f / f')) := by
  refine fok rfl rfl ?_
  have z1 := t.zf
  have z2 := t.zs
  have z3 := t.zf'
  have n2 := t.n'
  simp -implicitDefEqProofs [m_Scales_gap, env0, n2]
theorem rises_ok (t : Two f s f' s') : f_Scales_rises [scs f s f' s', .str "one", .str "two"] = .ok (.bl (decide (0 < f * f'))) := by
  refine fok rfl rfl ?_
  have h : 0 < tf f f' ↔ 0 < f * f' := by
    have e : f * f' = tf f f' * (f' * f') := by
      have := Rat.div_mul_cancel (a := 1) t.n'
      show f * f' = f * (1 / f') * (f' * f')
      grind
    have h2 : 0 < f' * f' := by
      rcases Std.lt_trichotomy f' 0 with h | h | h
      · have := Rat.mul_pos (show 0 < -f' by grind) (show 0 < -f' by grind)
        grind
      · exact absurd h t.n'
      · exact Rat.mul_pos h h
    rw [e]
    exact (Rat.mul_pos_iff_of_pos_right h2).symm
  simp -implicitDefEqProofs [m_Scales_rises, env0, wp_between t, num_gt0, h]
theorem meet_ok (t : Two f s f' s') (h : f ≠ f') : f_Scales_meet [scs f s f' s', .str "one", .str "two"] = .ok (sh (ts s f' s' / (1 - tf f f'))) := by
  refine fok rfl rfl ?_
  simp -implicitDefEqProofs [m_Scales_meet, env0, wp_callF (agree_ok t h)]
theorem meet_err (t : Two f s f' s') (h : f = f') : f_Scales_meet [scs f s f' s', .str "one", .str "two"] = .err 6 := by
  refine ferr rfl rfl ?_
  simp -implicitDefEqProofs [m_Scales_meet, env0, wp_callFe (agree_err t h)]
end
end LW
set_option Elab.async false
set_option linter.all false
set_option maxRecDepth 100000
set_option maxHeartbeats 4000000
set_option autoImplicit false
namespace LW
open PySem PySem.Spec PyProof.Rows L2 LamX DL
abbrev td (f s f' s' q : Rat) : Rat := (q * f + s - s') / f'
abbrev hkq (q u : Rat) (k : Nat) : Rat := q + (((k : Nat) : Int) : Rat) * u
abbrev rowP (f s f' s' q u : Rat) (k : Nat) : D := .tup [sh (hkq q u k), sh (td f s f' s' (hkq q u k))]
def wholeP (f s f' s' : Rat) : D → Bool
  | .int k => decide (((td f s f' s' (k : Rat)).den : Int) = 1)
  | _ => false
theorem sz_hk {q u : Rat} [zq : Sz 3 6 q] [zu : Sz 2 3 u] {k : Nat} (hk' : k < 32) : Sz 6 16 (hkq q u k) := by
  have z1 : Sz 1 5 (((k : Nat) : Int) : Rat) := sz_int (by show k < 32; exact hk')
  have z2 : Sz (1 + 2) (5 + 3) ((((k : Nat) : Int) : Rat) * u) := sz_mul
  have z3 : Sz (3 + (1 + 2)) (6 + (5 + 3) + 1) (q + (((k : Nat) : Int) : Rat) * u) := sz_add (h' := z2)
  exact z3.mono (by decide) (by decide)
section
variable {env e : DL.Env} {PD : D → DL.Env → Prop} {X : Nat → DL.Env → Prop} {f s f' s' q u w : Rat} {d m d' m' c n c' n' : Nat}
theorem told_k (t : Two f s f' s') [zq : Sz 6 16 q] : f_Scales_told [scs f s f' s', sh q, .str "one", .str "two"] = .ok (sh (td f s f' s' q)) :=
  have z1 := t.zf
  have z2 := t.zs
  have z3 := t.zf'
  have z4 := t.zs'
  told_ok (by decide) t.n'
theorem table_ok (t : Two f s f' s') [zq : Sz 3 6 q] [zu : Sz 2 3 u] [zw : Sz 4 11 w] {c : Nat} (hc : c ≤ 20) (h1 : ∀ k, k < c → hkq q u k ≤ w) (h2 : w < hkq q u c) (hu : 0 < u) :
    f_Scales_table [scs f s f' s', .str "one", .str "two", sh q, sh w, sh u] = .ok (.tup (lst c (rowP f s f' s' q u))) := by
  refine fok rfl rfl ?_
  have e0 : sh q = sh (hkq q u 0) := by
    have : hkq q u 0 = q := by
      show q + (((0 : Nat) : Int) : Rat) * u = q
      grind
    rw [this]
  simp -implicitDefEqProofs [m_Scales_table, env0, num_le0, nle hu]
  refine wp_while_inv (fun r e => ∃ k, k ≤ c ∧ r = c - k ∧ e = [.im (scs f s f' s'), .im (.str "one"), .im (.str "two"), .im (sh q), .im (sh w), .im (sh u), .ol (lst k (rowP f s f' s' q u)), .im (sh (hkq q u k))]) c ⟨0, Nat.zero_le _, rfl, by rw [← e0]; rfl⟩ (by omega) ?_
  rintro r e ⟨k, hk1, rfl, rfl⟩
  have zk : Sz 6 16 (hkq q u k) := sz_hk (by omega)
  by_cases hlt : k < c
  · have e1 : hkq q u k + u = hkq q u (k + 1) := by
      show q + (((k : Nat) : Int) : Rat) * u + u = q + (((k + 1 : Nat) : Int) : Rat) * u
      have : (((k + 1 : Nat) : Int) : Rat) = (((k : Nat) : Int) : Rat) + 1 := by norm_cast
      rw [this]; grind
    simp -implicitDefEqProofs [↓ord_le, h1 k hlt, wp_callF (told_k t (q := hkq q u k)), e1]
    refine ⟨by omega, c - (k + 1), by omega, k + 1, by omega, rfl, ?_⟩
    rw [lst_succ]
    exact ⟨rfl, rfl⟩
  · have : k = c := by omega
    subst this
    have h3 : ¬ hkq q u k ≤ w := Rat.not_le.mpr h2
    simp -implicitDefEqProofs [↓ord_le, h3]
theorem table_err {x : D} : f_Scales_table [x, .str "one", .str "two", sh q, sh w, sh 0] = .err 2 := by
  refine ferr rfl rfl ?_
  simp -implicitDefEqProofs [m_Scales_table, env0]
theorem whole_ok (t : Two f s f' s') {lo : Int} (h1 : -100 ≤ lo) (h2 : lo ≤ 100) : f_Scales_whole_marks [scs f s f' s', .str "one", .str "two", .int lo, .int (lo + 11)] = .ok (.tup ((ups lo 12).filter (wholeP f s f' s'))) := by
  refine fok rfl rfl ?_
  have e1 : (lo + 11 + 1 - lo).toNat = 12 := by omega
  simp -implicitDefEqProofs [m_Scales_whole_marks, env0, e1, noOwn, wipeE, restore]
  refine ⟨by omega, ?_⟩
  refine wp_lcGo_pure (wholeP f s f' s') id (by rw [ups_len]; omega) (fun d hd => ?_) ?_
  · obtain ⟨k, rfl, k1, k2⟩ := mem_ups hd
    have z1 : Sz 6 16 (k : Rat) := (sz_int (show k.natAbs < 2 ^ 7 by omega)).mono (by decide) (by decide)
    have hw : f_Share_is_whole [sh (td f s f' s' (k : Rat))] = .ok (.bl (decide (((td f s f' s' (k : Rat)).den : Int) = 1))) := by
      refine fok rfl rfl ?_
      simp -implicitDefEqProofs [m_Share_is_whole, env0]
    simp -implicitDefEqProofs [noOwn, wipeE, wp_callF (told_k t (q := (k : Rat))), wp_callF hw, wholeP]
  · simp -implicitDefEqProofs
end
end LW
set_option Elab.async false
set_option linter.all false
set_option maxRecDepth 100000
set_option maxHeartbeats 4000000
set_option autoImplicit false
namespace LW
open PySem PySem.Spec PyProof.Rows L2 LamX DL
abbrev ptD (H Y : Nat → Rat) (k : Nat) : D := .tup [sh (H k), sh (Y k)]
abbrev ptsD (n : Nat) (H Y : Nat → Rat) : D := .lst (lst n (ptD H Y))
structure Pts (n : Nat) (H Y : Nat → Rat) : Prop where
  zh : ∀ k, Sz 2 6 (H k)
  zy : ∀ k, Sz 2 5 (Y k)
  up : ∀ k, k + 1 < n → H k < H (k + 1)
theorem Pts.lt {n : Nat} {H Y : Nat → Rat} (h : Pts n H Y) {i : Nat} : ∀ {j : Nat}, i < j → j < n → H i < H j
  | 0, hij, _ => by omega
  | j + 1, hij, hj => by
    by_cases e : i = j
    · subst e; exact h.up i hj
    · have h1 := h.lt (i := i) (j := j) (by omega) (by omega)
      have h2 := h.up j hj
      grind
def lineG (H Y : Nat → Rat) (a : Rat) (J : Nat) : Rat := Y (J - 1) + (Y J - Y (J - 1)) * ((a - H (J - 1)) / (H J - H (J - 1)))
section
variable {env e : DL.Env} {PD : D → DL.Env → Prop} {X : Nat → DL.Env → Prop} {n : Nat} {H Y : Nat → Rat} {a : Rat}
theorem bp_gen (h : Pts n H Y) : genRun false [0] (setU 0) (o2 dLe (meA ma_order_1 (o2 dIxA (ixNm 1 dIxA (gv 0)) (ret (.int 0))) (mcons (o2 dIxA (ixNm 1 dIxA (o2 dSub (gv 0) (ret (.int 1)))) (ret (.int 0))) (ret []))) (ret (.int 0))) (ups 1 (n - 1)) [.no, .im (ptsD n H Y)] = some false := by
  rw [genRun_ok (e := [.no, .im (ptsD n H Y)]) rfl (fun _ => false)]
  · simp
  · intro x hx
    obtain ⟨k, rfl, k1, k2⟩ := mem_ups hx
    obtain ⟨j, rfl⟩ : ∃ j : Nat, k = (j : Int) + 1 := ⟨(k - 1).toNat, by omega⟩
    have hj : j + 1 < n := by omega
    have a1 : L2.atI (lst n (ptD H Y)) ((j : Int) + 1) = some (ptD H Y (j + 1)) := atI_lst (j + 1) (by omega) hj
    have a2 : L2.atI (lst n (ptD H Y)) (j : Int) = some (ptD H Y j) := atI_lst j (by omega) (by omega)
    have z1 := h.zh j
    have z2 := h.zh (j + 1)
    have h1 : ¬ H (j + 1) ≤ H j := Rat.not_le.mpr (h.up j hj)
    simp -implicitDefEqProofs [a1, a2, at0, ↓ord_le, h1, wipeE]
theorem bp_one {d : D} : f_between_points [.lst [d], sh a] = .err 4 := by
  refine ferr rfl rfl ?_
  simp -implicitDefEqProofs [m_between_points, env0]
theorem bp_ok (h : Pts n H Y) (hn : 2 ≤ n) (hn' : n ≤ 100) [za : Sz 2 6 a] {J : Nat} (j1 : 1 ≤ J) (j2 : J < n) (j3 : H (J - 1) ≤ a) (j4 : a ≤ H J) (j5 : ∀ j, 1 ≤ j → j < J → H j < a) : f_between_points [ptsD n H Y, sh a] = .ok (sh (lineG H Y a J)) := by
  refine fok rfl rfl ?_
  have e1 : ((n : Int) - 1).toNat = n - 1 := by omega
  have e2 : ¬ (n : Int) < 2 := by omega
  simp -implicitDefEqProofs [m_between_points, env0, e1, e2, capE, capS, bp_gen h]
  refine ⟨by omega, ?_⟩
  rw [ups_lst]
  refine wp_forM_lst (fun i e => i + 1 ≤ J ∧ ∃ s : Slot, s.pin = false ∧ e = [.im (ptsD n H Y), .im (sh a), s, .no, .no, .no]) ⟨j1, .no, rfl, rfl⟩ ?_ ?_
  · rintro i e hi ⟨i1, s, hs, rfl⟩
    have a1 : L2.atI (lst n (ptD H Y)) (1 + (i : Int)) = some (ptD H Y (i + 1)) := atI_lst (i + 1) (by omega) (by omega)
    have a2 : L2.atI (lst n (ptD H Y)) (1 + (i : Int) - 1) = some (ptD H Y i) := atI_lst i (by omega) (by omega)
    have z1 := h.zh i
    have z2 := h.zh (i + 1)
    have z3 := h.zy i
    have z4 := h.zy (i + 1)
    have n1 : H (i + 1) - H i ≠ 0 := by have := h.up i (by omega); grind
    by_cases hJ : i + 1 = J
    · have hi : i = J - 1 := by omega
      have b1 : H i ≤ a := by rw [hi]; exact j3
      have b2 : a ≤ H (i + 1) := by rw [hJ]; exact j4
      have b3 : lineG H Y a J = Y i + (Y (i + 1) - Y i) * ((a - H i) / (H (i + 1) - H i)) := by
        unfold lineG
        rw [← hi, ← hJ]
      simp -implicitDefEqProofs [wp_setU0 hs, a1, a2, at0, at1, ↓ord_le, b1, b2, n1, b3]
    · have b2 : ¬ a ≤ H (i + 1) := Rat.not_le.mpr (j5 (i + 1) (by omega) (by omega))
      by_cases b1 : H i ≤ a
      · simp -implicitDefEqProofs [wp_setU0 hs, a1, a2, at0, at1, ↓ord_le, b1, b2]
        omega
      · simp -implicitDefEqProofs [wp_setU0 hs, a1, a2, at0, at1, ↓ord_le, b1]
        omega
  · rintro e ⟨i1, _⟩
    omega
theorem bp_err (h : Pts n H Y) (hn : 2 ≤ n) (hn' : n ≤ 100) [za : Sz 2 6 a] (ho : a < H 0 ∨ H (n - 1) < a) : f_between_points [ptsD n H Y, sh a] = .err 2 := by
  refine ferr rfl rfl ?_
  have e1 : ((n : Int) - 1).toNat = n - 1 := by omega
  have e2 : ¬ (n : Int) < 2 := by omega
  simp -implicitDefEqProofs [m_between_points, env0, e1, e2, capE, capS, bp_gen h]
  refine ⟨by omega, ?_⟩
  rw [ups_lst]
  refine wp_forM_lst (fun i e => ∃ s : Slot, s.pin = false ∧ e = [.im (ptsD n H Y), .im (sh a), s, .no, .no, .no]) ⟨.no, rfl, rfl⟩ ?_ ?_
  · rintro i e hi ⟨s, hs, rfl⟩
    have a1 : L2.atI (lst n (ptD H Y)) (1 + (i : Int)) = some (ptD H Y (i + 1)) := atI_lst (i + 1) (by omega) (by omega)
    have a2 : L2.atI (lst n (ptD H Y)) (1 + (i : Int) - 1) = some (ptD H Y i) := atI_lst i (by omega) (by omega)
    have z1 := h.zh i
    have z2 := h.zh (i + 1)
    by_cases b1 : H i ≤ a
    · have b2 : ¬ a ≤ H (i + 1) := by
        rcases ho with ho | ho
        · have : H 0 ≤ H i := by
            by_cases e : i = 0
            · subst e; exact Rat.le_refl
            · have := h.lt (i := 0) (j := i) (by omega) (by omega)
              grind
          grind
        · have : H (i + 1) ≤ H (n - 1) := by
            by_cases e : i + 1 = n - 1
            · rw [e]; exact Rat.le_refl
            · have := h.lt (i := i + 1) (j := n - 1) (by omega) (by omega)
              grind
          grind
      simp -implicitDefEqProofs [wp_setU0 hs, a1, a2, at0, at1, ↓ord_le, b1, b2]
    · simp -implicitDefEqProofs [wp_setU0 hs, a1, a2, at0, at1, ↓ord_le, b1]
  · rintro e ⟨s, hs, rfl⟩
    simp -implicitDefEqProofs
end
end LW
set_option Elab.async false
set_option linter.all false
set_option maxRecDepth 100000
set_option maxHeartbeats 4000000
set_option autoImplicit false
namespace LW
open PySem PySem.Spec PyProof.Rows L2 LamX DL
def ab (x : Rat) : Rat := if x < 0 then -x else x
theorem ab_dv (x : Rat) : Rat.divInt (if x.num < 0 then -x.num else x.num) x.den = ab x := by
  unfold ab
  by_cases h : x < 0
  · rw [if_pos h, if_pos (num_lt0.mpr h), ← Rat.neg_num, ← Rat.neg_den, Rat.num_divInt_den]
  · rw [if_neg h, if_neg (fun q => h (num_lt0.mp q)), Rat.num_divInt_den]
theorem ab_num (x : Rat) : (if x.num < 0 then -x.num else x.num) = (ab x).num := by
  unfold ab
  by_cases h : x < 0
  · rw [if_pos h, if_pos (num_lt0.mpr h), ← Rat.neg_num]
  · rw [if_neg h, if_neg (fun q => h (num_lt0.mp q))]
theorem ab_den (x : Rat) : (ab x).den = x.den := by
  unfold ab
  split
  · exact Rat.neg_den _
  · rfl
theorem sz_ab {x : Rat} {d m : Nat} (h : Sz d m x) : Sz d m (ab x) := by
  unfold ab
  split
  · exact sz_neg h
  · exact h
structure Best (G : Nat → Rat) (k w : Nat) : Prop where
  lt : w < k
  all : ∀ j, j < k → G j ≤ G w
  fst : ∀ j, j < w → G j < G w
theorem Best.unique {G : Nat → Rat} {k w v : Nat} (h : Best G k w) (h' : Best G k v) : w = v := by
  rcases Nat.lt_trichotomy w v with q | q | q
  · have h1 := h'.fst w q
    have h2 := h.all v h'.lt
    grind
  · exact q
  · have h1 := h.fst v q
    have h2 := h'.all w h.lt
    grind
theorem Best.ex (G : Nat → Rat) : ∀ n, 1 ≤ n → ∃ w, Best G n w
  | 0, h => by omega
  | 1, _ => ⟨0, by omega, fun j hj => by have : j = 0 := by omega
                                         subst this; exact Rat.le_refl, fun j hj => by omega⟩
  | n + 2, _ => by
    obtain ⟨w, h⟩ := Best.ex G (n + 1) (by omega)
    by_cases hc : G w < G (n + 1)
    · refine ⟨n + 1, by omega, fun j hj => ?_, fun j hj => ?_⟩
      · by_cases e : j = n + 1
        · subst e; exact Rat.le_refl
        · have := h.all j (by omega); grind
      · have := h.all j hj; grind
    · refine ⟨w, by have := h.lt; omega, fun j hj => ?_, h.fst⟩
      by_cases e : j = n + 1
      · subst e; exact Rat.not_lt.mp hc
      · exact h.all j (by omega)
def gapG (f s : Rat) (H Y : Nat → Rat) (k : Nat) : Rat := ab (H k * f + s - Y k)
section
variable {env e : DL.Env} {PD : D → DL.Env → Prop} {X : Nat → DL.Env → Prop} {n : Nat} {H Y : Nat → Rat} {a f s : Rat}
theorem sz_gap (h : Pts n H Y) [zf : Sz 3 4 f] [zs : Sz 3 6 s] (k : Nat) : Sz 10 18 (H k * f + s - Y k) := by
  have z1 := h.zh k
  have z2 := h.zy k
  have : Sz (2 + 3 + 3 + 2) (6 + 4 + 6 + 1 + 5 + 1) (H k * f + s - Y k) := inferInstance
  have z3 : Sz (2 + 3) (6 + 4) (H k * f) := sz_mul
  have z4 : Sz (5 + 3) (10 + 1) (H k * f + s) := sz_acc z3 zs (by decide)
  have z5 : Sz (8 + 2) (11 + 1) (H k * f + s - Y k) := sz_dif z4 z2 (by decide)
  exact z5.mono (by decide) (by decide)
theorem worst_err {x : D} : f_worst_gap [.lst [], x] = .err 4 := by
  refine ferr rfl rfl ?_
  simp -implicitDefEqProofs [m_worst_gap, env0, wp_forM_nil]
theorem worst_ok (h : Pts n H Y) [zf : Sz 3 4 f] [zs : Sz 3 6 s] {w : Nat} (hw : Best (gapG f s H Y) n w) : f_worst_gap [ptsD n H Y, scl f s] = .ok (.tup [sh (gapG f s H Y w), sh (H w)]) := by
  refine fok rfl rfl ?_
  simp -implicitDefEqProofs [m_worst_gap, env0]
  refine wp_forM_lst (fun k e => ∃ a b c d : Slot, b.pin = false ∧ c.pin = false ∧ d.pin = false ∧ e = [.im (ptsD n H Y), .im (scl f s), a, b, c, d] ∧ ((k = 0 ∧ a = .im .non) ∨ ∃ w, Best (gapG f s H Y) k w ∧ a = .im (.tup [sh (gapG f s H Y w), sh (H w)]))) ⟨_, _, _, _, rfl, rfl, rfl, rfl, .inl ⟨rfl, rfl⟩⟩ ?_ ?_
  · rintro k e hk ⟨a, b, c, d, hb, hc, hd, rfl, hbest⟩
    have z1 := h.zh k
    have z2 := h.zy k
    have z3 := sz_gap (f := f) (s := s) h k
    have z4 : Sz 10 18 (gapG f s H Y k) := sz_ab z3
    have e1 : ∀ {e : DL.Env} {P : D → DL.Env → Prop} {X : Nat → DL.Env → Prop}, wp (callF mk_Share [.int (if (H k * f + s - Y k).num < 0 then -(H k * f + s - Y k).num else (H k * f + s - Y k).num), .int (H k * f + s - Y k).den]) e P X = P (sh (gapG f s H Y k)) e := fun {e P X} => by
      rw [wp_mk (b := (H k * f + s - Y k).den) (pow_mono z3.den (by decide)) (by have := (H k * f + s - Y k).den_pos; omega), ab_dv]
      rfl
    rcases hbest with ⟨rfl, rfl⟩ | ⟨w, hw, rfl⟩
    · simp -implicitDefEqProofs [wp_setU0 hb, wp_setU0 hc, wp_setU0 hd, e1]
      refine ⟨_, _, ?_, _, ?_, _, ?_, ⟨rfl, rfl, rfl, rfl⟩, 0, ⟨by omega, fun j hj => ?_, fun j hj => by omega⟩, rfl⟩
      all_goals first | rfl | skip
      have : j = 0 := by omega
      subst this; exact Rat.le_refl
    · have z5 : Sz 10 18 (gapG f s H Y w) := sz_ab (sz_gap (f := f) (s := s) h w)
      by_cases hc2 : gapG f s H Y w < gapG f s H Y k
      · simp -implicitDefEqProofs [wp_setU0 hb, wp_setU0 hc, wp_setU0 hd, e1, at0, ↓ord_gt, hc2]
        refine ⟨_, _, ?_, _, ?_, _, ?_, ⟨rfl, rfl, rfl, rfl⟩, k, ⟨by omega, fun j hj => ?_, fun j hj => ?_⟩, rfl⟩
        all_goals first | rfl | skip
        · by_cases e : j = k
          · subst e; exact Rat.le_refl
          · have := hw.all j (by omega); grind
        · have := hw.all j hj; grind
      · simp -implicitDefEqProofs [wp_setU0 hb, wp_setU0 hc, wp_setU0 hd, e1, at0, ↓ord_gt, hc2]
        refine ⟨_, _, ?_, _, ?_, _, ?_, ⟨rfl, rfl, rfl, rfl⟩, w, ⟨by have := hw.lt; omega, fun j hj => ?_, hw.fst⟩, rfl⟩
        all_goals first | rfl | skip
        by_cases e : j = k
        · subst e; exact Rat.not_lt.mp hc2
        · exact hw.all j (by omega)
  · rintro e ⟨a, b, c, d, hb, hc, hd, rfl, hbest⟩
    rcases hbest with ⟨rfl, rfl⟩ | ⟨v, hv, rfl⟩
    · have := hw.lt; omega
    · have := hw.unique hv
      subst this
      simp -implicitDefEqProofs
end
end LW
set_option Elab.async false
set_option linter.all false
set_option maxRecDepth 100000
set_option maxHeartbeats 4000000
set_option autoImplicit false
namespace LW
open PySem PySem.Spec PyProof.Rows L2 LamX DL
def q_law_rest1_13 : M Fl := seqM (asgM (bnd (mcons (gv 22) (mcons (gv 1) (ret []))) (callF f_worst_gap)) (gtupU 2 (gconsU (setU 18) (gconsU (setU 20) (gnilU))))) (seqM (mIf (mIf (tst (o2 dNe (meA ma_key_0 (gv 18) (ret [])) (ixNm 17 dIxA (gv 19)))) (ret true) (tst (o2 dNe (meA ma_key_0 (gv 20) (ret [])) (meA ma_key_0 (o2 dIxA (ixNm 22 dIxA (gv 19)) (ret (.int 0))) (ret []))))) (retM (ret (.bl false))) (nxM)) (seqM (mIf (tst (o2 dNe (toldM toldTab (bnd (mcons (bnd (mcons (ret (.int 0)) (mcons (ret (.int 1)) (ret []))) (callF mk_Share)) (mcons (gv 2) (ret []))) (callF mk_Scale))) (ret (.str "rule")))) (retM (ret (.bl false))) (nxM)) (seqM (mIf (tst (o2 dNe (toldM toldTab (meA ma_told_3 (gv 4) (mcons (gv 2) (mcons (ret (.str "one")) (mcons (ret (.str "none")) (ret [])))))) (ret (.str "no such")))) (retM (ret (.bl false))) (nxM)) (seqM (mIf (tst (o2 dNe (toldM toldTab (bnd (mcons (mtup (mcons (gv 2) (mcons (gv 2) (ret [])))) (mcons (mtup (mcons (gv 2) (mcons (gv 3) (ret [])))) (ret []))) (callF f_from_points))) (ret (.str "rule")))) (retM (ret (.bl false))) (nxM)) (seqM (mIf (mNot (tst (bnd (mcons (gv 22) (mcons (gv 4) (mcons (gv 2) (mcons (gv 5) (mcons (gv 1) (ret [])))))) (callF f__law_wrong_points)))) (retM (ret (.bl false))) (nxM)) (retM (ret (.bl true))))))))
def q_law_rest1_12 : M Fl := seqM (asgM (o2 dIxA (bnd (lcM [6] (setU 6) (tst (o2 dEq (bnd (lcM [18] (setU 18) (tst (bnd (mcons (ixNm 17 dIxA (gv 6)) (mcons (gv 18) (ret []))) (callF f__law_is_less))) (gv 18) (lstM (gv 17))) fun l => ret (.lst l)) (bnd (mlo (ret [])) fun l => ret (.lst l)))) (gv 6) (rng1 (mcons (o1 dLen (gp 17)) (ret [])))) fun l => ret (.lst l)) (ret (.int 0))) (setU 19)) (q_law_rest1_13)
def q_law_rest1_10 : M Fl := seqM (asgM (bnd (lcM [12, 13] (gtupU 2 (gconsU (setU 12) (gconsU (setU 13) (gnilU)))) (ret true) (bnd (mcons (meA ma_key_0 (meA ma_plain_1 (gv 1) (mcons (gv 12) (ret []))) (ret [])) (mcons (meA ma_key_0 (gv 13) (ret [])) (ret []))) (callF f__law_less)) (lstM (gv 22))) fun l => ret (.lst l)) (setU 17)) (seqM (asgM (bnd (lcM [24, 25] (gtupU 2 (gconsU (setU 24) (gconsU (setU 25) (gnilU)))) (ret true) (mtup (mcons (o1 dAbs (gp 24)) (mcons (gv 25) (ret [])))) (lstM (gv 17))) fun l => ret (.lst l)) (setU 17)) (q_law_rest1_12))
def q_law_rest1_9 : M Fl := seqM (mIf (tst (gv 11)) (seqM (asgM (o1 dMinL (bnd (lcM [23] (setU 23) (mNot (tst (bnd (mcons (meA ma_key_0 (o2 dIxA (ixNm 22 dIxA (gv 23)) (ret (.int 0))) (ret [])) (mcons (meA ma_key_0 (gv 21) (ret [])) (ret []))) (callF f__law_is_less)))) (gv 23) (rng2 (mcons (ret (.int 1)) (mcons (o1 dLen (gp 22)) (ret []))))) fun l => ret (.lst l))) (setU 6)) (seqM (asgM (ixNm 22 dIxA (o2 dSub (gv 6) (ret (.int 1)))) (gtupU 2 (gconsU (setU 12) (gconsU (setU 13) (gnilU))))) (seqM (asgM (ixNm 22 dIxA (gv 6)) (gtupU 2 (gconsU (setU 14) (gconsU (setU 15) (gnilU))))) (seqM (asgM (bnd (mcons (bnd (mcons (meA ma_key_0 (gv 21) (ret [])) (mcons (meA ma_key_0 (gv 12) (ret [])) (ret []))) (callF f__law_less)) (mcons (bnd (mcons (meA ma_key_0 (gv 14) (ret [])) (mcons (meA ma_key_0 (gv 12) (ret [])) (ret []))) (callF f__law_less)) (ret []))) (callF f__law_over)) (setU 16)) (mIf (tst (o2 dNe (meA ma_key_0 (gv 10) (ret [])) (bnd (mcons (meA ma_key_0 (gv 13) (ret [])) (mcons (bnd (mcons (gv 16) (mcons (bnd (mcons (meA ma_key_0 (gv 15) (ret [])) (mcons (meA ma_key_0 (gv 13) (ret [])) (ret []))) (callF f__law_less)) (ret []))) (callF f__law_times)) (ret []))) (callF f__law_plus)))) (retM (ret (.bl false))) (nxM)))))) (nxM)) (q_law_rest1_10)
def q_law_rest1_5 : M Fl := seqM (asgM (pinned 0 (bnd (mcons (o2 dSub (ret (.int 0)) (ret (.int 2))) (mcons (ret (.int 18)) (mcons (ret (.int 2)) (ret [])))) (call1 0 f__law_share))) (setU 21)) (seqM (asgM (toldM toldTab (bnd (mcons (gv 22) (mcons (gv 21) (ret []))) (callF f_between_points))) (setU 10)) (seqM (asgM (mAndV (mNotV (bnd (mcons (meA ma_key_0 (gv 21) (ret [])) (mcons (meA ma_key_0 (o2 dIxA (ixNm 22 dIxA (ret (.int 0))) (ret (.int 0))) (ret [])) (ret []))) (callF f__law_is_less))) (mNotV (bnd (mcons (meA ma_key_0 (o2 dIxA (ixNm 22 dIxA (o2 dSub (o1 dLen (gp 22)) (ret (.int 1)))) (ret (.int 0))) (ret [])) (mcons (meA ma_key_0 (gv 21) (ret [])) (ret []))) (callF f__law_is_less)))) (setU 11)) (seqM (mIf (tst (o2 dEq (o2 (dEqT csT) (gv 10) (ret (.str "number"))) (gv 11))) (retM (ret (.bl false))) (nxM)) (q_law_rest1_9))))
def q_law_rest1_3 : M Fl := seqM (parS [22, 9] (mconsS (slOl (mlo (ret []))) (mconsS (slIm (bnd (mcons (pinned 0 (bnd (mcons (ret (.int 5)) (ret [])) (call1 0 f__law_roll))) (mcons (ret (.int 1)) (ret []))) (callF mk_Share))) (ret [])))) (seqM (bnd (rng1 (mcons (o2 dAdd (ret (.int 2)) (pinned 0 (bnd (mcons (ret (.int 4)) (ret [])) (call1 0 f__law_roll)))) (ret []))) (forM (setU 6) (seqM (appM 22 (mtup (mcons (gv 9) (mcons (pinned 0 (bnd (mcons (o2 dSub (ret (.int 0)) (ret (.int 20))) (mcons (ret (.int 20)) (mcons (ret (.int 3)) (ret [])))) (call1 0 f__law_share))) (ret []))))) (asgM (meA ma_plus_1 (gv 9) (mcons (bnd (mcons (o2 dAdd (ret (.int 1)) (pinned 0 (bnd (mcons (ret (.int 5)) (ret [])) (call1 0 f__law_roll)))) (mcons (ret (.int 2)) (ret []))) (callF mk_Share)) (ret []))) (setU 9))))) (q_law_rest1_5))
theorem q_law_rest1 : m__law_rest1 = seqM (asgM (o2 dSub (pinned 0 (bnd (mcons (ret (.int 20)) (ret [])) (call1 0 f__law_roll))) (ret (.int 10))) (setU 7)) (seqM (asgK (lcM [6] (setU 6) (tst (o2 dEq (o1 (dFld al_bottom) (meA ma_told_3 (gv 4) (mcons (bnd (mcons (gv 6) (mcons (ret (.int 1)) (ret []))) (callF mk_Share)) (mcons (ret (.str "one")) (mcons (ret (.str "two")) (ret [])))))) (ret (.int 1)))) (gv 6) (rng2 (mcons (gv 7) (mcons (o2 dAdd (gv 7) (ret (.int 12))) (ret []))))) 8) (seqM (mIf (tst (o2 dNe (bnd (o1L dLst (meA ma_whole_marks_4 (gv 4) (mcons (ret (.str "one")) (mcons (ret (.str "two")) (mcons (gv 7) (mcons (o2 dAdd (gv 7) (ret (.int 11))) (ret []))))))) fun l => ret (.lst l)) (gv 8))) (retM (ret (.bl false))) (nxM)) (q_law_rest1_3))) := rfl
def q_law_rest2_15 : M Fl := seqM (mIf (tst (o2 dNe (bnd (lcM [17, 18] (gtupU 2 (gconsU (setU 17) (gconsU (setU 18) (gnilU)))) (ret true) (mtup (mcons (meA ma_key_0 (gv 17) (ret [])) (mcons (meA ma_key_0 (gv 18) (ret [])) (ret [])))) (lstM (gv 11))) fun l => ret (.lst l)) (gv 13))) (retM (ret (.bl false))) (nxM)) (seqM (asgM (o2 dGt (o2 dMul (o1 (dFld al_top) (o1 (dFld al_factor) (gv 1))) (o1 (dFld al_top) (o1 (dFld al_factor) (gv 2)))) (ret (.int 0))) (setU 15)) (seqM (mIf (tst (o2 dNe (meA ma_rises_2 (gv 16) (mcons (ret (.str "one")) (mcons (ret (.str "two")) (ret [])))) (gv 15))) (retM (ret (.bl false))) (nxM)) (seqM (mIf (tst (o2 dNe (toldM toldTab (meA ma_key_0 (meA ma_meet_2 (gv 16) (mcons (ret (.str "one")) (mcons (ret (.str "two")) (ret [])))) (ret []))) (mIf (tst (o2 (dEqT csT) (gv 7) (ret (.str "no way")))) (gv 7) (meA ma_key_0 (gv 7) (ret []))))) (retM (ret (.bl false))) (nxM)) (seqM (mIf (mNot (tst (pinned 0 (bnd (mcons (gv 1) (mcons (gv 3) (mcons (gv 8) (mcons (gv 16) (mcons (gv 10) (mcons (gv 14) (ret []))))))) (call1 0 f__law_rest1))))) (retM (ret (.bl false))) (nxM)) (retM (ret (.bl true)))))))
def q_law_rest2_11 : M Fl := seqM (par2 9 10 (mcons (bnd (mcons (o2 dAdd (ret (.int 1)) (pinned 0 (bnd (mcons (ret (.int 5)) (ret [])) (call1 0 f__law_roll)))) (mcons (ret (.int 2)) (ret []))) (callF mk_Share)) (mcons (meA ma_plus_1 (gv 3) (mcons (bnd (mcons (pinned 0 (bnd (mcons (ret (.int 9)) (ret [])) (call1 0 f__law_roll))) (mcons (ret (.int 1)) (ret []))) (callF mk_Share)) (ret []))) (ret [])))) (seqM (asgM (meA ma_table_5 (gv 16) (mcons (ret (.str "one")) (mcons (ret (.str "two")) (mcons (gv 3) (mcons (gv 10) (mcons (gv 9) (ret []))))))) (setU 11)) (seqM (parDO 12 13 (meA ma_key_0 (gv 3) (ret [])) (mlo (ret []))) (seqM (bnd (rng1 (mcons (ret (.int 20)) (ret []))) (forM (setU 14) (seqM (mIf (mNot (tst (bnd (mcons (meA ma_key_0 (gv 10) (ret [])) (mcons (gv 12) (ret []))) (callF f__law_is_less)))) (appM 13 (mtup (mcons (gv 12) (mcons (meA ma_key_0 (meA ma_told_3 (gv 16) (mcons (bnd (mcons (ixNm 12 dIxA (ret (.int 0))) (mcons (ixNm 12 dIxA (ret (.int 1))) (ret []))) (callF mk_Share)) (mcons (ret (.str "one")) (mcons (ret (.str "two")) (ret []))))) (ret [])) (ret []))))) (nxM)) (asgM (bnd (mcons (gv 12) (mcons (meA ma_key_0 (gv 9) (ret [])) (ret []))) (callF f__law_plus)) (setU 12))))) (q_law_rest2_15))))
def q_law_rest2_8 : M Fl := seqM (asgM (bnd (mcons (oc dDisp (mpair (ret (.str "one")) (gv 1) (mpair (ret (.str "two")) (gv 2) (mpair (ret (.str "plain")) (bnd (mcons (bnd (mcons (ret (.int 1)) (mcons (ret (.int 1)) (ret []))) (callF mk_Share)) (mcons (bnd (mcons (ret (.int 0)) (mcons (ret (.int 1)) (ret []))) (callF mk_Share)) (ret []))) (callF mk_Scale)) (ret []))))) (ret [])) (callF mk_Scales)) (setU 16)) (seqM (mIf (mIf (tst (o2 dNe (meA ma_key_0 (meA ma_told_3 (gv 16) (mcons (gv 3) (mcons (ret (.str "one")) (mcons (ret (.str "two")) (ret []))))) (ret [])) (gv 6))) (ret true) (tst (o2 dNe (meA ma_key_0 (meA ma_told_3 (gv 16) (mcons (gv 3) (mcons (ret (.str "one")) (mcons (ret (.str "plain")) (ret []))))) (ret [])) (gv 4)))) (retM (ret (.bl false))) (nxM)) (seqM (mIf (tst (o2 dNe (meA ma_key_0 (meA ma_gap_3 (gv 16) (mcons (gv 3) (mcons (ret (.str "one")) (mcons (ret (.str "two")) (ret []))))) (ret [])) (bnd (mcons (bnd (mcons (meA ma_key_0 (gv 3) (ret [])) (mcons (meA ma_key_0 (o1 (dFld al_factor) (gv 1)) (ret [])) (ret []))) (callF f__law_times)) (mcons (meA ma_key_0 (o1 (dFld al_factor) (gv 2)) (ret [])) (ret []))) (callF f__law_over)))) (retM (ret (.bl false))) (nxM)) (q_law_rest2_11)))
def q_law_rest2_6 : M Fl := seqM (asgM (meA ma_plus_1 (gv 3) (mcons (bnd (mcons (o2 dAdd (ret (.int 1)) (pinned 0 (bnd (mcons (ret (.int 9)) (ret [])) (call1 0 f__law_roll)))) (mcons (ret (.int 2)) (ret []))) (callF mk_Share)) (ret []))) (setU 8)) (seqM (mIf (tst (o2 dNe (meA ma_key_0 (bnd (mcons (mtup (mcons (gv 3) (mcons (meA ma_plain_1 (gv 1) (mcons (gv 3) (ret []))) (ret [])))) (mcons (mtup (mcons (gv 8) (mcons (meA ma_plain_1 (gv 1) (mcons (gv 8) (ret []))) (ret [])))) (ret []))) (callF f_from_points)) (ret [])) (meA ma_key_0 (gv 1) (ret [])))) (retM (ret (.bl false))) (nxM)) (q_law_rest2_8))
def q_law_rest2_3 : M Fl := seqM (asgM (toldM toldTab (bnd (mcons (gv 1) (mcons (gv 2) (ret []))) (callF f_agree_at))) (setU 7)) (seqM (mIf (tst (o2 dNe (o2 (dEqT csT) (gv 7) (ret (.str "no way"))) (o2 dEq (meA ma_key_0 (o1 (dFld al_factor) (gv 1)) (ret [])) (meA ma_key_0 (o1 (dFld al_factor) (gv 2)) (ret []))))) (retM (ret (.bl false))) (nxM)) (seqM (mIf (mIf (tst (o2 (dNeT csT) (gv 7) (ret (.str "no way")))) (tst (o2 dNe (meA ma_key_0 (meA ma_plain_1 (gv 1) (mcons (gv 7) (ret []))) (ret [])) (meA ma_key_0 (meA ma_plain_1 (gv 2) (mcons (gv 7) (ret []))) (ret [])))) (ret false)) (retM (ret (.bl false))) (nxM)) (q_law_rest2_6)))
theorem q_law_rest2 : m__law_rest2 = seqM (asgM (bnd (mcons (gv 1) (mcons (gv 2) (ret []))) (callF f_between)) (setU 5)) (seqM (asgM (bnd (mcons (bnd (mcons (gv 4) (mcons (meA ma_key_0 (o1 (dFld al_start) (gv 2)) (ret [])) (ret []))) (callF f__law_less)) (mcons (meA ma_key_0 (o1 (dFld al_factor) (gv 2)) (ret [])) (ret []))) (callF f__law_over)) (setU 6)) (seqM (mIf (tst (o2 dNe (meA ma_key_0 (meA ma_plain_1 (gv 5) (mcons (gv 3) (ret []))) (ret [])) (gv 6))) (retM (ret (.bl false))) (nxM)) (q_law_rest2_3))) := rfl
end LW
set_option Elab.async false
set_option linter.all false
set_option maxRecDepth 100000
set_option maxHeartbeats 4000000
set_option autoImplicit false
namespace LW
open PySem PySem.Spec PyProof.Rows L2 LamX DL
section
variable {env e : DL.Env} {PD : D → DL.Env → Prop} {X : Nat → DL.Env → Prop} {n : Nat} {H Y : Nat → Rat} {a f s f' s' q w r : Rat}
theorem cut_one {l : List D} {d : D} : wp (lift (dCut (.lst (d :: l)) none (some 1))) env PD X = PD (.lst [d]) env := rfl
theorem wrong_ok (hn : 1 ≤ n) (hn' : n ≤ 100) : f__law_wrong_points [ptsD n H Y, scs f s f' s', sh q, sh w, scl f s] = .ok (.bl true) := by
  refine fok rfl rfl ?_
  obtain ⟨d, l, e1⟩ : ∃ d l, lst n (ptD H Y) = d :: l := by
    obtain ⟨m, rfl⟩ : ∃ m, n = m + 1 := ⟨n - 1, by omega⟩
    cases h : lst (m + 1) (ptD H Y) with
    | nil =>
      have := congrArg List.length h
      rw [lst_len] at this; cases this
    | cons d l => exact ⟨d, l, rfl⟩
  have c1 : ∀ {e : DL.Env} {P : D → DL.Env → Prop} {X : Nat → DL.Env → Prop}, wp (lift (dCut (ptsD n H Y) none (some 1))) e P X = P (.lst [d]) e := fun {e P X} => by
    show wp (lift (dCut (.lst (lst n (ptD H Y))) none (some 1))) e P X = _
    rw [e1]; rfl
  simp -implicitDefEqProofs [m__law_wrong_points, env0, c1, wp_callFe (bp_one (a := q)), wp_callFe (table_err (x := scs f s f' s') (q := q) (w := w)), sh_zero, wp_callFe (worst_err (x := scl f s)), wl_ne, so_rule, so_number]
theorem lawR13 (x y z : Int) (hn : 1 ≤ n) (hn' : n ≤ 100) (h : Pts n H Y) [zf : Sz 3 4 f] [zs : Sz 3 6 s] [zq : Sz 3 6 q] {v : Nat} (hv : Best (gapG f s H Y) n v) (s6 s7 s8 s9 s10 s11 s12 s13 s14 s15 s16 s18 s20 s21 s23 s24 s25 : Slot) (h18 : s18.pin = false) (h20 : s20.pin = false) :
    wp q_law_rest1_13 [.io (dl x y z), .im (scl f s), .im (sh q), .im (sh r), .im (scs f s f' s'), .im (sh w), s6, s7, s8, s9, s10, s11, s12, s13, s14, s15, s16, .im (.lst (lps n (gapG f s H Y))), s18, .im (.int (v : Int)), s20, s21, .im (ptsD n H Y), s23, s24, s25] (fun f e => flD (.bl true) f ∧ ∃ a b c, e[0]? = some (.io (dl a b c))) (fun _ _ => False) := by
  have a1 : L2.atI (lps n (gapG f s H Y)) (v : Int) = some (lp (gapG f s H Y v)) := atI_lst v rfl hv.lt
  have a2 : L2.atI (lst n (ptD H Y)) (v : Int) = some (ptD H Y v) := atI_lst v rfl hv.lt
  have z0 : Sz 1 0 (0 : Rat) := sz_zero
  simp -implicitDefEqProofs [q_law_rest1_13, wp_callF (worst_ok h hv), wp_setU0 h18, wp_setU0 h20, a1, a2, at0, sh_zero, wp_callFe (mkscl_err (s := q)), wp_callFe (told_err (f := f) (s := s) (f' := f') (s' := s') (q := q)), wp_callFe (points_err (a := q) (x := sh q) (y := sh r)), wp_callF (wrong_ok (f := f) (s := s) (f' := f') (s' := s') (q := q) (w := w) (H := H) (Y := Y) hn hn'), wl_ne, so_rule, so_nosuch]
  exact ⟨_, _, _, rfl⟩
end
end LW
set_option Elab.async false
set_option linter.all false
set_option maxRecDepth 100000
set_option maxHeartbeats 4000000
set_option autoImplicit false
namespace LW
open PySem PySem.Spec PyProof.Rows L2 LamX DL
def ltP (g : Rat) : D → Bool
  | .tup [.int a, .int b] => decide (g < Rat.divInt a b)
  | _ => false
theorem ltP_lp {g x : Rat} : ltP g (lp x) = decide (g < x) := by
  show decide (g < Rat.divInt x.num x.den) = _
  rw [Rat.num_divInt_den]
def noG (n : Nat) (G : Nat → Rat) : D → Bool
  | .int k => ((lps n G).filter (ltP (G k.toNat))).isEmpty
  | _ => false
theorem noG_iff {n : Nat} {G : Nat → Rat} {k : Nat} : noG n G (.int (k : Int)) = true ↔ ∀ j, j < n → G j ≤ G k := by
  show ((lps n G).filter (ltP (G k))).isEmpty = true ↔ _
  rw [List.isEmpty_iff, List.filter_eq_nil_iff]
  constructor
  · intro h j hj
    have := h (lp (G j)) (List.mem_map.mpr ⟨j, List.mem_range.mpr hj, rfl⟩)
    rw [ltP_lp] at this
    have : ¬ G k < G j := by simpa using this
    exact Rat.not_lt.mp this
  · intro h d hd
    obtain ⟨j, hj, rfl⟩ := mem_lst hd
    rw [ltP_lp]
    have := Rat.not_lt.mpr (h j hj)
    simpa using this
theorem first_best {n : Nat} {G : Nat → Rat} {v : Nat} (hv : Best G n v) : L2.atI ((ups 0 n).filter (noG n G)) 0 = some (.int (v : Int)) := by
  have hne : ¬ (ups 0 n).filter (noG n G) = [] := fun e => by
    have := none_ups e v hv.lt
    rw [noG_iff.mpr hv.all] at this
    cases this
  obtain ⟨k, h1, h2, h3, h4⟩ := first_ups hne
  have hk : Best G n k := ⟨h1, noG_iff.mp h3, fun j hj => by
    have h5 := h4 j hj
    have h6 : ¬ ∀ i, i < n → G i ≤ G j := fun q => by rw [noG_iff.mpr q] at h5; cases h5
    obtain ⟨i, h7⟩ := Classical.not_forall.mp h6
    obtain ⟨hi, h8⟩ := Classical.not_imp.mp h7
    have := noG_iff.mp h3 i hi
    grind⟩
  rw [h2, hk.unique hv]
section
variable {env e : DL.Env} {PD : D → DL.Env → Prop} {PU : Unit → DL.Env → Prop} {X : Nat → DL.Env → Prop} {n : Nat} {H Y : Nat → Rat} {a f s f' s' q w r : Rat}
theorem wp_gtlp {fs : List D → M Unit} {x : Rat} : wp (gtupU 2 fs (lp x)) env PU X = wp (fs [.int x.num, .int x.den]) env PU X := by
  unfold lp
  rw [wp_gtupU]
  exact propext ⟨fun h => h.2, fun h => ⟨rfl, h⟩⟩
theorem lp_ab {x : Rat} : D.tup [.int (if x.num < 0 then -x.num else x.num), .int x.den] = lp (ab x) := by
  unfold lp
  rw [ab_num, ab_den]
theorem lawR10 (x y z : Int) (hn : 1 ≤ n) (hn' : n ≤ 100) (h : Pts n H Y) [zf : Sz 3 4 f] [zs : Sz 3 6 s] [zq : Sz 3 6 q] (s6 s7 s8 s9 s10 s11 s12 s13 s14 s15 s16 s21 s23 : Slot) (h6 : s6.pin = false) (h12 : s12.pin = false) (h13 : s13.pin = false) (o6 : s6.own = false) (o12 : s12.own = false) (o13 : s13.own = false) :
    wp q_law_rest1_10 [.io (dl x y z), .im (scl f s), .im (sh q), .im (sh r), .im (scs f s f' s'), .im (sh w), s6, s7, s8, s9, s10, s11, s12, s13, s14, s15, s16, .no, .no, .no, .no, s21, .im (ptsD n H Y), s23, .no, .no] (fun f e => flD (.bl true) f ∧ ∃ a b c, e[0]? = some (.io (dl a b c))) (fun _ _ => False) := by
  obtain ⟨v, hv⟩ := Best.ex (gapG f s H Y) n hn
  simp -implicitDefEqProofs [q_law_rest1_10, noOwn, wipeE, restore, o12, o13]
  refine wp_lcGo_lst (fun k => lp (H k * f + s - Y k)) (by omega) (fun k hk => ?_) ?_
  · have z1 := h.zh k
    have z2 := h.zy k
    simp -implicitDefEqProofs [noOwn, wipeE]
  simp -implicitDefEqProofs [restore, noOwn, wipeE]
  refine wp_lcGo_lst (fun k => lp (gapG f s H Y k)) (by omega) (fun k hk => ?_) ?_
  · simp -implicitDefEqProofs [noOwn, wipeE, wp_gtlp, lp_ab]
    rfl
  simp -implicitDefEqProofs [q_law_rest1_12, restore, noOwn, wipeE, o6]
  refine ⟨by omega, ?_⟩
  refine wp_lcGo_pure (noG n (gapG f s H Y)) id (by rw [ups_len]; omega) (fun d hd => ?_) ?_
  · obtain ⟨k, rfl, k1, k2⟩ := mem_ups hd
    obtain ⟨k, rfl⟩ : ∃ j : Nat, k = (j : Int) := ⟨k.toNat, by omega⟩
    have hk : k < n := by omega
    have a1 : L2.atI (lps n (gapG f s H Y)) (k : Int) = some (lp (gapG f s H Y k)) := atI_lst k rfl hk
    have zk : Sz 10 18 (gapG f s H Y k) := sz_ab (sz_gap (f := f) (s := s) h k)
    simp -implicitDefEqProofs [noOwn, wipeE, restore]
    refine wp_lcGo_pure (ltP (gapG f s H Y k)) id (by rw [lst_len]; omega) (fun d hd => ?_) ?_
    · obtain ⟨j, hj, rfl⟩ := mem_lst hd
      have zj : Sz 10 18 (gapG f s H Y j) := sz_ab (sz_gap (f := f) (s := s) h j)
      simp -implicitDefEqProofs [noOwn, wipeE, a1, ltP_lp]
    · have sm : Smp 8 (.lst ((lps n (gapG f s H Y)).filter (ltP (gapG f s H Y k)))) := by
        rw [smp_lst]
        refine smps_of fun d hd => ?_
        obtain ⟨j, hj, rfl⟩ := mem_lst (List.mem_filter.mp hd).1
        exact smp_lp
      simp -implicitDefEqProofs [wl_eq sm, restore, noG]
      rw [Bool.eq_iff_iff, decide_eq_true_iff, List.isEmpty_iff, List.filter_eq_nil_iff]
      simp
  · simp -implicitDefEqProofs [first_best hv]
    exact lawR13 _ _ _ hn hn' h hv _ _ _ _ _ _ _ _ _ _ _ _ _ _ _ _ _ rfl rfl
end
end LW
set_option Elab.async false
set_option linter.all false
set_option maxRecDepth 100000
set_option maxHeartbeats 4000000
set_option autoImplicit false
namespace LW
open PySem PySem.Spec PyProof.Rows L2 LamX DL
section
variable {env e : DL.Env} {PD : D → DL.Env → Prop} {PU : Unit → DL.Env → Prop} {X : Nat → DL.Env → Prop} {n : Nat} {H Y : Nat → Rat} {a f s f' s' q w r : Rat}
@[simp ↓] theorem wl_eqTs {a b : Str} : wp (lift (dEqT csT (.str a) (.str b))) env PD X = wp (lift (dEq (.str a) (.str b))) env PD X := rfl
@[simp ↓] theorem wl_neTs {a b : Str} : wp (lift (dNeT csT (.str a) (.str b))) env PD X = wp (lift (dNe (.str a) (.str b))) env PD X := rfl
@[simp ↓] theorem wl_eqTo {q : Rat} {b : Str} : wp (lift (dEqT csT (sh q) (.str b))) env PD X = PD (.bl false) env := rfl
@[simp ↓] theorem wl_neTo {q : Rat} {b : Str} : wp (lift (dNeT csT (sh q) (.str b))) env PD X = PD (.bl true) env := rfl
theorem minL_of {l : List D} {ns : List Int} {J : Int} (e : l = ns.map D.int) (h1 : J ∈ ns) (h2 : ∀ x ∈ ns, J ≤ x) : dMinL (.lst l) = some (.int J) := by
  subst e
  show (intsD (ns.map D.int)).bind _ = _
  have hne : ¬ ns = [] := fun e => by subst e; cases h1
  rw [intsD_map, Option.bind_some, if_neg hne]
  obtain ⟨m1, m2⟩ := minI_spec hne
  have := h2 _ m1
  have := m2 _ h1
  congr 2
  omega
def leH (H : Nat → Rat) (a : Rat) : D → Bool
  | .int k => decide (a ≤ H k.toNat)
  | _ => false
theorem min_first {J : Nat} (j1 : 1 ≤ J) (j2 : J < n) (j4 : a ≤ H J) (j5 : ∀ j, 1 ≤ j → j < J → H j < a) : dMinL (.lst ((ups 1 (n - 1)).filter (leH H a))) = some (.int (J : Int)) := by
  refine minL_of (ns := ((List.range (n - 1)).map fun k : Nat => 1 + (k : Int)).filter (leH H a ∘ D.int)) ?_ ?_ ?_
  · unfold ups
    rw [← List.filter_map, List.map_map]
    rfl
  · refine List.mem_filter.mpr ⟨List.mem_map.mpr ⟨J - 1, List.mem_range.mpr (by omega), by omega⟩, ?_⟩
    show decide (a ≤ H (J : Int).toNat) = true
    simpa using j4
  · intro x hx
    obtain ⟨h1, h2⟩ := List.mem_filter.mp hx
    obtain ⟨k, hk, rfl⟩ := List.mem_map.mp h1
    have h3 : a ≤ H (1 + (k : Int)).toNat := of_decide_eq_true (show decide (a ≤ H (1 + (k : Int)).toNat) = true from h2)
    refine Int.not_lt.mp fun hlt => ?_
    have h4 := j5 (1 + (k : Int)).toNat (by omega) (by omega)
    grind
theorem lawR5 (x y z : Int) (hn : 2 ≤ n) (hn' : n ≤ 100) (h : Pts n H Y) [zf : Sz 3 4 f] [zs : Sz 3 6 s] [zq : Sz 3 6 q] (s6 s7 s8 s9 : Slot) (h6 : s6.pin = false) (o6 : s6.own = false) :
    wp q_law_rest1_5 [.io (dl x y z), .im (scl f s), .im (sh q), .im (sh r), .im (scs f s f' s'), .im (sh w), s6, s7, s8, s9, .no, .no, .no, .no, .no, .no, .no, .no, .no, .no, .no, .no, .ol (lst n (ptD H Y)), .no, .no, .no] (fun f e => flD (.bl true) f ∧ ∃ a b c, e[0]? = some (.io (dl a b c))) (fun _ _ => False) := by
  have a0 : L2.atI (lst n (ptD H Y)) 0 = some (ptD H Y 0) := atI_lst 0 rfl (by omega)
  have an : L2.atI (lst n (ptD H Y)) ((n : Int) - 1) = some (ptD H Y (n - 1)) := atI_lst (n - 1) (by omega) (by omega)
  have y0 := h.zh 0
  have yn := h.zh (n - 1)
  simp -implicitDefEqProofs [q_law_rest1_5]
  refine wp_share 2 5 (by decide) (by decide) (by decide) (by decide) (by decide) (by decide) ?_
  intro t u a' b' c' _ _ _ _ z5
  have za : Sz 2 6 (Rat.divInt t u) := z5.mono (by decide) (by decide)
  revert za
  generalize Rat.divInt t u = a
  intro za
  have hlen : ¬ (n : Int) - 1 < 0 := by omega
  by_cases ho : a < H 0 ∨ H (n - 1) < a
  · have hw : (¬ a < H 0 ∧ ¬ H (n - 1) < a) = False := by
      simp only [eq_iff_iff, iff_false]
      grind
    have hd : (!decide (a < H 0)) = true → (!decide (H (n - 1) < a)) = false := by
      intro h1
      rcases ho with h2 | h2
      · simp [h2] at h1
      · simp [h2]
    by_cases h1 : a < H 0
    · simp -implicitDefEqProofs [wp_callFe (bp_err h hn hn' ho), a0, an, at0, h1, wl_eq, so_number, q_law_rest1_9]
      exact lawR10 _ _ _ (by omega) hn' h _ _ _ _ _ _ _ _ _ _ _ _ _ h6 rfl rfl o6 rfl rfl
    · have h2 : H (n - 1) < a := by grind
      simp -implicitDefEqProofs [wp_callFe (bp_err h hn hn' ho), a0, an, at0, h1, h2, wl_eq, so_number, q_law_rest1_9]
      exact lawR10 _ _ _ (by omega) hn' h _ _ _ _ _ _ _ _ _ _ _ _ _ h6 rfl rfl o6 rfl rfl
  · have h1 : ¬ a < H 0 := fun e => ho (.inl e)
    have h2 : ¬ H (n - 1) < a := fun e => ho (.inr e)
    obtain ⟨J, j1, j2, j4, j5⟩ : ∃ J, 1 ≤ J ∧ J < n ∧ a ≤ H J ∧ ∀ j, 1 ≤ j → j < J → H j < a := by
      have key : ∀ m, m + 1 < n → a ≤ H (m + 1) → ∃ J, 1 ≤ J ∧ J < n ∧ a ≤ H J ∧ ∀ j, 1 ≤ j → j < J → H j < a := by
        intro m
        induction m with
        | zero => exact fun h1 h2 => ⟨1, by omega, by omega, h2, fun j _ _ => by omega⟩
        | succ m ih =>
          intro h1 h2
          by_cases hc : a ≤ H (m + 1)
          · exact ih (by omega) hc
          · refine ⟨m + 2, by omega, h1, h2, fun j j1 j2 => ?_⟩
            have h3 := Rat.not_le.mp hc
            by_cases e : j = m + 1
            · subst e; exact h3
            · have := h.lt (i := j) (j := m + 1) (by omega) (by omega)
              grind
      obtain ⟨m, rfl⟩ : ∃ m, n = m + 2 := ⟨n - 2, by omega⟩
      exact key m (by omega) (Rat.not_lt.mp h2)
    have j3 : H (J - 1) ≤ a := by
      by_cases e : J = 1
      · subst e; exact Rat.not_lt.mp h1
      · exact Rat.le_of_lt (j5 (J - 1) (by omega) (by omega))
    have zJ := h.zh J
    have zJ1 := h.zh (J - 1)
    have yJ := h.zy J
    have yJ1 := h.zy (J - 1)
    have hJ : H J - H (J - 1) ≠ 0 := by
      have := h.lt (i := J - 1) (j := J) (by omega) j2
      grind
    have aJ : L2.atI (lst n (ptD H Y)) (J : Int) = some (ptD H Y J) := atI_lst J rfl j2
    have aJ1 : L2.atI (lst n (ptD H Y)) ((J : Int) - 1) = some (ptD H Y (J - 1)) := atI_lst (J - 1) (by omega) (by omega)
    have e1 : ((n : Int) - 1).toNat = n - 1 := by omega
    have e2 : Y (J - 1) + (a - H (J - 1)) / (H J - H (J - 1)) * (Y J - Y (J - 1)) = lineG H Y a J := by
      unfold lineG
      rw [Rat.mul_comm]
    simp -implicitDefEqProofs [wp_callF (bp_ok h hn hn' j1 j2 j3 j4 j5), a0, an, at0, h1, h2, q_law_rest1_9, e1, noOwn, wipeE, restore]
    refine ⟨by omega, ?_⟩
    refine wp_lcGo_pure (leH H a) id (by rw [ups_len]; omega) (fun d hd => ?_) ?_
    · obtain ⟨k, rfl, k1, k2⟩ := mem_ups hd
      obtain ⟨k, rfl⟩ : ∃ j : Nat, k = (j : Int) := ⟨k.toNat, by omega⟩
      have ak : L2.atI (lst n (ptD H Y)) (k : Int) = some (ptD H Y k) := atI_lst k rfl (by omega)
      have zk := h.zh k
      simp -implicitDefEqProofs [noOwn, wipeE, ak, at0, leH]
      grind
    · simp -implicitDefEqProofs [min_first j1 j2 j4 j5, restore, wp_setU0 h6, aJ, aJ1, hJ, e2]
      exact lawR10 _ _ _ (by omega) hn' h _ _ _ _ _ _ _ _ _ _ _ _ _ rfl rfl rfl rfl rfl rfl
end
end LW
set_option Elab.async false
set_option linter.all false
set_option maxRecDepth 100000
set_option maxHeartbeats 4000000
set_option autoImplicit false
namespace LW
open PySem PySem.Spec PyProof.Rows L2 LamX DL
def hv (a : Int) : Rat := Rat.divInt a 2
theorem dv2 (a : Int) : hv a * 2 = (a : Rat) := dv_mul (t := a) (u := 2) (by decide)
theorem sz_hv {a : Int} {m : Nat} (h : a.natAbs < 2 ^ m) : Sz 2 m (hv a) := sz_dv (t := a) (u := 2) h (by decide) (by decide)
theorem wp_mkh {env : DL.Env} {PD : D → DL.Env → Prop} {X : Nat → DL.Env → Prop} {a : Int} : wp (callF mk_Share [.int a, .int 2]) env PD X = PD (sh (hv a)) env := wp_mk (by decide) (by decide)
theorem dv2_add (a b : Int) : hv a + hv b = hv (a + b) := by
  have h1 := dv2 a
  have h2 := dv2 b
  have h3 := dv2 (a + b)
  rw [Rat.intCast_add] at h3
  grind
theorem dv2_lt {a b : Int} (h : a < b) : hv a < hv b := by
  have h1 := dv2 a
  have h2 := dv2 b
  have h3 : (a : Rat) < (b : Rat) := Rat.intCast_lt_intCast.mpr h
  grind
theorem dv2_int (a : Int) : hv (2 * a) = (a : Rat) := by
  have h1 := dv2 (2 * a)
  rw [Rat.intCast_mul] at h1
  have : ((2 : Int) : Rat) = 2 := rfl
  grind
structure Gro (k : Nat) (A : Nat → Int) (Y : Nat → Rat) : Prop where
  lo : ∀ j, 0 ≤ A j
  hi : ∀ j, A j ≤ 8 + 5 * (k : Int)
  up : ∀ j, j < k → A j < A (j + 1)
  y : ∀ j, Sz 2 5 (Y j)
theorem Gro.pts {k : Nat} {A : Nat → Int} {Y : Nat → Rat} (g : Gro k A Y) (hk : k ≤ 5) : Pts k (fun j => hv (A j)) Y where
  zh := fun j => sz_hv (by have := g.lo j; have := g.hi j; omega)
  zy := g.y
  up := fun j hj => dv2_lt (g.up j (by omega))
section
variable {n : Nat} {H Y : Nat → Rat} {a f s f' s' q w r : Rat}
theorem lawR3 (x y z : Int) [zf : Sz 3 4 f] [zs : Sz 3 6 s] [zq : Sz 3 6 q] (s6 s7 s8 : Slot) (h6 : s6.pin = false) (o6 : s6.own = false) :
    wp q_law_rest1_3 [.io (dl x y z), .im (scl f s), .im (sh q), .im (sh r), .im (scs f s f' s'), .im (sh w), s6, s7, s8, .no, .no, .no, .no, .no, .no, .no, .no, .no, .no, .no, .no, .no, .no, .no, .no, .no] (fun f e => flD (.bl true) f ∧ ∃ a b c, e[0]? = some (.io (dl a b c))) (fun _ _ => False) := by
  simp -implicitDefEqProofs [q_law_rest1_3]
  refine wp_roll (by decide) (by decide) ?_
  intro v x y z v0 v1
  simp -implicitDefEqProofs
  refine wp_roll (by decide) (by decide) ?_
  intro c x y z c0 c1
  simp -implicitDefEqProofs
  obtain ⟨n, hn, n2, n5⟩ : ∃ n : Nat, (2 + c).toNat = n ∧ 2 ≤ n ∧ n ≤ 5 := ⟨_, rfl, by omega, by omega⟩
  rw [hn]
  refine ⟨by omega, ?_⟩
  rw [ups_lst]
  refine wp_forM_lst (fun k e => ∃ (A : Nat → Int) (Y : Nat → Rat) (s6 : Slot) (x y z : Int), Gro k A Y ∧ s6.pin = false ∧ s6.own = false ∧ e = [.io (dl x y z), .im (scl f s), .im (sh q), .im (sh r), .im (scs f s f' s'), .im (sh w), s6, s7, s8, .im (sh (hv (A k))), .no, .no, .no, .no, .no, .no, .no, .no, .no, .no, .no, .no, .ol (lst k (ptD (fun j => hv (A j)) Y)), .no, .no, .no]) ?_ ?_ ?_
  · exact ⟨fun _ => 2 * v, fun _ => 0, s6, x, y, z, ⟨fun _ => by omega, fun _ => by omega, fun j hj => by omega, fun _ => sz_zero.mono (by decide) (by decide)⟩, h6, o6, by rw [dv2_int]; rfl⟩
  · rintro k e hk ⟨A, Y, s6, x, y, z, g, h6, o6, rfl⟩
    have zk : Sz 2 6 (hv (A k)) := (g.pts (by omega)).zh k
    simp -implicitDefEqProofs [wp_setU0 h6]
    refine wp_share 2 5 (by decide) (by decide) (by decide) (by decide) (by decide) (by decide) ?_
    intro t u x y z _ _ _ _ z5
    revert z5
    generalize Rat.divInt t u = y0
    intro z5
    simp -implicitDefEqProofs
    refine ⟨by omega, ?_⟩
    refine wp_roll (by decide) (by decide) ?_
    intro v x y z v0 v1
    have zv : Sz 2 3 (hv (1 + v)) := sz_hv (by omega)
    simp -implicitDefEqProofs [wp_mkh, dv2_add]
    refine ⟨fun j => if j ≤ k then A j else A k + (1 + v), fun j => if j < k then Y j else y0, ⟨fun j => ?_, fun j => ?_, fun j hj => ?_, fun j => ?_⟩, .im (.int (k : Int)), rfl, rfl, ⟨_, _, _, rfl⟩, rfl, ?_⟩
    · have := g.lo j; have := g.lo k
      split <;> omega
    · have := g.hi j; have := g.hi k
      split <;> omega
    · by_cases e : j = k
      · subst e
        rw [if_pos (Nat.le_refl _), if_neg (by omega)]; omega
      · rw [if_pos (by omega), if_pos (by omega)]
        exact g.up j (by omega)
    · split
      · exact g.y j
      · exact z5
    · dsimp only
      rw [if_neg (by omega), lst_succ]
      have el : lst k (ptD (fun j => hv (if j ≤ k then A j else A k + (1 + v))) fun j => if j < k then Y j else y0) = lst k (ptD (fun j => hv (A j)) Y) := lst_congr fun j hj => by
        show D.tup [sh (hv (if j ≤ k then A j else A k + (1 + v))), sh (if j < k then Y j else y0)] = _
        rw [if_pos (by omega), if_pos hj]
      rw [el]
      refine ⟨rfl, ?_⟩
      congr 2
      show _ = D.tup [sh (hv (if k ≤ k then A k else _)), sh (if k < k then Y k else y0)]
      rw [if_pos (Nat.le_refl _), if_neg (Nat.lt_irrefl _)]
  · rintro e ⟨A, Y, s6, x, y, z, g, h6, o6, rfl⟩
    exact lawR5 _ _ _ n2 (by omega) (g.pts n5) _ _ _ _ h6 o6
end
end LW
set_option Elab.async false
set_option linter.all false
set_option maxRecDepth 100000
set_option maxHeartbeats 4000000
set_option autoImplicit false
namespace LW
open PySem PySem.Spec PyProof.Rows L2 LamX DL
section
variable {e : DL.Env} {PD : D → DL.Env → Prop} {X : Nat → DL.Env → Prop} {f s f' s' q w r : Rat}
theorem rest1_ok (x y z : Int) (t : Two f s f' s') [zq : Sz 3 6 q] {k0 : Int} : ∃ a b c, f__law_rest1 (.io (dl x y z)) [scl f s, sh q, sh r, scs f s f' s', sh w, .int k0] = .ok (.bl true) (.io (dl a b c)) := by
  have zf := t.zf
  have zs := t.zs
  refine run1_dl (d := .bl true) rfl rfl ?_
  simp -implicitDefEqProofs [q_law_rest1, env0]
  refine wp_roll (by decide) (by decide) ?_
  intro v x y z v0 v1
  simp -implicitDefEqProofs
  have e1 : (v - 10 + 12 - (v - 10)).toNat = 12 := by omega
  rw [e1]
  refine ⟨by omega, rfl, ?_⟩
  refine wp_lcGo_pure (wholeP f s f' s') id (by rw [ups_len]; omega) (fun d hd => ?_) ?_
  · obtain ⟨k, rfl, k1, k2⟩ := mem_ups hd
    have z1 : Sz 6 16 (k : Rat) := (sz_int (show k.natAbs < 2 ^ 7 by omega)).mono (by decide) (by decide)
    simp -implicitDefEqProofs [noOwn, wipeE, wp_callF (told_k t (q := (k : Rat))), wholeP]
  · have hw := whole_ok t (lo := v - 10) (by omega) (by omega)
    have sm : Smp 8 (.lst ((ups (v - 10) 12).filter (wholeP f s f' s'))) := by
      rw [smp_lst]
      exact smps_ints fun d hd => by
        obtain ⟨k, rfl, _⟩ := mem_ups (List.mem_filter.mp hd).1
        exact ⟨k, rfl⟩
    simp -implicitDefEqProofs [restore, wipeE, noOwn, wp_callF hw, wl_ne sm sm]
    exact lawR3 _ _ _ _ _ _ rfl rfl
theorem wp_rest1 {x y z : Int} (t : Two f s f' s') [zq : Sz 3 6 q] {k0 : Int} (h : ∀ a b c, PD (.bl true) (.io (dl a b c) :: e)) : wp (call1 0 f__law_rest1 [scl f s, sh q, sh r, scs f s f' s', sh w, .int k0]) (.io (dl x y z) :: e) PD X := by
  obtain ⟨a, b, c, h1⟩ := rest1_ok x y z t (q := q) (r := r) (w := w) (k0 := k0)
  rw [wp_call1 rfl rfl h1]
  exact h a b c
end
end LW
set_option Elab.async false
set_option linter.all false
set_option maxRecDepth 100000
set_option maxHeartbeats 4000000
set_option autoImplicit false
namespace LW
open PySem PySem.Spec PyProof.Rows L2 LamX DL
abbrev rowL (f s f' s' q u : Rat) (k : Nat) : D := .tup [lp (hkq q u k), lp (td f s f' s' (hkq q u k))]
/-- what two scales are told to agree at -/
def alk (f s f' s' : Rat) : D := if f = f' then .str "no way" else sh (ts s f' s' / (1 - tf f f'))
section
variable {e : DL.Env} {PD : D → DL.Env → Prop} {X : Nat → DL.Env → Prop} {f s f' s' q w r u : Rat}
theorem sign_mul {a b : Rat} : 0 < a.num * b.num ↔ 0 < a * b := by
  have key : ∀ {a b : Rat}, 0 < a → 0 < b → 0 < a.num * b.num ∧ 0 < a * b := fun h1 h2 => ⟨Int.mul_pos (num_gt0.mpr h1) (num_gt0.mpr h2), Rat.mul_pos h1 h2⟩
  have neg : ∀ {a b : Rat}, a < 0 → 0 < b → a.num * b.num < 0 ∧ a * b < 0 := fun {a b} h1 h2 => by
    have h3 := key (a := -a) (b := b) (by grind) h2
    rw [Rat.neg_num] at h3
    constructor
    · have := h3.1; grind
    · have := h3.2; grind
  rcases Std.lt_trichotomy a 0 with h | h | h
  · rcases Std.lt_trichotomy b 0 with h2 | h2 | h2
    · have h3 := key (a := -a) (b := -b) (by grind) (by grind)
      rw [Rat.neg_num, Rat.neg_num] at h3
      constructor
      · intro _; have := h3.2; grind
      · intro _; have := h3.1; grind
    · subst h2; simp
    · have := neg h h2; grind
  · subst h; simp
  · rcases Std.lt_trichotomy b 0 with h2 | h2 | h2
    · have := neg h2 h
      rw [Int.mul_comm, Rat.mul_comm]
      grind
    · subst h2; simp
    · have := key h h2; grind
theorem lawS15 (x y z : Int) (t : Two f s f' s') [zq : Sz 3 6 q] {c : Nat} (hc : c ≤ 20) (s4 s5 s6 s9 s12 : Slot) (k0 : Int) :
    wp q_law_rest2_15 [.io (dl x y z), .im (scl f s), .im (scl f' s'), .im (sh q), s4, s5, s6, .im (alk f s f' s'), .im (sh r), s9, .im (sh w), .im (.tup (lst c (rowP f s f' s' q u))), s12, .ol (lst c (rowL f s f' s' q u)), .im (.int k0), .no, .im (scs f s f' s'), .no, .no] (fun f e => flD (.bl true) f ∧ ∃ a b c, e[0]? = some (.io (dl a b c))) (fun _ _ => False) := by
  simp -implicitDefEqProofs [q_law_rest2_15, noOwn, wipeE]
  refine wp_lcGo_lst (rowL f s f' s' q u) (by omega) (fun k hk => ?_) ?_
  · simp -implicitDefEqProofs [noOwn, wipeE]
  have sm : Smp 8 (.lst (lst c (rowL f s f' s' q u))) := by
    rw [smp_lst]
    refine smps_of fun d hd => ?_
    obtain ⟨j, hj, rfl⟩ := mem_lst hd
    rw [smp_tup]
    simp
  have zc : CMulA f.num f'.num := cmul_of t.zf.num t.zf'.num (by decide)
  by_cases hf : f = f'
  · have ha : alk f s f' s' = .str "no way" := if_pos hf
    simp -implicitDefEqProofs [restore, wl_ne sm sm, zc, wp_callF (rises_ok t), sign_mul, ha, wp_callFe (meet_err t hf), wl_eq, wl_ne, so_noway]
    refine wp_rest1 t ?_
    intro a b c
    simp -implicitDefEqProofs
    exact ⟨_, _, _, rfl⟩
  · have ha : alk f s f' s' = sh (ts s f' s' / (1 - tf f f')) := if_neg hf
    simp -implicitDefEqProofs [restore, wl_ne sm sm, zc, wp_callF (rises_ok t), sign_mul, ha, wp_callF (meet_ok t hf)]
    refine wp_rest1 t ?_
    intro a b c
    simp -implicitDefEqProofs
    exact ⟨_, _, _, rfl⟩
end
end LW
set_option Elab.async false
set_option linter.all false
set_option maxRecDepth 100000
set_option maxHeartbeats 4000000
set_option autoImplicit false
namespace LW
open PySem PySem.Spec PyProof.Rows L2 LamX DL
theorem hk_succ {q u : Rat} {k : Nat} : hkq q u k + u = hkq q u (k + 1) := by
  show q + (((k : Nat) : Int) : Rat) * u + u = q + (((k + 1 : Nat) : Int) : Rat) * u
  have : (((k + 1 : Nat) : Int) : Rat) = (((k : Nat) : Int) : Rat) + 1 := by norm_cast
  rw [this]; grind
theorem hk_mono {q u : Rat} (hu : 0 < u) {i : Nat} : ∀ {j : Nat}, i ≤ j → hkq q u i ≤ hkq q u j
  | 0, h => by have : i = 0 := by omega
               subst this; exact Rat.le_refl
  | j + 1, h => by
    by_cases e : i = j + 1
    · subst e; exact Rat.le_refl
    · have h1 := hk_mono (q := q) hu (i := i) (j := j) (by omega)
      have h2 : hkq q u j + u = hkq q u (j + 1) := hk_succ
      grind
theorem hk_first {q u w : Rat} (m : Nat) (h : w < hkq q u m) : ∃ c, c ≤ m ∧ (∀ k, k < c → hkq q u k ≤ w) ∧ w < hkq q u c := by
  induction m using Nat.strongRecOn with
  | ind k ih =>
    by_cases hx : ∀ j, j < k → hkq q u j ≤ w
    · exact ⟨k, Nat.le_refl _, hx, h⟩
    · obtain ⟨j, h1⟩ := Classical.not_forall.mp hx
      obtain ⟨h2, h3⟩ := Classical.not_imp.mp h1
      obtain ⟨c, h5, h6, h7⟩ := ih j h2 (Rat.not_le.mp h3)
      exact ⟨c, by omega, h6, h7⟩
section
variable {e : DL.Env} {PD : D → DL.Env → Prop} {X : Nat → DL.Env → Prop} {f s f' s' q w r u : Rat}
theorem lawS11 (x y z : Int) (t : Two f s f' s') [zq : Sz 3 6 q] (s4 s5 s6 : Slot) :
    wp q_law_rest2_11 [.io (dl x y z), .im (scl f s), .im (scl f' s'), .im (sh q), s4, s5, s6, .im (alk f s f' s'), .im (sh r), .no, .no, .no, .no, .no, .no, .no, .im (scs f s f' s'), .no, .no] (fun f e => flD (.bl true) f ∧ ∃ a b c, e[0]? = some (.io (dl a b c))) (fun _ _ => False) := by
  simp -implicitDefEqProofs [q_law_rest2_11]
  refine wp_roll (by decide) (by decide) ?_
  intro v x y z v0 v1
  simp -implicitDefEqProofs [wp_mkh]
  refine wp_roll (by decide) (by decide) ?_
  intro v2 x y z v20 v21
  have zu : Sz 2 3 (hv (1 + v)) := sz_hv (by omega)
  have zv : Sz 1 4 (v2 : Rat) := sz_int (by omega)
  have zw : Sz 4 11 (q + (v2 : Rat)) := sz_add (h' := zv)
  have hu2 := dv2 (1 + v)
  have hv0 : (0 : Rat) ≤ (v : Rat) := by exact_mod_cast v0
  have hv2 : (v2 : Rat) ≤ 8 := by
    have : v2 ≤ 8 := by omega
    exact_mod_cast this
  rw [Rat.intCast_add] at hu2
  have hone : ((1 : Int) : Rat) = 1 := rfl
  have hu : 0 < hv (1 + v) := by grind
  have h17 : q + (v2 : Rat) < hkq q (hv (1 + v)) 17 := by
    show q + (v2 : Rat) < q + (((17 : Nat) : Int) : Rat) * hv (1 + v)
    have : (((17 : Nat) : Int) : Rat) = 17 := rfl
    rw [this]
    grind
  obtain ⟨c, c1, c2, c3⟩ := hk_first 17 h17
  simp -implicitDefEqProofs
  revert zu zw hu c2 c3
  generalize hv (1 + v) = u
  generalize q + (v2 : Rat) = w
  intro zu zw hu c2 c3
  simp -implicitDefEqProofs [wp_callF (table_ok t (q := q) (u := u) (w := w) (c := c) (by omega) c2 c3 hu)]
  rw [ups_lst]
  have e0 : q = hkq q u 0 := by
    show q = q + (((0 : Nat) : Int) : Rat) * u
    grind
  refine wp_forM_lst (fun k e => ∃ s14 : Slot, s14.pin = false ∧ (k = 20 → s14 = .im (.int 19)) ∧ e = [.io (dl x y z), .im (scl f s), .im (scl f' s'), .im (sh q), s4, s5, s6, .im (alk f s f' s'), .im (sh r), .im (sh u), .im (sh w), .im (.tup (lst c (rowP f s f' s' q u))), .im (lp (hkq q u k)), .ol (lst (min k c) (rowL f s f' s' q u)), s14, .no, .im (scs f s f' s'), .no, .no]) ?_ ?_ ?_
  · refine ⟨.no, rfl, fun e => by omega, ?_⟩
    rw [← e0, Nat.zero_min]
    rfl
  · rintro k e hk ⟨s14, h14, _, rfl⟩
    have zk : Sz 6 16 (LW.hkq q u k) := sz_hk (by omega)
    have hs : LW.hkq q u k + u = LW.hkq q u (k + 1) := hk_succ
    by_cases hlt : k < c
    · have h1 : ¬ w < LW.hkq q u k := Rat.not_lt.mpr (c2 k hlt)
      have m1 : min k c = k := by omega
      have m2 : min (k + 1) c = k + 1 := by omega
      simp -implicitDefEqProofs [wp_setU0 h14, h1, wp_mkself, wp_callF (told_k t (q := LW.hkq q u k)), hs]
      rw [m1, m2, lst_succ]
      exact ⟨by omega, .im (.int (k : Int)), rfl, fun e => by subst e; rfl, rfl, rfl⟩
    · have h1 : w < LW.hkq q u k := by
        have := hk_mono (q := q) hu (i := c) (j := k) (by omega)
        grind
      have m1 : min k c = c := by omega
      have m2 : min (k + 1) c = c := by omega
      simp -implicitDefEqProofs [wp_setU0 h14, h1, hs]
      rw [m1, m2]
      exact ⟨.im (.int (k : Int)), rfl, fun e => by subst e; rfl, rfl, rfl⟩
  · rintro e ⟨s14, h14, hk, rfl⟩
    have m1 : min 20 c = c := by omega
    rw [m1, hk rfl]
    exact lawS15 _ _ _ t (by omega) _ _ _ _ _ _
end
end LW
set_option Elab.async false
set_option linter.all false
set_option maxRecDepth 100000
set_option maxHeartbeats 4000000
set_option autoImplicit false
namespace LW
open PySem PySem.Spec PyProof.Rows L2 LamX DL
section
variable {e : DL.Env} {PD : D → DL.Env → Prop} {X : Nat → DL.Env → Prop} {f s f' s' q w r u : Rat}
theorem turn_eq (n' : f' ≠ 0) : q * tf f f' + ts s f' s' = td f s f' s' q := by
  have e2 : (1 / f') * f' = 1 := Rat.div_mul_cancel n'
  have e3 : (0 - s') / f' * f' = 0 - s' := Rat.div_mul_cancel n'
  have e4 : (q * f + s - s') / f' * f' = q * f + s - s' := Rat.div_mul_cancel n'
  have e1 : (q * tf f f' + ts s f' s') * f' = (q * f + s - s') / f' * f' := by
    rw [e4]
    show (q * (f * (1 / f')) + (s * (1 / f') + (0 - s') / f')) * f' = _
    grind
  have := congrArg (· / f') e1
  simp only [Rat.mul_div_cancel n'] at this
  exact this
theorem lawS8 (x y z : Int) (t : Two f s f' s') [zq : Sz 3 6 q] (s5 : Slot) :
    wp q_law_rest2_8 [.io (dl x y z), .im (scl f s), .im (scl f' s'), .im (sh q), .im (lp (q * f + s)), s5, .im (lp (td f s f' s' q)), .im (alk f s f' s'), .im (sh r), .no, .no, .no, .no, .no, .no, .no, .no, .no, .no] (fun f e => flD (.bl true) f ∧ ∃ a b c, e[0]? = some (.io (dl a b c))) (fun _ _ => False) := by
  have z1 := t.zf
  have z2 := t.zs
  have z3 := t.zf'
  have z4 := t.zs'
  have n2 := t.n'
  have hp := toldp_ok t (q := q)
  have hg := gap_ok t (q := q)
  have htold := told_k (zq := zq.mono (by decide) (by decide)) t (q := q)
  have one0 : (1 : Rat) ≠ 0 := by decide
  simp -implicitDefEqProofs [q_law_rest2_8, sh_one, sh_zero, one0, disp3, wp_callF (scales_ok (a := scl f s) (b := scl f' s') (c := scl 1 0)), wp_callF htold, wp_callF hp, wp_callF hg, n2]
  exact lawS11 _ _ _ t _ _ _
theorem lawS6 (x y z : Int) (t : Two f s f' s') [zq : Sz 3 6 q] (s5 : Slot) :
    wp q_law_rest2_6 [.io (dl x y z), .im (scl f s), .im (scl f' s'), .im (sh q), .im (lp (q * f + s)), s5, .im (lp (td f s f' s' q)), .im (alk f s f' s'), .no, .no, .no, .no, .no, .no, .no, .no, .no, .no, .no] (fun f e => flD (.bl true) f ∧ ∃ a b c, e[0]? = some (.io (dl a b c))) (fun _ _ => False) := by
  have z1 := t.zf
  have z2 := t.zs
  have n1 := t.n
  simp -implicitDefEqProofs [q_law_rest2_6]
  refine wp_roll (by decide) (by decide) ?_
  intro v x y z v0 v1
  have zu : Sz 2 4 (hv (1 + v)) := sz_hv (by omega)
  have hu2 := dv2 (1 + v)
  rw [Rat.intCast_add] at hu2
  have hv0 : (0 : Rat) ≤ (v : Rat) := by exact_mod_cast v0
  have hone : ((1 : Int) : Rat) = 1 := rfl
  have hne : q ≠ q + hv (1 + v) := by grind
  have zb : Sz 6 12 (q + hv (1 + v)) := (sz_add (h' := zu) (h := zq)).mono (by decide) (by decide)
  simp -implicitDefEqProofs [wp_mkh]
  revert zb hne
  generalize q + hv (1 + v) = b
  intro hne zb
  simp -implicitDefEqProofs [wp_callF (points_ok (a := q) (b := b) (f := f) (s := s) hne n1), wl_ne]
  exact lawS8 _ _ _ t _
theorem rest2_ok (x y z : Int) (t : Two f s f' s') [zq : Sz 3 6 q] : ∃ a b c, f__law_rest2 (.io (dl x y z)) [scl f s, scl f' s', sh q, lp (q * f + s)] = .ok (.bl true) (.io (dl a b c)) := by
  have z1 := t.zf
  have z2 := t.zs
  have z3 := t.zf'
  have z4 := t.zs'
  have n1 := t.n
  have n2 := t.n'
  refine run1_dl (d := .bl true) rfl rfl ?_
  have htd : (q * f + s - s') / f' = td f s f' s' q := rfl
  by_cases hf : f = f'
  · subst hf
    have ha : alk f s f s' = .str "no way" := if_pos rfl
    simp -implicitDefEqProofs [q_law_rest2, env0, wp_between t, n2, turn_eq n2, wp_callFe (agree_err t rfl), q_law_rest2_3, wl_eq, wl_ne, so_noway]
    rw [← ha]
    exact lawS6 (q := q) _ _ _ t _
  · have ha : alk f s f' s' = sh (ts s f' s' / (1 - tf f f')) := if_neg hf
    have hag := agree_eq t hf
    have h1 : ¬ tf f f' = 1 := fun e => hf ((tf_one n2).mp e)
    have h2 : 1 - tf f f' ≠ 0 := by grind
    simp -implicitDefEqProofs [q_law_rest2, env0, wp_between t, n2, turn_eq n2, wp_callF (agree_ok t hf), q_law_rest2_3, hf, hag]
    rw [← ha]
    exact lawS6 (q := q) _ _ _ t _
theorem wp_rest2 {x y z : Int} (t : Two f s f' s') [zq : Sz 3 6 q] (h : ∀ a b c, PD (.bl true) (.io (dl a b c) :: e)) : wp (call1 0 f__law_rest2 [scl f s, scl f' s', sh q, lp (q * f + s)]) (.io (dl x y z) :: e) PD X := by
  obtain ⟨a, b, c, h1⟩ := rest2_ok x y z t (q := q)
  rw [wp_call1 rfl rfl h1]
  exact h a b c
end
end LW
set_option Elab.async false
set_option linter.all false
set_option maxRecDepth 100000
set_option maxHeartbeats 4000000
set_option autoImplicit false
namespace LW
open PySem PySem.Spec PyProof.Rows L2 LamX DL
theorem fac_at {v : Int} (h0 : 0 ≤ v) (h1 : v < 5) : ∃ c : Int, 1 ≤ c ∧ c ≤ 9 ∧ L2.atI [D.int 1, .int 2, .int 3, .int 5, .int 9] v = some (.int c) := by
  rcases (by omega : v = 0 ∨ v = 1 ∨ v = 2 ∨ v = 3 ∨ v = 4) with rfl | rfl | rfl | rfl | rfl
  · exact ⟨1, by decide, by decide, rfl⟩
  · exact ⟨2, by decide, by decide, rfl⟩
  · exact ⟨3, by decide, by decide, rfl⟩
  · exact ⟨5, by decide, by decide, rfl⟩
  · exact ⟨9, by decide, by decide, rfl⟩
theorem sgn_at {v : Int} (h0 : 0 ≤ v) (h1 : v < 2) : ∃ c : Int, (c = 1 ∨ c = -1) ∧ L2.atI [D.int 1, .int (-1)] v = some (.int c) := by
  rcases (by omega : v = 0 ∨ v = 1) with rfl | rfl
  · exact ⟨1, by decide, rfl⟩
  · exact ⟨-1, by decide, rfl⟩
theorem scale_ok (x y z : Int) : ∃ f s, Sz 3 4 f ∧ Sz 3 6 s ∧ f ≠ 0 ∧ ∃ a b c, f__law_scale (.io (dl x y z)) [] = .ok (scl f s) (.io (dl a b c)) := by
  have h : ∃ f s a b c, wp m__law_scale (.io (dl x y z) :: env0 1 []) (fun fl e => flD (scl f s) fl ∧ Sz 3 4 f ∧ Sz 3 6 s ∧ f ≠ 0 ∧ e[0]? = some (.io (dl a b c))) (fun _ _ => False) := by
    have key : wp m__law_scale (.io (dl x y z) :: env0 1 []) (fun fl e => ∃ f s a b c, flD (scl f s) fl ∧ Sz 3 4 f ∧ Sz 3 6 s ∧ f ≠ 0 ∧ e[0]? = some (.io (dl a b c))) (fun _ _ => False) := by
      simp -implicitDefEqProofs [m__law_scale, env0]
      refine wp_roll (by decide) (by decide) ?_
      intro v x y z v0 v1
      obtain ⟨c, c0, c1, hc⟩ := fac_at v0 v1
      simp -implicitDefEqProofs [hc]
      refine wp_roll (by decide) (by decide) ?_
      intro v x y z v0 v1
      obtain ⟨g, g1, hg⟩ := sgn_at v0 v1
      have hm : CMulA c g := .inl (by omega)
      simp -implicitDefEqProofs [hg, hm]
      refine wp_roll (by decide) (by decide) ?_
      intro v x y z v0 v1
      have hb : (1 + v).natAbs < 2 ^ 250 := Nat.lt_of_lt_of_le (show (1 + v).natAbs < 2 ^ 3 by omega) (Nat.pow_le_pow_right (by decide) (by decide))
      have ht : (c * g).natAbs < 2 ^ 4 ∧ c * g ≠ 0 := by
        rcases g1 with rfl | rfl
        · rw [Int.mul_one]; omega
        · rw [Int.mul_neg_one]; omega
      have zf : Sz 3 4 (Rat.divInt (c * g) (1 + v)) := sz_dv ht.1 (by omega) (by omega)
      have hne : Rat.divInt (c * g) (1 + v) ≠ 0 := by
        intro e
        have := dv_mul (t := c * g) (u := 1 + v) (by omega)
        rw [e, Rat.zero_mul] at this
        have : ((0 : Int) : Rat) = ((c * g : Int) : Rat) := this
        exact ht.2 (Rat.intCast_inj.mp this).symm
      simp -implicitDefEqProofs [wp_mk hb (show (1 + v) ≠ 0 by omega)]
      revert zf hne
      generalize Rat.divInt (c * g) (1 + v) = f
      intro zf hne
      refine wp_share 3 6 (by decide) (by decide) (by decide) (by decide) (by decide) (by decide) ?_
      intro t u x y z _ _ _ _ z5
      simp -implicitDefEqProofs [hne]
      exact ⟨_, _, ⟨rfl, rfl⟩, zf, z5, hne, _, _, _, rfl⟩
    obtain ⟨fl, e, h1, f, s, a, b, c, h2⟩ := wp_get key
    refine ⟨f, s, a, b, c, ?_⟩
    rw [wp_ok h1]
    exact h2
  obtain ⟨f, s, a, b, c, h⟩ := h
  obtain ⟨fl, e, h1, h2, h3, h4, h5, h6⟩ := wp_get h
  refine ⟨f, s, h3, h4, h5, ?_⟩
  exact run1_dl rfl rfl (by rw [wp_ok h1]; exact ⟨h2, a, b, c, h6⟩)
theorem wp_scale {x y z : Int} {e : DL.Env} {PD : D → DL.Env → Prop} {X : Nat → DL.Env → Prop} (h : ∀ f s a b c, Sz 3 4 f → Sz 3 6 s → f ≠ 0 → PD (scl f s) (.io (dl a b c) :: e)) : wp (call1 0 f__law_scale []) (.io (dl x y z) :: e) PD X := by
  obtain ⟨f, s, h3, h4, h5, a, b, c, h1⟩ := scale_ok x y z
  rw [wp_call1 rfl rfl h1]
  exact h f s a b c h3 h4 h5
theorem law_math : ∀ x y z, wp m_law ((List.replicate 7 .no).set 1 (.io (dl x y z))) (fun f _ => f = .nx) (fun _ _ => False) := by
  intro x y z
  simp -implicitDefEqProofs [m_law, List.replicate]
  refine wp_scale ?_
  intro f s x y z zf zs n1
  simp -implicitDefEqProofs
  refine wp_scale ?_
  intro f' s' x y z zf' zs' n2
  simp -implicitDefEqProofs
  have t : Two f s f' s' := ⟨zf, zs, zf', zs', n1, n2⟩
  refine wp_share 3 6 (by decide) (by decide) (by decide) (by decide) (by decide) (by decide) ?_
  intro tt u x y z _ _ _ _ zq
  revert zq
  generalize Rat.divInt tt u = q
  intro zq
  have i1 := inv_ne n1
  have e1 : (q * f + s - s) / f = q := by
    have : q * f + s - s = q * f := by grind
    rw [this, Rat.mul_div_cancel n1]
  have e2 : q * (f * f') + (s * f' + s') = (q * f + s) * f' + s' := by grind
  have c1 : ∀ {a b : Rat}, a * f = b * f → a = b := fun {a b} h => by
    have := congrArg (· / f) h
    simpa only [Rat.mul_div_cancel n1] using this
  have e3 : q * (1 / f) + (0 - s) / f = (q - s) / f := by
    have h1 : (1 / f) * f = 1 := Rat.div_mul_cancel n1
    have h2 : (0 - s) / f * f = 0 - s := Rat.div_mul_cancel n1
    have h3 : (q - s) / f * f = q - s := Rat.div_mul_cancel n1
    refine c1 ?_
    rw [h3]; grind
  have c2 : ∀ {a b : Rat}, a * (1 / f) = b → a = b * f := fun {a b} h => by
    have h1 : (1 / f) * f = 1 := Rat.div_mul_cancel n1
    rw [← h, Rat.mul_assoc, h1, Rat.mul_one]
  have e4 : 1 / (1 / f) = f := by
    have := c2 (Rat.div_mul_cancel (a := 1) i1)
    rw [this, Rat.one_mul]
  have e5 : (0 - (0 - s) / f) / (1 / f) = s := by
    have h1 := c2 (Rat.div_mul_cancel (a := 0 - (0 - s) / f) i1)
    have h2 : (0 - s) / f * f = 0 - s := Rat.div_mul_cancel n1
    rw [h1]; grind
  simp -implicitDefEqProofs [n1, n2, i1, e1, e2, e3, e4, e5, wl_ne]
  refine wp_rest2 t ?_
  intro a b c
  simp -implicitDefEqProofs
end LW
set_option Elab.async false
set_option linter.all false
set_option maxRecDepth 100000
set_option maxHeartbeats 0
set_option autoImplicit false
namespace LW
open PySem PySem.Spec PyProof.Rows L2 LamX DL
def top (i : Nat) : Stmt := PySem.Challenge.pw_unithall_k05_scales.main.body.getD i (.Pass ⟨0, 0, 0, 0⟩)
def dd__law_dice : He.DefD := ⟨("_law_dice", none), "_law_dice", "_law_dice", defArgs (top 23), defBody (top 23), defScope (top 23), [], []⟩
def dd__law_rounds : He.DefD := ⟨("_law_rounds", none), "_law_rounds", "_law_rounds", defArgs (top 25), defBody (top 25), defScope (top 25), [], []⟩
def dd_shared_part : He.DefD := ⟨("shared_part", none), "shared_part", "shared_part", defArgs (top 12), defBody (top 12), defScope (top 12), [], []⟩
def dd_Share___init__ : He.DefD := ⟨("Share", some "__init__"), "__init__", "Share.__init__", defArgs (inClass (top 13) 0), defBody (inClass (top 13) 0), defScope (inClass (top 13) 0), [], []⟩
def dd__law_roll : He.DefD := ⟨("_law_roll", none), "_law_roll", "_law_roll", defArgs (top 24), defBody (top 24), defScope (top 24), [], []⟩
def dd_Scale___init__ : He.DefD := ⟨("Scale", some "__init__"), "__init__", "Scale.__init__", defArgs (inClass (top 15) 0), defBody (inClass (top 15) 0), defScope (inClass (top 15) 0), [], []⟩
def dd__law_share : He.DefD := ⟨("_law_share", none), "_law_share", "_law_share", defArgs (top 33), defBody (top 33), defScope (top 33), [], []⟩
def dd__law_scale : He.DefD := ⟨("_law_scale", none), "_law_scale", "_law_scale", defArgs (top 34), defBody (top 34), defScope (top 34), [], []⟩
def dd__law_low : He.DefD := ⟨("_law_low", none), "_law_low", "_law_low", defArgs (top 27), defBody (top 27), defScope (top 27), [], []⟩
def dd__law_plus : He.DefD := ⟨("_law_plus", none), "_law_plus", "_law_plus", defArgs (top 28), defBody (top 28), defScope (top 28), [], []⟩
def dd__law_times : He.DefD := ⟨("_law_times", none), "_law_times", "_law_times", defArgs (top 30), defBody (top 30), defScope (top 30), [], []⟩
def dd_Share_key : He.DefD := ⟨("Share", some "key"), "key", "Share.key", defArgs (inClass (top 13) 14), defBody (inClass (top 13) 14), defScope (inClass (top 13) 14), [], []⟩
def dd_Scale_key : He.DefD := ⟨("Scale", some "key"), "key", "Scale.key", defArgs (inClass (top 15) 6), defBody (inClass (top 15) 6), defScope (inClass (top 15) 6), [], []⟩
def dd_Share_plus : He.DefD := ⟨("Share", some "plus"), "plus", "Share.plus", defArgs (inClass (top 13) 1), defBody (inClass (top 13) 1), defScope (inClass (top 13) 1), [], []⟩
def dd_Share_times : He.DefD := ⟨("Share", some "times"), "times", "Share.times", defArgs (inClass (top 13) 3), defBody (inClass (top 13) 3), defScope (inClass (top 13) 3), [], []⟩
def dd_Scale_plain : He.DefD := ⟨("Scale", some "plain"), "plain", "Scale.plain", defArgs (inClass (top 15) 1), defBody (inClass (top 15) 1), defScope (inClass (top 15) 1), [], []⟩
def dd_Share_over : He.DefD := ⟨("Share", some "over"), "over", "Share.over", defArgs (inClass (top 13) 4), defBody (inClass (top 13) 4), defScope (inClass (top 13) 4), [], []⟩
def dd_Share_less : He.DefD := ⟨("Share", some "less"), "less", "Share.less", defArgs (inClass (top 13) 2), defBody (inClass (top 13) 2), defScope (inClass (top 13) 2), [], []⟩
def dd_Scale_mark : He.DefD := ⟨("Scale", some "mark"), "mark", "Scale.mark", defArgs (inClass (top 15) 2), defBody (inClass (top 15) 2), defScope (inClass (top 15) 2), [], []⟩
def dd_Scale_step : He.DefD := ⟨("Scale", some "step"), "step", "Scale.step", defArgs (inClass (top 15) 3), defBody (inClass (top 15) 3), defScope (inClass (top 15) 3), [], []⟩
def dd_Scale_told_by : He.DefD := ⟨("Scale", some "told_by"), "told_by", "Scale.told_by", defArgs (inClass (top 15) 4), defBody (inClass (top 15) 4), defScope (inClass (top 15) 4), [], []⟩
def dd_Scale_turned : He.DefD := ⟨("Scale", some "turned"), "turned", "Scale.turned", defArgs (inClass (top 15) 5), defBody (inClass (top 15) 5), defScope (inClass (top 15) 5), [], []⟩
def dd_between : He.DefD := ⟨("between", none), "between", "between", defArgs (top 16), defBody (top 16), defScope (top 16), [], []⟩
def dd__law_over : He.DefD := ⟨("_law_over", none), "_law_over", "_law_over", defArgs (top 31), defBody (top 31), defScope (top 31), [], []⟩
def dd__law_less : He.DefD := ⟨("_law_less", none), "_law_less", "_law_less", defArgs (top 29), defBody (top 29), defScope (top 29), [], []⟩
def dd_Share_order : He.DefD := ⟨("Share", some "order"), "order", "Share.order", defArgs (inClass (top 13) 6), defBody (inClass (top 13) 6), defScope (inClass (top 13) 6), [], []⟩
def dd_agree_at : He.DefD := ⟨("agree_at", none), "agree_at", "agree_at", defArgs (top 17), defBody (top 17), defScope (top 17), [], []⟩
def dd_from_points : He.DefD := ⟨("from_points", none), "from_points", "from_points", defArgs (top 18), defBody (top 18), defScope (top 18), [], []⟩
def dd_Scales___init__ : He.DefD := ⟨("Scales", some "__init__"), "__init__", "Scales.__init__", defArgs (inClass (top 19) 0), defBody (inClass (top 19) 0), defScope (inClass (top 19) 0), [], []⟩
def dd_Scales_scale_of : He.DefD := ⟨("Scales", some "scale_of"), "scale_of", "Scales.scale_of", defArgs (inClass (top 19) 1), defBody (inClass (top 19) 1), defScope (inClass (top 19) 1), [], []⟩
def dd_Scales_told : He.DefD := ⟨("Scales", some "told"), "told", "Scales.told", defArgs (inClass (top 19) 2), defBody (inClass (top 19) 2), defScope (inClass (top 19) 2), [], []⟩
def dd_Scales_gap : He.DefD := ⟨("Scales", some "gap"), "gap", "Scales.gap", defArgs (inClass (top 19) 3), defBody (inClass (top 19) 3), defScope (inClass (top 19) 3), [], []⟩
def dd_Scales_table : He.DefD := ⟨("Scales", some "table"), "table", "Scales.table", defArgs (inClass (top 19) 4), defBody (inClass (top 19) 4), defScope (inClass (top 19) 4), [], []⟩
def dd__law_is_less : He.DefD := ⟨("_law_is_less", none), "_law_is_less", "_law_is_less", defArgs (top 32), defBody (top 32), defScope (top 32), [], []⟩
def dd_Scales_rises : He.DefD := ⟨("Scales", some "rises"), "rises", "Scales.rises", defArgs (inClass (top 19) 5), defBody (inClass (top 19) 5), defScope (inClass (top 19) 5), [], []⟩
def dd_Scales_meet : He.DefD := ⟨("Scales", some "meet"), "meet", "Scales.meet", defArgs (inClass (top 19) 6), defBody (inClass (top 19) 6), defScope (inClass (top 19) 6), [], []⟩
def dd_Share_is_whole : He.DefD := ⟨("Share", some "is_whole"), "is_whole", "Share.is_whole", defArgs (inClass (top 13) 7), defBody (inClass (top 13) 7), defScope (inClass (top 13) 7), [], []⟩
def dd_Scales_whole_marks : He.DefD := ⟨("Scales", some "whole_marks"), "whole_marks", "Scales.whole_marks", defArgs (inClass (top 19) 7), defBody (inClass (top 19) 7), defScope (inClass (top 19) 7), [], []⟩
def dd_between_points : He.DefD := ⟨("between_points", none), "between_points", "between_points", defArgs (top 20), defBody (top 20), defScope (top 20), [], []⟩
def dd_worst_gap : He.DefD := ⟨("worst_gap", none), "worst_gap", "worst_gap", defArgs (top 21), defBody (top 21), defScope (top 21), [], []⟩
def dd__law_wrong_points : He.DefD := ⟨("_law_wrong_points", none), "_law_wrong_points", "_law_wrong_points", defArgs (top 35), defBody (top 35), defScope (top 35), [], []⟩
def dd__law_rest1 : He.DefD := ⟨("_law_rest1", none), "_law_rest1", "_law_rest1", defArgs (top 37), defBody (top 37), defScope (top 37), [], []⟩
def dd__law_rest2 : He.DefD := ⟨("_law_rest2", none), "_law_rest2", "_law_rest2", defArgs (top 36), defBody (top 36), defScope (top 36), [], []⟩
def dd_law : He.DefD := ⟨("law", none), "law", "law", defArgs (top 38), defBody (top 38), defScope (top 38), [], []⟩
def dd__law_told : He.DefD := ⟨("_law_told", none), "_law_told", "_law_told", defArgs (top 26), defBody (top 26), defScope (top 26), [], []⟩
def fn : List He.DefD := [dd__law_dice, dd__law_rounds, dd_shared_part, dd_Share___init__, dd__law_roll, dd_Scale___init__, dd__law_share, dd__law_scale, dd__law_low, dd__law_plus, dd__law_times, dd_Share_key, dd_Scale_key, dd_Share_plus, dd_Share_times, dd_Scale_plain, dd_Share_over, dd_Share_less, dd_Scale_mark, dd_Scale_step, dd_Scale_told_by, dd_Scale_turned, dd_between, dd__law_over, dd__law_less, dd_Share_order, dd_agree_at, dd_from_points, dd_Scales___init__, dd_Scales_scale_of, dd_Scales_told, dd_Scales_gap, dd_Scales_table, dd__law_is_less, dd_Scales_rises, dd_Scales_meet, dd_Share_is_whole, dd_Scales_whole_marks, dd_between_points, dd_worst_gap, dd__law_wrong_points, dd__law_rest1, dd__law_rest2, dd_law, dd__law_told]
def fa_0 : List He.Fa := [.free "abs", .free "int", .glo "_law_dice", .glo "_law_rounds", .glo "shared_part", .mkr "Share", .glo "Share", .glo "_law_roll", .mkr "Scale", .glo "Scale", .glo "_law_share", .glo "_law_scale", .free "range", .glo "_law_low", .glo "_law_plus", .glo "_law_times", .cls "Share", .meth "Share" "key", .cls "Scale", .meth "Scale" "key", .meth "Share" "plus", .meth "Share" "times", .meth "Scale" "plain", .meth "Share" "over", .meth "Share" "less", .meth "Scale" "mark", .meth "Scale" "step", .meth "Scale" "told_by", .meth "Scale" "turned", .glo "between", .glo "_law_over", .glo "_law_less", .meth "Share" "order", .glo "agree_at", .glo "from_points", .free "sorted", .free "dict", .mkr "Scales", .glo "Scales", .cls "Scales"]
def fa_1 : List He.Fa := [.meth "Scales" "scale_of", .meth "Scales" "told", .meth "Scales" "gap", .free "tuple", .meth "Scales" "table", .glo "_law_is_less", .meth "Scales" "rises", .meth "Scales" "meet", .meth "Share" "is_whole", .meth "Scales" "whole_marks", .free "len", .free "any", .glo "between_points", .glo "worst_gap", .glo "_law_wrong_points", .free "list", .free "min", .glo "_law_rest1", .glo "_law_rest2", .glo "law", .noat "Share" "bottom", .noat "Scale" "factor", .noat "Scales" "rows", .noat "Scale" "start", .noat "Share" "top", .glo "BadNumber", .exc "BadNumber", .glo "BadRule", .exc "BadRule", .glo "NoSuch", .exc "NoSuch", .glo "NoWay", .exc "NoWay", .glo "BadText", .glo "TooLarge", .glo "BadName", .glo "BadKind", .exm "BadKind" "BadKind" true, .exm "BadName" "BadName" true, .exm "BadName" "BadKind" false]
def fa_2 : List He.Fa := [.exm "BadNumber" "BadNumber" true, .exm "BadNumber" "BadName" false, .exm "BadNumber" "BadKind" false, .exm "BadRule" "BadRule" true, .exm "BadRule" "BadNumber" false, .exm "BadRule" "BadName" false, .exm "BadRule" "BadKind" false, .exm "NoSuch" "NoSuch" true, .exm "NoSuch" "BadRule" false, .exm "NoSuch" "BadNumber" false, .exm "NoSuch" "BadName" false, .exm "NoSuch" "BadKind" false, .exm "NoWay" "NoWay" true, .exm "NoWay" "NoSuch" false, .exm "NoWay" "BadRule" false, .exm "NoWay" "BadNumber" false, .exm "NoWay" "BadName" false, .exm "NoWay" "BadKind" false, .exm "TooLarge" "TooLarge" true, .exm "TooLarge" "NoWay" false, .exm "TooLarge" "NoSuch" false, .exm "TooLarge" "BadRule" false, .exm "TooLarge" "BadNumber" false, .exm "TooLarge" "BadName" false, .exm "TooLarge" "BadKind" false, .exm "BadText" "BadText" true, .exm "BadText" "TooLarge" false, .exm "BadText" "NoWay" false, .exm "BadText" "NoSuch" false, .exm "BadText" "BadRule" false, .exm "BadText" "BadNumber" false, .exm "BadText" "BadName" false, .exm "BadText" "BadKind" false, .glo "_law_told"]
def fa : List He.Fa := fa_0 ++ fa_1 ++ fa_2
def lmq : List ((Str × Option Str) × Str) := [(("between_points", none), "between_points.<locals>.<genexpr>"), (("_law_wrong_points", none), "_law_wrong_points.<locals>.<lambda>"), (("_law_rest1", none), "_law_rest1.<locals>.<lambda>"), (("_law_rest2", none), "_law_rest2.<locals>.<lambda>")]
def lm : List (Str × Option Str) := lmq.map (·.1)
def clsN : List Str := ["UnitFault", "BadName", "BadNumber", "BadKind", "BadRule", "NoSuch", "NoWay", "TooLarge", "BadText", "Share", "Scale", "Scales"]
def layN : List (List Str) := [[], [], [], [], [], [], [], [], ["row"], ["top", "bottom"], ["factor", "start"], ["rows"]]
def gx (K : PySem.W.Frag) : Gx := { T := lmq.map fun q => (tabA K q.1, q.2), ca := fun n => He.ga K (clsN.getD n ""), lay := fun n => layN.getD n [] }
structure Hd (P : Program) (w : World) (K : PySem.W.Frag) (mg : Str → Option Value) (base : Heap) : Prop where
  c : He.SaysD fa fn K
  eq : fa.all (eqB K) = true
  gl : ∀ x, (He.Fa.glo x).ok K = true → mg x = some (.ref (He.ga K x))
  fr : ∀ x, (He.Fa.free x).ok K = true → mg x = none
  kin : K.In base
  cd : ∀ p ∈ lm, codeOk K p = true
  inj : ∀ p ∈ lm, ∀ q ∈ lm, tabA K p = tabA K q → p = q
  tb : ∀ p ∈ lm, TabB base mg (codeA K p) (tabA K p)
section
variable {P : Program} {w : World} {K : PySem.W.Frag} {mg : Str → Option Value} {base : Heap}
theorem FldOk.nil {K : PySem.W.Frag} {g : Gx} {f : Str} : FldOk K g f [] := fun c i h => by cases h
theorem FldOk.cons {K : PySem.W.Frag} {g : Gx} {f : Str} {c i : Nat} {l : List (Nat × Nat)} (h1 : Cls K (g.ca c)) (h2 : NoAttr K (g.ca c) f) (h3 : (g.lay c)[i]? = some f) (h4 : ∀ j, j < i → (g.lay c)[j]? ≠ some f) (r : FldOk K g f l) : FldOk K g f ((c, i) :: l) := fun c' i' h => by
  rw [List.lookup_cons] at h
  by_cases e : c' = c
  · subst e
    rw [beq_self_eq_true] at h
    cases h
    exact ⟨h1, h2, h3, h4⟩
  · rw [show (c' == c) = false by simpa using e] at h
    exact r c' i' h
theorem FldOk.one {K : PySem.W.Frag} {g : Gx} {f : Str} {c i : Nat} {l : List (Nat × Nat)} (h : FldOk K g f l) (e : l.lookup c = some i) : FldOk K g f [(c, i)] := fun c' i' q => by
  rw [List.lookup_cons] at q
  by_cases ec : c' = c
  · subst ec
    rw [beq_self_eq_true] at q
    cases q
    exact h _ _ e
  · rw [show (c' == c) = false by simpa using ec] at q
    cases q

theorem genD (E : Hd P w K mg base) {x qual : Str} {params : Arguments} {body : List Stmt} {scope : Scope} {fd : FuncData} {p : Str × Option Str} (F : FunD K x qual params body scope [] [] (He.fAd K p) fd) (hp : p ∈ lm) {X : Cx} (hb : X.base = base) (hm : X.mg = mg) (hc : X.env.code = fd.code) (z : Str) (hz : X.env.qual ++ "<genexpr>" = z) (hq : (p, z) ∈ lmq) (hu : ∀ q ∈ lmq, q.1 = p → q.2 = z) : GenD X (gx K) := by
  subst hz
  refine ⟨codeA K p, tabA K p, by rw [hb, hm]; exact E.tb p hp, by rw [hc]; exact code_of E.kin (E.cd p hp) F, List.mem_map.mpr ⟨_, hq, rfl⟩, fun q hq' e => ?_⟩
  obtain ⟨r, hr, rfl⟩ := List.mem_map.mp hq'
  exact hu r hr (E.inj r.1 (List.mem_map.mpr ⟨r, hr, rfl⟩) p hp e)
theorem lamD (E : Hd P w K mg base) {x qual : Str} {params : Arguments} {body : List Stmt} {scope : Scope} {fd : FuncData} {p : Str × Option Str} (F : FunD K x qual params body scope [] [] (He.fAd K p) fd) (hp : p ∈ lm) {X : Cx} (hb : X.base = base) (hm : X.mg = mg) (hc : X.env.code = fd.code) (z : Str) (hz : X.env.qual ++ "<lambda>" = z) (hq : (p, z) ∈ lmq) (hu : ∀ q ∈ lmq, q.1 = p → q.2 = z) : LamD X (gx K) := by
  subst hz
  refine ⟨codeA K p, tabA K p, by rw [hb, hm]; exact E.tb p hp, by rw [hc]; exact code_of E.kin (E.cd p hp) F, List.mem_map.mpr ⟨_, hq, rfl⟩, fun q hq' e => ?_⟩
  obtain ⟨r, hr, rfl⟩ := List.mem_map.mp hq'
  exact hu r hr (E.inj r.1 (List.mem_map.mpr ⟨r, hr, rfl⟩) p hp e)
theorem fld_bottom (E : Hd P w K mg base) : FldOk K (gx K) "bottom" al_bottom := FldOk.cons (He.cls_ok (E.c.fact 16)) (He.noat_ok (E.c.fact 60)) (by rfl) (show ∀ j, j < 1 → (layN.getD 9 [])[j]? ≠ some ("bottom" : Str) from by decide) (FldOk.nil)
theorem fld_factor (E : Hd P w K mg base) : FldOk K (gx K) "factor" al_factor := FldOk.cons (He.cls_ok (E.c.fact 18)) (He.noat_ok (E.c.fact 61)) (by rfl) (show ∀ j, j < 0 → (layN.getD 10 [])[j]? ≠ some ("factor" : Str) from by decide) (FldOk.nil)
theorem fld_rows (E : Hd P w K mg base) : FldOk K (gx K) "rows" al_rows := FldOk.cons (He.cls_ok (E.c.fact 39)) (He.noat_ok (E.c.fact 62)) (by rfl) (show ∀ j, j < 0 → (layN.getD 11 [])[j]? ≠ some ("rows" : Str) from by decide) (FldOk.nil)
theorem fld_start (E : Hd P w K mg base) : FldOk K (gx K) "start" al_start := FldOk.cons (He.cls_ok (E.c.fact 18)) (He.noat_ok (E.c.fact 63)) (by rfl) (show ∀ j, j < 1 → (layN.getD 10 [])[j]? ≠ some ("start" : Str) from by decide) (FldOk.nil)
theorem fld_top (E : Hd P w K mg base) : FldOk K (gx K) "top" al_top := FldOk.cons (He.cls_ok (E.c.fact 16)) (He.noat_ok (E.c.fact 64)) (by rfl) (show ∀ j, j < 0 → (layN.getD 9 [])[j]? ≠ some ("top" : Str) from by decide) (FldOk.nil)
theorem exd_BadNumber (E : Hd P w K mg base) : ExD K mg (gx K) 2 "BadNumber" := ⟨(E.gl "BadNumber" (E.c.fact 65)), (He.exc_ok (E.c.fact 66)).1, (He.exc_ok (E.c.fact 66)).2.1, (He.exc_ok (E.c.fact 66)).2.2.1, (He.exc_ok (E.c.fact 66)).2.2.2⟩
theorem exd_BadRule (E : Hd P w K mg base) : ExD K mg (gx K) 4 "BadRule" := ⟨(E.gl "BadRule" (E.c.fact 67)), (He.exc_ok (E.c.fact 68)).1, (He.exc_ok (E.c.fact 68)).2.1, (He.exc_ok (E.c.fact 68)).2.2.1, (He.exc_ok (E.c.fact 68)).2.2.2⟩
theorem exd_NoSuch (E : Hd P w K mg base) : ExD K mg (gx K) 5 "NoSuch" := ⟨(E.gl "NoSuch" (E.c.fact 69)), (He.exc_ok (E.c.fact 70)).1, (He.exc_ok (E.c.fact 70)).2.1, (He.exc_ok (E.c.fact 70)).2.2.1, (He.exc_ok (E.c.fact 70)).2.2.2⟩
theorem exd_NoWay (E : Hd P w K mg base) : ExD K mg (gx K) 6 "NoWay" := ⟨(E.gl "NoWay" (E.c.fact 71)), (He.exc_ok (E.c.fact 72)).1, (He.exc_ok (E.c.fact 72)).2.1, (He.exc_ok (E.c.fact 72)).2.2.1, (He.exc_ok (E.c.fact 72)).2.2.2⟩
theorem eqsT (E : Hd P w K mg base) : EqAll K (gx K) csT := EqAll.cons (eqCls_of E.c E.eq 16) (EqAll.cons (eqCls_of E.c E.eq 18) (EqAll.cons (eqCls_of E.c E.eq 39) (EqAll.nil)))
abbrev st__law_told : Stmt := top 26
theorem told_law (E : Hd P w K mg base) : ToldD K mg (gx K) "_law_told" "what" toldTab := by
  obtain ⟨fd, F⟩ := E.c.def_ 44
  have hb : L2.Binds K fd ["what"] [] := F.bindsN fun _ _ _ _ _ _ us hl => match us, hl with | [_], _ => rfl
  have kp := F.kp
  obtain ⟨oc, od, dV, kV, doc, pm, an, cdv, ct, osl, rfl, lk, hcd, _, _⟩ := F.ex
  refine ⟨_, _, _, _, _, _, _, _, _, _, _, _, _, _, _, _, _, _, _, [((gx K).ca 3, "kind"), ((gx K).ca 1, "name"), ((gx K).ca 2, "number"), ((gx K).ca 4, "rule"), ((gx K).ca 5, "no such"), ((gx K).ca 6, "no way"), ((gx K).ca 7, "large"), ((gx K).ca 8, "text")], (E.gl "_law_told" (E.c.fact 113)), kp, lk, hcd, hb, ⟨rfl, rfl, rfl, by decide +kernel, rfl, by decide +kernel, by decide +kernel⟩, Or.inl rfl, .cons rfl (E.gl "BadKind" (E.c.fact 76)) (by decide) (.cons rfl (E.gl "BadName" (E.c.fact 75)) (by decide) (.cons rfl (E.gl "BadNumber" (E.c.fact 65)) (by decide) (.cons rfl (E.gl "BadRule" (E.c.fact 67)) (by decide) (.cons rfl (E.gl "NoSuch" (E.c.fact 69)) (by decide) (.cons rfl (E.gl "NoWay" (E.c.fact 71)) (by decide) (.cons rfl (E.gl "TooLarge" (E.c.fact 74)) (by decide) (.cons rfl (E.gl "BadText" (E.c.fact 73)) (by decide) (.nil)))))))), ?_⟩
  intro c s h
  have h := lookup_mem h
  simp only [toldTab, List.mem_cons, Prod.mk.injEq, List.not_mem_nil, or_false] at h
  rcases h with ⟨rfl, rfl⟩ | ⟨rfl, rfl⟩ | ⟨rfl, rfl⟩ | ⟨rfl, rfl⟩ | ⟨rfl, rfl⟩ | ⟨rfl, rfl⟩ | ⟨rfl, rfl⟩ | ⟨rfl, rfl⟩
  · exact .inl ⟨He.exm_ok (E.c.fact 77), rfl⟩
  · exact .inr ⟨He.exm_ok (E.c.fact 79), .inl ⟨He.exm_ok (E.c.fact 78), rfl⟩⟩
  · exact .inr ⟨He.exm_ok (E.c.fact 82), .inr ⟨He.exm_ok (E.c.fact 81), .inl ⟨He.exm_ok (E.c.fact 80), rfl⟩⟩⟩
  · exact .inr ⟨He.exm_ok (E.c.fact 86), .inr ⟨He.exm_ok (E.c.fact 85), .inr ⟨He.exm_ok (E.c.fact 84), .inl ⟨He.exm_ok (E.c.fact 83), rfl⟩⟩⟩⟩
  · exact .inr ⟨He.exm_ok (E.c.fact 91), .inr ⟨He.exm_ok (E.c.fact 90), .inr ⟨He.exm_ok (E.c.fact 89), .inr ⟨He.exm_ok (E.c.fact 88), .inl ⟨He.exm_ok (E.c.fact 87), rfl⟩⟩⟩⟩⟩
  · exact .inr ⟨He.exm_ok (E.c.fact 97), .inr ⟨He.exm_ok (E.c.fact 96), .inr ⟨He.exm_ok (E.c.fact 95), .inr ⟨He.exm_ok (E.c.fact 94), .inr ⟨He.exm_ok (E.c.fact 93), .inl ⟨He.exm_ok (E.c.fact 92), rfl⟩⟩⟩⟩⟩⟩
  · exact .inr ⟨He.exm_ok (E.c.fact 104), .inr ⟨He.exm_ok (E.c.fact 103), .inr ⟨He.exm_ok (E.c.fact 102), .inr ⟨He.exm_ok (E.c.fact 101), .inr ⟨He.exm_ok (E.c.fact 100), .inr ⟨He.exm_ok (E.c.fact 99), .inl ⟨He.exm_ok (E.c.fact 98), rfl⟩⟩⟩⟩⟩⟩⟩
  · exact .inr ⟨He.exm_ok (E.c.fact 112), .inr ⟨He.exm_ok (E.c.fact 111), .inr ⟨He.exm_ok (E.c.fact 110), .inr ⟨He.exm_ok (E.c.fact 109), .inr ⟨He.exm_ok (E.c.fact 108), .inr ⟨He.exm_ok (E.c.fact 107), .inr ⟨He.exm_ok (E.c.fact 106), .inl ⟨He.exm_ok (E.c.fact 105), rfl⟩⟩⟩⟩⟩⟩⟩⟩
/-! _law_dice -/
abbrev st__law_dice : Stmt := top 23
abbrev N__law_dice : List Str := ["cell"]
theorem sc__law_dice : FnScope N__law_dice ["cell"] (defScope st__law_dice) := ⟨rfl, rfl, rfl, by decide +kernel, rfl, by decide +kernel, by decide +kernel⟩
theorem fn__law_dice (E : Hd P w K mg base) : FnD P w K mg base "_law_dice" 1 1 (spG K (gx K) (RO K (gx K)) 1 f__law_dice) := by
  obtain ⟨fd, F⟩ := E.c.def_ 0
  refine ⟨_, fd, _, fnD_okL (m := m__law_dice) (k := 0) (N := N__law_dice) F sc__law_dice fun A outer s H E2 hr => ?_, (E.gl "_law_dice" (E.c.fact 2)), F.kp, (F.bindsN (ps := ["cell"]) fun _ _ _ _ _ _ us hl => match us, hl with | [_], _ => rfl)⟩
  have tk : Takes (cxOf (L2.CX P w) P w K mg base N__law_dice "_law_dice" (defScope st__law_dice) (He.fAd K ("_law_dice", none)) fd.code A outer s H E2) (WF E2) := takes_of rfl rfl rfl rfl
  exact l_if (sts3 := []) (t_chain op_ltA op_ltA lk_lt lk_lt (d_sub (d_int) (d_int)) (dv 0) (d_int)) (l_ret (c_lst (a_cons (d_b1 (bc_abs (by rfl) (E.fr "abs" (E.c.fact 0))) lp_abs (p_name 0)) (a_cons (d_int) (a_cons (d_int) (a_nil)))))) (l_ret (c_lst (a_cons (dv 0) (a_cons (d_add (d_int) (d_mod (d_b1 (bc_int (by rfl) (E.fr "int" (E.c.fact 1))) lp_int (p_name 0)) (d_int))) (a_cons (d_b1 (bc_int (by rfl) (E.fr "int" (E.c.fact 1))) lp_int (p_of (d_ge (dv 0) (d_pow (d_int) (d_int))))) (a_nil))))))
/-! _law_rounds -/
abbrev st__law_rounds : Stmt := top 25
abbrev N__law_rounds : List Str := ["script", "most", "cells", "cell"]
theorem sc__law_rounds : FnScope N__law_rounds ["script", "most"] (defScope st__law_rounds) := ⟨rfl, rfl, rfl, by decide +kernel, rfl, by decide +kernel, by decide +kernel⟩
theorem fn__law_rounds (E : Hd P w K mg base) : FnD P w K mg base "_law_rounds" 2 2 (spR K (gx K) m__law_rounds) := by
  obtain ⟨fd, F⟩ := E.c.def_ 1
  refine ⟨_, fd, _, fn_rounds (mr := m__law_rounds) (k := 1) F sc__law_rounds fun A outer s H E2 hr => ?_, (E.gl "_law_rounds" (E.c.fact 3)), F.kp, (F.bindsN (ps := ["script", "most"]) fun _ _ _ _ _ _ us hl => match us, hl with | [_, _], _ => rfl)⟩
  have tk : Takes (cxOf (L2.CX P w) P w K mg base N__law_rounds "_law_rounds" (defScope st__law_rounds) (He.fAd K ("_law_rounds", none)) fd.code A outer s H E2) (WF E2) := takes_of rfl rfl rfl rfl
  exact pss_cons (ps_set (i := 2) sc__law_rounds.nd rfl (Or.inl rfl) (pe_slice sl_list (pv 0) po_none (po_some (pv 1)))) (l_cons (s_if (t_eq hr (dv 2) (d_ofL (c_lst (a_nil)))) (ss_one (s_set (i := 2) sc__law_rounds.nd rfl (d_ofL (c_lst (a_cons (d_int) (a_nil)))))) (ss_nil)) (l_ret (l_lc1 (i := 3) (own := [("cell", 3)]) rfl sc__law_rounds.nd (i_seq (dv 2)) (blkOk_by (N := N__law_rounds) (sc := defScope st__law_rounds) (by decide +kernel)) (by decide) (fun _ _ _ _ _ => pg_name (i := 3) sc__law_rounds.nd rfl (Or.inl rfl)) (fun _ _ _ _ _ => c_call (fn__law_dice E) ar_runL L2.takes0 (hr.mono (by decide)) (a_cons (dv 3) (a_nil))))))
/-! shared_part -/
abbrev st_shared_part : Stmt := top 12
abbrev N_shared_part : List Str := ["one", "other"]
theorem sc_shared_part : FnScope N_shared_part ["one", "other"] (defScope st_shared_part) := ⟨rfl, rfl, rfl, by decide +kernel, rfl, by decide +kernel, by decide +kernel⟩
theorem fn_shared_part (E : Hd P w K mg base) : FnD P w K mg base "shared_part" 1 2 (spF K (gx K) 2 f_shared_part) := by
  obtain ⟨fd, F⟩ := E.c.def_ 2
  refine ⟨_, fd, _, fnD_ok (m := m_shared_part) (k := 0) (N := N_shared_part) F sc_shared_part fun A outer s H E2 hr => ?_, (E.gl "shared_part" (E.c.fact 4)), F.kp, (F.bindsN (ps := ["one", "other"]) fun _ _ _ _ _ _ us hl => match us, hl with | [_, _], _ => rfl)⟩
  have tk : Takes (cxOf (L2.CX P w) P w K mg base N_shared_part "shared_part" (defScope st_shared_part) (He.fAd K ("shared_part", none)) fd.code A outer s H E2) (WF E2) := takes_of rfl rfl rfl rfl
  exact ss_cons (s_par (i := 0) (j := 1) rfl sc_shared_part.nd rfl rfl (by decide) rfl rfl (a_cons (d_b1 (bc_abs (by rfl) (E.fr "abs" (E.c.fact 0))) lp_abs (p_name 0)) (a_cons (d_b1 (bc_abs (by rfl) (E.fr "abs" (E.c.fact 0))) lp_abs (p_name 1)) (a_nil))) (by rfl)) (ss_cons (s_while 4000 (passes_of rfl) (t_ne hr (dv 1) (d_int)) (ss_one (s_par (i := 0) (j := 1) rfl sc_shared_part.nd rfl rfl (by decide) rfl rfl (a_cons (dv 1) (a_cons (d_mod (dv 0) (dv 1)) (a_nil))) (by rfl)))) (ss_one (s_ret (dv 0))))
/-! Share.__init__ -/
abbrev st_Share___init__ : Stmt := inClass (top 13) 0
abbrev N_Share___init__ : List Str := ["self", "top", "bottom", "part", "sign"]
theorem sc_Share___init__ : FnScope N_Share___init__ ["self", "top", "bottom"] (defScope st_Share___init__) := ⟨rfl, rfl, rfl, by decide +kernel, rfl, by decide +kernel, by decide +kernel⟩
theorem mkd_Share (E : Hd P w K mg base) : MkD P w K mg base (gx K) 9 "Share" 2 3 f_Share___init__ := by
  obtain ⟨fd, F⟩ := E.c.def_ 3
  refine ⟨_, fd, _, fnD_ok1 (m := m_Share___init__) (k := 1) (N := N_Share___init__) F sc_Share___init__ fun A outer s H E2 hr => ?_, He.mkr_ok (E.c.fact 5), (E.gl "Share" (E.c.fact 6)), (F.bindsN (ps := ["self", "top", "bottom"]) fun _ _ _ _ _ _ us hl => match us, hl with | [_, _, _], _ => rfl)⟩
  have tk : Takes (cxOf (L2.CX P w) P w K mg base N_Share___init__ "Share.__init__" (defScope st_Share___init__) (He.fAd K ("Share", some "__init__")) fd.code A outer s H E2) (WF E2) := takes_of rfl rfl rfl rfl
  exact ss_cons (s_if (t_eq hr (dv 2) (d_int)) (ss_one (s_raise (exd_BadNumber E) tk)) (ss_nil)) (ss_cons (s_set (i := 3) sc_Share___init__.nd rfl (d_call (fn_shared_part E) ar_run tk (hr.mono (by decide)) (a_cons (dv 1) (a_cons (dv 2) (a_nil))))) (ss_cons (s_set (i := 4) sc_Share___init__.nd rfl (d_ifExp (t_lt (dv 2) (d_int)) (d_neg (d_int)) (d_int))) (ss_cons (s_fld (i := 0) (c := 9) (j := 0) (FldOk.one (fld_top E) rfl) (show (layN.getD 9 []).length < 900 from by decide) (d_div (d_mul (dv 4) (dv 1)) (dv 3)) rfl) (ss_one (s_fld (i := 0) (c := 9) (j := 1) (FldOk.one (fld_bottom E) rfl) (show (layN.getD 9 []).length < 900 from by decide) (d_div (d_mul (dv 4) (dv 2)) (dv 3)) rfl)))))
/-! _law_roll -/
abbrev st__law_roll : Stmt := top 24
abbrev N__law_roll : List Str := ["dice", "many", "found"]
theorem sc__law_roll : FnScope N__law_roll ["dice", "many"] (defScope st__law_roll) := ⟨rfl, rfl, rfl, by decide +kernel, rfl, by decide +kernel, by decide +kernel⟩
theorem fn__law_roll (E : Hd P w K mg base) : FnD P w K mg base "_law_roll" 1 2 (sp1 K (gx K) 2 f__law_roll) := by
  obtain ⟨fd, F⟩ := E.c.def_ 4
  refine ⟨_, fd, _, fnD_ok1 (m := m__law_roll) (k := 0) (N := N__law_roll) F sc__law_roll fun A outer s H E2 hr => ?_, (E.gl "_law_roll" (E.c.fact 7)), F.kp, (F.bindsN (ps := ["dice", "many"]) fun _ _ _ _ _ _ us hl => match us, hl with | [_, _], _ => rfl)⟩
  have tk : Takes (cxOf (L2.CX P w) P w K mg base N__law_roll "_law_roll" (defScope st__law_roll) (He.fAd K ("_law_roll", none)) fd.code A outer s H E2) (WF E2) := takes_of rfl rfl rfl rfl
  exact ss_cons (s_if (t_w (w_or (t_eq hr (d_ixN (i := 0) hr rfl (d_int)) (d_int)) (w_or1 (t_w (w_and (t_eq hr (d_ixN (i := 0) hr rfl (d_int)) (d_int)) (w_and1 (t_gt (d_ixN (i := 0) hr rfl (d_int)) (d_int)))))))) (ss_cons (s_set (i := 2) sc__law_roll.nd rfl (d_mod (d_b1 (bc_int (by rfl) (E.fr "int" (E.c.fact 1))) lp_int (p_of (d_ixN (i := 0) hr rfl (d_int)))) (dv 1))) (ss_cons (s_stIx (i := 0) rfl (d_int) (d_div (d_ixN (i := 0) hr rfl (d_int)) (dv 1))) (ss_one (s_ret (dv 2))))) (ss_nil)) (ss_cons (s_stIx (i := 0) rfl (d_int) (d_int)) (ss_cons (s_stIx (i := 0) rfl (d_int) (d_mod (d_b1 (bc_int (by rfl) (E.fr "int" (E.c.fact 1))) lp_int (p_of (d_add (d_add (d_mul (d_ixN (i := 0) hr rfl (d_int)) (d_int)) (d_mul (d_ixN (i := 0) hr rfl (d_int)) (d_int))) (d_int)))) (d_int))) (ss_cons (s_stIx (i := 0) rfl (d_int) (d_add (d_ixN (i := 0) hr rfl (d_int)) (d_int))) (ss_one (s_ret (d_mod (d_b1 (bc_int (by rfl) (E.fr "int" (E.c.fact 1))) lp_int (p_of (d_add (d_div (d_ixN (i := 0) hr rfl (d_int)) (d_int)) (d_ixN (i := 0) hr rfl (d_int))))) (dv 1)))))))
/-! Scale.__init__ -/
abbrev st_Scale___init__ : Stmt := inClass (top 15) 0
abbrev N_Scale___init__ : List Str := ["self", "factor", "start"]
theorem sc_Scale___init__ : FnScope N_Scale___init__ ["self", "factor", "start"] (defScope st_Scale___init__) := ⟨rfl, rfl, rfl, by decide +kernel, rfl, by decide +kernel, by decide +kernel⟩
theorem mkd_Scale (E : Hd P w K mg base) : MkD P w K mg base (gx K) 10 "Scale" 1 3 f_Scale___init__ := by
  obtain ⟨fd, F⟩ := E.c.def_ 5
  refine ⟨_, fd, _, fnD_ok1 (m := m_Scale___init__) (k := 0) (N := N_Scale___init__) F sc_Scale___init__ fun A outer s H E2 hr => ?_, He.mkr_ok (E.c.fact 8), (E.gl "Scale" (E.c.fact 9)), (F.bindsN (ps := ["self", "factor", "start"]) fun _ _ _ _ _ _ us hl => match us, hl with | [_, _, _], _ => rfl)⟩
  have tk : Takes (cxOf (L2.CX P w) P w K mg base N_Scale___init__ "Scale.__init__" (defScope st_Scale___init__) (He.fAd K ("Scale", some "__init__")) fd.code A outer s H E2) (WF E2) := takes_of rfl rfl rfl rfl
  exact ss_cons (s_if (t_eq hr (d_fld (fld_top E) (dv 1)) (d_int)) (ss_one (s_raise (exd_BadRule E) tk)) (ss_nil)) (ss_cons (s_fld (i := 0) (c := 10) (j := 0) (FldOk.one (fld_factor E) rfl) (show (layN.getD 10 []).length < 900 from by decide) (dv 1) rfl) (ss_one (s_fld (i := 0) (c := 10) (j := 1) (FldOk.one (fld_start E) rfl) (show (layN.getD 10 []).length < 900 from by decide) (dv 2) rfl)))
/-! _law_share -/
abbrev st__law_share : Stmt := top 33
abbrev N__law_share : List Str := ["dice", "low", "high", "bottom"]
theorem sc__law_share : FnScope N__law_share ["dice", "low", "high", "bottom"] (defScope st__law_share) := ⟨rfl, rfl, rfl, by decide +kernel, rfl, by decide +kernel, by decide +kernel⟩
theorem fn__law_share (E : Hd P w K mg base) : FnD P w K mg base "_law_share" 4 4 (sp1 K (gx K) 4 f__law_share) := by
  obtain ⟨fd, F⟩ := E.c.def_ 6
  refine ⟨_, fd, _, fnD_ok1 (m := m__law_share) (k := 3) (N := N__law_share) F sc__law_share fun A outer s H E2 hr => ?_, (E.gl "_law_share" (E.c.fact 10)), F.kp, (F.bindsN (ps := ["dice", "low", "high", "bottom"]) fun _ _ _ _ _ _ us hl => match us, hl with | [_, _, _, _], _ => rfl)⟩
  have tk : Takes (cxOf (L2.CX P w) P w K mg base N__law_share "_law_share" (defScope st__law_share) (He.fAd K ("_law_share", none)) fd.code A outer s H E2) (WF E2) := takes_of rfl rfl rfl rfl
  exact ss_one (s_ret (d_make 9 (mkd_Share E) ar_run1 tk (hr.mono (by decide)) (a_cons (d_add (dv 1) (d_call1 (i := 0) (fn__law_roll E) ar_run1 tk (hr.mono (by decide)) rfl (a_cons (d_add (d_sub (dv 2) (dv 1)) (d_int)) (a_nil)))) (a_cons (d_add (d_int) (d_call1 (i := 0) (fn__law_roll E) ar_run1 tk (hr.mono (by decide)) rfl (a_cons (dv 3) (a_nil)))) (a_nil)))))
/-! _law_scale -/
abbrev st__law_scale : Stmt := top 34
abbrev N__law_scale : List Str := ["dice", "factor"]
theorem sc__law_scale : FnScope N__law_scale ["dice"] (defScope st__law_scale) := ⟨rfl, rfl, rfl, by decide +kernel, rfl, by decide +kernel, by decide +kernel⟩
theorem fn__law_scale (E : Hd P w K mg base) : FnD P w K mg base "_law_scale" 5 1 (sp1 K (gx K) 1 f__law_scale) := by
  obtain ⟨fd, F⟩ := E.c.def_ 7
  refine ⟨_, fd, _, fnD_ok1 (m := m__law_scale) (k := 4) (N := N__law_scale) F sc__law_scale fun A outer s H E2 hr => ?_, (E.gl "_law_scale" (E.c.fact 11)), F.kp, (F.bindsN (ps := ["dice"]) fun _ _ _ _ _ _ us hl => match us, hl with | [_], _ => rfl)⟩
  have tk : Takes (cxOf (L2.CX P w) P w K mg base N__law_scale "_law_scale" (defScope st__law_scale) (He.fAd K ("_law_scale", none)) fd.code A outer s H E2) (WF E2) := takes_of rfl rfl rfl rfl
  exact ss_cons (s_set (i := 1) sc__law_scale.nd rfl (d_make 9 (mkd_Share E) ar_run1 tk (hr.mono (by decide)) (a_cons (d_mul (d_ixA hr (d_ofL (c_lst (a_cons (d_int) (a_cons (d_int) (a_cons (d_int) (a_cons (d_int) (a_cons (d_int) (a_nil)))))))) (d_call1 (i := 0) (fn__law_roll E) ar_run1 tk (hr.mono (by decide)) rfl (a_cons (d_int) (a_nil)))) (d_ixA hr (d_ofL (c_lst (a_cons (d_int) (a_cons (d_sub (d_int) (d_int)) (a_nil))))) (d_call1 (i := 0) (fn__law_roll E) ar_run1 tk (hr.mono (by decide)) rfl (a_cons (d_int) (a_nil))))) (a_cons (d_add (d_int) (d_call1 (i := 0) (fn__law_roll E) ar_run1 tk (hr.mono (by decide)) rfl (a_cons (d_int) (a_nil)))) (a_nil))))) (ss_one (s_ret (d_make 10 (mkd_Scale E) ar_run1 tk (hr.mono (by decide)) (a_cons (dv 1) (a_cons (d_call1 (i := 0) (fn__law_share E) ar_run1 tk (hr.mono (by decide)) rfl (a_cons (d_sub (d_int) (d_int)) (a_cons (d_int) (a_cons (d_int) (a_nil))))) (a_nil))))))
/-! _law_low -/
abbrev st__law_low : Stmt := top 27
abbrev N__law_low : List Str := ["top", "bottom", "a", "b", "turn"]
theorem sc__law_low : FnScope N__law_low ["top", "bottom"] (defScope st__law_low) := ⟨rfl, rfl, rfl, by decide +kernel, rfl, by decide +kernel, by decide +kernel⟩
theorem fn__law_low (E : Hd P w K mg base) : FnD P w K mg base "_law_low" 1 2 (spF K (gx K) 2 f__law_low) := by
  obtain ⟨fd, F⟩ := E.c.def_ 8
  refine ⟨_, fd, _, fnD_ok (m := m__law_low) (k := 0) (N := N__law_low) F sc__law_low fun A outer s H E2 hr => ?_, (E.gl "_law_low" (E.c.fact 13)), F.kp, (F.bindsN (ps := ["top", "bottom"]) fun _ _ _ _ _ _ us hl => match us, hl with | [_, _], _ => rfl)⟩
  have tk : Takes (cxOf (L2.CX P w) P w K mg base N__law_low "_law_low" (defScope st__law_low) (He.fAd K ("_law_low", none)) fd.code A outer s H E2) (WF E2) := takes_of rfl rfl rfl rfl
  exact ss_cons (s_par (i := 2) (j := 3) rfl sc__law_low.nd rfl rfl (by decide) rfl rfl (a_cons (d_b1 (bc_abs (by rfl) (E.fr "abs" (E.c.fact 0))) lp_abs (p_name 0)) (a_cons (d_b1 (bc_abs (by rfl) (E.fr "abs" (E.c.fact 0))) lp_abs (p_name 1)) (a_nil))) (by rfl)) (ss_cons (s_for (passes_of rfl) rfl (i_rng1 (by rfl) (E.fr "range" (E.c.fact 12)) (a_cons (d_int) (a_nil))) (g_name (i := 4) sc__law_low.nd rfl) (calm_set) (ss_cons (s_if (t_eq hr (dv 3) (d_int)) (ss_one (s_break)) (ss_nil)) (ss_one (s_par (i := 2) (j := 3) rfl sc__law_low.nd rfl rfl (by decide) rfl rfl (a_cons (dv 3) (a_cons (d_mod (dv 2) (dv 3)) (a_nil))) (by rfl))))) (ss_one (s_ret (d_ifExp (t_gt (dv 1) (d_int)) (d_tup (a_cons (d_div (dv 0) (dv 2)) (a_cons (d_div (dv 1) (dv 2)) (a_nil)))) (d_tup (a_cons (d_sub (d_int) (d_div (dv 0) (dv 2))) (a_cons (d_sub (d_int) (d_div (dv 1) (dv 2))) (a_nil))))))))
/-! _law_plus -/
abbrev st__law_plus : Stmt := top 28
abbrev N__law_plus : List Str := ["one", "other"]
theorem sc__law_plus : FnScope N__law_plus ["one", "other"] (defScope st__law_plus) := ⟨rfl, rfl, rfl, by decide +kernel, rfl, by decide +kernel, by decide +kernel⟩
theorem fn__law_plus (E : Hd P w K mg base) : FnD P w K mg base "_law_plus" 2 2 (spF K (gx K) 2 f__law_plus) := by
  obtain ⟨fd, F⟩ := E.c.def_ 9
  refine ⟨_, fd, _, fnD_ok (m := m__law_plus) (k := 1) (N := N__law_plus) F sc__law_plus fun A outer s H E2 hr => ?_, (E.gl "_law_plus" (E.c.fact 14)), F.kp, (F.bindsN (ps := ["one", "other"]) fun _ _ _ _ _ _ us hl => match us, hl with | [_, _], _ => rfl)⟩
  have tk : Takes (cxOf (L2.CX P w) P w K mg base N__law_plus "_law_plus" (defScope st__law_plus) (He.fAd K ("_law_plus", none)) fd.code A outer s H E2) (WF E2) := takes_of rfl rfl rfl rfl
  exact ss_one (s_ret (d_call (fn__law_low E) ar_run tk (hr.mono (by decide)) (a_cons (d_add (d_mul (d_ixN (i := 0) hr rfl (d_int)) (d_ixN (i := 1) hr rfl (d_int))) (d_mul (d_ixN (i := 1) hr rfl (d_int)) (d_ixN (i := 0) hr rfl (d_int)))) (a_cons (d_mul (d_ixN (i := 0) hr rfl (d_int)) (d_ixN (i := 1) hr rfl (d_int))) (a_nil)))))
/-! _law_times -/
abbrev st__law_times : Stmt := top 30
abbrev N__law_times : List Str := ["one", "other"]
theorem sc__law_times : FnScope N__law_times ["one", "other"] (defScope st__law_times) := ⟨rfl, rfl, rfl, by decide +kernel, rfl, by decide +kernel, by decide +kernel⟩
theorem fn__law_times (E : Hd P w K mg base) : FnD P w K mg base "_law_times" 2 2 (spF K (gx K) 2 f__law_times) := by
  obtain ⟨fd, F⟩ := E.c.def_ 10
  refine ⟨_, fd, _, fnD_ok (m := m__law_times) (k := 1) (N := N__law_times) F sc__law_times fun A outer s H E2 hr => ?_, (E.gl "_law_times" (E.c.fact 15)), F.kp, (F.bindsN (ps := ["one", "other"]) fun _ _ _ _ _ _ us hl => match us, hl with | [_, _], _ => rfl)⟩
  have tk : Takes (cxOf (L2.CX P w) P w K mg base N__law_times "_law_times" (defScope st__law_times) (He.fAd K ("_law_times", none)) fd.code A outer s H E2) (WF E2) := takes_of rfl rfl rfl rfl
  exact ss_one (s_ret (d_call (fn__law_low E) ar_run tk (hr.mono (by decide)) (a_cons (d_mul (d_ixN (i := 0) hr rfl (d_int)) (d_ixN (i := 1) hr rfl (d_int))) (a_cons (d_mul (d_ixN (i := 0) hr rfl (d_int)) (d_ixN (i := 1) hr rfl (d_int))) (a_nil)))))
/-! Share.key -/
abbrev st_Share_key : Stmt := inClass (top 13) 14
abbrev N_Share_key : List Str := ["self"]
theorem sc_Share_key : FnScope N_Share_key ["self"] (defScope st_Share_key) := ⟨rfl, rfl, rfl, by decide +kernel, rfl, by decide +kernel, by decide +kernel⟩
theorem mth_Share_key (E : Hd P w K mg base) : MeD P w K mg base (gx K) 9 "key" 1 1 (spF K (gx K) 1 f_Share_key) := by
  obtain ⟨fd, F⟩ := E.c.def_ 11
  refine ⟨_, fd, _, fnD_ok (m := m_Share_key) (k := 0) (N := N_Share_key) F sc_Share_key fun A outer s H E2 hr => ?_, He.cls_ok (E.c.fact 16), He.meth_ok (E.c.fact 17), (F.bindsN (ps := ["self"]) fun _ _ _ _ _ _ us hl => match us, hl with | [_], _ => rfl), (show ("key" : Str) ∉ layN.getD 9 [] from by decide)⟩
  have tk : Takes (cxOf (L2.CX P w) P w K mg base N_Share_key "Share.key" (defScope st_Share_key) (He.fAd K ("Share", some "key")) fd.code A outer s H E2) (WF E2) := takes_of rfl rfl rfl rfl
  exact ss_one (s_ret (d_tup (a_cons (d_fld (fld_top E) (dv 0)) (a_cons (d_fld (fld_bottom E) (dv 0)) (a_nil)))))
/-! Scale.key -/
abbrev st_Scale_key : Stmt := inClass (top 15) 6
abbrev N_Scale_key : List Str := ["self"]
theorem sc_Scale_key : FnScope N_Scale_key ["self"] (defScope st_Scale_key) := ⟨rfl, rfl, rfl, by decide +kernel, rfl, by decide +kernel, by decide +kernel⟩
theorem me_key_0_Scale (E : Hd P w K mg base) : MeAll P w K mg base (gx K) "key" 1 ma_key_0_Scale := .cons (mth_Share_key E) ar_run (by decide) (.nil)
theorem mth_Scale_key (E : Hd P w K mg base) : MeD P w K mg base (gx K) 10 "key" 2 1 (spF K (gx K) 1 f_Scale_key) := by
  obtain ⟨fd, F⟩ := E.c.def_ 12
  refine ⟨_, fd, _, fnD_ok (m := m_Scale_key) (k := 1) (N := N_Scale_key) F sc_Scale_key fun A outer s H E2 hr => ?_, He.cls_ok (E.c.fact 18), He.meth_ok (E.c.fact 19), (F.bindsN (ps := ["self"]) fun _ _ _ _ _ _ us hl => match us, hl with | [_], _ => rfl), (show ("key" : Str) ∉ layN.getD 10 [] from by decide)⟩
  have tk : Takes (cxOf (L2.CX P w) P w K mg base N_Scale_key "Scale.key" (defScope st_Scale_key) (He.fAd K ("Scale", some "key")) fd.code A outer s H E2) (WF E2) := takes_of rfl rfl rfl rfl
  exact ss_one (s_ret (d_tup (a_cons (d_methA0 (me_key_0_Scale E) tk (hr.mono (by decide)) (d_fld (fld_factor E) (dv 0))) (a_cons (d_methA0 (me_key_0_Scale E) tk (hr.mono (by decide)) (d_fld (fld_start E) (dv 0))) (a_nil)))))
/-! Share.plus -/
abbrev st_Share_plus : Stmt := inClass (top 13) 1
abbrev N_Share_plus : List Str := ["self", "other"]
theorem sc_Share_plus : FnScope N_Share_plus ["self", "other"] (defScope st_Share_plus) := ⟨rfl, rfl, rfl, by decide +kernel, rfl, by decide +kernel, by decide +kernel⟩
theorem mth_Share_plus (E : Hd P w K mg base) : MeD P w K mg base (gx K) 9 "plus" 4 2 (spF K (gx K) 2 f_Share_plus) := by
  obtain ⟨fd, F⟩ := E.c.def_ 13
  refine ⟨_, fd, _, fnD_ok (m := m_Share_plus) (k := 3) (N := N_Share_plus) F sc_Share_plus fun A outer s H E2 hr => ?_, He.cls_ok (E.c.fact 16), He.meth_ok (E.c.fact 20), (F.bindsN (ps := ["self", "other"]) fun _ _ _ _ _ _ us hl => match us, hl with | [_, _], _ => rfl), (show ("plus" : Str) ∉ layN.getD 9 [] from by decide)⟩
  have tk : Takes (cxOf (L2.CX P w) P w K mg base N_Share_plus "Share.plus" (defScope st_Share_plus) (He.fAd K ("Share", some "plus")) fd.code A outer s H E2) (WF E2) := takes_of rfl rfl rfl rfl
  exact ss_one (s_ret (d_make 9 (mkd_Share E) ar_run1 tk (hr.mono (by decide)) (a_cons (d_add (d_mul (d_fld (fld_top E) (dv 0)) (d_fld (fld_bottom E) (dv 1))) (d_mul (d_fld (fld_top E) (dv 1)) (d_fld (fld_bottom E) (dv 0)))) (a_cons (d_mul (d_fld (fld_bottom E) (dv 0)) (d_fld (fld_bottom E) (dv 1))) (a_nil)))))
/-! Share.times -/
abbrev st_Share_times : Stmt := inClass (top 13) 3
abbrev N_Share_times : List Str := ["self", "other"]
theorem sc_Share_times : FnScope N_Share_times ["self", "other"] (defScope st_Share_times) := ⟨rfl, rfl, rfl, by decide +kernel, rfl, by decide +kernel, by decide +kernel⟩
theorem mth_Share_times (E : Hd P w K mg base) : MeD P w K mg base (gx K) 9 "times" 4 2 (spF K (gx K) 2 f_Share_times) := by
  obtain ⟨fd, F⟩ := E.c.def_ 14
  refine ⟨_, fd, _, fnD_ok (m := m_Share_times) (k := 3) (N := N_Share_times) F sc_Share_times fun A outer s H E2 hr => ?_, He.cls_ok (E.c.fact 16), He.meth_ok (E.c.fact 21), (F.bindsN (ps := ["self", "other"]) fun _ _ _ _ _ _ us hl => match us, hl with | [_, _], _ => rfl), (show ("times" : Str) ∉ layN.getD 9 [] from by decide)⟩
  have tk : Takes (cxOf (L2.CX P w) P w K mg base N_Share_times "Share.times" (defScope st_Share_times) (He.fAd K ("Share", some "times")) fd.code A outer s H E2) (WF E2) := takes_of rfl rfl rfl rfl
  exact ss_one (s_ret (d_make 9 (mkd_Share E) ar_run1 tk (hr.mono (by decide)) (a_cons (d_mul (d_fld (fld_top E) (dv 0)) (d_fld (fld_top E) (dv 1))) (a_cons (d_mul (d_fld (fld_bottom E) (dv 0)) (d_fld (fld_bottom E) (dv 1))) (a_nil)))))
/-! Scale.plain -/
abbrev st_Scale_plain : Stmt := inClass (top 15) 1
abbrev N_Scale_plain : List Str := ["self", "mark"]
theorem sc_Scale_plain : FnScope N_Scale_plain ["self", "mark"] (defScope st_Scale_plain) := ⟨rfl, rfl, rfl, by decide +kernel, rfl, by decide +kernel, by decide +kernel⟩
theorem me_times_1 (E : Hd P w K mg base) : MeAll P w K mg base (gx K) "times" 4 ma_times_1 := .cons (mth_Share_times E) ar_run (by decide) (.nil)
theorem me_plus_1 (E : Hd P w K mg base) : MeAll P w K mg base (gx K) "plus" 4 ma_plus_1 := .cons (mth_Share_plus E) ar_run (by decide) (.nil)
theorem mth_Scale_plain (E : Hd P w K mg base) : MeD P w K mg base (gx K) 10 "plain" 5 2 (spF K (gx K) 2 f_Scale_plain) := by
  obtain ⟨fd, F⟩ := E.c.def_ 15
  refine ⟨_, fd, _, fnD_ok (m := m_Scale_plain) (k := 4) (N := N_Scale_plain) F sc_Scale_plain fun A outer s H E2 hr => ?_, He.cls_ok (E.c.fact 18), He.meth_ok (E.c.fact 22), (F.bindsN (ps := ["self", "mark"]) fun _ _ _ _ _ _ us hl => match us, hl with | [_, _], _ => rfl), (show ("plain" : Str) ∉ layN.getD 10 [] from by decide)⟩
  have tk : Takes (cxOf (L2.CX P w) P w K mg base N_Scale_plain "Scale.plain" (defScope st_Scale_plain) (He.fAd K ("Scale", some "plain")) fd.code A outer s H E2) (WF E2) := takes_of rfl rfl rfl rfl
  exact ss_one (s_ret (d_methA (me_plus_1 E) tk (hr.mono (by decide)) (d_methA (me_times_1 E) tk (hr.mono (by decide)) (dv 1) (a_cons (d_fld (fld_factor E) (dv 0)) (a_nil))) (a_cons (d_fld (fld_start E) (dv 0)) (a_nil))))
/-! Share.over -/
abbrev st_Share_over : Stmt := inClass (top 13) 4
abbrev N_Share_over : List Str := ["self", "other"]
theorem sc_Share_over : FnScope N_Share_over ["self", "other"] (defScope st_Share_over) := ⟨rfl, rfl, rfl, by decide +kernel, rfl, by decide +kernel, by decide +kernel⟩
theorem mth_Share_over (E : Hd P w K mg base) : MeD P w K mg base (gx K) 9 "over" 4 2 (spF K (gx K) 2 f_Share_over) := by
  obtain ⟨fd, F⟩ := E.c.def_ 16
  refine ⟨_, fd, _, fnD_ok (m := m_Share_over) (k := 3) (N := N_Share_over) F sc_Share_over fun A outer s H E2 hr => ?_, He.cls_ok (E.c.fact 16), He.meth_ok (E.c.fact 23), (F.bindsN (ps := ["self", "other"]) fun _ _ _ _ _ _ us hl => match us, hl with | [_, _], _ => rfl), (show ("over" : Str) ∉ layN.getD 9 [] from by decide)⟩
  have tk : Takes (cxOf (L2.CX P w) P w K mg base N_Share_over "Share.over" (defScope st_Share_over) (He.fAd K ("Share", some "over")) fd.code A outer s H E2) (WF E2) := takes_of rfl rfl rfl rfl
  exact ss_one (s_ret (d_make 9 (mkd_Share E) ar_run1 tk (hr.mono (by decide)) (a_cons (d_mul (d_fld (fld_top E) (dv 0)) (d_fld (fld_bottom E) (dv 1))) (a_cons (d_mul (d_fld (fld_bottom E) (dv 0)) (d_fld (fld_top E) (dv 1))) (a_nil)))))
/-! Share.less -/
abbrev st_Share_less : Stmt := inClass (top 13) 2
abbrev N_Share_less : List Str := ["self", "other"]
theorem sc_Share_less : FnScope N_Share_less ["self", "other"] (defScope st_Share_less) := ⟨rfl, rfl, rfl, by decide +kernel, rfl, by decide +kernel, by decide +kernel⟩
theorem mth_Share_less (E : Hd P w K mg base) : MeD P w K mg base (gx K) 9 "less" 4 2 (spF K (gx K) 2 f_Share_less) := by
  obtain ⟨fd, F⟩ := E.c.def_ 17
  refine ⟨_, fd, _, fnD_ok (m := m_Share_less) (k := 3) (N := N_Share_less) F sc_Share_less fun A outer s H E2 hr => ?_, He.cls_ok (E.c.fact 16), He.meth_ok (E.c.fact 24), (F.bindsN (ps := ["self", "other"]) fun _ _ _ _ _ _ us hl => match us, hl with | [_, _], _ => rfl), (show ("less" : Str) ∉ layN.getD 9 [] from by decide)⟩
  have tk : Takes (cxOf (L2.CX P w) P w K mg base N_Share_less "Share.less" (defScope st_Share_less) (He.fAd K ("Share", some "less")) fd.code A outer s H E2) (WF E2) := takes_of rfl rfl rfl rfl
  exact ss_one (s_ret (d_make 9 (mkd_Share E) ar_run1 tk (hr.mono (by decide)) (a_cons (d_sub (d_mul (d_fld (fld_top E) (dv 0)) (d_fld (fld_bottom E) (dv 1))) (d_mul (d_fld (fld_top E) (dv 1)) (d_fld (fld_bottom E) (dv 0)))) (a_cons (d_mul (d_fld (fld_bottom E) (dv 0)) (d_fld (fld_bottom E) (dv 1))) (a_nil)))))
/-! Scale.mark -/
abbrev st_Scale_mark : Stmt := inClass (top 15) 2
abbrev N_Scale_mark : List Str := ["self", "plain_mark"]
theorem sc_Scale_mark : FnScope N_Scale_mark ["self", "plain_mark"] (defScope st_Scale_mark) := ⟨rfl, rfl, rfl, by decide +kernel, rfl, by decide +kernel, by decide +kernel⟩
theorem me_less_1 (E : Hd P w K mg base) : MeAll P w K mg base (gx K) "less" 4 ma_less_1 := .cons (mth_Share_less E) ar_run (by decide) (.nil)
theorem me_over_1 (E : Hd P w K mg base) : MeAll P w K mg base (gx K) "over" 4 ma_over_1 := .cons (mth_Share_over E) ar_run (by decide) (.nil)
theorem mth_Scale_mark (E : Hd P w K mg base) : MeD P w K mg base (gx K) 10 "mark" 5 2 (spF K (gx K) 2 f_Scale_mark) := by
  obtain ⟨fd, F⟩ := E.c.def_ 18
  refine ⟨_, fd, _, fnD_ok (m := m_Scale_mark) (k := 4) (N := N_Scale_mark) F sc_Scale_mark fun A outer s H E2 hr => ?_, He.cls_ok (E.c.fact 18), He.meth_ok (E.c.fact 25), (F.bindsN (ps := ["self", "plain_mark"]) fun _ _ _ _ _ _ us hl => match us, hl with | [_, _], _ => rfl), (show ("mark" : Str) ∉ layN.getD 10 [] from by decide)⟩
  have tk : Takes (cxOf (L2.CX P w) P w K mg base N_Scale_mark "Scale.mark" (defScope st_Scale_mark) (He.fAd K ("Scale", some "mark")) fd.code A outer s H E2) (WF E2) := takes_of rfl rfl rfl rfl
  exact ss_one (s_ret (d_methA (me_over_1 E) tk (hr.mono (by decide)) (d_methA (me_less_1 E) tk (hr.mono (by decide)) (dv 1) (a_cons (d_fld (fld_start E) (dv 0)) (a_nil))) (a_cons (d_fld (fld_factor E) (dv 0)) (a_nil))))
/-! Scale.step -/
abbrev st_Scale_step : Stmt := inClass (top 15) 3
abbrev N_Scale_step : List Str := ["self", "steps"]
theorem sc_Scale_step : FnScope N_Scale_step ["self", "steps"] (defScope st_Scale_step) := ⟨rfl, rfl, rfl, by decide +kernel, rfl, by decide +kernel, by decide +kernel⟩
theorem mth_Scale_step (E : Hd P w K mg base) : MeD P w K mg base (gx K) 10 "step" 5 2 (spF K (gx K) 2 f_Scale_step) := by
  obtain ⟨fd, F⟩ := E.c.def_ 19
  refine ⟨_, fd, _, fnD_ok (m := m_Scale_step) (k := 4) (N := N_Scale_step) F sc_Scale_step fun A outer s H E2 hr => ?_, He.cls_ok (E.c.fact 18), He.meth_ok (E.c.fact 26), (F.bindsN (ps := ["self", "steps"]) fun _ _ _ _ _ _ us hl => match us, hl with | [_, _], _ => rfl), (show ("step" : Str) ∉ layN.getD 10 [] from by decide)⟩
  have tk : Takes (cxOf (L2.CX P w) P w K mg base N_Scale_step "Scale.step" (defScope st_Scale_step) (He.fAd K ("Scale", some "step")) fd.code A outer s H E2) (WF E2) := takes_of rfl rfl rfl rfl
  exact ss_one (s_ret (d_methA (me_times_1 E) tk (hr.mono (by decide)) (dv 1) (a_cons (d_fld (fld_factor E) (dv 0)) (a_nil))))
/-! Scale.told_by -/
abbrev st_Scale_told_by : Stmt := inClass (top 15) 4
abbrev N_Scale_told_by : List Str := ["self", "other"]
theorem sc_Scale_told_by : FnScope N_Scale_told_by ["self", "other"] (defScope st_Scale_told_by) := ⟨rfl, rfl, rfl, by decide +kernel, rfl, by decide +kernel, by decide +kernel⟩
theorem mth_Scale_told_by (E : Hd P w K mg base) : MeD P w K mg base (gx K) 10 "told_by" 5 2 (spF K (gx K) 2 f_Scale_told_by) := by
  obtain ⟨fd, F⟩ := E.c.def_ 20
  refine ⟨_, fd, _, fnD_ok (m := m_Scale_told_by) (k := 4) (N := N_Scale_told_by) F sc_Scale_told_by fun A outer s H E2 hr => ?_, He.cls_ok (E.c.fact 18), He.meth_ok (E.c.fact 27), (F.bindsN (ps := ["self", "other"]) fun _ _ _ _ _ _ us hl => match us, hl with | [_, _], _ => rfl), (show ("told_by" : Str) ∉ layN.getD 10 [] from by decide)⟩
  have tk : Takes (cxOf (L2.CX P w) P w K mg base N_Scale_told_by "Scale.told_by" (defScope st_Scale_told_by) (He.fAd K ("Scale", some "told_by")) fd.code A outer s H E2) (WF E2) := takes_of rfl rfl rfl rfl
  exact ss_one (s_ret (d_make 10 (mkd_Scale E) ar_run1 tk (hr.mono (by decide)) (a_cons (d_methA (me_times_1 E) tk (hr.mono (by decide)) (d_fld (fld_factor E) (dv 0)) (a_cons (d_fld (fld_factor E) (dv 1)) (a_nil))) (a_cons (d_methA (me_plus_1 E) tk (hr.mono (by decide)) (d_methA (me_times_1 E) tk (hr.mono (by decide)) (d_fld (fld_start E) (dv 0)) (a_cons (d_fld (fld_factor E) (dv 1)) (a_nil))) (a_cons (d_fld (fld_start E) (dv 1)) (a_nil))) (a_nil)))))
/-! Scale.turned -/
abbrev st_Scale_turned : Stmt := inClass (top 15) 5
abbrev N_Scale_turned : List Str := ["self"]
theorem sc_Scale_turned : FnScope N_Scale_turned ["self"] (defScope st_Scale_turned) := ⟨rfl, rfl, rfl, by decide +kernel, rfl, by decide +kernel, by decide +kernel⟩
theorem mth_Scale_turned (E : Hd P w K mg base) : MeD P w K mg base (gx K) 10 "turned" 5 1 (spF K (gx K) 1 f_Scale_turned) := by
  obtain ⟨fd, F⟩ := E.c.def_ 21
  refine ⟨_, fd, _, fnD_ok (m := m_Scale_turned) (k := 4) (N := N_Scale_turned) F sc_Scale_turned fun A outer s H E2 hr => ?_, He.cls_ok (E.c.fact 18), He.meth_ok (E.c.fact 28), (F.bindsN (ps := ["self"]) fun _ _ _ _ _ _ us hl => match us, hl with | [_], _ => rfl), (show ("turned" : Str) ∉ layN.getD 10 [] from by decide)⟩
  have tk : Takes (cxOf (L2.CX P w) P w K mg base N_Scale_turned "Scale.turned" (defScope st_Scale_turned) (He.fAd K ("Scale", some "turned")) fd.code A outer s H E2) (WF E2) := takes_of rfl rfl rfl rfl
  exact ss_one (s_ret (d_make 10 (mkd_Scale E) ar_run1 tk (hr.mono (by decide)) (a_cons (d_methA (me_over_1 E) tk (hr.mono (by decide)) (d_make 9 (mkd_Share E) ar_run1 tk (hr.mono (by decide)) (a_cons (d_int) (a_cons (d_int) (a_nil)))) (a_cons (d_fld (fld_factor E) (dv 0)) (a_nil))) (a_cons (d_methA (me_over_1 E) tk (hr.mono (by decide)) (d_methA (me_less_1 E) tk (hr.mono (by decide)) (d_make 9 (mkd_Share E) ar_run1 tk (hr.mono (by decide)) (a_cons (d_int) (a_cons (d_int) (a_nil)))) (a_cons (d_fld (fld_start E) (dv 0)) (a_nil))) (a_cons (d_fld (fld_factor E) (dv 0)) (a_nil))) (a_nil)))))
/-! between -/
abbrev st_between : Stmt := top 16
abbrev N_between : List Str := ["one", "other"]
theorem sc_between : FnScope N_between ["one", "other"] (defScope st_between) := ⟨rfl, rfl, rfl, by decide +kernel, rfl, by decide +kernel, by decide +kernel⟩
theorem me_told_by_1 (E : Hd P w K mg base) : MeAll P w K mg base (gx K) "told_by" 5 ma_told_by_1 := .cons (mth_Scale_told_by E) ar_run (by decide) (.nil)
theorem me_turned_0 (E : Hd P w K mg base) : MeAll P w K mg base (gx K) "turned" 5 ma_turned_0 := .cons (mth_Scale_turned E) ar_run (by decide) (.nil)
theorem fn_between (E : Hd P w K mg base) : FnD P w K mg base "between" 6 2 (spF K (gx K) 2 f_between) := by
  obtain ⟨fd, F⟩ := E.c.def_ 22
  refine ⟨_, fd, _, fnD_ok (m := m_between) (k := 5) (N := N_between) F sc_between fun A outer s H E2 hr => ?_, (E.gl "between" (E.c.fact 29)), F.kp, (F.bindsN (ps := ["one", "other"]) fun _ _ _ _ _ _ us hl => match us, hl with | [_, _], _ => rfl)⟩
  have tk : Takes (cxOf (L2.CX P w) P w K mg base N_between "between" (defScope st_between) (He.fAd K ("between", none)) fd.code A outer s H E2) (WF E2) := takes_of rfl rfl rfl rfl
  exact ss_one (s_ret (d_methA (me_told_by_1 E) tk (hr.mono (by decide)) (dv 0) (a_cons (d_methA0 (me_turned_0 E) tk (hr.mono (by decide)) (dv 1)) (a_nil))))
/-! _law_over -/
abbrev st__law_over : Stmt := top 31
abbrev N__law_over : List Str := ["one", "other"]
theorem sc__law_over : FnScope N__law_over ["one", "other"] (defScope st__law_over) := ⟨rfl, rfl, rfl, by decide +kernel, rfl, by decide +kernel, by decide +kernel⟩
theorem fn__law_over (E : Hd P w K mg base) : FnD P w K mg base "_law_over" 2 2 (spF K (gx K) 2 f__law_over) := by
  obtain ⟨fd, F⟩ := E.c.def_ 23
  refine ⟨_, fd, _, fnD_ok (m := m__law_over) (k := 1) (N := N__law_over) F sc__law_over fun A outer s H E2 hr => ?_, (E.gl "_law_over" (E.c.fact 30)), F.kp, (F.bindsN (ps := ["one", "other"]) fun _ _ _ _ _ _ us hl => match us, hl with | [_, _], _ => rfl)⟩
  have tk : Takes (cxOf (L2.CX P w) P w K mg base N__law_over "_law_over" (defScope st__law_over) (He.fAd K ("_law_over", none)) fd.code A outer s H E2) (WF E2) := takes_of rfl rfl rfl rfl
  exact ss_one (s_ret (d_call (fn__law_low E) ar_run tk (hr.mono (by decide)) (a_cons (d_mul (d_ixN (i := 0) hr rfl (d_int)) (d_ixN (i := 1) hr rfl (d_int))) (a_cons (d_mul (d_ixN (i := 0) hr rfl (d_int)) (d_ixN (i := 1) hr rfl (d_int))) (a_nil)))))
/-! _law_less -/
abbrev st__law_less : Stmt := top 29
abbrev N__law_less : List Str := ["one", "other"]
theorem sc__law_less : FnScope N__law_less ["one", "other"] (defScope st__law_less) := ⟨rfl, rfl, rfl, by decide +kernel, rfl, by decide +kernel, by decide +kernel⟩
theorem fn__law_less (E : Hd P w K mg base) : FnD P w K mg base "_law_less" 2 2 (spF K (gx K) 2 f__law_less) := by
  obtain ⟨fd, F⟩ := E.c.def_ 24
  refine ⟨_, fd, _, fnD_ok (m := m__law_less) (k := 1) (N := N__law_less) F sc__law_less fun A outer s H E2 hr => ?_, (E.gl "_law_less" (E.c.fact 31)), F.kp, (F.bindsN (ps := ["one", "other"]) fun _ _ _ _ _ _ us hl => match us, hl with | [_, _], _ => rfl)⟩
  have tk : Takes (cxOf (L2.CX P w) P w K mg base N__law_less "_law_less" (defScope st__law_less) (He.fAd K ("_law_less", none)) fd.code A outer s H E2) (WF E2) := takes_of rfl rfl rfl rfl
  exact ss_one (s_ret (d_call (fn__law_low E) ar_run tk (hr.mono (by decide)) (a_cons (d_sub (d_mul (d_ixN (i := 0) hr rfl (d_int)) (d_ixN (i := 1) hr rfl (d_int))) (d_mul (d_ixN (i := 1) hr rfl (d_int)) (d_ixN (i := 0) hr rfl (d_int)))) (a_cons (d_mul (d_ixN (i := 0) hr rfl (d_int)) (d_ixN (i := 1) hr rfl (d_int))) (a_nil)))))
/-! Share.order -/
abbrev st_Share_order : Stmt := inClass (top 13) 6
abbrev N_Share_order : List Str := ["self", "other", "gap"]
theorem sc_Share_order : FnScope N_Share_order ["self", "other"] (defScope st_Share_order) := ⟨rfl, rfl, rfl, by decide +kernel, rfl, by decide +kernel, by decide +kernel⟩
theorem mth_Share_order (E : Hd P w K mg base) : MeD P w K mg base (gx K) 9 "order" 1 2 (spF K (gx K) 2 f_Share_order) := by
  obtain ⟨fd, F⟩ := E.c.def_ 25
  refine ⟨_, fd, _, fnD_ok (m := m_Share_order) (k := 0) (N := N_Share_order) F sc_Share_order fun A outer s H E2 hr => ?_, He.cls_ok (E.c.fact 16), He.meth_ok (E.c.fact 32), (F.bindsN (ps := ["self", "other"]) fun _ _ _ _ _ _ us hl => match us, hl with | [_, _], _ => rfl), (show ("order" : Str) ∉ layN.getD 9 [] from by decide)⟩
  have tk : Takes (cxOf (L2.CX P w) P w K mg base N_Share_order "Share.order" (defScope st_Share_order) (He.fAd K ("Share", some "order")) fd.code A outer s H E2) (WF E2) := takes_of rfl rfl rfl rfl
  exact ss_cons (s_set (i := 2) sc_Share_order.nd rfl (d_sub (d_mul (d_fld (fld_top E) (dv 0)) (d_fld (fld_bottom E) (dv 1))) (d_mul (d_fld (fld_top E) (dv 1)) (d_fld (fld_bottom E) (dv 0))))) (ss_one (s_ret (d_ifExp (t_eq hr (dv 2) (d_int)) (d_int) (d_ifExp (t_gt (dv 2) (d_int)) (d_int) (d_neg (d_int))))))
/-! agree_at -/
abbrev st_agree_at : Stmt := top 17
abbrev N_agree_at : List Str := ["one", "other", "turn"]
theorem sc_agree_at : FnScope N_agree_at ["one", "other"] (defScope st_agree_at) := ⟨rfl, rfl, rfl, by decide +kernel, rfl, by decide +kernel, by decide +kernel⟩
theorem me_order_1 (E : Hd P w K mg base) : MeAll P w K mg base (gx K) "order" 1 ma_order_1 := .cons (mth_Share_order E) ar_run (by decide) (.nil)
theorem fn_agree_at (E : Hd P w K mg base) : FnD P w K mg base "agree_at" 7 2 (spF K (gx K) 2 f_agree_at) := by
  obtain ⟨fd, F⟩ := E.c.def_ 26
  refine ⟨_, fd, _, fnD_ok (m := m_agree_at) (k := 6) (N := N_agree_at) F sc_agree_at fun A outer s H E2 hr => ?_, (E.gl "agree_at" (E.c.fact 33)), F.kp, (F.bindsN (ps := ["one", "other"]) fun _ _ _ _ _ _ us hl => match us, hl with | [_, _], _ => rfl)⟩
  have tk : Takes (cxOf (L2.CX P w) P w K mg base N_agree_at "agree_at" (defScope st_agree_at) (He.fAd K ("agree_at", none)) fd.code A outer s H E2) (WF E2) := takes_of rfl rfl rfl rfl
  exact ss_cons (s_set (i := 2) sc_agree_at.nd rfl (d_call (fn_between E) ar_run tk (hr.mono (by decide)) (a_cons (dv 0) (a_cons (dv 1) (a_nil))))) (ss_cons (s_if (t_eq hr (d_methA (me_order_1 E) tk (hr.mono (by decide)) (d_fld (fld_factor E) (dv 2)) (a_cons (d_make 9 (mkd_Share E) ar_run1 tk (hr.mono (by decide)) (a_cons (d_int) (a_cons (d_int) (a_nil)))) (a_nil))) (d_int)) (ss_one (s_raise (exd_NoWay E) tk)) (ss_nil)) (ss_one (s_ret (d_methA (me_over_1 E) tk (hr.mono (by decide)) (d_fld (fld_start E) (dv 2)) (a_cons (d_methA (me_less_1 E) tk (hr.mono (by decide)) (d_make 9 (mkd_Share E) ar_run1 tk (hr.mono (by decide)) (a_cons (d_int) (a_cons (d_int) (a_nil)))) (a_cons (d_fld (fld_factor E) (dv 2)) (a_nil))) (a_nil))))))
/-! from_points -/
abbrev st_from_points : Stmt := top 18
abbrev N_from_points : List Str := ["first", "second", "run", "factor"]
theorem sc_from_points : FnScope N_from_points ["first", "second"] (defScope st_from_points) := ⟨rfl, rfl, rfl, by decide +kernel, rfl, by decide +kernel, by decide +kernel⟩
theorem fn_from_points (E : Hd P w K mg base) : FnD P w K mg base "from_points" 5 2 (spF K (gx K) 2 f_from_points) := by
  obtain ⟨fd, F⟩ := E.c.def_ 27
  refine ⟨_, fd, _, fnD_ok (m := m_from_points) (k := 4) (N := N_from_points) F sc_from_points fun A outer s H E2 hr => ?_, (E.gl "from_points" (E.c.fact 34)), F.kp, (F.bindsN (ps := ["first", "second"]) fun _ _ _ _ _ _ us hl => match us, hl with | [_, _], _ => rfl)⟩
  have tk : Takes (cxOf (L2.CX P w) P w K mg base N_from_points "from_points" (defScope st_from_points) (He.fAd K ("from_points", none)) fd.code A outer s H E2) (WF E2) := takes_of rfl rfl rfl rfl
  exact ss_cons (s_set (i := 2) sc_from_points.nd rfl (d_methA (me_less_1 E) tk (hr.mono (by decide)) (d_ixN (i := 1) hr rfl (d_int)) (a_cons (d_ixN (i := 0) hr rfl (d_int)) (a_nil)))) (ss_cons (s_if (t_eq hr (d_fld (fld_top E) (dv 2)) (d_int)) (ss_one (s_raise (exd_BadRule E) tk)) (ss_nil)) (ss_cons (s_set (i := 3) sc_from_points.nd rfl (d_methA (me_over_1 E) tk (hr.mono (by decide)) (d_methA (me_less_1 E) tk (hr.mono (by decide)) (d_ixN (i := 1) hr rfl (d_int)) (a_cons (d_ixN (i := 0) hr rfl (d_int)) (a_nil))) (a_cons (dv 2) (a_nil)))) (ss_one (s_ret (d_make 10 (mkd_Scale E) ar_run1 tk (hr.mono (by decide)) (a_cons (dv 3) (a_cons (d_methA (me_less_1 E) tk (hr.mono (by decide)) (d_ixN (i := 0) hr rfl (d_int)) (a_cons (d_methA (me_times_1 E) tk (hr.mono (by decide)) (d_ixN (i := 0) hr rfl (d_int)) (a_cons (dv 3) (a_nil))) (a_nil))) (a_nil))))))))
/-! Scales.__init__ -/
abbrev st_Scales___init__ : Stmt := inClass (top 19) 0
abbrev N_Scales___init__ : List Str := ["self", "rows", "name"]
theorem sc_Scales___init__ : FnScope N_Scales___init__ ["self", "rows"] (defScope st_Scales___init__) := ⟨rfl, rfl, rfl, by decide +kernel, rfl, by decide +kernel, by decide +kernel⟩
theorem mkd_Scales (E : Hd P w K mg base) : MkD P w K mg base (gx K) 11 "Scales" 1 2 f_Scales___init__ := by
  obtain ⟨fd, F⟩ := E.c.def_ 28
  refine ⟨_, fd, _, fnD_ok1 (m := m_Scales___init__) (k := 0) (N := N_Scales___init__) F sc_Scales___init__ fun A outer s H E2 hr => ?_, He.mkr_ok (E.c.fact 37), (E.gl "Scales" (E.c.fact 38)), (F.bindsN (ps := ["self", "rows"]) fun _ _ _ _ _ _ us hl => match us, hl with | [_, _], _ => rfl)⟩
  have tk : Takes (cxOf (L2.CX P w) P w K mg base N_Scales___init__ "Scales.__init__" (defScope st_Scales___init__) (He.fAd K ("Scales", some "__init__")) fd.code A outer s H E2) (WF E2) := takes_of rfl rfl rfl rfl
  exact ss_one (s_fld (i := 0) (c := 11) (j := 0) (FldOk.one (fld_rows E) rfl) (show (layN.getD 11 []).length < 900 from by decide) (d_b1 (bc_dict rfl (by rfl) (E.fr "dict" (E.c.fact 36))) lp_dict (p_of (d_ofL (c_lc (own := [("name", 2)]) rfl sc_Scales___init__.nd (i_seq (d_ofL (c_b1 (bc_sortedA hr rfl (by rfl) (E.fr "sorted" (E.c.fact 35))) ll_sortB (p_name 1)))) (blkOk_by (N := N_Scales___init__) (sc := (defScope st_Scales___init__)) (by decide +kernel)) (fun _ _ _ _ _ => pg_name (i := 2) sc_Scales___init__.nd rfl (Or.inl rfl)) (tgr_name (by decide)) (fun _ _ _ _ _ => pts_nilD) (fun _ _ _ _ _ => d_tup (a_cons (dv 2) (a_cons (d_ixN (i := 1) hr rfl (dv 2)) (a_nil)))))))) rfl)
/-! Scales.scale_of -/
abbrev st_Scales_scale_of : Stmt := inClass (top 19) 1
abbrev N_Scales_scale_of : List Str := ["self", "name"]
theorem sc_Scales_scale_of : FnScope N_Scales_scale_of ["self", "name"] (defScope st_Scales_scale_of) := ⟨rfl, rfl, rfl, by decide +kernel, rfl, by decide +kernel, by decide +kernel⟩
theorem mth_Scales_scale_of (E : Hd P w K mg base) : MeD P w K mg base (gx K) 11 "scale_of" 1 2 (spF K (gx K) 2 f_Scales_scale_of) := by
  obtain ⟨fd, F⟩ := E.c.def_ 29
  refine ⟨_, fd, _, fnD_ok (m := m_Scales_scale_of) (k := 0) (N := N_Scales_scale_of) F sc_Scales_scale_of fun A outer s H E2 hr => ?_, He.cls_ok (E.c.fact 39), He.meth_ok (E.c.fact 40), (F.bindsN (ps := ["self", "name"]) fun _ _ _ _ _ _ us hl => match us, hl with | [_, _], _ => rfl), (show ("scale_of" : Str) ∉ layN.getD 11 [] from by decide)⟩
  have tk : Takes (cxOf (L2.CX P w) P w K mg base N_Scales_scale_of "Scales.scale_of" (defScope st_Scales_scale_of) (He.fAd K ("Scales", some "scale_of")) fd.code A outer s H E2) (WF E2) := takes_of rfl rfl rfl rfl
  exact ss_cons (s_if (t_notInA hr (dv 1) (d_fld (fld_rows E) (dv 0))) (ss_one (s_raiseE (exd_NoSuch E) tk (dv 1))) (ss_nil)) (ss_one (s_ret (d_ixA hr (d_fld (fld_rows E) (dv 0)) (dv 1))))
/-! Scales.told -/
abbrev st_Scales_told : Stmt := inClass (top 19) 2
abbrev N_Scales_told : List Str := ["self", "mark", "one", "other"]
theorem sc_Scales_told : FnScope N_Scales_told ["self", "mark", "one", "other"] (defScope st_Scales_told) := ⟨rfl, rfl, rfl, by decide +kernel, rfl, by decide +kernel, by decide +kernel⟩
theorem me_scale_of_1 (E : Hd P w K mg base) : MeAll P w K mg base (gx K) "scale_of" 1 ma_scale_of_1 := .cons (mth_Scales_scale_of E) ar_run (by decide) (.nil)
theorem me_mark_1 (E : Hd P w K mg base) : MeAll P w K mg base (gx K) "mark" 5 ma_mark_1 := .cons (mth_Scale_mark E) ar_run (by decide) (.nil)
theorem me_plain_1 (E : Hd P w K mg base) : MeAll P w K mg base (gx K) "plain" 5 ma_plain_1 := .cons (mth_Scale_plain E) ar_run (by decide) (.nil)
theorem mth_Scales_told (E : Hd P w K mg base) : MeD P w K mg base (gx K) 11 "told" 6 4 (spF K (gx K) 4 f_Scales_told) := by
  obtain ⟨fd, F⟩ := E.c.def_ 30
  refine ⟨_, fd, _, fnD_ok (m := m_Scales_told) (k := 5) (N := N_Scales_told) F sc_Scales_told fun A outer s H E2 hr => ?_, He.cls_ok (E.c.fact 39), He.meth_ok (E.c.fact 41), (F.bindsN (ps := ["self", "mark", "one", "other"]) fun _ _ _ _ _ _ us hl => match us, hl with | [_, _, _, _], _ => rfl), (show ("told" : Str) ∉ layN.getD 11 [] from by decide)⟩
  have tk : Takes (cxOf (L2.CX P w) P w K mg base N_Scales_told "Scales.told" (defScope st_Scales_told) (He.fAd K ("Scales", some "told")) fd.code A outer s H E2) (WF E2) := takes_of rfl rfl rfl rfl
  exact ss_one (s_ret (d_methA (me_mark_1 E) tk (hr.mono (by decide)) (d_methA (me_scale_of_1 E) tk (hr.mono (by decide)) (dv 0) (a_cons (dv 3) (a_nil))) (a_cons (d_methA (me_plain_1 E) tk (hr.mono (by decide)) (d_methA (me_scale_of_1 E) tk (hr.mono (by decide)) (dv 0) (a_cons (dv 2) (a_nil))) (a_cons (dv 1) (a_nil))) (a_nil))))
/-! Scales.gap -/
abbrev st_Scales_gap : Stmt := inClass (top 19) 3
abbrev N_Scales_gap : List Str := ["self", "steps", "one", "other"]
theorem sc_Scales_gap : FnScope N_Scales_gap ["self", "steps", "one", "other"] (defScope st_Scales_gap) := ⟨rfl, rfl, rfl, by decide +kernel, rfl, by decide +kernel, by decide +kernel⟩
theorem me_step_1 (E : Hd P w K mg base) : MeAll P w K mg base (gx K) "step" 5 ma_step_1 := .cons (mth_Scale_step E) ar_run (by decide) (.nil)
theorem mth_Scales_gap (E : Hd P w K mg base) : MeD P w K mg base (gx K) 11 "gap" 6 4 (spF K (gx K) 4 f_Scales_gap) := by
  obtain ⟨fd, F⟩ := E.c.def_ 31
  refine ⟨_, fd, _, fnD_ok (m := m_Scales_gap) (k := 5) (N := N_Scales_gap) F sc_Scales_gap fun A outer s H E2 hr => ?_, He.cls_ok (E.c.fact 39), He.meth_ok (E.c.fact 42), (F.bindsN (ps := ["self", "steps", "one", "other"]) fun _ _ _ _ _ _ us hl => match us, hl with | [_, _, _, _], _ => rfl), (show ("gap" : Str) ∉ layN.getD 11 [] from by decide)⟩
  have tk : Takes (cxOf (L2.CX P w) P w K mg base N_Scales_gap "Scales.gap" (defScope st_Scales_gap) (He.fAd K ("Scales", some "gap")) fd.code A outer s H E2) (WF E2) := takes_of rfl rfl rfl rfl
  exact ss_one (s_ret (d_methA (me_over_1 E) tk (hr.mono (by decide)) (d_methA (me_step_1 E) tk (hr.mono (by decide)) (d_methA (me_scale_of_1 E) tk (hr.mono (by decide)) (dv 0) (a_cons (dv 2) (a_nil))) (a_cons (dv 1) (a_nil))) (a_cons (d_fld (fld_factor E) (d_methA (me_scale_of_1 E) tk (hr.mono (by decide)) (dv 0) (a_cons (dv 3) (a_nil)))) (a_nil))))
/-! Scales.table -/
abbrev st_Scales_table : Stmt := inClass (top 19) 4
abbrev N_Scales_table : List Str := ["self", "one", "other", "first", "last", "step", "found", "here"]
theorem sc_Scales_table : FnScope N_Scales_table ["self", "one", "other", "first", "last", "step"] (defScope st_Scales_table) := ⟨rfl, rfl, rfl, by decide +kernel, rfl, by decide +kernel, by decide +kernel⟩
theorem me_told_3 (E : Hd P w K mg base) : MeAll P w K mg base (gx K) "told" 6 ma_told_3 := .cons (mth_Scales_told E) ar_run (by decide) (.nil)
theorem mth_Scales_table (E : Hd P w K mg base) : MeD P w K mg base (gx K) 11 "table" 7 6 (spF K (gx K) 6 f_Scales_table) := by
  obtain ⟨fd, F⟩ := E.c.def_ 32
  refine ⟨_, fd, _, fnD_ok (m := m_Scales_table) (k := 6) (N := N_Scales_table) F sc_Scales_table fun A outer s H E2 hr => ?_, He.cls_ok (E.c.fact 39), He.meth_ok (E.c.fact 44), (F.bindsN (ps := ["self", "one", "other", "first", "last", "step"]) fun _ _ _ _ _ _ us hl => match us, hl with | [_, _, _, _, _, _], _ => rfl), (show ("table" : Str) ∉ layN.getD 11 [] from by decide)⟩
  have tk : Takes (cxOf (L2.CX P w) P w K mg base N_Scales_table "Scales.table" (defScope st_Scales_table) (He.fAd K ("Scales", some "table")) fd.code A outer s H E2) (WF E2) := takes_of rfl rfl rfl rfl
  exact ss_cons (s_if (t_le (d_fld (fld_top E) (dv 5)) (d_int)) (ss_one (s_raise (exd_BadNumber E) tk)) (ss_nil)) (ss_cons (s_parOD (i := 6) (j := 7) rfl sc_Scales_table.nd rfl rfl (by decide) rfl rfl (c_lst (a_nil)) (dv 3) (by rfl)) (ss_cons (s_while 300 (passes_of rfl) (t_le (d_methA (me_order_1 E) tk (hr.mono (by decide)) (dv 7) (a_cons (dv 4) (a_nil))) (d_int)) (ss_cons (s_app (i := 6) rfl (d_tup (a_cons (dv 7) (a_cons (d_methA (me_told_3 E) tk (hr.mono (by decide)) (dv 0) (a_cons (dv 7) (a_cons (dv 1) (a_cons (dv 2) (a_nil))))) (a_nil))))) (ss_one (s_set (i := 7) sc_Scales_table.nd rfl (d_methA (me_plus_1 E) tk (hr.mono (by decide)) (dv 7) (a_cons (dv 5) (a_nil))))))) (ss_one (s_ret (d_b1 (bc_tuple (by rfl) (E.fr "tuple" (E.c.fact 43))) lp_tup (p_name 6))))))
/-! _law_is_less -/
abbrev st__law_is_less : Stmt := top 32
abbrev N__law_is_less : List Str := ["one", "other"]
theorem sc__law_is_less : FnScope N__law_is_less ["one", "other"] (defScope st__law_is_less) := ⟨rfl, rfl, rfl, by decide +kernel, rfl, by decide +kernel, by decide +kernel⟩
theorem fn__law_is_less (E : Hd P w K mg base) : FnD P w K mg base "_law_is_less" 1 2 (spF K (gx K) 2 f__law_is_less) := by
  obtain ⟨fd, F⟩ := E.c.def_ 33
  refine ⟨_, fd, _, fnD_ok (m := m__law_is_less) (k := 0) (N := N__law_is_less) F sc__law_is_less fun A outer s H E2 hr => ?_, (E.gl "_law_is_less" (E.c.fact 45)), F.kp, (F.bindsN (ps := ["one", "other"]) fun _ _ _ _ _ _ us hl => match us, hl with | [_, _], _ => rfl)⟩
  have tk : Takes (cxOf (L2.CX P w) P w K mg base N__law_is_less "_law_is_less" (defScope st__law_is_less) (He.fAd K ("_law_is_less", none)) fd.code A outer s H E2) (WF E2) := takes_of rfl rfl rfl rfl
  exact ss_one (s_ret (d_lt (d_mul (d_ixN (i := 0) hr rfl (d_int)) (d_ixN (i := 1) hr rfl (d_int))) (d_mul (d_ixN (i := 1) hr rfl (d_int)) (d_ixN (i := 0) hr rfl (d_int)))))
/-! Scales.rises -/
abbrev st_Scales_rises : Stmt := inClass (top 19) 5
abbrev N_Scales_rises : List Str := ["self", "one", "other"]
theorem sc_Scales_rises : FnScope N_Scales_rises ["self", "one", "other"] (defScope st_Scales_rises) := ⟨rfl, rfl, rfl, by decide +kernel, rfl, by decide +kernel, by decide +kernel⟩
theorem mth_Scales_rises (E : Hd P w K mg base) : MeD P w K mg base (gx K) 11 "rises" 7 3 (spF K (gx K) 3 f_Scales_rises) := by
  obtain ⟨fd, F⟩ := E.c.def_ 34
  refine ⟨_, fd, _, fnD_ok (m := m_Scales_rises) (k := 6) (N := N_Scales_rises) F sc_Scales_rises fun A outer s H E2 hr => ?_, He.cls_ok (E.c.fact 39), He.meth_ok (E.c.fact 46), (F.bindsN (ps := ["self", "one", "other"]) fun _ _ _ _ _ _ us hl => match us, hl with | [_, _, _], _ => rfl), (show ("rises" : Str) ∉ layN.getD 11 [] from by decide)⟩
  have tk : Takes (cxOf (L2.CX P w) P w K mg base N_Scales_rises "Scales.rises" (defScope st_Scales_rises) (He.fAd K ("Scales", some "rises")) fd.code A outer s H E2) (WF E2) := takes_of rfl rfl rfl rfl
  exact ss_one (s_ret (d_gt (d_fld (fld_top E) (d_fld (fld_factor E) (d_call (fn_between E) ar_run tk (hr.mono (by decide)) (a_cons (d_methA (me_scale_of_1 E) tk (hr.mono (by decide)) (dv 0) (a_cons (dv 1) (a_nil))) (a_cons (d_methA (me_scale_of_1 E) tk (hr.mono (by decide)) (dv 0) (a_cons (dv 2) (a_nil))) (a_nil)))))) (d_int)))
/-! Scales.meet -/
abbrev st_Scales_meet : Stmt := inClass (top 19) 6
abbrev N_Scales_meet : List Str := ["self", "one", "other"]
theorem sc_Scales_meet : FnScope N_Scales_meet ["self", "one", "other"] (defScope st_Scales_meet) := ⟨rfl, rfl, rfl, by decide +kernel, rfl, by decide +kernel, by decide +kernel⟩
theorem mth_Scales_meet (E : Hd P w K mg base) : MeD P w K mg base (gx K) 11 "meet" 8 3 (spF K (gx K) 3 f_Scales_meet) := by
  obtain ⟨fd, F⟩ := E.c.def_ 35
  refine ⟨_, fd, _, fnD_ok (m := m_Scales_meet) (k := 7) (N := N_Scales_meet) F sc_Scales_meet fun A outer s H E2 hr => ?_, He.cls_ok (E.c.fact 39), He.meth_ok (E.c.fact 47), (F.bindsN (ps := ["self", "one", "other"]) fun _ _ _ _ _ _ us hl => match us, hl with | [_, _, _], _ => rfl), (show ("meet" : Str) ∉ layN.getD 11 [] from by decide)⟩
  have tk : Takes (cxOf (L2.CX P w) P w K mg base N_Scales_meet "Scales.meet" (defScope st_Scales_meet) (He.fAd K ("Scales", some "meet")) fd.code A outer s H E2) (WF E2) := takes_of rfl rfl rfl rfl
  exact ss_one (s_ret (d_call (fn_agree_at E) ar_run tk (hr.mono (by decide)) (a_cons (d_methA (me_scale_of_1 E) tk (hr.mono (by decide)) (dv 0) (a_cons (dv 1) (a_nil))) (a_cons (d_methA (me_scale_of_1 E) tk (hr.mono (by decide)) (dv 0) (a_cons (dv 2) (a_nil))) (a_nil)))))
/-! Share.is_whole -/
abbrev st_Share_is_whole : Stmt := inClass (top 13) 7
abbrev N_Share_is_whole : List Str := ["self"]
theorem sc_Share_is_whole : FnScope N_Share_is_whole ["self"] (defScope st_Share_is_whole) := ⟨rfl, rfl, rfl, by decide +kernel, rfl, by decide +kernel, by decide +kernel⟩
theorem mth_Share_is_whole (E : Hd P w K mg base) : MeD P w K mg base (gx K) 9 "is_whole" 1 1 (spF K (gx K) 1 f_Share_is_whole) := by
  obtain ⟨fd, F⟩ := E.c.def_ 36
  refine ⟨_, fd, _, fnD_ok (m := m_Share_is_whole) (k := 0) (N := N_Share_is_whole) F sc_Share_is_whole fun A outer s H E2 hr => ?_, He.cls_ok (E.c.fact 16), He.meth_ok (E.c.fact 48), (F.bindsN (ps := ["self"]) fun _ _ _ _ _ _ us hl => match us, hl with | [_], _ => rfl), (show ("is_whole" : Str) ∉ layN.getD 9 [] from by decide)⟩
  have tk : Takes (cxOf (L2.CX P w) P w K mg base N_Share_is_whole "Share.is_whole" (defScope st_Share_is_whole) (He.fAd K ("Share", some "is_whole")) fd.code A outer s H E2) (WF E2) := takes_of rfl rfl rfl rfl
  exact ss_one (s_ret (d_eq hr (d_fld (fld_bottom E) (dv 0)) (d_int)))
/-! Scales.whole_marks -/
abbrev st_Scales_whole_marks : Stmt := inClass (top 19) 7
abbrev N_Scales_whole_marks : List Str := ["self", "one", "other", "first", "last", "k"]
theorem sc_Scales_whole_marks : FnScope N_Scales_whole_marks ["self", "one", "other", "first", "last"] (defScope st_Scales_whole_marks) := ⟨rfl, rfl, rfl, by decide +kernel, rfl, by decide +kernel, by decide +kernel⟩
theorem me_is_whole_0 (E : Hd P w K mg base) : MeAll P w K mg base (gx K) "is_whole" 1 ma_is_whole_0 := .cons (mth_Share_is_whole E) ar_run (by decide) (.nil)
theorem mth_Scales_whole_marks (E : Hd P w K mg base) : MeD P w K mg base (gx K) 11 "whole_marks" 7 5 (spF K (gx K) 5 f_Scales_whole_marks) := by
  obtain ⟨fd, F⟩ := E.c.def_ 37
  refine ⟨_, fd, _, fnD_ok (m := m_Scales_whole_marks) (k := 6) (N := N_Scales_whole_marks) F sc_Scales_whole_marks fun A outer s H E2 hr => ?_, He.cls_ok (E.c.fact 39), He.meth_ok (E.c.fact 49), (F.bindsN (ps := ["self", "one", "other", "first", "last"]) fun _ _ _ _ _ _ us hl => match us, hl with | [_, _, _, _, _], _ => rfl), (show ("whole_marks" : Str) ∉ layN.getD 11 [] from by decide)⟩
  have tk : Takes (cxOf (L2.CX P w) P w K mg base N_Scales_whole_marks "Scales.whole_marks" (defScope st_Scales_whole_marks) (He.fAd K ("Scales", some "whole_marks")) fd.code A outer s H E2) (WF E2) := takes_of rfl rfl rfl rfl
  exact ss_one (s_ret (d_b1 (bc_tuple (by rfl) (E.fr "tuple" (E.c.fact 43))) lp_tup (p_of (d_ofL (c_lc (own := [("k", 5)]) rfl sc_Scales_whole_marks.nd (i_rng2 (by rfl) (E.fr "range" (E.c.fact 12)) (a_cons (dv 3) (a_cons (d_add (dv 4) (d_int)) (a_nil)))) (blkOk_by (N := N_Scales_whole_marks) (sc := (defScope st_Scales_whole_marks)) (by decide +kernel)) (fun _ _ _ _ _ => pg_name (i := 5) sc_Scales_whole_marks.nd rfl (Or.inl rfl)) (tgr_name (by decide)) (fun _ _ _ _ _ => pts_oneD (t_val (d_methA0 (me_is_whole_0 E) L2.takes0 (hr.mono (by decide)) (d_methA (me_told_3 E) L2.takes0 (hr.mono (by decide)) (dv 0) (a_cons (d_make 9 (mkd_Share E) ar_run1 L2.takes0 (hr.mono (by decide)) (a_cons (dv 5) (a_cons (d_int) (a_nil)))) (a_cons (dv 1) (a_cons (dv 2) (a_nil)))))))) (fun _ _ _ _ _ => dv 5))))))
/-! between_points -/
abbrev st_between_points : Stmt := top 20
abbrev N_between_points : List Str := ["points", "mark", "k", "one", "other", "part"]
theorem sc_between_points : FnScope N_between_points ["points", "mark"] (defScope st_between_points) := ⟨rfl, rfl, rfl, by decide +kernel, rfl, by decide +kernel, by decide +kernel⟩
theorem fn_between_points (E : Hd P w K mg base) : FnD P w K mg base "between_points" 6 2 (spF K (gx K) 2 f_between_points) := by
  obtain ⟨fd, F⟩ := E.c.def_ 38
  refine ⟨_, fd, _, fnD_ok (m := m_between_points) (k := 5) (N := N_between_points) F sc_between_points fun A outer s H E2 hr => ?_, (E.gl "between_points" (E.c.fact 52)), F.kp, (F.bindsN (ps := ["points", "mark"]) fun _ _ _ _ _ _ us hl => match us, hl with | [_, _], _ => rfl)⟩
  have tk : Takes (cxOf (L2.CX P w) P w K mg base N_between_points "between_points" (defScope st_between_points) (He.fAd K ("between_points", none)) fd.code A outer s H E2) (WF E2) := takes_of rfl rfl rfl rfl
  have gn : GenD (cxOf (L2.CX P w) P w K mg base N_between_points "between_points" (defScope st_between_points) (He.fAd K ("between_points", none)) fd.code A outer s H E2) (gx K) := genD E (p := ("between_points", none)) F (by decide) rfl rfl rfl "between_points.<locals>.<genexpr>" (by rfl) (by decide) (by decide)
  exact ss_cons (s_if (t_w (w_or (t_lt (d_b1 (bc_len (by rfl) (E.fr "len" (E.c.fact 50))) lp_len (p_name 0)) (d_int)) (w_or1 (t_val (d_genC (k := 4) (tgs := ["k"]) (caps := [("points", 0)]) (vs := [0]) finC_any (by rfl) (E.fr "any" (E.c.fact 51)) hr gn (genSN_by (sc := defScope st_between_points) rfl (by decide +kernel)) (capsN_cons rfl capsN_nil) (i_rng2 (by rfl) (E.fr "range" (E.c.fact 12)) (a_cons (d_int) (a_cons (d_b1 (bc_len (by rfl) (E.fr "len" (E.c.fact 50))) lp_len (p_name 0)) (a_nil)))) (fun _ _ _ _ _ _ => g_name (i := 0) (show (["k", "points"] : List Str).Nodup from by decide +kernel) rfl) (fun _ _ _ _ _ _ hrg => d_le (d_methA (me_order_1 E) gen_takes (hrg.mono (by decide)) (d_ixA hrg (d_ixN (i := 1) hrg rfl (dv 0)) (d_int)) (a_cons (d_ixA hrg (d_ixN (i := 1) hrg rfl (d_sub (dv 0) (d_int))) (d_int)) (a_nil))) (d_int))))))) (ss_one (s_raise (exd_BadRule E) tk)) (ss_nil)) (ss_cons (s_for (passes_of rfl) rfl (i_rng2 (by rfl) (E.fr "range" (E.c.fact 12)) (a_cons (d_int) (a_cons (d_b1 (bc_len (by rfl) (E.fr "len" (E.c.fact 50))) lp_len (p_name 0)) (a_nil)))) (g_name (i := 2) sc_between_points.nd rfl) (calm_set) (ss_one (s_if (t_w (w_and (t_le (d_methA (me_order_1 E) tk (hr.mono (by decide)) (d_ixA hr (d_ixN (i := 0) hr rfl (d_sub (dv 2) (d_int))) (d_int)) (a_cons (dv 1) (a_nil))) (d_int)) (w_and1 (t_le (d_methA (me_order_1 E) tk (hr.mono (by decide)) (dv 1) (a_cons (d_ixA hr (d_ixN (i := 0) hr rfl (dv 2)) (d_int)) (a_nil))) (d_int))))) (ss_cons (s_par (i := 3) (j := 4) rfl sc_between_points.nd rfl rfl (by decide) rfl rfl (a_cons (d_ixN (i := 0) hr rfl (d_sub (dv 2) (d_int))) (a_cons (d_ixN (i := 0) hr rfl (dv 2)) (a_nil))) (by rfl)) (ss_cons (s_set (i := 5) sc_between_points.nd rfl (d_methA (me_over_1 E) tk (hr.mono (by decide)) (d_methA (me_less_1 E) tk (hr.mono (by decide)) (dv 1) (a_cons (d_ixN (i := 3) hr rfl (d_int)) (a_nil))) (a_cons (d_methA (me_less_1 E) tk (hr.mono (by decide)) (d_ixN (i := 4) hr rfl (d_int)) (a_cons (d_ixN (i := 3) hr rfl (d_int)) (a_nil))) (a_nil)))) (ss_one (s_ret (d_methA (me_plus_1 E) tk (hr.mono (by decide)) (d_ixN (i := 3) hr rfl (d_int)) (a_cons (d_methA (me_times_1 E) tk (hr.mono (by decide)) (d_methA (me_less_1 E) tk (hr.mono (by decide)) (d_ixN (i := 4) hr rfl (d_int)) (a_cons (d_ixN (i := 3) hr rfl (d_int)) (a_nil))) (a_cons (dv 5) (a_nil))) (a_nil))))))) (ss_nil)))) (ss_one (s_raise (exd_BadNumber E) tk)))
/-! worst_gap -/
abbrev st_worst_gap : Stmt := top 21
abbrev N_worst_gap : List Str := ["points", "scale", "best", "mark", "plain_mark", "gap"]
theorem sc_worst_gap : FnScope N_worst_gap ["points", "scale"] (defScope st_worst_gap) := ⟨rfl, rfl, rfl, by decide +kernel, rfl, by decide +kernel, by decide +kernel⟩
theorem fn_worst_gap (E : Hd P w K mg base) : FnD P w K mg base "worst_gap" 6 2 (spF K (gx K) 2 f_worst_gap) := by
  obtain ⟨fd, F⟩ := E.c.def_ 39
  refine ⟨_, fd, _, fnD_ok (m := m_worst_gap) (k := 5) (N := N_worst_gap) F sc_worst_gap fun A outer s H E2 hr => ?_, (E.gl "worst_gap" (E.c.fact 53)), F.kp, (F.bindsN (ps := ["points", "scale"]) fun _ _ _ _ _ _ us hl => match us, hl with | [_, _], _ => rfl)⟩
  have tk : Takes (cxOf (L2.CX P w) P w K mg base N_worst_gap "worst_gap" (defScope st_worst_gap) (He.fAd K ("worst_gap", none)) fd.code A outer s H E2) (WF E2) := takes_of rfl rfl rfl rfl
  exact ss_cons (s_set (i := 2) sc_worst_gap.nd rfl (d_non)) (ss_cons (s_for (passes_of rfl) rfl (i_seq (dv 0)) (g_tup rfl (gs_cons (g_name (i := 3) sc_worst_gap.nd rfl) (gs_cons (g_name (i := 4) sc_worst_gap.nd rfl) (gs_nil)))) (calm_tup (calms_cons (calm_set) (calms_cons (calm_set) (calms_nil)))) (ss_cons (s_set (i := 5) sc_worst_gap.nd rfl (d_methA (me_less_1 E) tk (hr.mono (by decide)) (d_methA (me_plain_1 E) tk (hr.mono (by decide)) (dv 1) (a_cons (dv 3) (a_nil))) (a_cons (dv 4) (a_nil)))) (ss_cons (s_set (i := 5) sc_worst_gap.nd rfl (d_make 9 (mkd_Share E) ar_run1 tk (hr.mono (by decide)) (a_cons (d_b1 (bc_abs (by rfl) (E.fr "abs" (E.c.fact 0))) lp_abs (p_of (d_fld (fld_top E) (dv 5)))) (a_cons (d_fld (fld_bottom E) (dv 5)) (a_nil))))) (ss_one (s_if (t_w (w_or (t_isN (dv 2) (d_non)) (w_or1 (t_gt (d_methA (me_order_1 E) tk (hr.mono (by decide)) (dv 5) (a_cons (d_ixN (i := 2) hr rfl (d_int)) (a_nil))) (d_int))))) (ss_one (s_set (i := 2) sc_worst_gap.nd rfl (d_tup (a_cons (dv 5) (a_cons (dv 3) (a_nil)))))) (ss_nil)))))) (ss_cons (s_if (t_isN (dv 2) (d_non)) (ss_one (s_raise (exd_BadRule E) tk)) (ss_nil)) (ss_one (s_ret (dv 2)))))
/-! _law_wrong_points -/
abbrev st__law_wrong_points : Stmt := top 35
abbrev N__law_wrong_points : List Str := ["points", "some", "mark", "last", "one"]
theorem sc__law_wrong_points : FnScope N__law_wrong_points ["points", "some", "mark", "last", "one"] (defScope st__law_wrong_points) := ⟨rfl, rfl, rfl, by decide +kernel, rfl, by decide +kernel, by decide +kernel⟩
theorem me_table_5 (E : Hd P w K mg base) : MeAll P w K mg base (gx K) "table" 7 ma_table_5 := .cons (mth_Scales_table E) ar_run (by decide) (.nil)
theorem fn__law_wrong_points (E : Hd P w K mg base) : FnD P w K mg base "_law_wrong_points" 10 5 (spF K (gx K) 5 f__law_wrong_points) := by
  obtain ⟨fd, F⟩ := E.c.def_ 40
  refine ⟨_, fd, _, fnD_ok (m := m__law_wrong_points) (k := 9) (N := N__law_wrong_points) F sc__law_wrong_points fun A outer s H E2 hr => ?_, (E.gl "_law_wrong_points" (E.c.fact 54)), F.kp, (F.bindsN (ps := ["points", "some", "mark", "last", "one"]) fun _ _ _ _ _ _ us hl => match us, hl with | [_, _, _, _, _], _ => rfl)⟩
  have tk : Takes (cxOf (L2.CX P w) P w K mg base N__law_wrong_points "_law_wrong_points" (defScope st__law_wrong_points) (He.fAd K ("_law_wrong_points", none)) fd.code A outer s H E2) (WF E2) := takes_of rfl rfl rfl rfl
  have lam : LamD (cxOf (L2.CX P w) P w K mg base N__law_wrong_points "_law_wrong_points" (defScope st__law_wrong_points) (He.fAd K ("_law_wrong_points", none)) fd.code A outer s H E2) (gx K) := lamD E (p := ("_law_wrong_points", none)) F (by decide) rfl rfl rfl "_law_wrong_points.<locals>.<lambda>" (by rfl) (by decide) (by decide)
  exact ss_cons (s_if (t_ne hr (d_told (k := 7) (told_law E) lam (hr.mono (by decide)) (lamS_by (sc := defScope st__law_wrong_points) (by decide +kernel)) (fun A outer s H E2 f c' hr2 => d_call (fn_between_points E) ar_run (takes_of rfl rfl rfl rfl) (hr2.mono (by decide)) (a_cons (d_sl (dv 0) (p_none) (p_some (d_int))) (a_cons (dv 2) (a_nil))))) (d_str)) (ss_one (s_ret (d_bl))) (ss_nil)) (ss_cons (s_if (t_ne hr (d_told (k := 7) (told_law E) lam (hr.mono (by decide)) (lamS_by (sc := defScope st__law_wrong_points) (by decide +kernel)) (fun A outer s H E2 f c' hr2 => d_methA (me_table_5 E) (takes_of rfl rfl rfl rfl) (hr2.mono (by decide)) (dv 1) (a_cons (d_str) (a_cons (d_str) (a_cons (dv 2) (a_cons (dv 3) (a_cons (d_make 9 (mkd_Share E) ar_run1 (takes_of rfl rfl rfl rfl) (hr2.mono (by decide)) (a_cons (d_int) (a_cons (d_int) (a_nil)))) (a_nil)))))))) (d_str)) (ss_one (s_ret (d_bl))) (ss_nil)) (ss_cons (s_if (t_ne hr (d_told (k := 7) (told_law E) lam (hr.mono (by decide)) (lamS_by (sc := defScope st__law_wrong_points) (by decide +kernel)) (fun A outer s H E2 f c' hr2 => d_call (fn_worst_gap E) ar_run (takes_of rfl rfl rfl rfl) (hr2.mono (by decide)) (a_cons (d_ofL (c_lst (a_nil))) (a_cons (dv 4) (a_nil))))) (d_str)) (ss_one (s_ret (d_bl))) (ss_nil)) (ss_one (s_ret (d_bl)))))
/-! _law_rest1 -/
abbrev st__law_rest1 : Stmt := top 37
abbrev N__law_rest1 : List Str := ["dice", "one", "mark", "far", "some", "last", "k", "first", "whole", "here", "told", "within", "a", "p", "b", "q", "part", "gaps", "gap", "worst", "place", "asked", "points", "j", "top", "bottom"]
theorem sc__law_rest1 : FnScope N__law_rest1 ["dice", "one", "mark", "far", "some", "last", "k"] (defScope st__law_rest1) := ⟨rfl, rfl, rfl, by decide +kernel, rfl, by decide +kernel, by decide +kernel⟩
theorem me_whole_marks_4 (E : Hd P w K mg base) : MeAll P w K mg base (gx K) "whole_marks" 7 ma_whole_marks_4 := .cons (mth_Scales_whole_marks E) ar_run (by decide) (.nil)
theorem me_key_0 (E : Hd P w K mg base) : MeAll P w K mg base (gx K) "key" 2 ma_key_0 := .cons (mth_Share_key E) ar_run (by decide) (.cons (mth_Scale_key E) ar_run (by decide) (.nil))
theorem fn__law_rest1 (E : Hd P w K mg base) : FnD P w K mg base "_law_rest1" 13 7 (sp1 K (gx K) 7 f__law_rest1) := by
  obtain ⟨fd, F⟩ := E.c.def_ 41
  refine ⟨_, fd, _, fnD_ok1 (m := m__law_rest1) (k := 12) (N := N__law_rest1) F sc__law_rest1 fun A outer s H E2 hr => ?_, (E.gl "_law_rest1" (E.c.fact 57)), F.kp, (F.bindsN (ps := ["dice", "one", "mark", "far", "some", "last", "k"]) fun _ _ _ _ _ _ us hl => match us, hl with | [_, _, _, _, _, _, _], _ => rfl)⟩
  have tk : Takes (cxOf (L2.CX P w) P w K mg base N__law_rest1 "_law_rest1" (defScope st__law_rest1) (He.fAd K ("_law_rest1", none)) fd.code A outer s H E2) (WF E2) := takes_of rfl rfl rfl rfl
  have lam : LamD (cxOf (L2.CX P w) P w K mg base N__law_rest1 "_law_rest1" (defScope st__law_rest1) (He.fAd K ("_law_rest1", none)) fd.code A outer s H E2) (gx K) := lamD E (p := ("_law_rest1", none)) F (by decide) rfl rfl rfl "_law_rest1.<locals>.<lambda>" (by rfl) (by decide) (by decide)
  exact ss_cons (s_set (i := 7) sc__law_rest1.nd rfl (d_sub (d_call1 (i := 0) (fn__law_roll E) ar_run1 tk (hr.mono (by decide)) rfl (a_cons (d_int) (a_nil))) (d_int))) (ss_cons (s_setLc (i := 8) (own := [("k", 6)]) rfl sc__law_rest1.nd rfl rfl rfl (i_rng2 (by rfl) (E.fr "range" (E.c.fact 12)) (a_cons (dv 7) (a_cons (d_add (dv 7) (d_int)) (a_nil)))) (blkOk_by (N := N__law_rest1) (sc := (defScope st__law_rest1)) (by decide +kernel)) (fun _ _ _ _ _ => pg_name (i := 6) sc__law_rest1.nd rfl (Or.inl rfl)) (tgr_name (by decide)) (fun _ _ _ _ _ => pts_oneD (t_eq hr (d_fld (fld_bottom E) (d_methA (me_told_3 E) L2.takes0 (hr.mono (by decide)) (dv 4) (a_cons (d_make 9 (mkd_Share E) ar_run1 L2.takes0 (hr.mono (by decide)) (a_cons (dv 6) (a_cons (d_int) (a_nil)))) (a_cons (d_str) (a_cons (d_str) (a_nil)))))) (d_int))) (fun _ _ _ _ _ => dv 6)) (ss_cons (s_if (t_ne hr (d_ofL (c_b1 (bc_list rfl (by rfl) (E.fr "list" (E.c.fact 55))) ll_list (p_of (d_methA (me_whole_marks_4 E) tk (hr.mono (by decide)) (dv 4) (a_cons (d_str) (a_cons (d_str) (a_cons (dv 7) (a_cons (d_add (dv 7) (d_int)) (a_nil))))))))) (dv 8)) (ss_one (s_ret (d_bl))) (ss_nil)) (ss_cons (s_parT (is := [22, 9]) rfl (sl_cons (sl_ol (c_lst (a_nil))) (sl_cons (sl_im (d_make 9 (mkd_Share E) ar_run1 tk (hr.mono (by decide)) (a_cons (d_call1 (i := 0) (fn__law_roll E) ar_run1 tk (hr.mono (by decide)) rfl (a_cons (d_int) (a_nil))) (a_cons (d_int) (a_nil))))) (sl_nil))) (pgs_cons (pg_name (i := 22) sc__law_rest1.nd rfl (Or.inr rfl)) (pgs_cons (pg_name (i := 9) sc__law_rest1.nd rfl (Or.inl rfl)) (pgs_nil)))) (ss_cons (s_for (passes_of rfl) rfl (i_rng1 (by rfl) (E.fr "range" (E.c.fact 12)) (a_cons (d_add (d_int) (d_call1 (i := 0) (fn__law_roll E) ar_run1 tk (hr.mono (by decide)) rfl (a_cons (d_int) (a_nil)))) (a_nil))) (g_name (i := 6) sc__law_rest1.nd rfl) (calm_set) (ss_cons (s_app (i := 22) rfl (d_tup (a_cons (dv 9) (a_cons (d_call1 (i := 0) (fn__law_share E) ar_run1 tk (hr.mono (by decide)) rfl (a_cons (d_sub (d_int) (d_int)) (a_cons (d_int) (a_cons (d_int) (a_nil))))) (a_nil))))) (ss_one (s_set (i := 9) sc__law_rest1.nd rfl (d_methA (me_plus_1 E) tk (hr.mono (by decide)) (dv 9) (a_cons (d_make 9 (mkd_Share E) ar_run1 tk (hr.mono (by decide)) (a_cons (d_add (d_int) (d_call1 (i := 0) (fn__law_roll E) ar_run1 tk (hr.mono (by decide)) rfl (a_cons (d_int) (a_nil)))) (a_cons (d_int) (a_nil)))) (a_nil))))))) (ss_cons (s_set (i := 21) sc__law_rest1.nd rfl (d_call1 (i := 0) (fn__law_share E) ar_run1 tk (hr.mono (by decide)) rfl (a_cons (d_sub (d_int) (d_int)) (a_cons (d_int) (a_cons (d_int) (a_nil)))))) (ss_cons (s_set (i := 10) sc__law_rest1.nd rfl (d_told (k := 10) (told_law E) lam (hr.mono (by decide)) (lamS_by (sc := defScope st__law_rest1) (by decide +kernel)) (fun A outer s H E2 f c' hr2 => d_call (fn_between_points E) ar_run (takes_of rfl rfl rfl rfl) (hr2.mono (by decide)) (a_cons (dv 22) (a_cons (dv 21) (a_nil)))))) (ss_cons (s_set (i := 11) sc__law_rest1.nd rfl (d_and (d_not (d_call (fn__law_is_less E) ar_run tk (hr.mono (by decide)) (a_cons (d_methA0 (me_key_0 E) tk (hr.mono (by decide)) (dv 21)) (a_cons (d_methA0 (me_key_0 E) tk (hr.mono (by decide)) (d_ixA hr (d_ixN (i := 22) hr rfl (d_int)) (d_int))) (a_nil))))) (d_one (d_not (d_call (fn__law_is_less E) ar_run tk (hr.mono (by decide)) (a_cons (d_methA0 (me_key_0 E) tk (hr.mono (by decide)) (d_ixA hr (d_ixN (i := 22) hr rfl (d_sub (d_b1 (bc_len (by rfl) (E.fr "len" (E.c.fact 50))) lp_len (p_name 22)) (d_int))) (d_int))) (a_cons (d_methA0 (me_key_0 E) tk (hr.mono (by decide)) (dv 21)) (a_nil)))))))) (ss_cons (s_if (t_eq hr (d_eqT (eqsT E) hr (dv 10) (d_str)) (dv 11)) (ss_one (s_ret (d_bl))) (ss_nil)) (ss_cons (s_if (t_val (dv 11)) (ss_cons (s_set (i := 6) sc__law_rest1.nd rfl (d_b1 (bc_minL rfl (by rfl) (E.fr "min" (E.c.fact 56))) lp_minL (p_of (d_ofL (c_lc (own := [("j", 23)]) rfl sc__law_rest1.nd (i_rng2 (by rfl) (E.fr "range" (E.c.fact 12)) (a_cons (d_int) (a_cons (d_b1 (bc_len (by rfl) (E.fr "len" (E.c.fact 50))) lp_len (p_name 22)) (a_nil)))) (blkOk_by (N := N__law_rest1) (sc := (defScope st__law_rest1)) (by decide +kernel)) (fun _ _ _ _ _ => pg_name (i := 23) sc__law_rest1.nd rfl (Or.inl rfl)) (tgr_name (by decide)) (fun _ _ _ _ _ => pts_oneD (t_not (t_val (d_call (fn__law_is_less E) ar_run L2.takes0 (hr.mono (by decide)) (a_cons (d_methA0 (me_key_0 E) L2.takes0 (hr.mono (by decide)) (d_ixA hr (d_ixN (i := 22) hr rfl (dv 23)) (d_int))) (a_cons (d_methA0 (me_key_0 E) L2.takes0 (hr.mono (by decide)) (dv 21)) (a_nil))))))) (fun _ _ _ _ _ => dv 23)))))) (ss_cons (s_asg (d_ixN (i := 22) hr rfl (d_sub (dv 6) (d_int))) (g_tup rfl (gs_cons (g_name (i := 12) sc__law_rest1.nd rfl) (gs_cons (g_name (i := 13) sc__law_rest1.nd rfl) (gs_nil)))) (calm_tup (calms_cons (calm_set) (calms_cons (calm_set) (calms_nil))))) (ss_cons (s_asg (d_ixN (i := 22) hr rfl (dv 6)) (g_tup rfl (gs_cons (g_name (i := 14) sc__law_rest1.nd rfl) (gs_cons (g_name (i := 15) sc__law_rest1.nd rfl) (gs_nil)))) (calm_tup (calms_cons (calm_set) (calms_cons (calm_set) (calms_nil))))) (ss_cons (s_set (i := 16) sc__law_rest1.nd rfl (d_call (fn__law_over E) ar_run tk (hr.mono (by decide)) (a_cons (d_call (fn__law_less E) ar_run tk (hr.mono (by decide)) (a_cons (d_methA0 (me_key_0 E) tk (hr.mono (by decide)) (dv 21)) (a_cons (d_methA0 (me_key_0 E) tk (hr.mono (by decide)) (dv 12)) (a_nil)))) (a_cons (d_call (fn__law_less E) ar_run tk (hr.mono (by decide)) (a_cons (d_methA0 (me_key_0 E) tk (hr.mono (by decide)) (dv 14)) (a_cons (d_methA0 (me_key_0 E) tk (hr.mono (by decide)) (dv 12)) (a_nil)))) (a_nil))))) (ss_one (s_if (t_ne hr (d_methA0 (me_key_0 E) tk (hr.mono (by decide)) (dv 10)) (d_call (fn__law_plus E) ar_run tk (hr.mono (by decide)) (a_cons (d_methA0 (me_key_0 E) tk (hr.mono (by decide)) (dv 13)) (a_cons (d_call (fn__law_times E) ar_run tk (hr.mono (by decide)) (a_cons (dv 16) (a_cons (d_call (fn__law_less E) ar_run tk (hr.mono (by decide)) (a_cons (d_methA0 (me_key_0 E) tk (hr.mono (by decide)) (dv 15)) (a_cons (d_methA0 (me_key_0 E) tk (hr.mono (by decide)) (dv 13)) (a_nil)))) (a_nil)))) (a_nil))))) (ss_one (s_ret (d_bl))) (ss_nil))))))) (ss_nil)) (ss_cons (s_set (i := 17) sc__law_rest1.nd rfl (d_ofL (c_lc (own := [("a", 12), ("p", 13)]) rfl sc__law_rest1.nd (i_seq (dv 22)) (blkOk_by (N := N__law_rest1) (sc := (defScope st__law_rest1)) (by decide +kernel)) (fun _ _ _ _ _ => pg_tup rfl (pgs_cons (pg_name (i := 12) sc__law_rest1.nd rfl (Or.inl rfl)) (pgs_cons (pg_name (i := 13) sc__law_rest1.nd rfl (Or.inl rfl)) (pgs_nil)))) (tgr_tup (tgr_cons (tgr_name (by decide)) (tgr_cons (tgr_name (by decide)) (tgr_nil)))) (fun _ _ _ _ _ => pts_nilD) (fun _ _ _ _ _ => d_call (fn__law_less E) ar_run L2.takes0 (hr.mono (by decide)) (a_cons (d_methA0 (me_key_0 E) L2.takes0 (hr.mono (by decide)) (d_methA (me_plain_1 E) L2.takes0 (hr.mono (by decide)) (dv 1) (a_cons (dv 12) (a_nil)))) (a_cons (d_methA0 (me_key_0 E) L2.takes0 (hr.mono (by decide)) (dv 13)) (a_nil))))))) (ss_cons (s_set (i := 17) sc__law_rest1.nd rfl (d_ofL (c_lc (own := [("top", 24), ("bottom", 25)]) rfl sc__law_rest1.nd (i_seq (dv 17)) (blkOk_by (N := N__law_rest1) (sc := (defScope st__law_rest1)) (by decide +kernel)) (fun _ _ _ _ _ => pg_tup rfl (pgs_cons (pg_name (i := 24) sc__law_rest1.nd rfl (Or.inl rfl)) (pgs_cons (pg_name (i := 25) sc__law_rest1.nd rfl (Or.inl rfl)) (pgs_nil)))) (tgr_tup (tgr_cons (tgr_name (by decide)) (tgr_cons (tgr_name (by decide)) (tgr_nil)))) (fun _ _ _ _ _ => pts_nilD) (fun _ _ _ _ _ => d_tup (a_cons (d_b1 (bc_abs (by rfl) (E.fr "abs" (E.c.fact 0))) lp_abs (p_name 24)) (a_cons (dv 25) (a_nil))))))) (ss_cons (s_set (i := 19) sc__law_rest1.nd rfl (d_ixA hr (d_ofL (c_lc (own := [("k", 6)]) rfl sc__law_rest1.nd (i_rng1 (by rfl) (E.fr "range" (E.c.fact 12)) (a_cons (d_b1 (bc_len (by rfl) (E.fr "len" (E.c.fact 50))) lp_len (p_name 17)) (a_nil))) (blkOk_by (N := N__law_rest1) (sc := (defScope st__law_rest1)) (by decide +kernel)) (fun _ _ _ _ _ => pg_name (i := 6) sc__law_rest1.nd rfl (Or.inr rfl)) (tgr_name (by decide)) (fun _ _ _ _ _ => pts_oneD (t_eq hr (d_ofL (c_lc (own := [("gap", 18)]) rfl sc__law_rest1.nd (i_seq (dv 17)) (blkOk_by (N := N__law_rest1) (sc := ⟨.function, [(".0", .local), ("k", .cell), ("gaps", .cell)], false, false, []⟩) (by decide +kernel)) (fun _ _ _ _ _ => pg_name (i := 18) sc__law_rest1.nd rfl (Or.inl rfl)) (tgr_name (by decide)) (fun _ _ _ _ _ => pts_oneD (t_val (d_call (fn__law_is_less E) ar_run L2.takes0 (hr.mono (by decide)) (a_cons (d_ixN (i := 17) hr rfl (dv 6)) (a_cons (dv 18) (a_nil)))))) (fun _ _ _ _ _ => dv 18))) (d_ofL (c_lst (a_nil))))) (fun _ _ _ _ _ => dv 6))) (d_int))) (ss_cons (s_asg (d_call (fn_worst_gap E) ar_run tk (hr.mono (by decide)) (a_cons (dv 22) (a_cons (dv 1) (a_nil)))) (g_tup rfl (gs_cons (g_name (i := 18) sc__law_rest1.nd rfl) (gs_cons (g_name (i := 20) sc__law_rest1.nd rfl) (gs_nil)))) (calm_tup (calms_cons (calm_set) (calms_cons (calm_set) (calms_nil))))) (ss_cons (s_if (t_w (w_or (t_ne hr (d_methA0 (me_key_0 E) tk (hr.mono (by decide)) (dv 18)) (d_ixN (i := 17) hr rfl (dv 19))) (w_or1 (t_ne hr (d_methA0 (me_key_0 E) tk (hr.mono (by decide)) (dv 20)) (d_methA0 (me_key_0 E) tk (hr.mono (by decide)) (d_ixA hr (d_ixN (i := 22) hr rfl (dv 19)) (d_int))))))) (ss_one (s_ret (d_bl))) (ss_nil)) (ss_cons (s_if (t_ne hr (d_told (k := 10) (told_law E) lam (hr.mono (by decide)) (lamS_by (sc := defScope st__law_rest1) (by decide +kernel)) (fun A outer s H E2 f c' hr2 => d_make 10 (mkd_Scale E) ar_run1 (takes_of rfl rfl rfl rfl) (hr2.mono (by decide)) (a_cons (d_make 9 (mkd_Share E) ar_run1 (takes_of rfl rfl rfl rfl) (hr2.mono (by decide)) (a_cons (d_int) (a_cons (d_int) (a_nil)))) (a_cons (dv 2) (a_nil))))) (d_str)) (ss_one (s_ret (d_bl))) (ss_nil)) (ss_cons (s_if (t_ne hr (d_told (k := 10) (told_law E) lam (hr.mono (by decide)) (lamS_by (sc := defScope st__law_rest1) (by decide +kernel)) (fun A outer s H E2 f c' hr2 => d_methA (me_told_3 E) (takes_of rfl rfl rfl rfl) (hr2.mono (by decide)) (dv 4) (a_cons (dv 2) (a_cons (d_str) (a_cons (d_str) (a_nil)))))) (d_str)) (ss_one (s_ret (d_bl))) (ss_nil)) (ss_cons (s_if (t_ne hr (d_told (k := 10) (told_law E) lam (hr.mono (by decide)) (lamS_by (sc := defScope st__law_rest1) (by decide +kernel)) (fun A outer s H E2 f c' hr2 => d_call (fn_from_points E) ar_run (takes_of rfl rfl rfl rfl) (hr2.mono (by decide)) (a_cons (d_tup (a_cons (dv 2) (a_cons (dv 2) (a_nil)))) (a_cons (d_tup (a_cons (dv 2) (a_cons (dv 3) (a_nil)))) (a_nil))))) (d_str)) (ss_one (s_ret (d_bl))) (ss_nil)) (ss_cons (s_if (t_not (t_val (d_call (fn__law_wrong_points E) ar_run tk (hr.mono (by decide)) (a_cons (dv 22) (a_cons (dv 4) (a_cons (dv 2) (a_cons (dv 5) (a_cons (dv 1) (a_nil))))))))) (ss_one (s_ret (d_bl))) (ss_nil)) (ss_one (s_ret (d_bl)))))))))))))))))))))
/-! _law_rest2 -/
abbrev st__law_rest2 : Stmt := top 36
abbrev N__law_rest2 : List Str := ["dice", "one", "other", "mark", "flat", "turn", "there", "alike", "far", "step", "last", "rows", "here", "due", "k", "up", "some", "a", "b"]
theorem sc__law_rest2 : FnScope N__law_rest2 ["dice", "one", "other", "mark", "flat"] (defScope st__law_rest2) := ⟨rfl, rfl, rfl, by decide +kernel, rfl, by decide +kernel, by decide +kernel⟩
theorem me_gap_3 (E : Hd P w K mg base) : MeAll P w K mg base (gx K) "gap" 6 ma_gap_3 := .cons (mth_Scales_gap E) ar_run (by decide) (.nil)
theorem me_rises_2 (E : Hd P w K mg base) : MeAll P w K mg base (gx K) "rises" 7 ma_rises_2 := .cons (mth_Scales_rises E) ar_run (by decide) (.nil)
theorem me_meet_2 (E : Hd P w K mg base) : MeAll P w K mg base (gx K) "meet" 8 ma_meet_2 := .cons (mth_Scales_meet E) ar_run (by decide) (.nil)
theorem fn__law_rest2 (E : Hd P w K mg base) : FnD P w K mg base "_law_rest2" 16 5 (sp1 K (gx K) 5 f__law_rest2) := by
  obtain ⟨fd, F⟩ := E.c.def_ 42
  refine ⟨_, fd, _, fnD_ok1 (m := m__law_rest2) (k := 15) (N := N__law_rest2) F sc__law_rest2 fun A outer s H E2 hr => ?_, (E.gl "_law_rest2" (E.c.fact 58)), F.kp, (F.bindsN (ps := ["dice", "one", "other", "mark", "flat"]) fun _ _ _ _ _ _ us hl => match us, hl with | [_, _, _, _, _], _ => rfl)⟩
  have tk : Takes (cxOf (L2.CX P w) P w K mg base N__law_rest2 "_law_rest2" (defScope st__law_rest2) (He.fAd K ("_law_rest2", none)) fd.code A outer s H E2) (WF E2) := takes_of rfl rfl rfl rfl
  have lam : LamD (cxOf (L2.CX P w) P w K mg base N__law_rest2 "_law_rest2" (defScope st__law_rest2) (He.fAd K ("_law_rest2", none)) fd.code A outer s H E2) (gx K) := lamD E (p := ("_law_rest2", none)) F (by decide) rfl rfl rfl "_law_rest2.<locals>.<lambda>" (by rfl) (by decide) (by decide)
  exact ss_cons (s_set (i := 5) sc__law_rest2.nd rfl (d_call (fn_between E) ar_run tk (hr.mono (by decide)) (a_cons (dv 1) (a_cons (dv 2) (a_nil))))) (ss_cons (s_set (i := 6) sc__law_rest2.nd rfl (d_call (fn__law_over E) ar_run tk (hr.mono (by decide)) (a_cons (d_call (fn__law_less E) ar_run tk (hr.mono (by decide)) (a_cons (dv 4) (a_cons (d_methA0 (me_key_0 E) tk (hr.mono (by decide)) (d_fld (fld_start E) (dv 2))) (a_nil)))) (a_cons (d_methA0 (me_key_0 E) tk (hr.mono (by decide)) (d_fld (fld_factor E) (dv 2))) (a_nil))))) (ss_cons (s_if (t_ne hr (d_methA0 (me_key_0 E) tk (hr.mono (by decide)) (d_methA (me_plain_1 E) tk (hr.mono (by decide)) (dv 5) (a_cons (dv 3) (a_nil)))) (dv 6)) (ss_one (s_ret (d_bl))) (ss_nil)) (ss_cons (s_set (i := 7) sc__law_rest2.nd rfl (d_told (k := 13) (told_law E) lam (hr.mono (by decide)) (lamS_by (sc := defScope st__law_rest2) (by decide +kernel)) (fun A outer s H E2 f c' hr2 => d_call (fn_agree_at E) ar_run (takes_of rfl rfl rfl rfl) (hr2.mono (by decide)) (a_cons (dv 1) (a_cons (dv 2) (a_nil)))))) (ss_cons (s_if (t_ne hr (d_eqT (eqsT E) hr (dv 7) (d_str)) (d_eq hr (d_methA0 (me_key_0 E) tk (hr.mono (by decide)) (d_fld (fld_factor E) (dv 1))) (d_methA0 (me_key_0 E) tk (hr.mono (by decide)) (d_fld (fld_factor E) (dv 2))))) (ss_one (s_ret (d_bl))) (ss_nil)) (ss_cons (s_if (t_w (w_and (t_neT (eqsT E) hr (dv 7) (d_str)) (w_and1 (t_ne hr (d_methA0 (me_key_0 E) tk (hr.mono (by decide)) (d_methA (me_plain_1 E) tk (hr.mono (by decide)) (dv 1) (a_cons (dv 7) (a_nil)))) (d_methA0 (me_key_0 E) tk (hr.mono (by decide)) (d_methA (me_plain_1 E) tk (hr.mono (by decide)) (dv 2) (a_cons (dv 7) (a_nil)))))))) (ss_one (s_ret (d_bl))) (ss_nil)) (ss_cons (s_set (i := 8) sc__law_rest2.nd rfl (d_methA (me_plus_1 E) tk (hr.mono (by decide)) (dv 3) (a_cons (d_make 9 (mkd_Share E) ar_run1 tk (hr.mono (by decide)) (a_cons (d_add (d_int) (d_call1 (i := 0) (fn__law_roll E) ar_run1 tk (hr.mono (by decide)) rfl (a_cons (d_int) (a_nil)))) (a_cons (d_int) (a_nil)))) (a_nil)))) (ss_cons (s_if (t_ne hr (d_methA0 (me_key_0 E) tk (hr.mono (by decide)) (d_call (fn_from_points E) ar_run tk (hr.mono (by decide)) (a_cons (d_tup (a_cons (dv 3) (a_cons (d_methA (me_plain_1 E) tk (hr.mono (by decide)) (dv 1) (a_cons (dv 3) (a_nil))) (a_nil)))) (a_cons (d_tup (a_cons (dv 8) (a_cons (d_methA (me_plain_1 E) tk (hr.mono (by decide)) (dv 1) (a_cons (dv 8) (a_nil))) (a_nil)))) (a_nil))))) (d_methA0 (me_key_0 E) tk (hr.mono (by decide)) (dv 1))) (ss_one (s_ret (d_bl))) (ss_nil)) (ss_cons (s_set (i := 16) sc__law_rest2.nd rfl (d_make 11 (mkd_Scales E) ar_run1 tk (hr.mono (by decide)) (a_cons (d_disp (dp_cons (d_str) (dv 1) (dp_cons (d_str) (dv 2) (dp_cons (d_str) (d_make 10 (mkd_Scale E) ar_run1 tk (hr.mono (by decide)) (a_cons (d_make 9 (mkd_Share E) ar_run1 tk (hr.mono (by decide)) (a_cons (d_int) (a_cons (d_int) (a_nil)))) (a_cons (d_make 9 (mkd_Share E) ar_run1 tk (hr.mono (by decide)) (a_cons (d_int) (a_cons (d_int) (a_nil)))) (a_nil)))) (dp_nil))))) (a_nil)))) (ss_cons (s_if (t_w (w_or (t_ne hr (d_methA0 (me_key_0 E) tk (hr.mono (by decide)) (d_methA (me_told_3 E) tk (hr.mono (by decide)) (dv 16) (a_cons (dv 3) (a_cons (d_str) (a_cons (d_str) (a_nil)))))) (dv 6)) (w_or1 (t_ne hr (d_methA0 (me_key_0 E) tk (hr.mono (by decide)) (d_methA (me_told_3 E) tk (hr.mono (by decide)) (dv 16) (a_cons (dv 3) (a_cons (d_str) (a_cons (d_str) (a_nil)))))) (dv 4))))) (ss_one (s_ret (d_bl))) (ss_nil)) (ss_cons (s_if (t_ne hr (d_methA0 (me_key_0 E) tk (hr.mono (by decide)) (d_methA (me_gap_3 E) tk (hr.mono (by decide)) (dv 16) (a_cons (dv 3) (a_cons (d_str) (a_cons (d_str) (a_nil)))))) (d_call (fn__law_over E) ar_run tk (hr.mono (by decide)) (a_cons (d_call (fn__law_times E) ar_run tk (hr.mono (by decide)) (a_cons (d_methA0 (me_key_0 E) tk (hr.mono (by decide)) (dv 3)) (a_cons (d_methA0 (me_key_0 E) tk (hr.mono (by decide)) (d_fld (fld_factor E) (dv 1))) (a_nil)))) (a_cons (d_methA0 (me_key_0 E) tk (hr.mono (by decide)) (d_fld (fld_factor E) (dv 2))) (a_nil))))) (ss_one (s_ret (d_bl))) (ss_nil)) (ss_cons (s_par (i := 9) (j := 10) rfl sc__law_rest2.nd rfl rfl (by decide) rfl rfl (a_cons (d_make 9 (mkd_Share E) ar_run1 tk (hr.mono (by decide)) (a_cons (d_add (d_int) (d_call1 (i := 0) (fn__law_roll E) ar_run1 tk (hr.mono (by decide)) rfl (a_cons (d_int) (a_nil)))) (a_cons (d_int) (a_nil)))) (a_cons (d_methA (me_plus_1 E) tk (hr.mono (by decide)) (dv 3) (a_cons (d_make 9 (mkd_Share E) ar_run1 tk (hr.mono (by decide)) (a_cons (d_call1 (i := 0) (fn__law_roll E) ar_run1 tk (hr.mono (by decide)) rfl (a_cons (d_int) (a_nil))) (a_cons (d_int) (a_nil)))) (a_nil))) (a_nil))) (by rfl)) (ss_cons (s_set (i := 11) sc__law_rest2.nd rfl (d_methA (me_table_5 E) tk (hr.mono (by decide)) (dv 16) (a_cons (d_str) (a_cons (d_str) (a_cons (dv 3) (a_cons (dv 10) (a_cons (dv 9) (a_nil)))))))) (ss_cons (s_parDO (i := 12) (j := 13) rfl sc__law_rest2.nd rfl rfl (by decide) rfl rfl (d_methA0 (me_key_0 E) tk (hr.mono (by decide)) (dv 3)) (c_lst (a_nil)) (by rfl)) (ss_cons (s_for (passes_of rfl) rfl (i_rng1 (by rfl) (E.fr "range" (E.c.fact 12)) (a_cons (d_int) (a_nil))) (g_name (i := 14) sc__law_rest2.nd rfl) (calm_set) (ss_cons (s_if (t_not (t_val (d_call (fn__law_is_less E) ar_run tk (hr.mono (by decide)) (a_cons (d_methA0 (me_key_0 E) tk (hr.mono (by decide)) (dv 10)) (a_cons (dv 12) (a_nil)))))) (ss_one (s_app (i := 13) rfl (d_tup (a_cons (dv 12) (a_cons (d_methA0 (me_key_0 E) tk (hr.mono (by decide)) (d_methA (me_told_3 E) tk (hr.mono (by decide)) (dv 16) (a_cons (d_make 9 (mkd_Share E) ar_run1 tk (hr.mono (by decide)) (a_cons (d_ixN (i := 12) hr rfl (d_int)) (a_cons (d_ixN (i := 12) hr rfl (d_int)) (a_nil)))) (a_cons (d_str) (a_cons (d_str) (a_nil)))))) (a_nil)))))) (ss_nil)) (ss_one (s_set (i := 12) sc__law_rest2.nd rfl (d_call (fn__law_plus E) ar_run tk (hr.mono (by decide)) (a_cons (dv 12) (a_cons (d_methA0 (me_key_0 E) tk (hr.mono (by decide)) (dv 9)) (a_nil)))))))) (ss_cons (s_if (t_ne hr (d_ofL (c_lc (own := [("a", 17), ("b", 18)]) rfl sc__law_rest2.nd (i_seq (dv 11)) (blkOk_by (N := N__law_rest2) (sc := (defScope st__law_rest2)) (by decide +kernel)) (fun _ _ _ _ _ => pg_tup rfl (pgs_cons (pg_name (i := 17) sc__law_rest2.nd rfl (Or.inl rfl)) (pgs_cons (pg_name (i := 18) sc__law_rest2.nd rfl (Or.inl rfl)) (pgs_nil)))) (tgr_tup (tgr_cons (tgr_name (by decide)) (tgr_cons (tgr_name (by decide)) (tgr_nil)))) (fun _ _ _ _ _ => pts_nilD) (fun _ _ _ _ _ => d_tup (a_cons (d_methA0 (me_key_0 E) L2.takes0 (hr.mono (by decide)) (dv 17)) (a_cons (d_methA0 (me_key_0 E) L2.takes0 (hr.mono (by decide)) (dv 18)) (a_nil)))))) (dv 13)) (ss_one (s_ret (d_bl))) (ss_nil)) (ss_cons (s_set (i := 15) sc__law_rest2.nd rfl (d_gt (d_mul (d_fld (fld_top E) (d_fld (fld_factor E) (dv 1))) (d_fld (fld_top E) (d_fld (fld_factor E) (dv 2)))) (d_int))) (ss_cons (s_if (t_ne hr (d_methA (me_rises_2 E) tk (hr.mono (by decide)) (dv 16) (a_cons (d_str) (a_cons (d_str) (a_nil)))) (dv 15)) (ss_one (s_ret (d_bl))) (ss_nil)) (ss_cons (s_if (t_ne hr (d_told (k := 13) (told_law E) lam (hr.mono (by decide)) (lamS_by (sc := defScope st__law_rest2) (by decide +kernel)) (fun A outer s H E2 f c' hr2 => d_methA0 (me_key_0 E) (takes_of rfl rfl rfl rfl) (hr2.mono (by decide)) (d_methA (me_meet_2 E) (takes_of rfl rfl rfl rfl) (hr2.mono (by decide)) (dv 16) (a_cons (d_str) (a_cons (d_str) (a_nil)))))) (d_ifExp (t_eqT (eqsT E) hr (dv 7) (d_str)) (dv 7) (d_methA0 (me_key_0 E) tk (hr.mono (by decide)) (dv 7)))) (ss_one (s_ret (d_bl))) (ss_nil)) (ss_cons (s_if (t_not (t_val (d_call1 (i := 0) (fn__law_rest1 E) ar_run1 tk (hr.mono (by decide)) rfl (a_cons (dv 1) (a_cons (dv 3) (a_cons (dv 8) (a_cons (dv 16) (a_cons (dv 10) (a_cons (dv 14) (a_nil)))))))))) (ss_one (s_ret (d_bl))) (ss_nil)) (ss_one (s_ret (d_bl))))))))))))))))))))))
/-! law -/
abbrev st_law : Stmt := top 38
abbrev N_law : List Str := ["script", "dice", "one", "other", "mark", "flat", "both"]
theorem sc_law : FnScope N_law ["script"] (defScope st_law) := ⟨rfl, rfl, rfl, by decide +kernel, rfl, by decide +kernel, by decide +kernel⟩
theorem law_ok (hL : LawHolds m__law_rounds m_law 7 1) (cc : He.SaysD fa fn K) : ∃ fd : FuncData, (∀ (s : Shared) (u : Value), BindsTo s fd ⟨[u], []⟩ [("script", u)]) ∧ ∀ base : Heap, Hd P w K mg base → FnOk P w K mg base (L2.CX P w) 17 (He.ga K "law") fd ["script"] (spLaw K (gx K)) := by
  obtain ⟨fd, F⟩ := cc.def_ 43
  refine ⟨fd, fun s u => FunD.bindsA (ps := ["script"]) F (fun _ _ _ _ _ _ us hl => match us, hl with | [_], _ => rfl) s [u] rfl, fun base E => fn_law (mr := m__law_rounds) (b := m_law) (i := 1) (k := 16) (N := N_law) F sc_law (by decide) (fun A outer s H E2 hr => ?_) hL⟩
  have tk : Takes (cxOf (L2.CX P w) P w K mg base N_law "law" (defScope st_law) (He.fAd K ("law", none)) fd.code A outer s H E2) (WF E2) := takes_of rfl rfl rfl rfl
  exact pss_cons (s_law (i := 1) (fn__law_rounds E) tk (hr.mono (by decide)) (passes_of rfl) rfl sc_law.nd rfl rfl (ss_cons (s_par (i := 2) (j := 3) rfl sc_law.nd rfl rfl (by decide) rfl rfl (a_cons (d_call1 (i := 1) (fn__law_scale E) ar_run1 tk (hr.mono (by decide)) rfl (a_nil)) (a_cons (d_call1 (i := 1) (fn__law_scale E) ar_run1 tk (hr.mono (by decide)) rfl (a_nil)) (a_nil))) (by rfl)) (ss_cons (s_set (i := 4) sc_law.nd rfl (d_call1 (i := 1) (fn__law_share E) ar_run1 tk (hr.mono (by decide)) rfl (a_cons (d_sub (d_int) (d_int)) (a_cons (d_int) (a_cons (d_int) (a_nil)))))) (ss_cons (s_set (i := 5) sc_law.nd rfl (d_call (fn__law_plus E) ar_run tk (hr.mono (by decide)) (a_cons (d_call (fn__law_times E) ar_run tk (hr.mono (by decide)) (a_cons (d_methA0 (me_key_0 E) tk (hr.mono (by decide)) (dv 4)) (a_cons (d_methA0 (me_key_0 E) tk (hr.mono (by decide)) (d_fld (fld_factor E) (dv 2))) (a_nil)))) (a_cons (d_methA0 (me_key_0 E) tk (hr.mono (by decide)) (d_fld (fld_start E) (dv 2))) (a_nil))))) (ss_cons (s_if (t_w (w_or (t_ne hr (d_methA0 (me_key_0 E) tk (hr.mono (by decide)) (d_methA (me_plain_1 E) tk (hr.mono (by decide)) (dv 2) (a_cons (dv 4) (a_nil)))) (dv 5)) (w_or1 (t_ne hr (d_methA0 (me_key_0 E) tk (hr.mono (by decide)) (d_methA (me_mark_1 E) tk (hr.mono (by decide)) (dv 2) (a_cons (d_methA (me_plain_1 E) tk (hr.mono (by decide)) (dv 2) (a_cons (dv 4) (a_nil))) (a_nil)))) (d_methA0 (me_key_0 E) tk (hr.mono (by decide)) (dv 4)))))) (ss_one (s_ret (d_bl))) (ss_nil)) (ss_cons (s_if (t_ne hr (d_methA0 (me_key_0 E) tk (hr.mono (by decide)) (d_methA (me_step_1 E) tk (hr.mono (by decide)) (dv 2) (a_cons (dv 4) (a_nil)))) (d_call (fn__law_times E) ar_run tk (hr.mono (by decide)) (a_cons (d_methA0 (me_key_0 E) tk (hr.mono (by decide)) (dv 4)) (a_cons (d_methA0 (me_key_0 E) tk (hr.mono (by decide)) (d_fld (fld_factor E) (dv 2))) (a_nil))))) (ss_one (s_ret (d_bl))) (ss_nil)) (ss_cons (s_set (i := 6) sc_law.nd rfl (d_methA (me_told_by_1 E) tk (hr.mono (by decide)) (dv 2) (a_cons (dv 3) (a_nil)))) (ss_cons (s_if (t_ne hr (d_methA0 (me_key_0 E) tk (hr.mono (by decide)) (d_methA (me_plain_1 E) tk (hr.mono (by decide)) (dv 6) (a_cons (dv 4) (a_nil)))) (d_methA0 (me_key_0 E) tk (hr.mono (by decide)) (d_methA (me_plain_1 E) tk (hr.mono (by decide)) (dv 3) (a_cons (d_methA (me_plain_1 E) tk (hr.mono (by decide)) (dv 2) (a_cons (dv 4) (a_nil))) (a_nil))))) (ss_one (s_ret (d_bl))) (ss_nil)) (ss_cons (s_if (t_ne hr (d_methA0 (me_key_0 E) tk (hr.mono (by decide)) (d_methA (me_plain_1 E) tk (hr.mono (by decide)) (d_methA0 (me_turned_0 E) tk (hr.mono (by decide)) (dv 2)) (a_cons (dv 4) (a_nil)))) (d_methA0 (me_key_0 E) tk (hr.mono (by decide)) (d_methA (me_mark_1 E) tk (hr.mono (by decide)) (dv 2) (a_cons (dv 4) (a_nil))))) (ss_one (s_ret (d_bl))) (ss_nil)) (ss_cons (s_if (t_ne hr (d_methA0 (me_key_0 E) tk (hr.mono (by decide)) (d_methA0 (me_turned_0 E) tk (hr.mono (by decide)) (d_methA0 (me_turned_0 E) tk (hr.mono (by decide)) (dv 2)))) (d_methA0 (me_key_0 E) tk (hr.mono (by decide)) (dv 2))) (ss_one (s_ret (d_bl))) (ss_nil)) (ss_one (s_if (t_not (t_val (d_call1 (i := 1) (fn__law_rest2 E) ar_run1 tk (hr.mono (by decide)) rfl (a_cons (dv 2) (a_cons (dv 3) (a_cons (dv 4) (a_cons (dv 5) (a_nil)))))))) (ss_one (s_ret (d_bl))) (ss_nil))))))))))))) (pss_one (ps_ret pe_bl))
end
def lo_0 : List Str := ["_wall", "__name__", "UnitFault", "BadName", "BadNumber", "BadKind", "BadRule", "NoSuch", "NoWay", "TooLarge", "BadText", "shared_part", "Share", "Scale", "between", "agree_at", "from_points", "Scales", "between_points", "worst_gap", "_law_dice", "_law_roll", "_law_rounds", "_law_told", "_law_low", "_law_plus", "_law_less", "_law_times", "_law_over", "_law_is_less"]
def lo_1 : List Str := ["_law_share", "_law_scale", "_law_wrong_points", "_law_rest2", "_law_rest1"]
abbrev R0 : PySem.W.OpenRow := PySem.W.OpenLaw.row PySem.Challenge.rw_unithall_k05_scales
abbrev hk : PySem.W.Hook := hookT 5 fa fn lm
def ob (s : PySem.W.SharedT) : AlT := obsT 5 fa fn lm (HandSHeadRun.getT s)
theorem ob_eq (s : PySem.W.SharedT) : ob s = hk.obs s.abs := obsT_eq (HandSHeadRun.getT_eq s)
theorem run (w : World) : HandSHeadRun.RunEq R0 (PySem.W.view R0.prog [38]) hk ob 9000 (lo_0 ++ lo_1) w := by
  intro os
  kernel_rfl
theorem done (hL : LawHolds m__law_rounds m_law 7 1) {w : World} {mg : Str → Option Value} {fa0 : Addr} {h : Heap} {K : PySem.W.Frag} (X : K.In h) (c : SaysT fa fn lm K h) (G : h.Ns mainGlobals mg) (hm : mg "law" = some (.ref fa0)) :
    ∃ fd : FuncData, (∀ (s : Shared) (u : Value), BindsTo s fd ⟨[u], []⟩ [("script", u)]) ∧ ∀ base : Heap, K.In base → base.Ns mainGlobals mg → (∀ p ∈ lm, TabB base mg (codeA K p) (tabA K p)) → FnOk (PySem.Challenge.rw_unithall_k05_scales).prog w K mg base (L2.CX (PySem.Challenge.rw_unithall_k05_scales).prog w) 17 fa0 fd ["script"] (spLaw K (gx K)) := by
  obtain ⟨fd, hb, hF⟩ := law_ok (P := (PySem.Challenge.rw_unithall_k05_scales).prog) (w := w) (mg := mg) hL c.1
  have e := hm.symm.trans (He.glo_ok X G (c.1.fact 59 (f := .glo "law") rfl))
  cases e
  exact ⟨fd, hb, fun base kb nb tb => hF base ⟨c.1, c.2.2.2, fun x e => He.glo_ok X G e, fun x e => He.free_ok X G e, kb, fun p hp => (c.2.1 p hp).1, nodup_inj c.2.2.1, tb⟩⟩
end LW
open PySem PySem.W PySem.Calls PyProof.Rows
theorem LW.fin (hL : DL.LawHolds LW.m__law_rounds LW.m_law 7 1) : PySem.Challenge.rw_unithall_k05_scales.Holds := by
  w_on; o_law
  refine HandSHeadRun.head_any (r := OpenLaw.row PySem.Challenge.rw_unithall_k05_scales) (q := view (OpenLaw.row PySem.Challenge.rw_unithall_k05_scales).prog [38]) (H := LW.hk) (ob := LW.ob) (M := 9000) (loose := LW.lo_0 ++ LW.lo_1) (d := HandSHeadRun.topDef (OpenLaw.row PySem.Challenge.rw_unithall_k05_scales).prog 38) (kwd := []) LW.ob_eq
    (by kernel_rfl) (fun s => by kernel_rfl) LW.run (by kernel_rfl) (by kernel_rfl) (by kernel_rfl) (by rfl) (by first | assumption | decide +kernel) (by decide +kernel) ⟨rfl, rfl, rfl, rfl, rfl, by decide +kernel⟩ ?hw ?hc
  case hw => w_witness2
  case hc =>
    refine DL.walk_law (l := PySem.Challenge.rw_unithall_k05_scales) (k := 17) (x := "script") (gx := LW.gx) rfl (by kernel_rfl) ⟨rfl, by decide, by decide⟩ (fun K p hp => ?_) ?F
    · obtain ⟨q, hq, rfl⟩ := List.mem_map.mp hp
      exact ⟨q.1, List.mem_map.mpr ⟨q, hq, rfl⟩, rfl⟩
    · intro w mg fa0 h K KX c G hm0
      have hm : mg ("law" : PySem.Str) = some (.ref fa0) := by
        have e : (HandSHeadRun.topDef (OpenLaw.row PySem.Challenge.rw_unithall_k05_scales).prog 38).name = ("law" : PySem.Str) := by kernel_rfl
        rw [← e]; exact hm0
      exact LW.done hL KX c G hm
set_option maxRecDepth 100000 in
set_option maxHeartbeats 8000000 in
theorem PySem.Challenge.cw_unithall_k05_scales_holds : PySem.Challenge.rw_unithall_k05_scales.Holds := by
  exact LW.fin (LW.law_of LW.law_math)
