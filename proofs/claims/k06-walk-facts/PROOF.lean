import PyProof.Rows.All
import Wide.All
import OpenK.AllK
import Wide.FinOn
import HandS.ForMost
import HandS.ForExc
import HandS.CallSlots
import HandS.TupAny
import HandS.Wide
import HandS.SortInts
import HandS.Deep
import HandS.SortRule
import KE.KTupSum
import HandS.Flow
import HandS.Small
import HandS.Comp
import HandS.Defaults
import HandS.IsInst
import KE.GoesEnum
import HandS.Head0
import HandS.Head1
import HandS.Head2
import HandS.HeadEnd
import HandS.HeadHook1
import HandS.HeadHook2
import HandS.Ends
import HandS.DictComp
import HandS.AnyAll
import PyProof.GenCompD
import HandS.Nested
import HandS.HeadHook3
import HandS.HeadHook4
import HandS.HeadWalk
import PySem.Challenge.RW_anydoornext_k06_walk_facts
set_option Elab.async false
set_option linter.all false
set_option maxRecDepth 100000
namespace Z
open PySem PySem.Spec L2

/-! ### pure value trees -/
inductive D where
  | non | bl (b : Bool) | int (i : Int) | str (s : Str)
  | tup (ds : List D)
  | lst (m : Bool) (ds : List D)
  | dic (m : Bool) (ks : List Key) (ds : List D)
  | dit (m : Bool) (ks : List (List Key)) (ds : List D)
  | set (m : Bool) (ks : List Int)
  /-- the script, that none may change -/
  | scr (ns : List Int)
  deriving Inhabited

mutual
def imm : D → Bool
  | .tup ds => imms ds
  | .lst m ds => !m && imms ds
  | .dic m _ ds => !m && imms ds
  | .dit m _ ds => !m && imms ds
  | .set m _ => !m
  | _ => true
def imms : List D → Bool
  | [] => true
  | d :: ds => imm d && imms ds
end
mutual
def fz : D → D
  | .tup ds => .tup (fzs ds)
  | .lst _ ds => .lst false (fzs ds)
  | .dic _ ks ds => .dic false ks (fzs ds)
  | .dit _ ks ds => .dit false ks (fzs ds)
  | .set _ ks => .set false ks
  | d => d
def fzs : List D → List D
  | [] => []
  | d :: ds => fz d :: fzs ds
end

abbrev Own := Addr → Prop
def Sep (P P1 P2 : Own) : Prop := (∀ a, P1 a → P a) ∧ (∀ a, P2 a → P a) ∧ ∀ a, P1 a → ¬ P2 a

/-- at a stands u: owned (m), or locked for good -/
def Hold (H : Hp) (m : Bool) (a : Addr) (u : HO) (P Q : Own) : Prop :=
  match m with
  | true => H a = some u ∧ P a ∧ ∀ b, Q b → P b ∧ b ≠ a
  | false => (∃ o, H a = some (.frz o u)) ∧ ∀ b, Q b → P b

/-- the script at a -/
def Scr (K : PySem.W.Frag) (H : Hp) (a : Addr) (ns : List Int) : Prop := (∃ o, H a = some (.frz o (.lst (ns.map V.int)))) ∨
  ∃ (o : Obj) (its : Array Value) (n : Nat), K.lookup a = some o ∧ o.cls = .type "list" ∧ o.dict = none ∧ o.data = .seq its n ∧ its.size ≤ sizeLine ∧ Vals (ns.map V.int) its.toList
theorem Scr.sq {K : PySem.W.Frag} {H : Hp} {a : Addr} {ns : List Int} (h : Scr K H a ns) : SqL K H a (ns.map V.int) := h.imp (fun z => .inr z) id

mutual
def Rel (K : PySem.W.Frag) (H : Hp) : D → V → Own → Prop
  | .non, v, _ => v = .non
  | .bl b, v, _ => v = .bl b
  | .int i, v, _ => v = .int i
  | .str x, v, _ => v = .str x
  | .tup ds, v, P => ∃ a vs, v = .ref a ∧ SqT K H a vs ∧ Rels K H ds vs P
  | .lst m ds, v, P => ∃ a vs Q, v = .ref a ∧ Hold H m a (.lst vs) P Q ∧ Rels K H ds vs Q
  | .dic m ks ds, v, P => ∃ a kvs Q, v = .ref a ∧ Hold H m a (.dK kvs) P Q ∧ (kvs.map (·.1) = ks ∧ ks.Nodup) ∧ Rels K H ds (kvs.map (·.2)) Q
  | .dit m ks ds, v, P => ∃ a kvs Q, v = .ref a ∧ Hold H m a (.dT kvs) P Q ∧ (kvs.map (·.1) = ks ∧ ks.Nodup) ∧ Rels K H ds (kvs.map (·.2)) Q
  | .set m ks, v, P => ∃ a S Q, v = .ref a ∧ Hold H m a (.set S ks.length) P Q ∧ ks.Nodup ∧ ∀ i, S i = decide (i ∈ ks)
  | .scr ns, v, _ => ∃ a, v = .ref a ∧ Scr K H a ns
def Rels (K : PySem.W.Frag) (H : Hp) : List D → List V → Own → Prop
  | [], vs, _ => vs = []
  | d :: ds, vs, P => ∃ v vs' P1 P2, vs = v :: vs' ∧ Sep P P1 P2 ∧ Rel K H d v P1 ∧ Rels K H ds vs' P2
end

/-- a def's table of code that was made by it -/
def TabG' (H : Hp) (p : Addr) : Prop := ∃ ps : Array Value, H p = some (.tbl ps) ∧ TriplesOk ps.toList
/-- the program's defs that make code as they run: where their tables stand -/
class TabList where
  tabs : List Addr
/-- what may change: mutable things at O, tables of code; all else stands -/
structure Ev (O : Own) (H H' : Hp) : Prop where
  keep : ∀ a o, H a = some o → (∀ ps, o ≠ .tbl ps) → (O a → ¬ Mut (some o)) → H' a = some o
  dom : ∀ a, H a ≠ none → H' a ≠ none
  tbl : ∀ p, TabG' H p → TabG' H' p
abbrev No : Own := fun _ => False
def New (P : Own) (H : Hp) (P' : Own) : Prop := ∀ a, P' a → P a ∨ H a = none

theorem Ev.refl {O : Own} {H : Hp} : Ev O H H := ⟨fun _ _ e _ _ => e, fun _ e => e, fun _ h => h⟩
theorem Ev.trans {O O1 : Own} {H H1 H2 : Hp} (a : Ev O H H1) (b : Ev O1 H1 H2) (h : New O H O1) : Ev O H H2 :=
  ⟨fun x o e t m => b.keep x o (a.keep x o e t m) t (fun z => (h x z).elim m (fun n => absurd n (by rw [e]; exact fun z => nomatch z))), fun x e => b.dom x (a.dom x e), fun p h => b.tbl p (a.tbl p h)⟩
theorem Ev.mono {O O1 : Own} {H H1 : Hp} (a : Ev O H H1) (h : ∀ x, O x → O1 x) : Ev O1 H H1 := ⟨fun x o e t m => a.keep x o e t fun z => m (h x z), a.dom, a.tbl⟩
theorem Ev.of_no {O : Own} {H H1 : Hp} (a : Ev No H H1) : Ev O H H1 := a.mono fun _ z => z.elim
theorem New.refl {P : Own} {H : Hp} : New P H P := fun _ h => .inl h
theorem New.trans {P P1 P2 : Own} {O : Own} {H H1 : Hp} (a : New P H P1) (e : Ev O H H1) (b : New P1 H1 P2) : New P H P2 := fun x h => by
  rcases b x h with h | h
  · exact a x h
  · right
    cases q : H x with
    | none => rfl
    | some o => exact absurd h (e.dom x (by rw [q]; exact fun z => nomatch z))
theorem New.sub {P P1 P2 : Own} {H : Hp} (a : New P H P1) (h : ∀ x, P2 x → P1 x) : New P H P2 := fun x z => a x (h x z)
theorem Sep.symm {P P1 P2 : Own} (s : Sep P P1 P2) : Sep P P2 P1 := ⟨s.2.1, s.1, fun a h2 h1 => s.2.2 a h1 h2⟩
theorem Sep.nl {P : Own} : Sep P No P := ⟨fun _ z => z.elim, fun _ z => z, fun _ z => z.elim⟩
theorem Sep.nr {P : Own} : Sep P P No := ⟨fun _ z => z, fun _ z => z.elim, fun _ _ z => z.elim⟩
theorem Sep.mono {P P' P1 P2 Q1 Q2 : Own} (s : Sep P P1 P2) (h : ∀ a, P a → P' a) (h1 : ∀ a, Q1 a → P1 a) (h2 : ∀ a, Q2 a → P2 a) : Sep P' Q1 Q2 :=
  ⟨fun a z => h a (s.1 a (h1 a z)), fun a z => h a (s.2.1 a (h2 a z)), fun a z y => s.2.2 a (h1 a z) (h2 a y)⟩
def Uni (P Q : Own) : Own := fun a => P a ∨ Q a
theorem Sep.uni {P Q : Own} (h : ∀ a, P a → ¬ Q a) : Sep (Uni P Q) P Q := ⟨fun _ z => .inl z, fun _ z => .inr z, h⟩

section
variable {K : PySem.W.Frag} {H H' : Hp} {O P P' Q : Own}

theorem Hold.mono {m : Bool} {a : Addr} {u : HO} (h : Hold H m a u P Q) (hp : ∀ a, P a → P' a) : Hold H m a u P' Q := by
  cases m with
  | true => exact ⟨h.1, hp _ h.2.1, fun b z => ⟨hp _ (h.2.2 b z).1, (h.2.2 b z).2⟩⟩
  | false => exact ⟨h.1, fun b z => hp _ (h.2 b z)⟩
theorem Hold.frame {m : Bool} {a : Addr} {u : HO} (h : Hold H m a u P Q) (e : Ev O H H') (hu : ∀ ps, u ≠ .tbl ps) (d : ∀ a, P a → ¬ O a) : Hold H' m a u P Q := by
  cases m with
  | true => exact ⟨e.keep a u h.1 hu fun z => (d a h.2.1 z).elim, h.2⟩
  | false => exact ⟨h.1.imp fun o z => e.keep a _ z (fun _ q => nomatch q) fun _ m => m, h.2⟩
theorem Hold.sub {m : Bool} {a : Addr} {u : HO} (h : Hold H m a u P Q) : ∀ b, Q b → P b := by
  cases m with
  | true => exact fun b z => (h.2.2 b z).1
  | false => exact h.2
theorem Hold.rd {m : Bool} {a : Addr} {u : HO} (h : Hold H m a u P Q) : Rd H a u := by
  cases m with
  | true => exact .inl h.1
  | false => exact .inr h.1
theorem sqT_frame {a : Addr} {vs : List V} (h : SqT K H a vs) (e : Ev O H H') : SqT K H' a vs := by
  rcases h with (h | ⟨o, h⟩) | h
  · exact .inl (.inl (e.keep a _ h (fun _ q => nomatch q) fun _ m => m))
  · exact .inl (.inr ⟨o, e.keep a _ h (fun _ q => nomatch q) fun _ m => m⟩)
  · exact .inr h

mutual
theorem Rel.mono : ∀ {d : D} {v : V} {P P' : Own}, Rel K H d v P → (∀ a, P a → P' a) → Rel K H d v P'
  | .non, _, _, _, h, _ => h
  | .bl _, _, _, _, h, _ => h
  | .int _, _, _, _, h, _ => h
  | .str _, _, _, _, h, _ => h
  | .tup ds, _, _, _, h, hp => by
    obtain ⟨a, vs, e, s, r⟩ := h
    exact ⟨a, vs, e, s, Rels.mono r hp⟩
  | .lst m ds, _, _, _, h, hp => by
    obtain ⟨a, vs, Q, e, s, r⟩ := h
    exact ⟨a, vs, Q, e, s.mono hp, r⟩
  | .dic m ks ds, _, _, _, h, hp => by
    obtain ⟨a, vs, Q, e, s, r⟩ := h
    exact ⟨a, vs, Q, e, s.mono hp, r⟩
  | .dit m ks ds, _, _, _, h, hp => by
    obtain ⟨a, vs, Q, e, s, r⟩ := h
    exact ⟨a, vs, Q, e, s.mono hp, r⟩
  | .set m ks, _, _, _, h, hp => by
    obtain ⟨a, vs, Q, e, s, r⟩ := h
    exact ⟨a, vs, Q, e, s.mono hp, r⟩
  | .scr _, _, _, _, h, _ => h
theorem Rels.mono : ∀ {ds : List D} {vs : List V} {P P' : Own}, Rels K H ds vs P → (∀ a, P a → P' a) → Rels K H ds vs P'
  | [], _, _, _, h, _ => h
  | _ :: _, _, _, _, h, hp => by
    obtain ⟨v, vs', P1, P2, e, s, r, rs⟩ := h
    exact ⟨v, vs', P1, P2, e, s.mono hp (fun _ z => z) fun _ z => z, r, rs⟩
end

mutual
theorem Rel.frame : ∀ {d : D} {v : V} {P : Own}, Rel K H d v P → Ev O H H' → (∀ a, P a → ¬ O a) → Rel K H' d v P
  | .non, _, _, h, _, _ => h
  | .bl _, _, _, h, _, _ => h
  | .int _, _, _, h, _, _ => h
  | .str _, _, _, h, _, _ => h
  | .tup ds, _, _, h, e, d => by
    obtain ⟨a, vs, q, s, r⟩ := h
    exact ⟨a, vs, q, sqT_frame s e, Rels.frame r e d⟩
  | .lst m ds, _, _, h, e, d => by
    obtain ⟨a, vs, Q, q, s, r⟩ := h
    exact ⟨a, vs, Q, q, s.frame e (fun _ z => nomatch z) d, Rels.frame r e fun a z => d a (s.sub a z)⟩
  | .dic m ks ds, _, _, h, e, d => by
    obtain ⟨a, vs, Q, q, s, k, r⟩ := h
    exact ⟨a, vs, Q, q, s.frame e (fun _ z => nomatch z) d, k, Rels.frame r e fun a z => d a (s.sub a z)⟩
  | .dit m ks ds, _, _, h, e, d => by
    obtain ⟨a, vs, Q, q, s, k, r⟩ := h
    exact ⟨a, vs, Q, q, s.frame e (fun _ z => nomatch z) d, k, Rels.frame r e fun a z => d a (s.sub a z)⟩
  | .set m ks, _, _, h, e, d => by
    obtain ⟨a, vs, Q, q, s, k⟩ := h
    exact ⟨a, vs, Q, q, s.frame e (fun _ z => nomatch z) d, k⟩
  | .scr ns, _, _, h, e, d => by
    obtain ⟨a, q, s⟩ := h
    exact ⟨a, q, s.imp (fun ⟨o, z⟩ => ⟨o, e.keep a _ z (fun _ q => nomatch q) fun _ m => m⟩) id⟩
theorem Rels.frame : ∀ {ds : List D} {vs : List V} {P : Own}, Rels K H ds vs P → Ev O H H' → (∀ a, P a → ¬ O a) → Rels K H' ds vs P
  | [], _, _, h, _, _ => h
  | _ :: _, _, _, h, e, d => by
    obtain ⟨v, vs', P1, P2, q, s, r, rs⟩ := h
    exact ⟨v, vs', P1, P2, q, s, Rel.frame r e fun a z => d a (s.1 a z), Rels.frame rs e fun a z => d a (s.2.1 a z)⟩
end

mutual
theorem Rel.imm : ∀ {d : D} {v : V} {P : Own}, imm d = true → Rel K H d v P → Rel K H d v No
  | .non, _, _, _, h => h
  | .bl _, _, _, _, h => h
  | .int _, _, _, _, h => h
  | .str _, _, _, _, h => h
  | .tup ds, _, _, i, h => by
    obtain ⟨a, vs, q, s, r⟩ := h
    exact ⟨a, vs, q, s, Rels.imm (by simpa [Z.imm] using i) r⟩
  | .lst m ds, _, _, i, h => by
    simp only [Z.imm, Bool.and_eq_true, Bool.not_eq_true'] at i
    obtain ⟨rfl, i⟩ := i
    obtain ⟨a, vs, Q, q, s, r⟩ := h
    exact ⟨a, vs, No, q, ⟨s.1, fun _ z => z⟩, Rels.imm i r⟩
  | .dic m ks ds, _, _, i, h => by
    simp only [Z.imm, Bool.and_eq_true, Bool.not_eq_true'] at i
    obtain ⟨rfl, i⟩ := i
    obtain ⟨a, vs, Q, q, s, k, r⟩ := h
    exact ⟨a, vs, No, q, ⟨s.1, fun _ z => z⟩, k, Rels.imm i r⟩
  | .dit m ks ds, _, _, i, h => by
    simp only [Z.imm, Bool.and_eq_true, Bool.not_eq_true'] at i
    obtain ⟨rfl, i⟩ := i
    obtain ⟨a, vs, Q, q, s, k, r⟩ := h
    exact ⟨a, vs, No, q, ⟨s.1, fun _ z => z⟩, k, Rels.imm i r⟩
  | .set m ks, _, _, i, h => by
    simp only [Z.imm, Bool.not_eq_true'] at i
    subst i
    obtain ⟨a, vs, Q, q, s, k⟩ := h
    exact ⟨a, vs, No, q, ⟨s.1, fun _ z => z⟩, k⟩
  | .scr _, _, _, _, h => h
theorem Rels.imm : ∀ {ds : List D} {vs : List V} {P : Own}, imms ds = true → Rels K H ds vs P → Rels K H ds vs No
  | [], _, _, _, h => h
  | d :: ds, _, _, i, h => by
    simp only [imms, Bool.and_eq_true] at i
    obtain ⟨v, vs', P1, P2, q, s, r, rs⟩ := h
    exact ⟨v, vs', No, No, q, Sep.nl, Rel.imm i.1 r, Rels.imm i.2 rs⟩
end

theorem Rels.length : ∀ {ds : List D} {vs : List V} {P : Own}, Rels K H ds vs P → ds.length = vs.length
  | [], vs, _, h => by
    have e : vs = [] := h
    subst e
    rfl
  | _ :: _, _, _, h => by
    obtain ⟨v, vs', P1, P2, q, s, r, rs⟩ := h
    rw [q, List.length_cons, List.length_cons, Rels.length rs]
end
section
variable {K : PySem.W.Frag} {H H' : Hp} {O P P' Q : Own}
theorem Rels.cons {d : D} {ds : List D} {v : V} {vs : List V} {P1 P2 : Own} (s : Sep P P1 P2) (r : Rel K H d v P1) (rs : Rels K H ds vs P2) : Rels K H (d :: ds) (v :: vs) P := ⟨v, vs, P1, P2, rfl, s, r, rs⟩
/-- one item taken out -/
theorem Rels.get : ∀ {ds : List D} {vs : List V} {P : Own} {i : Nat} {d : D}, Rels K H ds vs P → ds[i]? = some d → ∃ v P1, vs[i]? = some v ∧ (∀ a, P1 a → P a) ∧ Rel K H d v P1
  | [], _, _, _, _, _, e => by simp at e
  | d :: ds, _, _, 0, _, h, e => by
    obtain ⟨v, vs', P1, P2, rfl, s, r, rs⟩ := h
    simp at e; subst e
    exact ⟨v, P1, rfl, s.1, r⟩
  | d :: ds, _, _, i + 1, _, h, e => by
    obtain ⟨v, vs', P1, P2, rfl, s, r, rs⟩ := h
    obtain ⟨w, P3, e1, sb, r1⟩ := Rels.get (i := i) rs (by simpa using e)
    exact ⟨w, P3, by simpa using e1, fun a z => s.2.1 a (sb a z), r1⟩
theorem Rels.nil : Rels K H [] [] P := rfl
theorem Rels.append : ∀ {ds es : List D} {vs ws : List V} {P P1 P2 : Own}, Sep P P1 P2 → Rels K H ds vs P1 → Rels K H es ws P2 → Rels K H (ds ++ es) (vs ++ ws) P
  | [], es, vs, ws, P, P1, P2, s, h, g => by
    have e : vs = [] := h
    subst e
    exact g.mono s.2.1
  | d :: ds, es, _, ws, P, P1, P2, s, h, g => by
    obtain ⟨v, vs', Q1, Q2, rfl, t, r, rs⟩ := h
    refine ⟨v, vs' ++ ws, Q1, Uni Q2 P2, rfl, ⟨fun a z => s.1 a (t.1 a z), fun a z => z.elim (fun z => s.1 a (t.2.1 a z)) (s.2.1 a), fun a z y => y.elim (t.2.2 a z) (s.2.2 a (t.1 a z))⟩, r, ?_⟩
    exact Rels.append (Sep.uni fun a z => s.2.2 a (t.2.1 a z)) rs g
theorem Rels.split : ∀ {ds es : List D} {ws : List V} {P : Own}, Rels K H (ds ++ es) ws P → ∃ vs us P1 P2, ws = vs ++ us ∧ Sep P P1 P2 ∧ Rels K H ds vs P1 ∧ Rels K H es us P2
  | [], es, ws, P, h => ⟨[], ws, No, P, rfl, Sep.nl, rfl, h⟩
  | d :: ds, es, _, P, h => by
    obtain ⟨v, vs', Q1, Q2, rfl, t, r, rs⟩ := h
    obtain ⟨vs, us, P1, P2, rfl, s, r1, r2⟩ := Rels.split rs
    refine ⟨v :: vs, us, Uni Q1 P1, P2, rfl, ⟨fun a z => z.elim (t.1 a) (fun z => t.2.1 a (s.1 a z)), fun a z => t.2.1 a (s.2.1 a z), fun a z y => z.elim (fun z => t.2.2 a z (s.2.1 a y)) (fun z => s.2.2 a z y)⟩, ?_, r2⟩
    exact Rels.cons (Sep.uni fun a z y => t.2.2 a z (s.1 a y)) r r1
theorem imms_of_get : ∀ {ds : List D} {i : Nat} {d : D}, imms ds = true → ds[i]? = some d → Z.imm d = true
  | [], _, _, _, e => by simp at e
  | d :: ds, 0, _, h, e => by simp at e; subst e; simp only [imms, Bool.and_eq_true] at h; exact h.1
  | d :: ds, i + 1, _, h, e => by simp only [imms, Bool.and_eq_true] at h; exact imms_of_get (i := i) h.2 (by simpa using e)
theorem imms_all : ∀ ds : List D, imms ds = ds.all Z.imm
  | [] => rfl
  | d :: ds => by simp only [imms, List.all_cons, imms_all ds]
theorem fzs_map : ∀ ds : List D, fzs ds = ds.map fz
  | [] => rfl
  | d :: ds => by simp only [fzs, List.map_cons, fzs_map ds]
mutual
theorem fz_imm : ∀ d : D, Z.imm (fz d) = true
  | .non => rfl
  | .bl _ => rfl
  | .int _ => rfl
  | .str _ => rfl
  | .tup ds => by simp only [fz, Z.imm]; exact fzs_imm ds
  | .lst m ds => by simp only [fz, Z.imm]; simpa using fzs_imm ds
  | .dic m ks ds => by simp only [fz, Z.imm]; simpa using fzs_imm ds
  | .dit m ks ds => by simp only [fz, Z.imm]; simpa using fzs_imm ds
  | .set m ks => rfl
  | .scr _ => rfl
theorem fzs_imm : ∀ ds : List D, imms (fzs ds) = true
  | [] => rfl
  | d :: ds => by simp only [fzs, imms, fz_imm d, fzs_imm ds, Bool.and_self]
end
mutual
theorem fz_of_imm : ∀ d : D, Z.imm d = true → fz d = d
  | .non, _ => rfl
  | .bl _, _ => rfl
  | .int _, _ => rfl
  | .str _, _ => rfl
  | .tup ds, h => by simp only [fz]; rw [fzs_of_imm ds (by simpa [Z.imm] using h)]
  | .lst m ds, h => by
    simp only [Z.imm, Bool.and_eq_true, Bool.not_eq_true'] at h
    simp only [fz]; rw [fzs_of_imm ds h.2, h.1]
  | .dic m ks ds, h => by
    simp only [Z.imm, Bool.and_eq_true, Bool.not_eq_true'] at h
    simp only [fz]; rw [fzs_of_imm ds h.2, h.1]
  | .dit m ks ds, h => by
    simp only [Z.imm, Bool.and_eq_true, Bool.not_eq_true'] at h
    simp only [fz]; rw [fzs_of_imm ds h.2, h.1]
  | .set m ks, h => by
    simp only [Z.imm, Bool.not_eq_true'] at h
    simp only [fz]; rw [h]
  | .scr _, _ => rfl
theorem fzs_of_imm : ∀ ds : List D, imms ds = true → fzs ds = ds
  | [], _ => rfl
  | d :: ds, h => by
    simp only [imms, Bool.and_eq_true] at h
    simp only [fzs]; rw [fz_of_imm d h.1, fzs_of_imm ds h.2]
end
end

section
variable {K : PySem.W.Frag} {H : Hp}
abbrev Tt (H : Hp) (P : Own) : Own := fun a => P a ∧ H a ≠ none
theorem Sep.tight {P P1 P2 : Own} (s : Sep P P1 P2) : Sep (Tt H P) (Tt H P1) (Tt H P2) := ⟨fun a z => ⟨s.1 a z.1, z.2⟩, fun a z => ⟨s.2.1 a z.1, z.2⟩, fun a z y => s.2.2 a z.1 y.1⟩
theorem Hold.tight {m : Bool} {a : Addr} {u : HO} {P Q : Own} (h : Hold H m a u P Q) : Hold H m a u (Tt H P) (Tt H Q) := by
  cases m with
  | true => exact ⟨h.1, ⟨h.2.1, by rw [h.1]; exact fun z => nomatch z⟩, fun b z => ⟨⟨(h.2.2 b z.1).1, z.2⟩, (h.2.2 b z.1).2⟩⟩
  | false => exact ⟨h.1, fun b z => ⟨h.2 b z.1, z.2⟩⟩
mutual
theorem Rel.tight : ∀ {d : D} {v : V} {P : Own}, Rel K H d v P → Rel K H d v (Tt H P)
  | .non, _, _, h => h
  | .bl _, _, _, h => h
  | .int _, _, _, h => h
  | .str _, _, _, h => h
  | .tup ds, _, _, h => by
    obtain ⟨a, vs, e, s, r⟩ := h
    exact ⟨a, vs, e, s, Rels.tight r⟩
  | .lst m ds, _, _, h => by
    obtain ⟨a, vs, Q, e, s, r⟩ := h
    exact ⟨a, vs, _, e, s.tight, Rels.tight r⟩
  | .dic m ks ds, _, _, h => by
    obtain ⟨a, vs, Q, e, s, k, r⟩ := h
    exact ⟨a, vs, _, e, s.tight, k, Rels.tight r⟩
  | .dit m ks ds, _, _, h => by
    obtain ⟨a, vs, Q, e, s, k, r⟩ := h
    exact ⟨a, vs, _, e, s.tight, k, Rels.tight r⟩
  | .set m ks, _, _, h => by
    obtain ⟨a, vs, Q, e, s, k⟩ := h
    exact ⟨a, vs, _, e, s.tight, k⟩
  | .scr _, _, _, h => h
theorem Rels.tight : ∀ {ds : List D} {vs : List V} {P : Own}, Rels K H ds vs P → Rels K H ds vs (Tt H P)
  | [], _, _, h => h
  | _ :: _, _, _, h => by
    obtain ⟨v, vs', P1, P2, e, s, r, rs⟩ := h
    exact ⟨v, vs', _, _, e, s.tight, Rel.tight r, Rels.tight rs⟩
end
end

/-! ### slots -/
abbrev Env := List (Option D)
def RelO' (K : PySem.W.Frag) (H : Hp) : Option D → Option V → Own → Prop
  | none, _, _ => True
  | some d, ov, P => ∃ v, ov = some v ∧ Rel K H d v P
variable [TabList]
theorem TabG'.new {H : Hp} {p q : Addr} {u : HO} (h : H p = none) (t : TabG' H q) : TabG' (upd H p u) q := by
  obtain ⟨ps, e, ok⟩ := t
  exact ⟨ps, by rw [upd_ne (fun z => by rw [z, h] at e; cases e)]; exact e, ok⟩
theorem TabG'.mut {H : Hp} {p q : Addr} {o u : HO} (h : H p = some o) (mu : Mut (some o)) (t : TabG' H q) : TabG' (upd H p u) q := by
  obtain ⟨ps, e, ok⟩ := t
  exact ⟨ps, by rw [upd_ne (fun z => by rw [z, h] at e; cases e; exact mu)]; exact e, ok⟩
def Tabs (H : Hp) : Prop := ∀ p ∈ TabList.tabs, TabG' H p
theorem Tabs.on {O : Own} {H H' : Hp} (h : Tabs H) (e : Ev O H H') : Tabs H' := fun p hp => e.tbl p (h p hp)
def RelE (K : PySem.W.Frag) (H : Hp) : Env → L2.St → Own → Prop
  | [], σ, _ => σ = [] ∧ Tabs H
  | od :: e, σ, P => ∃ ov σ' P1 P2, σ = ov :: σ' ∧ Sep P P1 P2 ∧ RelO' K H od ov P1 ∧ RelE K H e σ' P2
section
variable {K : PySem.W.Frag} {H H' : Hp} {O P P' Q : Own}
theorem RelO'.mono {od : Option D} {ov : Option V} (h : RelO' K H od ov P) (hp : ∀ a, P a → P' a) : RelO' K H od ov P' := by
  cases od with
  | none => trivial
  | some d => obtain ⟨v, e, r⟩ := h; exact ⟨v, e, r.mono hp⟩
theorem RelO'.frame {od : Option D} {ov : Option V} (h : RelO' K H od ov P) (e : Ev O H H') (d : ∀ a, P a → ¬ O a) : RelO' K H' od ov P := by
  cases od with
  | none => trivial
  | some d' => obtain ⟨v, q, r⟩ := h; exact ⟨v, q, r.frame e d⟩
theorem RelE.mono : ∀ {env : Env} {σ : L2.St} {P P' : Own}, RelE K H env σ P → (∀ a, P a → P' a) → RelE K H env σ P'
  | [], _, _, _, h, _ => h
  | _ :: _, _, _, _, h, hp => by
    obtain ⟨ov, σ', P1, P2, e, s, r, rs⟩ := h
    exact ⟨ov, σ', P1, P2, e, s.mono hp (fun _ z => z) fun _ z => z, r, rs⟩
theorem RelE.tabs : ∀ {env : Env} {σ : L2.St} {P : Own}, RelE K H env σ P → Tabs H
  | [], _, _, h => h.2
  | _ :: _, _, _, h => by
    obtain ⟨ov, σ', P1, P2, e, s, r, rs⟩ := h
    exact rs.tabs
theorem RelE.frame : ∀ {env : Env} {σ : L2.St} {P : Own}, RelE K H env σ P → Ev O H H' → (∀ a, P a → ¬ O a) → RelE K H' env σ P
  | [], _, _, h, e, _ => ⟨h.1, h.2.on e⟩
  | _ :: _, _, _, h, e, d => by
    obtain ⟨ov, σ', P1, P2, q, s, r, rs⟩ := h
    exact ⟨ov, σ', P1, P2, q, s, r.frame e fun a z => d a (s.1 a z), RelE.frame rs e fun a z => d a (s.2.1 a z)⟩
theorem RelE.ev {env : Env} {σ : L2.St} (h : RelE K H env σ P) (e : Ev No H H') : RelE K H' env σ P := h.frame e fun _ _ z => z
theorem Rel.ev {d : D} {v : V} (h : Rel K H d v P) (e : Ev No H H') : Rel K H' d v P := h.frame e fun _ _ z => z
theorem RelE.length : ∀ {env : Env} {σ : L2.St} {P : Own}, RelE K H env σ P → env.length = σ.length
  | [], σ, _, h => by
    have e : σ = [] := h.1
    subst e
    rfl
  | _ :: _, _, _, h => by
    obtain ⟨ov, σ', P1, P2, q, s, r, rs⟩ := h
    rw [q, List.length_cons, List.length_cons, RelE.length rs]
theorem RelE.tight : ∀ {env : Env} {σ : L2.St} {P : Own}, RelE K H env σ P → RelE K H env σ (Tt H P)
  | [], _, _, h => h
  | od :: _, _, _, h => by
    obtain ⟨ov, σ', P1, P2, e, s, r, rs⟩ := h
    refine ⟨ov, σ', _, _, e, s.tight, ?_, RelE.tight rs⟩
    cases od with
    | none => trivial
    | some d => obtain ⟨v, e, r⟩ := r; exact ⟨v, e, r.tight⟩
/-- slot i taken out -/
theorem RelE.get : ∀ {env : Env} {σ : L2.St} {P : Own} {i : Nat} {d : D}, RelE K H env σ P → env[i]? = some (some d) →
    ∃ v P1 P2, σ[i]? = some (some v) ∧ Sep P P1 P2 ∧ Rel K H d v P1 ∧ RelE K H (env.set i none) σ P2
  | [], _, _, _, _, _, e => by simp at e
  | od :: env, _, _, 0, d, h, e => by
    obtain ⟨ov, σ', P1, P2, rfl, s, r, rs⟩ := h
    simp at e; subst e
    obtain ⟨v, rfl, r⟩ := r
    exact ⟨v, P1, P2, rfl, s, r, some v, σ', No, P2, rfl, Sep.nl, trivial, rs⟩
  | od :: env, _, _, i + 1, d, h, e => by
    obtain ⟨ov, σ', P1, P2, rfl, s, r, rs⟩ := h
    obtain ⟨v, Q1, Q2, e1, t, r1, r2⟩ := RelE.get (i := i) rs (by simpa using e)
    refine ⟨v, Q1, Uni P1 Q2, by simpa using e1, ⟨fun a z => s.2.1 a (t.1 a z), fun a z => z.elim (s.1 a) fun z => s.2.1 a (t.2.1 a z), fun a z y => y.elim (fun y => s.2.2 a y (t.1 a z)) (t.2.2 a z)⟩, r1, ?_⟩
    exact ⟨ov, σ', P1, Q2, rfl, Sep.uni fun a z y => s.2.2 a z (t.2.1 a y), r, r2⟩
/-- slot i filled -/
theorem RelE.put : ∀ {env : Env} {σ : L2.St} {P P1 P2 : Own} {i : Nat} {d : D} {v : V}, RelE K H (env.set i none) σ P2 → Sep P P1 P2 → Rel K H d v P1 → σ[i]? = some (some v) → RelE K H (env.set i (some d)) σ P
  | [], _, _, _, _, _, _, _, h, _, _, e => by
    have q : _ = [] := h.1
    subst q
    simp at e
  | od :: env, _, P, P1, P2, 0, d, v, h, s, r, e => by
    obtain ⟨ov, σ', Q1, Q2, rfl, t, _, rs⟩ := h
    simp at e; subst e
    exact ⟨some v, σ', P1, Q2, rfl, s.mono (fun _ z => z) (fun _ z => z) t.2.1, ⟨v, rfl, r⟩, rs⟩
  | od :: env, _, P, P1, P2, i + 1, d, v, h, s, r, e => by
    obtain ⟨ov, σ', Q1, Q2, rfl, t, r0, rs⟩ := h
    refine ⟨ov, σ', Q1, Uni P1 Q2, rfl, ⟨fun a z => s.2.1 a (t.1 a z), fun a z => z.elim (s.1 a) fun z => s.2.1 a (t.2.1 a z), fun a z y => y.elim (fun y => s.2.2 a y (t.1 a z)) (t.2.2 a z)⟩, r0, ?_⟩
    exact RelE.put (i := i) rs (Sep.uni fun a z y => s.2.2 a z (t.2.1 a y)) r (by simpa using e)
/-- slot i forgotten, whatever stands there -/
theorem RelE.drop : ∀ {env : Env} {σ : L2.St} {P : Own} {i : Nat} {ov : Option V}, RelE K H env σ P → RelE K H (env.set i none) (σ.set i ov) P
  | [], σ, _, _, _, h => by
    have q : σ = [] := h.1
    subst q
    exact ⟨rfl, h.2⟩
  | od :: env, _, P, 0, ov, h => by
    obtain ⟨ov', σ', Q1, Q2, rfl, t, _, rs⟩ := h
    exact ⟨ov, σ', No, Q2, rfl, Sep.nl.mono t.2.1 (fun _ z => z) (fun _ z => z), trivial, rs⟩
  | od :: env, _, P, i + 1, ov, h => by
    obtain ⟨ov', σ', Q1, Q2, rfl, t, r0, rs⟩ := h
    exact ⟨ov', σ'.set i ov, Q1, Q2, rfl, t, r0, RelE.drop (i := i) rs⟩
theorem RelE.drop' {env : Env} {σ : L2.St} {i : Nat} (h : RelE K H env σ P) : RelE K H (env.set i none) σ P := by
  by_cases hi : i < σ.length
  · have q := h.drop (i := i) (ov := σ[i])
    rwa [List.set_getElem_self] at q
  · rw [List.set_eq_of_length_le (by rw [h.length]; omega)]
    exact h
/-- a name is stored -/
theorem RelE.store {env : Env} {σ : L2.St} {P1 P2 : Own} {i : Nat} {d : D} {v : V} (h : RelE K H env σ P2) (hi : i < env.length) (s : Sep P P1 P2) (r : Rel K H d v P1) : RelE K H (env.set i (some d)) (σ.set i (some v)) P := by
  have q := (h.drop (i := i) (ov := some v)).put (i := i) (d := d) (v := v) (P := P) (P1 := P1) ?_ r (by rw [List.getElem?_set_self (by rw [← h.length]; exact hi)])
  · exact q
  · exact s
end
end Z

namespace Z
open PySem PySem.Spec L2
variable [TabList]

structure Exc where
  cls : Nat
  args : List D
inductive Res (α : Type) where
  | ok (a : α) (e : Env) | exc (x : Exc) (e : Env) | bad
inductive SRes where
  | next (e : Env) | ret (d : D) (e : Env) | brk (e : Env) | cnt (e : Env) | exc (x : Exc) (e : Env) | bad
/-- a call's answer, and what the parameters' things are like then -/
inductive CRes where
  | ok (d : D) (fin : Env) | exc (x : Exc) (fin : Env) | bad
@[simp] def Res.bind {α β : Type} (r : Res α) (f : α → Env → Res β) : Res β := match r with
  | .ok a e => f a e
  | .exc x e => .exc x e
  | .bad => .bad
@[simp] def Res.thn {α : Type} (r : Res α) (f : α → Env → SRes) : SRes := match r with
  | .ok a e => f a e
  | .exc x e => .exc x e
  | .bad => .bad
@[simp] def SRes.thn (r : SRes) (f : Env → SRes) : SRes := match r with
  | .next e => f e
  | r => r
/-- lists, texts: the longest -/
abbrev lim : Nat := 16777216

/-! ### pure functions of values -/
mutual
def toPy : D → Option PyData
  | .non => some .none
  | .bl b => some (.bool b)
  | .int i => some (.int i)
  | .str s => some (.str s)
  | .tup ds => (toPys ds).map .tuple
  | .lst _ ds => (toPys ds).map .list
  | _ => none
def toPys : List D → Option (List PyData)
  | [] => some []
  | d :: ds => (toPy d).bind fun p => (toPys ds).map fun ps => p :: ps
end
def dEq (a b : D) : Option Bool := (toPy a).bind fun x => (toPy b).bind fun y => if SeqAt.shaped x && SeqAt.shaped y then some (PyData.eqv x y) else none
def dInts : List D → Option (List Int)
  | [] => some []
  | .int i :: r => (dInts r).map fun l => i :: l
  | _ :: _ => none
def dStrs : List D → Option (List Str)
  | [] => some []
  | .str i :: r => (dStrs r).map fun l => i :: l
  | _ :: _ => none
def dBls : List D → Option (List Bool)
  | [] => some []
  | .bl i :: r => (dBls r).map fun l => i :: l
  | _ :: _ => none
def cutL {α : Type} (xs : List α) (lo hi : Option Int) : List α := (xs.drop (HT.sIx xs.length 0 lo)).take (HT.sIx xs.length xs.length hi - HT.sIx xs.length 0 lo)
/-- the key that a value is -/
def dKey : D → Option Key
  | .int i => some (.inl i)
  | .str s => some (.inr s)
  | _ => none
def dKeys : List D → Option (List Key)
  | [] => some []
  | d :: ds => (dKey d).bind fun k => (dKeys ds).map fun ks => k :: ks
/-- where a key stands -/
def kIx {κ : Type} [DecidableEq κ] : List κ → κ → Option Nat
  | [], _ => none
  | x :: xs, k => if x = k then some 0 else (kIx xs k).map (· + 1)
def look {κ : Type} [DecidableEq κ] (ks : List κ) (ds : List D) (k : κ) : Option D := (kIx ks k).bind fun j => ds[j]?
def kD : Key → D
  | .inl i => .int i
  | .inr s => .str s

/-- the types that are asked for, or stood under -/
inductive Ty where
  | non | bool | int | str | tup | lst | dic
  deriving DecidableEq
def Ty.nm : Ty → String
  | .non => "NoneType"
  | .bool => "bool"
  | .int => "int"
  | .str => "str"
  | .tup => "tuple"
  | .lst => "list"
  | .dic => "dict"
def tyD : D → Option Ty
  | .non => some .non
  | .bl _ => some .bool
  | .int _ => some .int
  | .str _ => some .str
  | .tup _ => some .tup
  | .lst _ _ => some .lst
  | .scr _ => some .lst
  | .dic _ _ _ => some .dic
  | .dit true _ _ => some .dic
  | _ => none
def isiT (a b : Ty) : Bool := decide (a = b) || (decide (a = .bool) && decide (b = .int))
inductive PF where
  | isi (t : Ty)
  | add | sub | mul | fdiv | mod | pow | shl
  | neg
  | eq | ne | lt | le | gt | ge | isN | notN | inn | nin
  | idx | slc (lo hi : Bool)
  | len | abs | min2 | max2 | sum | sorted | tuple | list | int | str
  deriving DecidableEq

def opAdd : D → D → Option D
  | .int i, .int j => some (.int (i + j))
  | .int i, .bl k => some (.int (i + if k then 1 else 0))
  | .str a, .str b => if a.length + b.length ≤ lim then some (.str (a ++ b)) else none
  | .tup a, .tup b => if a.length + b.length ≤ lim ∧ imms a = true ∧ imms b = true then some (.tup (a ++ b)) else none
  | .lst _ a, .lst _ b => if a.length + b.length ≤ lim ∧ imms a = true ∧ imms b = true then some (.lst true (a ++ b)) else none
  | _, _ => none
/-- numbers of less than 2 ^ 900000 together, or one below 2 ^ 64 -/
def mulOk (i j : Int) : Bool := decide (i.natAbs < 2 ^ 64) || decide (j.natAbs < 2 ^ 64) || decide (i.natAbs.log2 + j.natAbs.log2 + 2 ≤ 1000000)
def opMul : D → D → Option D
  | .int i, .int j => if mulOk i j = true then some (.int (i * j)) else none
  | .lst true a, .int k => if k.natAbs < 2 ^ 32 ∧ a.length * k.toNat ≤ lim ∧ imms a = true then some (.lst true (List.replicate k.toNat a).flatten) else none
  | _, _ => none
def opDiv : D → D → Option D
  | .int i, .int j => if 0 < j ∧ j.natAbs.log2 ≤ 8999 then some (.int (i / j)) else none
  | _, _ => none
def opMod : D → D → Option D
  | .int i, .int j => if 0 < j then some (.int (i % j)) else none
  | _, _ => none
def opPow : D → D → Option D
  | .int i, .int j => if 0 ≤ j ∧ j.natAbs ≤ 1000000 ∧ i.natAbs < 2 ^ 64 then some (.int (i ^ j.toNat)) else none
  | _, _ => none
def opShl : D → D → Option D
  | .int i, .int j => if 0 ≤ j ∧ j.natAbs ≤ 1000000 ∧ i.natAbs < 2 ^ 64 then some (.int (i * 2 ^ j.toNat)) else none
  | _, _ => none
def opLt : D → D → Option Bool
  | .int i, .int j => some (decide (i < j))
  | .str i, .str j => some (decide (i.cps.toList < j.cps.toList))
  | .tup a, .tup b => (dInts a).bind fun x => (dInts b).map fun y => HT.lexLt x y
  | _, _ => none
def opGt : D → D → Option Bool
  | .int i, .int j => some (decide (j < i))
  | _, _ => none
def opLe : D → D → Option Bool
  | .int i, .int j => some (decide (i ≤ j))
  | _, _ => none
def opIn : D → D → Option Bool
  | d, .dic _ ks ds => (dKey d).map fun k => (look ks ds k).isSome
  | d, .str j => match d with
    | .str i => some (!(Builtin.Str.occurrences j i 0 j.length 1).isEmpty)
    | _ => none
  | d, .lst _ ds => (toPy d).bind fun x => (toPys ds).bind fun ys => if SeqAt.shaped x && SeqAt.shaped (.list ys) then some (ys.any fun y => PyData.eqv y x) else none
  | d, .tup ds => (toPy d).bind fun x => (toPys ds).bind fun ys => if SeqAt.shaped x && SeqAt.shaped (.tuple ys) then some (ys.any fun y => PyData.eqv y x) else none
  | _, _ => none
def opIdx : D → D → Option D
  | .tup ds, .int i => atI ds i
  | .lst _ ds, .int i => atI ds i
  | .str s, .int i => if s.length ≤ lim then (atI s.cps.toList i).map fun c => .str ⟨#[c]⟩ else none
  | .dic _ ks ds, d => (dKey d).bind fun k => look ks ds k
  | _, _ => none
def opCut : D → Option Int → Option Int → Option D
  | .tup ds, lo, hi => if imms ds = true then some (.tup (cutL ds lo hi)) else none
  | .lst _ ds, lo, hi => if imms ds = true then some (.lst true (cutL ds lo hi)) else none
  | .scr ns, lo, hi => some (.lst true (cutL (ns.map .int) lo hi))
  | _, _, _ => none
def opLen : D → Option D
  | .scr ns => some (.int ns.length)
  | .tup ds => some (.int ds.length)
  | .lst _ ds => some (.int ds.length)
  | .dic _ ks _ => some (.int ks.length)
  | .str s => if s.length ≤ lim then some (.int s.length) else none
  | _ => none
def dPairs : List D → Option (List (Int × Int))
  | [] => some []
  | .tup [.int i, .int j] :: r => (dPairs r).map fun l => (i, j) :: l
  | _ :: _ => none
def pairD (p : Int × Int) : D := .tup [.int p.1, .int p.2]
def leP (p q : Int × Int) : Bool := decide (p.1 < q.1 ∨ (p.1 = q.1 ∧ p.2 ≤ q.2))
def opSorted : D → Option D
  | .lst _ ds => match dInts ds with
    | some ns => some (.lst true ((ns.mergeSort fun a b => decide (a ≤ b)).map .int))
    | none => (dPairs ds).map fun ps => .lst true ((ps.mergeSort leP).map pairD)
  | _ => none
def opSum : D → Option D
  | .lst _ ds => (dInts ds).map fun ns => .int ns.sum
  | .tup ds => (dInts ds).map fun ns => .int ns.sum
  | _ => none
def PF.ap : PF → List D → Option D
  | .add, [a, b] => opAdd a b
  | .sub, [.int i, .int j] => some (.int (i - j))
  | .mul, [a, b] => opMul a b
  | .fdiv, [a, b] => opDiv a b
  | .mod, [a, b] => opMod a b
  | .pow, [a, b] => opPow a b
  | .shl, [a, b] => opShl a b
  | .neg, [.int i] => some (.int (-i))
  | .eq, [a, b] => (dEq a b).map .bl
  | .ne, [a, b] => (dEq a b).map fun c => .bl (!c)
  | .lt, [a, b] => (opLt a b).map .bl
  | .gt, [a, b] => (opGt a b).map .bl
  | .le, [a, b] => (opLe a b).map .bl
  | .ge, [a, b] => (opLe b a).map .bl
  | .isi t, [a] => (tyD a).map fun n => .bl (isiT n t)
  | .isN, [a] => some (.bl (match a with | .non => true | _ => false))
  | .notN, [a] => some (.bl (match a with | .non => false | _ => true))
  | .inn, [a, b] => (opIn a b).map .bl
  | .nin, [a, b] => (opIn a b).map fun c => .bl (!c)
  | .idx, [a, b] => (opIdx a b).bind fun d => if imm d = true then some d else none
  | .slc false false, [a] => opCut a none none
  | .slc true false, [a, .int i] => opCut a (some i) none
  | .slc false true, [a, .int i] => opCut a none (some i)
  | .slc true true, [a, .int i, .int j] => opCut a (some i) (some j)
  | .len, [a] => opLen a
  | .abs, [.int i] => some (.int (if i < 0 then -i else i))
  | .min2, [.int i, .int j] => some (.int (if j < i then j else i))
  | .max2, [.int i, .int j] => some (.int (if j > i then j else i))
  | .sum, [a] => opSum a
  | .sorted, [a] => opSorted a
  | .tuple, [.lst _ ds] => if imms ds = true then some (.tup ds) else none
  | .tuple, [.tup ds] => if imms ds = true then some (.tup ds) else none
  | .list, [.lst _ ds] => if imms ds = true then some (.lst true ds) else none
  | .list, [.tup ds] => if imms ds = true then some (.lst true ds) else none
  | .int, [.int i] => some (.int i)
  | .int, [.bl k] => some (.int (if k then 1 else 0))
  | .str, [.int i] => if i.natAbs.log2 < 1920 then some (.str (toString i)) else none
  | _, _ => none

def truth : D → Option Bool
  | .non => some false
  | .bl b => some b
  | .int i => some (i != 0)
  | .str s => if s.length ≤ lim then some (s.length != 0) else none
  | .tup ds => some (!ds.isEmpty)
  | .lst _ ds => some (!ds.isEmpty)
  | .dic true ks _ => some (!ks.isEmpty)
  | _ => none

/-! ### the text -/
/-- targets -/
inductive Tg where
  | one (i : Nat) | tup (ts : List Tg)
/-- methods that change their object -/
inductive MM where
  | append | pop | popAt | extend | insert | clear | reverse | sort | add
  deriving DecidableEq

mutual
inductive E where
  | var (i : Nat) | mov (i : Nat) | frz (i : Nat)
  | fze (e : E)
  | cst (d : D)
  | pidx (a i : E)
  | ap (p : PF) (es : Es)
  | and (a b : E) | or (a b : E) | not (a : E)
  | ife (c a b : E)
  | chn (p q : PF) (a b c : E)
  | tup (es : Es) | lst (es : Es) | dic (es : Es)
  | call (f : Nat) (es : Es)
  /-- by keywords: the j-th parameter is the perm_j-th of the values -/
  | kcall (f : Nat) (perm : List Nat) (es : Es)
  | mm (m : MM) (o : E) (es : Es)
  /-- {**o, k: v} -/
  | dup (o k v : E)
  /-- any, all of a generator expression -/
  | gen (all : Bool) (i : Nat) (a e : E)
  | lc (own : List Nat) (t : Tg) (it : It) (ifs : Es) (e : E)
inductive Es where
  | nil | cons (e : E) (r : Es)
/-- what a for walks -/
inductive It where
  | seq (e : E) | rng1 (a : E) | rng2 (a b : E) | rng3 (a b c : E) | enum (e : E)
end
mutual
inductive S where
  | nop
  | asg (t : Tg) (e : E)
  | sto (o i e : E)
  | aug (i : Nat) (p : PF) (e : E)
  | exp (e : E)
  | ret (e : E) | ret0
  | brk | cnt
  | ite (c : E) (a b : Ss)
  | whl (c : E) (b : Ss)
  | for (t : Tg) (it : It) (b : Ss)
inductive Ss where
  | nil | cons (s : S) (r : Ss)
end

/-- may the value be (a part of) what stands in a slot? -/
def E.pth : E → Bool
  | .var _ => true
  | .pidx a _ => a.pth
  | .ife _ a b => a.pth || b.pth
  | .and a b => a.pth || b.pth
  | .or a b => a.pth || b.pth
  | _ => false
mutual
/-- changes nothing that stands -/
def E.pu : E → Bool
  | .var _ => true
  | .mov _ => false
  | .frz _ => false
  | .fze e => e.pu
  | .cst _ => true
  | .pidx a i => a.pu && i.pu
  | .ap _ es => es.pu
  | .and a b => a.pu && b.pu
  | .or a b => a.pu && b.pu
  | .not a => a.pu
  | .ife c a b => c.pu && a.pu && b.pu
  | .chn _ _ a b c => a.pu && b.pu && c.pu
  | .tup es => es.pu
  | .lst es => es.pu
  | .dic es => es.pu
  | .call _ _ => false
  | .kcall _ _ _ => false
  | .mm _ _ _ => false
  | .dup _ _ _ => false
  | .gen _ _ _ _ => false
  | .lc _ _ _ _ _ => false
def Es.pu : Es → Bool
  | .nil => true
  | .cons e r => e.pu && r.pu
end
/-! ### the evaluator -/
structure Ctx where
  call : Nat → List D → CRes
  /-- slots that keep what they were given -/
  kp : Nat → Bool := fun _ => false
mutual
def Tg.free (kp : Nat → Bool) : Tg → Bool
  | .one i => !kp i
  | .tup ts => Tg.frees kp ts
def Tg.frees (kp : Nat → Bool) : List Tg → Bool
  | [] => true
  | t :: ts => t.free kp && Tg.frees kp ts
end

mutual
def bindT : Tg → D → Env → Option Env
  | .one i, d, env => if i < env.length then some (env.set i (some d)) else none
  | .tup ts, .tup ds, env => bindTs ts ds env
  | _, _, _ => none
def bindTs : List Tg → List D → Env → Option Env
  | [], [], env => some env
  | t :: ts, d :: ds, env => (bindT t d env).bind fun env' => bindTs ts ds env'
  | _, _, _ => none
end
def wipeE : List Nat → Env → Env
  | [], env => env
  | v :: vs, env => (wipeE vs env).set v none
/-- the own names' slots, as before (what can be changed is dropped) -/
def backE : List Nat → Env → Env → Env
  | [], _, env => env
  | v :: vs, old, env => backE vs old (env.set v (match old[v]? with
    | some (some d) => if imm d = true then some d else none
    | _ => none))

def lcLoop (own : List Nat) (t : Tg) (ifs : Env → Res Bool) (e : Env → Res D) (pth : Bool) : List D → Env → Res (List D)
  | [], env => .ok [] env
  | d :: ds, env => match bindT t d env with
    | none => .bad
    | some env1 => match ifs env1 with
      | .ok true env2 => match e env2 with
        | .ok r env3 => if pth && !imm r then .bad else match lcLoop own t ifs e pth ds (wipeE own env3) with
          | .ok rs env4 => .ok (r :: rs) env4
          | _ => .bad
        | _ => .bad
      | .ok false env2 => lcLoop own t ifs e pth ds (wipeE own env2)
      | _ => .bad
def forLoop (t : Tg) (body : Env → SRes) : List D → Env → SRes
  | [], env => .next env
  | d :: ds, env => match bindT t d env with
    | none => .bad
    | some env1 => match body env1 with
      | .next e => forLoop t body ds e
      | .cnt e => forLoop t body ds e
      | .brk e => .next e
      | r => r
/-- more turns than any loop here takes -/
def turns : Nat := 1099511627776
def whlLoop (c : Env → Res Bool) (body : Env → SRes) : Nat → Env → SRes
  | 0, _ => .bad
  | n + 1, env => match c env with
    | .ok true e1 => match body e1 with
      | .next e => whlLoop c body n e
      | .cnt e => whlLoop c body n e
      | .brk e => .next e
      | r => r
    | .ok false e1 => .next e1
    | .exc x e => .exc x e
    | .bad => .bad
def rng (lo hi : Int) : List D := (List.range (hi - lo).toNat).map fun (i : Nat) => D.int (lo + (i : Int))
def enumD (ds : List D) (k : Nat) : List D := ds.mapIdx fun i d => .tup [.int ((k + i : Nat) : Int), d]
def chars (s : Str) : List D := s.cps.toList.map fun c => .str ⟨#[c]⟩
/-- what is walked -/
def seqOf (pth : Bool) : D → Option (List D)
  | .scr ns => some (ns.map .int)
  | .tup ds => if imms ds = true then some ds else none
  | .lst m ds => if imms ds = true ∧ (m = true → pth = false) then some ds else none
  | .str s => some (chars s)
  | _ => none
def enumOf (pth : Bool) : D → Option (List D)
  | .scr ns => some (enumD (ns.map .int) 0)
  | .tup ds => if imms ds = true then some (enumD ds 0) else none
  | .lst m ds => if imms ds = true ∧ (m = true → pth = false) then some (enumD ds 0) else none
  | _ => none
def small62 (i : Int) : Bool := decide (i.natAbs < 2 ^ 62)
def mmAp : MM → D → List D → Option (D × D)
  | .append, .lst true ds, [d] => if ds.length < lim then some (.non, .lst true (ds ++ [d])) else none
  | .pop, .lst true ds, [] => (ds.getLast?).map fun d => (d, .lst true ds.dropLast)
  | .extend, .lst true ds, [.lst true es] => if ds.length + es.length ≤ lim then some (.non, .lst true (ds ++ es)) else none
  | .clear, .lst true _, [] => some (.non, .lst true [])
  | _, _, _ => none
/-- a step down: an index, a key -/
def stepD (d k : D) : Option D := opIdx d k
def putK {κ : Type} [DecidableEq κ] (ks : List κ) (ds : List D) (k : κ) (d : D) : List κ × List D :=
  match kIx ks k with
  | some j => (ks, ds.set j d)
  | none => (ks ++ [k], ds ++ [d])
/-- the thing at k exchanged; its object owned -/
def setD (x k d : D) : Option D := match x with
  | .lst true ds => match k with
    | .int i => (ixN ds.length i).map fun j => .lst true (ds.set j d)
    | _ => none
  | .dic true ks ds => (dKey k).bind fun q => if ks.length < lim then some (.dic true (putK ks ds q d).1 (putK ks ds q d).2) else none
  | _ => none
/-- the part of a part exchanged, on the way back up (tuples stay, their things may change) -/
def setP (x k d : D) : Option D := match x with
  | .tup ds => match k with
    | .int i => (ixN ds.length i).map fun j => .tup (ds.set j d)
    | _ => none
  | .lst true ds => match k with
    | .int i => (ixN ds.length i).map fun j => .lst true (ds.set j d)
    | _ => none
  | .dic true ks ds => (dKey k).bind fun q => (kIx ks q).map fun j => .dic true ks (ds.set j d)
  | _ => none

def getK : D → List D → Option D
  | x, [] => some x
  | x, k :: ks => (stepD x k).bind fun y => getK y ks
def nodeAt (env : Env) (i : Nat) (ks : List D) : Option D := match env[i]? with
  | some (some x) => getK x ks
  | _ => none
/-- is it a thing that has the method? -/
def mmTy (_m : MM) : Option D → Bool
  | some (.lst true _) => true
  | _ => false
def putKs : D → List D → D → Option D
  | _, [], d => some d
  | x, k :: ks, d => (stepD x k).bind fun y => (putKs y ks d).bind fun y' => setP x k y'
/-- what was lent comes back -/
def giveBack : List (Option Nat) → Env → Env → Env
  | some i :: bs, od :: fin, env => giveBack bs fin (env.set i od)
  | none :: bs, _ :: fin, env => giveBack bs fin env
  | _, _, env => env
/-- what a generator expression's element reads -/
def idxQ : D → D → Option D
  | .tup ds, .int i => atI ds i
  | .lst _ ds, .int i => atI ds i
  | _, _ => none
def apQ : PF → List D → Option D
  | .inn, [x, .tup ds] => (opIn x (.tup ds)).map .bl
  | .inn, [x, .lst m ds] => (opIn x (.lst m ds)).map .bl
  | .inn, [x, .str y] => (opIn x (.str y)).map .bl
  | .nin, [x, .tup ds] => (opIn x (.tup ds)).map fun c => .bl (!c)
  | .nin, [x, .lst m ds] => (opIn x (.lst m ds)).map fun c => .bl (!c)
  | .nin, [x, .str y] => (opIn x (.str y)).map fun c => .bl (!c)
  | .lt, [.int i, .int j] => some (.bl (decide (i < j)))
  | .add, [.int i, .int j] => some (.int (i + j))
  | .sub, [.int i, .int j] => some (.int (i - j))
  | _, _ => none
mutual
def evQ : E → Env → Option D
  | .var i, env => match env[i]? with
    | some (some d) => some d
    | _ => none
  | .cst d, _ => some d
  | .pidx a b, env => (evQ a env).bind fun x => (evQ b env).bind fun y => idxQ x y
  | .ap p es, env => (evQs es env).bind fun ds => apQ p ds
  | _, _ => none
def evQs : Es → Env → Option (List D)
  | .nil, _ => some []
  | .cons e r, env => (evQ e env).bind fun d => (evQs r env).map fun ds => d :: ds
end
def seqG : D → Option (List D)
  | .tup ds => if imms ds = true then some ds else none
  | .lst _ ds => if imms ds = true then some ds else none
  | _ => none
def genAll (t : Tg) (e : E) (env : Env) : List D → Option (List Bool)
  | [] => some []
  | d :: ds => (bindT t d env).bind fun env1 => match evQ e env1 with
    | some (.bl b) => (genAll t e env ds).map fun bs => b :: bs
    | _ => none
def permL {α : Type} (perm : List Nat) (l : List α) : List α := perm.filterMap fun j => l[j]?
mutual
def evE (C : Ctx) : E → Env → Res D
  | .var i, env => match env[i]? with
    | some (some d) => .ok d env
    | _ => .bad
  | .mov i, env => match env[i]? with
    | some (some d) => .ok d (env.set i none)
    | _ => .bad
  | .frz i, env => match env[i]? with
    | some (some d) => .ok (fz d) (env.set i (some (fz d)))
    | _ => .bad
  | .fze e, env => (evE C e env).bind fun d e1 => if e.pth && !imm d then .bad else .ok (fz d) e1
  | .cst d, env => .ok d env
  | .pidx a k, env => (evE C a env).bind fun x e1 => if a.pth && !k.pu && !imm x then .bad else (evE C k e1).bind fun i e2 => match stepD x i with
    | some d => .ok d e2
    | none => .bad
  | .ap p es, env => (evEs C es env).bind fun ds e1 => match p.ap ds with
    | some d => .ok d e1
    | none => .bad
  | .and a b, env => (evE C a env).bind fun x e1 => match truth x with
    | some true => evE C b e1
    | some false => .ok x e1
    | none => .bad
  | .or a b, env => (evE C a env).bind fun x e1 => match truth x with
    | some true => .ok x e1
    | some false => evE C b e1
    | none => .bad
  | .not a, env => (evE C a env).bind fun x e1 => match truth x with
    | some b => .ok (.bl (!b)) e1
    | none => .bad
  | .ife c a b, env => (evE C c env).bind fun x e1 => match truth x with
    | some true => evE C a e1
    | some false => evE C b e1
    | none => .bad
  | .chn p q a b c, env => (evE C a env).bind fun x e1 => if a.pth && !b.pu && !imm x then .bad else (evE C b e1).bind fun y e2 => match p.ap [x, y] with
    | some (.bl false) => .ok (.bl false) e2
    | some (.bl true) => if b.pth && !c.pu && !imm y then .bad else (evE C c e2).bind fun z e3 => match q.ap [y, z] with
      | some d => .ok d e3
      | none => .bad
    | _ => .bad
  | .tup es, env => (evOs C es env).bind fun ds e1 => if ds.length ≤ lim then .ok (.tup ds) e1 else .bad
  | .lst es, env => (evOs C es env).bind fun ds e1 => if ds.length ≤ lim then .ok (.lst true ds) e1 else .bad
  | .dic es, env => (evOs C es env).bind fun ds e1 => match ds with
    | [] => .ok (.dic true [] []) e1
    | _ => .bad
  | .call f es, env => (evCs C es env).bind fun dbs e1 => match C.call f dbs.1 with
    | .ok d fin => .ok d (giveBack dbs.2 fin e1)
    | .exc x fin => .exc x (giveBack dbs.2 fin e1)
    | .bad => .bad
  | .kcall f perm es, env => (evCs C es env).bind fun dbs e1 => match C.call f (permL perm dbs.1) with
    | .ok d fin => .ok d (giveBack (permL perm dbs.2) fin e1)
    | .exc x fin => .exc x (giveBack (permL perm dbs.2) fin e1)
    | .bad => .bad
  | .mm m o es, env => match evP C o env with
    | some (i, ks) => if (ks.isEmpty || es.pu) && mmTy m (nodeAt env i ks) then (evOs C es env).bind fun ds e1 => match e1[i]? with
        | some (some x) => match getK x ks with
          | some y => match mmAp m y ds with
            | some (r, y') => match putKs x ks y' with
              | some x' => .ok r (e1.set i (some x'))
              | none => .bad
            | none => .bad
          | none => .bad
        | _ => .bad
      else .bad
    | none => .bad
  | .dup o k v, env => (evE C o env).bind fun x e1 => match x with
    | .dic _ ks ds => if imms ds = true ∧ ks.length < lim ∧ (o.pu && (k.pu && v.pu)) = true then (evE C k e1).bind fun y e2 => (evE C v e2).bind fun z e3 => match dKey y with
        | some q => if imm z = true then .ok (.dic true (putK ks ds q z).1 (putK ks ds q z).2) e3 else .bad
        | none => .bad
      else .bad
    | _ => .bad
  | .gen all i a e, env => (evE C a env).bind fun d e1 => match seqG d with
    | some ds => match genAll (.one i) e (wipeE [i] e1) ds with
      | some bs => .ok (.bl (if all then bs.all id else bs.any id)) e1
      | none => .bad
    | none => .bad
  | .lc own t it ifs e, env => (evI C (ifs.pu && e.pu) it env).bind fun items e1 =>
    if items.length ≤ lim then match lcLoop own t (evIf C ifs) (evE C e) e.pth items (wipeE own e1) with
      | .ok rs e2 => .ok (.lst true rs) (backE own e1 e2)
      | _ => .bad
    else .bad
/-- arguments that are read -/
def evEs (C : Ctx) : Es → Env → Res (List D)
  | .nil, env => .ok [] env
  | .cons e r, env => (evE C e env).bind fun d e1 => if e.pth && !r.pu && !imm d then .bad else (evEs C r e1).bind fun ds e2 => .ok (d :: ds) e2
/-- arguments that are kept -/
def evOs (C : Ctx) : Es → Env → Res (List D)
  | .nil, env => .ok [] env
  | .cons e r, env => (evE C e env).bind fun d e1 => if e.pth && !imm d then .bad else (evOs C r e1).bind fun ds e2 => .ok (d :: ds) e2
/-- arguments of a def: what stands in a slot is lent -/
def evCs (C : Ctx) : Es → Env → Res (List D × List (Option Nat))
  | .nil, env => .ok ([], []) env
  | .cons e r, env => (evE C e env).bind fun d e1 => match e with
    | .var i => if imm d = true then (evCs C r e1).bind fun p e2 => .ok (d :: p.1, none :: p.2) e2 else (evCs C r e1).bind fun p e2 => match e2[i]? with
      | some (some d') => .ok (d' :: p.1, some i :: p.2) (e2.set i none)
      | _ => .bad
    | _ => if e.pth && !imm d then .bad else (evCs C r e1).bind fun p e2 => .ok (d :: p.1, none :: p.2) e2
/-- a path: its slot, its keys -/
def evP (C : Ctx) : E → Env → Option (Nat × List D)
  | .var i, _ => some (i, [])
  | .pidx a k, env => if k.pu then match evP C a env with
      | some (i, ks) => match evE C k env with
        | .ok d _ => some (i, ks ++ [d])
        | _ => none
      | none => none
    else none
  | _, _ => none
def evIf (C : Ctx) : Es → Env → Res Bool
  | .nil, env => .ok true env
  | .cons e r, env => (evE C e env).bind fun d e1 => match truth d with
    | some true => evIf C r e1
    | some false => .ok false e1
    | none => .bad
def evI (C : Ctx) (pur : Bool) : It → Env → Res (List D)
  | .seq e, env => (evE C e env).bind fun d e1 => match seqOf (e.pth && !pur) d with
    | some ds => .ok ds e1
    | none => .bad
  | .rng1 a, env => (evE C a env).bind fun d e1 => match d with
    | .int j => if small62 j = true then .ok (rng 0 j) e1 else .bad
    | _ => .bad
  | .rng2 a b, env => (evE C a env).bind fun x e1 => if a.pth && !b.pu && !imm x then .bad else (evE C b e1).bind fun y e2 => match x, y with
    | .int i, .int j => if small62 i = true ∧ small62 j = true then .ok (rng i j) e2 else .bad
    | _, _ => .bad
  | .rng3 _ _ _, _ => .bad
  | .enum e, env => (evE C e env).bind fun d e1 => match enumOf (e.pth && !pur) d with
    | some ds => .ok ds e1
    | none => .bad
end

def evT (C : Ctx) (e : E) (env : Env) : Res Bool := (evE C e env).bind fun d e1 => match truth d with
  | some b => .ok b e1
  | none => .bad
mutual
def evS (C : Ctx) : S → Env → SRes
  | .nop, env => .next env
  | .asg t e, env => (evE C e env).thn fun d e1 => if e.pth && !imm d || !t.free C.kp then .bad else match bindT t d e1 with
    | some e2 => .next e2
    | none => .bad
  | .sto o i e, env => (evE C e env).thn fun d e1 => if e.pth && !imm d || !i.pu then .bad else match evP C o e1, evE C i e1 with
    | some (r, ks), .ok k _ => match e1[r]? with
      | some (some x) => match getK x ks with
        | some y => match setD y k d with
          | some y' => match putKs x ks y' with
            | some x' => .next (e1.set r (some x'))
            | none => .bad
          | none => .bad
        | none => .bad
      | _ => .bad
    | _, _ => .bad
  | .aug i p e, env => match env[i]? with
    | some (some x) => if imm x = true then (evE C e env).thn fun d e1 => match p.ap [x, d] with
        | some r => if C.kp i then .bad else .next (e1.set i (some r))
        | none => .bad
      else .bad
    | _ => .bad
  | .exp e, env => (evE C e env).thn fun _ e1 => .next e1
  | .ret e, env => (evE C e env).thn fun d e1 => if e.pth && !imm d then .bad else .ret d e1
  | .ret0, env => .ret .non env
  | .brk, env => .brk env
  | .cnt, env => .cnt env
  | .ite c a b, env => (evT C c env).thn fun t e1 => if t = true then evSs C a e1 else evSs C b e1
  | .whl c b, env => whlLoop (evT C c) (evSs C b) turns env
  | .for t it b, env => (evI C false it env).thn fun ds e1 => if t.free C.kp then forLoop t (evSs C b) ds e1 else .bad
def evSs (C : Ctx) : Ss → Env → SRes
  | .nil, env => .next env
  | .cons s r, env => (evS C s env).thn fun e1 => evSs C r e1
end
end Z

namespace Z
open PySem PySem.Spec L2
variable [TabList]

/-- how an own error lies -/
abbrev XR := Exc → Value → Option Addr → Hp → Prop
abbrev eO (pu : Bool) (P : Own) : Own := fun a => pu = false ∧ P a

def PostE (K : PySem.W.Frag) (rx : XR) (W : WX) (pu pth : Bool) (P : Own) (σ : L2.St) (H : Hp) (r : Res D) (Q : VK) : Prop :=
  match r with
  | .ok d env' => ∀ v H' P1 P2, RelE K H' env' σ P1 → Rel K H' d v P2 → (pth = false → (∀ a, P1 a → ¬ P2 a) ∧ New (eO pu P) H P2) → New P H P1 → Ev (eO pu P) H H' → Q v H'
  | .exc x env' => ∀ c dd H' P1, RelE K H' env' σ P1 → rx x c dd H' → New P H P1 → Ev P H H' → W c dd σ H'
  | .bad => False
def tE (K : PySem.W.Frag) (rx : XR) (W : WX) (C : Ctx) (e : E) : TE := fun σ H Q => ∃ env P, RelE K H env σ P ∧ PostE K rx W e.pu e.pth P σ H (evE C e env) Q

/-- the arguments' reading: borrowed -/
def RB (K : PySem.W.Frag) (H : Hp) : List D → List V → Prop
  | [], vs => vs = []
  | d :: ds, vs => ∃ v vs' P, vs = v :: vs' ∧ Rel K H d v P ∧ RB K H ds vs'
def PostB (K : PySem.W.Frag) (rx : XR) (W : WX) (pu : Bool) (P : Own) (σ : L2.St) (H : Hp) (r : Res (List D)) (Q : List V → Hp → Prop) : Prop :=
  match r with
  | .ok ds env' => ∀ vs H' P1, RelE K H' env' σ P1 → RB K H' ds vs → New P H P1 → Ev (eO pu P) H H' → Q vs H'
  | .exc x env' => ∀ c dd H' P1, RelE K H' env' σ P1 → rx x c dd H' → New P H P1 → Ev P H H' → W c dd σ H'
  | .bad => False
def tB' (K : PySem.W.Frag) (rx : XR) (W : WX) (C : Ctx) (es : Es) : TA := fun σ H Q => ∃ env P, RelE K H env σ P ∧ PostB K rx W es.pu P σ H (evEs C es env) Q
/-- kept -/
def PostO (K : PySem.W.Frag) (rx : XR) (W : WX) (pu : Bool) (P : Own) (σ : L2.St) (H : Hp) (r : Res (List D)) (Q : List V → Hp → Prop) : Prop :=
  match r with
  | .ok ds env' => ∀ vs H' P1 P2, RelE K H' env' σ P1 → Rels K H' ds vs P2 → (∀ a, P1 a → ¬ P2 a) → New (eO pu P) H P2 → New P H P1 → Ev (eO pu P) H H' → Q vs H'
  | .exc x env' => ∀ c dd H' P1, RelE K H' env' σ P1 → rx x c dd H' → New P H P1 → Ev P H H' → W c dd σ H'
  | .bad => False
def tO (K : PySem.W.Frag) (rx : XR) (W : WX) (C : Ctx) (es : Es) : TA := fun σ H Q => ∃ env P, RelE K H env σ P ∧ PostO K rx W es.pu P σ H (evOs C es env) Q
/-- a test -/
def PostT (K : PySem.W.Frag) (rx : XR) (W : WX) (pu : Bool) (P : Own) (σ : L2.St) (H : Hp) (r : Res Bool) (Q : Bool → Hp → Prop) : Prop :=
  match r with
  | .ok b env' => ∀ H' P1, RelE K H' env' σ P1 → New P H P1 → Ev (eO pu P) H H' → Q b H'
  | .exc x env' => ∀ c dd H' P1, RelE K H' env' σ P1 → rx x c dd H' → New P H P1 → Ev P H H' → W c dd σ H'
  | .bad => False
def tT (K : PySem.W.Frag) (rx : XR) (W : WX) (C : Ctx) (e : E) : TT := fun σ H Q => ∃ env P, RelE K H env σ P ∧ PostT K rx W e.pu P σ H (evT C e env) Q

theorem PE.of {X : Cx} {e : Expr} {t' : TE} (h : ∀ σ H Q, t' σ H Q → ∃ t, PE X e t ∧ t σ H Q) : PE X e t' := ⟨fun pins s σ H Q I hw => let ⟨_, a, b⟩ := h σ H Q hw; a.run pins s σ H Q I b⟩
theorem PT.of {X : Cx} {e : Expr} {t' : TT} (h : ∀ σ H Q, t' σ H Q → ∃ t, PT X e t ∧ t σ H Q) : PT X e t' := ⟨fun pins s σ H Q I hw => let ⟨_, a, b⟩ := h σ H Q hw; a.run pins s σ H Q I b⟩
theorem PW.of {X : Cx} {e : Expr} {t' : TT} (h : ∀ σ H Q, t' σ H Q → ∃ t, PW X e t ∧ t σ H Q) : PW X e t' := ⟨fun wh pins s σ H Q I hw => let ⟨_, a, b⟩ := h σ H Q hw; a.run wh pins s σ H Q I b⟩
theorem PA.of {X : Cx} {e : List Expr} {t' : TA} (h : ∀ σ H Q, t' σ H Q → ∃ t, PA X e t ∧ t σ H Q) : PA X e t' := ⟨fun pos pins s σ H Q I hw => let ⟨_, a, b⟩ := h σ H Q hw; a.run pos pins s σ H Q I b⟩
theorem PS.of {X : Cx} {e : Stmt} {t' : TS} (h : ∀ D σ H, t' D σ H → ∃ t, PS X e t ∧ t D σ H) : PS X e t' := ⟨fun pins s σ H D I hw => let ⟨_, a, b⟩ := h D σ H hw; a.run pins s σ H D I b⟩
theorem PSs.of {X : Cx} {e : List Stmt} {t' : TS} (h : ∀ D σ H, t' D σ H → ∃ t, PSs X e t ∧ t D σ H) : PSs X e t' := ⟨fun pins s σ H D I hw => let ⟨_, a, b⟩ := h D σ H hw; a.run pins s σ H D I b⟩

theorem eO_sub {pu : Bool} {P : Own} : ∀ a, eO pu P a → P a := fun _ z => z.2
theorem Ev.eo {pu : Bool} {P : Own} {H H' : Hp} (e : Ev (eO pu P) H H') : Ev P H H' := e.mono eO_sub
theorem New.eo {pu : Bool} {P P1 : Own} {H : Hp} (n : New P H P1) : New P H (eO pu P1) := n.sub eO_sub
/-- two steps in a row: what they change together -/
theorem ev_and {p q : Bool} {P P1 : Own} {H H1 H2 : Hp} (a : Ev (eO p P) H H1) (b : Ev (eO q P1) H1 H2) (n : New P H P1) : Ev (eO (p && q) P) H H2 := by
  refine ⟨fun x o e t m => ?_, fun x e => b.dom x (a.dom x e), fun p h => b.tbl p (a.tbl p h)⟩
  have e1 : H1 x = some o := a.keep x o e t fun z => m ⟨by rw [z.1]; rfl, z.2⟩
  refine b.keep x o e1 t fun z => ?_
  rcases n x z.2 with y | y
  · exact m ⟨by rw [z.1, Bool.and_false], y⟩
  · rw [e] at y; cases y

theorem new_and {p q : Bool} {P P1 P2 : Own} {H H1 : Hp} (n : New P H P1) (e : Ev (eO p P) H H1) (m : New (eO q P1) H1 P2) : New (eO (p && q) P) H P2 := fun x h => by
  have back : H1 x = none → H x = none := fun h => by
    cases q : H x with
    | none => rfl
    | some o => exact absurd h (e.dom x (by rw [q]; exact fun z => nomatch z))
  rcases m x h with h | h
  · exact (n x h.2).imp (fun y => ⟨by rw [h.1, Bool.and_false], y⟩) id
  · exact .inr (back h)
section
variable {X : Cx} {rx : XR} {W : WX} {C : Ctx}
theorem PostE.exc {K : PySem.W.Frag} {pu pth pu' : Bool} {P : Own} {σ : L2.St} {H : Hp} {x : Exc} {env : Env} {Q Q' : VK} (h : PostE K rx W pu pth P σ H (.exc x env) Q) : PostE K rx W pu' pth P σ H (.exc x env) Q' := h
/-- exceptions, one step on -/
theorem exc_on {K : PySem.W.Frag} {x : Exc} {env : Env} {P P1 : Own} {σ : L2.St} {H H1 : Hp} (h : ∀ c dd H' P2, RelE K H' env σ P2 → rx x c dd H' → New P H P2 → Ev P H H' → W c dd σ H')
    (n : New P H P1) (e : Ev P H H1) : ∀ c dd H' P2, RelE K H' env σ P2 → rx x c dd H' → New P1 H1 P2 → Ev P1 H1 H' → W c dd σ H' := fun c dd H' P2 r x' n' e' => h c dd H' P2 r x' (n.trans e n') (e.trans e' n)

/-! ### names, constants -/
theorem s_var {i : Nat} {x : Str} {pos : Pos} (hN : X.N[i]? = some x) (hv : Vis X.env.scope x) (hd : (x == ("__debug__" : Str)) = false) (hcd : (x == ("__classdict__" : Str)) = false) : PE X (.Name x pos) (tE X.K rx W C (.var i)) := by
  refine PE.of fun σ H Q ⟨env, P, hE, h⟩ => ⟨_, pe_var hN hv hd hcd, ?_⟩
  simp only [evE] at h
  cases q : env[i]? with
  | none => rw [q] at h; exact h.elim
  | some od =>
    cases od with
    | none => rw [q] at h; exact h.elim
    | some d =>
      rw [q] at h
      obtain ⟨v, P1, P2, e, s, r, rs⟩ := hE.get q
      exact ⟨v, e, h v H P P1 hE r (fun z => nomatch z) New.refl Ev.refl⟩
theorem s_mov {i : Nat} {x : Str} {pos : Pos} (hN : X.N[i]? = some x) (hv : Vis X.env.scope x) (hd : (x == ("__debug__" : Str)) = false) (hcd : (x == ("__classdict__" : Str)) = false) : PE X (.Name x pos) (tE X.K rx W C (.mov i)) := by
  refine PE.of fun σ H Q ⟨env, P, hE, h⟩ => ⟨_, pe_var hN hv hd hcd, ?_⟩
  simp only [evE] at h
  cases q : env[i]? with
  | none => rw [q] at h; exact h.elim
  | some od =>
    cases od with
    | none => rw [q] at h; exact h.elim
    | some d =>
      rw [q] at h
      obtain ⟨v, P1, P2, e, s, r, rs⟩ := hE.get q
      exact ⟨v, e, h v H P2 P1 rs r (fun _ => ⟨fun a z y => s.2.2 a y z, fun a z => .inl ⟨rfl, s.1 a z⟩⟩) (fun a z => .inl (s.2.1 a z)) Ev.refl⟩
theorem s_cint {i : Int} {j pos} : PE X (.Constant (.int i) j pos) (tE X.K rx W C (.cst (.int i))) :=
  PE.of fun σ H Q ⟨env, P, hE, h⟩ => ⟨_, pe_int, h _ H P No hE rfl (fun _ => ⟨fun _ _ z => z, fun _ z => z.elim⟩) New.refl Ev.refl⟩
theorem s_cbl {b : Bool} {j pos} : PE X (.Constant (.bool b) j pos) (tE X.K rx W C (.cst (.bl b))) :=
  PE.of fun σ H Q ⟨env, P, hE, h⟩ => ⟨_, pe_bl, h _ H P No hE rfl (fun _ => ⟨fun _ _ z => z, fun _ z => z.elim⟩) New.refl Ev.refl⟩
theorem s_cnon {j pos} : PE X (.Constant .none j pos) (tE X.K rx W C (.cst .non)) :=
  PE.of fun σ H Q ⟨env, P, hE, h⟩ => ⟨_, pe_non, h _ H P No hE rfl (fun _ => ⟨fun _ _ z => z, fun _ z => z.elim⟩) New.refl Ev.refl⟩
theorem s_cstr {x : Str} {j pos} : PE X (.Constant (.str x) j pos) (tE X.K rx W C (.cst (.str x))) :=
  PE.of fun σ H Q ⟨env, P, hE, h⟩ => ⟨_, pe_str, h _ H P No hE rfl (fun _ => ⟨fun _ _ z => z, fun _ z => z.elim⟩) New.refl Ev.refl⟩
end
end Z

namespace Z
open PySem PySem.Spec L2
variable [TabList]

/-- a new value of which only new things are owned -/
def Fin (K : PySem.W.Frag) (r : D) (H : Hp) (Q : VK) : Prop := ∀ v H' P', Rel K H' r v P' → (∀ a, P' a → H a = none) → Ev No H H' → Q v H'

section
variable {K : PySem.W.Frag} {rx : XR} {W : WX} {C : Ctx} {σ : L2.St} {H : Hp} {Q : VK}
/-- from the fresh value to what is wanted -/
theorem fin_of {pu : Bool} {P P1 : Own} {H1 : Hp} {env : Env} {d : D} (hE : RelE K H1 env σ P1) (n : New P H P1) (ev : Ev (eO pu P) H H1) (h : PostE K rx W pu false P σ H (.ok d env) Q) : Fin K d H1 Q := fun v H' P' r hn e => by
  refine h v H' (Tt H1 P1) P' (hE.tight.ev e) r (fun _ => ⟨fun a z y => z.2 (hn a y), ?_⟩) (n.sub fun _ z => z.1) (ev.trans e fun a z => z.elim)
  intro a z
  right
  cases q : H a with
  | none => rfl
  | some o => exact absurd (hn a z) (ev.dom a (by rw [q]; exact fun z => nomatch z))
theorem RB.frame : ∀ {ds : List D} {vs : List V} {H H' : Hp}, RB K H ds vs → Ev No H H' → RB K H' ds vs
  | [], _, _, _, h, _ => h
  | _ :: _, _, _, _, h, e => by
    obtain ⟨v, vs', P, q, r, rs⟩ := h
    exact ⟨v, vs', P, q, r.ev e, RB.frame rs e⟩
/-- a value that is held while more is worked -/
theorem held {a : E} {pu : Bool} {P1 P2 : Own} {H1 H2 : Hp} {d : D} {v : V} (hc : (a.pth && !pu && !imm d) = false) (r : Rel K H1 d v P2) (dj : a.pth = false → ∀ a, P1 a → ¬ P2 a) (ev : Ev (eO pu P1) H1 H2) : ∃ P, Rel K H2 d v P := by
  cases hp : a.pth with
  | false => exact ⟨P2, r.frame ev fun x z y => dj hp x y.2 z⟩
  | true =>
    rw [hp] at hc
    cases hi : imm d with
    | true => exact ⟨No, (Rel.imm hi r).frame ev fun _ z => z.elim⟩
    | false =>
      rw [hi] at hc
      cases pu with
      | true => exact ⟨P2, r.frame ev fun x _ y => nomatch y.1⟩
      | false => cases hc
/-- reading the arguments from the left -/
theorem b_cons {e : E} {r : Es} {R : List V → Hp → Prop} (h : tB' K rx W C (.cons e r) σ H R) : tE K rx W C e σ H fun v H1 => tB' K rx W C r σ H1 fun vs H2 => R (v :: vs) H2 := by
  obtain ⟨env, P, hE, h⟩ := h
  refine ⟨env, P, hE, ?_⟩
  simp only [evEs] at h
  cases q : evE C e env with
  | bad => rw [q] at h; exact h.elim
  | exc x e1 => rw [q] at h; exact h
  | ok d e1 =>
    rw [q] at h
    simp only [Res.bind] at h
    intro v H1 P1 P2 r1 rd hd hn ev
    split at h
    · exact h.elim
    rename_i hc
    have hc : (e.pth && !r.pu && !imm d) = false := by simpa using hc
    refine ⟨e1, P1, r1, ?_⟩
    cases q2 : evEs C r e1 with
    | bad => rw [q2] at h; exact h.elim
    | exc x e2 =>
      rw [q2] at h
      exact exc_on h hn ev.eo
    | ok ds e2 =>
      rw [q2] at h
      intro vs H2 P3 r3 rb hn3 ev3
      obtain ⟨P4, r4⟩ := held hc rd (fun z => (hd z).1) ev3
      exact h (v :: vs) H2 P3 r3 ⟨v, vs, P4, rfl, r4, rb⟩ (hn.trans ev.eo hn3) (ev_and ev ev3 hn)
theorem b_nil {R : List V → Hp → Prop} (h : tB' K rx W C .nil σ H R) : R [] H := by
  obtain ⟨env, P, hE, h⟩ := h
  exact h [] H P hE rfl New.refl Ev.refl
/-- a pure function's arguments, then its value -/
theorem ap_b {p : PF} {es : Es} (h : tE K rx W C (.ap p es) σ H Q) : tB' K rx W C es σ H fun vs H2 => ∃ ds r, RB K H2 ds vs ∧ p.ap ds = some r ∧ Fin K r H2 Q := by
  obtain ⟨env, P, hE, h⟩ := h
  refine ⟨env, P, hE, ?_⟩
  simp only [evE] at h
  cases q : evEs C es env with
  | bad => rw [q] at h; exact h.elim
  | exc x e1 => rw [q] at h; exact h
  | ok ds e1 =>
    rw [q] at h
    simp only [Res.bind] at h
    intro vs H1 P1 r1 rb hn ev
    cases q2 : p.ap ds with
    | none => rw [q2] at h; exact h.elim
    | some r =>
      rw [q2] at h
      exact ⟨ds, r, rb, q2, fin_of r1 hn ev h⟩
/-- two arguments -/
theorem ap_two {p : PF} {a b : E} (h : tE K rx W C (.ap p (.cons a (.cons b .nil))) σ H Q) : tE K rx W C a σ H fun x H1 => tE K rx W C b σ H1 fun y H2 => ∃ d e r P2 P4, Rel K H2 d x P2 ∧ Rel K H2 e y P4 ∧ p.ap [d, e] = some r ∧ Fin K r H2 Q := by
  have mono : ∀ {e : E} {σ : L2.St} {H : Hp} {Q Q' : VK}, tE K rx W C e σ H Q → (∀ v H, Q v H → Q' v H) → tE K rx W C e σ H Q' := fun {e σ H Q Q'} h hq => by
    obtain ⟨env, P, hE, h⟩ := h
    refine ⟨env, P, hE, ?_⟩
    cases q : evE C e env with
    | bad => rw [q] at h; exact h.elim
    | exc x e1 => rw [q] at h; exact h
    | ok d e1 => rw [q] at h; exact fun v H' P1 P2 z1 z2 z3 z4 z5 => hq _ _ (h v H' P1 P2 z1 z2 z3 z4 z5)
  refine mono (b_cons (ap_b h)) fun x H1 h1 => mono (b_cons h1) fun y H2 h2 => ?_
  obtain ⟨ds, r, rb, ha, hf⟩ := b_nil h2
  cases ds with
  | nil => cases (show [x, y] = [] from rb)
  | cons d ds =>
    obtain ⟨v, vs', P2, e1, r1, rb⟩ := rb
    obtain ⟨rfl, rfl⟩ := List.cons.inj e1
    cases ds with
    | nil => cases (show [y] = [] from rb)
    | cons e ds =>
      obtain ⟨v, vs', P4, e2, r2, rb⟩ := rb
      obtain ⟨rfl, rfl⟩ := List.cons.inj e2
      cases ds with
      | nil => exact ⟨d, e, r, P2, P4, r1, r2, ha, hf⟩
      | cons f ds => obtain ⟨v, vs', P5, e3, _⟩ := rb; cases e3
theorem tE_mono {e : E} {σ : L2.St} {H : Hp} {Q Q' : VK} (h : tE K rx W C e σ H Q) (hq : ∀ v H, Q v H → Q' v H) : tE K rx W C e σ H Q' := by
  obtain ⟨env, P, hE, h⟩ := h
  refine ⟨env, P, hE, ?_⟩
  cases q : evE C e env with
  | bad => rw [q] at h; exact h.elim
  | exc x e1 => rw [q] at h; exact h
  | ok d e1 => rw [q] at h; exact fun v H' P1 P2 z1 z2 z3 z4 z5 => hq _ _ (h v H' P1 P2 z1 z2 z3 z4 z5)
theorem ap_one {p : PF} {a : E} (h : tE K rx W C (.ap p (.cons a .nil)) σ H Q) : tE K rx W C a σ H fun x H1 => ∃ d r P2, Rel K H1 d x P2 ∧ p.ap [d] = some r ∧ Fin K r H1 Q := by
  refine tE_mono (b_cons (ap_b h)) fun x H1 h1 => ?_
  obtain ⟨ds, r, rb, ha, hf⟩ := b_nil h1
  cases ds with
  | nil => cases (show [x] = [] from rb)
  | cons d ds =>
    obtain ⟨v, vs', P2, e1, r1, rb⟩ := rb
    obtain ⟨rfl, rfl⟩ := List.cons.inj e1
    cases ds with
    | nil => exact ⟨d, r, P2, r1, ha, hf⟩
    | cons f ds => obtain ⟨v, vs', P5, e3, _⟩ := rb; cases e3
end

/-- a two-place function of values -/
abbrev r2P (K : PySem.W.Frag) (p : PF) : R2 := fun x y H Q => ∃ d e r P2 P4, Rel K H d x P2 ∧ Rel K H e y P4 ∧ p.ap [d, e] = some r ∧ Fin K r H Q
abbrev r1P (K : PySem.W.Frag) (p : PF) : V → Hp → VK → Prop := fun x H Q => ∃ d r P2, Rel K H d x P2 ∧ p.ap [d] = some r ∧ Fin K r H Q
abbrev rNP (K : PySem.W.Frag) (p : PF) : List V → Hp → VK → Prop := fun vs H Q => ∃ ds r, RB K H ds vs ∧ p.ap ds = some r ∧ Fin K r H Q
theorem OpR.of {X : Cx} {f : Value → Value → Sem Value} {r' : R2} (h : ∀ x y H Q, r' x y H Q → ∃ r, OpR X f r ∧ r x y H Q) : OpR X f r' := fun pins s σ H x y v u Q I rx ry hw => let ⟨_, a, b⟩ := h x y H Q hw; a pins s σ H x y v u Q I rx ry b
theorem UnR.of {X : Cx} {f : Value → Sem Value} {r' : V → Hp → VK → Prop} (h : ∀ x H Q, r' x H Q → ∃ r, UnR X f r ∧ r x H Q) : UnR X f r' := fun pins s σ H x v Q I rx hw => let ⟨_, a, b⟩ := h x H Q hw; a pins s σ H x v Q I rx b
theorem CallR.of {X : Cx} {f : Value} {r' : List V → Hp → VK → Prop} (h : ∀ xs H Q, r' xs H Q → ∃ r, CallR X f r ∧ r xs H Q) : CallR X f r' := fun pins s σ H xs us Q I rx hw => let ⟨_, a, b⟩ := h xs H Q hw; a pins s σ H xs us Q I rx b

section
variable {X : Cx} {rx : XR} {W : WX} {C : Ctx} {a b : E} {ea eb : Expr} {pos : Pos} {p : PF}
theorem s_bin {op : Operator} (ho : OpR X (binaryOp op) (r2P X.K p)) (ha : PE X ea (tE X.K rx W C a)) (hb : PE X eb (tE X.K rx W C b)) : PE X (.BinOp ea op eb pos) (tE X.K rx W C (.ap p (.cons a (.cons b .nil)))) :=
  PE.of fun σ H Q h => ⟨_, pe_op ho ha hb, ap_two h⟩
theorem s_cmp {op : CmpOp} (ho : OpR X (compareOp op) (r2P X.K p)) (ha : PE X ea (tE X.K rx W C a)) (hb : PE X eb (tE X.K rx W C b)) (hm : behindInMarks op eb = false) : PE X (.Compare ea [op] [eb] pos) (tE X.K rx W C (.ap p (.cons a (.cons b .nil)))) :=
  PE.of fun σ H Q h => ⟨_, pe_cmpR ho ha hb hm, ap_two h⟩
theorem s_un {op : UnaryOp} (ho : UnR X (unaryOp op) (r1P X.K p)) (ha : PE X ea (tE X.K rx W C a)) : PE X (.UnaryOp op ea pos) (tE X.K rx W C (.ap p (.cons a .nil))) :=
  PE.of fun σ H Q h => ⟨_, pe_un ho ha, ap_one h⟩
theorem s_nil : PA X [] (tB' X.K rx W C .nil) := PA.of fun σ H Q h => ⟨_, pa_nil, b_nil h⟩
theorem s_cons {r : Es} {es : List Expr} (ha : PE X ea (tE X.K rx W C a)) (hr : PA X es (tB' X.K rx W C r)) (hs : starEach (ea :: es) X.env = (false, eval ea X.env) :: starEach es X.env) : PA X (ea :: es) (tB' X.K rx W C (.cons a r)) :=
  PA.of fun σ H Q h => ⟨_, pa_cons ha hr hs, b_cons h⟩
theorem s_callB {id : String} {x : Str} {po : Pos} {es : Es} {e : Expr} {el : List Expr} (hc : CallR X (.builtin id) (rNP X.K p)) (hg : Gl X x) (hm : X.mg x = none) (hv : bootBuiltins x = some (.builtin id)) (ha : PA X (e :: el) (tB' X.K rx W C es)) (hn : x ≠ "__name__") (hdb : (x == ("__debug__" : Str)) = false)
    (he : starEach (e :: el) X.env = (false, eval e X.env) :: starEach el X.env) (hpl : (backTo pos (starEach el X.env)).any (·.1) = false) : PE X (.Call (.Name x po) (e :: el) [] pos) (tE X.K rx W C (.ap p es)) :=
  PE.of fun σ H Q h => ⟨_, pe_callB hc hg hm hv ha hn hdb he hpl, ap_b h⟩
theorem s_callTy {T : String} {x : Str} {po : Pos} {es : Es} {e : Expr} {el : List Expr} (hc : CallR X (.type T) (rNP X.K p)) (hg : Gl X x) (hm : X.mg x = none) (hv : bootBuiltins x = some (.type T)) (ha : PA X (e :: el) (tB' X.K rx W C es)) (hn : x ≠ "__name__") (hdb : (x == ("__debug__" : Str)) = false)
    (he : starEach (e :: el) X.env = (false, eval e X.env) :: starEach el X.env) (hpl : (backTo pos (starEach el X.env)).any (·.1) = false) : PE X (.Call (.Name x po) (e :: el) [] pos) (tE X.K rx W C (.ap p es)) :=
  PE.of fun σ H Q h => ⟨_, pe_callTy hc hg hm hv ha hn hdb he hpl, ap_b h⟩
end
end Z

namespace Z
open PySem PySem.Spec L2
variable [TabList]

section
variable {K : PySem.W.Frag} {H : Hp} {Q : VK}
theorem Ev.laid {O : Own} {p : Addr} {o : HO} (h : H p = none) : Ev O H (upd H p o) :=
  ⟨fun a u e _ _ => by rw [upd_ne (ne_of_none e h)]; exact e, fun a e => by
    by_cases q : a = p
    · rw [q, upd_same]; exact fun z => nomatch z
    · rw [upd_ne q]; exact e, fun _ t => t.new h⟩
theorem Fin.int {i : Int} (h : Fin K (.int i) H Q) : Q (.int i) H := h _ H No rfl (fun _ z => z.elim) Ev.refl
theorem Fin.bl {i : Bool} (h : Fin K (.bl i) H Q) : Q (.bl i) H := h _ H No rfl (fun _ z => z.elim) Ev.refl
theorem Fin.str {i : Str} (h : Fin K (.str i) H Q) : Q (.str i) H := h _ H No rfl (fun _ z => z.elim) Ev.refl
theorem Fin.non (h : Fin K .non H Q) : Q .non H := h _ H No rfl (fun _ z => z.elim) Ev.refl
theorem Fin.lst {ds : List D} {vs : List V} {p : Addr} (h : Fin K (.lst true ds) H Q) (hp : H p = none) (r : Rels K H ds vs No) : Q (.ref p) (upd H p (.lst vs)) :=
  h _ _ (fun a => a = p) ⟨p, vs, No, rfl, ⟨upd_same, rfl, fun _ z => z.elim⟩, r.frame (Ev.laid (O := No) hp) fun _ z => z.elim⟩ (fun a z => by rw [z]; exact hp) (Ev.laid hp)
theorem Fin.tup {ds : List D} {vs : List V} {p : Addr} (h : Fin K (.tup ds) H Q) (hp : H p = none) (r : Rels K H ds vs No) : Q (.ref p) (upd H p (.tup vs)) :=
  h _ _ No ⟨p, vs, rfl, .inl (.inl upd_same), r.frame (Ev.laid (O := No) hp) fun _ z => z.elim⟩ (fun a z => z.elim) (Ev.laid hp)
theorem Fin.old {d : D} {v : V} {P : Own} (h : Fin K d H Q) (i : imm d = true) (r : Rel K H d v P) : Q v H := h v H No (Rel.imm i r) (fun _ z => z.elim) Ev.refl

/-! ### data -/
mutual
theorem dp_of : ∀ {d : D} {v : V} {P : Own} {x : PyData}, Rel K H d v P → toPy d = some x → Dp K H v x
  | .non, _, _, _, r, h => by cases (show _ = V.non from r); cases h; exact .non
  | .bl b, _, _, _, r, h => by cases (show _ = V.bl b from r); cases h; exact .bl b
  | .int i, _, _, _, r, h => by cases (show _ = V.int i from r); cases h; exact .int i
  | .str s, _, _, _, r, h => by cases (show _ = V.str s from r); cases h; exact .str s
  | .tup ds, _, _, _, r, h => by
    obtain ⟨a, vs, rfl, s, rs⟩ := r
    simp only [toPy, Option.map_eq_some_iff] at h
    obtain ⟨xs, hx, rfl⟩ := h
    exact .tup s (dps_of rs hx)
  | .lst m ds, _, _, _, r, h => by
    obtain ⟨a, vs, Q, rfl, s, rs⟩ := r
    simp only [toPy, Option.map_eq_some_iff] at h
    obtain ⟨xs, hx, rfl⟩ := h
    exact .lst (.inl s.rd) (dps_of rs hx)
  | .dic _ _ _, _, _, _, _, h => by simp [toPy] at h
  | .dit _ _ _, _, _, _, _, h => by simp [toPy] at h
  | .set _ _, _, _, _, _, h => by simp [toPy] at h
  | .scr _, _, _, _, _, h => by simp [toPy] at h
theorem dps_of : ∀ {ds : List D} {vs : List V} {P : Own} {xs : List PyData}, Rels K H ds vs P → toPys ds = some xs → DpAll K H vs xs
  | [], vs, _, _, r, h => by
    have e : vs = [] := r
    subst e
    cases h
    exact .nil
  | d :: ds, _, _, _, r, h => by
    obtain ⟨v, vs', P1, P2, rfl, s, r1, rs⟩ := r
    simp only [toPys, Option.bind_eq_some_iff, Option.map_eq_some_iff] at h
    obtain ⟨p, hp, ps, hps, rfl⟩ := h
    exact .cons (dp_of r1 hp) (dps_of rs hps)
end
theorem ints_of : ∀ {ds : List D} {vs : List V} {P : Own} {ns : List Int}, Rels K H ds vs P → dInts ds = some ns → vs = ns.map V.int
  | [], vs, _, _, r, h => by
    have e : vs = [] := r
    subst e
    cases h
    rfl
  | d :: ds, _, _, _, r, h => by
    obtain ⟨v, vs', P1, P2, rfl, s, r1, rs⟩ := r
    cases d <;> simp only [dInts, Option.map_eq_some_iff, reduceCtorEq] at h
    obtain ⟨l, hl, rfl⟩ := h
    rw [ints_of rs hl, show v = _ from r1]
    rfl
theorem rels_ints : ∀ {ns : List Int}, Rels K H (ns.map D.int) (ns.map V.int) No
  | [] => rfl
  | n :: ns => ⟨_, _, No, No, rfl, Sep.nl, rfl, rels_ints⟩
theorem look_val {κ : Type} [DecidableEq κ] {k : κ} : ∀ {kvs : List (κ × V)} {ds : List D} {P : Own}, Rels K H ds (kvs.map (·.2)) P →
    (look (kvs.map (·.1)) ds k = none ∧ valV kvs k = none) ∨ ∃ d v P1, look (kvs.map (·.1)) ds k = some d ∧ valV kvs k = some v ∧ (∀ a, P1 a → P a) ∧ Rel K H d v P1
  | [], ds, _, r => .inl ⟨by simp [look, kIx], rfl⟩
  | (q, v) :: kvs, ds, _, r => by
    cases ds with
    | nil => cases (show v :: kvs.map (·.2) = [] from r)
    | cons d ds =>
      obtain ⟨v', vs', P1, P2, e, s, r1, rs⟩ := r
      obtain ⟨rfl, rfl⟩ := List.cons.inj e
      by_cases hq : q = k
      · right
        exact ⟨d, v, P1, by simp [look, kIx, hq], valV_pos hq, s.1, r1⟩
      · have e1 : look (((q, v) :: kvs).map (·.1)) (d :: ds) k = look (kvs.map (·.1)) ds k := by
          simp only [look, List.map_cons, kIx, if_neg hq]
          cases kIx (kvs.map (·.1)) k <;> simp
        rw [e1, valV_neg hq]
        rcases look_val (k := k) rs with h | ⟨d, v, P3, h1, h2, h3, h4⟩
        · exact .inl h
        · exact .inr ⟨d, v, P3, h1, h2, fun a z => s.2.1 a (h3 a z), h4⟩
theorem key_val {d : D} {v : V} {P : Own} {k : Key} (r : Rel K H d v P) (h : dKey d = some k) : v = kV k := by
  cases d <;> simp only [dKey, reduceCtorEq, Option.some.injEq] at h <;> subst h <;> exact r
theorem Rels.cut {ds : List D} {vs : List V} {P : Own} (r : Rels K H ds vs P) (lo hi : Option Int) (i : imms ds = true) : Rels K H (cutL ds lo hi) (cutV vs lo hi) No := by
  have tk : ∀ {ds : List D} {vs : List V} (n : Nat), Rels K H ds vs No → Rels K H (ds.take n) (vs.take n) No := by
    intro ds
    induction ds with
    | nil => intro vs n h; have e : vs = [] := h; subst e; simp; exact rfl
    | cons d ds ih =>
      intro vs n h
      obtain ⟨v, vs', P1, P2, rfl, s, r1, rs⟩ := h
      cases n with
      | zero => exact rfl
      | succ n => exact Rels.cons Sep.nl (r1.mono s.1) (ih n (rs.mono s.2.1))
  have dr : ∀ {ds : List D} {vs : List V} (n : Nat), Rels K H ds vs No → Rels K H (ds.drop n) (vs.drop n) No := by
    intro ds
    induction ds with
    | nil => intro vs n h; have e : vs = [] := h; subst e; simp; exact rfl
    | cons d ds ih =>
      intro vs n h
      cases n with
      | zero => exact h
      | succ n =>
        obtain ⟨v, vs', P1, P2, rfl, s, r1, rs⟩ := h
        exact ih n (rs.mono s.2.1)
  unfold cutL cutV
  rw [r.length]
  exact tk _ (dr _ (Rels.imm i r))
theorem Rels.atI {ds : List D} {vs : List V} {P : Own} {i : Int} {d : D} (r : Rels K H ds vs P) (h : atI ds i = some d) : ∃ v P1, L2.atI vs i = some v ∧ (∀ a, P1 a → P a) ∧ Rel K H d v P1 := by
  unfold L2.atI at h ⊢
  rw [r.length] at h
  obtain ⟨j, hj, hd⟩ := Option.bind_eq_some_iff.mp h
  obtain ⟨v, P1, e, s, r1⟩ := r.get hd
  exact ⟨v, P1, by rw [hj]; exact e, s, r1⟩
theorem dInts_map : ∀ (ns : List Int), dInts (ns.map D.int) = some ns
  | [] => rfl
  | n :: ns => by simp [dInts, dInts_map ns]
end

section
variable {X : Cx} {k : Nat}
theorem I_rdlst {pins : List (Addr × Obj)} {σ : L2.St} {H : Hp} {s : Shared} {p : Addr} {xs : List V} (I : Inv X pins σ H s) (h : Rd H p (.lst xs)) :
    xs.length ≤ sizeLine ∧ ∃ (its : List Value) (n : Nat), Vals xs its ∧ xs.length = its.length ∧ s.heap.get? p = some { cls := .type "list", data := .seq its.toArray n } := by
  obtain ⟨z, its, n, r, e⟩ := h.ok I.hok
  exact ⟨z, its, n, r, r.length, e⟩
theorem op_catR : OpR X (binaryOp .Add) (fun x y H Q => ∃ l b xs zs, x = .ref l ∧ y = .ref b ∧ Rd H l (.lst xs) ∧ Rd H b (.lst zs) ∧ xs.length + zs.length ≤ sizeLine ∧ ∀ p, H p = none → Q (.ref p) (upd H p (.lst (xs ++ zs)))) := by
  intro pins s σ H x y v u Q I rx ry h
  obtain ⟨l, b, xs, zs, rfl, rfl, hH, hB, hz, q⟩ := h
  cases rx
  cases ry
  obtain ⟨z, its, n, r, hl, e⟩ := I_rdlst I hH
  obtain ⟨z2, its2, n2, r2, hl2, e2⟩ := I_rdlst I hB
  refine PySem.P.add_list e e2 ?_ (by rw [List.size_toArray, List.size_toArray]; omega)
  have ea : its.toArray ++ its2.toArray = (its ++ its2).toArray := by simp
  rw [ea]
  exact ⟨.ref _, _, I.lnew (t' := s.toks) (r.append r2) (by rw [List.length_append]; omega), rfl, q _ I.fresh⟩
theorem lim_eq : lim = sizeLine := by rw [sizeLine_eq]

theorem rels_rep {K : PySem.W.Frag} {H : Hp} {ds : List D} {vs : List V} (r : Rels K H ds vs No) : ∀ n : Nat, Rels K H (List.replicate n ds).flatten (List.replicate n vs).flatten No
  | 0 => rfl
  | n + 1 => by
    simp only [List.replicate_succ, List.flatten_cons]
    exact Rels.append Sep.nl r (rels_rep r n)
theorem o_add : OpR X (binaryOp .Add) (r2P X.K .add) := by
  refine OpR.of fun x y H Q ⟨d, e, r, P2, P4, rd, re, ha, hf⟩ => ?_
  simp only [PF.ap] at ha
  cases d <;> cases e <;> simp only [opAdd, reduceCtorEq, Option.some.injEq, Option.ite_none_right_eq_some] at ha
  · subst ha; exact ⟨_, op_add_ib, _, _, rd, re, hf.int⟩
  · subst ha; exact ⟨_, op_add, _, _, rd, re, hf.int⟩
  · obtain ⟨h1, rfl⟩ := ha; exact ⟨_, op_add_str, _, _, rd, re, by rw [← lim_eq]; exact h1, hf.str⟩
  · rename_i ds es
    obtain ⟨⟨h1, i1, i2⟩, rfl⟩ := ha
    obtain ⟨a, vs, rfl, s1, r1⟩ := rd
    obtain ⟨b, ws, rfl, s2, r2⟩ := re
    have l1 := r1.length
    have l2 := r2.length
    refine ⟨_, op_catA, a, b, vs, ws, rfl, rfl, s1, s2, by rw [← lim_eq]; omega, fun z => ?_, fun _ z => ?_, fun _ _ p hp => ?_⟩
    · subst z
      have e1 : ds = [] := List.eq_nil_of_length_eq_zero l1
      subst e1
      exact hf.old (by simpa [imm] using i2) ⟨b, ws, rfl, s2, r2⟩
    · subst z
      have e1 : es = [] := List.eq_nil_of_length_eq_zero l2
      subst e1
      rw [List.append_nil] at hf
      exact hf.old (by simpa [imm] using i1) ⟨a, vs, rfl, s1, r1⟩
    · exact hf.tup hp (Rels.append Sep.nl (Rels.imm i1 r1) (Rels.imm i2 r2))
  · obtain ⟨⟨h1, i1, i2⟩, rfl⟩ := ha
    obtain ⟨a, vs, Q1, rfl, s1, r1⟩ := rd
    obtain ⟨b, ws, Q2, rfl, s2, r2⟩ := re
    have l1 := r1.length
    have l2 := r2.length
    exact ⟨_, op_catR, a, b, vs, ws, rfl, rfl, s1.rd, s2.rd, by rw [← lim_eq]; omega, fun p hp => hf.lst hp (Rels.append Sep.nl (Rels.imm i1 r1) (Rels.imm i2 r2))⟩
theorem o_sub : OpR X (binaryOp .Sub) (r2P X.K .sub) := by
  refine OpR.of fun x y H Q ⟨d, e, r, P2, P4, rd, re, ha, hf⟩ => ?_
  cases d <;> cases e <;> simp only [PF.ap, reduceCtorEq, Option.some.injEq] at ha
  subst ha; exact ⟨_, op_sub, _, _, rd, re, hf.int⟩
theorem o_mul : OpR X (binaryOp .Mult) (r2P X.K .mul) := by
  refine OpR.of fun x y H Q ⟨d, e, r, P2, P4, rd, re, ha, hf⟩ => ?_
  simp only [PF.ap] at ha
  cases d <;> cases e <;> simp only [opMul, reduceCtorEq, Option.some.injEq, Option.ite_none_right_eq_some] at ha
  · obtain ⟨h1, rfl⟩ := ha
    simp only [mulOk, Bool.or_eq_true, decide_eq_true_eq] at h1
    rcases h1 with h1 | h1
    · exact ⟨_, op_mul, _, _, rd, re, h1.elim (fun h => .inl ⟨by omega, by omega⟩) (fun h => .inr ⟨by omega, by omega⟩), hf.int⟩
    · refine ⟨_, op_mulW, _, _, rd, re, ?_, hf.int⟩
      unfold CMulW
      omega
  · rename_i m ds k
    cases m <;> simp only [reduceCtorEq, Option.ite_none_right_eq_some, Option.some.injEq] at ha
    obtain ⟨⟨h1, h3, i1⟩, rfl⟩ := ha
    obtain ⟨a, vs, Q1, rfl, s1, r1⟩ := rd
    have l1 := r1.length
    refine ⟨_, op_rep, a, _, vs, rfl, re, s1.1, by omega, by omega, by rw [← lim_eq, ← l1]; exact h3, fun p hp => hf.lst hp ?_⟩
    exact rels_rep (Rels.imm i1 r1) _
theorem o_fdiv : OpR X (binaryOp .FloorDiv) (r2P X.K .fdiv) := by
  refine OpR.of fun x y H Q ⟨d, e, r, P2, P4, rd, re, ha, hf⟩ => ?_
  simp only [PF.ap] at ha
  cases d <;> cases e <;> simp only [opDiv, reduceCtorEq, Option.some.injEq, Option.ite_none_right_eq_some] at ha
  obtain ⟨⟨h1, h2⟩, rfl⟩ := ha
  exact ⟨_, op_fdivW, _, _, rd, re, ⟨h1, by omega⟩, hf.int⟩
theorem o_mod : OpR X (binaryOp .Mod) (r2P X.K .mod) := by
  refine OpR.of fun x y H Q ⟨d, e, r, P2, P4, rd, re, ha, hf⟩ => ?_
  simp only [PF.ap] at ha
  cases d <;> cases e <;> simp only [opMod, reduceCtorEq, Option.some.injEq, Option.ite_none_right_eq_some] at ha
  obtain ⟨h1, rfl⟩ := ha
  exact ⟨_, op_mod, _, _, rd, re, h1, hf.int⟩
theorem o_pow : OpR X (binaryOp .Pow) (r2P X.K .pow) := by
  refine OpR.of fun x y H Q ⟨d, e, r, P2, P4, rd, re, ha, hf⟩ => ?_
  simp only [PF.ap] at ha
  cases d <;> cases e <;> simp only [opPow, reduceCtorEq, Option.some.injEq, Option.ite_none_right_eq_some] at ha
  obtain ⟨h1, rfl⟩ := ha
  exact ⟨_, op_pow, _, _, rd, re, ⟨h1.1, by omega, h1.2.2⟩, hf.int⟩
theorem o_shl : OpR X (binaryOp .LShift) (r2P X.K .shl) := by
  refine OpR.of fun x y H Q ⟨d, e, r, P2, P4, rd, re, ha, hf⟩ => ?_
  simp only [PF.ap] at ha
  cases d <;> cases e <;> simp only [opShl, reduceCtorEq, Option.some.injEq, Option.ite_none_right_eq_some] at ha
  obtain ⟨h1, rfl⟩ := ha
  exact ⟨_, op_shl, _, _, rd, re, ⟨h1.1, by omega, h1.2.2⟩, hf.int⟩
theorem o_neg : UnR X (unaryOp .USub) (r1P X.K .neg) := by
  refine UnR.of fun x H Q ⟨d, r, P2, rd, ha, hf⟩ => ?_
  cases d <;> simp only [PF.ap, reduceCtorEq, Option.some.injEq] at ha
  subst ha
  exact ⟨_, un_neg, _, rd, hf.int⟩
theorem o_eq (hr : Room k X.A) : OpR X (compareOp .Eq) (r2P X.K .eq) := by
  refine OpR.of fun x y H Q ⟨d, e, r, P2, P4, rd, re, ha, hf⟩ => ?_
  simp only [PF.ap, dEq, Option.map_eq_some_iff, Option.bind_eq_some_iff, Option.ite_none_right_eq_some, Option.some.injEq, Bool.and_eq_true] at ha
  obtain ⟨b, ⟨x1, h1, x2, h2, ⟨h3, h4⟩, rfl⟩, rfl⟩ := ha
  exact ⟨_, op_eqD hr.units, x1, x2, dp_of rd h1, dp_of re h2, h3, h4, hf.bl⟩
theorem o_ne (hr : Room k X.A) : OpR X (compareOp .NotEq) (r2P X.K .ne) := by
  refine OpR.of fun x y H Q ⟨d, e, r, P2, P4, rd, re, ha, hf⟩ => ?_
  simp only [PF.ap, dEq, Option.map_eq_some_iff, Option.bind_eq_some_iff, Option.ite_none_right_eq_some, Option.some.injEq, Bool.and_eq_true] at ha
  obtain ⟨b, ⟨x1, h1, x2, h2, ⟨h3, h4⟩, rfl⟩, rfl⟩ := ha
  exact ⟨_, op_neD hr.units, x1, x2, dp_of rd h1, dp_of re h2, h3, h4, hf.bl⟩
theorem o_lt (hr : Room k X.A) : OpR X (compareOp .Lt) (r2P X.K .lt) := by
  refine OpR.of fun x y H Q ⟨d, e, r, P2, P4, rd, re, ha, hf⟩ => ?_
  simp only [PF.ap, Option.map_eq_some_iff] at ha
  obtain ⟨b, ha, rfl⟩ := ha
  cases d <;> cases e <;> simp only [opLt, reduceCtorEq, Option.some.injEq, Option.map_eq_some_iff, Option.bind_eq_some_iff] at ha
  · subst ha; exact ⟨_, op_lt, _, _, rd, re, hf.bl⟩
  · subst ha; exact ⟨_, op_lt_str, _, _, rd, re, hf.bl⟩
  · obtain ⟨xs, h1, ys, h2, rfl⟩ := ha
    obtain ⟨a, vs, rfl, s1, r1⟩ := rd
    obtain ⟨c, ws, rfl, s2, r2⟩ := re
    rw [ints_of r1 h1] at s1
    rw [ints_of r2 h2] at s2
    exact ⟨_, op_ltT hr.units0, a, c, xs, ys, rfl, rfl, s1, s2, hf.bl⟩
theorem o_gt : OpR X (compareOp .Gt) (r2P X.K .gt) := by
  refine OpR.of fun x y H Q ⟨d, e, r, P2, P4, rd, re, ha, hf⟩ => ?_
  simp only [PF.ap, Option.map_eq_some_iff] at ha
  obtain ⟨b, ha, rfl⟩ := ha
  cases d <;> cases e <;> simp only [opGt, reduceCtorEq, Option.some.injEq] at ha
  subst ha; exact ⟨_, op_gt, _, _, rd, re, hf.bl⟩
theorem o_le : OpR X (compareOp .LtE) (r2P X.K .le) := by
  refine OpR.of fun x y H Q ⟨d, e, r, P2, P4, rd, re, ha, hf⟩ => ?_
  simp only [PF.ap, Option.map_eq_some_iff] at ha
  obtain ⟨b, ha, rfl⟩ := ha
  cases d <;> cases e <;> simp only [opLe, reduceCtorEq, Option.some.injEq] at ha
  subst ha; exact ⟨_, op_le, _, _, rd, re, hf.bl⟩
theorem o_ge : OpR X (compareOp .GtE) (r2P X.K .ge) := by
  refine OpR.of fun x y H Q ⟨d, e, r, P2, P4, rd, re, ha, hf⟩ => ?_
  simp only [PF.ap, Option.map_eq_some_iff] at ha
  obtain ⟨b, ha, rfl⟩ := ha
  cases d <;> cases e <;> simp only [opLe, reduceCtorEq, Option.some.injEq] at ha
  subst ha; exact ⟨_, op_ge, _, _, rd, re, hf.bl⟩
theorem o_in (hr : Room k X.A) : OpR X (compareOp .In) (r2P X.K .inn) := by
  refine OpR.of fun x y H Q ⟨d, e, r, P2, P4, rd, re, ha, hf⟩ => ?_
  simp only [PF.ap, Option.map_eq_some_iff] at ha
  obtain ⟨b, ha, rfl⟩ := ha
  have hu : X.A.units + 65 < cLine := by have := hr.un; omega
  cases e <;> simp only [opIn, reduceCtorEq, Option.some.injEq, Option.map_eq_some_iff, Option.bind_eq_some_iff, Option.ite_none_right_eq_some, Bool.and_eq_true] at ha
  · cases d <;> simp only [reduceCtorEq, Option.some.injEq] at ha
    subst ha
    exact ⟨_, op_in_str, _, _, rd, re, hf.bl⟩
  · obtain ⟨x1, h1, ys, h2, ⟨h3, h4⟩, rfl⟩ := ha
    refine ⟨fun x y H Q => ∃ d ds, Dp X.K H x d ∧ Dp X.K H y (.tuple ds) ∧ SeqAt.shaped d = true ∧ SeqAt.shaped (.tuple ds) = true ∧ Q (.bl (ds.any fun z => PyData.eqv z d)) H, ?_, x1, ys, dp_of rd h1, dp_of re (by simp [toPy, h2]), h3, h4, hf.bl⟩
    intro pins s σ H x y v u Q I rx ry h
    obtain ⟨d, ds, hd, he, sd, se, q⟩ := h
    obtain ⟨as, r1⟩ := Dp.reads I d x v hd rx
    obtain ⟨bs, r2⟩ := Dp.reads I (.tuple ds) y u he ry
    exact SeqAt.in_tuple_reads r2 r1 (SeqAt.canLay_of_shaped se) (SeqAt.canLay_of_shaped sd) (PyProof.Rows.room_in_shaped sd hu) ⟨.bl _, H, I, rfl, q⟩
  · obtain ⟨x1, h1, ys, h2, ⟨h3, h4⟩, rfl⟩ := ha
    exact ⟨_, op_inD hu, x1, ys, dp_of rd h1, dp_of re (by simp [toPy, h2]), h3, h4, hf.bl⟩
  · obtain ⟨q, hq, rfl⟩ := ha
    obtain ⟨a, kvs, Q1, rfl, s1, ⟨rfl, nd⟩, r1⟩ := re
    refine ⟨fun x y H Q => ∃ a o, y = .ref a ∧ DGet H a x o ∧ Q (.bl o.isSome) H, ?_, a, valV kvs q, rfl, .inl ⟨kvs, q, s1.rd, key_val rd hq, rfl⟩, ?_⟩
    · intro pins s σ H x y v u Q I rx ry h
      obtain ⟨a, o, rfl, g, q⟩ := h
      obtain rfl : u = Value.ref a := ry
      exact d_in (by have := hr.un; omega) I g rx fun s3 I3 => ⟨.bl o.isSome, H, I3, rfl, q⟩
    · rcases look_val (k := q) r1 with ⟨h1, h2⟩ | ⟨d', v', P1, h1, h2, _, _⟩
      · rw [h1] at hf; rw [h2]; exact hf.bl
      · rw [h1] at hf; rw [h2]; exact hf.bl
theorem o_nin (hr : Room k X.A) : OpR X (compareOp .NotIn) (r2P X.K .nin) := by
  refine OpR.of fun x y H Q ⟨d, e, r, P2, P4, rd, re, ha, hf⟩ => ?_
  simp only [PF.ap, Option.map_eq_some_iff] at ha
  obtain ⟨b, ha, rfl⟩ := ha
  have hu : X.A.units + 65 < cLine := by have := hr.un; omega
  cases e <;> simp only [opIn, reduceCtorEq, Option.some.injEq, Option.map_eq_some_iff, Option.bind_eq_some_iff, Option.ite_none_right_eq_some, Bool.and_eq_true] at ha
  · cases d <;> simp only [reduceCtorEq, Option.some.injEq] at ha
    subst ha
    exact ⟨_, op_notin_str, _, _, rd, re, hf.bl⟩
  · obtain ⟨x1, h1, ys, h2, ⟨h3, h4⟩, rfl⟩ := ha
    refine ⟨fun x y H Q => ∃ d ds, Dp X.K H x d ∧ Dp X.K H y (.tuple ds) ∧ SeqAt.shaped d = true ∧ SeqAt.shaped (.tuple ds) = true ∧ Q (.bl (!ds.any fun z => PyData.eqv z d)) H, ?_, x1, ys, dp_of rd h1, dp_of re (by simp [toPy, h2]), h3, h4, hf.bl⟩
    intro pins s σ H x y v u Q I rx ry h
    obtain ⟨d, ds, hd, he, sd, se, q⟩ := h
    obtain ⟨as, r1⟩ := Dp.reads I d x v hd rx
    obtain ⟨bs, r2⟩ := Dp.reads I (.tuple ds) y u he ry
    exact SeqAt.notIn_tuple_reads r2 r1 (SeqAt.canLay_of_shaped se) (SeqAt.canLay_of_shaped sd) (PyProof.Rows.room_in_shaped sd hu) ⟨.bl _, H, I, rfl, q⟩
  · obtain ⟨x1, h1, ys, h2, ⟨h3, h4⟩, rfl⟩ := ha
    exact ⟨_, op_notInD hu, x1, ys, dp_of rd h1, dp_of re (by simp [toPy, h2]), h3, h4, hf.bl⟩
  · obtain ⟨q, hq, rfl⟩ := ha
    obtain ⟨a, kvs, Q1, rfl, s1, ⟨rfl, nd⟩, r1⟩ := re
    refine ⟨fun x y H Q => ∃ a o, y = .ref a ∧ DGet H a x o ∧ Q (.bl (!o.isSome)) H, ?_, a, valV kvs q, rfl, .inl ⟨kvs, q, s1.rd, key_val rd hq, rfl⟩, ?_⟩
    · intro pins s σ H x y v u Q I rx ry h
      obtain ⟨a, o, rfl, g, q⟩ := h
      obtain rfl : u = Value.ref a := ry
      exact d_notIn (by have := hr.un; omega) I g rx fun s3 I3 => ⟨.bl (!o.isSome), H, I3, rfl, q⟩
    · rcases look_val (k := q) r1 with ⟨h1, h2⟩ | ⟨d', v', P1, h1, h2, _, _⟩
      · rw [h1] at hf; rw [h2]; exact hf.bl
      · rw [h1] at hf; rw [h2]; exact hf.bl
end
end Z

namespace Z
open PySem PySem.Spec L2
variable [TabList]

section
variable {X : Cx} {k : Nat}
theorem IxR.of {r' : R2} (h : ∀ x y H Q, r' x y H Q → ∃ r, IxR X r ∧ r x y H Q) : IxR X r' := fun a b pins s σ H x y v u Q I rx ry hw hs => let ⟨_, i, j⟩ := h x y H Q hw; i a b pins s σ H x y v u Q I rx ry j hs
theorem ix_dict (hr : Room k X.A) : IxR X (fun x y H Q => ∃ a v, x = .ref a ∧ DGet H a y (some v) ∧ Q v H) := by
  intro value slice pins s σ H x y v u Q I rx ry h hs
  obtain ⟨a, w, rfl, g, q⟩ := h
  obtain rfl : v = Value.ref a := rx
  have hT := dict_typeIs I g
  unfold PyProof.Rows.subscriptTail
  refine wpAny_bind ?_
  rw [getitemInPython_of_ne hT.not_modules]
  refine wpAny_bind (wpAny_specialOf hT PySem.F.slot_dict_getitem.lookup ?_)
  have fin : wpAny (model X.prog X.w) X.A (subscripted slice false (.ref a) u) (fun r s₃ => wpAny (model X.prog X.w) X.A (letTemporaryGo value (.ref a) r >>= fun _ => pure r) (EP X pins σ Q) X.xe s₃) X.xe s := by
    rw [hs]
    exact wpAny_operating (d_getItem (by have := hr.un; omega) I g ry fun w' s3 I3 rw' => wpAny_bind (wpAny_letTemporaryGo (wpAny_pure ⟨w, H, I3, rw', q⟩)))
  first
    | exact wpAny_pure (wpAny_bind fin)
    | exact wpAny_bind (wpAny_pure (wpAny_bind fin))
    | exact wpAny_bind fin
/-- a part of a value, whatever is owned in it -/
abbrev rStep (K : PySem.W.Frag) : R2 := fun x y H Q => ∃ d e r P2 P4, Rel K H d x P2 ∧ Rel K H e y P4 ∧ opIdx d e = some r ∧ ∀ v P', (∀ a, P' a → P2 a) → Rel K H r v P' → Q v H
theorem ix_step (hr : Room k X.A) : IxR X (rStep X.K) := by
  refine IxR.of fun x y H Q ⟨d, e, r, P2, P4, rd, re, ha, hf⟩ => ?_
  cases d <;> simp only [opIdx, reduceCtorEq] at ha
  · cases e <;> simp only [reduceCtorEq, Option.ite_none_right_eq_some, Option.map_eq_some_iff] at ha
    obtain ⟨h1, c, hc, rfl⟩ := ha
    exact ⟨_, ix_str, _, _, c, rd, re, by rw [← lim_eq]; exact h1, hc, hf _ No (fun _ z => z.elim) rfl⟩
  · cases e <;> simp only [reduceCtorEq] at ha
    obtain ⟨a, vs, rfl, s1, r1⟩ := rd
    obtain ⟨v, P1, e1, sb, r2⟩ := r1.atI ha
    exact ⟨_, ix_tup, a, vs, _, v, rfl, re, s1, e1, hf v P1 sb r2⟩
  · cases e <;> simp only [reduceCtorEq] at ha
    obtain ⟨a, vs, Q1, rfl, s1, r1⟩ := rd
    obtain ⟨v, P1, e1, sb, r2⟩ := r1.atI ha
    exact ⟨_, ix_list, a, vs, _, v, rfl, re, .inl s1.rd, e1, hf v P1 (fun a z => s1.sub a (sb a z)) r2⟩
  · obtain ⟨q, hq, hl⟩ := Option.bind_eq_some_iff.mp ha
    obtain ⟨a, kvs, Q1, rfl, s1, ⟨rfl, nd⟩, r1⟩ := rd
    rcases look_val (k := q) r1 with ⟨h1, _⟩ | ⟨d', v', P1, h1, h2, h3, h4⟩
    · rw [h1] at hl; cases hl
    · rw [h1] at hl
      cases hl
      exact ⟨_, ix_dict hr, a, v', rfl, .inl ⟨kvs, q, s1.rd, key_val re hq, h2.symm⟩, hf v' P1 (fun a z => s1.sub a (h3 a z)) h4⟩
theorem ix_ap (hr : Room k X.A) : IxR X (r2P X.K .idx) := by
  refine IxR.of fun x y H Q ⟨d, e, r, P2, P4, rd, re, ha, hf⟩ => ⟨_, ix_step hr, d, e, r, P2, P4, rd, re, ?_⟩
  simp only [PF.ap, Option.bind_eq_some_iff, Option.ite_none_right_eq_some, Option.some.injEq] at ha
  obtain ⟨r', h1, h2, rfl⟩ := ha
  exact ⟨h1, fun v P' _ rv => hf.old h2 rv⟩

theorem imms_ints : ∀ {ns : List Int}, imms (ns.map D.int) = true
  | [] => rfl
  | n :: ns => by simp only [List.map_cons, imms, imm, Bool.true_and]; exact imms_ints
/-! ### slices -/
theorem SlR.of {r' : V → Option Int → Option Int → Hp → VK → Prop} (h : ∀ x lo hi H Q, r' x lo hi H Q → ∃ r, SlR X r ∧ r x lo hi H Q) : SlR X r' := fun pins s σ H x v vl vu lo hi sl Q I rx hs pl pu hw => let ⟨_, a, b⟩ := h x lo hi H Q hw; a pins s σ H x v vl vu lo hi sl Q I rx hs pl pu b
abbrev rCutP (K : PySem.W.Frag) : V → Option Int → Option Int → Hp → VK → Prop := fun x lo hi H Q => ∃ d r P2, Rel K H d x P2 ∧ opCut d lo hi = some r ∧ Fin K r H Q
theorem sl_cut : SlR X (rCutP X.K) := by
  refine SlR.of fun x lo hi H Q ⟨d, r, P2, rd, ha, hf⟩ => ?_
  cases d <;> simp only [opCut, reduceCtorEq, Option.ite_none_right_eq_some, Option.some.injEq] at ha
  · rename_i ds
    obtain ⟨i1, rfl⟩ := ha
    obtain ⟨a, vs, rfl, s1, r1⟩ := rd
    refine ⟨_, sl_tupA, a, vs, rfl, s1, fun ⟨z1, z2⟩ => ?_, fun _ p hp => hf.tup hp (r1.cut lo hi i1)⟩
    have e1 : cutL ds lo hi = ds := by
      unfold cutL
      rw [r1.length, z1, z2, Nat.sub_zero, List.drop_zero, ← r1.length, List.take_length]
    rw [e1] at hf
    exact hf.old (by simpa [imm] using i1) ⟨a, vs, rfl, s1, r1⟩
  · obtain ⟨i1, rfl⟩ := ha
    obtain ⟨a, vs, Q1, rfl, s1, r1⟩ := rd
    exact ⟨_, sl_list, a, vs, rfl, .inl s1.rd, fun p hp => hf.lst hp (r1.cut lo hi i1)⟩
  · subst ha
    obtain ⟨a, rfl, s1⟩ := rd
    exact ⟨_, sl_list, a, _, rfl, s1.sq, fun p hp => hf.lst hp (rels_ints.cut lo hi imms_ints)⟩

/-! ### built-in functions -/
theorem rb1 {K : PySem.W.Frag} {H : Hp} {d : D} {vs : List V} (h : RB K H [d] vs) : ∃ v P, vs = [v] ∧ Rel K H d v P := by
  obtain ⟨v, vs', P, rfl, r, h⟩ := h
  obtain rfl : vs' = [] := h
  exact ⟨v, P, rfl, r⟩
theorem rb2 {K : PySem.W.Frag} {H : Hp} {d e : D} {vs : List V} (h : RB K H [d, e] vs) : ∃ v u P P', vs = [v, u] ∧ Rel K H d v P ∧ Rel K H e u P' := by
  obtain ⟨v, vs', P, rfl, r, h⟩ := h
  obtain ⟨u, P', rfl, r'⟩ := rb1 h
  exact ⟨v, u, P, P', rfl, r, r'⟩
theorem c_len : CallR X (.builtin "len") (rNP X.K .len) := by
  refine CallR.of fun xs H Q ⟨ds, r, rb, ha, hf⟩ => ?_
  rcases ds with _ | ⟨d, _ | ⟨e, ds⟩⟩
  · simp only [PF.ap, reduceCtorEq] at ha
  rotate_left
  · simp only [PF.ap, reduceCtorEq] at ha
  · obtain ⟨v, P, rfl, rd⟩ := rb1 rb
    cases d <;> simp only [PF.ap, opLen, reduceCtorEq, Option.some.injEq, Option.ite_none_right_eq_some] at ha
    · obtain ⟨h1, rfl⟩ := ha
      obtain rfl : v = .str _ := rd
      exact ⟨_, call_len_str, _, rfl, by rw [← lim_eq]; exact h1, hf.int⟩
    · subst ha
      obtain ⟨a, vs, rfl, s1, r1⟩ := rd
      rw [r1.length] at hf
      exact ⟨_, call_len_seq, a, vs, rfl, .inr s1, hf.int⟩
    · subst ha
      obtain ⟨a, vs, Q1, rfl, s1, r1⟩ := rd
      rw [r1.length] at hf
      exact ⟨_, call_len_seq, a, vs, rfl, .inl (.inl s1.rd), hf.int⟩
    · subst ha
      obtain ⟨a, kvs, Q1, rfl, s1, ⟨rfl, nd⟩, r1⟩ := rd
      rw [List.length_map] at hf
      refine ⟨fun xs H Q => ∃ a kvs, xs = [V.ref a] ∧ Rd H a (.dK kvs) ∧ Q (.int kvs.length) H, ?_, a, kvs, rfl, s1.rd, hf.int⟩
      intro pins s σ H xs us Q I rx h
      obtain ⟨a, kvs, rfl, h1, q⟩ := h
      rw [Vals.ref1 rx]
      exact d_len I h1 fun t s' I' => ⟨.int kvs.length, H, I', ⟨_, rfl⟩, q⟩
    · subst ha
      obtain ⟨a, rfl, s1⟩ := rd
      refine ⟨_, call_len_seq, a, _, rfl, .inl s1.sq, ?_⟩
      rw [List.length_map]
      exact hf.int
theorem c_abs : CallR X (.builtin "abs") (rNP X.K .abs) := by
  refine CallR.of fun xs H Q ⟨ds, r, rb, ha, hf⟩ => ?_
  rcases ds with _ | ⟨d, _ | ⟨e, ds⟩⟩
  · simp only [PF.ap, reduceCtorEq] at ha
  rotate_left
  · simp only [PF.ap, reduceCtorEq] at ha
  · obtain ⟨v, P, rfl, rd⟩ := rb1 rb
    cases d <;> simp only [PF.ap, reduceCtorEq, Option.some.injEq] at ha
    subst ha
    obtain rfl : v = .int _ := rd
    exact ⟨_, call_abs, _, rfl, hf.int⟩
theorem c_min2 (hc : X.calm = true) : CallR X (.builtin "min") (rNP X.K .min2) := by
  refine CallR.of fun xs H Q ⟨ds, r, rb, ha, hf⟩ => ?_
  rcases ds with _ | ⟨d, _ | ⟨e, _ | ⟨f, ds⟩⟩⟩
  · simp only [PF.ap, reduceCtorEq] at ha
  · simp only [PF.ap, reduceCtorEq] at ha
  rotate_left
  · simp only [PF.ap, reduceCtorEq] at ha
  · obtain ⟨v, u, P, P', rfl, rd, re⟩ := rb2 rb
    cases d <;> cases e <;> simp only [PF.ap, reduceCtorEq, Option.some.injEq] at ha
    subst ha
    obtain rfl : v = .int _ := rd
    obtain rfl : u = .int _ := re
    exact ⟨_, call_min2 hc, _, _, rfl, hf.int⟩
theorem c_max2 (hc : X.calm = true) : CallR X (.builtin "max") (rNP X.K .max2) := by
  refine CallR.of fun xs H Q ⟨ds, r, rb, ha, hf⟩ => ?_
  rcases ds with _ | ⟨d, _ | ⟨e, _ | ⟨f, ds⟩⟩⟩
  · simp only [PF.ap, reduceCtorEq] at ha
  · simp only [PF.ap, reduceCtorEq] at ha
  rotate_left
  · simp only [PF.ap, reduceCtorEq] at ha
  · obtain ⟨v, u, P, P', rfl, rd, re⟩ := rb2 rb
    cases d <;> cases e <;> simp only [PF.ap, reduceCtorEq, Option.some.injEq] at ha
    subst ha
    obtain rfl : v = .int _ := rd
    obtain rfl : u = .int _ := re
    exact ⟨_, call_max2 hc, _, _, rfl, hf.int⟩
theorem c_sumT (hc : X.calm = true) : CallR X (.builtin "sum") (fun vs H Q => ∃ (a : Addr) (ns : List Int), vs = [V.ref a] ∧ SqT X.K H a (ns.map V.int) ∧ Q (.int ns.sum) H) := by
  intro pins s σ H vs us Q I r h
  obtain ⟨a, ns, rfl, hs, q⟩ := h
  obtain ⟨its, rv, ht, _⟩ := I.tuple hs
  rw [Vals.ref1 r]
  have hi := rv.ints
  obtain ⟨xs, e⟩ := hi.allInts.items
  have hn : numsOf (intItems xs).toList = ns := by rw [← e]; exact hi.numsOf
  rw [nums_intItems] at hn
  rw [e] at ht
  refine PySem.W.ktm_sumG (I.ok.hd hc) (show s.heap.IsTuple a (intItems xs) from ht) fun h' tk t' hk => ⟨.int ns.sum, H, I.kept hk, ⟨t', ?_⟩, q⟩
  rw [preSum_eq, List.take_of_length_le (by simp), hn]
theorem c_sum (hc : X.calm = true) : CallR X (.builtin "sum") (rNP X.K .sum) := by
  refine CallR.of fun xs H Q ⟨ds, r, rb, ha, hf⟩ => ?_
  rcases ds with _ | ⟨d, _ | ⟨e, ds⟩⟩
  · simp only [PF.ap, reduceCtorEq] at ha
  rotate_left
  · simp only [PF.ap, reduceCtorEq] at ha
  · obtain ⟨v, P, rfl, rd⟩ := rb1 rb
    cases d <;> simp only [PF.ap, opSum, reduceCtorEq, Option.map_eq_some_iff] at ha
    · obtain ⟨ns, h1, rfl⟩ := ha
      obtain ⟨a, vs, rfl, s1, r1⟩ := rd
      rw [ints_of r1 h1] at s1
      exact ⟨_, c_sumT hc, a, ns, rfl, s1, hf.int⟩
    · obtain ⟨ns, h1, rfl⟩ := ha
      obtain ⟨a, vs, Q1, rfl, s1, r1⟩ := rd
      have e := ints_of r1 h1
      subst e
      exact ⟨_, cr_sum hc, a, ns, rfl, .inl s1.rd, hf.int⟩
/-- sorted(xs), xs a list of pairs of ints, wherever they stand -/
theorem cr_sortedPQ : CallR X (.builtin "sorted") (fun vs H Q => ∃ (a : Addr) (xs : List V) (k : V → Int × Int), vs = [V.ref a] ∧ SqL X.K H a xs ∧ (∀ x ∈ xs, ∃ t, x = V.ref t ∧ SqT X.K H t [.int (k x).1, .int (k x).2]) ∧
  ∀ ys p, SrtO.Srtd (ltP k) ys → SrtO.Stb (ltP k) ys xs → H p = none → Q (.ref p) (upd H p (.lst ys))) := by
  intro pins s σ H vs us Q I r h
  obtain ⟨a, xs, k, rfl, hs, hx, q⟩ := h
  obtain ⟨its, rv, hl, hz⟩ := I.list hs
  obtain ⟨u, rfl, ru⟩ := vals1 r
  obtain rfl : u = Value.ref a := ru
  obtain ⟨e1, e2⟩ := refs_back rv fun x m => by
    obtain ⟨t, e, _⟩ := hx x m
    exact ⟨t, e⟩
  refine SrtO.sorted_pairsO (k := fun u => k (backV u)) hl.isList (by rw [← rv.length]; exact hz) (fun v hv => ?_) fun h' d out h1 h2 kp hd hn => ?_
  · obtain ⟨t, rfl⟩ := e2 v hv
    have hm : V.ref t ∈ xs := by rw [e1]; exact List.mem_map.mpr ⟨_, hv, rfl⟩
    obtain ⟨t', e, ht⟩ := hx _ hm
    cases e
    obtain ⟨its2, r2, ⟨o, ho, hc, n, hd⟩, _⟩ := I.tuple ht
    obtain ⟨u1, u2, rfl, ri, rj⟩ := vals2 r2
    obtain ⟨t1, rfl⟩ := ri
    obtain ⟨t2, rfl⟩ := rj
    exact ⟨t, o, t1, t2, n, rfl, ho, hc, hd⟩
  · have h3 : ∀ u ∈ out, ∃ a, u = Value.ref a := fun u hu => e2 u (h2.perm.mem_iff.mp hu)
    obtain ⟨n, hn⟩ := hn
    have hb : SrtO.Stb (ltP k) (out.map backV) xs := by
      rw [e1]
      exact SrtO.Stb.map (ltP_swo k) backV h2
    refine ⟨.ref d, upd H d (.lst (out.map backV)), I.laid (t' := s.toks) kp hd ⟨?_, out, n, vals_back h3, hn⟩, rfl, q _ d (SrtO.srtd_map h1) hb (I.hok.fresh hd)⟩
    rw [hb.len]
    exact hz
theorem pairs_of {K : PySem.W.Frag} {H : Hp} : ∀ {ds : List D} {vs : List V} {P : Own} {ps : List (Int × Int)}, Rels K H ds vs P → dPairs ds = some ps → (∀ v ∈ vs, ∃ t i j, v = V.ref t ∧ SqT K H t [.int i, .int j]) ∧ ∀ k : V → Int × Int, (∀ v ∈ vs, ∀ t i j, v = V.ref t → SqT K H t [.int i, .int j] → k v = (i, j)) → ps = vs.map k
  | [], vs, _, _, r, h => by
    obtain rfl : vs = [] := r
    cases h
    exact ⟨fun v hv => (nomatch hv), fun _ _ => rfl⟩
  | d :: ds, _, _, _, r, h => by
    obtain ⟨v, vs', P1, P2, rfl, s, r1, rs⟩ := r
    unfold dPairs at h
    split at h
    · rename_i hd
      cases hd
    · rename_i i j r' hd
      obtain ⟨rfl, rfl⟩ := List.cons.inj hd
      obtain ⟨l, hl, rfl⟩ := Option.map_eq_some_iff.mp h
      obtain ⟨h1, h2⟩ := pairs_of rs hl
      obtain ⟨t, us, rfl, st, rr⟩ := r1
      obtain ⟨u, us', _, _, rfl, _, e1, rr⟩ := rr
      obtain ⟨u2, us2, _, _, rfl, _, e2, rr⟩ := rr
      obtain rfl : us2 = [] := rr
      obtain rfl : u = .int i := e1
      obtain rfl : u2 = .int j := e2
      refine ⟨fun v hv => ?_, fun k hk => ?_⟩
      · rcases List.mem_cons.mp hv with rfl | hv
        · exact ⟨t, i, j, rfl, st⟩
        · exact h1 v hv
      · rw [List.map_cons, hk (.ref t) (List.mem_cons_self ..) t i j rfl st, ← h2 k fun v hv => hk v (List.mem_cons_of_mem _ hv)]
    · cases h
theorem rels_of_all {K : PySem.W.Frag} {H : Hp} {k : V → Int × Int} : ∀ {vs : List V}, (∀ v ∈ vs, ∃ t, v = V.ref t ∧ SqT K H t [.int (k v).1, .int (k v).2]) → Rels K H ((vs.map k).map pairD) vs No
  | [], _ => rfl
  | v :: vs, h => by
    obtain ⟨t, rfl, st⟩ := h v (List.mem_cons_self ..)
    exact Rels.cons Sep.nl ⟨t, _, rfl, st, Rels.cons Sep.nl (show Rel K H (.int _) (.int _) No from rfl) (Rels.cons Sep.nl (show Rel K H (.int _) (.int _) No from rfl) (show Rels K H [] [] No from rfl))⟩ (rels_of_all fun v hv => h v (List.mem_cons_of_mem _ hv))
theorem leP_tot (p q : Int × Int) : (leP p q || leP q p) = true := by
  unfold leP
  simp only [Bool.or_eq_true, decide_eq_true_eq]
  omega
theorem leP_trans (p q r : Int × Int) (h1 : leP p q = true) (h2 : leP q r = true) : leP p r = true := by
  unfold leP at *
  simp only [decide_eq_true_eq] at *
  omega
theorem leP_anti {p q : Int × Int} (h1 : leP p q = true) (h2 : leP q p = true) : p = q := by
  unfold leP at *
  simp only [decide_eq_true_eq] at *
  exact Prod.ext (by omega) (by omega)
theorem c_sorted : CallR X (.builtin "sorted") (rNP X.K .sorted) := by
  refine CallR.of fun xs H Q ⟨ds, r, rb, ha, hf⟩ => ?_
  rcases ds with _ | ⟨d, _ | ⟨e, ds⟩⟩
  · simp only [PF.ap, reduceCtorEq] at ha
  rotate_left
  · simp only [PF.ap, reduceCtorEq] at ha
  · obtain ⟨v, P, rfl, rd⟩ := rb1 rb
    cases d <;> simp only [PF.ap, opSorted, reduceCtorEq] at ha
    rename_i m ds0
    split at ha
    · rename_i ns h1
      cases ha
      obtain ⟨a, vs, Q1, rfl, s1, r1⟩ := rd
      have e := ints_of r1 h1
      subst e
      refine ⟨_, cr_sortedI, a, ns, rfl, .inl s1.rd, fun ns' p hp hs hn => ?_⟩
      have e : ns' = ns.mergeSort fun a b => decide (a ≤ b) := by
        refine List.Perm.eq_of_pairwise (le := fun a b => a ≤ b) (fun a b _ _ h1 h2 => by omega) hs ?_ (hp.trans (List.mergeSort_perm ..).symm)
        refine (List.pairwise_mergeSort (le := fun a b => decide (a ≤ b)) (fun a b c h1 h2 => ?_) (fun a b => ?_) ns).imp fun h => ?_
        · simp only [decide_eq_true_eq] at h1 h2 ⊢; omega
        · simp only [Bool.or_eq_true, decide_eq_true_eq]; omega
        · simpa using h
      rw [← e] at hf
      exact hf.lst hn rels_ints
    · simp only [Option.map_eq_some_iff] at ha
      obtain ⟨ps, h1, rfl⟩ := ha
      obtain ⟨a, vs, Q1, rfl, s1, r1⟩ := rd
      obtain ⟨g1, g2⟩ := pairs_of r1 h1
      let k : V → Int × Int := fun v => Classical.epsilon fun ij : Int × Int => ∃ t, v = V.ref t ∧ SqT X.K H t [.int ij.1, .int ij.2]
      have hk : ∀ v ∈ vs, ∃ t, v = V.ref t ∧ SqT X.K H t [.int (k v).1, .int (k v).2] := fun v hv => by
        obtain ⟨t, i, j, e, st⟩ := g1 v hv
        exact Classical.epsilon_spec (p := fun ij : Int × Int => ∃ t, v = V.ref t ∧ SqT X.K H t [.int ij.1, .int ij.2]) ⟨(i, j), t, e, st⟩
      -- the rule needs the heap's own word for the two ints
      have key : CallR X (.builtin "sorted") (fun us H2 Q2 => us = [V.ref a] ∧ H2 = H ∧ Q2 = Q) := by
        intro pins s σ H2 us ws Q2 I rw ⟨e1, e2, e3⟩
        subst e1 e2 e3
        have hps : ps = vs.map k := g2 k fun v hv t i j e st => by
          obtain ⟨t', e', st'⟩ := hk v hv
          rw [e] at e'
          cases e'
          have := I.tuple_inj st' st
          simp only [List.cons.injEq, V.int.injEq, and_true] at this
          exact Prod.ext this.1 this.2
        refine cr_sortedPQ pins s σ H2 _ ws Q2 I rw ⟨a, vs, k, rfl, .inl s1.rd, hk, fun ys p hs hb hn => ?_⟩
        have e : ys.map k = ps.mergeSort leP := by
          refine List.Perm.eq_of_pairwise (le := fun a b => leP a b = true) (fun a b _ _ h1 h2 => leP_anti h1 h2) ?_ (List.pairwise_mergeSort leP_trans leP_tot ps) ?_
          · refine List.pairwise_map.mpr (hs.imp fun {x y} h => ?_)
            have := SrtO.lexB_no.mp h
            unfold leP
            simp only [decide_eq_true_eq]
            omega
          · rw [hps]
            exact (hb.perm.map k).trans (List.mergeSort_perm ..).symm
        rw [← e] at hf
        exact hf.lst hn (rels_of_all fun v hv => hk v (hb.perm.mem_iff.mp hv))
      exact ⟨_, key, rfl, rfl, rfl⟩
theorem c_tuple : CallR X (.type "tuple") (rNP X.K .tuple) := by
  refine CallR.of fun xs H Q ⟨ds, r, rb, ha, hf⟩ => ?_
  rcases ds with _ | ⟨d, _ | ⟨e, ds⟩⟩
  · simp only [PF.ap, reduceCtorEq] at ha
  rotate_left
  · simp only [PF.ap, reduceCtorEq] at ha
  · obtain ⟨v, P, rfl, rd⟩ := rb1 rb
    cases d <;> simp only [PF.ap, reduceCtorEq, Option.ite_none_right_eq_some, Option.some.injEq] at ha
    · obtain ⟨i1, rfl⟩ := ha
      obtain ⟨a, vs, rfl, s1, r1⟩ := rd
      exact ⟨_, call_tuple_of, a, vs, rfl, .inr ⟨s1, hf.old (by simpa [imm] using i1) ⟨a, vs, rfl, s1, r1⟩⟩⟩
    · obtain ⟨i1, rfl⟩ := ha
      obtain ⟨a, vs, Q1, rfl, s1, r1⟩ := rd
      exact ⟨_, call_tuple_of, a, vs, rfl, .inl ⟨.inl s1.rd, fun l hl => hf.tup hl (Rels.imm i1 r1)⟩⟩
theorem c_list : CallR X (.type "list") (rNP X.K .list) := by
  refine CallR.of fun xs H Q ⟨ds, r, rb, ha, hf⟩ => ?_
  rcases ds with _ | ⟨d, _ | ⟨e, ds⟩⟩
  · simp only [PF.ap, reduceCtorEq] at ha
  rotate_left
  · simp only [PF.ap, reduceCtorEq] at ha
  · obtain ⟨v, P, rfl, rd⟩ := rb1 rb
    cases d <;> simp only [PF.ap, reduceCtorEq, Option.ite_none_right_eq_some, Option.some.injEq] at ha
    · obtain ⟨i1, rfl⟩ := ha
      obtain ⟨a, vs, rfl, s1, r1⟩ := rd
      exact ⟨_, call_list_of, a, vs, rfl, .inr s1, fun l hl => hf.lst hl (Rels.imm i1 r1)⟩
    · obtain ⟨i1, rfl⟩ := ha
      obtain ⟨a, vs, Q1, rfl, s1, r1⟩ := rd
      exact ⟨_, call_list_of, a, vs, rfl, .inl (.inl s1.rd), fun l hl => hf.lst hl (Rels.imm i1 r1)⟩
theorem c_int : CallR X (.type "int") (rNP X.K .int) := by
  refine CallR.of fun xs H Q ⟨ds, r, rb, ha, hf⟩ => ?_
  rcases ds with _ | ⟨d, _ | ⟨e, ds⟩⟩
  · simp only [PF.ap, reduceCtorEq] at ha
  rotate_left
  · simp only [PF.ap, reduceCtorEq] at ha
  · obtain ⟨v, P, rfl, rd⟩ := rb1 rb
    cases d <;> simp only [PF.ap, reduceCtorEq, Option.some.injEq] at ha
    · subst ha
      obtain rfl : v = .bl _ := rd
      exact ⟨_, call_int1, .inr ⟨_, rfl, hf.int⟩⟩
    · subst ha
      obtain rfl : v = .int _ := rd
      exact ⟨_, call_int1, .inl ⟨_, rfl, hf.int⟩⟩
theorem c_str : CallR X (.type "str") (rNP X.K .str) := by
  refine CallR.of fun xs H Q ⟨ds, r, rb, ha, hf⟩ => ?_
  rcases ds with _ | ⟨d, _ | ⟨e, ds⟩⟩
  · simp only [PF.ap, reduceCtorEq] at ha
  rotate_left
  · simp only [PF.ap, reduceCtorEq] at ha
  · obtain ⟨v, P, rfl, rd⟩ := rb1 rb
    cases d <;> simp only [PF.ap, reduceCtorEq, Option.some.injEq, Option.ite_none_right_eq_some] at ha
    obtain ⟨h1, rfl⟩ := ha
    obtain rfl : v = .int _ := rd
    exact ⟨_, call_str_int, _, rfl, h1, hf.str⟩
end
section
variable {X : Cx} {rx : XR} {W : WX} {C : Ctx} {a b : E} {ea eb : Expr} {pos : Pos} {p : PF} {k : Nat}
theorem s_idx (hr : Room k X.A) (ha : PE X ea (tE X.K rx W C a)) (hb : PE X eb (tE X.K rx W C b)) (hs : PlainIx eb) : PE X (.Subscript ea eb pos) (tE X.K rx W C (.ap .idx (.cons a (.cons b .nil)))) :=
  PE.of fun σ H Q h => ⟨_, pe_ix (ix_ap hr) ha hb hs, ap_two h⟩
/-- is None -/
theorem s_isN {j} {pos'} (ha : PE X ea (tE X.K rx W C a)) : PE X (.Compare ea [.Is] [.Constant .none j pos'] pos) (tE X.K rx W C (.ap .isN (.cons a .nil))) := by
  refine PE.of fun σ H Q h => ⟨_, pe_cmp (pc_isN ha) (by rfl), tE_mono (ap_one h) fun x H1 ⟨d, r, P2, rd, hp, hf⟩ => ?_⟩
  simp only [PF.ap, Option.some.injEq] at hp
  subst hp
  cases d
  case non => obtain rfl : x = .non := rd; exact hf.bl
  case bl => obtain rfl : x = .bl _ := rd; exact hf.bl
  case int => obtain rfl : x = .int _ := rd; exact hf.bl
  case str => obtain rfl : x = .str _ := rd; exact hf.bl
  case tup => obtain ⟨a, vs, rfl, _⟩ := rd; exact hf.bl
  case lst => obtain ⟨a, vs, _, rfl, _⟩ := rd; exact hf.bl
  case dic => obtain ⟨a, vs, _, rfl, _⟩ := rd; exact hf.bl
  case dit => obtain ⟨a, vs, _, rfl, _⟩ := rd; exact hf.bl
  case set => obtain ⟨a, vs, _, rfl, _⟩ := rd; exact hf.bl
  case scr => obtain ⟨a, rfl, _⟩ := rd; exact hf.bl
theorem s_notN {j} {pos'} (ha : PE X ea (tE X.K rx W C a)) : PE X (.Compare ea [.IsNot] [.Constant .none j pos'] pos) (tE X.K rx W C (.ap .notN (.cons a .nil))) := by
  refine PE.of fun σ H Q h => ⟨_, pe_cmp (pc_notN ha) (by rfl), tE_mono (ap_one h) fun x H1 ⟨d, r, P2, rd, hp, hf⟩ => ?_⟩
  simp only [PF.ap, Option.some.injEq] at hp
  subst hp
  cases d
  case non => obtain rfl : x = .non := rd; exact hf.bl
  case bl => obtain rfl : x = .bl _ := rd; exact hf.bl
  case int => obtain rfl : x = .int _ := rd; exact hf.bl
  case str => obtain rfl : x = .str _ := rd; exact hf.bl
  case tup => obtain ⟨a, vs, rfl, _⟩ := rd; exact hf.bl
  case lst => obtain ⟨a, vs, _, rfl, _⟩ := rd; exact hf.bl
  case dic => obtain ⟨a, vs, _, rfl, _⟩ := rd; exact hf.bl
  case dit => obtain ⟨a, vs, _, rfl, _⟩ := rd; exact hf.bl
  case set => obtain ⟨a, vs, _, rfl, _⟩ := rd; exact hf.bl
  case scr => obtain ⟨a, rfl, _⟩ := rd; exact hf.bl
end
end Z

namespace Z
open PySem PySem.Spec L2
variable [TabList]

section
variable {K : PySem.W.Frag} {rx : XR} {W : WX} {C : Ctx} {σ : L2.St} {H H1 : Hp} {P P1 : Own}
theorem eO_l {a b : Bool} : ∀ x, eO a P x → eO (a && b) P x := fun x z => ⟨by rw [z.1]; rfl, z.2⟩
theorem eO_r {a b : Bool} : ∀ x, eO b P x → eO (a && b) P x := fun x z => ⟨by rw [z.1, Bool.and_false], z.2⟩
/-- one step on -/
theorem PostE.step {pa pb pth pth' : Bool} {r : Res D} {Q : VK} (h : PostE K rx W (pa && pb) pth P σ H r Q) (hn : New P H P1) (ev : Ev (eO pa P) H H1) (hp : pth' = true → pth = true) : PostE K rx W pb pth' P1 σ H1 r Q := by
  cases r with
  | bad => exact h.elim
  | exc x e1 => exact exc_on h hn ev.eo
  | ok d e1 =>
    intro v H' P2 P3 r1 rd hd hn2 ev2
    refine h v H' P2 P3 r1 rd (fun z => ?_) (hn.trans ev.eo hn2) (ev_and ev ev2 hn)
    have z' : pth' = false := by cases pth' with
      | false => rfl
      | true => rw [hp rfl] at z; cases z
    exact ⟨(hd z').1, new_and hn ev (hd z').2⟩
theorem PostT.step {pa pb : Bool} {r : Res Bool} {Q : Bool → Hp → Prop} (h : PostT K rx W (pa && pb) P σ H r Q) (hn : New P H P1) (ev : Ev (eO pa P) H H1) : PostT K rx W pb P1 σ H1 r Q := by
  cases r with
  | bad => exact h.elim
  | exc x e1 => exact exc_on h hn ev.eo
  | ok d e1 =>
    intro H' P2 r1 hn2 ev2
    exact h H' P2 r1 (hn.trans ev.eo hn2) (ev_and ev ev2 hn)
theorem tru_of {d : D} {v : V} {b : Bool} (r : Rel K H d v P) (h : truth d = some b) : TruV K v H b := by
  cases d <;> simp only [truth, Option.some.injEq, Option.ite_none_right_eq_some, reduceCtorEq] at h
  · obtain rfl : v = .non := r; exact h.symm
  · obtain rfl : v = .bl _ := r; exact h.symm
  · obtain rfl : v = .int _ := r; exact h.symm
  · obtain rfl : v = .str _ := r
    obtain ⟨h1, h2⟩ := h
    refine ⟨by rw [← lim_eq]; exact h1, ?_⟩
    rw [← h2]
    rw [Bool.eq_iff_iff]
    simp
  · obtain ⟨a, vs, rfl, s, rs⟩ := r
    refine .inr (.inl ⟨vs, s, ?_⟩)
    rw [← h]
    have := rs.length
    rename_i ds
    cases ds <;> cases vs <;> simp_all
  · obtain ⟨a, vs, Q, rfl, s, rs⟩ := r
    refine .inl ⟨vs, .inl s.rd, ?_⟩
    rw [← h]
    have := rs.length
    rename_i ds
    cases ds <;> cases vs <;> simp_all
  · rename_i m ks ds
    cases m <;> simp only [reduceCtorEq, Option.some.injEq] at h
    obtain ⟨a, kvs, Q, rfl, s, ⟨rfl, _⟩, rs⟩ := r
    refine .inr (.inr ⟨kvs, s.1, ?_⟩)
    rw [← h]
    cases kvs <;> simp
theorem tT_to {e : E} {Q : Bool → Hp → Prop} (h : tT K rx W C e σ H Q) : tE K rx W C e σ H fun x H' => ∃ k, TruV K x H' k ∧ Q k H' := by
  obtain ⟨env, P, hE, h⟩ := h
  refine ⟨env, P, hE, ?_⟩
  simp only [evT] at h
  cases q : evE C e env with
  | bad => rw [q] at h; exact h.elim
  | exc x e1 => rw [q] at h; exact h
  | ok d e1 =>
    rw [q] at h
    simp only [Res.bind] at h
    intro v H' P1 P2 r1 rd hd hn ev
    cases q2 : truth d with
    | none => rw [q2] at h; exact h.elim
    | some b =>
      rw [q2] at h
      exact ⟨b, tru_of rd q2, h H' P1 r1 hn ev⟩
theorem tT_and {a b : E} {Q : Bool → Hp → Prop} (h : tT K rx W C (.and a b) σ H Q) : tT K rx W C a σ H fun c H1 => if c = true then tT K rx W C b σ H1 Q else Q false H1 := by
  obtain ⟨env, P, hE, h⟩ := h
  refine ⟨env, P, hE, ?_⟩
  simp only [evT, evE] at h ⊢
  cases q : evE C a env with
  | bad => rw [q] at h; exact h.elim
  | exc x e1 => rw [q] at h; exact h
  | ok d e1 =>
    rw [q] at h
    simp only [Res.bind] at h ⊢
    cases q2 : truth d with
    | none => rw [q2] at h; exact h.elim
    | some c =>
      rw [q2] at h
      intro H' P1 r1 hn ev
      cases c with
      | true => exact ⟨e1, P1, r1, PostT.step h hn ev⟩
      | false =>
        simp only [q2] at h
        exact h H' P1 r1 hn (ev.mono eO_l)
theorem tT_or {a b : E} {Q : Bool → Hp → Prop} (h : tT K rx W C (.or a b) σ H Q) : tT K rx W C a σ H fun c H1 => if c = true then Q true H1 else tT K rx W C b σ H1 Q := by
  obtain ⟨env, P, hE, h⟩ := h
  refine ⟨env, P, hE, ?_⟩
  simp only [evT, evE] at h ⊢
  cases q : evE C a env with
  | bad => rw [q] at h; exact h.elim
  | exc x e1 => rw [q] at h; exact h
  | ok d e1 =>
    rw [q] at h
    simp only [Res.bind] at h ⊢
    cases q2 : truth d with
    | none => rw [q2] at h; exact h.elim
    | some c =>
      rw [q2] at h
      intro H' P1 r1 hn ev
      cases c with
      | false => exact ⟨e1, P1, r1, PostT.step h hn ev⟩
      | true =>
        simp only [q2] at h
        exact h H' P1 r1 hn (ev.mono eO_l)
theorem tT_not {a : E} {Q : Bool → Hp → Prop} (h : tT K rx W C (.not a) σ H Q) : tT K rx W C a σ H fun c H1 => Q (!c) H1 := by
  obtain ⟨env, P, hE, h⟩ := h
  refine ⟨env, P, hE, ?_⟩
  simp only [evT, evE] at h ⊢
  cases q : evE C a env with
  | bad => rw [q] at h; exact h.elim
  | exc x e1 => rw [q] at h; exact h
  | ok d e1 =>
    rw [q] at h
    simp only [Res.bind] at h ⊢
    cases q2 : truth d with
    | none => rw [q2] at h; exact h.elim
    | some c =>
      rw [q2] at h
      exact h
theorem tE_and {a b : E} {Q : VK} (h : tE K rx W C (.and a b) σ H Q) : tE K rx W C a σ H fun x H1 => ∃ k, TruV K x H1 k ∧ if k = true then tE K rx W C b σ H1 Q else Q x H1 := by
  obtain ⟨env, P, hE, h⟩ := h
  refine ⟨env, P, hE, ?_⟩
  simp only [evE] at h
  cases q : evE C a env with
  | bad => rw [q] at h; exact h.elim
  | exc x e1 => rw [q] at h; exact h
  | ok d e1 =>
    rw [q] at h
    simp only [Res.bind] at h
    intro v H' P1 P2 r1 rd hd hn ev
    cases q2 : truth d with
    | none => rw [q2] at h; exact h.elim
    | some c =>
      rw [q2] at h
      refine ⟨c, tru_of rd q2, ?_⟩
      cases c with
      | true => exact ⟨e1, P1, r1, PostE.step h hn ev (fun z => by simp [E.pth, z])⟩
      | false => exact h v H' P1 P2 r1 rd (fun z => let y := hd (by simp [E.pth] at z; exact z.1); ⟨y.1, fun x w => (y.2 x w).imp (eO_l x) id⟩) hn (ev.mono eO_l)
theorem tE_or {a b : E} {Q : VK} (h : tE K rx W C (.or a b) σ H Q) : tE K rx W C a σ H fun x H1 => ∃ k, TruV K x H1 k ∧ if k = true then Q x H1 else tE K rx W C b σ H1 Q := by
  obtain ⟨env, P, hE, h⟩ := h
  refine ⟨env, P, hE, ?_⟩
  simp only [evE] at h
  cases q : evE C a env with
  | bad => rw [q] at h; exact h.elim
  | exc x e1 => rw [q] at h; exact h
  | ok d e1 =>
    rw [q] at h
    simp only [Res.bind] at h
    intro v H' P1 P2 r1 rd hd hn ev
    cases q2 : truth d with
    | none => rw [q2] at h; exact h.elim
    | some c =>
      rw [q2] at h
      refine ⟨c, tru_of rd q2, ?_⟩
      cases c with
      | false => exact ⟨e1, P1, r1, PostE.step h hn ev (fun z => by simp [E.pth, z])⟩
      | true => exact h v H' P1 P2 r1 rd (fun z => let y := hd (by simp [E.pth] at z; exact z.1); ⟨y.1, fun x w => (y.2 x w).imp (eO_l x) id⟩) hn (ev.mono eO_l)
theorem tE_not {a : E} {Q : VK} (h : tE K rx W C (.not a) σ H Q) : tE K rx W C a σ H fun x H1 => ∃ k, TruV K x H1 k ∧ Q (.bl (!k)) H1 := by
  obtain ⟨env, P, hE, h⟩ := h
  refine ⟨env, P, hE, ?_⟩
  simp only [evE] at h
  cases q : evE C a env with
  | bad => rw [q] at h; exact h.elim
  | exc x e1 => rw [q] at h; exact h
  | ok d e1 =>
    rw [q] at h
    simp only [Res.bind] at h
    intro v H' P1 P2 r1 rd hd hn ev
    cases q2 : truth d with
    | none => rw [q2] at h; exact h.elim
    | some c =>
      rw [q2] at h
      exact ⟨c, tru_of rd q2, h _ H' P1 No r1 rfl (fun _ => ⟨fun _ _ z => z, fun _ z => z.elim⟩) hn ev⟩
theorem tE_ife {c a b : E} {Q : VK} (h : tE K rx W C (.ife c a b) σ H Q) : tT K rx W C c σ H fun k H1 => if k = true then tE K rx W C a σ H1 Q else tE K rx W C b σ H1 Q := by
  obtain ⟨env, P, hE, h⟩ := h
  refine ⟨env, P, hE, ?_⟩
  simp only [evE, evT] at h ⊢
  cases q : evE C c env with
  | bad => rw [q] at h; exact h.elim
  | exc x e1 => rw [q] at h; exact h
  | ok d e1 =>
    rw [q] at h
    simp only [Res.bind] at h ⊢
    cases q2 : truth d with
    | none => rw [q2] at h; exact h.elim
    | some k =>
      rw [q2] at h
      intro H' P1 r1 hn ev
      cases k with
      | true =>
        refine ⟨e1, P1, r1, PostE.step (pa := c.pu) (pb := a.pu) (pth := (E.ife c a b).pth) ?_ hn ev (fun z => by show (a.pth || b.pth) = true; rw [z]; rfl)⟩
        cases q3 : evE C a e1 with
        | bad => simp only [q3] at h; exact h.elim
        | exc x e2 => simp only [q3] at h; exact h
        | ok d e2 =>
          simp only [q3] at h
          exact fun v H2 P2 P3 z1 z2 z3 z4 z5 => h v H2 P2 P3 z1 z2 (fun u => ⟨(z3 u).1, fun x w => ((z3 u).2 x w).imp (fun y => eO_l (b := b.pu) x y) id⟩) z4 (z5.mono fun x y => eO_l (b := b.pu) x y)
      | false =>
        refine ⟨e1, P1, r1, PostE.step (pa := c.pu) (pb := b.pu) (pth := (E.ife c a b).pth) ?_ hn ev (fun z => by show (a.pth || b.pth) = true; rw [z, Bool.or_true])⟩
        cases q3 : evE C b e1 with
        | bad => simp only [q3] at h; exact h.elim
        | exc x e2 => simp only [q3] at h; exact h
        | ok d e2 =>
          simp only [q3] at h
          have im : (c.pu && b.pu) = false → (E.ife c a b).pu = false := fun this => by
            simp only [E.pu, Bool.and_eq_false_iff] at this ⊢
            rcases this with z | z
            · exact .inl (.inl z)
            · exact .inr z
          exact fun v H2 P2 P3 z1 z2 z3 z4 z5 => h v H2 P2 P3 z1 z2 (fun u => ⟨(z3 u).1, fun x w => ((z3 u).2 x w).imp (fun y => ⟨im y.1, y.2⟩) id⟩) z4 (z5.mono fun x y => ⟨im y.1, y.2⟩)
end

section
variable {X : Cx} {rx : XR} {W : WX} {C : Ctx} {a b c : E} {ea eb ec : Expr} {pos : Pos} {p : PF} {k : Nat} {rest : List Expr}
theorem t_plain (ha : PE X ea (tE X.K rx W C a)) (he : ∀ whole, isTrue ea X.env whole = (do let v ← whole; standAt ea.pos; holding [v] (truthy v))) : PT X ea (tT X.K rx W C a) :=
  PT.of fun σ H Q h => ⟨_, pt_truth ha he, tT_to h⟩
theorem w_and (ha : PT X ea (tT X.K rx W C a)) (hb : PW X (.BoolOp .And (eb :: rest) pos) (tT X.K rx W C b)) : PW X (.BoolOp .And (ea :: eb :: rest) pos) (tT X.K rx W C (.and a b)) :=
  PW.of fun σ H Q h => ⟨_, pw_and ha hb, tT_and h⟩
theorem w_or (ha : PT X ea (tT X.K rx W C a)) (hb : PW X (.BoolOp .Or (eb :: rest) pos) (tT X.K rx W C b)) : PW X (.BoolOp .Or (ea :: eb :: rest) pos) (tT X.K rx W C (.or a b)) :=
  PW.of fun σ H Q h => ⟨_, pw_or ha hb, tT_or h⟩
theorem t_not (ha : PT X ea (tT X.K rx W C a)) : PT X (.UnaryOp .Not ea pos) (tT X.K rx W C (.not a)) :=
  PT.of fun σ H Q h => ⟨_, pt_not ha, tT_not h⟩
theorem s_and (ha : PE X ea (tE X.K rx W C a)) (hb : PE X (.BoolOp .And (eb :: rest) pos) (tE X.K rx W C b)) : PE X (.BoolOp .And (ea :: eb :: rest) pos) (tE X.K rx W C (.and a b)) :=
  PE.of fun σ H Q h => ⟨_, pe_andT ha hb, tE_and h⟩
theorem s_or (ha : PE X ea (tE X.K rx W C a)) (hb : PE X (.BoolOp .Or (eb :: rest) pos) (tE X.K rx W C b)) : PE X (.BoolOp .Or (ea :: eb :: rest) pos) (tE X.K rx W C (.or a b)) :=
  PE.of fun σ H Q h => ⟨_, pe_orT ha hb, tE_or h⟩
theorem s_not (ha : PE X ea (tE X.K rx W C a)) : PE X (.UnaryOp .Not ea pos) (tE X.K rx W C (.not a)) :=
  PE.of fun σ H Q h => ⟨_, pe_notT ha, tE_not h⟩
theorem s_ife (hc : PT X ec (tT X.K rx W C c)) (ha : PE X ea (tE X.K rx W C a)) (hb : PE X eb (tE X.K rx W C b)) : PE X (.IfExp ec ea eb pos) (tE X.K rx W C (.ife c a b)) :=
  PE.of fun σ H Q h => ⟨_, pe_ifExp hc ha hb, tE_ife h⟩
end
end Z

namespace Z
open PySem PySem.Spec L2
variable [TabList]

/-- a comparison: its value is a bool -/
def PF.isC : PF → Bool
  | .eq | .ne | .lt | .le | .gt | .ge | .isN | .notN | .inn | .nin => true
  | _ => false
theorem isC_bl {p : PF} {ds : List D} {r : D} (hp : p.isC = true) (h : p.ap ds = some r) : ∃ b, r = .bl b := by
  cases p <;> simp only [PF.isC, Bool.false_eq_true] at hp <;> (rcases ds with _ | ⟨d, _ | ⟨e, _ | ⟨f, ds⟩⟩⟩) <;> simp only [PF.ap, reduceCtorEq, Option.map_eq_some_iff, Option.some.injEq] at h <;>
    first
    | exact ⟨_, h.symm⟩
    | (obtain ⟨b, _, h⟩ := h; exact ⟨_, h.symm⟩)

section
variable {K : PySem.W.Frag} {rx : XR} {W : WX} {C : Ctx} {σ : L2.St} {H H1 : Hp} {P P1 : Own}
theorem fin_bl {b : Bool} {H : Hp} {Q : Bool → Hp → Prop} (h : Fin K (.bl b) H fun x H' => ∃ k, TruV K x H' k ∧ Q k H') : Fin K (.bl b) H fun x H' => ∃ k, x = .bl k ∧ Q k H' := fun v H' P' r n e => by
  have ev : v = .bl b := r
  subst ev
  obtain ⟨k, hk, q⟩ := h (.bl b) H' P' r n e
  obtain rfl : k = b := hk
  exact ⟨k, rfl, q⟩
theorem tT_cmp {p : PF} {a b : E} {Q : Bool → Hp → Prop} (hp : p.isC = true) (h : tT K rx W C (.ap p (.cons a (.cons b .nil))) σ H Q) :
    tE K rx W C a σ H fun x H1 => tE K rx W C b σ H1 fun y H2 => r2P K p x y H2 fun z H3 => ∃ k, z = .bl k ∧ Q k H3 := by
  refine tE_mono (ap_two (tT_to h)) fun x H1 h1 => tE_mono h1 fun y H2 ⟨d, e, r, P2, P4, rd, re, ha, hf⟩ => ⟨d, e, r, P2, P4, rd, re, ha, ?_⟩
  obtain ⟨b, rfl⟩ := isC_bl hp ha
  exact fin_bl hf
theorem tT_cmp1 {p : PF} {a : E} {Q : Bool → Hp → Prop} (hp : p.isC = true) (h : tT K rx W C (.ap p (.cons a .nil)) σ H Q) :
    tE K rx W C a σ H fun x H1 => r1P K p x H1 fun z H3 => ∃ k, z = .bl k ∧ Q k H3 := by
  refine tE_mono (ap_one (tT_to h)) fun x H1 ⟨d, r, P2, rd, ha, hf⟩ => ⟨d, r, P2, rd, ha, ?_⟩
  obtain ⟨b, rfl⟩ := isC_bl hp ha
  exact fin_bl hf
theorem fin_mono {r : D} {H : Hp} {Q Q' : VK} (h : Fin K r H Q) (hq : ∀ v H, Q v H → Q' v H) : Fin K r H Q' := fun v H' P' a b c => hq _ _ (h v H' P' a b c)
/-- a < b < c -/
theorem tE_chn {p q : PF} {a b c : E} {Q : VK} (hp : p.isC = true) (hq : q.isC = true) (h : tE K rx W C (.chn p q a b c) σ H Q) :
    tE K rx W C a σ H fun x H1 => tE K rx W C b σ H1 fun y H2 => r2P K p x y H2 fun z H3 => ∃ k, z = .bl k ∧ (if k = true then tE K rx W C c σ H3 fun w H4 => r2P K q y w H4 Q else Q (.bl false) H3) := by
  obtain ⟨env, P, hE, h⟩ := h
  refine ⟨env, P, hE, ?_⟩
  simp only [evE] at h
  cases q1 : evE C a env with
  | bad => rw [q1] at h; exact h.elim
  | exc x e1 => rw [q1] at h; exact h
  | ok d e1 =>
    rw [q1] at h
    simp only [Res.bind] at h
    intro v H1 P1 P2 r1 rd hd hn ev
    split at h
    · exact h.elim
    rename_i hc
    have hc : (a.pth && !b.pu && !imm d) = false := by simpa using hc
    refine ⟨e1, P1, r1, ?_⟩
    cases q2 : evE C b e1 with
    | bad => rw [q2] at h; exact h.elim
    | exc x e2 => rw [q2] at h; exact exc_on h hn ev.eo
    | ok e e2 =>
      rw [q2] at h
      simp only at h
      intro u H2 P3 P4 r3 re hd3 hn3 ev3
      obtain ⟨P5, rd'⟩ := held hc rd (fun z => (hd z).1) ev3
      cases q3 : p.ap [d, e] with
      | none => rw [q3] at h; exact h.elim
      | some z =>
        obtain ⟨k, rfl⟩ := isC_bl hp q3
        rw [q3] at h
        refine ⟨d, e, _, P5, P4, rd', re, q3, fun v3 H3 P6 r6 hn6 ev6 => ?_⟩
        obtain rfl : v3 = .bl k := r6
        have nn : New P H P3 := hn.trans ev.eo hn3
        have evv := ev_and ev ev3 hn
        cases k with
        | false =>
          refine ⟨false, rfl, ?_⟩
          rw [if_neg Bool.false_ne_true]
          refine h _ H3 P3 No (r3.ev ev6) rfl (fun _ => ⟨fun _ _ z => z, fun _ z => z.elim⟩) nn ?_
          refine (evv.mono fun x y => ⟨?_, y.2⟩).trans ev6 fun _ z => z.elim
          have := y.1
          simp only [E.pu, Bool.and_eq_false_iff] at this ⊢
          exact .inl this
        | true =>
          refine ⟨true, rfl, ?_⟩
          rw [if_pos rfl]
          simp only at h
          split at h
          · exact h.elim
          rename_i hc2
          have hc2 : (b.pth && !c.pu && !imm e) = false := by simpa using hc2
          refine ⟨e2, P3, r3.ev ev6, ?_⟩
          have ev7 : Ev (eO (a.pu && b.pu) P) H H3 := evv.trans ev6 fun _ z => z.elim
          cases q4 : evE C c e2 with
          | bad => rw [q4] at h; exact h.elim
          | exc x e3 => rw [q4] at h; exact exc_on h nn ev7.eo
          | ok f e3 =>
            rw [q4] at h
            simp only at h
            intro w H4 P7 P8 r7 rf hd7 hn7 ev8
            obtain ⟨P9, re'⟩ := held hc2 (re.ev ev6) (fun z => (hd3 z).1) ev8
            cases q5 : q.ap [e, f] with
            | none => rw [q5] at h; exact h.elim
            | some z =>
              rw [q5] at h
              exact ⟨e, f, z, P9, P8, re', rf, q5, fin_of (pu := (E.chn p q a b c).pu) r7 (nn.trans ev7.eo hn7) (ev_and ev7 ev8 nn) h⟩
theorem tT_chn {p q : PF} {a b c : E} {Q : Bool → Hp → Prop} (hp : p.isC = true) (hq : q.isC = true) (h : tT K rx W C (.chn p q a b c) σ H Q) :
    tE K rx W C a σ H fun x H1 => tE K rx W C b σ H1 fun y H2 => r2P K p x y H2 fun z H3 => ∃ k, z = .bl k ∧ (if k = true then tE K rx W C c σ H3 fun w H4 => r2P K q y w H4 (fun z H5 => ∃ k, z = .bl k ∧ Q k H5) else (∃ k, V.bl false = .bl k ∧ Q k H3)) := by
  refine tE_mono (tE_chn hp hq (tT_to h)) fun x H1 h1 => tE_mono h1 fun y H2 ⟨d, e, r, P2, P4, rd, re, ha, hf⟩ => ⟨d, e, r, P2, P4, rd, re, ha, fin_mono hf fun z H3 ⟨k, e1, h3⟩ => ⟨k, e1, ?_⟩⟩
  cases k with
  | false =>
    rw [if_neg Bool.false_ne_true] at h3 ⊢
    obtain ⟨k, hk, q⟩ := h3
    exact ⟨k, by rw [show k = false from hk], q⟩
  | true =>
    rw [if_pos rfl] at h3 ⊢
    refine tE_mono h3 fun w H4 ⟨d, e, r, P2, P4, rd, re, ha, hf⟩ => ⟨d, e, r, P2, P4, rd, re, ha, ?_⟩
    obtain ⟨b, rfl⟩ := isC_bl hq ha
    exact fin_bl hf

/-! ### arguments that are kept; displays -/
theorem o_nil {R : List V → Hp → Prop} (h : tO K rx W C .nil σ H R) : R [] H := by
  obtain ⟨env, P, hE, h⟩ := h
  exact h [] H P No hE rfl (fun _ _ z => z) (fun _ z => z.elim) New.refl Ev.refl
theorem o_cons {e : E} {r : Es} {R : List V → Hp → Prop} (h : tO K rx W C (.cons e r) σ H R) : tE K rx W C e σ H fun v H1 => tO K rx W C r σ H1 fun vs H2 => R (v :: vs) H2 := by
  obtain ⟨env, P, hE, h⟩ := h
  refine ⟨env, P, hE, ?_⟩
  simp only [evOs] at h
  cases q : evE C e env with
  | bad => rw [q] at h; exact h.elim
  | exc x e1 => rw [q] at h; exact h
  | ok d e1 =>
    rw [q] at h
    simp only [Res.bind] at h
    intro v H1 P1 P2 r1 rd hd hn ev
    split at h
    · exact h.elim
    rename_i hc
    -- what is owned in the value
    obtain ⟨P5, rd5, dj5, n5⟩ : ∃ P5, Rel K H1 d v P5 ∧ (∀ a, P1 a → ¬ P5 a) ∧ New (eO e.pu P) H P5 := by
      cases hp : e.pth with
      | false => exact ⟨P2, rd, (hd hp).1, (hd hp).2⟩
      | true =>
        have hi : imm d = true := by simpa [hp] using hc
        exact ⟨No, Rel.imm hi rd, fun _ _ z => z, fun _ z => z.elim⟩
    refine ⟨e1, P1, r1, ?_⟩
    cases q2 : evOs C r e1 with
    | bad => rw [q2] at h; exact h.elim
    | exc x e2 =>
      rw [q2] at h
      exact exc_on h hn ev.eo
    | ok ds e2 =>
      rw [q2] at h
      intro vs H2 P3 P4 r3 rs dj4 n4 hn3 ev3
      have rd6 := (rd5.tight).frame ev3 fun a z y => dj5 a y.2 z.1
      -- the new things stand apart from what was held
      have ap : ∀ a, Tt H1 P5 a → ¬ P4 a := fun a z y => (n4 a y).elim (fun y => dj5 a y.2 z.1) z.2
      have ap3 : ∀ a, P3 a → ¬ Tt H1 P5 a := fun a z y => (hn3 a z).elim (fun z => dj5 a z y.1) y.2
      refine h (v :: vs) H2 P3 (Uni (Tt H1 P5) P4) r3 (Rels.cons (Sep.uni ap) rd6 rs) (fun a z y => y.elim (ap3 a z) (dj4 a z)) (fun a z => z.elim (fun z => (n5 a z.1).imp (eO_l a) id) (new_and hn ev n4 a)) (hn.trans ev.eo hn3) (ev_and ev ev3 hn)
theorem tE_tup {es : Es} {Q : VK} (h : tE K rx W C (.tup es) σ H Q) : tO K rx W C es σ H fun xs H1 => xs.length ≤ sizeLine ∧ ∀ p, H1 p = none → Q (.ref p) (upd H1 p (.tup xs)) := by
  obtain ⟨env, P, hE, h⟩ := h
  refine ⟨env, P, hE, ?_⟩
  simp only [evE] at h
  cases q : evOs C es env with
  | bad => rw [q] at h; exact h.elim
  | exc x e1 => rw [q] at h; exact h
  | ok ds e1 =>
    rw [q] at h
    simp only [Res.bind] at h
    intro vs H1 P1 P2 r1 rs dj n2 hn ev
    split at h
    · rename_i hl
      have e1 := rs.length
      refine ⟨by rw [← lim_eq]; omega, fun p hp => h _ _ P1 P2 ?_ ?_ (fun _ => ⟨dj, n2⟩) hn (ev.trans (Ev.laid (O := No) hp) fun _ z => z.elim)⟩
      · exact r1.ev (Ev.laid hp)
      · exact ⟨p, vs, rfl, .inl (.inl upd_same), rs.frame (Ev.laid (O := No) hp) fun _ _ z => z⟩
    · exact h.elim
theorem tE_lst {es : Es} {Q : VK} (h : tE K rx W C (.lst es) σ H Q) : tO K rx W C es σ H fun xs H1 => xs.length ≤ sizeLine ∧ ∀ p, H1 p = none → Q (.ref p) (upd H1 p (.lst xs)) := by
  obtain ⟨env, P, hE, h⟩ := h
  refine ⟨env, P, hE, ?_⟩
  simp only [evE] at h
  cases q : evOs C es env with
  | bad => rw [q] at h; exact h.elim
  | exc x e1 => rw [q] at h; exact h
  | ok ds e1 =>
    rw [q] at h
    simp only [Res.bind] at h
    intro vs H1 P1 P2 r1 rs dj n2 hn ev
    split at h
    · rename_i hl
      have e1 := rs.length
      refine ⟨by rw [← lim_eq]; omega, fun p hp => ?_⟩
      have t1 := r1.tight
      have t2 := rs.tight
      have np : ∀ a, H1 a ≠ none → a ≠ p := fun a z y => z (by rw [y]; exact hp)
      refine h _ _ (Tt H1 P1) (fun a => a = p ∨ Tt H1 P2 a) (t1.ev (Ev.laid hp)) ⟨p, vs, Tt H1 P2, rfl, ⟨upd_same, .inl rfl, fun b z => ⟨.inr z, np b z.2⟩⟩, t2.frame (Ev.laid (O := No) hp) fun _ _ z => z⟩
        (fun _ => ⟨fun a z y => y.elim (np a z.2) fun y => dj a z.1 y.1, fun a z => z.elim (fun z => ?_) fun z => n2 a z.1⟩) (fun a z => hn a z.1) (ev.trans (Ev.laid (O := No) hp) fun _ z => z.elim)
      rw [z]
      right
      cases hh : H p with
      | none => rfl
      | some o => exact absurd hp (ev.dom p (by rw [hh]; exact fun z => nomatch z))
    · exact h.elim
end

section
variable {X : Cx} {rx : XR} {W : WX} {C : Ctx} {a b c : E} {ea eb ec : Expr} {pos : Pos} {p q : PF} {k : Nat}
theorem t_cmp {op : CmpOp} (hp : p.isC = true) (ho : OpR X (compareOp op) (r2P X.K p)) (ha : PE X ea (tE X.K rx W C a)) (hb : PE X eb (tE X.K rx W C b)) (hm : behindInMarks op eb = false) : PT X (.Compare ea [op] [eb] pos) (tT X.K rx W C (.ap p (.cons a (.cons b .nil)))) :=
  PT.of fun σ H Q h => ⟨_, pt_cmpR ho ha hb hm, tT_cmp hp h⟩
theorem t_isN {j pos'} (ha : PE X ea (tE X.K rx W C a)) : PT X (.Compare ea [.Is] [.Constant .none j pos'] pos) (tT X.K rx W C (.ap .isN (.cons a .nil))) := by
  refine PT.of fun σ H Q h => ⟨_, pt_cmp (pc_isN ha) (by rfl), tE_mono (tT_cmp1 rfl h) fun x H1 ⟨d, r, P2, rd, hp, hf⟩ => ?_⟩
  simp only [PF.ap, Option.some.injEq] at hp
  subst hp
  cases d
  case non => obtain rfl : x = .non := rd; exact hf.bl
  case bl => obtain rfl : x = .bl _ := rd; exact hf.bl
  case int => obtain rfl : x = .int _ := rd; exact hf.bl
  case str => obtain rfl : x = .str _ := rd; exact hf.bl
  case tup => obtain ⟨a, vs, rfl, _⟩ := rd; exact hf.bl
  case lst => obtain ⟨a, vs, _, rfl, _⟩ := rd; exact hf.bl
  case dic => obtain ⟨a, vs, _, rfl, _⟩ := rd; exact hf.bl
  case dit => obtain ⟨a, vs, _, rfl, _⟩ := rd; exact hf.bl
  case set => obtain ⟨a, vs, _, rfl, _⟩ := rd; exact hf.bl
  case scr => obtain ⟨a, rfl, _⟩ := rd; exact hf.bl
theorem t_notN {j pos'} (ha : PE X ea (tE X.K rx W C a)) : PT X (.Compare ea [.IsNot] [.Constant .none j pos'] pos) (tT X.K rx W C (.ap .notN (.cons a .nil))) := by
  refine PT.of fun σ H Q h => ⟨_, pt_cmp (pc_notN ha) (by rfl), tE_mono (tT_cmp1 rfl h) fun x H1 ⟨d, r, P2, rd, hp, hf⟩ => ?_⟩
  simp only [PF.ap, Option.some.injEq] at hp
  subst hp
  cases d
  case non => obtain rfl : x = .non := rd; exact hf.bl
  case bl => obtain rfl : x = .bl _ := rd; exact hf.bl
  case int => obtain rfl : x = .int _ := rd; exact hf.bl
  case str => obtain rfl : x = .str _ := rd; exact hf.bl
  case tup => obtain ⟨a, vs, rfl, _⟩ := rd; exact hf.bl
  case lst => obtain ⟨a, vs, _, rfl, _⟩ := rd; exact hf.bl
  case dic => obtain ⟨a, vs, _, rfl, _⟩ := rd; exact hf.bl
  case dit => obtain ⟨a, vs, _, rfl, _⟩ := rd; exact hf.bl
  case set => obtain ⟨a, vs, _, rfl, _⟩ := rd; exact hf.bl
  case scr => obtain ⟨a, rfl, _⟩ := rd; exact hf.bl
theorem s_chn {o1 o2 : CmpOp} (hp : p.isC = true) (hq : q.isC = true) (h1 : OpR X (compareOp o1) (r2P X.K p)) (h2 : OpR X (compareOp o2) (r2P X.K q)) (ha : PE X ea (tE X.K rx W C a)) (hb : PE X eb (tE X.K rx W C b)) (hc : PE X ec (tE X.K rx W C c)) (hm : lastMarks [o1, o2] [eb, ec] = false) :
    PE X (.Compare ea [o1, o2] [eb, ec] pos) (tE X.K rx W C (.chn p q a b c)) := PE.of fun σ H Q h => ⟨_, pe_chain h1 h2 ha hb hc hm, tE_chn hp hq h⟩
theorem t_chn {o1 o2 : CmpOp} (hp : p.isC = true) (hq : q.isC = true) (h1 : OpR X (compareOp o1) (r2P X.K p)) (h2 : OpR X (compareOp o2) (r2P X.K q)) (ha : PE X ea (tE X.K rx W C a)) (hb : PE X eb (tE X.K rx W C b)) (hc : PE X ec (tE X.K rx W C c)) (hm : lastMarks [o1, o2] [eb, ec] = false) :
    PT X (.Compare ea [o1, o2] [eb, ec] pos) (tT X.K rx W C (.chn p q a b c)) := PT.of fun σ H Q h => ⟨_, pt_chain h1 h2 ha hb hc hm, tT_chn hp hq h⟩
theorem so_nil : PA X [] (tO X.K rx W C .nil) := PA.of fun σ H Q h => ⟨_, pa_nil, o_nil h⟩
theorem so_cons {r : Es} {es : List Expr} (ha : PE X ea (tE X.K rx W C a)) (hr : PA X es (tO X.K rx W C r)) (hs : starEach (ea :: es) X.env = (false, eval ea X.env) :: starEach es X.env) : PA X (ea :: es) (tO X.K rx W C (.cons a r)) :=
  PA.of fun σ H Q h => ⟨_, pa_cons ha hr hs, o_cons h⟩
theorem s_tup {es : Es} {el : List Expr} {x1} (h : PA X el (tO X.K rx W C es)) : PE X (.Tuple el x1 pos) (tE X.K rx W C (.tup es)) := PE.of fun σ H Q hh => ⟨_, pe_tup h, tE_tup hh⟩
theorem s_lst {es : Es} {el : List Expr} (h : PA X el (tO X.K rx W C es)) : PE X (.List el pos) (tE X.K rx W C (.lst es)) := PE.of fun σ H Q hh => ⟨_, pe_lst h, tE_lst hh⟩
end
end Z

namespace Z
open PySem PySem.Spec L2
variable [TabList]

section
variable {K : PySem.W.Frag} {H : Hp}
/-- one place of a row: what is owned there, what else -/
theorem Rels.lens : ∀ {ds : List D} {vs : List V} {P : Own} {j : Nat} {d : D}, Rels K H ds vs P → ds[j]? = some d → ∃ v Pd Pr, vs[j]? = some v ∧ Sep P Pd Pr ∧ Rel K H d v Pd ∧
    ∀ H2 d' v' P', Rel K H2 d' v' P' → (∀ a, P' a → ¬ Pr a) → Ev Pd H H2 → Rels K H2 (ds.set j d') (vs.set j v') (Uni P' Pr)
  | [], _, _, _, _, _, e => by simp at e
  | d0 :: ds, _, _, 0, d, h, e => by
    obtain ⟨v, vs', P1, P2, rfl, s, r, rs⟩ := h
    simp at e; subst e
    refine ⟨v, P1, P2, rfl, s, r, fun H2 d' v' P' r' dj ev => ?_⟩
    exact Rels.cons (Sep.uni dj) r' (rs.frame ev fun a z y => s.2.2 a y z)
  | d0 :: ds, _, _, j + 1, d, h, e => by
    obtain ⟨v0, vs', P1, P2, rfl, s, r, rs⟩ := h
    obtain ⟨v, Pd, Pr, e1, s1, r1, w⟩ := Rels.lens (j := j) rs (by simpa using e)
    refine ⟨v, Pd, Uni P1 Pr, by simpa using e1, ⟨fun a z => s.2.1 a (s1.1 a z), fun a z => z.elim (s.1 a) fun z => s.2.1 a (s1.2.1 a z), fun a z y => y.elim (fun y => s.2.2 a y (s1.1 a z)) (s1.2.2 a z)⟩, r1, fun H2 d' v' P' r' dj ev => ?_⟩
    have rs' := w H2 d' v' P' r' (fun a z y => dj a z (.inr y)) ev
    simp only [List.set_cons_succ]
    refine ⟨v0, vs'.set j v', P1, Uni P' Pr, rfl, ⟨fun a z => .inr (.inl z), fun a z => z.elim .inl fun z => .inr (.inr z), fun a z y => y.elim (fun y => dj a y (.inl z)) fun y => s.2.2 a z (s1.2.1 a y)⟩, r.frame ev fun a z y => s.2.2 a z (s1.1 a y), rs'⟩
theorem set_same {α : Type} : ∀ {xs : List α} {j : Nat} {v : α}, xs[j]? = some v → xs.set j v = xs
  | [], _, _, h => by simp at h
  | x :: xs, 0, v, h => by simp at h; subst h; rfl
  | x :: xs, j + 1, v, h => by simp only [List.set_cons_succ]; rw [set_same (by simpa using h)]
theorem kIx_look {κ : Type} [DecidableEq κ] {k : κ} : ∀ {kvs : List (κ × V)} {j : Nat}, kIx (kvs.map (·.1)) k = some j → ∃ v, (kvs.map (·.2))[j]? = some v ∧ valV kvs k = some v
  | [], _, h => by simp [kIx] at h
  | (q, v) :: kvs, j, h => by
    simp only [List.map_cons, kIx] at h
    split at h
    · rename_i hq
      obtain rfl : 0 = j := Option.some.inj h
      exact ⟨v, rfl, valV_pos hq⟩
    · rename_i hq
      obtain ⟨i, hi, rfl⟩ := Option.map_eq_some_iff.mp h
      obtain ⟨v', h1, h2⟩ := kIx_look hi
      exact ⟨v', by simpa using h1, by rw [valV_neg hq]; exact h2⟩
end

section
variable {X : Cx} {k : Nat}
/-- a step down, and the way back up -/
theorem step_lens (hr : Room k X.A) {H : Hp} {x kd d : D} {vx vk : V} {P Pk : Own} (r : Rel X.K H x vx P) (rk : Rel X.K H kd vk Pk) (h : stepD x kd = some d) :
    ∃ v Pd Pr rd, IxR X rd ∧ (∀ Q : VK, Q v H → rd vx vk H Q) ∧ Sep P Pd Pr ∧ Rel X.K H d v Pd ∧
      ∀ H2 d' P' x', Rel X.K H2 d' v P' → (∀ a, P' a → ¬ Pr a) → Ev Pd H H2 → setP x kd d' = some x' → Rel X.K H2 x' vx (Uni P' Pr) := by
  unfold stepD at h
  cases x <;> simp only [opIdx, reduceCtorEq] at h
  · cases kd <;> simp only [reduceCtorEq, Option.ite_none_right_eq_some, Option.map_eq_some_iff] at h
    obtain ⟨h1, c, hc, rfl⟩ := h
    exact ⟨_, No, P, _, ix_str, fun Q q => ⟨_, _, c, r, rk, by rw [← lim_eq]; exact h1, hc, q⟩, Sep.nl, rfl, fun H2 d' P' x' _ _ _ z => by simp [setP] at z⟩
  · cases kd <;> simp only [reduceCtorEq] at h
    obtain ⟨a, vs, rfl, s1, r1⟩ := r
    unfold atI at h
    obtain ⟨j, hj, hd⟩ := Option.bind_eq_some_iff.mp h
    obtain ⟨v, Pd, Pr, e1, s, rd, w⟩ := r1.lens hd
    refine ⟨v, Pd, Pr, _, ix_tup, fun Q q => ⟨a, vs, _, v, rfl, rk, s1, ?_, q⟩, s, rd, fun H2 d' P' x' r' dj ev z => ?_⟩
    · unfold atI
      rw [← r1.length, hj]
      exact e1
    · simp only [setP, hj, Option.map_some, Option.some.injEq] at z
      subst z
      have z := w H2 d' v P' r' dj ev
      rw [set_same e1] at z
      exact ⟨a, vs, rfl, sqT_frame s1 ev, z⟩
  · cases kd <;> simp only [reduceCtorEq] at h
    rename_i m ds i
    obtain ⟨a, vs, Q1, rfl, s1, r1⟩ := r
    unfold atI at h
    obtain ⟨j, hj, hd⟩ := Option.bind_eq_some_iff.mp h
    obtain ⟨v, Pd, Pr, e1, s, rd, w⟩ := r1.lens hd
    refine ⟨v, Pd, fun x => P x ∧ ¬ Pd x, _, ix_list, fun Q q => ⟨a, vs, _, v, rfl, rk, .inl s1.rd, ?_, q⟩, ⟨fun x z => s1.sub x (s.1 x z), fun x z => z.1, fun x z y => y.2 z⟩, rd, fun H2 d' P' x' r' dj ev z => ?_⟩
    · unfold atI
      rw [← r1.length, hj]
      exact e1
    · cases m <;> simp only [setP, hj, Option.map_some, Option.some.injEq, reduceCtorEq] at z
      subst z
      have na : ¬ Pd a := fun y => (s1.2.2 a (s.1 a y)).2 rfl
      have z := w H2 d' v P' r' (fun x y z => dj x y ⟨(s1.2.2 x (s.2.1 x z)).1, fun u => s.2.2 x u z⟩) ev
      rw [set_same e1] at z
      refine ⟨a, vs, Uni P' Pr, rfl, ⟨ev.keep a _ s1.1 (fun _ z => nomatch z) fun y => (na y).elim, .inr ⟨s1.2.1, na⟩, fun b y => ?_⟩, z⟩
      rcases y with y | y
      · exact ⟨.inl y, fun e => dj b y (by rw [e]; exact ⟨s1.2.1, na⟩)⟩
      · exact ⟨.inr ⟨(s1.2.2 b (s.2.1 b y)).1, fun u => s.2.2 b u y⟩, (s1.2.2 b (s.2.1 b y)).2⟩
  · rename_i m ks ds
    obtain ⟨q, hq, hl⟩ := Option.bind_eq_some_iff.mp h
    obtain ⟨a, kvs, Q1, rfl, s1, ⟨rfl, nd⟩, r1⟩ := r
    unfold look at hl
    obtain ⟨j, hj, hd⟩ := Option.bind_eq_some_iff.mp hl
    obtain ⟨v, Pd, Pr, e1, s, rd, w⟩ := r1.lens hd
    obtain ⟨v', e2, e3⟩ := kIx_look hj
    obtain rfl : v' = v := by rw [e1] at e2; exact (Option.some.inj e2).symm
    refine ⟨v', Pd, fun x => P x ∧ ¬ Pd x, _, ix_dict hr, fun Q z => ⟨a, v', rfl, .inl ⟨kvs, q, s1.rd, key_val rk hq, e3.symm⟩, z⟩, ⟨fun x z => s1.sub x (s.1 x z), fun x z => z.1, fun x z y => y.2 z⟩, rd, fun H2 d' P' x' r' dj ev z => ?_⟩
    cases m <;> simp only [setP, hq, hj, Option.map_some, Option.bind_some, Option.some.injEq, reduceCtorEq] at z
    subst z
    have na : ¬ Pd a := fun y => (s1.2.2 a (s.1 a y)).2 rfl
    have z := w H2 d' v' P' r' (fun x y z => dj x y ⟨(s1.2.2 x (s.2.1 x z)).1, fun u => s.2.2 x u z⟩) ev
    rw [set_same e1] at z
    refine ⟨a, kvs, Uni P' Pr, rfl, ⟨ev.keep a _ s1.1 (fun _ z => nomatch z) fun y => (na y).elim, .inr ⟨s1.2.1, na⟩, fun b y => ?_⟩, ⟨rfl, nd⟩, z⟩
    rcases y with y | y
    · exact ⟨.inl y, fun e => dj b y (by rw [e]; exact ⟨s1.2.1, na⟩)⟩
    · exact ⟨.inr ⟨(s1.2.2 b (s.2.1 b y)).1, fun u => s.2.2 b u y⟩, (s1.2.2 b (s.2.1 b y)).2⟩
end

/-! ### paths -/
theorem getK_snoc : ∀ {ks : List D} {x k : D}, getK x (ks ++ [k]) = (getK x ks).bind fun y => stepD y k
  | [], x, k => by simp [getK]
  | q :: ks, x, k => by
    simp only [List.cons_append, getK]
    cases stepD x q with
    | none => rfl
    | some y => exact getK_snoc (ks := ks)
theorem putKs_snoc : ∀ {ks : List D} {x k d x' : D}, putKs x (ks ++ [k]) d = some x' → ∃ y y', getK x ks = some y ∧ setP y k d = some y' ∧ putKs x ks y' = some x'
  | [], x, k, d, x', h => by
    simp only [List.nil_append, putKs, Option.bind_eq_some_iff] at h
    obtain ⟨y, _, y', hy, h⟩ := h
    cases hy
    exact ⟨x, x', rfl, h, rfl⟩
  | q :: ks, x, k, d, x', h => by
    simp only [List.cons_append, putKs, Option.bind_eq_some_iff] at h
    obtain ⟨y, h1, y', h2, h3⟩ := h
    obtain ⟨z, z', e1, e2, e3⟩ := putKs_snoc h2
    exact ⟨z, z', by simp [getK, h1, e1], e2, by simp [putKs, h1, e3, h3]⟩

/-- the thing at a path: d stands there as v; whatever comes in its place, the slots hold what the evaluator says -/
def Foc (K : PySem.W.Frag) (H : Hp) (σ : L2.St) (env : Env) (P : Own) (i : Nat) (ks : List D) (x d : D) (v : V) : Prop :=
  ∃ Pd Pr, Sep P Pd Pr ∧ Rel K H d v Pd ∧ ∀ H2 d' P' x', putKs x ks d' = some x' → Rel K H2 d' v P' → (∀ a, P' a → ¬ Pr a) → Ev Pd H H2 → RelE K H2 (env.set i (some x')) σ (Uni P' Pr)
def tP (K : PySem.W.Frag) (C : Ctx) (o : E) : TE := fun σ H Q => ∃ env P i ks x d, RelE K H env σ P ∧ evP C o env = some (i, ks) ∧ env[i]? = some (some x) ∧ getK x ks = some d ∧
  ∀ v H', Ev No H H' → Foc K H' σ env P i ks x d v → (ks = [] → σ[i]? = some (some v)) → Q v H'
section
variable {K : PySem.W.Frag} {σ : L2.St} {H H' : Hp} {env : Env} {P : Own} {i : Nat} {ks : List D} {x d : D} {v : V}
theorem Foc.ev (h : Foc K H σ env P i ks x d v) (e : Ev No H H') : Foc K H' σ env P i ks x d v := by
  obtain ⟨Pd, Pr, s, r, w⟩ := h
  exact ⟨Pd, Pr, s, r.ev e, fun H2 d' P' x' h1 h2 h3 h4 => w H2 d' P' x' h1 h2 h3 (e.of_no.trans h4 New.refl)⟩
theorem foc_var (hE : RelE K H env σ P) (hx : env[i]? = some (some x)) (hv : σ[i]? = some (some v)) : Foc K H σ env P i [] x x v := by
  obtain ⟨v', P1, P2, e, s, r, rs⟩ := hE.get hx
  rw [hv] at e
  obtain rfl : v = v' := by injection e with e; injection e
  refine ⟨P1, P2, s, r, fun H2 d' P' x' h1 h2 h3 h4 => ?_⟩
  obtain rfl : d' = x' := Option.some.inj h1
  exact (rs.frame h4 fun a z y => s.2.2 a y z).put (Sep.uni h3) h2 hv
end

section
variable {X : Cx} {rx : XR} {W : WX} {C : Ctx} {a kE : E} {ea eb : Expr} {pos : Pos} {k : Nat}
theorem p_var {i : Nat} {x : Str} {pos : Pos} (hN : X.N[i]? = some x) (hv : Vis X.env.scope x) (hd : (x == ("__debug__" : Str)) = false) (hcd : (x == ("__classdict__" : Str)) = false) : PE X (.Name x pos) (tP X.K C (.var i)) := by
  refine PE.of fun σ H Q ⟨env, P, j, ks, x0, d, hE, hp, hx, hg, h⟩ => ⟨_, pe_var hN hv hd hcd, ?_⟩
  simp only [evP, Option.some.injEq, Prod.mk.injEq] at hp
  obtain ⟨rfl, rfl⟩ := hp
  obtain rfl : x0 = d := Option.some.inj hg
  obtain ⟨v, P1, P2, e, s, r, rs⟩ := hE.get hx
  exact ⟨v, e, h v H Ev.refl (foc_var hE hx e) fun _ => e⟩
theorem p_idx (hr : Room k X.A) (ha : PE X ea (tP X.K C a)) (hb : PE X eb (tE X.K rx W C kE)) (hs : PlainIx eb) : PE X (.Subscript ea eb pos) (tP X.K C (.pidx a kE)) := by
  -- the step's rule is chosen at the values
  have hix : IxR X (fun x y H Q => ∃ rd, IxR X rd ∧ rd x y H Q) := IxR.of fun x y H Q h => h
  refine PE.of fun σ H Q ⟨env, P, j, ks, x0, d, hE, hp, hx, hg, h⟩ => ⟨_, pe_ix hix ha hb hs, ?_⟩
  simp only [evP] at hp
  split at hp
  · rename_i hpu
    cases q1 : evP C a env with
    | none => rw [q1] at hp; cases hp
    | some ik =>
      obtain ⟨i0, ks0⟩ := ik
      rw [q1] at hp
      simp only at hp
      cases q2 : evE C kE env with
      | bad => rw [q2] at hp; cases hp
      | exc x e => rw [q2] at hp; cases hp
      | ok dk ek =>
        rw [q2] at hp
        simp only [Option.some.injEq, Prod.mk.injEq] at hp
        obtain ⟨rfl, rfl⟩ := hp
        rw [getK_snoc] at hg
        obtain ⟨y, hy, hst⟩ := Option.bind_eq_some_iff.mp hg
        refine ⟨env, P, i0, ks0, x0, y, hE, q1, hx, hy, fun v1 H1 ev1 foc1 _ => ?_⟩
        refine ⟨env, P, hE.ev ev1, ?_⟩
        rw [q2]
        intro vk H2 P1 P2 _ rk _ _ ev2
        rw [hpu] at ev2
        have ev2 : Ev No H1 H2 := ev2.mono fun _ z => nomatch z.1
        have foc2 := foc1.ev ev2
        obtain ⟨Pd, Pr, s, r, w⟩ := foc2
        obtain ⟨v, Pd2, Pr2, rd, hrd, hq, s2, r2, w2⟩ := step_lens hr r rk hst
        refine ⟨rd, hrd, hq Q ?_⟩
        refine h v H2 (ev1.trans ev2 fun _ z => z.elim) ⟨Pd2, Uni Pr2 Pr, ⟨fun b z => s.1 b (s2.1 b z), fun b z => z.elim (fun z => s.1 b (s2.2.1 b z)) (s.2.1 b), fun b z y => y.elim (s2.2.2 b z) (s.2.2 b (s2.1 b z))⟩, r2, fun H3 d' P' x' h1 h2 h3 h4 => ?_⟩ (fun z => by simp at z)
        obtain ⟨y1, y', e1, e2, e3⟩ := putKs_snoc h1
        obtain rfl : y1 = y := by rw [hy] at e1; exact (Option.some.inj e1).symm
        have z1 := w2 H3 d' P' y' h2 (fun b z y => h3 b z (.inl y)) h4 e2
        have z2 := w H3 y' _ x' e3 z1 (fun b z y => z.elim (fun z => h3 b z (.inr y)) fun z => s.2.2 b (s2.2.1 b z) y) (h4.mono s2.1)
        exact z2.mono fun b z => z.elim (fun z => z.elim .inl fun z => .inr (.inl z)) fun z => .inr (.inr z)
  · cases hp
end
end Z

namespace Z
open PySem PySem.Spec L2
variable [TabList]

/-! ### a part that is read where it stands -/
section
variable {X : Cx} {rx : XR} {W : WX} {C : Ctx} {a b : E} {ea eb : Expr} {pos : Pos} {k : Nat}
theorem tE_pidx {K : PySem.W.Frag} {σ : L2.St} {H : Hp} {Q : VK} (h : tE K rx W C (.pidx a b) σ H Q) : tE K rx W C a σ H fun x H1 => tE K rx W C b σ H1 fun y H2 => rStep K x y H2 Q := by
  obtain ⟨env, P, hE, h⟩ := h
  refine ⟨env, P, hE, ?_⟩
  simp only [evE] at h
  cases q : evE C a env with
  | bad => rw [q] at h; exact h.elim
  | exc x e1 => rw [q] at h; exact h
  | ok d e1 =>
    rw [q] at h
    simp only [Res.bind] at h
    intro v H1 P1 P2 r1 rd hd hn ev
    split at h
    · exact h.elim
    rename_i hc
    refine ⟨e1, P1, r1, ?_⟩
    cases q2 : evE C b e1 with
    | bad => rw [q2] at h; exact h.elim
    | exc x e2 => rw [q2] at h; exact exc_on h hn ev.eo
    | ok kd e2 =>
      rw [q2] at h
      intro u H2 P3 P4 r3 rk hd3 hn3 ev3
      cases q3 : stepD d kd with
      | none => simp only [q3] at h; exact h.elim
      | some r =>
        simp only [q3] at h
        have evv := ev_and ev ev3 hn
        have nn := hn.trans ev.eo hn3
        cases hp : a.pth with
        | true =>
          obtain ⟨P5, rd5⟩ : ∃ P5, Rel K H2 d v P5 := by
            cases hb : b.pu with
            | true =>
              have ev4 : Ev No H1 H2 := ev3.mono fun _ z => by have := z.1; rw [hb] at this; cases this
              exact ⟨P2, rd.ev ev4⟩
            | false =>
              have hi : imm d = true := by rw [hp, hb] at hc; simpa using hc
              exact ⟨No, (Rel.imm hi rd).frame ev3 fun _ z => z.elim⟩
          refine ⟨d, kd, r, P5, P4, rd5, rk, q3, fun w P' sb rw' => h w H2 P3 P' r3 rw' (fun z => ?_) nn evv⟩
          have z : a.pth = false := z
          rw [hp] at z; cases z
        | false =>
          obtain ⟨dj, n2⟩ := hd hp
          refine ⟨d, kd, r, Tt H1 P2, P4, rd.tight.frame ev3 fun x z y => dj x y.2 z.1, rk, q3, fun w P' sb rw' => h w H2 P3 P' r3 rw' (fun _ => ⟨fun x z y => ?_, fun x y => (n2 x (sb x y).1).imp (eO_l x) id⟩) nn evv⟩
          exact (hn3 x z).elim (fun z => dj x z (sb x y).1) (sb x y).2
theorem s_pidx (hr : Room k X.A) (ha : PE X ea (tE X.K rx W C a)) (hb : PE X eb (tE X.K rx W C b)) (hs : PlainIx eb) : PE X (.Subscript ea eb pos) (tE X.K rx W C (.pidx a b)) :=
  PE.of fun σ H Q h => ⟨_, pe_ix (ix_step hr) ha hb hs, tE_pidx h⟩
end

/-! ### locking for good -/
section
variable {X : Cx} {pins : List (Addr × Obj)} {σ : L2.St} {s : Shared}
theorem lock_one {H : Hp} {a : Addr} {u : HO} {P : Own} (I : Inv X pins σ H s) (h : H a = some u) (mu : Mut (some u)) (hp : P a) : ∃ od, Inv X pins σ (upd H a (.frz od u)) s ∧ Ev P H (upd H a (.frz od u)) := by
  obtain ⟨od, I'⟩ := I.lock h mu
  refine ⟨od, I', fun b o e _ m => ?_, fun b e => ?_, fun _ t => t.mut h mu⟩
  · by_cases hb : b = a
    · subst hb
      rw [h] at e
      cases e
      exact absurd mu (m hp)
    · rw [upd_ne hb]; exact e
  · by_cases hb : b = a
    · rw [hb, upd_same]; exact fun z => nomatch z
    · rw [upd_ne hb]; exact e
mutual
theorem freeze : ∀ {d : D} {v : V} {P : Own} {H : Hp}, Inv X pins σ H s → Rel X.K H d v P → ∃ H', Inv X pins σ H' s ∧ Rel X.K H' (fz d) v No ∧ Ev P H H'
  | .non, _, _, H, I, r => ⟨H, I, r, Ev.refl⟩
  | .bl _, _, _, H, I, r => ⟨H, I, r, Ev.refl⟩
  | .int _, _, _, H, I, r => ⟨H, I, r, Ev.refl⟩
  | .str _, _, _, H, I, r => ⟨H, I, r, Ev.refl⟩
  | .tup ds, _, _, H, I, r => by
    obtain ⟨a, vs, rfl, s1, r1⟩ := r
    obtain ⟨H', I', r', e⟩ := freezes I r1
    exact ⟨H', I', ⟨a, vs, rfl, sqT_frame s1 e, r'⟩, e⟩
  | .lst m ds, _, P, H, I, r => by
    obtain ⟨a, vs, Q, rfl, s1, r1⟩ := r
    obtain ⟨H1, I1, r', e⟩ := freezes I r1
    cases m with
    | false => exact ⟨H1, I1, ⟨a, vs, No, rfl, ⟨s1.1.imp fun o z => e.keep a _ z (fun _ q => nomatch q) fun _ m => m, fun _ z => z⟩, r'⟩, e.mono s1.2⟩
    | true =>
      obtain ⟨od, I2, e2⟩ := lock_one (P := P) I1 (e.keep a _ s1.1 (fun _ q => nomatch q) fun y => ((s1.2.2 a y).2 rfl).elim) trivial s1.2.1
      exact ⟨_, I2, ⟨a, vs, No, rfl, ⟨⟨od, upd_same⟩, fun _ z => z⟩, r'.frame e2 fun _ z => z.elim⟩, (e.mono fun x z => (s1.2.2 x z).1).trans e2 New.refl⟩
  | .dic m ks ds, _, P, H, I, r => by
    obtain ⟨a, vs, Q, rfl, s1, k, r1⟩ := r
    obtain ⟨H1, I1, r', e⟩ := freezes I r1
    cases m with
    | false => exact ⟨H1, I1, ⟨a, vs, No, rfl, ⟨s1.1.imp fun o z => e.keep a _ z (fun _ q => nomatch q) fun _ m => m, fun _ z => z⟩, k, r'⟩, e.mono s1.2⟩
    | true =>
      obtain ⟨od, I2, e2⟩ := lock_one (P := P) I1 (e.keep a _ s1.1 (fun _ q => nomatch q) fun y => ((s1.2.2 a y).2 rfl).elim) trivial s1.2.1
      exact ⟨_, I2, ⟨a, vs, No, rfl, ⟨⟨od, upd_same⟩, fun _ z => z⟩, k, r'.frame e2 fun _ z => z.elim⟩, (e.mono fun x z => (s1.2.2 x z).1).trans e2 New.refl⟩
  | .dit m ks ds, _, P, H, I, r => by
    obtain ⟨a, vs, Q, rfl, s1, k, r1⟩ := r
    obtain ⟨H1, I1, r', e⟩ := freezes I r1
    cases m with
    | false => exact ⟨H1, I1, ⟨a, vs, No, rfl, ⟨s1.1.imp fun o z => e.keep a _ z (fun _ q => nomatch q) fun _ m => m, fun _ z => z⟩, k, r'⟩, e.mono s1.2⟩
    | true =>
      obtain ⟨od, I2, e2⟩ := lock_one (P := P) I1 (e.keep a _ s1.1 (fun _ q => nomatch q) fun y => ((s1.2.2 a y).2 rfl).elim) trivial s1.2.1
      exact ⟨_, I2, ⟨a, vs, No, rfl, ⟨⟨od, upd_same⟩, fun _ z => z⟩, k, r'.frame e2 fun _ z => z.elim⟩, (e.mono fun x z => (s1.2.2 x z).1).trans e2 New.refl⟩
  | .set m ks, _, P, H, I, r => by
    obtain ⟨a, vs, Q, rfl, s1, k⟩ := r
    cases m with
    | false => exact ⟨H, I, ⟨a, vs, No, rfl, ⟨s1.1, fun _ z => z⟩, k⟩, Ev.refl⟩
    | true =>
      obtain ⟨od, I2, e2⟩ := lock_one (P := P) I s1.1 trivial s1.2.1
      exact ⟨_, I2, ⟨a, vs, No, rfl, ⟨⟨od, upd_same⟩, fun _ z => z⟩, k⟩, e2⟩
  | .scr _, _, _, H, I, r => ⟨H, I, r, Ev.refl⟩
theorem freezes : ∀ {ds : List D} {vs : List V} {P : Own} {H : Hp}, Inv X pins σ H s → Rels X.K H ds vs P → ∃ H', Inv X pins σ H' s ∧ Rels X.K H' (fzs ds) vs No ∧ Ev P H H'
  | [], _, _, H, I, r => ⟨H, I, r, Ev.refl⟩
  | d :: ds, _, P, H, I, r => by
    obtain ⟨v, vs', P1, P2, rfl, s1, r1, rs⟩ := r
    obtain ⟨H1, I1, r2, e1⟩ := freeze I r1
    obtain ⟨H2, I2, r3, e2⟩ := freezes I1 (rs.frame e1 fun a z y => s1.2.2 a y z)
    refine ⟨H2, I2, Rels.cons Sep.nl (r2.frame e2 fun _ z => z.elim) r3, (e1.mono s1.1).trans (e2.mono s1.2.1) New.refl⟩
end
end
section
variable {X : Cx} {rx : XR} {W : WX} {C : Ctx}
theorem s_frz {i : Nat} {x : Str} {pos : Pos} (hN : X.N[i]? = some x) (hv : Vis X.env.scope x) (hd : (x == ("__debug__" : Str)) = false) (hcd : (x == ("__classdict__" : Str)) = false) : PE X (.Name x pos) (tE X.K rx W C (.frz i)) := by
  refine ⟨fun pins s σ H Q I ⟨env, P, hE, h⟩ => ?_⟩
  simp only [evE] at h
  cases q : env[i]? with
  | none => rw [q] at h; exact h.elim
  | some od =>
    cases od with
    | none => rw [q] at h; exact h.elim
    | some d =>
      rw [q] at h
      obtain ⟨v, P1, P2, e, s1, r, rs⟩ := hE.get q
      obtain ⟨H', I', r', ev⟩ := freeze I r
      refine (pe_var hN hv hd hcd).run pins s σ H' Q I' ⟨v, e, ?_⟩
      exact h v H' P2 No ((rs.frame ev fun a z y => s1.2.2 a y z).put Sep.nl r' e) r' (fun _ => ⟨fun _ _ z => z, fun _ z => z.elim⟩) (fun a z => .inl (s1.2.1 a z)) (ev.mono fun a z => ⟨rfl, s1.1 a z⟩)
end

/-! ### methods that change their object -/
def mmId : MM → String
  | .append => "list.append" | .pop => "list.pop" | .popAt => "list.pop" | .extend => "list.extend" | .insert => "list.insert" | .clear => "list.clear" | .reverse => "list.reverse" | .sort => "list.sort" | .add => "set.add"
def mmName : MM → Str
  | .append => "append" | .pop => "pop" | .popAt => "pop" | .extend => "extend" | .insert => "insert" | .clear => "clear" | .reverse => "reverse" | .sort => "sort" | .add => "add"
/-- what is wanted behind the method: its answer r, the thing y' in the place of the old one -/
def MmQ (K : PySem.W.Frag) (H : Hp) (Pd P2 : Own) (r y' : D) (v : V) (Q : VK) : Prop :=
  ∀ vr H2 P3 P4, Rel K H2 r vr P3 → Rel K H2 y' v P4 → (∀ a, P3 a → ¬ P4 a) → (∀ a, P3 a → Pd a ∨ P2 a) → (∀ a, P4 a → Pd a ∨ P2 a) → Ev Pd H H2 → Q vr H2
theorem Ev.wrote {H : Hp} {a : Addr} {o u : HO} {P : Own} (h : H a = some o) (mu : Mut (some o)) (hp : P a) : Ev P H (upd H a u) :=
  ⟨fun b w e _ m => by
    by_cases hb : b = a
    · subst hb
      rw [h] at e
      cases e
      exact absurd mu (m hp)
    · rw [upd_ne hb]; exact e, fun b e => by
    by_cases hb : b = a
    · rw [hb, upd_same]; exact fun z => nomatch z
    · rw [upd_ne hb]; exact e, fun _ t => t.mut h mu⟩
section
variable {X : Cx}
theorem mt_extendR : MtR X "list.extend" (fun x vs H Q => ∃ l b xs zs, x = .ref l ∧ vs = [.ref b] ∧ H l = some (.lst xs) ∧ H b = some (.lst zs) ∧ xs.length + zs.length ≤ sizeLine ∧ Q .non (upd H l (.lst (xs ++ zs)))) := mt_extend
/-- a list at a, alone owned with its parts, gets other items -/
theorem lst_new {K : PySem.W.Frag} {H : Hp} {a : Addr} {xs ys : List V} {ds : List D} {P Q1 : Own} (h : H a = some (.lst xs)) (r : Rels K H ds ys Q1) (na : ¬ Q1 a) (hp : P a) (hs : ∀ b, Q1 b → P b) : Rel K (upd H a (.lst ys)) (.lst true ds) (.ref a) P :=
  ⟨a, ys, Q1, rfl, ⟨upd_same, hp, fun b z => ⟨hs b z, fun e => na (by rw [← e]; exact z)⟩⟩, r.frame (Ev.wrote (P := fun b => b = a) h trivial rfl) fun b z e => na (by rw [← e]; exact z)⟩
theorem mm_ok {H : Hp} {m : MM} {y r y' : D} {ds : List D} {v : V} {vs : List V} {Pd P2 : Own} {Q : VK} (ry : Rel X.K H y v Pd) (rs : Rels X.K H ds vs P2) (dj : ∀ a, Pd a → ¬ P2 a) (h : mmAp m y ds = some (r, y')) (hq : MmQ X.K H Pd P2 r y' v Q) :
    ∃ rd, MtR X (mmId m) rd ∧ rd v vs H Q := by
  unfold mmAp at h
  split at h
  · -- append
    rename_i ds0 d
    split at h
    · rename_i hl
      cases h
      obtain ⟨a, xs, Q1, rfl, s1, r1⟩ := ry
      obtain ⟨u, us, P3, P4, rfl, s2, r2, r3⟩ := rs
      obtain rfl : us = [] := r3
      have e1 := r1.length
      refine ⟨_, mt_append, a, xs, u, rfl, rfl, s1.1, by rw [← lim_eq, ← e1]; exact hl, ?_⟩
      have sub : ∀ b, Q1 b → ¬ P3 b := fun b z w => dj b (s1.2.2 b z).1 (s2.1 b w)
      refine hq _ _ No (fun b => Pd b ∨ P2 b) rfl ?_ (fun _ z => z.elim) (fun _ z => z.elim) (fun _ z => z) (Ev.wrote s1.1 trivial s1.2.1)
      refine lst_new (Q1 := Uni Q1 P3) s1.1 (Rels.append (Sep.uni sub) r1 (Rels.cons (Sep.nr) r2 (show Rels X.K H [] [] No from rfl))) (fun z => z.elim (fun z => (s1.2.2 a z).2 rfl) fun z => dj a s1.2.1 (s2.1 a z)) (.inl s1.2.1) fun b z => z.elim (fun z => .inl (s1.2.2 b z).1) fun z => .inr (s2.1 b z)
    · cases h
  · -- pop
    rename_i ds0
    obtain ⟨d, hd, e⟩ := Option.map_eq_some_iff.mp h
    cases e
    obtain ⟨a, xs, Q1, rfl, s1, r1⟩ := ry
    obtain rfl : vs = [] := rs
    obtain ⟨ds1, rfl⟩ : ∃ ds1, ds0 = ds1 ++ [r] := by
      have := List.getLast?_eq_some_iff.mp hd
      exact this
    obtain ⟨us, ws, P3, P4, rfl, s2, r2, r3⟩ := r1.split
    obtain ⟨u, us', P5, P6, rfl, s3, r4, r5⟩ := r3
    obtain rfl : us' = [] := r5
    refine ⟨_, mt_pop, a, us ++ [u], u, rfl, rfl, s1.1, by simp, ?_⟩
    rw [List.dropLast_concat]
    have ne : ∀ b, Q1 b → b ≠ a := fun b z => (s1.2.2 b z).2
    refine hq u _ P5 (fun b => Pd b ∧ ¬ P5 b) (r4.frame (Ev.wrote (P := fun b => b = a) s1.1 trivial rfl) fun b z e => ne b (s2.2.1 b (s3.1 b z)) e) ?_ (fun b z y => y.2 z) (fun b z => .inl (s1.2.2 b (s2.2.1 b (s3.1 b z))).1) (fun b z => .inl z.1) (Ev.wrote s1.1 trivial s1.2.1)
    rw [List.dropLast_concat]
    exact lst_new (Q1 := P3) s1.1 r2 (fun z => ne a (s2.1 a z) rfl) ⟨s1.2.1, fun z => ne a (s2.2.1 a (s3.1 a z)) rfl⟩ fun b z => ⟨(s1.2.2 b (s2.1 b z)).1, fun y => s2.2.2 b z (s3.1 b y)⟩
  · -- extend
    rename_i ds0 es
    split at h
    · rename_i hl
      cases h
      obtain ⟨a, xs, Q1, rfl, s1, r1⟩ := ry
      obtain ⟨u, us, P3, P4, rfl, s2, r2, r3⟩ := rs
      obtain rfl : us = [] := r3
      obtain ⟨b, zs, Q2, rfl, s3, r4⟩ := r2
      have e1 := r1.length
      have e2 := r4.length
      refine ⟨_, mt_extend, a, b, xs, zs, rfl, rfl, s1.1, s3.1, by rw [← lim_eq]; omega, ?_⟩
      have sub : ∀ c, Q1 c → ¬ Q2 c := fun c z w => dj c (s1.2.2 c z).1 (s2.1 c (s3.2.2 c w).1)
      refine hq _ _ No (fun b => Pd b ∨ P2 b) rfl ?_ (fun _ z => z.elim) (fun _ z => z.elim) (fun _ z => z) (Ev.wrote s1.1 trivial s1.2.1)
      exact lst_new (Q1 := Uni Q1 Q2) s1.1 (Rels.append (Sep.uni sub) r1 r4) (fun z => z.elim (fun z => (s1.2.2 a z).2 rfl) fun z => dj a s1.2.1 (s2.1 a (s3.2.2 a z).1)) (.inl s1.2.1) fun c z => z.elim (fun z => .inl (s1.2.2 c z).1) fun z => .inr (s2.1 c (s3.2.2 c z).1)
    · cases h
  · -- clear
    cases h
    obtain ⟨a, xs, Q1, rfl, s1, r1⟩ := ry
    obtain rfl : vs = [] := rs
    refine ⟨_, mt_clear, a, xs, rfl, rfl, s1.1, ?_⟩
    exact hq _ _ No Pd rfl (lst_new (Q1 := No) s1.1 (show Rels X.K H [] [] No from rfl) (fun z => z) s1.2.1 fun _ z => z.elim) (fun _ z => z.elim) (fun _ z => z.elim) (fun _ z => .inl z) (Ev.wrote s1.1 trivial s1.2.1)
  · cases h
end
end Z

namespace Z
open PySem PySem.Spec L2
variable [TabList]

/-! ### what changes nothing leaves the slots -/
mutual
theorem evE_pu {C : Ctx} : ∀ {e : E} {env e1 : Env} {d : D}, e.pu = true → evE C e env = .ok d e1 → e1 = env
  | .var i, env, e1, d, _, h => by
    simp only [evE] at h
    split at h <;> simp only [Res.ok.injEq, reduceCtorEq] at h
    exact h.2.symm
  | .mov _, _, _, _, p, _ => by simp [E.pu] at p
  | .frz _, _, _, _, p, _ => by simp [E.pu] at p
  | .cst _, _, _, _, _, h => by simp only [evE, Res.ok.injEq] at h; exact h.2.symm
  | .fze a, env, e1, d, p, h => by
    simp only [E.pu] at p
    simp only [evE] at h
    cases q : evE C a env with
    | bad => rw [q] at h; simp at h
    | exc x e => rw [q] at h; simp at h
    | ok x e2 =>
      rw [q] at h
      simp only [Res.bind] at h
      split at h
      · cases h
      simp only [Res.ok.injEq] at h
      rw [← h.2, evE_pu p q]
  | .pidx a k, env, e1, d, p, h => by
    simp only [E.pu, Bool.and_eq_true] at p
    simp only [evE] at h
    cases q : evE C a env with
    | bad => rw [q] at h; simp at h
    | exc x e => rw [q] at h; simp at h
    | ok x e2 =>
      rw [q] at h
      simp only [Res.bind] at h
      split at h
      · cases h
      cases q2 : evE C k e2 with
      | bad => rw [q2] at h; simp at h
      | exc x e => rw [q2] at h; simp at h
      | ok y e3 =>
        rw [q2] at h
        simp only at h
        split at h <;> simp only [Res.ok.injEq, reduceCtorEq] at h
        rw [← h.2, evE_pu p.2 q2, evE_pu p.1 q]
  | .ap pf es, env, e1, d, p, h => by
    simp only [E.pu] at p
    simp only [evE] at h
    cases q : evEs C es env with
    | bad => rw [q] at h; simp at h
    | exc x e => rw [q] at h; simp at h
    | ok x e2 =>
      rw [q] at h
      simp only [Res.bind] at h
      split at h <;> simp only [Res.ok.injEq, reduceCtorEq] at h
      rw [← h.2, evEs_pu p q]
  | .and a b, env, e1, d, p, h => by
    simp only [E.pu, Bool.and_eq_true] at p
    simp only [evE] at h
    cases q : evE C a env with
    | bad => rw [q] at h; simp at h
    | exc x e => rw [q] at h; simp at h
    | ok x e2 =>
      rw [q] at h
      simp only [Res.bind] at h
      split at h
      · rw [evE_pu p.2 h, evE_pu p.1 q]
      · simp only [Res.ok.injEq] at h
        rw [← h.2, evE_pu p.1 q]
      · cases h
  | .or a b, env, e1, d, p, h => by
    simp only [E.pu, Bool.and_eq_true] at p
    simp only [evE] at h
    cases q : evE C a env with
    | bad => rw [q] at h; simp at h
    | exc x e => rw [q] at h; simp at h
    | ok x e2 =>
      rw [q] at h
      simp only [Res.bind] at h
      split at h
      · simp only [Res.ok.injEq] at h
        rw [← h.2, evE_pu p.1 q]
      · rw [evE_pu p.2 h, evE_pu p.1 q]
      · cases h
  | .not a, env, e1, d, p, h => by
    simp only [E.pu] at p
    simp only [evE] at h
    cases q : evE C a env with
    | bad => rw [q] at h; simp at h
    | exc x e => rw [q] at h; simp at h
    | ok x e2 =>
      rw [q] at h
      simp only [Res.bind] at h
      split at h <;> simp only [Res.ok.injEq, reduceCtorEq] at h
      rw [← h.2, evE_pu p q]
  | .ife c a b, env, e1, d, p, h => by
    simp only [E.pu, Bool.and_eq_true] at p
    simp only [evE] at h
    cases q : evE C c env with
    | bad => rw [q] at h; simp at h
    | exc x e => rw [q] at h; simp at h
    | ok x e2 =>
      rw [q] at h
      simp only [Res.bind] at h
      split at h
      · rw [evE_pu p.1.2 h, evE_pu p.1.1 q]
      · rw [evE_pu p.2 h, evE_pu p.1.1 q]
      · cases h
  | .chn _ _ a b c, env, e1, d, p, h => by
    simp only [E.pu, Bool.and_eq_true] at p
    simp only [evE] at h
    cases q : evE C a env with
    | bad => rw [q] at h; simp at h
    | exc x e => rw [q] at h; simp at h
    | ok x e2 =>
      rw [q] at h
      simp only [Res.bind] at h
      split at h
      · cases h
      cases q2 : evE C b e2 with
      | bad => rw [q2] at h; simp at h
      | exc x e => rw [q2] at h; simp at h
      | ok y e3 =>
        rw [q2] at h
        simp only at h
        split at h
        · simp only [Res.ok.injEq] at h
          rw [← h.2, evE_pu p.1.2 q2, evE_pu p.1.1 q]
        · split at h
          · cases h
          cases q3 : evE C c e3 with
          | bad => rw [q3] at h; simp at h
          | exc x e => rw [q3] at h; simp at h
          | ok z e4 =>
            rw [q3] at h
            simp only at h
            split at h <;> simp only [Res.ok.injEq, reduceCtorEq] at h
            rw [← h.2, evE_pu p.2 q3, evE_pu p.1.2 q2, evE_pu p.1.1 q]
        · cases h
  | .tup es, env, e1, d, p, h => by
    simp only [E.pu] at p
    simp only [evE] at h
    cases q : evOs C es env with
    | bad => rw [q] at h; simp at h
    | exc x e => rw [q] at h; simp at h
    | ok x e2 =>
      rw [q] at h
      simp only [Res.bind] at h
      split at h <;> simp only [Res.ok.injEq, reduceCtorEq] at h
      rw [← h.2, evOs_pu p q]
  | .lst es, env, e1, d, p, h => by
    simp only [E.pu] at p
    simp only [evE] at h
    cases q : evOs C es env with
    | bad => rw [q] at h; simp at h
    | exc x e => rw [q] at h; simp at h
    | ok x e2 =>
      rw [q] at h
      simp only [Res.bind] at h
      split at h <;> simp only [Res.ok.injEq, reduceCtorEq] at h
      rw [← h.2, evOs_pu p q]
  | .dic es, env, e1, d, p, h => by
    simp only [E.pu] at p
    simp only [evE] at h
    cases q : evOs C es env with
    | bad => rw [q] at h; simp at h
    | exc x e => rw [q] at h; simp at h
    | ok x e2 =>
      rw [q] at h
      simp only [Res.bind] at h
      split at h <;> simp only [Res.ok.injEq, reduceCtorEq] at h
      rw [← h.2, evOs_pu p q]
  | .call _ _, _, _, _, p, _ => by simp [E.pu] at p
  | .kcall _ _ _, _, _, _, p, _ => by simp [E.pu] at p
  | .dup _ _ _, _, _, _, p, _ => by simp [E.pu] at p
  | .gen _ _ _ _, _, _, _, p, _ => by simp [E.pu] at p
  | .mm _ _ _, _, _, _, p, _ => by simp [E.pu] at p
  | .lc _ _ _ _ _, _, _, _, p, _ => by simp [E.pu] at p
theorem evEs_pu {C : Ctx} : ∀ {es : Es} {env e1 : Env} {ds : List D}, es.pu = true → evEs C es env = .ok ds e1 → e1 = env
  | .nil, env, e1, d, _, h => by simp only [evEs, Res.ok.injEq] at h; exact h.2.symm
  | .cons e r, env, e1, d, p, h => by
    simp only [Es.pu, Bool.and_eq_true] at p
    simp only [evEs] at h
    cases q : evE C e env with
    | bad => rw [q] at h; simp at h
    | exc x e => rw [q] at h; simp at h
    | ok x e2 =>
      rw [q] at h
      simp only [Res.bind] at h
      split at h
      · cases h
      cases q2 : evEs C r e2 with
      | bad => rw [q2] at h; simp at h
      | exc x e => rw [q2] at h; simp at h
      | ok y e3 =>
        rw [q2] at h
        simp only [Res.ok.injEq] at h
        rw [← h.2, evEs_pu p.2 q2, evE_pu p.1 q]
theorem evOs_pu {C : Ctx} : ∀ {es : Es} {env e1 : Env} {ds : List D}, es.pu = true → evOs C es env = .ok ds e1 → e1 = env
  | .nil, env, e1, d, _, h => by simp only [evOs, Res.ok.injEq] at h; exact h.2.symm
  | .cons e r, env, e1, d, p, h => by
    simp only [Es.pu, Bool.and_eq_true] at p
    simp only [evOs] at h
    cases q : evE C e env with
    | bad => rw [q] at h; simp at h
    | exc x e => rw [q] at h; simp at h
    | ok x e2 =>
      rw [q] at h
      simp only [Res.bind] at h
      split at h
      · cases h
      cases q2 : evOs C r e2 with
      | bad => rw [q2] at h; simp at h
      | exc x e => rw [q2] at h; simp at h
      | ok y e3 =>
        rw [q2] at h
        simp only [Res.ok.injEq] at h
        rw [← h.2, evOs_pu p.2 q2, evE_pu p.1 q]
end

section
variable {X : Cx} {rx : XR} {W : WX} {C : Ctx} {σ : L2.St} {H : Hp} {Q : VK}
theorem tE_mm {m : MM} {o : E} {es : Es} (h : tE X.K rx W C (.mm m o es) σ H Q) : tP X.K C o σ H fun x H1 => tyV X.K "list" x H1 ∧ tO X.K rx W C es σ H1 fun xs H2 => ∃ rd, MtR X (mmId m) rd ∧ rd x xs H2 Q := by
  obtain ⟨env, P, hE, h⟩ := h
  simp only [evE] at h
  cases q : evP C o env with
  | none => rw [q] at h; exact h.elim
  | some ik =>
    obtain ⟨i, ks⟩ := ik
    rw [q] at h
    simp only at h
    split at h
    · rename_i hc
      simp only [Bool.and_eq_true, Bool.or_eq_true] at hc
      obtain ⟨hc1, hc2⟩ := hc
      -- the thing as it stands ahead
      obtain ⟨x0, ds0, hx0, hg0⟩ : ∃ x0 ds0, env[i]? = some (some x0) ∧ getK x0 ks = some (.lst true ds0) := by
        unfold nodeAt at hc2
        cases q2 : env[i]? with
        | none => rw [q2] at hc2; simp [mmTy] at hc2
        | some ox =>
          cases ox with
          | none => rw [q2] at hc2; simp [mmTy] at hc2
          | some x0 =>
            rw [q2] at hc2
            simp only at hc2
            cases q3 : getK x0 ks with
            | none => rw [q3] at hc2; simp [mmTy] at hc2
            | some d0 =>
              rw [q3] at hc2
              cases d0 <;> simp only [mmTy, Bool.false_eq_true] at hc2
              rename_i m0 ds0
              cases m0 <;> simp only [Bool.false_eq_true] at hc2
              exact ⟨x0, ds0, rfl, q3⟩
      refine ⟨env, Tt H P, i, ks, x0, _, hE.tight, q, hx0, hg0, fun v H1 ev1 foc hv => ⟨?_, ?_⟩⟩
      · obtain ⟨Pd, Pr, s, ⟨a, xs, Q1, rfl, s1, r1⟩, w⟩ := foc
        exact .inl ⟨rfl, xs, .inl s1.rd⟩
      · refine ⟨env, Tt H P, hE.tight.ev ev1, ?_⟩
        cases q2 : evOs C es env with
        | bad => rw [q2] at h; exact h.elim
        | exc x e1 =>
          rw [q2] at h
          exact exc_on (P1 := Tt H P) h (fun a z => .inl z.1) ev1.of_no
        | ok ds e1 =>
          rw [q2] at h
          simp only [Res.bind] at h
          intro vs H2 P1 P2 r1 rs dj n2 hn ev2
          cases q3 : e1[i]? with
          | none => rw [q3] at h; exact h.elim
          | some ox =>
            cases ox with
            | none => rw [q3] at h; exact h.elim
            | some x =>
              rw [q3] at h
              simp only at h
              cases q4 : getK x ks with
              | none => rw [q4] at h; exact h.elim
              | some y =>
                rw [q4] at h
                simp only at h
                cases q5 : mmAp m y ds with
                | none => rw [q5] at h; exact h.elim
                | some ry =>
                  obtain ⟨r, y'⟩ := ry
                  rw [q5] at h
                  simp only at h
                  cases q6 : putKs x ks y' with
                  | none => rw [q6] at h; exact h.elim
                  | some x' =>
                    rw [q6] at h
                    simp only at h
                    -- where the thing stands now
                    obtain ⟨PA, foc2, djA, nA⟩ : ∃ PA, Foc X.K H2 σ e1 PA i ks x y v ∧ (∀ a, PA a → ¬ P2 a) ∧ New P H PA := by
                      cases ks with
                      | nil =>
                        cases q4
                        exact ⟨P1, foc_var r1 q3 (hv rfl), dj, fun a z => (hn a z).elim (fun z => .inl z.1) fun z => by
                          right
                          cases qq : H a with
                          | none => rfl
                          | some o => exact absurd z (ev1.dom a (by rw [qq]; exact fun z => nomatch z))⟩
                      | cons k0 ks0 =>
                        have hp : es.pu = true := by simpa using hc1
                        obtain rfl := evOs_pu hp q2
                        rw [hx0] at q3
                        cases q3
                        rw [hg0] at q4
                        cases q4
                        have ev3 : Ev No H1 H2 := ev2.mono fun _ z => by have := z.1; rw [hp] at this; cases this
                        refine ⟨Tt H P, foc.ev ev3, fun a z y => ?_, fun a z => .inl z.1⟩
                        rcases n2 a y with u | u
                        · have := u.1; rw [hp] at this; cases this
                        · exact (ev1.dom a z.2) u
                    obtain ⟨Pd, Pr, s, ry, w⟩ := foc2
                    have dd : ∀ a, Pd a → ¬ P2 a := fun a z => djA a (s.1 a z)
                    refine mm_ok ry rs dd q5 fun vr H3 P3 P4 r3 r4 d34 n3 n4 ev3 => ?_
                    have nH : New P H P2 := fun a z => by
                      rcases n2 a z with u | u
                      · exact .inl u.2.1
                      · right
                        cases qq : H a with
                        | none => rfl
                        | some o => exact absurd u (ev1.dom a (by rw [qq]; exact fun z => nomatch z))
                    have d2r : ∀ a, Pr a → ¬ P2 a := fun a z => djA a (s.2.1 a z)
                    have dsj : ∀ (P5 : Own), (∀ a, P5 a → Pd a ∨ P2 a) → ∀ a, P5 a → ¬ Pr a := fun P5 hs a z y => (hs a z).elim (fun z => s.2.2 a z y) fun z => d2r a y z
                    have rE := w H3 y' P4 x' q6 r4 (dsj P4 n4) ev3
                    have nd : New P H Pd := nA.sub s.1
                    refine h vr H3 (Uni P4 Pr) P3 rE r3 (fun _ => ⟨fun a z y => z.elim (d34 a y) fun z => dsj P3 n3 a y z, fun a z => ((n3 a z).elim (nd a) (nH a)).imp (fun z => ⟨rfl, z⟩) id⟩)
                      (fun a z => z.elim (fun z => (n4 a z).elim (nd a) (nH a)) fun z => nA a (s.2.1 a z)) ?_
                    have e12 : Ev P H H2 := ev1.of_no.trans (ev2.eo.mono fun _ z => z.1) New.refl
                    refine (e12.trans ev3 ?_).mono fun _ z => ⟨rfl, z⟩
                    exact nd
    · exact h.elim
end
section
variable {X : Cx} {rx : XR} {W : WX} {C : Ctx} {o : E} {eo e : Expr} {el : List Expr} {es : Es} {pos apos cpos : Pos} {m : MM} {name : Str}
theorem mt_some {id : String} : MtR X id (fun x xs H Q => ∃ rd, MtR X id rd ∧ rd x xs H Q) := fun pins s σ H x xs v us Q I rx rs h => let ⟨_, a, b⟩ := h; a pins s σ H x xs v us Q I rx rs b
theorem s_mm (slot : Slot "list" name (mmId m)) (hty : typeOf (.builtin (mmId m)) = pure (.type "method_descriptor")) (ho : PE X eo (tP X.K C o)) (ha : PA X (e :: el) (tO X.K rx W C es))
    (hbase : attributeBase eo name X.env (eval eo X.env) = eval eo X.env)
    (hfew : ((backTo cpos (starEach (e :: el) X.env)).all (fun x => !x.1) && (backToKw cpos (keywordEach [] X.env)).all (fun x => x.1.isSome) && decide ((e :: el).length + ([] : List Keyword).length + (if ([] : List Keyword).isEmpty then 0 else 1) < 30)) = true)
    (hline : (apos.endLine == cpos.line) = true) (hs : starEach (e :: el) X.env = (false, eval e X.env) :: starEach el X.env) (hplain : (backTo cpos (starEach el X.env)).any (·.1) = false) :
    PE X (.Call (.Attribute eo name apos) (e :: el) [] cpos) (tE X.K rx W C (.mm m o es)) :=
  PE.of fun σ H Q h => ⟨_, pe_bm PySem.F.plainAttrs_list slot hty mt_some ho ha hbase hfew hline hs hplain, tE_mm h⟩
theorem s_mm0 (slot : Slot "list" name (mmId m)) (hty : typeOf (.builtin (mmId m)) = pure (.type "method_descriptor")) (ho : PE X eo (tP X.K C o)) (hbase : attributeBase eo name X.env (eval eo X.env) = eval eo X.env) (hline : (apos.endLine == cpos.line) = true) :
    PE X (.Call (.Attribute eo name apos) [] [] cpos) (tE X.K rx W C (.mm m o .nil)) :=
  PE.of fun σ H Q h => ⟨_, pe_bm0 PySem.F.plainAttrs_list slot hty mt_some ho hbase hline, by
    have h2 := tE_mm h
    obtain ⟨env, P, i, ks, x, d, h1, h3, h4, h5, h6⟩ := h2
    exact ⟨env, P, i, ks, x, d, h1, h3, h4, h5, fun v H' ev fc hv => let z := h6 v H' ev fc hv; ⟨z.1, o_nil z.2⟩⟩⟩
end
end Z

namespace Z
open PySem PySem.Spec L2
variable [TabList]

/-- what a def keeps, by a total function of value trees -/
def spF (K : PySem.W.Frag) (rx : XR) (sem : List D → CRes) : Sp := fun vs H Q E => Tabs H ∧ ∃ ds P, Rels K H ds vs P ∧ match sem ds with
  | .ok d fin => ∀ v H' P1 P2, RelE K H' fin (vs.map some) P1 → Rel K H' d v P2 → (∀ a, P1 a → ¬ P2 a) → New P H P1 → New P H P2 → Ev P H H' → Q v H'
  | .exc x fin => ∀ c dd H' P1, RelE K H' fin (vs.map some) P1 → rx x c dd H' → New P H P1 → Ev P H H' → E c dd H'
  | .bad => False
/-- what was lent, and from where -/
def Bk (σ : L2.St) : List (Option Nat) → List V → Prop
  | [], _ => True
  | some i :: bs, v :: vs => σ[i]? = some (some v) ∧ Bk σ bs vs
  | none :: bs, _ :: vs => Bk σ bs vs
  | _ :: _, [] => False
def PostC (K : PySem.W.Frag) (rx : XR) (W : WX) (P : Own) (σ : L2.St) (H : Hp) (r : Res (List D × List (Option Nat))) (Q : List V → Hp → Prop) : Prop :=
  match r with
  | .ok db env' => ∀ vs H' P1 P2, RelE K H' env' σ P1 → Rels K H' db.1 vs P2 → (∀ a, P1 a → ¬ P2 a) → New P H P2 → New P H P1 → Ev P H H' → Bk σ db.2 vs → Q vs H'
  | .exc x env' => ∀ c dd H' P1, RelE K H' env' σ P1 → rx x c dd H' → New P H P1 → Ev P H H' → W c dd σ H'
  | .bad => False
def tCs (K : PySem.W.Frag) (rx : XR) (W : WX) (C : Ctx) (es : Es) : TA := fun σ H Q => ∃ env P, RelE K H env σ P ∧ PostC K rx W P σ H (evCs C es env) Q
def E.isVar : E → Bool
  | .var _ => true
  | _ => false

section
variable {K : PySem.W.Frag} {rx : XR} {W : WX} {C : Ctx} {σ : L2.St} {H : Hp} {R : List V → Hp → Prop}
theorem giveBack_rel : ∀ {bs : List (Option Nat)} {vs : List V} {fin env : Env} {P1 P3 : Own}, Bk σ bs vs → RelE K H env σ P1 → RelE K H fin (vs.map some) P3 → (∀ a, P1 a → ¬ P3 a) → RelE K H (giveBack bs fin env) σ (Uni P1 P3)
  | [], vs, fin, env, P1, P3, _, h, _, _ => by
    cases fin <;> exact h.mono fun _ z => .inl z
  | b :: bs, [], fin, env, P1, P3, hb, h, _, _ => by
    cases b <;> exact hb.elim
  | b :: bs, v :: vs, [], env, P1, P3, hb, h, _, _ => by
    cases b <;> exact h.mono fun _ z => .inl z
  | none :: bs, v :: vs, od :: fin, env, P1, P3, hb, h, hf, dj => by
    obtain ⟨ov, σ', Pa, Pb, e, s, r, rs⟩ := hf
    obtain ⟨rfl, rfl⟩ := List.cons.inj e
    exact (giveBack_rel (bs := bs) (vs := vs) (fin := fin) hb h rs fun a z y => dj a z (s.2.1 a y)).mono fun a z => z.imp id (s.2.1 a)
  | some i :: bs, v :: vs, od :: fin, env, P1, P3, hb, h, hf, dj => by
    obtain ⟨ov, σ', Pa, Pb, e, s, r, rs⟩ := hf
    obtain ⟨rfl, rfl⟩ := List.cons.inj e
    have h2 : RelE K H (env.set i od) σ (Uni P1 Pa) := by
      cases od with
      | none => exact h.drop'.mono fun _ z => .inl z
      | some d =>
        obtain ⟨v', e2, r⟩ := r
        obtain rfl := Option.some.inj e2
        exact h.drop'.put ⟨fun a z => .inr z, fun a z => .inl z, fun a z y => dj a y (s.1 a z)⟩ r hb.1
    exact (giveBack_rel (bs := bs) (vs := vs) (fin := fin) hb.2 h2 rs fun a z y => z.elim (fun z => dj a z (s.2.1 a y)) fun z => s.2.2 a z y).mono fun a z => z.elim (fun z => z.imp id (s.1 a)) fun z => .inr (s.2.1 a z)
theorem c_nil (h : tCs K rx W C .nil σ H R) : R [] H := by
  obtain ⟨env, P, hE, h⟩ := h
  exact h [] H P No hE rfl (fun _ _ z => z) (fun _ z => z.elim) New.refl Ev.refl trivial
theorem c_cons {e : E} {r : Es} (hv : e.isVar = false) (h : tCs K rx W C (.cons e r) σ H R) : tE K rx W C e σ H fun v H1 => tCs K rx W C r σ H1 fun vs H2 => R (v :: vs) H2 := by
  obtain ⟨env, P, hE, h⟩ := h
  refine ⟨env, P, hE, ?_⟩
  have h : PostC K rx W P σ H ((evE C e env).bind fun d e1 => if (e.pth && !imm d) = true then .bad else (evCs C r e1).bind fun p e2 => .ok (d :: p.1, none :: p.2) e2) R := by
    cases e <;> first | exact h | exact nomatch hv
  cases q : evE C e env with
  | bad => rw [q] at h; exact h.elim
  | exc x e1 => rw [q] at h; exact h
  | ok d e1 =>
    rw [q] at h
    simp only [Res.bind] at h
    intro v H1 P1 P2 r1 rd hd hn ev
    split at h
    · exact h.elim
    rename_i hc
    obtain ⟨P5, rd5, dj5, n5⟩ : ∃ P5, Rel K H1 d v P5 ∧ (∀ a, P1 a → ¬ P5 a) ∧ New P H P5 := by
      cases hp : e.pth with
      | false => exact ⟨P2, rd, (hd hp).1, fun a z => ((hd hp).2 a z).imp (fun y => y.2) id⟩
      | true =>
        have hi : imm d = true := by simpa [hp] using hc
        exact ⟨No, Rel.imm hi rd, fun _ _ z => z, fun _ z => z.elim⟩
    refine ⟨e1, P1, r1, ?_⟩
    cases q2 : evCs C r e1 with
    | bad => rw [q2] at h; exact h.elim
    | exc x e2 =>
      rw [q2] at h
      exact exc_on h hn ev.eo
    | ok db e2 =>
      rw [q2] at h
      intro vs H2 P3 P4 r3 rs dj4 n4 hn3 ev3 bk
      have rd6 := (rd5.tight).frame ev3 fun a z y => dj5 a y z.1
      have ap : ∀ a, Tt H1 P5 a → ¬ P4 a := fun a z y => (n4 a y).elim (fun y => dj5 a y z.1) z.2
      have ap3 : ∀ a, P3 a → ¬ Tt H1 P5 a := fun a z y => (hn3 a z).elim (fun z => dj5 a z y.1) y.2
      exact h (v :: vs) H2 P3 (Uni (Tt H1 P5) P4) r3 (Rels.cons (Sep.uni ap) rd6 rs) (fun a z y => y.elim (ap3 a z) (dj4 a z)) (fun a z => z.elim (fun z => n5 a z.1) (hn.trans ev.eo n4 a)) (hn.trans ev.eo hn3) (ev.eo.trans ev3 hn) bk
theorem c_var {i : Nat} {r : Es} (h : tCs K rx W C (.cons (.var i) r) σ H R) : tVar i σ H fun v H1 => tCs K rx W C r σ H1 fun vs H2 => R (v :: vs) H2 := by
  obtain ⟨env, P, hE, h⟩ := h
  simp only [evCs, evE] at h
  cases q : env[i]? with
  | none => rw [q] at h; exact h.elim
  | some od =>
    cases od with
    | none => rw [q] at h; exact h.elim
    | some d =>
      rw [q] at h
      simp only [Res.bind] at h
      obtain ⟨v, P1, P2, e, s, r1, rs⟩ := hE.get q
      refine ⟨v, e, ?_⟩
      split at h
      · rename_i hi
        refine ⟨env, P, hE, ?_⟩
        cases q2 : evCs C r env with
        | bad => rw [q2] at h; exact h.elim
        | exc x e2 => rw [q2] at h; exact h
        | ok db e2 =>
          rw [q2] at h
          intro vs H2 P3 P4 r3 rs4 dj4 n4 hn3 ev3 bk
          exact h (v :: vs) H2 P3 P4 r3 (Rels.cons Sep.nl ((Rel.imm hi r1).frame ev3 fun _ z => z.elim) rs4) dj4 n4 hn3 ev3 bk
      · refine ⟨env, P, hE, ?_⟩
        cases q2 : evCs C r env with
        | bad => rw [q2] at h; exact h.elim
        | exc x e2 => rw [q2] at h; exact h
        | ok db e2 =>
          rw [q2] at h
          simp only at h
          intro vs H2 P3 P4 r3 rs4 dj4 n4 hn3 ev3 bk
          split at h
          rotate_left
          · exact h.elim
          rename_i d' hd'
          obtain ⟨v', P5, P6, e', s', r5, r6⟩ := r3.get hd'
          obtain rfl : v' = v := by rw [e] at e'; injection e' with e'; injection e' with e'; exact e'.symm
          exact h (v' :: vs) H2 P6 (Uni P5 P4) r6 (Rels.cons (Sep.uni fun a z y => dj4 a (s'.1 a z) y) r5 rs4) (fun a z y => y.elim (fun y => s'.2.2 a y z) (dj4 a (s'.2.1 a z))) (fun a z => z.elim (fun z => hn3 a (s'.1 a z)) (n4 a)) (fun a z => hn3 a (s'.2.1 a z)) ev3 ⟨e, bk⟩
theorem tE_call {f : Nat} {es : Es} {Q : VK} (h : tE K rx W C (.call f es) σ H Q) : tCs K rx W C es σ H fun vs H1 => spF K rx (C.call f) vs H1 Q fun c dd H' => W c dd σ H' := by
  obtain ⟨env, P, hE, h⟩ := h
  refine ⟨env, P, hE, ?_⟩
  simp only [evE] at h
  cases q : evCs C es env with
  | bad => rw [q] at h; exact h.elim
  | exc x e1 => rw [q] at h; exact h
  | ok db e1 =>
    obtain ⟨ds, bs⟩ := db
    rw [q] at h
    simp only [Res.bind] at h
    intro vs H1 P1 P2 r1 rs dj n2 hn ev bk
    refine ⟨r1.tabs, ds, Tt H1 P2, rs.tight, ?_⟩
    have dj1 : ∀ a, Tt H1 P1 a → ¬ Tt H1 P2 a := fun a z y => dj a z.1 y.1
    cases q2 : C.call f ds with
    | bad => rw [q2] at h; exact h.elim
    | ok d fin =>
      rw [q2] at h
      intro v H2 P3 P4 rf rd d34 n3 n4 ev2
      have a3 : ∀ a, Tt H1 P1 a → ¬ P3 a := fun a z y => (n3 a y).elim (dj1 a z) z.2
      have a4 : ∀ a, Tt H1 P1 a → ¬ P4 a := fun a z y => (n4 a y).elim (dj1 a z) z.2
      have rE := giveBack_rel bk (r1.tight.frame ev2 dj1) rf a3
      have up : ∀ P5 : Own, New (Tt H1 P2) H1 P5 → New P H P5 := fun P5 n => fun a y => (n a y).elim (fun y => n2 a y.1) fun y => by
        right
        cases qq : H a with
        | none => rfl
        | some o => exact absurd y (ev.dom a (by rw [qq]; exact fun z => nomatch z))
      refine h v H2 (Uni (Tt H1 P1) P3) P4 rE rd (fun _ => ⟨fun a z y => z.elim (fun z => a4 a z y) fun z => d34 a z y, fun a z => (up P4 n4 a z).imp (fun y => ⟨rfl, y⟩) id⟩) (fun a z => z.elim (fun z => hn a z.1) (up P3 n3 a)) ((ev.trans ev2 fun a z => n2 a z.1).mono fun _ z => ⟨rfl, z⟩)
    | exc x fin =>
      rw [q2] at h
      intro c dd H2 P3 rf hx n3 ev2
      have a3 : ∀ a, Tt H1 P1 a → ¬ P3 a := fun a z y => (n3 a y).elim (dj1 a z) z.2
      have rE := giveBack_rel bk (r1.tight.frame ev2 dj1) rf a3
      refine h c dd H2 _ rE hx (fun a z => z.elim (fun z => hn a z.1) fun z => (n3 a z).elim (fun y => n2 a y.1) fun y => ?_) (ev.trans ev2 fun a z => n2 a z.1)
      right
      cases qq : H a with
      | none => rfl
      | some o => exact absurd y (ev.dom a (by rw [qq]; exact fun z => nomatch z))
end

/-- a def of the program, as it is called here -/
def FnAt (X : Cx) (rx : XR) (k : Nat) (x : Str) (sem : List D → CRes) : Prop :=
  ∃ f fd ps, FnOk X.prog X.w X.K X.mg X.base (L2.CX X.prog X.w) k f fd ps (spF X.K rx sem) ∧ X.mg x = some (.ref f) ∧ PySem.W.keepIn X.K (.ref f) = true ∧ L2.Binds X.K fd ps []
section
variable {X : Cx} {rx : XR} {W : WX} {C : Ctx} {a : E} {ea e : Expr} {es r : Es} {el : List Expr} {pos p : Pos} {x : Str} {k f : Nat}
theorem sc_nil : PA X [] (tCs X.K rx W C .nil) := PA.of fun σ H Q h => ⟨_, pa_nil, c_nil h⟩
theorem sc_cons (hv : a.isVar = false) (ha : PE X ea (tE X.K rx W C a)) (hr : PA X el (tCs X.K rx W C r)) (hs : starEach (ea :: el) X.env = (false, eval ea X.env) :: starEach el X.env) : PA X (ea :: el) (tCs X.K rx W C (.cons a r)) :=
  PA.of fun σ H Q h => ⟨_, pa_cons ha hr hs, c_cons hv h⟩
theorem sc_var {i : Nat} {y : Str} {yp : Pos} (hN : X.N[i]? = some y) (hv : Vis X.env.scope y) (hd : (y == ("__debug__" : Str)) = false) (hcd : (y == ("__classdict__" : Str)) = false) (hr : PA X el (tCs X.K rx W C r)) (hs : starEach (.Name y yp :: el) X.env = (false, eval (.Name y yp) X.env) :: starEach el X.env) : PA X (.Name y yp :: el) (tCs X.K rx W C (.cons (.var i) r)) :=
  PA.of fun σ H Q h => ⟨_, pa_cons (pe_var hN hv hd hcd) hr hs, c_var h⟩
theorem s_call (F : FnAt X rx k x (C.call f)) (hr : Room k X.A) (tk : Takes X W) (hg : Gl X x) (ha : PA X (e :: el) (tCs X.K rx W C es)) (hdb : (x == ("__debug__" : Str)) = false)
    (he : starEach (e :: el) X.env = (false, eval e X.env) :: starEach el X.env) (hpl : (backTo pos (starEach el X.env)).any (·.1) = false) : PE X (.Call (.Name x p) (e :: el) [] pos) (tE X.K rx W C (.call f es)) := by
  obtain ⟨fa, fd, ps, F, hm, hk, hb⟩ := F
  refine PE.of fun σ H Q h => ⟨_, pe_callSD F hr hg hm hk hb .nil (E := fun σ => WE W σ) (fun σ => passAt tk σ) ha hdb he hpl, ?_⟩
  have h2 := tE_call h
  unfold tCallSD
  simp only [List.append_nil]
  exact h2
theorem s_call0 (F : FnAt X rx k x (C.call f)) (hr : Room k X.A) (tk : Takes X W) (hg : Gl X x) (hdb : (x == ("__debug__" : Str)) = false) : PE X (.Call (.Name x p) [] [] pos) (tE X.K rx W C (.call f .nil)) := by
  obtain ⟨fa, fd, ps, F, hm, hk, hb⟩ := F
  refine ⟨fun pins s σ H Q I h => ?_⟩
  have h2 := c_nil (tE_call h)
  refine wpAny_Call_Name_kw (ld_glob I hg hm ?_ hdb)
  exact PySem.W.callWith_K0 I.kIn hk (run_fnSD (us := []) (vs := []) (dvs := []) (E := fun σ => WE W σ) F hr hb .nil (passAt tk σ) I .nil h2)
end
end Z

namespace Z
open PySem PySem.Spec L2
variable [TabList]

/-- slots that stay -/
def Kp (kp : Nat → Bool) (σ σ' : L2.St) : Prop := ∀ i, kp i = true → σ'[i]? = σ[i]?
theorem Kp.refl {kp : Nat → Bool} {σ : L2.St} : Kp kp σ σ := fun _ _ => rfl
theorem Kp.trans {kp : Nat → Bool} {σ σ' σ2 : L2.St} (a : Kp kp σ σ') (b : Kp kp σ' σ2) : Kp kp σ σ2 := fun i h => (b i h).trans (a i h)
theorem Kp.set {kp : Nat → Bool} {σ : L2.St} {i : Nat} {v : Option V} (h : kp i = false) : Kp kp σ (σ.set i v) := fun j hj => by
  have : i ≠ j := fun e => by rw [e, hj] at h; cases h
  rw [List.getElem?_set_ne this]

theorem bindTs_len : ∀ {ts : List Tg} {ds : List D} {env env' : Env}, bindTs ts ds env = some env' → ts.length = ds.length
  | [], [], _, _, _ => rfl
  | [], _ :: _, _, _, h => by simp [bindTs] at h
  | _ :: _, [], _, _, h => by simp [bindTs] at h
  | t :: ts, d :: ds, _, _, h => by
    simp only [bindTs, Option.bind_eq_some_iff] at h
    obtain ⟨e2, _, h2⟩ := h
    simp [bindTs_len h2]
/-! ### targets -/
def tG (K : PySem.W.Frag) (kp : Nat → Bool) (t : Tg) : TG := fun v σ H Q => t.free kp = true ∧ ∃ d env P1 P2 env', RelE K H env σ P1 ∧ Rel K H d v P2 ∧ (∀ a, P1 a → ¬ P2 a) ∧ bindT t d env = some env' ∧ ∀ σ', RelE K H env' σ' (Uni P1 P2) → Kp kp σ σ' → Q σ' H
def tGs (K : PySem.W.Frag) (kp : Nat → Bool) (ts : List Tg) : TGs := fun vs σ H Q => Tg.frees kp ts = true ∧ ∃ ds env P1 P2 env', RelE K H env σ P1 ∧ Rels K H ds vs P2 ∧ (∀ a, P1 a → ¬ P2 a) ∧ bindTs ts ds env = some env' ∧ ∀ σ', RelE K H env' σ' (Uni P1 P2) → Kp kp σ σ' → Q σ' H
theorem PG.of {X : Cx} {e : Expr} {t' : TG} (h : ∀ v σ H Q, t' v σ H Q → ∃ t, PG X e t ∧ t v σ H Q) : PG X e t' := ⟨fun pins s σ H v u Q I r hw => let ⟨_, a, b⟩ := h v σ H Q hw; a.run pins s σ H v u Q I r b⟩
theorem PGs.of {X : Cx} {e : List Expr} {t' : TGs} (h : ∀ v σ H Q, t' v σ H Q → ∃ t, PGs X e t ∧ t v σ H Q) : PGs X e t' := ⟨fun pins s σ H v u Q I r hw => let ⟨_, a, b⟩ := h v σ H Q hw; a.run pins s σ H v u Q I r b⟩
section
variable {X : Cx} {kp : Nat → Bool}
theorem g_name {i : Nat} {x : Str} {pos : Pos} (hN : X.N.Nodup) (hi : X.N[i]? = some x) (hx : Loc X.env.scope x) (hf : X.fn x = true ∨ X.env.scope.names.lookup x = some .local) : PG X (.Name x pos) (tG X.K kp (.one i)) :=
  PG.of fun v σ H Q ⟨hk, d, env, P1, P2, env', hE, r, dj, hb, h⟩ => ⟨_, pg_name hN hi hx hf, by
    simp only [bindT, Option.ite_none_right_eq_some, Option.some.injEq] at hb
    obtain ⟨hl, rfl⟩ := hb
    refine h _ ((hE.store (P := Uni P1 P2) hl ⟨fun _ z => .inr z, fun _ z => .inl z, fun a z y => dj a y z⟩ r)) (Kp.set ?_)
    simpa [Tg.free] using hk⟩
theorem g_tup {es : List Expr} {ts : List Tg} {k : Nat} {pos : Pos} (hc : X.calm = true) (h : PGs X es (tGs X.K kp ts)) (hn : (assignEach es X.env).length = ts.length) (hst : (assignEach es X.env).findIdx? (·.1) = none) : PG X (.Tuple es k pos) (tG X.K kp (.tup ts)) :=
  PG.of fun v σ H Q ⟨hk, d, env, P1, P2, env', hE, r, dj, hb, hq⟩ => by
    cases d <;> simp only [bindT, reduceCtorEq] at hb
    rename_i ds
    obtain ⟨a, vs, rfl, s, r⟩ := r
    refine ⟨_, pg_tup hc h hn hst, a, vs, rfl, s, ?_, by simpa [Tg.free] using hk, ds, env, P1, P2, env', hE, r, dj, hb, hq⟩
    have e1 : ts.length = ds.length := by
      clear hq h hn hst hk r hE
      exact bindTs_len hb
    rw [e1, r.length]
theorem g_nil : PGs X [] (tGs X.K kp []) := PGs.of fun vs σ H Q ⟨hk, ds, env, P1, P2, env', hE, r, dj, hb, h⟩ => ⟨_, pgs_nil, by
  cases ds with
  | nil =>
    simp only [bindTs, Option.some.injEq] at hb
    subst hb
    exact ⟨r, h σ (hE.mono fun _ z => .inl z) Kp.refl⟩
  | cons d ds => simp [bindTs] at hb⟩
theorem g_cons {e : Expr} {es : List Expr} {t : Tg} {ts : List Tg} (h1 : PG X e (tG X.K kp t)) (h2 : PGs X es (tGs X.K kp ts)) (hs : (assignEach (e :: es) X.env).map (·.2) = assign e X.env :: (assignEach es X.env).map (·.2)) : PGs X (e :: es) (tGs X.K kp (t :: ts)) :=
  PGs.of fun vs σ H Q ⟨hk, ds, env, P1, P2, env', hE, r, dj, hb, h⟩ => ⟨_, pgs_cons h1 h2 hs, by
    cases ds with
    | nil => simp [bindTs] at hb
    | cons d ds =>
      simp only [bindTs, Option.bind_eq_some_iff] at hb
      obtain ⟨e1, b1, b2⟩ := hb
      simp only [Tg.frees, Bool.and_eq_true] at hk
      obtain ⟨v, vs', Pa, Pb, rfl, s, ra, rb⟩ := r
      refine ⟨v, vs', rfl, hk.1, d, env, P1, Pa, e1, hE, ra, fun a z y => dj a z (s.1 a y), b1, fun σ1 hE1 k1 => ?_⟩
      exact ⟨hk.2, ds, e1, Uni P1 Pa, Pb, env', hE1, rb, fun a z y => z.elim (fun z => dj a z (s.2.1 a y)) fun z => s.2.2 a z y, b2, fun σ2 hE2 k2 => h σ2 (hE2.mono fun a z => z.elim (fun z => z.imp id (s.1 a)) fun z => .inr (s.2.1 a z)) (k1.trans k2)⟩⟩
end

/-! ### statements -/
def PostS (K : PySem.W.Frag) (rx : XR) (W : WX) (kp : Nat → Bool) (P : Own) (σ : L2.St) (H : Hp) (r : SRes) (D : Ends) : Prop :=
  match r with
  | .next env' => ∀ σ' H' P1, RelE K H' env' σ' P1 → New P H P1 → Ev P H H' → Kp kp σ σ' → D.nx σ' H'
  | .brk env' => ∀ σ' H' P1, RelE K H' env' σ' P1 → New P H P1 → Ev P H H' → Kp kp σ σ' → D.bk σ' H'
  | .cnt env' => ∀ σ' H' P1, RelE K H' env' σ' P1 → New P H P1 → Ev P H H' → Kp kp σ σ' → D.ct σ' H'
  | .ret d env' => ∀ v σ' H' P1 P2, RelE K H' env' σ' P1 → Rel K H' d v P2 → (∀ a, P1 a → ¬ P2 a) → New P H P2 → New P H P1 → Ev P H H' → Kp kp σ σ' → D.rt v H'
  | .exc x env' => ∀ c dd σ' H' P1, RelE K H' env' σ' P1 → rx x c dd H' → New P H P1 → Ev P H H' → Kp kp σ σ' → W c dd σ' H'
  | .bad => False
def tS (K : PySem.W.Frag) (rx : XR) (W : WX) (C : Ctx) (s : S) : TS := fun D σ H => ∃ env P, RelE K H env σ P ∧ PostS K rx W C.kp P σ H (evS C s env) D
def tSs (K : PySem.W.Frag) (rx : XR) (W : WX) (C : Ctx) (s : Ss) : TS := fun D σ H => ∃ env P, RelE K H env σ P ∧ PostS K rx W C.kp P σ H (evSs C s env) D
section
variable {K : PySem.W.Frag} {rx : XR} {W : WX} {kp : Nat → Bool} {P P1 : Own} {σ σ1 : L2.St} {H H1 : Hp} {r : SRes} {F : Ends}
theorem PostS.on (h : PostS K rx W kp P σ H r F) (n : New P H P1) (e : Ev P H H1) (k : Kp kp σ σ1) : PostS K rx W kp P1 σ1 H1 r F := by
  cases r with
  | next env => exact fun σ' H' P2 r2 n2 e2 k2 => h σ' H' P2 r2 (n.trans e n2) (e.trans e2 n) (k.trans k2)
  | brk env => exact fun σ' H' P2 r2 n2 e2 k2 => h σ' H' P2 r2 (n.trans e n2) (e.trans e2 n) (k.trans k2)
  | cnt env => exact fun σ' H' P2 r2 n2 e2 k2 => h σ' H' P2 r2 (n.trans e n2) (e.trans e2 n) (k.trans k2)
  | ret d env => exact fun v σ' H' P2 P3 r2 rd dj n3 n2 e2 k2 => h v σ' H' P2 P3 r2 rd dj (n.trans e n3) (n.trans e n2) (e.trans e2 n) (k.trans k2)
  | exc x env => exact fun c dd σ' H' P2 r2 rr n2 e2 k2 => h c dd σ' H' P2 r2 rr (n.trans e n2) (e.trans e2 n) (k.trans k2)
  | bad => exact h
/-- an expression first -/
theorem tS_thn {C : Ctx} {e : E} {f : D → Env → SRes} {env : Env} (hE : RelE K H env σ P) (h : PostS K rx W kp P σ H ((evE C e env).thn f) F) :
    tE K rx W C e σ H fun v H1 => ∃ d e1 P1 P2, RelE K H1 e1 σ P1 ∧ Rel K H1 d v P2 ∧ (e.pth = false → ∀ a, P1 a → ¬ P2 a) ∧ New P H P1 ∧ (e.pth = false → New P H P2) ∧ Ev P H H1 ∧ PostS K rx W kp P σ H (f d e1) F := by
  refine ⟨env, P, hE, ?_⟩
  cases q : evE C e env with
  | bad => rw [q] at h; exact h.elim
  | exc x e1 =>
    rw [q] at h
    exact fun c dd H' P1 r rr n e => h c dd σ H' P1 r rr n e Kp.refl
  | ok d e1 =>
    rw [q] at h
    intro v H1 P1 P2 r rd hd hn ev
    exact ⟨d, e1, P1, P2, r, rd, fun z => (hd z).1, hn, fun z a y => ((hd z).2 a y).imp (fun y => y.2) id, ev.eo, h⟩
end

section
variable {X : Cx} {rx : XR} {W : WX} {C : Ctx} {e : E} {ee : Expr} {st : Stmt} {sts : List Stmt} {pos : Pos} {tg : Expr} {t : Tg}
theorem q_nil : PSs X [] (tSs X.K rx W C .nil) := PSs.of fun D σ H ⟨env, P, hE, h⟩ => ⟨_, pss_nil, h σ H P hE New.refl Ev.refl Kp.refl⟩
theorem q_cons {s : S} {r : Ss} (h1 : PS X st (tS X.K rx W C s)) (h2 : PSs X sts (tSs X.K rx W C r)) : PSs X (st :: sts) (tSs X.K rx W C (.cons s r)) :=
  PSs.of fun D σ H ⟨env, P, hE, h⟩ => ⟨_, pss_cons h1 h2, by
    simp only [evSs] at h
    refine ⟨env, P, hE, ?_⟩
    cases q : evS C s env with
    | next e1 =>
      rw [q] at h
      exact fun σ' H' P1 r n ev k => ⟨e1, P1, r, PostS.on h n ev k⟩
    | brk e1 => rw [q] at h; exact h
    | cnt e1 => rw [q] at h; exact h
    | ret d e1 => rw [q] at h; exact h
    | exc x e1 => rw [q] at h; exact h
    | bad => rw [q] at h; exact h.elim⟩
theorem q_pass : PS X (.Pass pos) (tS X.K rx W C .nop) := PS.of fun D σ H ⟨env, P, hE, h⟩ => ⟨_, ps_pass, h σ H P hE New.refl Ev.refl Kp.refl⟩
theorem q_doc {x j pos'} : PS X (.Expr (.Constant (.str x) j pos) pos') (tS X.K rx W C .nop) := PS.of fun D σ H ⟨env, P, hE, h⟩ => ⟨_, ps_doc, h σ H P hE New.refl Ev.refl Kp.refl⟩
theorem q_brk : PS X (.Break pos) (tS X.K rx W C .brk) := PS.of fun D σ H ⟨env, P, hE, h⟩ => ⟨_, ps_break, h σ H P hE New.refl Ev.refl Kp.refl⟩
theorem q_cnt : PS X (.Continue pos) (tS X.K rx W C .cnt) := PS.of fun D σ H ⟨env, P, hE, h⟩ => ⟨_, ps_continue, h σ H P hE New.refl Ev.refl Kp.refl⟩
theorem q_ret0 : PS X (.Return none pos) (tS X.K rx W C .ret0) := PS.of fun D σ H ⟨env, P, hE, h⟩ => ⟨_, ps_retN, h .non σ H P No hE rfl (fun _ _ z => z) (fun _ z => z.elim) New.refl Ev.refl Kp.refl⟩
theorem q_exp (he : PE X ee (tE X.K rx W C e)) (hs : swapsWith ee none pos.line X.env = pure false) : PS X (.Expr ee pos) (tS X.K rx W C (.exp e)) :=
  PS.of fun D σ H ⟨env, P, hE, h⟩ => ⟨_, ps_expr he hs, tE_mono (tS_thn hE h) fun v H1 ⟨d, e1, P1, P2, r, rd, dj, n1, n2, ev, h⟩ => h σ H1 P1 r n1 ev Kp.refl⟩
theorem q_ret (he : PE X ee (tE X.K rx W C e)) : PS X (.Return (some ee) pos) (tS X.K rx W C (.ret e)) :=
  PS.of fun D σ H ⟨env, P, hE, h⟩ => ⟨_, ps_ret he, tE_mono (tS_thn hE h) fun v H1 ⟨d, e1, P1, P2, r, rd, dj, n1, n2, ev, h⟩ => by
    split at h
    · exact h.elim
    rename_i hc
    cases hp : e.pth with
    | false =>
      exact h v σ H1 P1 P2 r rd (dj hp) (n2 hp) n1 ev Kp.refl
    | true =>
      have hi : imm d = true := by simpa [hp] using hc
      exact h v σ H1 P1 No r (Rel.imm hi rd) (fun _ _ z => z) (fun _ z => z.elim) n1 ev Kp.refl⟩
end
end Z

namespace Z
open PySem PySem.Spec L2
variable [TabList]

/-- what a for walks: these things, whatever the body does -/
def Walk (K : PySem.W.Frag) (J : L2.It) (ds : List D) (P : Own) (H : Hp) : Prop := ∀ H2, Ev P H H2 → (∀ i, ds.length ≤ i → J.stop i H2) ∧ ∀ i d, ds[i]? = some d → J.go i H2 ∧ ∀ x H3, J.yld i H2 x H3 → Ev No H2 H3 ∧ Rel K H3 d x No
def PostI (K : PySem.W.Frag) (rx : XR) (W : WX) (pur : Bool) (P : Own) (σ : L2.St) (H : Hp) (r : Res (List D)) (R : L2.It → Hp → Prop) : Prop :=
  match r with
  | .ok ds e1 => ∀ J H' P1, RelE K H' e1 σ P1 → Walk K J ds (eO pur P1) H' → New P H P1 → Ev P H H' → R J H'
  | .exc x env' => ∀ c dd H' P1, RelE K H' env' σ P1 → rx x c dd H' → New P H P1 → Ev P H H' → W c dd σ H'
  | .bad => False
def tI (K : PySem.W.Frag) (rx : XR) (W : WX) (C : Ctx) (pur : Bool) (it : It) : TI := fun σ H R => ∃ env P, RelE K H env σ P ∧ PostI K rx W pur P σ H (evI C pur it env) R
theorem PI.of {X : Cx} {tg e : Expr} {t' : TI} (h : ∀ σ H R, t' σ H R → ∃ t, PI X tg e t ∧ t σ H R) : PI X tg e t' := ⟨fun pins s σ H R I hw => let ⟨_, a, b⟩ := h σ H R hw; a.run pins s σ H R I b⟩

section
variable {K : PySem.W.Frag} {ds : List D} {P P2 : Own} {H : Hp} {a : Addr} {vs : List V}
theorem Rels.at : ∀ {ds : List D} {vs : List V} {P : Own} {i : Nat} {d : D} {v : V}, Rels K H ds vs P → ds[i]? = some d → vs[i]? = some v → ∃ P1, Rel K H d v P1
  | ds, vs, P, i, d, v, h, e, e2 => by
    obtain ⟨v', P1, e3, _, r⟩ := h.get e
    rw [e2] at e3; cases e3
    exact ⟨P1, r⟩
/-- a list, owned by none that may write -/
theorem walk_lst {m : Bool} {v : V} (r : Rel K H (.lst m ds) v P2) (hi : imms ds = true) (hm : m = true → ∀ a, P2 a → ¬ P a) : ∃ a, v = .ref a ∧ (∃ xs, SqL K H a xs) ∧ Walk K (Itl K a) ds P H := by
  obtain ⟨a, vs, Q, rfl, h, rs⟩ := r
  have rs := rs.imm hi
  have hs : ∀ H2, Ev P H H2 → H2 a = some (.lst vs) ∨ ∃ o, H2 a = some (.frz o (.lst vs)) := fun H2 ev => by
    cases m with
    | true => exact .inl (ev.keep a _ h.1 (fun _ z => nomatch z) fun z => (hm rfl a h.2.1 z).elim)
    | false => exact .inr (h.1.imp fun o z => ev.keep a _ z (fun _ z => nomatch z) fun _ m => m)
  have inj : ∀ H2, Ev P H H2 → ∀ {xs}, SqL K H2 a xs → True := fun _ _ _ _ => trivial
  refine ⟨a, rfl, ⟨vs, .inl (h.rd)⟩, fun H2 ev => ⟨fun i hl => ⟨vs, .inl (hs H2 ev), by rw [← rs.length]; exact hl⟩, fun i d hd => ?_⟩⟩
  obtain ⟨x, P1, e1, _, r1⟩ := rs.get hd
  refine ⟨⟨vs, x, .inl (hs H2 ev), e1⟩, fun y H3 hy => ?_⟩
  obtain ⟨rfl, hy⟩ := hy
  have e2 := hy vs (.inl (hs H3 ev))
  rw [e1] at e2; cases e2
  refine ⟨Ev.refl, ?_⟩
  have := (Rel.imm (imms_of_get hi hd) r1)
  exact this.frame ev fun _ z => z.elim
theorem walk_scr {ns : List Int} {v : V} (r : Rel K H (.scr ns) v P2) : ∃ a, v = .ref a ∧ (∃ xs, SqL K H a xs) ∧ Walk K (Itl K a) (ns.map .int) P H := by
  obtain ⟨a, rfl, h⟩ := r
  have hs : ∀ H2, Ev P H H2 → Scr K H2 a ns := fun H2 ev => h.imp (fun ⟨o, z⟩ => ⟨o, ev.keep a _ z (fun _ q => nomatch q) fun _ m => m⟩) id
  refine ⟨a, rfl, ⟨_, h.sq⟩, fun H2 ev => ⟨fun i hl => ⟨_, (hs H2 ev).sq, by simpa using hl⟩, fun i d hd => ?_⟩⟩
  simp only [List.getElem?_map, Option.map_eq_some_iff] at hd
  obtain ⟨n, hn, rfl⟩ := hd
  have e1 : (ns.map V.int)[i]? = some (.int n) := by rw [List.getElem?_map, hn]; rfl
  refine ⟨⟨_, _, (hs H2 ev).sq, e1⟩, fun y H3 hy => ?_⟩
  obtain ⟨rfl, hy⟩ := hy
  have e2 := hy _ (hs H3 ev).sq
  rw [e1] at e2; cases e2
  exact ⟨Ev.refl, rfl⟩
theorem walk_tup {v : V} (r : Rel K H (.tup ds) v P2) (hi : imms ds = true) : ∃ a, v = .ref a ∧ (∃ xs, SqT K H a xs) ∧ Walk K (Itt K a) ds P H := by
  obtain ⟨a, vs, rfl, h, rs⟩ := r
  have rs := rs.imm hi
  refine ⟨a, rfl, ⟨vs, h⟩, fun H2 ev => ⟨fun i hl => ⟨vs, sqT_frame h ev, by rw [← rs.length]; exact hl⟩, fun i d hd => ?_⟩⟩
  obtain ⟨x, P1, e1, _, r1⟩ := rs.get hd
  refine ⟨⟨vs, x, sqT_frame h ev, e1⟩, fun y H3 hy => ?_⟩
  obtain ⟨rfl, hy⟩ := hy
  have e2 := hy vs (sqT_frame h ev)
  rw [e1] at e2; cases e2
  exact ⟨Ev.refl, (Rel.imm (imms_of_get hi hd) r1).frame ev fun _ z => z.elim⟩
theorem walk_rng {lo hi : Int} : Walk K (Itr lo (hi - lo).toNat) (rng lo hi) P H := fun H2 ev => ⟨fun i hl => by simpa [rng, Itr] using hl, fun i d hd => by
  simp only [rng, List.getElem?_map, Option.map_eq_some_iff] at hd
  obtain ⟨j, hj, rfl⟩ := hd
  have hl := List.getElem?_eq_some_iff.mp hj
  obtain ⟨h1, h2⟩ := hl
  simp only [List.length_range] at h1
  simp only [List.getElem_range] at h2
  subst h2
  exact ⟨h1, fun x H3 ⟨e1, e2⟩ => by subst e1; exact ⟨Ev.refl, e2⟩⟩⟩
end

section
variable {X : Cx} {rx : XR} {W : WX} {C : Ctx} {e a b : E} {ee : Expr} {ea eb : Expr} {tg : Expr} {p pos : Pos} {k : Nat} {pur : Bool}
/-- a walk over what an expression gives: the rule is chosen at the value -/
theorem i_seq (he : PE X ee (tE X.K rx W C e)) : PI X tg ee (tI X.K rx W C pur (.seq e)) := PI.of fun σ H R ⟨env, P, hE, h⟩ => by
  simp only [evI] at h
  cases q : evE C e env with
  | bad => rw [q] at h; exact h.elim
  | exc x e1 =>
    rw [q] at h
    exact ⟨_, pi_list he, env, P, hE, by rw [q]; exact h⟩
  | ok d e1 =>
    rw [q] at h
    simp only [Res.bind] at h
    cases d <;> simp only [seqOf] at h
    case lst m ds =>
      refine ⟨_, pi_list he, env, P, hE, ?_⟩
      rw [q]
      intro v H1 P1 P2 r rd hd hn ev
      by_cases hc : imms ds = true ∧ (m = true → (e.pth && !pur) = false)
      · rw [if_pos hc] at h
        obtain ⟨a, rfl, hs, w⟩ := walk_lst (P := eO pur P1) rd hc.1 fun z a y1 y2 => (hd (by have := hc.2 z; rw [y2.1] at this; simpa using this)).1 a y2.2 y1
        exact ⟨a, rfl, hs, h _ H1 P1 r w hn ev.eo⟩
      · rw [if_neg hc] at h; exact h.elim
    case scr ns =>
      refine ⟨_, pi_list he, env, P, hE, ?_⟩
      rw [q]
      intro v H1 P1 P2 r rd hd hn ev
      obtain ⟨a, rfl, hs, w⟩ := walk_scr (P := eO pur P1) rd
      exact ⟨a, rfl, hs, h _ H1 P1 r w hn ev.eo⟩
    case tup ds =>
      refine ⟨_, pi_tup he, env, P, hE, ?_⟩
      rw [q]
      intro v H1 P1 P2 r rd hd hn ev
      by_cases hc : imms ds = true
      · rw [if_pos hc] at h
        obtain ⟨a, rfl, hs, w⟩ := walk_tup (P := eO pur P1) rd hc
        exact ⟨a, rfl, hs, h _ H1 P1 r w hn ev.eo⟩
      · rw [if_neg hc] at h; exact h.elim
    case str s =>
      refine ⟨_, pi_str he, env, P, hE, ?_⟩
      rw [q]
      intro v H1 P1 P2 r rd hd hn ev
      refine ⟨s, rd, h _ H1 P1 r (fun H2 _ => ⟨fun i hl => ?_, fun i d hd => ?_⟩) hn ev.eo⟩
      · simpa [chars, Its] using hl
      · simp only [chars, List.getElem?_map, Option.map_eq_some_iff] at hd
        obtain ⟨c, hc, rfl⟩ := hd
        have hl : i < s.cps.size := by
          have := (List.getElem?_eq_some_iff.mp hc).1
          simpa using this
        refine ⟨hl, fun y H3 hy => ?_⟩
        obtain ⟨rfl, c', hc', rfl⟩ := hy
        refine ⟨Ev.refl, ?_⟩
        rw [← Array.getElem?_toList] at hc'
        rw [hc] at hc'
        cases hc'
        rfl
    all_goals exact h.elim
theorem i_rng1 (hg : Gl X "range") (hm : X.mg "range" = none) (ha : PA X [ea] (tB' X.K rx W C (.cons a .nil))) (hs : starEach [ea] X.env = [(false, eval ea X.env)]) : PI X tg (.Call (.Name "range" p) [ea] [] pos) (tI X.K rx W C pur (.rng1 a)) :=
  PI.of fun σ H R ⟨env, P, hE, h⟩ => by
    refine ⟨_, pi_range1 hg hm ha hs, env, P, hE, ?_⟩
    simp only [evI] at h
    simp only [evEs]
    cases q : evE C a env with
    | bad => rw [q] at h; exact h.elim
    | exc x e1 => rw [q] at h; exact h
    | ok d e1 =>
      rw [q] at h
      simp only [Res.bind] at h ⊢
      cases d <;> simp only [PostI] at h
      rename_i j
      by_cases hc : small62 j = true
      · rw [if_pos hc] at h
        have hi : (a.pth && !Es.pu .nil && !imm (D.int j)) = false := by simp [Es.pu]
        rw [hi]
        intro vs H1 P1 r rb hn ev
        obtain ⟨v, vs', P2, rfl, rd, rb⟩ := rb
        obtain rfl : vs' = [] := rb
        obtain rfl : v = .int j := rd
        have hj : -(2 ^ 62) ≤ j ∧ j < 2 ^ 62 := by have hc' := hc; simp only [small62, decide_eq_true_eq] at hc'; omega
        refine ⟨j, rfl, hj.1, hj.2, h _ H1 P1 r ?_ hn ev.eo⟩
        have := walk_rng (K := X.K) (lo := 0) (hi := j) (P := eO pur P1) (H := H1)
        rwa [Int.sub_zero] at this
      · rw [if_neg hc] at h; exact h.elim
theorem i_rng2 (hg : Gl X "range") (hm : X.mg "range" = none) (ha : PA X [ea, eb] (tB' X.K rx W C (.cons a (.cons b .nil)))) (hs : starEach [ea, eb] X.env = [(false, eval ea X.env), (false, eval eb X.env)]) (hs2 : starEach [eb] X.env = [(false, eval eb X.env)]) : PI X tg (.Call (.Name "range" p) [ea, eb] [] pos) (tI X.K rx W C pur (.rng2 a b)) :=
  PI.of fun σ H R ⟨env, P, hE, h⟩ => by
    refine ⟨_, pi_range2 hg hm ha hs hs2, env, P, hE, ?_⟩
    simp only [evI] at h
    simp only [evEs]
    cases q : evE C a env with
    | bad => rw [q] at h; exact h.elim
    | exc x e1 => rw [q] at h; exact h
    | ok d e1 =>
      rw [q] at h
      simp only [Res.bind, Es.pu, Bool.and_true] at h ⊢
      split at h
      · exact h.elim
      rename_i hc
      rw [if_neg hc]
      cases q2 : evE C b e1 with
      | bad => rw [q2] at h; exact h.elim
      | exc x e2 => rw [q2] at h; exact h
      | ok d2 e2 =>
        rw [q2] at h
        simp only [Bool.not_true, Bool.and_false, Bool.false_and, Bool.false_eq_true, if_false] at h ⊢
        cases d <;> (try exact h.elim)
        cases d2 <;> (try exact h.elim)
        rename_i i j
        dsimp only at h
        by_cases hc : small62 i = true ∧ small62 j = true
        · rw [if_pos hc] at h
          intro vs H1 P1 r rb hn ev
          obtain ⟨v, vs', P2, rfl, rd, rb⟩ := rb
          obtain ⟨v2, vs2, P3, rfl, rd2, rb⟩ := rb
          obtain rfl : vs2 = [] := rb
          obtain rfl : v = .int i := rd
          obtain rfl : v2 = .int j := rd2
          have hi : -(2 ^ 62) ≤ i ∧ i < 2 ^ 62 := by have hc' := hc; simp only [small62, decide_eq_true_eq] at hc'; omega
          have hj : -(2 ^ 62) ≤ j ∧ j < 2 ^ 62 := by have hc' := hc; simp only [small62, decide_eq_true_eq] at hc'; omega
          exact ⟨i, j, rfl, ⟨hi.1, hi.2, hj.1, hj.2⟩, h _ H1 P1 r walk_rng hn ev.eo⟩
        · rw [if_neg hc] at h; exact h.elim
end

section
variable {X : Cx} {rx : XR} {W : WX} {C : Ctx} {e c : E} {ee ec : Expr} {st : Stmt} {sa sb : List Stmt} {pos pos' : Pos} {tg : Expr} {t : Tg}
theorem q_asg (he : PE X ee (tE X.K rx W C e)) (hg : PG X tg (tG X.K C.kp t)) (hs : swapsWithSole [tg] ee pos.line X.env = pure false) (hw : swappedStores [tg] ee X.env = pure none) (h1 : (assignEach [tg] X.env).map (·.2) = [assign tg X.env]) : PS X (.Assign [tg] ee pos) (tS X.K rx W C (.asg t e)) :=
  PS.of fun D σ H ⟨env, P, hE, h⟩ => ⟨_, ps_asg he hg hs hw h1, tE_mono (tS_thn hE h) fun v H1 ⟨d, e1, P1, P2, r, rd, dj, n1, n2, ev, h⟩ => by
    split at h
    · exact h.elim
    rename_i hc
    simp only [Bool.or_eq_true, Bool.not_eq_true', not_or, Bool.not_eq_false, Bool.and_eq_true, not_and] at hc
    obtain ⟨P3, rd, dj, n2⟩ : ∃ P3, Rel X.K H1 d v P3 ∧ (∀ a, P1 a → ¬ P3 a) ∧ New P H P3 := by
      cases hp : e.pth with
      | false => exact ⟨P2, rd, dj hp, n2 hp⟩
      | true => exact ⟨No, Rel.imm (hc.1 hp) rd, fun _ _ z => z, fun _ z => z.elim⟩
    cases q : bindT t d e1 with
    | none => rw [q] at h; exact h.elim
    | some e2 =>
      rw [q] at h
      exact ⟨hc.2, d, e1, P1, P3, e2, r, rd, dj, q, fun σ' hE' k => h σ' H1 _ hE' (fun a z => z.elim (n1 a) (n2 a)) ev k⟩⟩
theorem q_ite {a b : Ss} (hc : PT X ec (tT X.K rx W C c)) (ha : PSs X sa (tSs X.K rx W C a)) (hb : PSs X sb (tSs X.K rx W C b)) : PS X (.If ec sa sb pos) (tS X.K rx W C (.ite c a b)) :=
  PS.of fun D σ H ⟨env, P, hE, h⟩ => ⟨_, ps_if hc ha hb, by
    simp only [evS] at h
    refine ⟨env, P, hE, ?_⟩
    cases q : evT C c env with
    | bad => rw [q] at h; exact h.elim
    | exc x e1 => rw [q] at h; exact fun c dd H' P1 r rr n e => h c dd σ H' P1 r rr n e Kp.refl
    | ok b e1 =>
      rw [q] at h
      intro H1 P1 r n ev
      cases b with
      | true => exact ⟨e1, P1, r, PostS.on h n ev.eo Kp.refl⟩
      | false => exact ⟨e1, P1, r, PostS.on h n ev.eo Kp.refl⟩⟩
theorem q_whl {b : Ss} (hp : PassesOwn (model X.prog X.w) X.A X.env X.xe) (hc : PT X ec (tT X.K rx W C c)) (hb : PSs X sb (tSs X.K rx W C b)) : PS X (.While ec sb [] pos) (tS X.K rx W C (.whl c b)) :=
  PS.of fun D σ H ⟨env, P, hE, h⟩ => ⟨_, ps_while hp hc hb, by
    simp only [evS] at h
    refine ⟨fun m σ' H' => ∃ env' P', RelE X.K H' env' σ' P' ∧ PostS X.K rx W C.kp P' σ' H' (whlLoop (evT C c) (evSs C b) m env') D, ⟨turns, env, P, hE, h⟩, fun m σ1 H1 ⟨env1, P1, r1, h1⟩ => ?_⟩
    cases m with
    | zero => exact h1.elim
    | succ m =>
      simp only [whlLoop] at h1
      refine ⟨env1, P1, r1, ?_⟩
      cases q : evT C c env1 with
      | bad => rw [q] at h1; exact h1.elim
      | exc x e1 => rw [q] at h1; exact fun c dd H' P1 r rr n e => h1 c dd σ1 H' P1 r rr n e Kp.refl
      | ok t e1 =>
        rw [q] at h1
        intro H2 P2 r2 n2 ev2
        have h2 := PostS.on h1 n2 ev2.eo (Kp.refl (σ := σ1))
        cases t with
        | false => exact h2 σ1 H2 P2 r2 New.refl Ev.refl Kp.refl
        | true =>
          rw [if_pos rfl]
          refine ⟨fun σ' H' => ∃ env' P', RelE X.K H' env' σ' P' ∧ PostS X.K rx W C.kp P' σ' H' (whlLoop (evT C c) (evSs C b) m env') D, fun σ' H' z => ⟨m, Nat.lt_succ_self m, z⟩, e1, P2, r2, ?_⟩
          simp only at h2
          cases q2 : evSs C b e1 with
          | next e2 => rw [q2] at h2; exact fun σ' H' P' r n ev k => ⟨e2, P', r, PostS.on h2 n ev k⟩
          | cnt e2 => rw [q2] at h2; exact fun σ' H' P' r n ev k => ⟨e2, P', r, PostS.on h2 n ev k⟩
          | brk e2 => rw [q2] at h2; exact h2
          | ret d e2 => rw [q2] at h2; exact h2
          | exc x e2 => rw [q2] at h2; exact h2
          | bad => rw [q2] at h2; exact h2.elim⟩
theorem q_for {it : It} {ie : Expr} {b : Ss} (hp : PassesOwn (model X.prog X.w) X.A X.env X.xe) (hc : X.calm = true) (hi : PI X tg ie (tI X.K rx W C false it)) (hg : PG X tg (tG X.K C.kp t)) (hb : PSs X sb (tSs X.K rx W C b)) (hs : ∀ x, foldedSetIterable ie X.env x = pure x) : PS X (.For tg ie sb [] pos) (tS X.K rx W C (.for t it b)) :=
  PS.of fun D σ H ⟨env, P, hE, h⟩ => ⟨_, ps_for hp hc hi hg hb hs, by
    simp only [evS] at h
    refine ⟨env, P, hE, ?_⟩
    cases q : evI C false it env with
    | bad => rw [q] at h; exact h.elim
    | exc x e1 => rw [q] at h; exact fun c dd H' P1 r rr n e => h c dd σ H' P1 r rr n e Kp.refl
    | ok ds e1 =>
      rw [q] at h
      simp only [Res.thn] at h
      intro J H1 P1 r1 w n1 ev1
      have w : Walk X.K J ds P1 H1 := fun H2 e => w H2 (e.mono fun _ z => ⟨rfl, z⟩)
      split at h
      rotate_left
      · exact h.elim
      rename_i hfree
      have h1 := PostS.on h n1 ev1 (Kp.refl (σ := σ))
      refine ⟨fun i m σ' H' => m = ds.length - i ∧ ∃ env' P', RelE X.K H' env' σ' P' ∧ Ev P1 H1 H' ∧ New P1 H1 P' ∧ PostS X.K rx W C.kp P' σ' H' (forLoop t (evSs C b) (ds.drop i) env') D, ⟨ds.length, by simp, e1, P1, r1, Ev.refl, New.refl, by simpa using h1⟩, fun i m σ2 H2 ⟨hm, env2, P2, r2, ev2, n2, h2⟩ => ?_⟩
      obtain ⟨w1, w2⟩ := w H2 ev2
      by_cases hl : i < ds.length
      · obtain ⟨d, hd⟩ : ∃ d, ds[i]? = some d := ⟨ds[i], List.getElem?_eq_getElem hl⟩
        obtain ⟨go, yl⟩ := w2 i d hd
        have e3 : ds.drop i = d :: ds.drop (i + 1) := by
          obtain ⟨h3, rfl⟩ := List.getElem?_eq_some_iff.mp hd
          exact List.drop_eq_getElem_cons h3
        rw [e3] at h2
        simp only [forLoop] at h2
        refine .inr ⟨go, fun σ' H' => ∃ env' P', RelE X.K H' env' σ' P' ∧ Ev P1 H1 H' ∧ New P1 H1 P' ∧ PostS X.K rx W C.kp P' σ' H' (forLoop t (evSs C b) (ds.drop (i + 1)) env') D, fun σ' H' z => ⟨ds.length - (i + 1), by omega, rfl, z⟩, fun x H3 hy => ?_⟩
        obtain ⟨ev3, rd⟩ := yl x H3 hy
        cases q2 : bindT t d env2 with
        | none => rw [q2] at h2; exact h2.elim
        | some e4 =>
          rw [q2] at h2
          have ev3' : Ev P2 H2 H3 := ev3.of_no
          refine ⟨hfree, d, env2, P2, No, e4, r2.ev ev3, rd, fun _ _ z => z, q2, fun σ4 r4 k4 => ?_⟩
          have n4 : New P2 H2 (Uni P2 No) := fun a z => z.elim .inl fun z => z.elim
          have h4 := PostS.on h2 n4 ev3' k4
          refine ⟨e4, _, r4, ?_⟩
          simp only at h4
          have on : ∀ {H' : Hp} {P' : Own}, Ev (Uni P2 No) H3 H' → New (Uni P2 No) H3 P' → Ev P1 H1 H' ∧ New P1 H1 P' := fun {H' P'} ev n => by
            have a1 := ev2.trans ev3' n2
            have a2 : New P1 H1 (Uni P2 No) := n2.trans ev2 n4
            exact ⟨a1.trans ev a2, a2.trans a1 n⟩
          cases q5 : evSs C b e4 with
          | next e5 => rw [q5] at h4; exact fun σ' H' P' r n ev k => ⟨e5, P', r, (on ev n).1, (on ev n).2, PostS.on h4 n ev k⟩
          | cnt e5 => rw [q5] at h4; exact fun σ' H' P' r n ev k => ⟨e5, P', r, (on ev n).1, (on ev n).2, PostS.on h4 n ev k⟩
          | brk e5 => rw [q5] at h4; exact h4
          | ret d e5 => rw [q5] at h4; exact h4
          | exc x e5 => rw [q5] at h4; exact h4
          | bad => rw [q5] at h4; exact h4.elim
      · have e3 : ds.drop i = [] := List.drop_eq_nil_iff.mpr (by omega)
        rw [e3] at h2
        exact .inl ⟨w1 i (by omega), h2 σ2 H2 P2 r2 New.refl Ev.refl Kp.refl⟩⟩
end
end Z

namespace Z
open PySem PySem.Spec L2
variable [TabList]

section
variable {κ : Type} [DecidableEq κ]
theorem kIx_none {k : κ} : ∀ {ks : List κ}, kIx ks k = none ↔ k ∉ ks
  | [] => by simp [kIx]
  | x :: ks => by
    simp only [kIx, List.mem_cons, not_or]
    by_cases h : x = k
    · simp [h]
    · rw [if_neg h, Option.map_eq_none_iff, kIx_none (ks := ks)]; exact ⟨fun z => ⟨fun e => h e.symm, z⟩, fun z => z.2⟩
theorem map_same {q : κ} {w : V} : ∀ {kvs : List (κ × V)}, q ∉ kvs.map (·.1) → kvs.map (fun kv => if kv.1 = q then (kv.1, w) else kv) = kvs
  | [], _ => rfl
  | kv :: kvs, h => by
    simp only [List.map_cons, List.mem_cons, not_or] at h
    simp only [List.map_cons]
    rw [if_neg (fun e => h.1 e.symm), map_same h.2]
theorem map_at {q : κ} {w : V} : ∀ {kvs : List (κ × V)} {j : Nat}, (kvs.map (·.1)).Nodup → kIx (kvs.map (·.1)) q = some j →
    (kvs.map fun kv => if kv.1 = q then (kv.1, w) else kv).map (·.1) = kvs.map (·.1) ∧ (kvs.map fun kv => if kv.1 = q then (kv.1, w) else kv).map (·.2) = (kvs.map (·.2)).set j w
  | [], j, _, h => by simp [kIx] at h
  | kv :: kvs, j, nd, h => by
    simp only [List.map_cons, kIx] at h
    simp only [List.map_cons, List.nodup_cons] at nd
    by_cases e : kv.1 = q
    · rw [if_pos e] at h
      obtain rfl : 0 = j := Option.some.inj h
      simp only [List.map_cons, List.set_cons_zero]
      rw [if_pos e, map_same (by rw [← e]; exact nd.1)]
      exact ⟨rfl, rfl⟩
    · rw [if_neg e] at h
      obtain ⟨i, hi, rfl⟩ := Option.map_eq_some_iff.mp h
      have := map_at (w := w) nd.2 hi
      simp only [List.map_cons, List.set_cons_succ]
      rw [if_neg e, this.1, this.2]
      exact ⟨rfl, rfl⟩
theorem putK_at {q : κ} {w : V} {kvs : List (κ × V)} {j : Nat} (nd : (kvs.map (·.1)).Nodup) (h : kIx (kvs.map (·.1)) q = some j) :
    (L2.putK kvs q w).map (·.1) = kvs.map (·.1) ∧ (L2.putK kvs q w).map (·.2) = (kvs.map (·.2)).set j w := by
  unfold L2.putK
  have : (kvs.any fun kv => decide (kv.1 = q)) = true := by
    have h2 : ¬ q ∉ kvs.map (·.1) := fun z => by rw [kIx_none.mpr z] at h; cases h
    simp only [Classical.not_not, List.mem_map] at h2
    obtain ⟨kv, h3, h4⟩ := h2
    exact List.any_eq_true.mpr ⟨kv, h3, by simpa using h4⟩
  rw [if_pos this]
  exact map_at nd h
theorem putK_new {q : κ} {w : V} {kvs : List (κ × V)} (h : kIx (kvs.map (·.1)) q = none) : L2.putK kvs q w = kvs ++ [(q, w)] := by
  unfold L2.putK
  have h2 := kIx_none.mp h
  rw [if_neg]
  intro z
  obtain ⟨kv, h3, h4⟩ := List.any_eq_true.mp z
  exact h2 (List.mem_map.mpr ⟨kv, h3, by simpa using h4⟩)
theorem kIx_lt {q : κ} : ∀ {ks : List κ} {j : Nat}, kIx ks q = some j → j < ks.length
  | [], _, h => by simp [kIx] at h
  | x :: ks, j, h => by
    simp only [kIx] at h
    split at h
    · cases h; simp
    · obtain ⟨i, hi, rfl⟩ := Option.map_eq_some_iff.mp h
      have := kIx_lt hi
      simp; omega
end

section
variable {X : Cx} {k : Nat}
/-- the dict's own object, changed -/
theorem upd_hold {H : Hp} {a : Addr} {u u' : HO} {Pd Q1 P2 : Own} (h : Hold H true a u Pd Q1) (dj : ∀ b, Pd b → ¬ P2 b) : Hold (upd H a u') true a u' (Uni Pd P2) (Uni Q1 P2) :=
  ⟨upd_same, .inl h.2.1, fun b z => ⟨z.imp (fun z => (h.2.2 b z).1) id, fun e => z.elim (fun z => (h.2.2 b z).2 e) fun z => dj a h.2.1 (by rw [← e]; exact z)⟩⟩
theorem set_ok (hr : Room k X.A) {H : Hp} {y kd d y' : D} {v vk w : V} {Pd Pk P2 : Own} {Q : Hp → Prop} (ry : Rel X.K H y v Pd) (rk : Rel X.K H kd vk Pk) (rd : Rel X.K H d w P2) (dj : ∀ a, Pd a → ¬ P2 a) (h : setD y kd d = some y')
    (hq : ∀ H', Rel X.K H' y' v (Uni Pd P2) → Ev Pd H H' → Q H') : ∃ t, PSet X t ∧ t v vk w H Q := by
  unfold setD at h
  split at h
  · rename_i ds
    cases kd <;> simp only [reduceCtorEq, Option.map_eq_some_iff] at h
    rename_i i
    obtain ⟨j, hj, rfl⟩ := h
    obtain ⟨a, xs, Q1, rfl, s1, r1⟩ := ry
    obtain rfl : vk = .int i := rk
    refine ⟨_, set_list, a, xs, i, j, rfl, rfl, s1.1, by rw [← r1.length]; exact hj, hq _ ?_ (Ev.wrote s1.1 trivial s1.2.1)⟩
    have ev : Ev (fun b => b = a) H (upd H a (.lst (xs.set j w))) := Ev.wrote s1.1 trivial rfl
    have r2 := r1.frame ev fun b z e => (s1.2.2 b z).2 e
    have rd2 := rd.frame ev fun b z e => dj a s1.2.1 (by rw [← e]; exact z)
    have hl : j < ds.length := by
      exact (ixN_seq hj).2.1
    obtain ⟨u, Pd1, Pr, e1, s, r3, lens⟩ := r2.lens (List.getElem?_eq_getElem hl)
    have r4 := lens _ d w P2 rd2 (fun b z z' => dj b (s1.2.2 b (s.2.1 b z')).1 z) Ev.refl
    exact ⟨a, xs.set j w, Uni Q1 P2, rfl, upd_hold s1 dj, r4.mono fun b z => z.elim .inr fun z => .inl (s.2.1 b z)⟩
  · rename_i ks ds
    obtain ⟨q, hk, h⟩ := Option.bind_eq_some_iff.mp h
    split at h
    rotate_left
    · cases h
    rename_i hlim
    cases h
    obtain ⟨a, kvs, Q1, rfl, s1, ⟨rfl, nd⟩, r1⟩ := ry
    refine ⟨_, set_dict (by have := hr.un; omega), a, _, rfl, .inl ⟨kvs, q, s1.1, ?_, ?_, rfl⟩, hq _ ?_ (Ev.wrote s1.1 trivial s1.2.1)⟩
    · exact key_val rk hk
    · rw [← lim_eq]; simpa using hlim
    have ev : Ev (fun b => b = a) H (upd H a (.dK (L2.putK kvs q w))) := Ev.wrote s1.1 trivial rfl
    have r2 := r1.frame ev fun b z e => (s1.2.2 b z).2 e
    have rd2 := rd.frame ev fun b z e => dj a s1.2.1 (by rw [← e]; exact z)
    refine ⟨a, L2.putK kvs q w, Uni Q1 P2, rfl, upd_hold s1 dj, ?_⟩
    unfold Z.putK
    cases hj : kIx (kvs.map (·.1)) q with
    | some j =>
      simp only
      obtain ⟨e1, e2⟩ := putK_at (w := w) nd hj
      rw [e1, e2]
      have hl : j < ds.length := by
        have := kIx_lt hj
        have l := r1.length
        simp at this l
        omega
      obtain ⟨u, Pd1, Pr, e1, s, r3, lens⟩ := r2.lens (List.getElem?_eq_getElem hl)
      have r4 := lens _ d w P2 rd2 (fun b z z' => dj b (s1.2.2 b (s.2.1 b z')).1 z) Ev.refl
      exact ⟨⟨rfl, nd⟩, r4.mono fun b z => z.elim .inr fun z => .inl (s.2.1 b z)⟩
    | none =>
      simp only
      rw [putK_new hj] at r2 rd2 ⊢
      rw [List.map_append, List.map_append]
      refine ⟨⟨rfl, ?_⟩, Rels.append (Sep.uni fun b z y => dj b (s1.2.2 b z).1 y) r2 (Rels.cons Sep.nr rd2 (show Rels X.K _ [] [] No from rfl))⟩
      rw [List.nodup_append]
      refine ⟨nd, by simp, fun b hb c hc e => ?_⟩
      simp at hc
      subst e; subst hc
      exact kIx_none.mp hj hb
  · cases h
theorem PSet.of {t' : TSet} (h : ∀ o i v H Q, t' o i v H Q → ∃ t, PSet X t ∧ t o i v H Q) : PSet X t' := fun pins s σ H o i v ov iv u Q I r1 r2 r3 hw => let ⟨_, a, b⟩ := h o i v H Q hw; a pins s σ H o i v ov iv u Q I r1 r2 r3 b
end
section
variable {X : Cx} {rx : XR} {W : WX} {C : Ctx} {o i e : E} {eo ei ee : Expr} {pos pos' : Pos} {k : Nat}
theorem q_sto (hr : Room k X.A) (he : PE X ee (tE X.K rx W C e)) (ho : PE X eo (tP X.K C o)) (hi : PE X ei (tE X.K rx W C i)) (hs : swapsWithSole [.Subscript eo ei pos'] ee pos.line X.env = pure false) (hw : swappedStores [.Subscript eo ei pos'] ee X.env = pure none) (h1 : (assignEach [.Subscript eo ei pos'] X.env).map (·.2) = [assign (.Subscript eo ei pos') X.env])
    (ha : ∀ v, assign (.Subscript eo ei pos') X.env v = (do
      let ov ← holding [v] (eval eo X.env)
      let iv ← holding [v, ov] (eval ei X.env)
      standAt pos'
      holding [v, ov, iv] (setItem ov iv v)
      release [v, ov, iv] [])) : PS X (.Assign [.Subscript eo ei pos'] ee pos) (tS X.K rx W C (.sto o i e)) :=
  PS.of fun D σ H ⟨env, P, hE, h⟩ => by
    have hset : PSet X (fun o i v H Q => ∃ t, PSet X t ∧ t o i v H Q) := PSet.of fun _ _ _ _ _ z => z
    refine ⟨_, ps_asg he (pg_sub ho hi hset ha) hs hw h1, tE_mono (tS_thn hE h) fun v H1 ⟨d, e1, P1, P2, r, rd, dj, n1, n2, ev, h⟩ => ?_⟩
    split at h
    · exact h.elim
    rename_i hc
    simp only [Bool.or_eq_true, Bool.not_eq_true', not_or, Bool.not_eq_false, Bool.and_eq_true, not_and] at hc
    obtain ⟨P3, rd, dj, n2⟩ : ∃ P3, Rel X.K H1 d v P3 ∧ (∀ a, P1 a → ¬ P3 a) ∧ New P H P3 := by
      cases hp : e.pth with
      | false => exact ⟨P2, rd, dj hp, n2 hp⟩
      | true => exact ⟨No, Rel.imm (hc.1 hp) rd, fun _ _ z => z, fun _ z => z.elim⟩
    cases q1 : evP C o e1 with
    | none => rw [q1] at h; exact h.elim
    | some rk =>
      obtain ⟨ri, ks⟩ := rk
      cases q2 : evE C i e1 with
      | bad => rw [q1, q2] at h; exact h.elim
      | exc x e => rw [q1, q2] at h; exact h.elim
      | ok kd ek =>
        rw [q1, q2] at h
        simp only at h
        cases q3 : e1[ri]? with
        | none => rw [q3] at h; exact h.elim
        | some ox =>
          cases ox with
          | none => rw [q3] at h; exact h.elim
          | some x =>
            rw [q3] at h
            simp only at h
            cases q4 : getK x ks with
            | none => rw [q4] at h; exact h.elim
            | some y =>
              rw [q4] at h
              simp only at h
              cases q5 : setD y kd d with
              | none => rw [q5] at h; exact h.elim
              | some y' =>
                rw [q5] at h
                simp only at h
                cases q6 : putKs x ks y' with
                | none => rw [q6] at h; exact h.elim
                | some x' =>
                  rw [q6] at h
                  simp only at h
                  refine ⟨e1, P1, ri, ks, x, y, r, q1, q3, q4, fun ov H2 ev2 foc _ => ?_⟩
                  refine ⟨e1, P1, r.ev ev2, ?_⟩
                  rw [q2]
                  intro vk H3 P5 P6 _ rk _ _ ev3
                  rw [hc.2] at ev3
                  have ev3 : Ev No H2 H3 := ev3.mono fun _ z => nomatch z.1
                  obtain ⟨Pd, Pr, s, ry, w⟩ := foc.ev ev3
                  have ev13 : Ev No H1 H3 := ev2.trans ev3 fun _ z => z.elim
                  have rd3 := rd.ev ev13
                  refine set_ok hr ry rk rd3 (fun a z => dj a (s.1 a z)) q5 fun H4 ry4 ev4 => ?_
                  have rE := w H4 y' (Uni Pd P3) x' q6 ry4 (fun a z y => z.elim (fun z => s.2.2 a z y) fun z => dj a (s.2.1 a y) z) ev4
                  have up : Ev P1 H1 H4 := (ev13.of_no).trans (ev4.mono s.1) New.refl
                  have nn : New P H (Uni (Uni Pd P3) Pr) := fun a z => z.elim (fun z => z.elim (fun z => n1 a (s.1 a z)) (n2 a)) fun z => n1 a (s.2.1 a z)
                  exact h σ H4 _ rE nn (ev.trans up n1) Kp.refl
end
end Z

namespace Z
open PySem PySem.Spec L2
variable [TabList]

theorem takes_no {X : Cx} : Takes X (fun _ _ _ _ => False) := fun u s' ⟨a, B, sI, pins, σ, H, cls, d, e, I, nb, up, sky, na, os, ag, w⟩ => w.elim
abbrev W0 : WX := fun _ _ _ _ => False

section
variable {K : PySem.W.Frag} {H H0 : Hp} {P P0 : Own}
theorem RelE.wipe : ∀ {vs : List Nat} {env : Env} {σ : L2.St}, RelE K H env σ P → RelE K H (wipeE vs env) (L2.wipe σ vs) P
  | [], _, _, h => h
  | v :: vs, _, _, h => RelE.drop (RelE.wipe (vs := vs) h)
theorem wipe_get {i : Nat} : ∀ {vs : List Nat} {σ : L2.St}, i ∉ vs → (L2.wipe σ vs)[i]? = σ[i]?
  | [], _, _ => rfl
  | v :: vs, σ, h => by
    simp only [List.mem_cons, not_or] at h
    simp only [L2.wipe]
    rw [List.getElem?_set_ne (fun e => h.1 e.symm), wipe_get h.2]
theorem wipe_at {i : Nat} : ∀ {vs : List Nat} {σ : L2.St}, i ∈ vs → (L2.wipe σ vs)[i]? = if i < σ.length then some none else none
  | [], _, h => by cases h
  | v :: vs, σ, h => by
    simp only [L2.wipe]
    by_cases e : v = i
    · subst e
      have hl : (L2.wipe σ vs).length = σ.length := wipe_length σ vs
      by_cases hv : v < σ.length
      · rw [if_pos hv, List.getElem?_set_self (by omega)]
      · rw [if_neg hv, List.getElem?_eq_none (by simp; omega)]
    · rw [List.getElem?_set_ne e]
      exact wipe_at ((List.mem_cons.mp h).resolve_left fun z => e z.symm)
/-- which slots a comprehension's turn leaves alone -/
def notIn (own : List Nat) : Nat → Bool := fun i => !own.contains i
theorem wipe_kp {vs : List Nat} {σ σ' : L2.St} (k : Kp (notIn vs) (L2.wipe σ vs) σ') (hl : σ'.length = σ.length) : L2.wipe σ' vs = L2.wipe σ vs := by
  refine List.ext_getElem? fun i => ?_
  by_cases h : i ∈ vs
  · rw [wipe_at h, wipe_at h, hl]
  · rw [wipe_get h, k i (by simpa [notIn] using h)]
theorem RelE.back : ∀ {vs : List Nat} {env old : Env} {σ σ0 : L2.St}, vs.Nodup → RelE K H env (L2.wipe σ vs) P → RelE K H0 old σ0 P0 → (∀ i ∈ vs, σ0[i]? = σ[i]?) → Ev P0 H0 H → RelE K H (backE vs old env) σ P
  | [], _, _, _, _, _, h, _, _, _ => h
  | v :: vs, env, old, σ, σ0, nd, h, ho, hs, ev => by
    obtain ⟨n1, n2⟩ := List.nodup_cons.mp nd
    simp only [L2.wipe] at h
    have e1 : ((L2.wipe σ vs).set v none).set v ((L2.wipe σ vs)[v]?.getD none) = L2.wipe σ vs := by
      rw [List.set_set]
      refine List.ext_getElem? fun i => ?_
      by_cases e : v = i
      · subst e
        by_cases hv : v < (L2.wipe σ vs).length
        · rw [List.getElem?_set_self hv, List.getElem?_eq_getElem hv]; rfl
        · rw [List.getElem?_eq_none (by simp; omega), List.getElem?_eq_none (by omega)]
      · rw [List.getElem?_set_ne e]
    have h1 : RelE K H (env.set v none) (L2.wipe σ vs) P := by
      have := RelE.drop (i := v) (ov := (L2.wipe σ vs)[v]?.getD none) h
      rwa [e1] at this
    simp only [backE]
    refine RelE.back n2 ?_ ho (fun i hi => hs i (List.mem_cons_of_mem _ hi)) ev
    split
    · rename_i d hd
      split
      · rename_i hi
        obtain ⟨u, P1, P2, e, s, r, rs⟩ := ho.get hd
        refine RelE.put h1 Sep.nl ((Rel.imm hi r).frame ev fun _ z => z.elim) ?_
        rw [wipe_get n1, ← hs v (List.mem_cons_self ..)]
        exact e
      · exact h1
    · exact h1
end

/-- the tests of a comprehension -/
def tTs (K : PySem.W.Frag) (rx : XR) (C : Ctx) (ifs : Es) : TT := fun σ H Q => ∃ env P b env', RelE K H env σ P ∧ evIf C ifs env = .ok b env' ∧ ∀ H' P1, RelE K H' env' σ P1 → New P H P1 → Ev (eO ifs.pu P) H H' → Q b H'
theorem PTs.of {X : Cx} {e : List Expr} {t' : TT} (h : ∀ σ H Q, t' σ H Q → ∃ t, PTs X e t ∧ t σ H Q) : PTs X e t' := ⟨fun pins s σ H Q I hw => let ⟨_, a, b⟩ := h σ H Q hw; a.run pins s σ H Q I b⟩
section
variable {X : Cx} {rx : XR} {C : Ctx} {c : E} {ec : Expr}
theorem if_nil : PTs X [] (tTs X.K rx C .nil) := PTs.of fun σ H Q ⟨env, P, b, env', hE, h, q⟩ => ⟨_, pts_nil, by
  cases h
  exact q H P hE New.refl Ev.refl⟩
theorem if_one (h : PT X ec (tT X.K rx W0 C c)) : PTs X [ec] (tTs X.K rx C (.cons c .nil)) := PTs.of fun σ H Q ⟨env, P, b, env', hE, hv, q⟩ => ⟨_, pts_one h, env, P, hE, by
  simp only [evIf] at hv
  unfold evT
  cases q1 : evE C c env with
  | bad => rw [q1] at hv; cases hv
  | exc x e1 => rw [q1] at hv; cases hv
  | ok d e1 =>
    rw [q1] at hv
    simp only [Res.bind] at hv ⊢
    cases q2 : truth d with
    | none => rw [q2] at hv; cases hv
    | some t =>
      rw [q2] at hv
      intro H' P1 r n ev
      cases t with
      | true => cases hv; exact q H' P1 r n (ev.mono fun a z => ⟨by simp [Es.pu, z.1], z.2⟩)
      | false => cases hv; exact q H' P1 r n (ev.mono fun a z => ⟨by simp [Es.pu, z.1], z.2⟩)⟩
end

section
variable {X : Cx} {rx : XR} {W : WX} {C : Ctx}
mutual
theorem bindT_len : ∀ {t : Tg} {d : D} {env env' : Env}, bindT t d env = some env' → env'.length = env.length
  | .one i, d, env, env', h => by
    simp only [bindT, Option.ite_none_right_eq_some, Option.some.injEq] at h
    rw [← h.2, List.length_set]
  | .tup ts, d, env, env', h => by
    cases d <;> simp only [bindT, reduceCtorEq] at h
    exact bindTs_length h
theorem bindTs_length : ∀ {ts : List Tg} {ds : List D} {env env' : Env}, bindTs ts ds env = some env' → env'.length = env.length
  | [], [], _, _, h => by simp only [bindTs, Option.some.injEq] at h; rw [h]
  | [], _ :: _, _, _, h => by simp [bindTs] at h
  | _ :: _, [], _, _, h => by simp [bindTs] at h
  | t :: ts, d :: ds, _, _, h => by
    simp only [bindTs, Option.bind_eq_some_iff] at h
    obtain ⟨e2, h1, h2⟩ := h
    rw [bindTs_length h2, bindT_len h1]
end
theorem new_eo {p q : Bool} {P1 P2 : Own} {H1 : Hp} (n : New P1 H1 P2) (h : q = false → p = false) : New (eO p P1) H1 (eO q P2) := fun a z => (n a z.2).imp (fun y => ⟨h z.1, y⟩) id
theorem lc_read {vs : List Nat} {t : Tg} {it : It} {is : Es} {e : E} {σ : L2.St} {H : Hp} {Q : VK} (nd : vs.Nodup) (hf : t.free (notIn vs) = true) (h : tE X.K rx W C (.lc vs t it is e) σ H Q) : tLc (tI X.K rx W C (is.pu && e.pu) it) (tG X.K (notIn vs) t) (tTs X.K rx C is) (tE X.K rx W0 C e) vs σ H Q := by
    obtain ⟨env, P, hE, h⟩ := h
    simp only [evE] at h
    refine ⟨env, P, hE, ?_⟩
    cases q : evI C (is.pu && e.pu) it env with
    | bad => rw [q] at h; exact h.elim
    | exc x e1 => rw [q] at h; exact h
    | ok ds e1 =>
      rw [q] at h
      simp only [Res.bind] at h
      intro J H1 P1 r1 w n1 ev1 D hD
      split at h
      rotate_left
      · exact h.elim
      rename_i hlim
      cases q2 : lcLoop vs t (evIf C is) (evE C e) e.pth ds (wipeE vs e1) with
      | bad => rw [q2] at h; exact h.elim
      | exc x e2 => rw [q2] at h; exact h.elim
      | ok all e2 =>
        rw [q2] at h
        simp only at h
        let Inv' : Nat → Hp → Prop := fun i H' => ∃ env' P' acc rs Pa rs2, RelE X.K H' env' (L2.wipe σ vs) P' ∧ New P1 H1 P' ∧ ¬ P' D ∧ Ev (eO (is.pu && e.pu) P1) H1 H' ∧ H' D = some (.lst acc) ∧ Rels X.K H' rs acc Pa ∧ ¬ Pa D ∧ (∀ a, P' a → ¬ Pa a) ∧ New P1 H1 Pa ∧ rs ++ rs2 = all ∧ rs.length ≤ i ∧ lcLoop vs t (evIf C is) (evE C e) e.pth (ds.drop i) env' = .ok rs2 e2
        have dne : H1 D ≠ none → False := fun z => z hD
        have evD : Ev (eO (is.pu && e.pu) P1) H1 (upd H1 D (.lst [])) := Ev.laid hD
        refine ⟨fun i m H' => m = ds.length - i ∧ i ≤ ds.length ∧ Inv' i H', ⟨ds.length, by simp, Nat.zero_le _, ?_⟩, ?_⟩
        · have r2 := r1.tight.wipe (vs := vs)
          refine ⟨wipeE vs e1, Tt H1 P1, [], [], No, all, ?_, fun a z => .inl z.1, fun z => z.2 hD, evD, upd_same, rfl, fun z => z, fun _ _ z => z, fun _ z => z.elim, rfl, Nat.zero_le _, by simpa using q2⟩
          exact r2.ev (Ev.laid hD)
        · rintro i m H2 ⟨rfl, hil, env2, P2, acc, rs, Pa, rs2, r2, n2, hPD, ev2', hHD, ra, hPaD, dja, na, hall, hlen, hloop⟩
          have ev2 : Ev P1 H1 H2 := ev2'.eo
          obtain ⟨w1, w2⟩ := w H2 ev2'
          by_cases hl : i < ds.length
          · obtain ⟨d, hd⟩ : ∃ d, ds[i]? = some d := ⟨ds[i], List.getElem?_eq_getElem hl⟩
            obtain ⟨go, yl⟩ := w2 i d hd
            have e3 : ds.drop i = d :: ds.drop (i + 1) := by
              obtain ⟨h3, rfl⟩ := List.getElem?_eq_some_iff.mp hd
              exact List.drop_eq_getElem_cons h3
            rw [e3] at hloop
            simp only [lcLoop] at hloop
            refine .inr ⟨go, fun H' => i + 1 ≤ ds.length ∧ Inv' (i + 1) H', fun H' z => ⟨ds.length - (i + 1), by omega, rfl, z⟩, fun x H3 hy => ?_⟩
            obtain ⟨ev3, rd⟩ := yl x H3 hy
            cases q3 : bindT t d env2 with
            | none => rw [q3] at hloop; cases hloop
            | some e4 =>
              rw [q3] at hloop
              simp only at hloop
              refine ⟨hf, d, env2, P2, No, e4, r2.ev ev3, rd, fun _ _ z => z, q3, fun σ4 r4 k4 => ?_⟩
              have hl4 : σ4.length = σ.length := by
                have a1 := r4.length
                have a2 := r2.length
                have a3 := bindT_len q3
                rw [wipe_length] at a2
                omega
              have hw : L2.wipe σ4 vs = L2.wipe σ vs := wipe_kp k4 hl4
              refine ⟨hw, ?_⟩
              have n4 : New P2 H2 (Uni P2 No) := fun a z => z.elim .inl fun z => z.elim
              have ev3' : Ev P2 H2 H3 := ev3.of_no
              have hU : ∀ {a}, Uni P2 No a → P2 a := fun z => z.elim id fun z => z.elim
              cases q4 : evIf C is e4 with
              | bad => rw [q4] at hloop; cases hloop
              | exc x e5 => rw [q4] at hloop; cases hloop
              | ok b e5 =>
                rw [q4] at hloop
                refine ⟨e4, Uni P2 No, b, e5, r4, q4, fun H5 P5 r5 n5 ev5 => ?_⟩
                have ev25' : Ev (eO is.pu P2) H2 H5 := (ev3.of_no).trans (ev5.mono fun _ z => ⟨z.1, hU z.2⟩) New.refl
                have ev25 : Ev P2 H2 H5 := ev25'.eo
                have ev15 : Ev (eO (is.pu && e.pu) P1) H1 H5 := ev2'.trans ev25' (new_eo n2 fun z => by rw [z, Bool.false_and])
                have n25 : New P2 H2 P5 := n4.trans ev3' n5
                have d2 : ∀ {a}, P2 a → a ≠ D := fun z e => hPD (by rw [← e]; exact z)
                have hD2 : H2 D ≠ none := by rw [hHD]; exact fun z => nomatch z
                have hPD5 : ¬ P5 D := fun z => (n25 D z).elim hPD fun z => hD2 z
                have hHD5 : H5 D = some (.lst acc) := ev25.keep D _ hHD (fun _ z => nomatch z) fun z => (hPD z).elim
                have ra5 := (ra.tight).frame ev25 fun a z y => dja a y z.1
                have dja5 : ∀ a, P5 a → ¬ Tt H2 Pa a := fun a z y => (n25 a z).elim (fun z => dja a z y.1) y.2
                cases b with
                | false =>
                  dsimp only
                  rw [if_neg Bool.false_ne_true]
                  simp only at hloop
                  refine ⟨by omega, wipeE vs e5, P5, acc, rs, Tt H2 Pa, rs2, by rw [← hw]; exact r5.wipe, n2.trans ev2 n25, hPD5, ev15, hHD5, ra5, fun z => hPaD z.1, dja5, fun a z => na a z.1, hall, by omega, hloop⟩
                | true =>
                  dsimp only
                  rw [if_pos rfl]
                  simp only at hloop
                  refine ⟨e5, P5, r5, ?_⟩
                  cases q5 : evE C e e5 with
                  | bad => rw [q5] at hloop; cases hloop
                  | exc x e6 => rw [q5] at hloop; cases hloop
                  | ok r e6 =>
                    rw [q5] at hloop
                    simp only at hloop
                    split at hloop
                    · cases hloop
                    rename_i hp
                    cases q6 : lcLoop vs t (evIf C is) (evE C e) e.pth (ds.drop (i + 1)) (wipeE vs e6) with
                    | bad => rw [q6] at hloop; cases hloop
                    | exc x e7 => rw [q6] at hloop; cases hloop
                    | ok rs7 e7 =>
                      rw [q6] at hloop
                      cases hloop
                      intro y H6 P6 P7 r6 rd6 hd6 n6 ev6
                      obtain ⟨P8, rd8, dj8, n8⟩ : ∃ P8, Rel X.K H6 r y P8 ∧ (∀ a, P6 a → ¬ P8 a) ∧ New P5 H5 P8 := by
                        cases hp2 : e.pth with
                        | false => exact ⟨P7, rd6, (hd6 hp2).1, fun a z => ((hd6 hp2).2 a z).imp (fun z => z.2) id⟩
                        | true => exact ⟨No, Rel.imm (by simpa [hp2] using hp) rd6, fun _ _ z => z, fun _ z => z.elim⟩
                      have ev56 : Ev P5 H5 H6 := ev6.eo
                      have ev16 : Ev (eO (is.pu && e.pu) P1) H1 H6 := ev15.trans ev6 (new_eo (n2.trans ev2 n25) fun z => by rw [z, Bool.and_false])
                      have ev26 : Ev P2 H2 H6 := ev25.trans ev56 n25
                      have n26 : New P2 H2 P6 := n25.trans ev25 n6
                      have n28 : New P2 H2 P8 := n25.trans ev25 n8
                      have hHD6 : H6 D = some (.lst acc) := ev26.keep D _ hHD (fun _ z => nomatch z) fun z => (hPD z).elim
                      have hPD6 : ¬ P6 D := fun z => (n26 D z).elim hPD fun z => hD2 z
                      have hPD8 : ¬ P8 D := fun z => (n28 D z).elim hPD fun z => hD2 z
                      have evu : Ev (fun a => a = D) H6 (upd H6 D (.lst (acc ++ [y]))) := Ev.wrote hHD6 trivial rfl
                      have ra6 := ((ra.tight).frame ev26 fun a z y => dja a y z.1).frame evu fun a z e => hPaD (by rw [← e]; exact z.1)
                      have rd9 := rd8.frame evu fun a z e => hPD8 (by rw [← e]; exact z)
                      have dj9 : ∀ a, Tt H2 Pa a → ¬ P8 a := fun a z y => (n28 a y).elim (fun y => dja a y z.1) z.2
                      have dj6 : ∀ a, P6 a → ¬ Tt H2 Pa a := fun a z y => (n26 a z).elim (fun z => dja a z y.1) y.2
                      refine ⟨acc, hHD6, ?_, by omega, wipeE vs e6, P6, acc ++ [y], rs ++ [r], Uni (Tt H2 Pa) P8, rs7, ?_, n2.trans ev2 n26, hPD6, ?_, upd_same, Rels.append (Sep.uni dj9) ra6 (Rels.cons Sep.nr rd9 (show Rels X.K _ [] [] No from rfl)), fun z => z.elim (fun z => hPaD z.1) hPD8, fun a z y => y.elim (dj6 a z) (dj8 a z), fun a z => z.elim (fun z => na a z.1) fun z => (n2.trans ev2 n28) a z, by rw [List.append_assoc]; exact hall, ?_, q6⟩
                      · have := ra.length
                        rw [← lim_eq]; omega
                      · rw [← hw]
                        exact (r6.frame evu fun a z e => hPD6 (by rw [← e]; exact z)).wipe
                      · refine ev16.trans (evu.mono (O1 := fun a => a = D) fun _ z => z) fun a z => ?_
                        subst z
                        exact .inr hD
                      · simp; omega
          · have e3 : ds.drop i = [] := List.drop_eq_nil_iff.mpr (by omega)
            rw [e3] at hloop
            cases hloop
            refine .inl ⟨w1 i (by omega), ?_⟩
            rw [List.append_nil] at hall
            subst hall
            have rb := RelE.back nd r2 r1 (fun _ _ => rfl) ev2
            refine h (.ref D) H2 P2 (Uni (fun a => a = D) Pa) rb ⟨D, acc, Pa, rfl, ⟨hHD, .inl rfl, fun b z => ⟨.inr z, fun e => hPaD (by rw [← e]; exact z)⟩⟩, ra⟩ (fun _ => ⟨fun a z y => y.elim (fun y => hPD (by rw [← y]; exact z)) (dja a z), fun a z => ?_⟩) (n1.trans ev1 n2) ((ev1.trans ev2 n1).mono fun a z => ⟨rfl, z⟩)
            rcases z with z | z
            · subst z
              refine .inr ?_
              cases qq : H a with
              | none => rfl
              | some o => exact absurd hD (ev1.dom a (by rw [qq]; exact fun z => nomatch z))
            · exact ((n1.trans ev1 na) a z).imp (fun z => ⟨rfl, z⟩) id
theorem s_lc {elt tg iter : Expr} {ifs : List Expr} {scope : Scope} {own : List (Str × Nat)} {pos : Pos} {t : Tg} {it : It} {is : Es} {e : E} (hc : X.calm = true) (hN : X.N.Nodup) (hi : PI X tg iter (tI X.K rx W C (is.pu && e.pu) it)) (ok : blkC X.N X.env.scope scope own = true) (nd : (own.map (·.2)).Nodup) (hf : t.free (notIn (own.map (·.2))) = true)
    (hg : ∀ (s : Shared) (H : Hp) (A : Addr) (cl : List (Str × Addr)) (fp : List Addr), PG (X.blk s H scope (compEnvC scope cl A X.env) fp) tg (tG X.K (notIn (own.map (·.2))) t)) (ht : ∀ (s : Shared) (H : Hp) (A : Addr) (cl : List (Str × Addr)) (fp : List Addr), PTs (X.blk s H scope (compEnvC scope cl A X.env) fp) ifs (tTs X.K rx C is))
    (he : ∀ (s : Shared) (H : Hp) (A : Addr) (cl : List (Str × Addr)) (fp : List Addr), PE (X.blk s H scope (compEnvC scope cl A X.env) fp) elt (tE X.K rx W0 C e)) (hs : ∀ x, foldedSetIterable iter X.env x = pure x) :
    PE X (.ListComp elt [⟨tg, iter, ifs, 0⟩] scope pos) (tE X.K rx W C (.lc (own.map (·.2)) t it is e)) :=
  PE.of fun σ H Q h => by
    exact ⟨_, pe_lc hc hN hi (blkOk_by ok) hg ht he hs, lc_read nd hf h⟩
theorem q_setLc {i : Nat} {y : Str} {py : Pos} {elt tg iter : Expr} {ifs : List Expr} {scope : Scope} {own : List (Str × Nat)} {pos spos : Pos} {t : Tg} {it : It} {is : Es} {e : E} (hc : X.calm = true) (hN : X.N.Nodup) (hy : X.N[i]? = some y) (hyl : X.env.scope.names.lookup y = some .local) (hk : X.env.scope.kind = .function) (hl : (py.line == pos.line) = true)
    (hna : (scope.names.any fun (n, k) => n == y && (k == .local || k == .cell)) = false)
    (hi : PI X tg iter (tI X.K rx W C (is.pu && e.pu) it)) (ok : blkC X.N X.env.scope scope own = true) (nd : (own.map (·.2)).Nodup) (hf : t.free (notIn (own.map (·.2))) = true)
    (hg : ∀ (s : Shared) (H : Hp) (A : Addr) (cl : List (Str × Addr)) (fp : List Addr), PG (X.blk s H scope (compEnvC scope cl A X.env) fp) tg (tG X.K (notIn (own.map (·.2))) t)) (ht : ∀ (s : Shared) (H : Hp) (A : Addr) (cl : List (Str × Addr)) (fp : List Addr), PTs (X.blk s H scope (compEnvC scope cl A X.env) fp) ifs (tTs X.K rx C is))
    (he : ∀ (s : Shared) (H : Hp) (A : Addr) (cl : List (Str × Addr)) (fp : List Addr), PE (X.blk s H scope (compEnvC scope cl A X.env) fp) elt (tE X.K rx W0 C e)) (hs : ∀ x, foldedSetIterable iter X.env x = pure x) :
    PS X (.Assign [.Name y py] (.ListComp elt [⟨tg, iter, ifs, 0⟩] scope pos) spos) (tS X.K rx W C (.asg (.one i) (.lc (own.map (·.2)) t it is e))) :=
  PS.of fun D σ H ⟨env, P, hE, h⟩ => ⟨_, ps_setLc hc hN hy hyl (sw_true hk hyl hl hna) hi (blkOk_by ok) hg ht he hs, lc_read nd hf (tE_mono (tS_thn hE h) fun v H1 ⟨d, e1, P1, P2, r, rd, dj, n1, n2, ev, h⟩ => by
    split at h
    · exact h.elim
    rename_i hc
    simp only [Bool.or_eq_true, Bool.not_eq_true', not_or, Bool.not_eq_false, Bool.and_eq_true, not_and] at hc
    simp only [bindT] at h
    split at h
    rotate_left
    · exact h.elim
    rename_i e2 he2
    simp only [Option.ite_none_right_eq_some, Option.some.injEq] at he2
    obtain ⟨hl, rfl⟩ := he2
    have hk2 : C.kp i = false := by simpa [Tg.free] using hc.2
    exact h _ H1 (Uni P1 P2) (r.store (P := Uni P1 P2) hl ⟨fun _ z => .inr z, fun _ z => .inl z, fun a z y => dj rfl a y z⟩ rd) (fun a z => z.elim (n1 a) (n2 rfl a)) ev (Kp.set hk2))⟩
end
end Z

namespace Z
open PySem PySem.Spec L2 
open PyProof.Rows (envOfC)
variable [TabList]

/-- a def: its parameters, its slots, the parameters that are bound anew, its body -/
structure Fd where
  np : Nat
  n : Nat
  re : List Nat
  body : Ss
def Fd.kp (f : Fd) : Nat → Bool := fun i => decide (i < f.np) && !f.re.contains i
def finE : Nat → List Nat → Nat → Env → Env
  | 0, _, _, _ => []
  | n + 1, re, i, [] => none :: finE n re (i + 1) []
  | n + 1, re, i, d :: env => (if re.contains i then none else d) :: finE n re (i + 1) env
def Fd.fin (f : Fd) (env : Env) : Env := finE f.np f.re 0 env
def Fd.out (f : Fd) : SRes → CRes
  | .next e => .ok .non (f.fin e)
  | .ret d e => .ok d (f.fin e)
  | .exc x e => .exc x (f.fin e)
  | _ => .bad
def Fd.run (f : Fd) (call : Nat → List D → CRes) (ds : List D) : CRes :=
  if ds.length = f.np then f.out (evSs { call := call, kp := f.kp } f.body (ds.map some ++ List.replicate (f.n - f.np) none)) else .bad
/-- the program's defs, to a depth -/
def callN (fs : List Fd) : Nat → Nat → List D → CRes
  | 0, _, _ => .bad
  | k + 1, i, ds => match fs[i]? with
    | some f => f.run (callN fs k) ds
    | none => .bad

section
variable {K : PySem.W.Frag} {H : Hp}
theorem rele_none (hT : Tabs H) : ∀ {n : Nat} {P : Own}, RelE K H (List.replicate n none) (List.replicate n none) P
  | 0, _ => ⟨rfl, hT⟩
  | n + 1, P => ⟨none, _, No, P, rfl, Sep.nl, trivial, rele_none hT⟩
theorem rele_start (hT : Tabs H) : ∀ {ds : List D} {vs : List V} {P : Own} {n : Nat}, Rels K H ds vs P → RelE K H (ds.map some ++ List.replicate n none) (vs.map some ++ List.replicate n none) P
  | [], vs, P, n, h => by
    obtain rfl : vs = [] := h
    exact rele_none hT
  | d :: ds, vs, P, n, h => by
    obtain ⟨v, vs', P1, P2, rfl, s, r, rs⟩ := h
    exact ⟨some v, _, P1, P2, rfl, s, ⟨v, rfl, r⟩, rele_start hT rs⟩
theorem fin_none (hT : Tabs H) {re : List Nat} : ∀ {vs : List V} {i : Nat} {P : Own}, RelE K H (finE vs.length re i []) (vs.map some) P
  | [], _, _ => ⟨rfl, hT⟩
  | v :: vs, i, P => ⟨some v, _, No, P, rfl, Sep.nl, trivial, fin_none hT⟩
theorem fin_rel {re : List Nat} : ∀ {vs : List V} {i : Nat} {env : Env} {σ : L2.St} {P : Own}, RelE K H env σ P → (∀ j, j < vs.length → re.contains (i + j) = false → σ[j]? = (vs.map some)[j]?) → RelE K H (finE vs.length re i env) (vs.map some) P
  | [], i, env, σ, P, h, hk => by cases env <;> exact ⟨rfl, h.tabs⟩
  | v :: vs, i, [], σ, P, h, hk => by
    simp only [List.length_cons, finE, List.map_cons]
    exact ⟨some v, _, No, P, rfl, Sep.nl, trivial, fin_none h.tabs⟩
  | v :: vs, i, od :: env, σ, P, h, hk => by
    obtain ⟨ov, σ', P1, P2, rfl, s, r, rs⟩ := h
    simp only [List.length_cons, finE, List.map_cons]
    refine ⟨some v, _, P1, P2, rfl, s, ?_, fin_rel (i := i + 1) rs (fun j hj hr => ?_)⟩
    · cases hc : re.contains i with
      | true => rw [if_pos rfl]; trivial
      | false =>
        rw [if_neg Bool.false_ne_true]
        have := hk 0 (by simp) (by simpa using hc)
        simp at this
        subst this
        exact r
    · have := hk (j + 1) (by simp; omega) (by rw [← hr]; congr 1; omega)
      simpa using this
end

theorem fd_start {P : Program} {w : World} {K : PySem.W.Frag} {rx : XR} {N ps : List Str} {call : Nat → List D → CRes} {vs : List V} {H : Hp} {Q : VK} {E : XK} (I : Fd) (hp : ps.length = I.np) (hn : N.length = I.n) (hl : vs.length = ps.length) (hsp : spF K rx (I.run call) vs H Q E) :
    tSs K rx (fun c d _ H' => E c d H') { call := call, kp := I.kp } I.body { nx := fun _ H' => Q .non H', rt := Q } (L2.start N vs) H := by
  obtain ⟨hT, ds, P1, r, h⟩ := hsp
  have hd : ds.length = I.np := by rw [r.length, hl, hp]
  unfold Fd.run at h
  rw [if_pos hd] at h
  have hst : L2.start N vs = vs.map some ++ List.replicate (I.n - I.np) none := by
    unfold L2.start
    rw [hn, hl, hp]
  refine ⟨ds.map some ++ List.replicate (I.n - I.np) none, P1, by rw [hst]; exact rele_start hT r, ?_⟩
  have fin : ∀ {σ' H' env' P2}, RelE K H' env' σ' P2 → Kp I.kp (L2.start N vs) σ' → RelE K H' (I.fin env') (vs.map some) P2 := fun {σ' H' env' P2} rE hk => by
    unfold Fd.fin
    rw [← hd, r.length]
    refine fin_rel rE (fun j hj hr => ?_)
    · have := hk j (by
        unfold Fd.kp
        rw [Nat.zero_add] at hr
        rw [hr, ← hp, ← hl]
        simpa using hj)
      rw [this, hst, List.getElem?_append_left (by simpa using hj)]
  cases q : evSs { call := call, kp := I.kp } I.body (ds.map some ++ List.replicate (I.n - I.np) none) with
  | next e =>
    rw [q] at h
    exact fun σ' H' P2 rE n ev hk => h .non H' P2 No (fin rE hk) rfl (fun _ _ z => z) n (fun _ z => z.elim) ev
  | ret d e =>
    rw [q] at h
    exact fun v σ' H' P2 P3 rE rd dj n3 n2 ev hk => h v H' P2 P3 (fin rE hk) rd dj n2 n3 ev
  | exc x e =>
    rw [q] at h
    exact fun c dd σ' H' P2 rE hx n ev hk => h c dd H' P2 (fin rE hk) hx n ev
  | brk e => rw [q] at h; exact h.elim
  | cnt e => rw [q] at h; exact h.elim
  | bad => rw [q] at h; exact h.elim

theorem fd_ok {P : Program} {w : World} {K : PySem.W.Frag} {mg : Str → Option Value} {base : Heap} {rx : XR} {x qual : Str} {params : Arguments} {body : List Stmt} {scope : Scope} {dvs : List V} {kws : List (Str × V)} {f : Addr} {fd : FuncData} {N ps : List Str} {k : Nat} {call : Nat → List D → CRes}
    (F : FunD K x qual params body scope dvs kws f fd) (S : FnScope N ps scope) (I : Fd) (hp : ps.length = I.np) (hn : N.length = I.n)
    (hb : ∀ (cdv : Value) (A : Around) (outer : List PySem.Env) (s : Shared) (H : Hp) (E : XK), Room k (A.deeper (envOfC qual scope s.heap.objs.size f cdv)) → PSs (cxOf (L2.CX P w) P w K mg base N qual scope f cdv A outer s H E) body (tSs K rx (fun c d _ H' => E c d H') { call := call, kp := I.kp } I.body)) :
    FnOk P w K mg base (L2.CX P w) (k + 1) f fd ps (spF K rx (I.run call)) := by
  have hlen : ∀ vs H Q E, spF K rx (I.run call) vs H Q E → vs.length = ps.length := fun vs H Q E ⟨_, ds, P, r, h⟩ => by
    rw [← r.length, hp]
    unfold Fd.run at h
    split at h
    · rename_i d fin q
      split at q
      · assumption
      · cases q
    · rename_i d fin q
      split at q
      · assumption
      · cases q
    · exact h.elim
  exact F.ok S hlen fun cdv A outer s H vs Q E hr hsp => ⟨_, hb cdv A outer s H E hr, fd_start (P := P) (w := w) (ps := ps) (N := N) I hp hn (hlen _ _ _ _ hsp) hsp⟩
end Z

namespace Z
open PySem PySem.Spec L2
variable [TabList]

/-! ### names, checked at once -/
def visB (sc : Scope) (x : Str) : Bool := match sc.names.lookup x with
  | some .local => true
  | some .cell => true
  | some .free => true
  | _ => false
theorem vis_by {sc : Scope} {x : Str} (h : visB sc x = true) : Vis sc x := by
  unfold visB at h
  unfold Vis
  split at h
  · exact .inl (by assumption)
  · exact .inr (.inl (by assumption))
  · exact .inr (.inr (by assumption))
  · cases h
def locB (sc : Scope) (x : Str) : Bool := match sc.names.lookup x with
  | some .local => true
  | some .cell => true
  | _ => false
theorem loc_by {sc : Scope} {x : Str} (h : locB sc x = true) : L2.Loc sc x := by
  unfold locB at h
  unfold L2.Loc
  split at h
  · exact .inl (by assumption)
  · exact .inr (by assumption)
  · cases h

/-! ### freezing a value just made -/
section
variable {X : Cx} {rx : XR} {W : WX} {C : Ctx} {e : E} {ee : Expr} {pos : Pos}
theorem s_fze (he : PE X ee (tE X.K rx W C e)) : PE X ee (tE X.K rx W C (.fze e)) := by
  refine ⟨fun pins s σ H Q I ⟨env, P, hE, h⟩ => ?_⟩
  refine thn (he.run pins s σ H (fun v H1 => ∀ s1, Inv X pins σ H1 s1 → ∃ H2, Inv X pins σ H2 s1 ∧ Q v H2) I ⟨env, P, hE, ?_⟩) fun v s1 ⟨x, H1, I1, r1, q⟩ => by
    obtain ⟨H2, I2, q⟩ := q s1 I1
    exact ⟨x, H2, I2, r1, q⟩
  simp only [evE] at h
  cases q : evE C e env with
  | bad => rw [q] at h; exact h.elim
  | exc x e1 => rw [q] at h; exact h
  | ok d e1 =>
    rw [q] at h
    simp only [Res.bind] at h
    intro v H1 P1 P2 r rd hd hn ev s1 I1
    split at h
    · exact h.elim
    rename_i hc
    cases hp : e.pth with
    | true =>
      have hi : imm d = true := by simpa [hp] using hc
      rw [fz_of_imm d hi] at h
      exact ⟨H1, I1, h v H1 P1 No r (Rel.imm hi rd) (fun _ => ⟨fun _ _ z => z, fun _ z => z.elim⟩) hn ev⟩
    | false =>
      obtain ⟨H2, I2, r2, ev2⟩ := freeze I1 rd
      exact ⟨H2, I2, h v H2 P1 No (r.frame ev2 (hd hp).1) r2 (fun _ => ⟨fun _ _ z => z, fun _ z => z.elim⟩) hn (ev.trans ev2 (hd hp).2)⟩
theorem kit_isi (a b : Ty) : kitB a.nm b.nm = some (isiT a b) := by
  cases a <;> cases b <;> decide +kernel
end
section
variable {K : PySem.W.Frag} {H : Hp}
theorem tyX_of {d : D} {v : V} {P : Own} {t : Ty} (r : Rel K H d v P) (h : tyD d = some t) : TyX K H v (.type t.nm) := by
  cases d
  case non => cases h; obtain rfl : v = .non := r; exact .base .non
  case bl => cases h; obtain rfl : v = .bl _ := r; exact .base (.bl _)
  case int => cases h; obtain rfl : v = .int _ := r; exact .base (.int _)
  case str => cases h; obtain rfl : v = .str _ := r; exact .base (.str _)
  case tup =>
    cases h
    obtain ⟨a, vs, rfl, s, _⟩ := r
    rcases s with (s | ⟨o, s⟩) | ⟨o, its, n, s, c, _⟩
    · exact .base (.tup s)
    · exact .fTuple s
    · exact .kTuple s c
  case lst m ds =>
    cases h
    obtain ⟨a, vs, Q, rfl, s, _⟩ := r
    cases m with
    | true => exact .base (.lst s.1)
    | false => obtain ⟨o, s⟩ := s.1; exact .base (.frz s)
  case scr =>
    cases h
    obtain ⟨a, rfl, s⟩ := r
    rcases s with ⟨o, s⟩ | ⟨o, its, n, s, c, _⟩
    · exact .base (.frz s)
    · exact .kList s c
  case dic m ks ds =>
    cases h
    obtain ⟨a, vs, Q, rfl, s, _⟩ := r
    cases m with
    | true => exact .base (.dK s.1)
    | false => obtain ⟨o, s⟩ := s.1; exact .fDict s
  case dit m ks ds =>
    cases m with
    | true => cases h; obtain ⟨a, vs, Q, rfl, s, _⟩ := r; exact .base (.dT s.1)
    | false => cases h
  case set => cases h
end
section
variable {X : Cx} {rx : XR} {W : WX} {C : Ctx} {a : E} {ea : Expr} {pos p p2 : Pos}
theorem boot_isi : bootBuiltins ("isinstance" : Str) = some (.builtin "isinstance") := by rfl
theorem s_isi (t : Ty) {y : Str} (hg : Gl X "isinstance") (hm : X.mg "isinstance" = none) (ha : PE X ea (tE X.K rx W C a)) (hgy : Gl X y) (hmy : X.mg y = none) (hy : bootBuiltins y = some (.type t.nm)) (hn : y ≠ "__name__") (hd : (y == ("__debug__" : Str)) = false)
    (hs : starEach [ea, .Name y p2] X.env = (false, eval ea X.env) :: starEach [.Name y p2] X.env) (hs2 : starEach [.Name y p2] X.env = (false, eval (.Name y p2) X.env) :: starEach [] X.env) (hpl : (backTo pos (starEach [.Name y p2] X.env)).any (·.1) = false) :
    PE X (.Call (.Name "isinstance" p) [ea, .Name y p2] [] pos) (tE X.K rx W C (.ap (.isi t) (.cons a .nil))) :=
  PE.of fun σ H Q h => by
    refine ⟨_, pe_callB call_isi hg hm boot_isi (pa_cons ha (pa_cons (pe_bltn hgy hmy hy (v := .ty t.nm) rfl hn hd) pa_nil hs2) hs) (by decide) (by decide) hs hpl, ?_⟩
    refine tE_mono (ap_one h) fun x H1 ⟨d, r, P2, rd, hp, hf⟩ => ?_
    simp only [PF.ap, Option.map_eq_some_iff] at hp
    obtain ⟨n, hn, rfl⟩ := hp
    exact ⟨x, .ty t.nm, .type n.nm, .type t.nm, isiT n t, rfl, .ty _, tyX_of rd hn, kit_ty (kit_isi n t), hf.bl⟩
end
end Z

namespace Z
open PySem PySem.Spec L2
variable [TabList]

section
variable {K : PySem.W.Frag} {rx : XR} {W : WX} {C : Ctx} {σ : L2.St} {H : Hp} {Q : VK}
theorem ap_three {p : PF} {a b c : E} (h : tE K rx W C (.ap p (.cons a (.cons b (.cons c .nil)))) σ H Q) : tE K rx W C a σ H fun x H1 => tE K rx W C b σ H1 fun y H2 => tE K rx W C c σ H2 fun z H3 => ∃ d e f r P2 P4 P6, Rel K H3 d x P2 ∧ Rel K H3 e y P4 ∧ Rel K H3 f z P6 ∧ p.ap [d, e, f] = some r ∧ Fin K r H3 Q := by
  refine tE_mono (b_cons (ap_b h)) fun x H1 h1 => tE_mono (b_cons h1) fun y H2 h2 => tE_mono (b_cons h2) fun z H3 h3 => ?_
  obtain ⟨ds, r, rb, ha, hf⟩ := b_nil h3
  rcases ds with _ | ⟨d, _ | ⟨e, _ | ⟨f, _ | ⟨g, ds⟩⟩⟩⟩
  · cases (show [x, y, z] = [] from rb)
  · obtain ⟨v, vs', P2, e1, r1, rb⟩ := rb
    obtain ⟨rfl, rfl⟩ := List.cons.inj e1
    cases (show [y, z] = [] from rb)
  · obtain ⟨v, vs', P2, e1, r1, rb⟩ := rb
    obtain ⟨rfl, rfl⟩ := List.cons.inj e1
    obtain ⟨v, vs', P4, e2, r2, rb⟩ := rb
    obtain ⟨rfl, rfl⟩ := List.cons.inj e2
    cases (show [z] = [] from rb)
  · obtain ⟨v, vs', P2, e1, r1, rb⟩ := rb
    obtain ⟨rfl, rfl⟩ := List.cons.inj e1
    obtain ⟨v, vs', P4, e2, r2, rb⟩ := rb
    obtain ⟨rfl, rfl⟩ := List.cons.inj e2
    obtain ⟨v, vs', P6, e3, r3, rb⟩ := rb
    obtain ⟨rfl, rfl⟩ := List.cons.inj e3
    exact ⟨d, e, f, r, P2, P4, P6, r1, r2, r3, ha, hf⟩
  · obtain ⟨v, vs', P2, e1, r1, rb⟩ := rb
    obtain ⟨rfl, rfl⟩ := List.cons.inj e1
    obtain ⟨v, vs', P4, e2, r2, rb⟩ := rb
    obtain ⟨rfl, rfl⟩ := List.cons.inj e2
    obtain ⟨v, vs', P6, e3, r3, rb⟩ := rb
    obtain ⟨rfl, rfl⟩ := List.cons.inj e3
    obtain ⟨v, vs', P8, e4, _⟩ := rb
    cases e4
end
section
variable {X : Cx} {rx : XR} {W : WX} {C : Ctx} {a b c : E} {ea eb ec : Expr} {pos p2 : Pos}
theorem s_cut0 (ha : PE X ea (tE X.K rx W C a)) : PE X (.Subscript ea (.Slice none none none p2) pos) (tE X.K rx W C (.ap (.slc false false) (.cons a .nil))) :=
  PE.of fun σ H Q h => ⟨_, pe_slice sl_cut ha po_none po_none, tE_mono (ap_one h) fun x H1 ⟨d, r, P2, rd, hp, hf⟩ => ⟨d, r, P2, rd, hp, hf⟩⟩
theorem s_cutL (ha : PE X ea (tE X.K rx W C a)) (hb : PE X eb (tE X.K rx W C b)) : PE X (.Subscript ea (.Slice (some eb) none none p2) pos) (tE X.K rx W C (.ap (.slc true false) (.cons a (.cons b .nil)))) :=
  PE.of fun σ H Q h => ⟨_, pe_slice sl_cut ha (po_some hb) po_none, tE_mono (ap_two h) fun x H1 h1 => tE_mono h1 fun y H2 ⟨d, e, r, P2, P4, rd, re, hp, hf⟩ => by
    cases e <;> simp only [PF.ap, reduceCtorEq] at hp
    obtain rfl : y = .int _ := re
    exact ⟨_, rfl, d, r, P2, rd, hp, hf⟩⟩
theorem s_cutH (ha : PE X ea (tE X.K rx W C a)) (hb : PE X eb (tE X.K rx W C b)) : PE X (.Subscript ea (.Slice none (some eb) none p2) pos) (tE X.K rx W C (.ap (.slc false true) (.cons a (.cons b .nil)))) :=
  PE.of fun σ H Q h => ⟨_, pe_slice sl_cut ha po_none (po_some hb), tE_mono (ap_two h) fun x H1 h1 => tE_mono h1 fun y H2 ⟨d, e, r, P2, P4, rd, re, hp, hf⟩ => by
    cases e <;> simp only [PF.ap, reduceCtorEq] at hp
    obtain rfl : y = .int _ := re
    exact ⟨_, rfl, d, r, P2, rd, hp, hf⟩⟩
end
end Z

namespace Z
open PySem PySem.Spec L2
open PyProof.Rows (envOfC)
variable [TabList]

def fnlB (X : Cx) (x : Str) : Bool := X.fn x || (match X.env.scope.names.lookup x with | some .local => true | _ => false)
theorem fnl_by {X : Cx} {x : Str} (h : fnlB X x = true) : X.fn x = true ∨ X.env.scope.names.lookup x = some .local := by
  unfold fnlB at h
  rcases Bool.or_eq_true _ _ ▸ h with h | h
  · exact .inl h
  · right
    split at h
    · assumption
    · cases h
section
variable {P : Program} {w : World} {K : PySem.W.Frag} {mg : Str → Option Value} {base : Heap} {N : List Str} {qual : Str} {scope : Scope} {f : Addr} {cd : Value} {A : Around} {outer : List PySem.Env} {s : Shared} {H : Hp} {E : XK}
theorem takes_cx : Takes (cxOf (L2.CX P w) P w K mg base N qual scope f cd A outer s H E) (fun cls d _ H' => E cls d H') := takes_of rfl rfl rfl rfl
theorem owns_cx : PassesOwn (model P w) (cxOf (L2.CX P w) P w K mg base N qual scope f cd A outer s H E).A (cxOf (L2.CX P w) P w K mg base N qual scope f cd A outer s H E).env (cxOf (L2.CX P w) P w K mg base N qual scope f cd A outer s H E).xe :=
  passes_of (X := cxOf (L2.CX P w) P w K mg base N qual scope f cd A outer s H E) (K := fun e s'' => L2.CX P w outer H s E e s'') (E₁ := fun e s'' => L2.CX P w outer H s E e s'') rfl
end
/-- a def of the program, at a level -/
def FnG (P : Program) (w : World) (K : PySem.W.Frag) (mg : Str → Option Value) (base : Heap) (rx : XR) (k : Nat) (x : Str) (sem : List D → CRes) : Prop :=
  ∃ f fd ps, FnOk P w K mg base (L2.CX P w) k f fd ps (spF K rx sem) ∧ mg x = some (.ref f) ∧ PySem.W.keepIn K (.ref f) = true ∧ L2.Binds K fd ps []
section
variable {X : Cx} {rx : XR} {W : WX} {C : Ctx} {a b : E} {ea eb : Expr} {pos p2 : Pos} {rest : List Expr}
theorem s_and1 (ha : PE X ea (tE X.K rx W C a)) : PE X (.BoolOp .And [ea] pos) (tE X.K rx W C a) := pe_one ha
theorem s_or1 (ha : PE X ea (tE X.K rx W C a)) : PE X (.BoolOp .Or [ea] pos) (tE X.K rx W C a) := pe_one ha
theorem w_and1 (ha : PT X ea (tT X.K rx W C a)) : PW X (.BoolOp .And [ea] pos) (tT X.K rx W C a) := pw_and1 ha
theorem w_or1 (ha : PT X ea (tT X.K rx W C a)) : PW X (.BoolOp .Or [ea] pos) (tT X.K rx W C a) := pw_or1 ha
theorem s_dic0 : PE X (.Dict [] [] pos) (tE X.K rx W C (.dic .nil)) :=
  PE.of fun σ H Q ⟨env, P, hE, h⟩ => ⟨_, pe_dnewK, fun p hp => by
    have evp : Ev (eO true P) H (upd H p (.dK [])) := Ev.laid hp
    have evn : Ev No H (upd H p (.dK [])) := Ev.laid hp
    refine h (.ref p) _ (Tt H P) (fun a => a = p) (hE.tight.ev evn) ⟨p, [], No, rfl, ⟨upd_same, rfl, fun _ z => z.elim⟩, ⟨rfl, List.nodup_nil⟩, rfl⟩ (fun _ => ⟨fun a z y => z.2 (by rw [y]; exact hp), fun a z => .inr (by rw [z]; exact hp)⟩) (fun a z => .inl z.1) evp⟩
end
theorem slot_append : Slot "list" "append" (mmId .append) := PySem.F.slot_list_append
theorem slot_pop : Slot "list" "pop" (mmId .pop) := PySem.F.slot_list_pop
theorem slot_extend : Slot "list" "extend" (mmId .extend) := PySem.F.slot_list_extend
theorem slot_clear : Slot "list" "clear" (mmId .clear) := PySem.F.slot_list_clear
end Z

namespace PySem
open Sem (wp)
theorem meets_enum1 {v : Value} {o : Obj} {H : Heap → Prop} (B : Begins v o H) :
    Meets (Builtin.«enumerate.__new__» ⟨[.type "enumerate", v], []⟩) (fun _ R s => H s.heap ∧
      R (.ok (.ret (.ref (s.heap.push o).objs.size))) { s with heap := (s.heap.push o).push { cls := .type "enumerate", data := .fields #[.none, .bool false, .ref s.heap.objs.size, rawInt 0, .none, .none] } }) :=
  .of_wp fun prog w A R s h => by
    obtain ⟨hp, g, d, tk, os⟩ := s; obtain ⟨h1, h⟩ := h
    have hsub := sub_enumerate
    have q1 : ∀ {A' : Around} {E : Value → Shared → Prop} {Q : Value → Shared → Prop}, Q (.ref hp.objs.size) ⟨hp.push o, g, d, tk, os⟩ → wpAny (model prog w) A' (pyIter v) Q E ⟨hp, g, d, tk, os⟩ :=
      fun q => B.iter prog w _ _ ⟨hp, g, d, tk, os⟩ _ h1 q
    wp_walk using q1
    refine wpAny_stack_any fun st => wpAny_pure ?_
    split
    · rename_i c _ _ _ _ _
      cases (c == Value.type "enumerate")
      · wp_walk using q1
        exact ⟨_, rfl, h⟩
      · wp_walk using q1
        exact ⟨_, rfl, h⟩
    · wp_walk using q1
      exact ⟨_, rfl, h⟩
section
variable {prog : Program} {w : World} {A : Around} {E : Value → Shared → Prop} {s : Shared}
theorem enum_begins1 {v : Value} {o : Obj} {H : Heap → Prop} {Q : Value → Shared → Prop} (B : Begins v o H) (h1 : H s.heap)
    (h : ∀ h', IsEnum h' (s.heap.objs.size + 1) s.heap.objs.size 0 .none → h'.get? s.heap.objs.size = some o → h'.objs.size = s.heap.objs.size + 2 →
      (∀ b o, s.heap.get? b = some o → h'.get? b = some o) → Q (.ref (s.heap.objs.size + 1)) { s with heap := h' }) :
    wpAny (model prog w) A (call (.type "enumerate") [v]) Q E s := by
  refine callType_new F.called_enumerate (by decide) (F.typeCall_enumerate_1 _) (F.newCall_enumerate_1 _) (fun obj => F.args_object_init_2 obj _) F.entry_enumerate_new
    (meets_enum1 B) ⟨h1, ?_⟩
  have hz : (s.heap.push o).objs.size = s.heap.objs.size + 1 := Heap.size_push ..
  show _ ∧ _
  show _ ∧ _
  rw [hz]
  have he : IsEnum ((s.heap.push o).push { cls := .type "enumerate", data := .fields #[.none, .bool false, .ref s.heap.objs.size, rawInt 0, .none, .none] }) (s.heap.objs.size + 1) s.heap.objs.size 0 .none := by
    have := Heap.get?_push_size (s.heap.push o) (o := { cls := .type "enumerate", data := .fields #[.none, .bool false, .ref s.heap.objs.size, rawInt 0, .none, .none] }) rfl
    rw [hz] at this; exact this
  refine ⟨⟨_, he, rfl⟩, h _ he (Heap.get?_push_of_some _ (Heap.get?_push_size _ B.free)) (by rw [Heap.size_push, hz]) fun b o x => Heap.get?_push_of_some _ (Heap.get?_push_of_some _ x)⟩
theorem enum_endT {e it a : Addr} {items : Array Value} {i : Nat} {c : Int} {old : Value} {Q : Option Value → Shared → Prop} (hh : A.handled = none)
    (he : IsEnum s.heap e it c old) (hit : s.heap.IsTupleIter it a i) (ht : s.heap.IsTuple a items) (hx : items[i]? = none)
    (hQ : ∀ h', Heap.ExtBut it s.heap h' → Q none { s with heap := h' }) : wpAny (model prog w) A (pyNext (.ref e)) Q E s := by
  have hT : s.TypeIs (.ref e) "enumerate" := ⟨_, he, rfl⟩
  unfold pyNext
  refine wpAny_bind (wpAny_attempt (wpAny_callSpecial?_slot (name := Str.ofString "__next__") hT F.slot_enumerate_next
    (wpAny_call_entry F.slot_enumerate_next hT F.entry_enumerate_next ?_ (F.args_enumerate_next_1 _))))
  show wpAny _ _ (field (.ref e) 2 >>= _) _ _ _
  refine wpAny_bind (wpAny_field he rfl (x := .ref it) rfl ?_)
  refine wpAny_bind (wpAny_nextOf_tuple_end hh hit ht hx fun h' x he' hx' => ?_)
  obtain ⟨o, ho, hc⟩ := hx'
  refine wpAny_bind (wpAny_isInstance (T := "StopIteration") (b := true) ⟨o, ho, hc⟩ isSubtype_stop ?_)
  exact wpAny_pure (hQ _ he')
end
end PySem
namespace Z
open PySem PySem.Spec L2
variable [TabList]
/-- a tuple's things, each with its number, in new pairs -/
def IteT (K : PySem.W.Frag) (a : Addr) : L2.It :=
  ⟨fun i H => ∃ (xs : List V) (x : V), SqT K H a xs ∧ xs[i]? = some x, fun i H v H' => ∃ T x, v = .ref T ∧ H T = none ∧ H' = upd H T (.tup [.int (i : Nat), x]) ∧ ∀ xs, SqT K H a xs → xs[i]? = some x, fun i H => ∃ xs : List V, SqT K H a xs ∧ xs.length ≤ i⟩
theorem turn_enumT {P : Program} {w : World} {K : PySem.W.Frag} {elts : List Expr} {kk : Nat} {tpos : Pos} (a e it : Addr) :
    Turn P w K (.Tuple elts kk tpos) (IteT K a) [e, it] e (fun i h => (∃ old, IsEnum h e it ((i : Nat) : Int) old) ∧ h.IsTupleIter it a i ∧ e ≠ it) where
  mem := by simp
  obj := fun i h st b hb => by
    obtain ⟨⟨old, he⟩, ⟨o, ho, hc, hd⟩, _⟩ := st
    have e' : b = e ∨ b = it := by simpa using hb
    rcases e' with z | z
    · rw [z]; exact ⟨_, he, fun v q => nomatch q⟩
    · rw [z]; exact ⟨o, ho, fun v q => by rw [hd] at q; cases q⟩
  keep := fun i h h' st k => let ⟨⟨old, he⟩, hi, hne⟩ := st; ⟨⟨old, k e (by simp) _ he⟩, hi.at fun o q => k it (by simp) o q, hne⟩
  item := by
    intro X hP hw hK hc i pins s σ H E I hf st hg
    subst hP hw hK
    obtain ⟨⟨old, he⟩, hit, hne⟩ := st
    obtain ⟨xs, x, hq, hx⟩ := hg
    obtain ⟨its, rv, p, hz⟩ := I.tuple hq
    obtain ⟨u, hu, ru⟩ := rv.get hx
    have hel : e < s.heap.objs.size := Heap.lt_size he
    have hil : it < s.heap.objs.size := by obtain ⟨_, q, _⟩ := hit; exact Heap.lt_size q
    have ht : s.heap.IsTuple a its.toArray := p
    have nit : a ≠ it := fun z => by
      obtain ⟨o1, q1, c1, _⟩ := hit
      obtain ⟨o2, q2, c2, _⟩ := ht
      rw [z, q1] at q2
      cases q2
      rw [c1] at c2
      exact absurd (Value.type.inj c2) (by decide)
    have nae : a ≠ e := fun z => by
      obtain ⟨o2, q2, c2, _⟩ := ht
      rw [z] at q2
      have q3 := he
      unfold IsEnum at q3
      rw [q3] at q2
      cases q2
      exact absurd (Value.type.inj c2) (by decide)
    have D := Draws.tuple (prog := X.prog) (w := X.w) (A := X.A.in1) (I.ok.hd hc) it a nit its.toArray
    have hlt : i < its.toArray.size := by
      have := (List.getElem?_eq_some_iff.mp hu).1
      simpa using this
    refine wpAny_pyNext_enum_itemD D he ⟨hit, ht⟩ hlt hne (by simp [hne, Ne.symm nae]) fun y h' tk hy ho hst' hT hsz hk => ?_
    have ey : y = u := by
      have h1 : its.toArray[i]? = some y := hy
      rw [List.getElem?_toArray, hu] at h1
      cases h1; rfl
    subst ey
    refine ⟨_, rfl, wpAny_letOwnedTupleGo_enum (s := { s with heap := h', toks := tk + 1 }) ho fun h'' he' sb => ?_⟩
    have hT2 : h''.get? s.heap.objs.size = some { cls := .type "tuple", data := .seq #[.int i tk, y] } := (sb.2 _ (Nat.ne_of_gt hel)).trans hT
    have new : ObjOk X.prog X.w (upd H s.heap.objs.size (.tup [.int (i : Nat), x])) h'' s.heap.objs.size (.tup [.int (i : Nat), x]) :=
      ⟨by show 2 ≤ sizeLine; decide, [.int i tk, y], .cons ⟨_, rfl⟩ (.cons ru .nil), ⟨_, hT2, rfl, _, rfl⟩⟩
    have I1 : Inv X pins σ (upd H s.heap.objs.size (.tup [.int (i : Nat), x])) { s with heap := h'', toks := tk + 1 } :=
      I.turnedNew (ch := [e, it]) (fun b ob hb q => (sb.2 b (fun z => hb (by simp [z]))).trans (hk b ob (fun z => hb (by simp [z])) (fun z => hb (by simp [z])) q)) hf (Nat.le_refl _) new
    refine ⟨.ref s.heap.objs.size, _, I1, rfl, ⟨_, x, rfl, I.hok.fresh (Nat.le_refl _), rfl, fun ys hy => by rw [I.tuple_inj hy hq]; exact hx⟩, ⟨⟨y, ?_⟩, hst'.1.at fun o q => (sb.2 it (Ne.symm hne)).trans q, hne⟩, fun b hb => ?_⟩
    · have e1 : ((i + 1 : Nat) : Int) = (i : Int) + 1 := by omega
      rw [e1]; exact he'
    · have hb' : b < s.heap.objs.size := by
        have e' : b = e ∨ b = it := by simpa using hb
        rcases e' with z | z
        · rw [z]; exact hel
        · rw [z]; exact hil
      rw [upd_ne (Nat.ne_of_lt hb')]
      exact (hf b hb).1
  done := by
    intro X hP hw hK hc i pins s σ H E I hf st hg
    subst hP hw hK
    obtain ⟨⟨old, he⟩, hit, hne⟩ := st
    obtain ⟨xs, hq, hx⟩ := hg
    obtain ⟨its, rv, p, hz⟩ := I.tuple hq
    obtain ⟨f0, f1, f2, f3, f4, f5⟩ := hf it (by simp)
    have hl := rv.length
    exact enum_endT (I.ok.hd hc) he hit (show s.heap.IsTuple a its.toArray from p) (by simp; omega) fun h' eb => ⟨rfl, I.turned (t' := s.toks) (fun b o hb q => eb b o hb q) f0 f1 f3 f4 f5⟩
  self := fun A i s Q E st h => let ⟨⟨_, he⟩, _⟩ := st; wpAny_pyIter_enum he h
def iEnumT (K : PySem.W.Frag) (ta : TA) : TI := fun σ H R => ta σ H fun vs H1 => ∃ a xs, vs = [.ref a] ∧ SqT K H1 a xs ∧ R (IteT K a) H1
theorem pi_enumT {X : Cx} {e : Expr} {ta : TA} {p pos tpos : Pos} {elts : List Expr} {kk : Nat} (hg : Gl X "enumerate") (hm : X.mg "enumerate" = none) (ha : PA X [e] ta) (hs : starEach [e] X.env = [(false, eval e X.env)]) :
    PI X (.Tuple elts kk tpos) (.Call (.Name "enumerate" p) [e] [] pos) (iEnumT X.K ta) := by
  refine ⟨fun pins s σ H R I h => ?_⟩
  refine PyProof.Rows.Call_ (ld_blt I hg hm PyProof.Rows.boot_enumerate (PyProof.Rows.callWith_type1 (thn (ha.run pos pins s σ H _ I h) fun us s1 ⟨vs, H1, I1, r1, q1⟩ => ?_) hs rfl))
  obtain ⟨a, xs, ex, hq, q⟩ := q1
  subst ex
  cases r1 with
  | cons r rr =>
    cases rr
    cases r
    obtain ⟨its, rv, p', hz⟩ := I1.tuple hq
    refine enum_begins1 (begins_tuple a its.toArray) p' fun h' he hit hsz hk => wpAny_pyIter_enum he ?_
    have I2 : Inv X pins σ H1 { s1 with heap := h' } := I1.kept (t' := s1.toks) hk
    refine ⟨s1.heap.objs.size + 1, [s1.heap.objs.size + 1, s1.heap.objs.size], _, _, H1, rfl, I2, turn_enumT a (s1.heap.objs.size + 1) s1.heap.objs.size, ⟨⟨.none, he⟩, ⟨_, hit, rfl, rfl⟩, Nat.succ_ne_self _⟩, fun b hb => ?_, q⟩
    have e' : b = s1.heap.objs.size + 1 ∨ b = s1.heap.objs.size := by simpa using hb
    have hle : s1.heap.objs.size ≤ b := by
      rcases e' with z | z
      · rw [z]; exact Nat.le_add_right _ _
      · rw [z]; exact Nat.le_refl _
    exact I1.fpOk hle (I1.hok.fresh hle)
section
variable {K : PySem.W.Frag} {ds : List D} {P P2 : Own} {H : Hp} {a : Addr} {vs : List V}
theorem enumD_get {ds : List D} {i : Nat} {d : D} (h : (enumD ds 0)[i]? = some d) : ∃ d', ds[i]? = some d' ∧ d = .tup [.int (i : Int), d'] := by
  simp only [enumD, List.getElem?_mapIdx, Option.map_eq_some_iff, Nat.zero_add] at h
  obtain ⟨d', h1, rfl⟩ := h
  exact ⟨d', h1, rfl⟩
/-- the new pair -/
theorem pair_rel {H3 : Hp} {i : Nat} {x : V} {d : D} {T : Addr} (hT : H3 T = none) (r : Rel K H3 d x No) : Ev No H3 (upd H3 T (.tup [.int (i : Nat), x])) ∧ Rel K (upd H3 T (.tup [.int (i : Nat), x])) (.tup [.int (i : Int), d]) (.ref T) No := by
  have ev : Ev No H3 (upd H3 T (.tup [.int (i : Nat), x])) := Ev.laid hT
  exact ⟨ev, T, _, rfl, .inl (.inl upd_same), Rels.cons Sep.nl (show Rel K _ (.int _) (.int _) No from rfl) (Rels.cons Sep.nl (r.ev ev) (show Rels K _ [] [] No from rfl))⟩
theorem walk_enumT {v : V} (r : Rel K H (.tup ds) v P2) (hi : imms ds = true) : ∃ a xs, [v] = [.ref a] ∧ SqT K H a xs ∧ Walk K (IteT K a) (enumD ds 0) P H := by
  obtain ⟨a, vs, rfl, h, rs⟩ := r
  have rs := rs.imm hi
  refine ⟨a, vs, rfl, h, fun H2 ev => ⟨fun i hl => ⟨vs, sqT_frame h ev, by rw [← rs.length]; simpa [enumD] using hl⟩, fun i d hd => ?_⟩⟩
  obtain ⟨d', hd2, rfl⟩ := enumD_get hd
  obtain ⟨x, P1, e1, _, r1⟩ := rs.get hd2
  refine ⟨⟨vs, x, sqT_frame h ev, e1⟩, fun y H3 hy => ?_⟩
  obtain ⟨T, y, rfl, hT, rfl, hy⟩ := hy
  have e2 := hy vs (sqT_frame h ev)
  rw [e1] at e2; cases e2
  exact pair_rel hT ((Rel.imm (imms_of_get hi hd2) r1).frame ev fun _ z => z.elim)
theorem walk_enumL {m : Bool} {v : V} (r : Rel K H (.lst m ds) v P2) (hi : imms ds = true) (hm : m = true → ∀ a, P2 a → ¬ P a) : ∃ a xs, [v] = [.ref a] ∧ SqL K H a xs ∧ Walk K (Ite K a) (enumD ds 0) P H := by
  obtain ⟨a, vs, Q, rfl, h, rs⟩ := r
  have rs := rs.imm hi
  have hs : ∀ H2, Ev P H H2 → H2 a = some (.lst vs) ∨ ∃ o, H2 a = some (.frz o (.lst vs)) := fun H2 ev => by
    cases m with
    | true => exact .inl (ev.keep a _ h.1 (fun _ z => nomatch z) fun z => (hm rfl a h.2.1 z).elim)
    | false => exact .inr (h.1.imp fun o z => ev.keep a _ z (fun _ z => nomatch z) fun _ m => m)
  refine ⟨a, vs, rfl, .inl h.rd, fun H2 ev => ⟨fun i hl => ⟨vs, .inl (hs H2 ev), by rw [← rs.length]; simpa [enumD] using hl⟩, fun i d hd => ?_⟩⟩
  obtain ⟨d', hd2, rfl⟩ := enumD_get hd
  obtain ⟨x, P1, e1, _, r1⟩ := rs.get hd2
  refine ⟨⟨vs, x, .inl (hs H2 ev), e1⟩, fun y H3 hy => ?_⟩
  obtain ⟨T, y, rfl, hT, rfl, hy⟩ := hy
  have e2 := hy vs (.inl (hs H2 ev))
  rw [e1] at e2; cases e2
  exact pair_rel hT ((Rel.imm (imms_of_get hi hd2) r1).frame ev fun _ z => z.elim)
theorem walk_enumS {ns : List Int} {v : V} (r : Rel K H (.scr ns) v P2) : ∃ a xs, [v] = [.ref a] ∧ SqL K H a xs ∧ Walk K (Ite K a) (enumD (ns.map .int) 0) P H := by
  obtain ⟨a, rfl, h⟩ := r
  have hs : ∀ H2, Ev P H H2 → Scr K H2 a ns := fun H2 ev => h.imp (fun ⟨o, z⟩ => ⟨o, ev.keep a _ z (fun _ q => nomatch q) fun _ m => m⟩) id
  refine ⟨a, _, rfl, h.sq, fun H2 ev => ⟨fun i hl => ⟨_, (hs H2 ev).sq, by simpa [enumD] using hl⟩, fun i d hd => ?_⟩⟩
  obtain ⟨d', hd2, rfl⟩ := enumD_get hd
  simp only [List.getElem?_map, Option.map_eq_some_iff] at hd2
  obtain ⟨n, hn, rfl⟩ := hd2
  have e1 : (ns.map V.int)[i]? = some (.int n) := by rw [List.getElem?_map, hn]; rfl
  refine ⟨⟨_, _, (hs H2 ev).sq, e1⟩, fun y H3 hy => ?_⟩
  obtain ⟨T, y, rfl, hT, rfl, hy⟩ := hy
  have e2 := hy _ (hs H2 ev).sq
  rw [e1] at e2; cases e2
  exact pair_rel hT rfl
end
section
variable {X : Cx} {rx : XR} {W : WX} {C : Ctx} {a : E} {ea : Expr} {p pos tpos : Pos} {elts : List Expr} {kk : Nat} {pur : Bool}
theorem i_enum (hg : Gl X "enumerate") (hm : X.mg "enumerate" = none) (ha : PE X ea (tE X.K rx W C a)) (hs : starEach [ea] X.env = [(false, eval ea X.env)]) : PI X (.Tuple elts kk tpos) (.Call (.Name "enumerate" p) [ea] [] pos) (tI X.K rx W C pur (.enum a)) :=
  PI.of fun σ H R ⟨env, P, hE, h⟩ => by
    have hs2 : starEach [ea] X.env = (false, eval ea X.env) :: starEach [] X.env := hs
    have hpa := pa_cons ha pa_nil hs2
    simp only [evI] at h
    cases q : evE C a env with
    | bad => rw [q] at h; exact h.elim
    | exc x e1 =>
      rw [q] at h
      exact ⟨_, pi_enum hg hm hpa hs, env, P, hE, by rw [q]; exact h⟩
    | ok d e1 =>
      rw [q] at h
      simp only [Res.bind] at h
      cases d <;> simp only [enumOf] at h
      case lst m ds =>
        refine ⟨_, pi_enum hg hm hpa hs, env, P, hE, ?_⟩
        rw [q]
        intro v H1 P1 P2 r rd hd hn ev
        by_cases hc : imms ds = true ∧ (m = true → (a.pth && !pur) = false)
        · rw [if_pos hc] at h
          obtain ⟨b, xs, e, hs, w⟩ := walk_enumL (P := eO pur P1) rd hc.1 fun z a y1 y2 => (hd (by have := hc.2 z; rw [y2.1] at this; simpa using this)).1 a y2.2 y1
          exact ⟨b, xs, e, hs, h _ H1 P1 r w hn ev.eo⟩
        · rw [if_neg hc] at h; exact h.elim
      case scr ns =>
        refine ⟨_, pi_enum hg hm hpa hs, env, P, hE, ?_⟩
        rw [q]
        intro v H1 P1 P2 r rd hd hn ev
        obtain ⟨b, xs, e, hs, w⟩ := walk_enumS (P := eO pur P1) rd
        exact ⟨b, xs, e, hs, h _ H1 P1 r w hn ev.eo⟩
      case tup ds =>
        refine ⟨_, pi_enumT hg hm hpa hs, env, P, hE, ?_⟩
        rw [q]
        intro v H1 P1 P2 r rd hd hn ev
        by_cases hc : imms ds = true
        · rw [if_pos hc] at h
          obtain ⟨b, xs, e, hs, w⟩ := walk_enumT (P := eO pur P1) rd hc
          exact ⟨b, xs, e, hs, h _ H1 P1 r w hn ev.eo⟩
        · rw [if_neg hc] at h; exact h.elim
      all_goals exact h.elim
end
end Z

namespace Z
open PySem PySem.Spec L2
variable [TabList]
section
variable {X : Cx} {rx : XR} {W : WX} {C : Ctx}
theorem q_setLcF {i : Nat} {y : Str} {py : Pos} {elt tg iter : Expr} {ifs : List Expr} {scope : Scope} {own : List (Str × Nat)} {pos spos : Pos} {t : Tg} {it : It} {is : Es} {e : E} (hc : X.calm = true) (hN : X.N.Nodup) (hy : X.N[i]? = some y) (hyl : X.env.scope.names.lookup y = some .local) (hk : X.env.scope.kind = .function) (hl : (py.line == pos.line) = true)
    (hna : (scope.names.any fun (n, k) => n == y && (k == .local || k == .cell)) = false)
    (hi : PI X tg iter (tI X.K rx W C (is.pu && e.pu) it)) (ok : blkC X.N X.env.scope scope own = true) (nd : (own.map (·.2)).Nodup) (hf : t.free (notIn (own.map (·.2))) = true)
    (hg : ∀ (s : Shared) (H : Hp) (A : Addr) (cl : List (Str × Addr)) (fp : List Addr), PG (X.blk s H scope (compEnvC scope cl A X.env) fp) tg (tG X.K (notIn (own.map (·.2))) t)) (ht : ∀ (s : Shared) (H : Hp) (A : Addr) (cl : List (Str × Addr)) (fp : List Addr), PTs (X.blk s H scope (compEnvC scope cl A X.env) fp) ifs (tTs X.K rx C is))
    (he : ∀ (s : Shared) (H : Hp) (A : Addr) (cl : List (Str × Addr)) (fp : List Addr), PE (X.blk s H scope (compEnvC scope cl A X.env) fp) elt (tE X.K rx W0 C e)) (hs : ∀ x, foldedSetIterable iter X.env x = pure x) :
    PS X (.Assign [.Name y py] (.ListComp elt [⟨tg, iter, ifs, 0⟩] scope pos) spos) (tS X.K rx W C (.asg (.one i) (.fze (.lc (own.map (·.2)) t it is e)))) := by
  refine ⟨fun pins s σ H D I ⟨env, P, hE, h⟩ => ?_⟩
  refine thn ((ps_setLc hc hN hy hyl (sw_true hk hyl hl hna) hi (blkOk_by ok) hg ht he hs).run pins s σ H { D with nx := fun σ' H' => ∀ s', Inv X pins σ' H' s' → ∃ H2, Inv X pins σ' H2 s' ∧ D.nx σ' H2 } I (lc_read nd hf ?_)) fun f s' q => ?_
  · have h' : PostS X.K rx W C.kp P σ H ((evE C (.lc (own.map (·.2)) t it is e) env).thn fun d e1 => if C.kp i = true then .bad else if i < e1.length then .next (e1.set i (some (fz d))) else .bad) D := by
      simp only [evS, evE] at h
      simp only [evE]
      revert h
      generalize (evI C (is.pu && e.pu) it env).bind _ = r
      intro h
      cases r with
      | bad => exact h
      | exc x e1 => exact h
      | ok d e1 =>
        simp only [Res.bind, Res.thn] at h ⊢
        have e0 : ((E.lc (own.map (·.2)) t it is e).pth && !imm d) = false := rfl
        rw [e0] at h
        simp only [Bool.false_eq_true, if_false] at h
        have e1 : ((E.fze (.lc (own.map (·.2)) t it is e)).pth && !imm (fz d)) = false := rfl
        rw [e1] at h
        simp only [Bool.false_or, Tg.free, Bool.not_not, bindT] at h
        cases hk : C.kp i with
        | true => rw [hk] at h; simpa using h
        | false =>
          rw [hk] at h
          simp only [Bool.false_eq_true, if_false] at h ⊢
          split at h
          · rename_i e2 he2
            simp only [Option.ite_none_right_eq_some, Option.some.injEq] at he2
            rw [if_pos he2.1, he2.2]
            exact h
          · exact h.elim
    refine tE_mono (tS_thn hE h') fun v H1 ⟨d, e1, P1, P2, r, rd, dj, n1, n2, ev, h⟩ => ?_
    intro s' I'
    split at h
    · exact h.elim
    rename_i hk
    split at h
    rotate_left
    · exact h.elim
    rename_i hl
    obtain ⟨H2, I2, r2, ev2⟩ := freeze I' rd
    refine ⟨H2, I2, ?_⟩
    have r3 := r.frame ev2 (dj rfl)
    have hk2 : C.kp i = false := by simpa using hk
    exact h _ H2 (Uni P1 No) (r3.store (P := Uni P1 No) hl ⟨fun _ z => z.elim, fun _ z => .inl z, fun _ z => z.elim⟩ r2) (fun a z => z.elim (n1 a) fun z => z.elim) (ev.trans ev2 (n2 rfl)) (Kp.set hk2)
  · cases f with
    | next =>
      obtain ⟨σ', H', I', q⟩ := q
      obtain ⟨H2, I2, q⟩ := q s' I'
      exact ⟨σ', H2, I2, q⟩
    | ret v => exact q
    | brk => exact q
    | cont => exact q
end
end Z

namespace Z
open PySem PySem.Spec L2
variable [TabList]

theorem permL_map {α β : Type} (f : α → β) (perm : List Nat) (l : List α) : permL perm (l.map f) = (permL perm l).map f := by
  unfold permL
  rw [List.map_filterMap]
  congr 1
  funext j
  rw [List.getElem?_map]
theorem permL_range {α : Type} : ∀ (l : List α), permL (List.range l.length) l = l := fun l => by
  unfold permL
  refine List.ext_getElem? fun i => ?_
  have h : ∀ (n : Nat), n ≤ l.length → (List.range n).filterMap (fun j => l[j]?) = l.take n := fun n hn => by
    induction n with
    | zero => simp
    | succ n ih =>
      rw [List.range_succ, List.filterMap_append, ih (by omega)]
      have e : l[n]? = some l[n] := List.getElem?_eq_getElem (by omega)
      simp only [List.filterMap_cons, e, List.filterMap_nil]
      exact (List.take_append_getElem (by omega))
  rw [h l.length (Nat.le_refl _), List.take_length]
theorem permL_perm {α : Type} {perm : List Nat} {l : List α} (h : perm.Perm (List.range l.length)) : (permL perm l).Perm l := by
  have := h.filterMap (fun j => l[j]?)
  have e := permL_range l
  unfold permL at e ⊢
  rwa [e] at this
section
variable {K : PySem.W.Frag} {H : Hp}
theorem rels_perm {t t' : List (D × Option Nat × V)} (h : t.Perm t') : ∀ {P : Own}, Rels K H (t.map (·.1)) (t.map (·.2.2)) P → Rels K H (t'.map (·.1)) (t'.map (·.2.2)) P := by
  induction h with
  | nil => exact fun h => h
  | cons x _ ih =>
    intro P h
    obtain ⟨v, vs', P1, P2, e, s, r, rs⟩ := h
    obtain ⟨rfl, rfl⟩ := List.cons.inj e
    exact Rels.cons s r (ih rs)
  | swap x y l =>
    intro P h
    obtain ⟨v, vs', P1, P2, e, s, r, rs⟩ := h
    obtain ⟨rfl, rfl⟩ := List.cons.inj e
    obtain ⟨v, vs', P3, P4, e, s2, r2, rs2⟩ := rs
    obtain ⟨rfl, rfl⟩ := List.cons.inj e
    refine Rels.cons (P1 := P3) (P2 := Uni P1 P4) ⟨fun a z => s.2.1 a (s2.1 a z), fun a z => z.elim (s.1 a) fun z => s.2.1 a (s2.2.1 a z), fun a z y => y.elim (fun y => s.2.2 a y (s2.1 a z)) (s2.2.2 a z)⟩ r2 (Rels.cons (Sep.uni fun a z y => s.2.2 a z (s2.2.1 a y)) r rs2)
  | trans _ _ ih1 ih2 => exact fun h => ih2 (ih1 h)
theorem bk_iff {σ : L2.St} : ∀ {t : List (D × Option Nat × V)}, Bk σ (t.map (·.2.1)) (t.map (·.2.2)) ↔ ∀ q ∈ t, ∀ i, q.2.1 = some i → σ[i]? = some (some q.2.2)
  | [] => by simp [Bk]
  | (d, none, v) :: t => by
    simp only [List.map_cons, Bk]
    rw [bk_iff (t := t)]
    simp
  | (d, some i, v) :: t => by
    simp only [List.map_cons, Bk]
    rw [bk_iff (t := t)]
    simp
end
theorem evCs_len {C : Ctx} : ∀ {es : Es} {env e1 : Env} {p : List D × List (Option Nat)}, evCs C es env = .ok p e1 → p.1.length = p.2.length
  | .nil, env, e1, p, h => by
    simp only [evCs, Res.ok.injEq] at h
    rw [← h.1]; rfl
  | .cons e r, env, e1, p, h => by
    have go : ∀ {env2 : Env} {d : D} {b : Option Nat}, ((evCs C r env2).bind fun p e2 => Res.ok (d :: p.1, b :: p.2) e2) = .ok p e1 → p.1.length = p.2.length := fun {env2 d b} h => by
      cases q : evCs C r env2 with
      | bad => rw [q] at h; cases h
      | exc x e => rw [q] at h; cases h
      | ok p2 e2 =>
        rw [q] at h
        simp only [Res.bind, Res.ok.injEq] at h
        rw [← h.1]
        simp [evCs_len q]
    have go2 : ∀ {env2 : Env} {i : Nat}, ((evCs C r env2).bind fun p e2 => match e2[i]? with
      | some (some d') => Res.ok (d' :: p.1, some i :: p.2) (e2.set i none)
      | _ => .bad) = .ok p e1 → p.1.length = p.2.length := fun {env2 i} h => by
      cases q : evCs C r env2 with
      | bad => rw [q] at h; cases h
      | exc x e => rw [q] at h; cases h
      | ok p2 e2 =>
        rw [q] at h
        simp only [Res.bind] at h
        split at h
        · simp only [Res.ok.injEq] at h
          rw [← h.1]
          simp [evCs_len q]
        · cases h
    simp only [evCs] at h
    cases q : evE C e env with
    | bad => rw [q] at h; cases h
    | exc x e => rw [q] at h; cases h
    | ok d e2 =>
      rw [q] at h
      simp only [Res.bind] at h
      split at h
      · split at h
        · exact go h
        · exact go2 h
      · split at h
        · cases h
        · exact go h
section
variable {K : PySem.W.Frag} {rx : XR} {W : WX} {C : Ctx} {σ : L2.St} {H : Hp}
theorem zip3 {α β γ : Type} : ∀ {as : List α} {bs : List β} {cs : List γ}, as.length = bs.length → as.length = cs.length → ∃ t : List (α × β × γ), as = t.map (·.1) ∧ bs = t.map (·.2.1) ∧ cs = t.map (·.2.2)
  | [], [], [], _, _ => ⟨[], rfl, rfl, rfl⟩
  | a :: as, b :: bs, c :: cs, h1, h2 => by
    obtain ⟨t, e1, e2, e3⟩ := zip3 (as := as) (bs := bs) (cs := cs) (by simpa using h1) (by simpa using h2)
    exact ⟨(a, b, c) :: t, by simp [e1], by simp [e2], by simp [e3]⟩
def Es.len : Es → Nat
  | .nil => 0
  | .cons _ r => r.len + 1
theorem evCs_len2 : ∀ {es : Es} {env e1 : Env} {p : List D × List (Option Nat)}, evCs C es env = .ok p e1 → p.1.length = es.len
  | .nil, env, e1, p, h => by
    simp only [evCs, Res.ok.injEq] at h
    rw [← h.1]; rfl
  | .cons e r, env, e1, p, h => by
    have go : ∀ {env2 : Env} {d : D} {b : Option Nat}, ((evCs C r env2).bind fun p e2 => Res.ok (d :: p.1, b :: p.2) e2) = .ok p e1 → p.1.length = (Es.cons e r).len := fun {env2 d b} h => by
      cases q : evCs C r env2 with
      | bad => rw [q] at h; cases h
      | exc x e => rw [q] at h; cases h
      | ok p2 e2 =>
        rw [q] at h
        simp only [Res.bind, Res.ok.injEq] at h
        rw [← h.1]
        simp [evCs_len2 q, Es.len]
    have go2 : ∀ {env2 : Env} {i : Nat}, ((evCs C r env2).bind fun p e2 => match e2[i]? with
      | some (some d') => Res.ok (d' :: p.1, some i :: p.2) (e2.set i none)
      | _ => .bad) = .ok p e1 → p.1.length = (Es.cons e r).len := fun {env2 i} h => by
      cases q : evCs C r env2 with
      | bad => rw [q] at h; cases h
      | exc x e => rw [q] at h; cases h
      | ok p2 e2 =>
        rw [q] at h
        simp only [Res.bind] at h
        split at h
        · simp only [Res.ok.injEq] at h
          rw [← h.1]
          simp [evCs_len2 q, Es.len]
        · cases h
    simp only [evCs] at h
    cases q : evE C e env with
    | bad => rw [q] at h; cases h
    | exc x e => rw [q] at h; cases h
    | ok d e2 =>
      rw [q] at h
      simp only [Res.bind] at h
      split at h
      · split at h
        · exact go h
        · exact go2 h
      · split at h
        · cases h
        · exact go h
theorem tE_kcall {f : Nat} {perm : List Nat} {es : Es} {Q : VK} (hp : perm.Perm (List.range es.len)) (h : tE K rx W C (.kcall f perm es) σ H Q) : tCs K rx W C es σ H fun vs H1 => vs.length = es.len ∧ spF K rx (C.call f) (permL perm vs) H1 Q fun c dd H' => W c dd σ H' := by
  obtain ⟨env, P, hE, h⟩ := h
  refine ⟨env, P, hE, ?_⟩
  simp only [evE] at h
  cases q : evCs C es env with
  | bad => rw [q] at h; exact h.elim
  | exc x e1 => rw [q] at h; exact h
  | ok db e1 =>
    have hl1 := evCs_len q
    have hl2 := evCs_len2 q
    obtain ⟨ds, bs⟩ := db
    rw [q] at h
    simp only [Res.bind] at h
    intro vs H1 P1 P2 r1 rs dj n2 hn ev bk
    have hl3 := rs.length
    refine ⟨by rw [← hl3]; exact hl2, ?_⟩
    obtain ⟨t, e1, e2, e3⟩ := zip3 (as := ds) (bs := bs) (cs := vs) hl1 hl3
    subst e1 e2 e3
    have hpt : (permL perm t).Perm t := permL_perm (by
      have : (t.map (·.1)).length = es.len := hl2
      rw [List.length_map] at this
      rw [this]; exact hp)
    simp only [permL_map] at h
    have rs := rels_perm hpt.symm rs
    have bk : Bk σ ((permL perm t).map (·.2.1)) ((permL perm t).map (·.2.2)) := bk_iff.mpr fun q hq => bk_iff.mp bk q (hpt.mem_iff.mp hq)
    rw [permL_map]
    refine ⟨r1.tabs, (permL perm t).map (·.1), Tt H1 P2, rs.tight, ?_⟩
    have dj1 : ∀ a, Tt H1 P1 a → ¬ Tt H1 P2 a := fun a z y => dj a z.1 y.1
    have up : ∀ {H2 : Hp} {P5 : Own}, New (Tt H1 P2) H1 P5 → New P H P5 := fun {H2 P5} n a y => (n a y).elim (fun y => n2 a y.1) fun y => by
      right
      cases qq : H a with
      | none => rfl
      | some o => exact absurd y (ev.dom a (by rw [qq]; exact fun z => nomatch z))
    cases q2 : C.call f ((permL perm t).map (·.1)) with
    | bad => rw [q2] at h; exact h.elim
    | ok d fin =>
      rw [q2] at h
      intro v H2 P3 P4 rf rd d34 n3 n4 ev2
      have a3 : ∀ a, Tt H1 P1 a → ¬ P3 a := fun a z y => (n3 a y).elim (dj1 a z) z.2
      have a4 : ∀ a, Tt H1 P1 a → ¬ P4 a := fun a z y => (n4 a y).elim (dj1 a z) z.2
      have rE := giveBack_rel bk (r1.tight.frame ev2 dj1) rf a3
      exact h v H2 (Uni (Tt H1 P1) P3) P4 rE rd (fun _ => ⟨fun a z y => z.elim (fun z => a4 a z y) fun z => d34 a z y, fun a z => (up (H2 := H2) n4 a z).imp (fun y => ⟨rfl, y⟩) id⟩) (fun a z => z.elim (fun z => hn a z.1) (up (H2 := H2) n3 a)) ((ev.trans ev2 fun a z => n2 a z.1).mono fun _ z => ⟨rfl, z⟩)
    | exc x fin =>
      rw [q2] at h
      intro c dd H2 P3 rf hx n3 ev2
      have a3 : ∀ a, Tt H1 P1 a → ¬ P3 a := fun a z y => (n3 a y).elim (dj1 a z) z.2
      have rE := giveBack_rel bk (r1.tight.frame ev2 dj1) rf a3
      exact h c dd H2 _ rE hx (fun a z => z.elim (fun z => hn a z.1) (up (H2 := H2) n3 a)) (ev.trans ev2 fun a z => n2 a z.1)
end
/-- a call's keywords, bound -/
def KwB (K : PySem.W.Frag) (fd : FuncData) (ps : List Str) (ks : List Str) (perm : List Nat) : Prop := ∀ (s : Shared) (ws : List Value), K.In s.heap → ws.length = ks.length → BindsTo s fd ⟨[], ks.zip ws⟩ (ps.zip (permL perm ws))
def FnAtK (X : Cx) (rx : XR) (k : Nat) (x : Str) (sem : List D → CRes) (ks : List Str) (perm : List Nat) : Prop :=
  ∃ f fd ps, FnOk X.prog X.w X.K X.mg X.base (L2.CX X.prog X.w) k f fd ps (spF X.K rx sem) ∧ X.mg x = some (.ref f) ∧ PySem.W.keepIn X.K (.ref f) = true ∧ KwB X.K fd ps ks perm
theorem PK.of {X : Cx} {e : List Keyword} {t' : TA} (h : ∀ σ H Q, t' σ H Q → ∃ t, PK X e t ∧ t σ H Q) : PK X e t' := ⟨fun pos pins s σ H Q I hw => let ⟨_, a, b⟩ := h σ H Q hw; a.run pos pins s σ H Q I b⟩
section
variable {X : Cx} {rx : XR} {W : WX} {C : Ctx} {a : E} {ea e : Expr} {es r : Es} {kws : List Keyword} {pos p kpos : Pos} {x : Str} {k f : Nat} {nm : Option Str} {ks : List Str} {perm : List Nat}
theorem sk_nil : PK X [] (tCs X.K rx W C .nil) := PK.of fun σ H Q h => ⟨_, pk_nil, c_nil h⟩
theorem sk_cons (hv : a.isVar = false) (ha : PE X ea (tE X.K rx W C a)) (hr : PK X kws (tCs X.K rx W C r)) : PK X (⟨nm, ea, kpos⟩ :: kws) (tCs X.K rx W C (.cons a r)) :=
  PK.of fun σ H Q h => ⟨_, pk_cons ha hr, c_cons hv h⟩
theorem sk_var {i : Nat} {y : Str} {yp : Pos} (hN : X.N[i]? = some y) (hv : Vis X.env.scope y) (hd : (y == ("__debug__" : Str)) = false) (hcd : (y == ("__classdict__" : Str)) = false) (hr : PK X kws (tCs X.K rx W C r)) : PK X (⟨nm, .Name y yp, kpos⟩ :: kws) (tCs X.K rx W C (.cons (.var i) r)) :=
  PK.of fun σ H Q h => ⟨_, pk_cons (pe_var hN hv hd hcd) hr, c_var h⟩
theorem vals_perm {vs : List V} {us : List Value} (r : Vals vs us) : ∀ (perm : List Nat), Vals (permL perm vs) (permL perm us)
  | [] => .nil
  | j :: perm => by
    unfold permL
    simp only [List.filterMap_cons]
    cases q : vs[j]? with
    | none =>
      have : us[j]? = none := by
        rw [List.getElem?_eq_none_iff] at q ⊢
        rw [← r.length]; exact q
      rw [this]
      exact vals_perm r perm
    | some v =>
      obtain ⟨u, hu, rv⟩ := r.get q
      rw [hu]
      exact .cons rv (vals_perm r perm)
theorem s_callK (F : FnAtK X rx k x (C.call f) ks perm) (hr : Room k X.A) (tk : Takes X W) (hg : Gl X x) (hkw : PK X kws (tCs X.K rx W C es)) (hp : perm.Perm (List.range es.len)) (hkl : ks.length = es.len) (hdb : (x == ("__debug__" : Str)) = false)
    (hall : (backToKw pos (keywordEach kws X.env)).all (·.1.isSome) = true) (hks : (backToKw pos (keywordEach kws X.env)).filterMap (·.1) = ks)
    (hpl : ((backTo pos (starEach [] X.env)).any (·.1) || (backToKw pos (keywordEach kws X.env)).any (·.1.isNone)) = false) : PE X (.Call (.Name x p) [] kws pos) (tE X.K rx W C (.kcall f perm es)) := by
  obtain ⟨fa, fd, ps, F, hm, hk, hb⟩ := F
  refine ⟨fun pins s σ H Q I h => ?_⟩
  have h2 := tE_kcall hp h
  refine wpAny_Call_Name_kw (ld_glob I hg hm ?_ hdb)
  refine PySem.W.callWith_KW0 (h₀ := X.base) I.ok.mod.kin hk hall (thn (hkw.run pos pins s σ H _ I h2) fun ws s2 ⟨zs, H2, I2, rz, hzl, q2⟩ => ⟨I2.kIn, ?_⟩) hpl
  rw [hks, List.append_nil]
  have r2 := vals_perm rz perm
  refine wpAny_call (codeAny_mono (F.run X.A X.stack s2 H2 ⟨[], ks.zip ws⟩ (permL perm ws) (permL perm zs) Q (WE W σ) hr I2.env0 (hb s2 ws I2.kIn (by rw [← rz.length, hzl, hkl])) r2 q2) fun r s' hq => ?_)
  cases r with
  | error e => exact passAt tk σ pins H2 s2 e s' I2 hq
  | ok fl =>
    cases fl with
    | ret u => exact I2.after hq
    | next => exact False.elim hq
    | brk => exact False.elim hq
    | cont => exact False.elim hq
end
end Z

namespace Z
open PySem PySem.Spec L2
open PyProof.Rows (envOfC)
variable [TabList]

/-- a def of the program, at a level; how it may be called by keywords -/
def FnW (P : Program) (w : World) (K : PySem.W.Frag) (mg : Str → Option Value) (base : Heap) (rx : XR) (k : Nat) (x : Str) (kw : List (List Str × List Nat)) (sem : List D → CRes) : Prop :=
  ∃ f fd ps, FnOk P w K mg base (L2.CX P w) k f fd ps (spF K rx sem) ∧ mg x = some (.ref f) ∧ PySem.W.keepIn K (.ref f) = true ∧ L2.Binds K fd ps [] ∧ ∀ (j : Nat) ks perm, kw[j]? = some (ks, perm) → KwB K fd ps ks perm
theorem FnW.at {X : Cx} {rx : XR} {k : Nat} {x : Str} {kw : List (List Str × List Nat)} {sem : List D → CRes} (h : FnW X.prog X.w X.K X.mg X.base rx k x kw sem) : FnAt X rx k x sem :=
  let ⟨f, fd, ps, a, b, c, d, _⟩ := h; ⟨f, fd, ps, a, b, c, d⟩
theorem FnW.atK {X : Cx} {rx : XR} {k : Nat} {x : Str} {kw : List (List Str × List Nat)} {sem : List D → CRes} (h : FnW X.prog X.w X.K X.mg X.base rx k x kw sem) (j : Nat) {ks : List Str} {perm : List Nat} (hj : kw[j]? = some (ks, perm)) : FnAtK X rx k x sem ks perm :=
  let ⟨f, fd, ps, a, b, c, _, e⟩ := h; ⟨f, fd, ps, a, b, c, e j ks perm hj⟩
section
variable {P : Program} {w : World} {K : PySem.W.Frag} {mg : Str → Option Value} {base : Heap} {rx : XR} {x qual : Str} {params : Arguments} {body : List Stmt} {scope : Scope} {dvs : List V} {kws : List (Str × V)} {f : Addr} {fd : FuncData} {N ps ks : List Str} {k : Nat} {perm : List Nat}
theorem kwN (F : FunD K x qual params body scope [] kws f fd)
    (h : ∀ (kV doc pm : Value) (an : Option Addr) (cdv ct : Value) (ws : List Value), ws.length = ks.length → bindArgs (PySem.W.fnOf x qual params body scope .none kV doc pm an cdv ct) ⟨[], ks.zip ws⟩ = pure (ps.zip (permL perm ws))) : KwB K fd ps ks perm := by
  obtain ⟨oc, od, dV, kV, doc, pm, an, cdv, ct, osl, rfl, lk, hcd, hD, hK⟩ := F.ex
  rcases hD with ⟨_, rfl⟩ | ⟨e, _⟩
  · exact fun s ws _ hl => .of_eq (h kV doc pm an cdv ct ws hl)
  · exact absurd rfl e
theorem fn_zero {sem : List D → CRes} (h : ∀ ds, sem ds = .bad) : FnOk P w K mg base (L2.CX P w) k f fd ps (spF K rx sem) :=
  ⟨fun vs H Q E ⟨_, ds, P, r, q⟩ => by rw [h] at q; exact q.elim, fun A outer s H args us vs Q E _ _ _ _ ⟨_, ds, P, r, q⟩ => by rw [h] at q; exact q.elim⟩
/-- the script, at the law's start -/
theorem law_start {sem : List D → CRes} {H : Hp} {a : Addr} {ns : List Int} {fin : Z.Env} (hO : Only H) (hT : Tabs H) (hS : SqL K H a (ns.map V.int)) (h : sem [.scr ns] = .ok (.bl true) fin) :
    spF K rx sem [.ref a] H (fun v _ => v = .bl true) fun _ _ _ => False := by
  refine ⟨hT, [.scr ns], No, Rels.cons Sep.nl ⟨a, rfl, ?_⟩ (show Rels K H [] [] No from rfl), ?_⟩
  · refine hS.imp (fun z => ?_) id
    rcases z with z | z
    · rcases hO a with q | ⟨o, xs, q⟩
      · rw [z] at q; cases q
      · rw [z] at q; cases q
    · exact z
  · rw [h]
    exact fun v H' P1 P2 _ r _ _ _ _ => r
end
end Z
namespace L2
open PySem PySem.Spec PyProof.Rows
theorem walk_ofX {l : PySem.W.OpenLaw} {n k : Nat} {q : Program} {loose : List Str} {XP : (Str → Option Value) → Heap → Prop} {YP : World → Heap → Prop} {d : DefRec} {x : Str}
    (hn : l.most = some n) (hn2 : n ≤ sizeLine) (hdf : d.params.defaults = []) (hr : Room k callerA)
    (F : ∀ (w : World) (mg : Str → Option Value) (fa : Addr) (h : Heap), YP w h → h.Ns mainGlobals mg → mg d.name = some (.ref fa) →
      ∃ (K : PySem.W.Frag) (fd : FuncData) (sp : Sp), K.In h ∧ (∀ (s : Shared) (u : Value), BindsTo s fd ⟨[u], []⟩ [(x, u)]) ∧
        (∀ (H : Hp) (a : Addr) (ns : List Int), ns.length ≤ n → Only H → SqL K H a (ns.map V.int) → sp [.ref a] H (fun v _ => v = .bl true) fun _ _ _ => False) ∧
        ∀ base : Heap, K.In base → base.Ns mainGlobals mg → FnOk l.prog w K mg base (L2.CX l.prog w) k fa fd [x] sp) :
    PySem.W.WalkO q loose XP YP l.row.toRowW d [] (fun f vs => PySem.call f vs) := by
  refine Att.attach_call hn hdf fun w s₀ s₁ mg mb fa o pm cd doc a vs ns G Y ho hd hcd hmg hobj hints hlen hg => ?_
  obtain ⟨K, fd, sp, KX, hb, hsp, hF⟩ := F w mg fa _ Y G.T.g hmg
  refine law_call KX G.T.g G.T.b G.T.builtins G.T.nolimit hg hobj hints (Nat.le_trans hlen hn2) hr hF hb (fun H hO hS => hsp H a ns hlen hO hS) fun H e s' h => ?_
  obtain ⟨_, _, _, _, _, _, _, _, _, _, _, _, h⟩ := h
  exact h
end L2

namespace PySem
open Sem (wp)
section
variable {prog : Program} {w : World} {K : Type} [DecidableEq K] {knd : KeyKind prog w K} {A : Around} {E : Value → Shared → Prop} {s : Shared}
theorem wpAny_dictPut_pairs {d : Addr} {kvs : List (K × Value)} {k : K} {key v : Value} {Q : Unit → Shared → Prop} (hkey : knd.is k key = true) (hm : s.heap.DictOf knd d kvs)
    (hQ : ∀ h', h'.DictOf knd d (stored kvs k v) → Heap.SameBut d s.heap h' → Q () { s with heap := h' })
    (hsz : kvs.length ≤ sizeLine) :
    wpAny (model prog w) A (dictPut d (knd.hash k) key v) Q E s := by
  obtain ⟨o, es, ep, ho, hc, hd, hk, hp, hn⟩ := hm
  have hes : es.size ≤ sizeLine := by have e1 := hp.length; have e2 : es.toList.length = es.size := by simp
                                      omega
  unfold dictPut
  refine wpAny_bind (wpAny_dictFind_of hkey ho hd hk ?_)
  have hidx : (es.findIdx? fun e => knd.is k e.key) = kvs.findIdx? fun kv => decide (kv.1 = k) := by
    rw [← hp.findIdx k]; obtain ⟨l⟩ := es; simp
  cases hi : es.findIdx? fun e => knd.is k e.key with
  | some i =>
    refine wpAny_updateDict ho hd (hQ _ ⟨_, _, ep, Heap.get?_update_self _ ho (Obj.isFreed_of_dict (Obj.data_mapDict hd _)),
      hc.mapDict _, Obj.data_mapDict hd _, hk.modify _ _, ?_, ?_⟩ (Heap.SameBut.update ..))
    · rw [stored, if_pos (any_of_findIdx_some (hidx ▸ hi))]
      have hl : (es.toList.findIdx? fun e => knd.is k e.key) = some i := by rw [← hi]; obtain ⟨l⟩ := es; simp
      have := hp.modify hn hl v
      obtain ⟨l⟩ := es
      simpa using this
    · rw [stored, if_pos (any_of_findIdx_some (hidx ▸ hi)), keys_map_store]; exact hn
  | none =>
    have hnot : k ∉ kvs.map (·.1) := not_mem_of_findIdx_none (hidx ▸ hi)
    have hany : ¬ (kvs.any fun kv => decide (kv.1 = k)) = true := by
      rw [List.any_eq_true]; rintro ⟨kv, hkv, he⟩
      exact hnot (List.mem_map.mpr ⟨kv, hkv, of_decide_eq_true he⟩)
    refine wpAny_updateDictKeys (hz := hes) ho hd (hQ _ ⟨_, _, ep + 1, Heap.get?_update_self _ ho (Obj.isFreed_of_dict (Obj.data_mapDictKeys hd _)),
      hc.mapDictKeys _, Obj.data_mapDictKeys hd _, hk.push hkey _, ?_, ?_⟩ (Heap.SameBut.update ..))
    · rw [stored, if_neg hany]
      have := hp.append hkey (knd.hash k) v
      obtain ⟨l⟩ := es
      simpa using this
    · rw [stored, if_neg hany, List.map_append, List.nodup_append]
      refine ⟨hn, by simp, ?_⟩
      intro a ha b hb
      simp only [List.map_cons, List.map_nil, List.mem_singleton] at hb
      subst hb
      exact fun e => hnot (e ▸ ha)
theorem wpAny_mergeMapping {d o : Addr} {kvs more : List (K × Value)} {Q : Unit → Shared → Prop} (hdo : d ≠ o) (hoS : (o == sysModules) = false) (hnr : ∀ k a, knd.is k (.ref a) = false)
    (hd : s.heap.DictOf knd d kvs) (ho : s.heap.DictOf knd o more)
    (hQ : ∀ h', h'.DictOf knd d (merged kvs more) → h'.DictOf knd o more → Heap.SameBut d s.heap h' → Q () { s with heap := h' })
    (hsz : kvs.length + more.length ≤ sizeLine) :
    wpAny (model prog w) A (mergeMapping d (.ref o) false) Q E s := by
  obtain ⟨od, esd, epd, hod, hcd, hdd, hkd, hpd, hnd⟩ := id hd
  obtain ⟨oo, eso, epo, hoo, hco, hdo', hko, hpo, hno⟩ := id ho
  have hlen : more.length = eso.size := by rw [← hpo.length]; simp
  have hT : s.TypeIs (.ref o) "dict" := ho.typeIs
  unfold mergeMapping
  refine wpAny_bind (wpAny_isInstance hT F.sub_dict_dict ?_)
  rw [if_pos rfl]
  refine wpAny_bind (wpAny_specialOf hT F.slot_dict_iter.lookup ?_)
  have e1 : ((some (Value.builtin "dict.__iter__") == some (Value.builtin "dict.__iter__")) : Bool) = true := by decide +kernel
  rw [e1]
  refine wpAny_bind (wpAny_pure ?_)
  dsimp only
  rw [hoS]
  rw [if_neg Bool.false_ne_true]
  refine wpAny_bind (wpAny_dictEntries hod hdd ?_)
  have loop : wpAny (model prog w) A (do
      let l ← dictEntries o
      let epoch ← dictEpoch o
      forIn (List.range l.size) PUnit.unit fun i (_ : PUnit) => (do
          let l' ← dictEntries o
          match l'[i]? with
            | some e => do
              holding [e.key, e.val] (dictPut d e.hash e.key e.val)
              let ep' ← dictEpoch o
              if (ep' != epoch) = true then do
                  (unsupported "dict.changed-during-merge" : Sem PUnit)
                  pure (ForInStep.yield PUnit.unit)
                else pure (ForInStep.yield PUnit.unit)
            | _ => do
              (unsupported "dict.changed-during-merge" : Sem PUnit)
              pure (ForInStep.yield PUnit.unit) : Sem (ForInStep PUnit))
      pure ()) Q E s := by
    refine wpAny_bind (wpAny_dictEntries hoo hdo' ?_)
    refine wpAny_bind (wpAny_dictEpoch hoo hdo' ?_)
    refine wpAny_bind ?_
    rw [List.range_eq_range']
    refine wpAny_forIn_list _
      (fun rest _ s' => ∃ h' i, s' = { s with heap := h' } ∧ rest = List.range' i (eso.size - i) ∧ i ≤ eso.size ∧ h'.DictOf knd d (merged kvs (more.take i)) ∧ h'.get? o = some oo ∧ Heap.SameBut d s.heap h')
      _ ?_ ?_ _ _ ⟨s.heap, 0, rfl, by simp, Nat.zero_le _, by simpa [merged] using hd, hoo, Heap.SameBut.refl _ _⟩
    · rintro x rest b s' ⟨h', i, rfl, hr, hi, hd', hoo', hs'⟩
      have hlt : i < eso.size := by
        rcases Nat.lt_or_ge i eso.size with h | h
        · exact h
        · rw [Nat.sub_eq_zero_of_le h] at hr; simp at hr
      obtain ⟨rfl, hrest⟩ : x = i ∧ rest = List.range' (i + 1) (eso.size - (i + 1)) := by
        have e : eso.size - i = (eso.size - (i + 1)) + 1 := by omega
        rw [e, List.range'_succ] at hr
        injection hr with h1 h2
        exact ⟨h1, h2⟩
      refine wpAny_bind (wpAny_dictEntries hoo' hdo' ?_)
      rw [Array.getElem?_eq_getElem hlt]
      obtain ⟨kv, hkv⟩ : ∃ kv, more[x]? = some kv := ⟨more[x]'(by rw [hlen]; exact hlt), List.getElem?_eq_getElem _⟩
      obtain ⟨k, v⟩ := kv
      obtain ⟨hkey, hval⟩ := hpo.get? (e := eso[x]) (by simp [hlt]) hkv
      obtain ⟨k', hkey', hhash⟩ := hko eso[x] (Array.getElem_mem hlt)
      obtain rfl : k' = k := knd.inj _ _ _ hkey' hkey
      show wpAny _ _ (holding [eso[x].key, eso[x].val] (dictPut d eso[x].hash eso[x].key eso[x].val) >>= _) _ _ _
      rw [hhash, hval]
      have hmx : (merged kvs (more.take x)).length ≤ sizeLine := by
        have e1 := merged_length_le kvs (more.take x)
        have e2 : (more.take x).length ≤ more.length := by rw [List.length_take]; omega
        omega
      refine wpAny_bind (wpAny_holding (wpAny_dictPut_pairs (hsz := hmx) hkey hd' fun h'' hd'' hs'' => ?_))
      have hoo'' : h''.get? o = some oo := (hs''.2 o (Ne.symm hdo)).trans hoo'
      refine wpAny_bind (wpAny_dictEpoch hoo'' hdo' ?_)
      rw [if_neg (by simp)]
      exact wpAny_pure ⟨h'', x + 1, rfl, hrest, hlt, by rw [merged_take_succ kvs more x (k', v) hkv]; exact hd'', hoo'', hs'.trans hs''⟩
    · rintro b s' ⟨h', i, rfl, hr, hi, hd', hoo', hs'⟩
      have hin : i = eso.size := by
        rcases Nat.lt_or_ge i eso.size with h | h
        · have e : eso.size - i = (eso.size - (i + 1)) + 1 := by omega
          rw [e, List.range'_succ] at hr; exact nomatch hr
        · exact Nat.le_antisymm hi h
      refine wpAny_pure (hQ h' ?_ ⟨oo, eso, epo, hoo', hco, hdo', hko, hpo, hno⟩ hs')
      rw [hin, ← hlen, List.take_length] at hd'; exact hd'
  split
  · refine wpAny_bind (wpAny_dictEntries hoo hdo' ?_)
    refine wpAny_bind ?_
    refine wpAny_forIn_array' _ (fun rest _ s' => s' = s ∧ ∀ e ∈ rest, ∃ k, knd.is k e.key = true) _ ?_ ?_ _ _ ⟨rfl, fun e he => ?_⟩
    · rintro x rest b s' ⟨rfl, hr⟩
      obtain ⟨k, hk⟩ := hr x (List.mem_cons_self ..)
      have key : ∀ a, x.key ≠ .ref a := fun a e => by rw [e, hnr] at hk; cases hk
      split
      · rename_i a e
        exact absurd e (key a)
      · exact wpAny_pure ⟨rfl, fun e he => hr e (List.mem_cons_of_mem _ he)⟩
    · rintro b s' ⟨rfl, _⟩
      exact loop
    · obtain ⟨k, hk, _⟩ := hko e (by simpa using he)
      exact ⟨k, hk⟩
  · exact loop
theorem wpAny_mergeSelf {d : Addr} {Q : Unit → Shared → Prop} (hoS : (d == sysModules) = false)
    (hd : s.heap.DictOf knd d []) (hQ : Q () s) : wpAny (model prog w) A (mergeMapping d (.ref d) false) Q E s := by
  obtain ⟨od, esd, epd, hod, hcd, hdd, hkd, hpd, hnd⟩ := id hd
  have h0 : esd = #[] := by
    have := hpd.length
    simp only [List.length_nil, Array.length_toList] at this
    exact Array.eq_empty_of_size_eq_zero this
  subst h0
  have hT : s.TypeIs (.ref d) "dict" := hd.typeIs
  unfold mergeMapping
  refine wpAny_bind (wpAny_isInstance hT F.sub_dict_dict ?_)
  rw [if_pos rfl]
  refine wpAny_bind (wpAny_specialOf hT F.slot_dict_iter.lookup ?_)
  have e1 : ((some (Value.builtin "dict.__iter__") == some (Value.builtin "dict.__iter__")) : Bool) = true := by decide +kernel
  rw [e1]
  refine wpAny_bind (wpAny_pure ?_)
  dsimp only
  rw [hoS]
  rw [if_neg Bool.false_ne_true]
  refine wpAny_bind (wpAny_dictEntries hod hdd ?_)
  rw [if_pos (show (#[] : Array DictEntry).isEmpty = true from rfl)]
  refine wpAny_bind (wpAny_dictEntries hod hdd (wpAny_bind ?_))
  rw [← Array.forIn_toList]
  refine wpAny_pure ?_
  refine wpAny_bind (wpAny_dictEntries hod hdd ?_)
  refine wpAny_bind (wpAny_dictEpoch hod hdd (wpAny_bind ?_))
  exact wpAny_pure (wpAny_pure hQ)
end
end PySem

namespace PySem
open Sem (wp)
section
variable {prog : Program} {w : World} {A : Around} {E : Value → Shared → Prop} {s : Shared}
theorem wpAny_display_dup {tO tK tV : Sem Value} {Q : Value → Shared → Prop}
    (h : wpAny (model prog w) A tO (fun m s1 => ∀ E', wpAny (model prog w) A (mergeMapping s.heap.objs.size m false) (fun _ s2 =>
      wpAny (model prog w) A (subDict [(tK, tV)]) (fun sub s3 => ∀ E', wpAny (model prog w) A (mergeMapping s.heap.objs.size (.ref sub) false) (fun _ s4 => Q (.ref s.heap.objs.size) s4) E' s3) E s2) E' s1) E { s with heap := s.heap.push { cls := .type "dict", data := .dict #[] } }) :
    wpAny (model prog w) A (dictDisplay [(none, tO), (some tK, tV)]) Q E s := by
  unfold dictDisplay
  dsimp only
  simp only [List.forIn_cons, List.forIn_nil, pure_bind, bind_assoc, List.isEmpty_nil, if_true, List.nil_append, List.length_singleton]
  refine wpAny_bind (wpAny_alloc ?_)
  refine wpAny_bind (wpAny_holding (wpAny_mono h (fun m s1 h1 => ?_) fun _ _ e => e))
  refine wpAny_bind (wpAny_onRaise (wpAny_tryCatch (wpAny_onRaise (wpAny_holding (wpAny_mono (h1 _) (fun _ s2 h2 => ?_) fun _ _ e => e)))))
  rw [if_neg (by decide)]
  refine wpAny_bind (wpAny_pure (wpAny_bind (wpAny_pure ?_)))
  dsimp only
  rw [if_neg (by simp)]
  refine wpAny_bind (wpAny_bind (wpAny_holding (wpAny_mono h2 (fun sub s3 h3 => ?_) fun _ _ e => e)))
  refine wpAny_bind (wpAny_onRaise (wpAny_holding (wpAny_mono (h3 _) (fun _ s4 h4 => wpAny_pure (wpAny_pure h4)) fun _ _ e => e)))
end
end PySem
namespace L2
open PySem PySem.Spec PyProof.Rows
/-- {**o, k: v} -/
def tDup (to tk tv : TE) : TE := fun σ H Q => ∀ D, H D = none → to σ (upd H D (.dK [])) fun x H1 => ∃ a kvs, x = .ref a ∧ Rd H1 a (.dK kvs) ∧ (kvs.map (·.1)).Nodup ∧ H1 D = some (.dK []) ∧ ∀ S, (upd H1 D (.dK kvs)) S = none →
  tk σ (upd (upd H1 D (.dK kvs)) S (.dK [])) fun y H2 => tv σ H2 fun z H3 => ∃ q, y = kV q ∧ H3 D = some (.dK kvs) ∧ H3 S = some (.dK []) ∧ S ≠ D ∧ kvs.length < sizeLine ∧ Q (.ref D) (upd (upd H3 S (.dK [(q, z)])) D (.dK (putK kvs q z)))
section
variable {X : Cx} {o k v : Expr} {to tk tv : TE} {pos : Pos}
theorem merged_kv {vs : List (Key × Value)} (nd : (vs.map (·.1)).Nodup) : merged [] vs = vs := merged_nil_of_nodup vs nd
theorem pe_dup (ho : PE X o to) (hk : PE X k tk) (hv : PE X v tv) : PE X (.Dict [none, some k] [o, v] pos) (tDup to tk tv) := by
  refine ⟨fun pins s σ H Q I h => ?_⟩
  rw [arm_eval_Dict]
  refine wpAny_bind (wpAny_standAt ?_)
  show wpAny _ _ (dictDisplay [(none, do let x ← eval o X.env; standAt pos; pure x), (some (eval k X.env), do let x ← eval v X.env; standAt pos; pure x)]) _ _ _
  have hD0 := I.hok.fresh (Nat.le_refl s.heap.objs.size)
  have I0 : Inv X pins σ (upd H s.heap.objs.size (.dK [])) { s with heap := s.heap.push { cls := .type "dict", data := .dict #[] } } := I.laid (a := s.heap.objs.size) (o := .dK []) (t' := s.toks) (fun _ _ q => Heap.get?_push_of_some _ q) (Nat.le_refl _) (dk_empty s.heap I.big)
  refine wpAny_display_dup (wpAny_bind (thn (ho.run pins _ σ _ _ I0 (h s.heap.objs.size hD0)) fun m s1 ⟨x, H1, I1, rx, a, kvs, ex, hrd, nd, hH1, h1⟩ => wpAny_bind (wpAny_standAt (wpAny_pure fun E' => ?_))))
  subst ex
  obtain rfl : m = Value.ref a := rx
  obtain ⟨z1, ha, vs, rel, dd⟩ := dk_rd I1.hok hrd
  obtain ⟨z2, hd, vs0, rel0, dd0⟩ := dk_of I1.hok hH1
  cases rel0
  have nr : ∀ (k : Key) (a : Addr), (mixKind X.prog X.w).is k (.ref a) = false := fun k a => by cases k <;> rfl
  have hl : kvs.length = vs.length := Paired.length rel
  have ndv : (vs.map (·.1)).Nodup := by rw [← KV.keys rel]; exact nd
  have merge : ∀ (Q' : Unit → Shared → Prop), (∀ h', h'.DictOf (mixKind X.prog X.w) s.heap.objs.size vs → Heap.SameBut s.heap.objs.size s1.heap h' → Q' () { s1 with heap := h' }) → wpAny (model X.prog X.w) X.A (mergeMapping s.heap.objs.size (.ref a) false) Q' E' s1 := fun Q' hQ => by
    by_cases e : s.heap.objs.size = a
    · have ek : kvs = [] := by
        rcases hrd with z | ⟨o, z⟩
        · rw [← e, hH1] at z; cases z; rfl
        · rw [← e, hH1] at z; cases z
      subst ek
      cases rel
      rw [← e]
      exact wpAny_mergeSelf hd dd0 (hQ _ dd0 (Heap.SameBut.refl _ _))
    · refine wpAny_mergeMapping e ha nr dd0 dd (fun h' dd' _ hs => ?_) (by rw [List.length_nil]; omega)
      rw [merged_kv ndv] at dd'
      exact hQ h' dd' hs
  refine merge _ fun h' dd' hs => ?_
  have I2 : Inv X pins σ (upd H1 s.heap.objs.size (.dK kvs)) { s1 with heap := h' } := d_write (t' := s1.toks) I1 (by rw [hH1]; exact True.intro) hs (let ⟨q, _, _, hq, _⟩ := dd'; ⟨q, hq⟩) (dk_new z1 hd rel dd')
  -- the second dict
  have hS0 := I2.hok.fresh (Nat.le_refl h'.objs.size)
  unfold subDict
  have I3 : Inv X pins σ (upd (upd H1 s.heap.objs.size (.dK kvs)) h'.objs.size (.dK [])) { s1 with heap := h'.push { cls := .type "dict", data := .dict #[] } } := I2.laid (a := h'.objs.size) (o := .dK []) (t' := s1.toks) (fun _ _ q => Heap.get?_push_of_some _ q) (Nat.le_refl _) (dk_empty h' I2.big)
  refine wpAny_bind (wpAny_alloc (wpAny_bind (wpAny_holding ?_)))
  rw [if_pos (by simp)]
  refine wpAny_bind ?_
  refine evalPairs_cons (thn (hk.run pins _ σ _ _ I3 (h1 _ hS0)) fun kv s3 ⟨y, H2, I4, ry, h2⟩ => wpAny_bind (thn (hv.run pins _ σ _ _ I4 h2) fun vv s4 ⟨zz, H3, I5, rz, q, ey, hD3, hS3, nSD, zl, hq⟩ => wpAny_bind (wpAny_standAt (wpAny_pure (evalPairs_nil ?_)))))
  subst ey
  refine wpAny_holding ?_
  simp only [List.forIn_cons, List.forIn_nil]
  refine wpAny_bind (wpAny_bind (wpAny_bind (d_dictSet I5 hS3 (Nat.zero_lt_succ _) ry rz fun s6 I6 => ?_)))
  refine wpAny_pure (wpAny_pure (wpAny_pure (wpAny_pure fun E' => ?_)))
  have hS6 : upd H3 h'.objs.size (.dK (putK [] q zz)) h'.objs.size = some (.dK (putK [] q zz)) := upd_same
  have hD6 : upd H3 h'.objs.size (.dK (putK [] q zz)) s.heap.objs.size = some (.dK kvs) := by rw [upd_ne (Ne.symm nSD)]; exact hD3
  obtain ⟨z6, hd6, vs6, rel6, dd6⟩ := dk_of I6.hok hD6
  obtain ⟨z7, hd7, vs7, rel7, dd7⟩ := dk_of I6.hok hS6
  have rel7' : KV [(q, zz)] vs7 := rel7
  cases rel7' with
  | cons hp tl =>
    cases tl
    rename_i p
    obtain ⟨e1, e2⟩ := hp
    obtain ⟨p1, p2⟩ := p
    dsimp only at e1 e2
    subst e1
    refine wpAny_mergeMapping (fun e => nSD e.symm) hd7 nr dd6 dd7 (fun h7 dd8 _ hs7 => ?_) (by have := Paired.length rel6; simp; omega)
    have hl7 : (putK kvs q zz).length ≤ sizeLine := by have := length_putK kvs q zz; omega
    have new : ObjOk X.prog X.w (upd (upd H3 h'.objs.size (.dK (putK [] q zz))) s.heap.objs.size (.dK (putK kvs q zz))) h7 s.heap.objs.size (.dK (putK kvs q zz)) := dk_new hl7 hd6 (rel6.put q e2) dd8
    exact ⟨.ref s.heap.objs.size, _, d_write (t' := s6.toks) I6 (by rw [hD6]; exact True.intro) hs7 (let ⟨q, _, _, hq, _⟩ := dd8; ⟨q, hq⟩) new, rfl, hq⟩
end
end L2
namespace Z
open PySem PySem.Spec L2
variable [TabList]
section
theorem Rels.ev {K : PySem.W.Frag} {H H' : Hp} {P : Own} {ds : List D} {vs : List V} (h : Rels K H ds vs P) (e : Ev No H H') : Rels K H' ds vs P := h.frame e fun _ _ z => z
variable {X : Cx} {rx : XR} {W : WX} {C : Ctx} {a k v : E} {ea ek ev : Expr} {pos : Pos} {lv : Nat}
theorem s_dup (hr : Room lv X.A) (ha : PE X ea (tE X.K rx W C a)) (hk : PE X ek (tE X.K rx W C k)) (hv : PE X ev (tE X.K rx W C v)) : PE X (.Dict [none, some ek] [ea, ev] pos) (tE X.K rx W C (.dup a k v)) :=
  PE.of fun σ H Q ⟨env, P, hE, h⟩ => ⟨_, pe_dup ha hk hv, fun D hD => by
    simp only [evE] at h
    have fresh : ∀ {H : Hp} {D : Addr} {u : HO}, H D = none → Ev No H (upd H D u) := fun {H D u} hD => Ev.laid hD
    have evD : Ev No H (upd H D (.dK [])) := fresh hD
    have nt : New P H (Tt H P) := fun x z => .inl z.1
    refine ⟨env, Tt H P, hE.tight.ev evD, ?_⟩
    cases q : evE C a env with
    | bad => rw [q] at h; exact h.elim
    | exc x e1 => rw [q] at h; exact exc_on h nt evD.of_no
    | ok d e1 =>
      rw [q] at h
      simp only [Res.bind] at h
      intro x H1 P1 P2 r1 rd hd hn ev1
      cases d <;> (try exact h.elim)
      rename_i m ks ds
      dsimp only at h
      split at h
      rotate_left
      · exact h.elim
      rename_i hc
      obtain ⟨hi, hlim, hpu⟩ := hc
      simp only [Bool.and_eq_true] at hpu
      obtain ⟨pa, pk, pv⟩ := hpu
      obtain ⟨b, kvs, Q1, rfl, hh, ⟨rfl, nd⟩, rs⟩ := rd
      have ev1' : Ev No (upd H D (.dK [])) H1 := ev1.mono fun _ z => by have := z.1; rw [pa] at this; cases this
      have evH1 : Ev No H H1 := evD.trans ev1' fun _ z => z.elim
      have nP1 : New P H P1 := fun x z => (hn x z).elim (fun z => .inl z.1) fun z => .inr (by
        cases qq : H x with
        | none => rfl
        | some o => exact absurd z (evD.dom x (by rw [qq]; exact fun z => nomatch z)))
      have hD1 : H1 D = some (.dK []) := ev1'.keep D _ upd_same (fun _ z => nomatch z) fun z => z.elim
      have dP1 : ¬ P1 D := fun z => (hn D z).elim (fun z => z.2 hD) fun z => by rw [upd_same] at z; cases z
      have rs0 := rs.imm hi
      refine ⟨b, kvs, rfl, hh.rd, nd, hD1, fun S hS => ?_⟩
      -- the first dict holds what the other one holds; the second one lies beside it
      have nSD : S ≠ D := fun e => by rw [e, upd_same] at hS; cases hS
      have hS1 : H1 S = none := by rwa [upd_ne nSD] at hS
      have evD2 : Ev (fun x => x = D) H1 (upd H1 D (.dK kvs)) := Ev.wrote hD1 trivial rfl
      have evS : Ev No (upd H1 D (.dK kvs)) (upd (upd H1 D (.dK kvs)) S (.dK [])) := fresh hS
      have r2 : RelE X.K (upd (upd H1 D (.dK kvs)) S (.dK [])) e1 σ (Tt H1 P1) := (r1.tight.frame evD2 fun x z e => dP1 (by rw [← e]; exact z.1)).ev evS
      have rsD : Rels X.K (upd (upd H1 D (.dK kvs)) S (.dK [])) ds (kvs.map (·.2)) No := (rs0.frame evD2 fun _ z => z.elim).ev evS
      have up : ∀ {P5 : Own}, New (Tt H1 P1) (upd (upd H1 D (.dK kvs)) S (.dK [])) P5 → New P H P5 := fun {P5} n x z => (n x z).elim (fun z => nP1 x z.1) fun z => .inr (by
        cases qq : H x with
        | none => rfl
        | some o =>
          refine absurd z ?_
          have h1 := evH1.dom x (by rw [qq]; exact fun z => nomatch z)
          have h2 := evD2.dom x h1
          exact evS.dom x h2)
      have evOn : ∀ {O : Own} {H5 : Hp}, (∀ x, O x → P x ∨ H x = none) → Ev O (upd (upd H1 D (.dK kvs)) S (.dK [])) H5 → Ev P H H5 := fun {O H5} ho e => by
        refine ⟨fun x o ex t m => ?_, fun x ex => e.dom x (evS.dom x (evD2.dom x (evH1.dom x ex))), fun q t => e.tbl q (evS.tbl q (evD2.tbl q (evH1.tbl q t)))⟩
        have nD : x ≠ D := fun z => by rw [z, hD] at ex; cases ex
        have h1 := evH1.keep x o ex t fun z => z.elim
        exact e.keep x o (evS.keep x o (evD2.keep x o h1 t fun z => (nD z).elim) t fun z => z.elim) t fun z => (ho x z).elim m fun q => by rw [ex] at q; cases q
      refine ⟨e1, Tt H1 P1, r2, ?_⟩
      cases q2 : evE C k e1 with
      | bad => rw [q2] at h; exact h.elim
      | exc x e2 =>
        rw [q2] at h
        intro c dd H' P5 r5 hx n5 ev5
        exact h c dd H' P5 r5 hx (up n5) (evOn (fun x z => nP1 x z.1) ev5)
      | ok y e2 =>
        rw [q2] at h
        simp only at h
        intro yv H2 P3 P4 r3 ry hd3 hn3 ev3
        have ev3' : Ev No (upd (upd H1 D (.dK kvs)) S (.dK [])) H2 := ev3.mono fun _ z => by have := z.1; rw [pk] at this; cases this
        refine ⟨e2, P3, r3, ?_⟩
        cases q3 : evE C v e2 with
        | bad => rw [q3] at h; exact h.elim
        | exc x e3 =>
          rw [q3] at h
          intro c dd H' P5 r5 hx n5 ev5
          have n3 : New (Tt H1 P1) (upd (upd H1 D (.dK kvs)) S (.dK [])) P5 := hn3.trans ev3' n5
          exact h c dd H' P5 r5 hx (up n3) (evOn (O := P3) (fun x z => (up hn3) x z) (ev3'.of_no.trans ev5 New.refl))
        | ok z e3 =>
          rw [q3] at h
          simp only at h
          intro zv H3 P5 P6 r5 rz hd5 hn5 ev5
          have ev5' : Ev No H2 H3 := ev5.mono fun _ z => by have := z.1; rw [pv] at this; cases this
          have evS3 : Ev No (upd (upd H1 D (.dK kvs)) S (.dK [])) H3 := ev3'.trans ev5' fun _ z => z.elim
          cases q4 : dKey y with
          | none => rw [q4] at h; exact h.elim
          | some kq =>
            rw [q4] at h
            simp only at h
            split at h
            rotate_left
            · exact h.elim
            rename_i hzi
            have hD3 : H3 D = some (.dK kvs) := evS3.keep D _ (by rw [upd_ne (Ne.symm nSD), upd_same]) (fun _ z => nomatch z) fun z => z.elim
            have hS3 : H3 S = some (.dK []) := evS3.keep S _ upd_same (fun _ z => nomatch z) fun z => z.elim
            have nP5 : New P H P5 := up (fun x z => (hn3.trans ev3' hn5) x z)
            have dP5 : ¬ P5 D := fun z => by
              have h1 : New (Tt H1 P1) (upd (upd H1 D (.dK kvs)) S (.dK [])) P5 := hn3.trans ev3' hn5
              rcases h1 D z with z | z
              · exact dP1 z.1
              · rw [upd_ne (Ne.symm nSD), upd_same] at z; cases z
            have sP5 : ¬ P5 S := fun z => by
              have h1 : New (Tt H1 P1) (upd (upd H1 D (.dK kvs)) S (.dK [])) P5 := hn3.trans ev3' hn5
              rcases h1 S z with z | z
              · exact z.2 hS1
              · rw [upd_same] at z; cases z
            have evW : Ev (fun x => x = S) H3 (upd H3 S (.dK [(kq, zv)])) := Ev.wrote hS3 trivial rfl
            have hDW : upd H3 S (.dK [(kq, zv)]) D = some (.dK kvs) := by rw [upd_ne (Ne.symm nSD)]; exact hD3
            have evX : Ev (fun x => x = D) (upd H3 S (.dK [(kq, zv)])) (upd (upd H3 S (.dK [(kq, zv)])) D (.dK (L2.putK kvs kq zv))) := Ev.wrote hDW trivial rfl
            have rE := (r5.frame evW fun x z e => sP5 (by rw [← e]; exact z)).frame evX fun x z e => dP5 (by rw [← e]; exact z)
            have rv := ((Rel.imm hzi rz).frame evW fun _ z => z.elim).frame evX fun _ z => z.elim
            have rr := ((rsD.ev evS3).frame evW fun _ z => z.elim).frame evX fun _ z => z.elim
            refine ⟨kq, key_val (ry.frame ev5'.of_no fun _ _ z => z) q4, hD3, hS3, nSD, by rw [← lim_eq]; simpa using hlim, ?_⟩
            have evAll : Ev No H (upd (upd H3 S (.dK [(kq, zv)])) D (.dK (L2.putK kvs kq zv))) := by
              have h1 : Ev No H H3 := by
                refine ⟨fun x o ex t _ => ?_, fun x ex => evS3.dom x (evS.dom x (evD2.dom x (evH1.dom x ex))), fun q t => evS3.tbl q (evS.tbl q (evD2.tbl q (evH1.tbl q t)))⟩
                have nD : x ≠ D := fun z => by rw [z, hD] at ex; cases ex
                exact evS3.keep x o (evS.keep x o (evD2.keep x o (evH1.keep x o ex t fun z => z.elim) t fun z => (nD z).elim) t fun z => z.elim) t fun z => z.elim
              refine ⟨fun x o ex t _ => ?_, fun x ex => evX.dom x (evW.dom x (h1.dom x ex)), fun q t => evX.tbl q (evW.tbl q (h1.tbl q t))⟩
              have nD : x ≠ D := fun z => by rw [z, hD] at ex; cases ex
              have nS : x ≠ S := fun z => by
                have := evH1.dom x (by rw [ex]; exact fun z => nomatch z)
                rw [z, hS1] at this
                exact this rfl
              exact evX.keep x o (evW.keep x o (h1.keep x o ex t fun z => z.elim) t fun z => (nS z).elim) t fun z => (nD z).elim
            refine h (.ref D) _ P5 (fun x => x = D) rE ?_ (fun _ => ⟨fun x z e => dP5 (by rw [← e]; exact z), fun x z => .inr (by rw [z]; exact hD)⟩) nP5 (evAll.mono fun _ z => z.elim)
            refine ⟨D, L2.putK kvs kq zv, No, rfl, ⟨upd_same, rfl, fun _ z => z.elim⟩, ?_⟩
            unfold Z.putK
            cases hj : kIx (kvs.map (·.1)) kq with
            | some j =>
              simp only
              obtain ⟨e1, e2⟩ := putK_at (w := zv) nd hj
              rw [e1, e2]
              have hl : j < ds.length := by
                have := kIx_lt hj
                have l := rs.length
                simp at this l
                omega
              obtain ⟨u, Pd1, Pr, e1, s, r3, lens⟩ := rr.lens (List.getElem?_eq_getElem hl)
              have r4 := lens _ z zv No rv (fun _ z => z.elim) Ev.refl
              exact ⟨⟨rfl, nd⟩, r4.mono fun b z => z.elim id fun z => s.2.1 b z⟩
            | none =>
              simp only
              rw [putK_new hj] at rr rv ⊢
              rw [List.map_append, List.map_append]
              refine ⟨⟨rfl, ?_⟩, Rels.append (Sep.nl) rr (Rels.cons Sep.nr rv (show Rels X.K _ [] [] No from rfl))⟩
              rw [List.nodup_append]
              refine ⟨nd, by simp, fun b hb c hc e => ?_⟩
              simp at hc
              subst e; subst hc
              exact kIx_none.mp hj hb⟩
end
end Z

namespace Z
open PySem PySem.Spec L2
variable [TabList]

/-! ### what a generator expression's element reads: no frame's invariant, the heap alone -/
/-- the names that the element sees, at G -/
structure QAt (X : Cx) (H : Hp) (σ : L2.St) (G : PySem.Env) (A : Around) (s : Shared) : Prop where
  hok : HOk X.prog X.w H s.heap
  kin : X.K.In s.heap
  hd : A.handled = none
  kind : G.scope.kind = .function
  loc : ∃ m, s.heap.Ns G.locals m ∧ ∀ (i : Nat) (y : Str) (v : V), X.N[i]? = some y → σ[i]? = some (some v) → G.scope.names.lookup y = some .local → ∃ u, RelV v u ∧ m y = some u
  cell : ∀ (i : Nat) (y : Str) (v : V), X.N[i]? = some y → σ[i]? = some (some v) → G.scope.names.lookup y = some .free → ∃ c u, G.cells.lookup y = some c ∧ s.heap.IsCell c (some u) ∧ RelV v u
theorem QAt.keeps {X : Cx} {H : Hp} {σ : L2.St} {G : PySem.Env} {A : Around} {s s' : Shared} (h : QAt X H σ G A s) (k : Keeps s s') : QAt X H σ G A s' := by
  obtain ⟨h', tk, rfl, k⟩ := k
  refine ⟨h.hok.kept k, fun b o e => k b o (h.kin b o e), h.hd, h.kind, ?_, fun i y v e1 e2 e3 => ?_⟩
  · obtain ⟨m, hn, r⟩ := h.loc
    obtain ⟨o, es, ep, ho, q⟩ := hn
    exact ⟨m, ⟨o, es, ep, k _ o ho, q⟩, r⟩
  · obtain ⟨c, u, h1, h2, h3⟩ := h.cell i y v e1 e2 e3
    exact ⟨c, u, h1, h2.keeps k, h3⟩
theorem Keeps.refl {s : Shared} : Keeps s s := ⟨s.heap, s.toks, rfl, fun _ _ e => e⟩
theorem Keeps.trans {s s1 s2 : Shared} (a : Keeps s s1) (b : Keeps s1 s2) : Keeps s s2 := by
  obtain ⟨h1, t1, rfl, k1⟩ := a
  obtain ⟨h2, t2, rfl, k2⟩ := b
  exact ⟨h2, t2, rfl, fun b o e => k2 b o (k1 b o e)⟩
theorem Keeps.tok {s : Shared} {t : Nat} : Keeps s { s with toks := t } := ⟨s.heap, t, rfl, fun _ _ e => e⟩
/-- an element, read quietly; lo: how much room it wants -/
def QE (X : Cx) (G : PySem.Env) (e : Expr) (t : L2.St → Hp → (V → Prop) → Prop) : Prop :=
  ∀ (A : Around) (E : Value → Shared → Prop) (s : Shared) (σ : L2.St) (H : Hp) (R : V → Prop), QAt X H σ G A s → A.units + 65 < cLine → t σ H R → wpAny (model X.prog X.w) A (eval e G) (fun y s' => (∃ v, RelV v y ∧ R v) ∧ Keeps s s') E s
def tQ (K : PySem.W.Frag) (e : E) : L2.St → Hp → (V → Prop) → Prop := fun σ H R => ∃ env P d, RelE K H env σ P ∧ evQ e env = some d ∧ ∀ v P2, Rel K H d v P2 → R v
section
variable {K : PySem.W.Frag} {H : Hp} {h : Heap} {P : Program} {w : World} {a : Addr} {xs : List V}
theorem hok_list (hok : HOk P w H h) (kin : K.In h) (q : SqL K H a xs) : ∃ its : List Value, Vals xs its ∧ PlainL h a its.toArray ∧ xs.length ≤ sizeLine := by
  rcases q with q | ⟨o, its, n, hk, hc, hd, hs, hz, r⟩
  · obtain ⟨z, its, n, r, e⟩ := q.ok hok
    exact ⟨its, r, ⟨_, n, e, rfl, rfl, rfl⟩, z⟩
  · refine ⟨its.toList, r, ⟨o, n, kin a o hk, hc, hd, by simpa using hs⟩, ?_⟩
    have e := r.length
    simp only [Array.length_toList] at e
    omega
theorem hok_tuple (hok : HOk P w H h) (kin : K.In h) (q : SqT K H a xs) : ∃ its : List Value, Vals xs its ∧ h.IsTuple a its.toArray ∧ xs.length ≤ sizeLine := by
  rcases q with q | ⟨o, its, n, hk, hc, hs, hz, r⟩
  · obtain ⟨z, its, r, p⟩ := q.ok hok
    exact ⟨its, r, p, z⟩
  · refine ⟨its.toList, r, ⟨o, kin a o hk, hc, n, by simpa using hs⟩, ?_⟩
    have e := r.length
    simp only [Array.length_toList] at e
    omega
end
section
variable {X : Cx} {G : PySem.Env} {a b : E} {ea eb : Expr} {pos : Pos}
theorem qe_loc {i : Nat} {x : Str} {p : Pos} (hN : X.N[i]? = some x) (hv : G.scope.names.lookup x = some .local) (hd : (x == ("__debug__" : Str)) = false) : QE X G (.Name x p) (tQ X.K (.var i)) := by
  intro A Ex s σ H R q hu ⟨env, P, d, hE, hv1, hR⟩
  simp only [evQ] at hv1
  split at hv1
  · rename_i d' hd'
    cases hv1
    obtain ⟨v, P1, P2, e, _, r, _⟩ := hE.get hd'
    obtain ⟨m, hn, h⟩ := q.loc
    obtain ⟨u, ru, hm⟩ := h i x v hN e hv
    exact wpAny_Name (wpAny_loadName_local q.kind hv hn hm ⟨⟨v, ru, hR v _ r⟩, Keeps.refl⟩) hd
  · cases hv1
theorem qe_free {i : Nat} {x : Str} {p : Pos} (hN : X.N[i]? = some x) (hv : G.scope.names.lookup x = some .free) (hd : (x == ("__debug__" : Str)) = false) (hcd : (x == ("__classdict__" : Str)) = false) : QE X G (.Name x p) (tQ X.K (.var i)) := by
  intro A Ex s σ H R q hu ⟨env, P, d, hE, hv1, hR⟩
  simp only [evQ] at hv1
  split at hv1
  · rename_i d' hd'
    cases hv1
    obtain ⟨v, P1, P2, e, _, r, _⟩ := hE.get hd'
    obtain ⟨c, u, h1, h2, ru⟩ := q.cell i x v hN e hv
    exact wpAny_Name (wpAny_loadName_free q.kind hv h1 h2 ⟨⟨v, ru, hR v _ r⟩, Keeps.refl⟩ hcd) hd
  · cases hv1
theorem qe_int {i : Int} {j} : QE X G (.Constant (.int i) j pos) (tQ X.K (.cst (.int i))) := by
  intro A Ex s σ H R q hu ⟨env, P, d, hE, hv1, hR⟩
  cases hv1
  exact wpAny_Constant_int ⟨⟨.int i, ⟨_, rfl⟩, hR (.int i) No rfl⟩, Keeps.tok⟩
/-- two of them -/
theorem qe_two {f : Value → Value → Sem Value} {A : Around} {Ex : Value → Shared → Prop} {s : Shared} {σ : L2.St} {H : Hp}
    (ha : QE X G ea (tQ X.K a)) (hb : QE X G eb (tQ X.K b)) (q : QAt X H σ G A s) (hu : A.units + 65 < cLine) {env : Z.Env} {P : Own} {x y : D} (hE : RelE X.K H env σ P) (h1 : evQ a env = some x) (h2 : evQ b env = some y) {Q : Value → Shared → Prop}
    (hf : ∀ v u rv ru s2 P2 P4, RelV rv v → RelV ru u → Rel X.K H x rv P2 → Rel X.K H y ru P4 → QAt X H σ G A s2 → Keeps s s2 → wpAny (model X.prog X.w) A (f v u) Q Ex s2) :
    wpAny (model X.prog X.w) A (eval ea G) (fun v s1 => wpAny (model X.prog X.w) A (eval eb G) (fun u s2 => wpAny (model X.prog X.w) A (f v u) Q Ex s2) Ex s1) Ex s := by
  refine wpAny_mono (ha A Ex s σ H (fun v => ∃ P2, Rel X.K H x v P2) q hu ⟨_, P, x, hE, h1, fun v P2 r => ⟨P2, r⟩⟩) (fun v s1 ⟨⟨rv, r1, P2, rx⟩, k1⟩ => ?_) fun _ _ e => e
  refine wpAny_mono (hb A Ex s1 σ H (fun v => ∃ P2, Rel X.K H y v P2) (q.keeps k1) hu ⟨_, P, y, hE, h2, fun v P2 r => ⟨P2, r⟩⟩) (fun u s2 ⟨⟨ru, r2, P4, ry⟩, k2⟩ => ?_) fun _ _ e => e
  exact hf v u rv ru s2 P2 P4 r1 r2 rx ry ((q.keeps k1).keeps k2) (Z.Keeps.trans k1 k2)
/-- a part that is read: a list's or a tuple's -/
theorem qe_pidx (ha : QE X G ea (tQ X.K a)) (hb : QE X G eb (tQ X.K b)) (hs : PlainIx eb) : QE X G (.Subscript ea eb pos) (tQ X.K (.pidx a b)) := by
  intro A Ex s σ H R q hu ⟨env, P, d, hE, hv1, hR⟩
  simp only [evQ, Option.bind_eq_some_iff] at hv1
  obtain ⟨x, q1, y, q2, q3⟩ := hv1
  refine PyProof.Rows.Subscript_ (qe_two (f := fun v u => PyProof.Rows.subscriptTail ea eb v u) ha hb q hu hE q1 q2 fun v u rv ru s2 P2 P4 r1 r2 rx ry q' k => ?_)
  have hline := line63
  unfold idxQ at q3
  split at q3
  · rename_i ds i0
    obtain ⟨p, xs, rfl, st, rs⟩ := rx
    obtain rfl : ru = .int _ := ry
    obtain rfl : v = Value.ref p := r1
    obtain ⟨t, rfl⟩ := r2
    unfold atI at q3
    obtain ⟨j, hj, hd⟩ := Option.bind_eq_some_iff.mp q3
    obtain ⟨z, Pz, hz, _, rz⟩ := rs.get hd
    obtain ⟨its, rvs, pl, hzl⟩ := hok_tuple q'.hok q'.kin st
    have e5 : atI xs i0 = some z := by
      unfold atI
      rw [← rs.length, hj]
      exact hz
    obtain ⟨j', h1, h2, h3, h4, h5⟩ := atI_get e5
    obtain ⟨w', ew, rw'⟩ := rvs.get h2
    have hl := rvs.length
    exact PyProof.Rows.subscriptTail_builtinR (x := w') (Heap.IsTuple.typeIs pl) PySem.F.slot_tuple_getitem.lookup
      (PyProof.Rows.getItem_tuple (k := i0) (j := j') (Q := fun r s' => r = w' ∧ ((∃ v, RelV v r ∧ R v) ∧ Keeps s s')) pl (by omega) (by omega) (by rw [List.size_toArray, ← hl]; exact h1) (by simpa using ew) ⟨rfl, ⟨z, rw', hR z _ rz⟩, k⟩) (hs _ _)
  · rename_i m ds i0
    obtain ⟨p, xs, Q1, rfl, st, rs⟩ := rx
    obtain rfl : ru = .int _ := ry
    obtain rfl : v = Value.ref p := r1
    obtain ⟨t, rfl⟩ := r2
    unfold atI at q3
    obtain ⟨j, hj, hd⟩ := Option.bind_eq_some_iff.mp q3
    obtain ⟨z, Pz, hz, _, rz⟩ := rs.get hd
    obtain ⟨its, rvs, pl, hzl⟩ := hok_list q'.hok q'.kin (.inl st.rd)
    have e5 : atI xs i0 = some z := by
      unfold atI
      rw [← rs.length, hj]
      exact hz
    obtain ⟨j', h1, h2, h3, h4, h5⟩ := atI_get e5
    obtain ⟨w', ew, rw'⟩ := rvs.get h2
    have hl := rvs.length
    have hsz : its.toArray.size = its.length := by simp
    have fin : (∃ v, RelV v w' ∧ R v) ∧ Keeps s s2 := ⟨⟨z, rw', hR z _ rz⟩, k⟩
    by_cases h0 : 0 ≤ i0
    · have hj : i0.toNat = j' := by
        rw [seqIndex_of h0 h5] at h1
        exact Option.some.inj h1
      exact PyProof.Rows.item_listR pl.isList h0 (by omega) (by rw [hj]; simpa using ew) fin (hs _ _)
    · have hj : (i0 + (its.toArray.size : Int)).toNat = j' := by
        rw [seqIndex_neg (by omega) h4] at h1
        rw [hsz, ← hl]
        exact Option.some.inj h1
      exact PyProof.Rows.subscriptTail_builtinR (x := w') pl.isList.typeIs PySem.F.slot_list_getitem.lookup
        (wpAny_getItem_list_neg (k := i0) (Q := fun r s' => r = w' ∧ ((∃ v, RelV v r ∧ R v) ∧ Keeps s s')) pl.isList (by omega) (by omega) (by omega) (by rw [hj]; simpa using ew) ⟨rfl, fin⟩) (hs _ _)
  · cases q3
end
end Z

namespace Z
open PySem PySem.Spec L2
variable [TabList]
section
variable {K : PySem.W.Frag} {H : Hp} {P : Program} {w : World} {h : Heap}
mutual
theorem dp_reads (hok : HOk P w H h) (kin : K.In h) : ∀ (d : PyData) (v : V) (u : Value), Dp K H v d → RelV v u → ∃ as, Reads h u d as
  | .none, _, _, q, r => by cases q; cases r; exact ⟨_, Reads.none⟩
  | .bool b, _, _, q, r => by cases q; cases r; exact ⟨_, Reads.bool b⟩
  | .int i, _, _, q, r => by cases q; obtain ⟨t, rfl⟩ := r; exact ⟨_, Reads.int i t⟩
  | .str x, _, _, q, r => by cases q; obtain ⟨t, rfl⟩ := r; exact ⟨_, Reads.str x t⟩
  | .list ds, _, _, q, r => by
    cases q with
    | lst hs ha =>
      cases r
      obtain ⟨its, rv, ⟨o, n, ho, hc, _, hd⟩, _⟩ := hok_list hok kin hs
      obtain ⟨as, hr⟩ := dp_readsAll hok kin ds _ its ha rv
      exact ⟨_, Reads.list ho hc hd hr⟩
  | .tuple ds, _, _, q, r => by
    cases q with
    | tup hs ha =>
      cases r
      obtain ⟨its, rv, ⟨o, ho, hc, n, hd⟩, _⟩ := hok_tuple hok kin hs
      obtain ⟨as, hr⟩ := dp_readsAll hok kin ds _ its ha rv
      exact ⟨_, Reads.tuple ho hc hd hr⟩
  | .dict _, _, _, q, _ => by cases q
theorem dp_readsAll (hok : HOk P w H h) (kin : K.In h) : ∀ (ds : List PyData) (vs : List V) (us : List Value), DpAll K H vs ds → Vals vs us → ∃ as, ReadsAll h us ds as
  | [], _, _, q, r => by cases q; cases r; exact ⟨_, ReadsAll.nil⟩
  | d :: ds, _, _, q, r => by
    cases q with
    | cons h1 h2 =>
      cases r with
      | cons r1 r2 =>
        obtain ⟨as, q1⟩ := dp_reads hok kin d _ _ h1 r1
        obtain ⟨bs, q2⟩ := dp_readsAll hok kin ds _ _ h2 r2
        exact ⟨_, ReadsAll.cons q1 q2⟩
end
end
section
variable {X : Cx} {G : PySem.Env} {a b : E} {ea eb : Expr} {pos : Pos}
theorem qe_in (ha : QE X G ea (tQ X.K a)) (hb : QE X G eb (tQ X.K b)) (hm : behindInMarks .In eb = false) : QE X G (.Compare ea [.In] [eb] pos) (tQ X.K (.ap .inn (.cons a (.cons b .nil)))) := by
  intro A Ex s σ H R q hu ⟨env, P, d, hE, hv1, hR⟩
  simp only [evQ] at hv1
  obtain ⟨ds, hds, hp⟩ := Option.bind_eq_some_iff.mp hv1
  simp only [evQs, Option.bind_eq_some_iff, Option.map_eq_some_iff] at hds
  obtain ⟨x, q1, l1, ⟨y, q2, l2, h0, rfl⟩, rfl⟩ := hds
  cases h0
  obtain ⟨c, q3, rfl, hy⟩ : ∃ c, opIn x y = some c ∧ d = .bl c ∧ ∀ m ks ds, y ≠ .dic m ks ds := by
    unfold apQ at hp
    split at hp <;> (try (simp only [reduceCtorEq] at *; done)) <;> (try (rename_i h1 h2; simp only [List.cons.injEq, and_true] at h2; obtain ⟨rfl, rfl⟩ := h2; simp only [Option.map_eq_some_iff] at hp; obtain ⟨c, hc, rfl⟩ := hp; exact ⟨c, hc, rfl, fun _ _ _ z => nomatch z⟩))
    all_goals (first | (cases hp; done) | skip)
  refine wpAny_Compare1 (qe_two (f := fun v u => compareOp .In v u) ha hb q hu hE q1 q2 fun v u rv ru s2 P2 P4 r1 r2 rx ry q' k => ?_) hm
  have fin : (∃ v, RelV v (Value.bool c) ∧ R v) ∧ Keeps s s2 := ⟨⟨.bl c, rfl, hR (.bl c) No rfl⟩, k⟩
  cases y <;> simp only [opIn, reduceCtorEq, Option.some.injEq, Option.map_eq_some_iff, Option.bind_eq_some_iff, Option.ite_none_right_eq_some, Bool.and_eq_true] at q3
  · cases x <;> simp only [reduceCtorEq, Option.some.injEq] at q3
    obtain rfl : rv = .str _ := rx
    obtain rfl : ru = .str _ := ry
    obtain ⟨t, rfl⟩ := r1
    obtain ⟨t', rfl⟩ := r2
    subst q3
    exact PyProof.Rows.in_str fin
  · obtain ⟨x1, h1, ys, h2, ⟨h3, h4⟩, rfl⟩ := q3
    obtain ⟨as, e1⟩ := dp_reads q'.hok q'.kin x1 rv v (dp_of rx h1) r1
    obtain ⟨bs, e2⟩ := dp_reads q'.hok q'.kin (.tuple ys) ru u (dp_of ry (by simp [toPy, h2])) r2
    exact SeqAt.in_tuple_reads e2 e1 (SeqAt.canLay_of_shaped h4) (SeqAt.canLay_of_shaped h3) (PyProof.Rows.room_in_shaped h3 hu) fin
  · obtain ⟨x1, h1, ys, h2, ⟨h3, h4⟩, rfl⟩ := q3
    obtain ⟨as, e1⟩ := dp_reads q'.hok q'.kin x1 rv v (dp_of rx h1) r1
    obtain ⟨bs, e2⟩ := dp_reads q'.hok q'.kin (.list ys) ru u (dp_of ry (by simp [toPy, h2])) r2
    exact SeqAt.in_list_reads e2 e1 (SeqAt.canLay_of_shaped h4) (SeqAt.canLay_of_shaped h3) (PyProof.Rows.room_in_shaped h3 hu) fin
  · exact absurd rfl (hy _ _ _)
theorem qe_nin (ha : QE X G ea (tQ X.K a)) (hb : QE X G eb (tQ X.K b)) (hm : behindInMarks .NotIn eb = false) : QE X G (.Compare ea [.NotIn] [eb] pos) (tQ X.K (.ap .nin (.cons a (.cons b .nil)))) := by
  intro A Ex s σ H R q hu ⟨env, P, d, hE, hv1, hR⟩
  simp only [evQ] at hv1
  obtain ⟨ds, hds, hp⟩ := Option.bind_eq_some_iff.mp hv1
  simp only [evQs, Option.bind_eq_some_iff, Option.map_eq_some_iff] at hds
  obtain ⟨x, q1, l1, ⟨y, q2, l2, h0, rfl⟩, rfl⟩ := hds
  cases h0
  obtain ⟨c, q3, rfl, hy⟩ : ∃ c, opIn x y = some c ∧ d = .bl (!c) ∧ ∀ m ks ds, y ≠ .dic m ks ds := by
    unfold apQ at hp
    split at hp <;> (try (simp only [reduceCtorEq] at *; done)) <;> (try (rename_i h1 h2; simp only [List.cons.injEq, and_true] at h2; obtain ⟨rfl, rfl⟩ := h2; simp only [Option.map_eq_some_iff] at hp; obtain ⟨c, hc, rfl⟩ := hp; exact ⟨c, hc, rfl, fun _ _ _ z => nomatch z⟩))
    all_goals (first | (cases hp; done) | skip)
  refine wpAny_Compare1 (qe_two (f := fun v u => compareOp .NotIn v u) ha hb q hu hE q1 q2 fun v u rv ru s2 P2 P4 r1 r2 rx ry q' k => ?_) hm
  have fin : (∃ v, RelV v (Value.bool (!c)) ∧ R v) ∧ Keeps s s2 := ⟨⟨.bl (!c), rfl, hR (.bl (!c)) No rfl⟩, k⟩
  cases y <;> simp only [opIn, reduceCtorEq, Option.some.injEq, Option.map_eq_some_iff, Option.bind_eq_some_iff, Option.ite_none_right_eq_some, Bool.and_eq_true] at q3
  · cases x <;> simp only [reduceCtorEq, Option.some.injEq] at q3
    obtain rfl : rv = .str _ := rx
    obtain rfl : ru = .str _ := ry
    obtain ⟨t, rfl⟩ := r1
    obtain ⟨t', rfl⟩ := r2
    subst q3
    exact PyProof.Rows.notIn_str fin
  · obtain ⟨x1, h1, ys, h2, ⟨h3, h4⟩, rfl⟩ := q3
    obtain ⟨as, e1⟩ := dp_reads q'.hok q'.kin x1 rv v (dp_of rx h1) r1
    obtain ⟨bs, e2⟩ := dp_reads q'.hok q'.kin (.tuple ys) ru u (dp_of ry (by simp [toPy, h2])) r2
    exact SeqAt.notIn_tuple_reads e2 e1 (SeqAt.canLay_of_shaped h4) (SeqAt.canLay_of_shaped h3) (PyProof.Rows.room_in_shaped h3 hu) fin
  · obtain ⟨x1, h1, ys, h2, ⟨h3, h4⟩, rfl⟩ := q3
    obtain ⟨as, e1⟩ := dp_reads q'.hok q'.kin x1 rv v (dp_of rx h1) r1
    obtain ⟨bs, e2⟩ := dp_reads q'.hok q'.kin (.list ys) ru u (dp_of ry (by simp [toPy, h2])) r2
    exact SeqAt.notIn_list_reads e2 e1 (SeqAt.canLay_of_shaped h4) (SeqAt.canLay_of_shaped h3) (PyProof.Rows.room_in_shaped h3 hu) fin
  · exact absurd rfl (hy _ _ _)
end
end Z

namespace Z
open PySem PySem.Spec PyProof.Rows L2
variable [TabList]
/-- the state of the heap that an element may count on -/
structure ElS (X : Cx) (H1 : Hp) (h1 : Heap) (P : Addr) (A : Around) (s : Shared) : Prop where
  keep : ∀ b o, b ≠ P → h1.get? b = some o → s.heap.get? b = some o
  hok : ∃ H2, Ev No H1 H2 ∧ HOk X.prog X.w H2 s.heap
  hd : A.handled = none
  un : A.units ≤ X.A.units + 8
def ElB (X : Cx) (H1 : Hp) (h1 : Heap) (P : Addr) (scope : Scope) (x : Str) (elt : Expr) (xs : List V) (bs : List Bool) : Prop :=
  ∀ (G : PySem.Env), G.scope = scope → G.cells = cloFrom X.env.cells scope.names [] → ∀ (i : Nat) (v : V) (b : Bool), xs[i]? = some v → bs[i]? = some b → ∀ (A : Around) (Ex : Value → Shared → Prop) (s : Shared) (m : Str → Option Value) (u : Value), ElS X H1 h1 P A s → s.heap.Ns G.locals m → RelV v u → m x = some u →
    wpAny (model X.prog X.w) A (eval elt G) (fun y s3 => y = .bool b ∧ Keeps s s3) Ex s
section
variable {X : Cx} {pins : List (Addr × Obj)} {σ : L2.St} {H : Hp} {s : Shared}
def ReadyB (X : Cx) (pins : List (Addr × Obj)) (σ : L2.St) (H1 : Hp) (P : Addr) (bs : List Bool) (g : Addr) (s5 : Shared) : Prop :=
  ∃ (fp wr : List Addr) (Gn : Array GenState → Array GenState → Prop) (F : Nat → Value → Prop) (St : Nat → Shared → Prop),
    WalksS X.prog X.w X.A.in1 g fp wr Gn bs.length F St ∧ St 0 s5 ∧ (∀ j v, F j v → ∃ b, bs[j]? = some b ∧ v = .bool b) ∧
    ∀ s', Moved wr Gn s5 s' → ∃ H2, Ev No H1 H2 ∧ Inv X pins σ H2 s'
theorem ev_tab {H : Hp} {P : Addr} {ps more : Array Value} (h : H P = some (.tbl ps)) (ok : TriplesOk (ps ++ more).toList) : Ev No H (upd H P (.tbl (ps ++ more))) := by
  refine ⟨fun a o e t _ => ?_, fun a e => ?_, fun q t => ?_⟩
  · rw [upd_ne (fun z => by rw [z, h] at e; cases e; exact t ps rfl)]; exact e
  · by_cases z : a = P
    · rw [z, upd_same]; exact fun z => nomatch z
    · rw [upd_ne z]; exact e
  · by_cases z : q = P
    · exact ⟨ps ++ more, by rw [z, upd_same], ok⟩
    · obtain ⟨ps', e, ok'⟩ := t
      exact ⟨ps', by rw [upd_ne z]; exact e, ok'⟩
theorem gen_seq {c P : Addr} {elt iter : Expr} {x : Str} {px gpos : Pos} {scope : Scope} {te : TE} {k : Nat} {Q' : Value → Shared → Prop} {R : List Bool → Hp → Prop}
    (hr : Room k X.A) (TB : GxR.TabB X.base X.mg c P) (hcode : X.env.code = .ref c) (S : GxR.GenS X.env scope x) (hi : PE X iter te)
    (hs : ∀ v, genFold iter X.env v = pure v) (I : Inv X pins σ H s) (h : te σ H fun v H1 => ∃ (yl : Addr) (xs : List V) (bs : List Bool), v = .ref yl ∧ (SqL X.K H1 yl xs ∨ SqT X.K H1 yl xs) ∧ bs.length = xs.length ∧ TabG' H1 P ∧ (∀ s1, Inv X pins σ H1 s1 → ElB X H1 s1.heap P scope x elt xs bs) ∧ R bs H1)
    (hQ : ∀ bs H1 g s5, R bs H1 → ReadyB X pins σ H1 P bs g s5 → Q' (.ref g) s5) :
    wpAny (model X.prog X.w) X.A (eval (.GeneratorExp elt [⟨.Name x px, iter, [], 0⟩] scope gpos) X.env) Q' X.xe s := by
  refine wpAny_GeneratorExp_walksQD hr.hd S.co (closure_ok S.free) S.cell S.dot S.loc S.kind (by have := hr.dp; omega) ?_ hs
  refine thn (hi.run pins s σ H _ I h) fun xv s1 ⟨v, H1, I1, r1, q1⟩ => ?_
  obtain ⟨yl, xs, bs, rfl, hyl, hbs, ⟨ps, hP, ht⟩, hel, q1⟩ := q1
  have hel := hel s1 I1
  obtain rfl : xv = Value.ref yl := r1
  have hPs : s1.heap.get? P = some { cls := .none, data := .fields ps } := I1.hok P _ hP
  have hPlt : P < s1.heap.objs.size := Heap.lt_size hPs
  -- the two kinds of sequences: the iterator, what it yields
  obtain ⟨its, rv, o, St, hylt, hylP, W, hst0, hiter⟩ : ∃ (its : List Value) (rv : Vals xs its) (o : Obj) (St : Nat → Heap → Prop), yl < s1.heap.objs.size ∧ yl ≠ P ∧
      (∀ A' : Around, A'.handled = none → Walks X.prog X.w A' s1.heap.objs.size [s1.heap.objs.size, yl] [s1.heap.objs.size] its.toArray.size (fun i v => its.toArray[i]? = some v) St) ∧
      St 0 (s1.heap.push o) ∧ ∀ (Q : Value → Shared → Prop), Q (.ref s1.heap.objs.size) { s1 with heap := s1.heap.push o } → wpAny (model X.prog X.w) X.A (pyIter (.ref yl)) Q X.xe s1 := by
    rcases hyl with hyl | hyl
    · obtain ⟨its, rv, hl, hz⟩ := I1.list hyl
      have hIL := hl.isList
      have hylt : yl < s1.heap.objs.size := by
        obtain ⟨_, e, _⟩ := _root_.id hIL
        exact Heap.lt_size e
      refine ⟨its, rv, { cls := .type "list_iterator", data := .fields #[.ref yl, .int 0 0] }, _, hylt, fun z => ?_, fun A' hA => Walks.list hA _ _ (Nat.ne_of_lt hylt) _, ⟨⟨_, Heap.get?_push_size _ rfl, rfl, rfl⟩, ?_⟩, fun Q hq => wpAny_pyIter_list hIL hq⟩
      · obtain ⟨_, e, hc1, _, hd1⟩ := _root_.id hIL
        rw [z, hPs] at e
        cases e
        cases hd1
      · obtain ⟨ob, e, r⟩ := _root_.id hIL
        exact ⟨ob, Heap.get?_push_of_some _ e, r⟩
    · obtain ⟨its, rv, hl, hz⟩ := I1.tuple hyl
      have hIT : s1.heap.IsTuple yl its.toArray := hl
      have hylt : yl < s1.heap.objs.size := by
        obtain ⟨_, e, _⟩ := _root_.id hIT
        exact Heap.lt_size e
      refine ⟨its, rv, { cls := .type "tuple_iterator", data := .fields #[.ref yl, .int 0 0] }, _, hylt, fun z => ?_, fun A' hA => Walks.tuple hA _ _ (Nat.ne_of_lt hylt) _, ⟨⟨_, Heap.get?_push_size _ rfl, rfl, rfl⟩, ?_⟩, fun Q hq => wpAny_pyIter_tuple hIT hq⟩
      · obtain ⟨_, e, hc1, _, hd1⟩ := _root_.id hIT
        rw [z, hPs] at e
        cases e
        cases hd1
      · obtain ⟨ob, e, r⟩ := _root_.id hIT
        exact ⟨ob, Heap.get?_push_of_some _ e, r⟩
  have hlen : its.length = bs.length := by rw [← rv.length, hbs]
  refine hiter _ ?_
  have hP2 : (s1.heap.push o).get? P = some { cls := .none, data := .fields ps } := Heap.get?_push_of_some _ hPs
  have cd : PySem.W.CodeHd (s1.heap.push o) c P := TB.code.keeps fun b u e => Heap.get?_push_of_some _ (I1.bk b u e)
  have lim2 : (s1.heap.push o).NoLimit := I1.nolimit.push o
  have cont : ∀ (code : Value) (h3 : Heap) (tk : Nat) (ps' : Array Value), Heap.ExtBut P (s1.heap.push o) h3 → (s1.heap.push o).objs.size ≤ h3.objs.size → h3.get? P = some { cls := .none, data := .fields ps' } → (∃ more, ps' = ps ++ more) → TriplesOk ps'.toList →
      wpAny (model X.prog X.w) X.A (builtinsFor X.env.globals X.env.builtins) (fun bi s₄ =>
        ∃ Ia fp wr n₀ Pf St₀ pz F, Value.ref s1.heap.objs.size = .ref Ia ∧ (∀ A' : Around, A'.handled = none → Walks X.prog X.w A' Ia fp wr n₀ Pf St₀) ∧ St₀ 0 s₄.heap ∧ (∀ b ∈ fp, b < s₄.heap.objs.size) ∧ s₄.heap.NoLimit ∧ cStatics ∉ wr ∧
          (∀ href : Heap, (∀ b o, s₄.heap.get? b = some o → href.get? b = some o) →
            QuietGenD X.prog X.w (genEnv scope (cloFrom X.env.cells scope.names []) s₄.heap.objs.size code bi X.env) x [] elt (List.range s₄.heap.objs.size) wr Pf pz F href (X.A.depth + 1) (X.A.units + 8)) ∧
          (∀ a h₅ tk gs, gs.bare = true → s₄.heap.objs.size < a → h₅.objs.size = a + 1 → (∀ b o, s₄.heap.get? b = some o → h₅.get? b = some o) →
            WalksS X.prog X.w X.A.in4 a (a :: s₄.heap.objs.size :: List.range s₄.heap.objs.size) (s₄.heap.objs.size :: wr) (GenOnlyQ s₄.gens.size) (passing pz n₀ 0).length
              (fun j y => ∃ i, (passing pz n₀ 0)[j]? = some i ∧ F i y) (GenAt X.prog X.w X.A.in4 a s₄.gens.size s₄.heap.objs.size (List.range s₄.heap.objs.size) wr pz n₀ F) →
            GenAt X.prog X.w X.A.in4 a s₄.gens.size s₄.heap.objs.size (List.range s₄.heap.objs.size) wr pz n₀ F 0 { s₄ with gens := s₄.gens.push gs, toks := tk, heap := h₅ } →
            Q' (.ref a) { s₄ with gens := s₄.gens.push gs, toks := tk, heap := h₅ })) X.xe { s1 with heap := h3, toks := tk } := by
    intro code h3 tk ps' hx hsz hP3 hmore ht3
    obtain ⟨more, em⟩ := hmore
    subst em
    obtain ⟨bm, ob, e1, e2, e3, e4, e5, e6, e7, e8⟩ := TB.bm
    have hcP : cStatics ≠ P := fun e => by
      obtain ⟨_, hns, _⟩ := I1.nolimit
      obtain ⟨o', es, ep, ho, hd, _⟩ := hns
      rw [e, hPs] at ho
      cases ho
      cases hd
    have hcl : cStatics < s1.heap.objs.size := let ⟨_, hns, _⟩ := I1.nolimit; hns.lt
    have sz2 : (s1.heap.push o).objs.size = s1.heap.objs.size + 1 := Heap.size_push ..
    have keep3 : ∀ b u, b ≠ P → s1.heap.get? b = some u → h3.get? b = some u := fun b u hb e => hx b u hb (Heap.get?_push_of_some _ e)
    refine wpAny_builtinsFor (m := X.mg) (by rw [I1.ok.glob]; exact ((I1.mod.glob.keeps I1.bk).push o).extBut hx TB.gP) e1 e2 (keep3 _ _ e4 (I1.bk _ _ e5)) e6 e7 e8 ?_
    have hst3 : St 0 h3 := (W X.A hr.hd).frame _ _ _ hst0 fun b hb u e => hx b u (fun z => by
      rcases List.mem_cons.mp hb with z2 | z2
      · exact Nat.ne_of_lt hPlt (z.symm.trans z2)
      · rcases List.mem_cons.mp z2 with z2 | z2
        · exact hylP (z2.symm.trans z)
        · cases z2) e
    have evT := ev_tab (more := more) hP ht3
    refine ⟨s1.heap.objs.size, [s1.heap.objs.size, yl], [s1.heap.objs.size], its.toArray.size, (fun i v => its.toArray[i]? = some v), St, (fun _ => true),
      (fun i y => ∃ b, bs[i]? = some b ∧ y = .bool b), rfl, W, hst3, ?_, lim2.extBut hx hcP, ?_, ?_, ?_⟩
    · intro b hb
      rcases List.mem_cons.mp hb with z | z
      · rw [z]
        show s1.heap.objs.size < h3.objs.size
        omega
      · rcases List.mem_cons.mp z with z | z
        · rw [z]
          have e9 : s1.heap.objs.size ≤ h3.objs.size := by omega
          exact Nat.lt_of_lt_of_le hylt e9
        · cases z
    · intro z
      rcases List.mem_cons.mp z with z | z
      · exact Nat.ne_of_lt hcl z
      · cases z
    · intro href hhref
      refine ⟨fun A' E' i v s₂ m₂ hA hdp hun hPv hn hm hk => ?_, fun A' E' i v s₂ m₂ hA hdp hun hPv hp hn hm hk => ?_⟩
      · simp only [List.forIn_nil]
        exact wpAny_pure ⟨rfl, GxR.keeps_refl _⟩
      · have hPv2 : its[i]? = some v := by simpa using hPv
        have hi2 : i < its.length := (List.getElem?_eq_some_iff.mp hPv2).1
        obtain ⟨b, hb⟩ : ∃ b, bs[i]? = some b := ⟨bs[i]'(by omega), List.getElem?_eq_getElem _⟩
        obtain ⟨xv, hxv⟩ : ∃ xv, xs[i]? = some xv := ⟨xs[i]'(by rw [rv.length]; exact hi2), List.getElem?_eq_getElem _⟩
        obtain ⟨u, hu, ru⟩ := rv.get hxv
        rw [hPv2] at hu
        cases hu
        have kp : ∀ b o, b ≠ P → s1.heap.get? b = some o → s₂.heap.get? b = some o := fun b o hb e => by
          have hl := Heap.lt_size e
          have h9 : b < h3.objs.size := by
            have e9 : s1.heap.objs.size ≤ h3.objs.size := by omega
            exact Nat.lt_of_lt_of_le hl e9
          exact hk b (List.mem_range.mpr h9) (fun z => by
            rcases List.mem_cons.mp z with z | z
            · exact Nat.ne_of_lt hl z
            · cases z) o (hhref b o (keep3 b o hb e))
        have hP4 : s₂.heap.get? P = some { cls := .none, data := .fields (ps ++ more) } := by
          have h9 : P < h3.objs.size := by
            have e9 : s1.heap.objs.size ≤ h3.objs.size := by omega
            exact Nat.lt_of_lt_of_le hPlt e9
          exact hk P (List.mem_range.mpr h9) (fun z => by
            rcases List.mem_cons.mp z with z | z
            · exact Nat.ne_of_lt hPlt z
            · cases z) _ (hhref P _ hP3)
        have J := GxR.inv_tab (more := more) (h' := s₂.heap) (g' := s1.gens) (d' := s1.drawn) (t' := s1.toks) I1 hP kp hP4 I1.bare
        refine wpAny_mono (hel _ rfl rfl i xv b hxv hb A' E' s₂ m₂ v ⟨kp, ⟨_, evT, J.hok⟩, hA, hun⟩ hn ru hm) (fun y s3 r => ⟨⟨b, hb, r.1⟩, r.2⟩) fun _ _ e => e
    · intro g h5 tk5 gs hgb hag hsz5 hk5 W5 hgat
      simp only [GxR.passing_true, List.length_range] at W5
      have hn5 : its.toArray.size = bs.length := by rw [List.size_toArray, hlen]
      rw [hn5] at W5 hgat
      refine hQ bs H1 g _ q1 ⟨_, _, _, _, _, W5.in4_1, hgat, ?_, fun s' hm => ?_⟩
      · intro j v hv
        obtain ⟨i, hij, b, hb, e⟩ := hv
        obtain ⟨hj, ej⟩ := List.getElem?_eq_some_iff.mp hij
        rw [List.getElem_range] at ej
        subst ej
        exact ⟨b, hb, e⟩
      · have nwr : ∀ b u, s1.heap.get? b = some u → b ∉ h3.objs.size :: [s1.heap.objs.size] := fun b u e hb => by
          have hl := Heap.lt_size e
          rcases List.mem_cons.mp hb with z | z
          · rw [z] at hl
            have h9 : (h3.objs.size : Nat) < s1.heap.objs.size := hl
            omega
          · rcases List.mem_cons.mp z with z | z
            · rw [z] at hl
              exact Nat.lt_irrefl _ hl
            · cases z
        have J := GxR.inv_tab (more := more) (h' := s'.heap) (g' := s'.gens) (d' := s'.drawn) (t' := s'.toks) I1 hP (fun b u hb e => hm.heap b u (nwr b u e) (hk5 b u (keep3 b u hb e)))
          (hm.heap P _ (nwr P _ hPs) (hk5 P _ hP3)) (AllBare.movedS (I1.bare.push hgb) hm)
        rw [GxR.sh_eta s1 s' hm.os] at J
        exact ⟨_, evT, J⟩
  refine ⟨lim2, ?_⟩
  cases hf : codeAmong gpos ps.toList with
  | none =>
    refine wpAny_genexprCodeX hcode (cd.code hP2 ht) (cd.tab hP2) hf fun c' h' tk hx hge hlt hco' _ htab' _ => ?_
    obtain ⟨o1, vs, f1, tf, fl, tg, inF, tx, tt, op, _, _, _, _, _, _, _, _, _, htr, _⟩ := hco'
    exact cont _ h' tk _ hx (Nat.le_trans hge (Nat.le_of_lt hlt)) htab'.2 ⟨_, rfl⟩ htr
  | some cv =>
    refine wpAny_genexprCode_hit hcode (cd.code hP2 ht) hf ?_
    exact cont cv (s1.heap.push o) s1.toks ps (Heap.ExtBut.refl _ _) (Nat.le_refl _) hP2 ⟨#[], by simp⟩ ht
end
end Z

namespace Z
open PySem PySem.Spec PyProof.Rows L2
variable [TabList]
/-- a generator expression's scope: its one name x, names of the def that it captures -/
def genB (N : List Str) (sc scope : Scope) (x : Str) : Bool :=
  (match scope.kind with | .function => true | _ => false) && !scope.isCoroutine && (scope.names.all fun y => decide (scope.names.lookup y.1 = some y.2)) &&
    decide (scope.names.lookup (".0" : Str) = some NameKind.local) && decide (scope.names.lookup x = some NameKind.local) &&
    (scope.names.all fun y => match y.2 with
      | .free => (match sc.names.lookup y.1 with | some .cell => true | some .free => true | _ => false)
      | .local => decide (y.1 = x) || decide (y.1 ∉ N)
      | .cell => false
      | _ => true)
structure GenF (N : List Str) (sc scope : Scope) (x : Str) : Prop where
  kind : scope.kind = .function
  co : scope.isCoroutine = false
  uniq : ∀ y ∈ scope.names, scope.names.lookup y.1 = some y.2
  dot : scope.names.lookup (".0" : Str) = some NameKind.local
  loc : scope.names.lookup x = some .local
  cell : ∀ y ∈ scope.names, y.2 ≠ .cell
  free : ∀ y ∈ scope.names, y.2 = .free → sc.names.lookup y.1 = some .cell ∨ sc.names.lookup y.1 = some .free
  own : ∀ y ∈ scope.names, y.2 = .local → y.1 = x ∨ y.1 ∉ N
theorem genF {N : List Str} {sc scope : Scope} {x : Str} (h : genB N sc scope x = true) : GenF N sc scope x := by
  unfold genB at h
  simp only [Bool.and_eq_true, List.all_eq_true, decide_eq_true_eq, Bool.not_eq_true'] at h
  obtain ⟨⟨⟨⟨⟨h1, h2⟩, h3⟩, h4⟩, h5⟩, h6⟩ := h
  refine ⟨?_, h2, h3, h4, h5, fun y hy e => ?_, fun y hy e => ?_, fun y hy e => ?_⟩
  · split at h1
    · assumption
    · cases h1
  · have q := h6 y hy
    rw [e] at q
    cases q
  · have q := h6 y hy
    simp only [e] at q
    split at q <;> first | exact .inl (by assumption) | exact .inr (by assumption) | cases q
  · have q := h6 y hy
    simp only [e, Bool.or_eq_true, decide_eq_true_eq] at q
    exact q
theorem genAll_get {ix : Nat} {e : E} {env : Z.Env} : ∀ {ds : List D} {bs : List Bool}, genAll (.one ix) e env ds = some bs → bs.length = ds.length ∧ ∀ (i : Nat) (d : D) (b : Bool), ds[i]? = some d → bs[i]? = some b → ix < env.length ∧ evQ e (env.set ix (some d)) = some (.bl b)
  | [], bs, h => by
    simp only [genAll, Option.some.injEq] at h
    subst h
    exact ⟨rfl, fun i d b e => by simp at e⟩
  | d :: ds, bs, h => by
    simp only [genAll, bindT, Option.bind_eq_some_iff, Option.ite_none_right_eq_some, Option.some.injEq] at h
    obtain ⟨env1, ⟨hl, rfl⟩, h⟩ := h
    split at h
    · rename_i b hb
      obtain ⟨bs', hbs, rfl⟩ := Option.map_eq_some_iff.mp h
      obtain ⟨h1, h2⟩ := genAll_get hbs
      refine ⟨by simp [h1], fun i d' b' e1 e2 => ?_⟩
      cases i with
      | zero =>
        simp at e1 e2
        subst e1 e2
        exact ⟨hl, hb⟩
      | succ i => exact h2 i d' b' (by simpa using e1) (by simpa using e2)
    · cases h
section
variable {X : Cx} {pins : List (Addr × Obj)} {σ : L2.St} {H1 : Hp} {s1 : Shared}
/-- the element's reading, from the quiet layer's -/
theorem el_of {k : Nat} {P : Addr} {scope : Scope} {x : Str} {elt : Expr} {e : E} {ix : Nat} {xs : List V} {bs : List Bool} {ds : List D} {e1 : Z.Env} {P1 : Own} (hr : Room k X.A) (hN : X.N.Nodup) (hx : X.N[ix]? = some x) (hgen : GenF X.N X.env.scope scope x)
    (hel : ∀ G : PySem.Env, G.scope = scope → QE X G elt (tQ X.K e)) (hT : TabG' H1 P) (r : RelE X.K H1 e1 σ P1) (rs : Rels X.K H1 ds xs No) (hg : genAll (.one ix) e (wipeE [ix] e1) ds = some bs) (I1 : Inv X pins σ H1 s1) : ElB X H1 s1.heap P scope x elt xs bs := by
  intro G hG hcells i v b hxv hbs A Ex s m u els hn ru hm
  obtain ⟨g1, g2⟩ := genAll_get hg
  obtain ⟨H2, ev, hok⟩ := els.hok
  obtain ⟨ps, hP, ht⟩ := hT
  have hPs : s1.heap.get? P = some { cls := .none, data := .fields ps } := I1.hok P _ hP
  have hi : i < ds.length := by rw [rs.length]; exact (List.getElem?_eq_some_iff.mp hxv).1
  obtain ⟨d, hd⟩ : ∃ d, ds[i]? = some d := ⟨ds[i], List.getElem?_eq_getElem hi⟩
  obtain ⟨v', Pv, hv', sub, rv⟩ := rs.get hd
  obtain rfl : v' = v := by rw [hxv] at hv'; exact (Option.some.inj hv').symm
  obtain ⟨hl, he⟩ := g2 i d b hd hbs
  have rv0 : Rel X.K H1 d v' No := rv.mono sub
  have rE : RelE X.K H2 ((wipeE [ix] e1).set ix (some d)) ((L2.wipe σ [ix]).set ix (some v')) P1 := ((r.wipe (vs := [ix])).store (P := P1) hl ⟨fun _ z => z.elim, fun _ z => z, fun _ z => z.elim⟩ rv0).ev ev
  have hsl : (L2.wipe σ [ix]).set ix (some v') = σ.set ix (some v') := by
    show (σ.set ix none).set ix (some v') = _
    rw [List.set_set]
  rw [hsl] at rE
  have nK : ∀ b o, X.base.get? b = some o → b ≠ P := fun b o e z => by
    have := (I1.bs b o e).2
    rw [z, hP] at this
    cases this
  have q : QAt X H2 (σ.set ix (some v')) G A s := by
    refine ⟨hok, fun b o e => els.keep b o (nK b o (I1.ok.mod.kin b o e)) (I1.kIn b o e), els.hd, by rw [hG]; exact hgen.kind, ⟨m, hn, fun j y w e1 e2 e3 => ?_⟩, fun j y w e1 e2 e3 => ?_⟩
    · rw [hG] at e3
      have hy := hgen.own _ (PySem.mem_of_lookup e3) rfl
      rcases hy with hy | hy
      · have hy : y = x := hy
        subst hy
        have hj : j = ix := by
          have a1 := (List.getElem?_eq_some_iff.mp e1)
          have a2 := (List.getElem?_eq_some_iff.mp hx)
          obtain ⟨l1, a1⟩ := a1
          obtain ⟨l2, a2⟩ := a2
          exact (List.getElem_inj hN).mp (a1.trans a2.symm)
        subst hj
        rw [List.getElem?_set_self (by
          have := (List.getElem?_eq_some_iff.mp e2).1
          simpa using this)] at e2
        cases e2
        exact ⟨u, ru, hm⟩
      · exact absurd (List.mem_of_getElem? e1) hy
    · rw [hG] at e3
      have hmem := PySem.mem_of_lookup e3
      have hvis := hgen.free _ hmem rfl
      have hj : ix ≠ j := fun z => by
        subst z
        rw [hx] at e1
        cases e1
        rw [hgen.loc] at e3
        cases e3
      rw [List.getElem?_set_ne hj] at e2
      obtain ⟨m1, hn1, hl1⟩ := I1.loc
      obtain ⟨u1, ru1, lk⟩ := hl1 j y w e1 e2 (.inr hvis)
      rcases lk with ⟨hk, _⟩ | ⟨_, c, hc, hcell⟩
      · have hk : X.env.scope.names.lookup y = some .local := hk
        rcases hvis with z | z
        · rw [hk] at z; cases z
        · rw [hk] at z; cases z
      · have hcP : c ≠ P := fun z => by
          obtain ⟨o, ho, hd2⟩ := hcell
          rw [z, hPs] at ho
          cases ho
          cases hd2
        refine ⟨c, u1, ?_, ?_, ru1⟩
        · rw [hcells]
          exact NdefX.clo_has (fun y hy e => by
            rcases hgen.free y hy e with k | k
            · exact I1.ok.has _ (.inl k)
            · exact I1.ok.has _ (.inr k)) hmem hc
        · obtain ⟨o, ho, hd2⟩ := hcell
          exact ⟨o, els.keep c o hcP ho, hd2⟩
  have hun : A.units + 65 < cLine := by have := hr.un; have := els.un; omega
  refine wpAny_mono (hel G hG A Ex s _ H2 (fun w => w = .bl b) q hun ⟨_, P1, _, rE, he, fun w P2 rw' => rw'⟩) (fun y s3 ⟨⟨w, rw', ew⟩, k⟩ => ⟨?_, k⟩) fun _ _ e => e
  subst ew
  exact rw'
end
section
variable {X : Cx} {rx : XR} {W : WX} {C : Ctx} {a e : E} {ea elt : Expr} {p pos gpos px : Pos}
theorem all_range (bs : List Bool) : (List.range bs.length).all (fun j => bs.getD j false) = bs.all id := by
  rw [Bool.eq_iff_iff]
  simp only [List.all_eq_true, List.mem_range, id]
  constructor
  · intro h b hb
    obtain ⟨j, hj, rfl⟩ := List.mem_iff_getElem.mp hb
    simpa [List.getD, List.getElem?_eq_getElem hj] using h j hj
  · intro h j hj
    simpa [List.getD, List.getElem?_eq_getElem hj] using h _ (List.getElem_mem hj)
theorem any_range (bs : List Bool) : (List.range bs.length).any (fun j => bs.getD j false) = bs.any id := by
  rw [Bool.eq_iff_iff]
  simp only [List.any_eq_true, List.mem_range, id]
  constructor
  · rintro ⟨j, hj, h⟩
    exact ⟨bs[j], List.getElem_mem hj, by simpa [List.getD, List.getElem?_eq_getElem hj] using h⟩
  · rintro ⟨b, hb, h⟩
    obtain ⟨j, hj, rfl⟩ := List.mem_iff_getElem.mp hb
    exact ⟨j, hj, by simpa [List.getD, List.getElem?_eq_getElem hj] using h⟩
theorem boot_all' : bootBuiltins ("all" : Str) = some (.builtin "all") := by rfl
theorem boot_any' : bootBuiltins ("any" : Str) = some (.builtin "any") := by rfl
/-- what the maker of the generator wants, from the evaluator -/
theorem gen_read {all : Bool} {ix k : Nat} {P : Addr} {scope : Scope} {x : Str} {pins : List (Addr × Obj)} {σ : L2.St} {H : Hp} {Q : VK} (hr : Room k X.A) (hN : X.N.Nodup) (hx : X.N[ix]? = some x) (hgen : genB X.N X.env.scope scope x = true) (hP : P ∈ TabList.tabs)
    (hel : ∀ G : PySem.Env, G.scope = scope → QE X G elt (tQ X.K e)) (h : tE X.K rx W C (.gen all ix a e) σ H Q) :
    tE X.K rx W C a σ H fun v H1 => ∃ (yl : Addr) (xs : List V) (bs : List Bool), v = .ref yl ∧ (SqL X.K H1 yl xs ∨ SqT X.K H1 yl xs) ∧ bs.length = xs.length ∧ TabG' H1 P ∧ (∀ s1, Inv X pins σ H1 s1 → ElB X H1 s1.heap P scope x elt xs bs) ∧
      (fun (bs : List Bool) H1 => ∀ H2, Ev No H1 H2 → Q (.bl (if all then bs.all id else bs.any id)) H2) bs H1 := by
  obtain ⟨env, P0, hE, h⟩ := h
  refine ⟨env, P0, hE, ?_⟩
  simp only [evE] at h
  cases q : evE C a env with
  | bad => rw [q] at h; exact h.elim
  | exc y e1 => rw [q] at h; exact h
  | ok d e1 =>
    rw [q] at h
    simp only [Res.bind] at h
    intro v H1 P1 P2 r rd hd hn ev
    have go : ∀ {ds : List D} {yl : Addr} {xs : List V}, seqG d = some ds → (SqL X.K H1 yl xs ∨ SqT X.K H1 yl xs) → Rels X.K H1 ds xs No → v = .ref yl → ∃ (yl : Addr) (xs : List V) (bs : List Bool), v = .ref yl ∧ (SqL X.K H1 yl xs ∨ SqT X.K H1 yl xs) ∧ bs.length = xs.length ∧ TabG' H1 P ∧ (∀ s1, Inv X pins σ H1 s1 → ElB X H1 s1.heap P scope x elt xs bs) ∧
      (fun (bs : List Bool) H1 => ∀ H2, Ev No H1 H2 → Q (.bl (if all then bs.all id else bs.any id)) H2) bs H1 := fun {ds yl xs} hds hq rs hv => by
      rw [hds] at h
      simp only at h
      cases q2 : genAll (.one ix) e (wipeE [ix] e1) ds with
      | none => rw [q2] at h; exact h.elim
      | some bs =>
        rw [q2] at h
        refine ⟨yl, xs, bs, hv, hq, by rw [(genAll_get q2).1, rs.length], r.tabs P hP, fun s1 I1 => el_of hr hN hx (genF hgen) hel (r.tabs P hP) r rs q2 I1, fun H2 ev2 => ?_⟩
        exact h (.bl _) H2 P1 No (r.ev ev2) rfl (fun _ => ⟨fun _ _ z => z, fun _ z => z.elim⟩) hn ((ev.eo.trans ev2 fun _ z => z.elim).mono fun _ z => ⟨rfl, z⟩)
    cases d <;> (try exact h.elim)
    case tup ds =>
      by_cases hi : imms ds = true
      · obtain ⟨b, vs, rfl, st, rs⟩ := rd
        exact go (by simp [seqG, hi]) (.inr st) (rs.imm hi) rfl
      · have : seqG (.tup ds) = none := by simp [seqG, hi]
        rw [this] at h; exact h.elim
    case lst m ds =>
      by_cases hi : imms ds = true
      · obtain ⟨b, vs, Q1, rfl, st, rs⟩ := rd
        exact go (by simp [seqG, hi]) (.inl (.inl st.rd)) (rs.imm hi) rfl
      · have : seqG (.lst m ds) = none := by simp [seqG, hi]
        rw [this] at h; exact h.elim
theorem s_all {ix k : Nat} {P c : Addr} {scope : Scope} {x : Str} (hr : Room k X.A) (hN : X.N.Nodup) (hx : X.N[ix]? = some x) (hgen : genB X.N X.env.scope scope x = true) (hP : P ∈ TabList.tabs) (TB : GxR.TabB X.base X.mg c P) (hcode : X.env.code = .ref c)
    (hg : Gl X "all") (hm : X.mg "all" = none) (ha : PE X ea (tE X.K rx W C a)) (hel : ∀ G : PySem.Env, G.scope = scope → QE X G elt (tQ X.K e)) (hs : ∀ v, genFold ea X.env v = pure v)
    (he : starEach [.GeneratorExp elt [⟨.Name x px, ea, [], 0⟩] scope gpos] X.env = (false, eval (.GeneratorExp elt [⟨.Name x px, ea, [], 0⟩] scope gpos) X.env) :: starEach [] X.env) :
    PE X (.Call (.Name "all" p) [.GeneratorExp elt [⟨.Name x px, ea, [], 0⟩] scope gpos] [] pos) (tE X.K rx W C (.gen true ix a e)) := by
  refine ⟨fun pins s σ H Q I h => ?_⟩
  have gf := genF hgen
  have S : GxR.GenS X.env scope x := ⟨gf.kind, gf.co, gf.cell, gf.dot, gf.loc, fun y hy e => by
    rcases gf.free y hy e with k | k
    · exact I.ok.has _ (.inl k)
    · exact I.ok.has _ (.inr k)⟩
  refine wpAny_Call_Name_kw (ld_blt I hg hm boot_all' ?_)
  refine PyProof.Rows.callWith_builtin1 ?_ he (by rfl)
  rw [he]
  show wpAny _ _ (spliced ((false, eval (.GeneratorExp elt [⟨.Name x px, ea, [], 0⟩] scope gpos) X.env) :: backTo pos (starEach [] X.env))) _ _ s
  refine Calls.spliced_cons (gen_seq hr TB hcode S ha hs I (gen_read (pins := pins) hr hN hx hgen hP hel h) fun bs H1 g s5 hR hG => ?_)
  obtain ⟨fp, wr, Gn, F, St, W, hst, hF, hI⟩ := hG
  refine Calls.spliced_nil ?_
  refine call_all_walkS (W.self 0 _ _ _ hst ⟨g, fp, wr, Gn, _, F, St, fun j => bs.getD j false, rfl, W, hst, fun j v sj Qj Ej hv hQj => ?_, fun s' hmv => ?_⟩)
  · obtain ⟨b, hb, rfl⟩ := hF j v hv
    refine wpAny_truthy_bool ?_
    simpa [List.getD, hb] using hQj
  · obtain ⟨H2, hT, J⟩ := hI s' hmv
    refine ⟨.bl _, H2, J, rfl, ?_⟩
    rw [all_range]
    exact hR H2 hT
theorem s_any {ix k : Nat} {P c : Addr} {scope : Scope} {x : Str} (hr : Room k X.A) (hN : X.N.Nodup) (hx : X.N[ix]? = some x) (hgen : genB X.N X.env.scope scope x = true) (hP : P ∈ TabList.tabs) (TB : GxR.TabB X.base X.mg c P) (hcode : X.env.code = .ref c)
    (hg : Gl X "any") (hm : X.mg "any" = none) (ha : PE X ea (tE X.K rx W C a)) (hel : ∀ G : PySem.Env, G.scope = scope → QE X G elt (tQ X.K e)) (hs : ∀ v, genFold ea X.env v = pure v)
    (he : starEach [.GeneratorExp elt [⟨.Name x px, ea, [], 0⟩] scope gpos] X.env = (false, eval (.GeneratorExp elt [⟨.Name x px, ea, [], 0⟩] scope gpos) X.env) :: starEach [] X.env) :
    PE X (.Call (.Name "any" p) [.GeneratorExp elt [⟨.Name x px, ea, [], 0⟩] scope gpos] [] pos) (tE X.K rx W C (.gen false ix a e)) := by
  refine ⟨fun pins s σ H Q I h => ?_⟩
  have gf := genF hgen
  have S : GxR.GenS X.env scope x := ⟨gf.kind, gf.co, gf.cell, gf.dot, gf.loc, fun y hy e => by
    rcases gf.free y hy e with k | k
    · exact I.ok.has _ (.inl k)
    · exact I.ok.has _ (.inr k)⟩
  refine wpAny_Call_Name_kw (ld_blt I hg hm boot_any' ?_)
  refine PyProof.Rows.callWith_builtin1 ?_ he (by rfl)
  rw [he]
  show wpAny _ _ (spliced ((false, eval (.GeneratorExp elt [⟨.Name x px, ea, [], 0⟩] scope gpos) X.env) :: backTo pos (starEach [] X.env))) _ _ s
  refine Calls.spliced_cons (gen_seq hr TB hcode S ha hs I (gen_read (pins := pins) hr hN hx hgen hP hel h) fun bs H1 g s5 hR hG => ?_)
  obtain ⟨fp, wr, Gn, F, St, W, hst, hF, hI⟩ := hG
  refine Calls.spliced_nil ?_
  refine call_any_walkS (W.self 0 _ _ _ hst ⟨g, fp, wr, Gn, _, F, St, fun j => bs.getD j false, rfl, W, hst, fun j v sj Qj Ej hv hQj => ?_, fun s' hmv => ?_⟩)
  · obtain ⟨b, hb, rfl⟩ := hF j v hv
    refine wpAny_truthy_bool ?_
    simpa [List.getD, hb] using hQj
  · obtain ⟨H2, hT, J⟩ := hI s' hmv
    refine ⟨.bl _, H2, J, rfl, ?_⟩
    rw [any_range]
    exact hR H2 hT
end
end Z

namespace Z
open PySem PySem.Spec L2
open PyProof.Rows (envOfC)
variable [TabList]
section
variable {P : Program} {w : World} {K : PySem.W.Frag} {mg : Str → Option Value} {base : Heap} {rx : XR} {x qual : Str} {params : Arguments} {body : List Stmt} {scope : Scope} {dvs : List V} {kws : List (Str × V)} {f : Addr} {fd : FuncData} {N ps : List Str} {k : Nat} {call : Nat → List D → CRes} {p : He.Defn}
/-- the code object of a def, as its frames have it -/
theorem okC {CX : CXT} {sp : Sp} (hf : f = He.fAd K p) (F : FunD K x qual params body scope dvs kws f fd) (S : FnScope N ps scope) (len : ∀ vs H Q E, sp vs H Q E → vs.length = ps.length)
    (hbody : ∀ (cdv : Value) (A : Around) (outer : List PySem.Env) (s : Shared) (H : Hp) (vs : List V) (Q : VK) (E : XK), cdv = .ref (He.codeOf K p) → Room k (A.deeper (envOfC qual scope s.heap.objs.size f cdv)) → sp vs H Q E →
      ∃ t, PSs (cxOf CX P w K mg base N qual scope f cdv A outer s H E) body t ∧ t { nx := fun _ H' => Q .non H', rt := Q } (L2.start N vs) H) : FnOk P w K mg base CX (k + 1) f fd ps sp := by
  obtain ⟨oc, od, dV, kV, doc, pm, an, cdv, ct, osl, rfl, lk, hcd, _, _⟩ := F.ex
  refine fn_of lk hcd S len fun A outer s H vs Q E hr hsp => hbody cdv A outer s H vs Q E ?_ hr hsp
  obtain ⟨c, rfl⟩ := He.codeIn_ref hcd
  subst hf
  rw [He.codeOf_eq lk rfl]
theorem fd_okC (hf : f = He.fAd K p) (F : FunD K x qual params body scope dvs kws f fd) (S : FnScope N ps scope) (I : Fd) (hp : ps.length = I.np) (hn : N.length = I.n)
    (hb : ∀ (cdv : Value) (A : Around) (outer : List PySem.Env) (s : Shared) (H : Hp) (E : XK), cdv = .ref (He.codeOf K p) → Room k (A.deeper (envOfC qual scope s.heap.objs.size f cdv)) → PSs (cxOf (L2.CX P w) P w K mg base N qual scope f cdv A outer s H E) body (tSs K rx (fun c d _ H' => E c d H') { call := call, kp := I.kp } I.body)) :
    FnOk P w K mg base (L2.CX P w) (k + 1) f fd ps (spF K rx (I.run call)) := by
  have hlen : ∀ vs H Q E, spF K rx (I.run call) vs H Q E → vs.length = ps.length := fun vs H Q E ⟨_, ds, P, r, h⟩ => by
    rw [← r.length, hp]
    unfold Fd.run at h
    split at h
    · rename_i d fin q
      split at q
      · assumption
      · cases q
    · rename_i d fin q
      split at q
      · assumption
      · cases q
    · exact h.elim
  exact okC hf F S hlen fun cdv A outer s H vs Q E hc hr hsp => ⟨_, hb cdv A outer s H E hc hr, fd_start (P := P) (w := w) (ps := ps) (N := N) I hp hn (hlen _ _ _ _ hsp) hsp⟩
/-- the law: its script may not be locked yet -/
def spLaw (K : PySem.W.Frag) (rx : XR) (sem : List D → CRes) : Sp := fun vs H Q E => Tabs H ∧ ∃ (a : Addr) (ns : List Int), vs = [.ref a] ∧ SqL K H a (ns.map V.int) ∧ (∃ fin, sem [.scr ns] = .ok (.bl true) fin) ∧ ∀ H', Q (.bl true) H'
theorem pss_lock {X : Cx} {st : List Stmt} {t : TS} (h : PSs X st t) : PSs X st (fun D σ H => t D σ H ∨ ∃ a u, H a = some u ∧ Mut (some u) ∧ ∀ od, t D σ (upd H a (.frz od u))) := by
  refine ⟨fun pins s σ H D I hw => ?_⟩
  rcases hw with hw | ⟨a, u, ha, mu, hw⟩
  · exact h.run pins s σ H D I hw
  · obtain ⟨od, I1⟩ := I.lock ha mu
    exact h.run pins s σ _ D I1 (hw od)
theorem law_ok (hf : f = He.fAd K p) (F : FunD K x qual params body scope dvs kws f fd) (S : FnScope N ["script"] scope) (I : Fd) (hp : 1 = I.np) (hn : N.length = I.n)
    (hb : ∀ (cdv : Value) (A : Around) (outer : List PySem.Env) (s : Shared) (H : Hp) (E : XK), cdv = .ref (He.codeOf K p) → Room k (A.deeper (envOfC qual scope s.heap.objs.size f cdv)) → PSs (cxOf (L2.CX P w) P w K mg base N qual scope f cdv A outer s H E) body (tSs K rx (fun c d _ H' => E c d H') { call := call, kp := I.kp } I.body)) :
    FnOk P w K mg base (L2.CX P w) (k + 1) f fd ["script"] (spLaw K rx (I.run call)) := by
  refine okC hf F S (fun vs H Q E ⟨_, a, ns, e, _⟩ => by rw [e]; rfl) fun cdv A outer s H vs Q E hc hr ⟨hT, a, ns, e, hS, ⟨fin, hq⟩, hQ⟩ => ⟨_, pss_lock (hb cdv A outer s H E hc hr), ?_⟩
  subst e
  have go : ∀ H0, Tabs H0 → Scr K H0 a ns → tSs K rx (fun c d _ H' => E c d H') { call := call, kp := I.kp } I.body { nx := fun _ H' => Q .non H', rt := Q } (L2.start N [.ref a]) H0 := fun H0 hT0 hS0 => by
    refine fd_start (P := P) (w := w) (ps := ["script"]) (N := N) (H := H0) (vs := [.ref a]) (E := E) I hp hn rfl ⟨hT0, [.scr ns], No, Rels.cons Sep.nl ⟨a, rfl, hS0⟩ (show Rels K H0 [] [] No from rfl), ?_⟩
    rw [hq]
    exact fun v H' P1 P2 _ r _ _ _ _ => by obtain rfl : v = .bl true := r; exact hQ H'
  rcases hS with (z | ⟨o, z⟩) | z
  · refine .inr ⟨a, _, z, trivial, fun od => go _ (fun q hq => (hT q hq).mut z trivial) (.inl ⟨od, upd_same⟩)⟩
  · exact .inl (go H hT (.inl ⟨o, z⟩))
  · exact .inl (go H hT (.inr z))
end
end Z

/-! plain evaluation of layer Z's terms: what simp needs, and loops -/
namespace Z
open PySem PySem.Spec L2
variable [TabList]
theorem atI_nat {α : Type} {xs : List α} {i : Int} (h0 : 0 ≤ i) (h : i < xs.length) : atI xs i = xs[i.toNat]? := by simp [atI, ixN, h0, h]
theorem ix0 {α : Type} {a : α} {r : List α} : atI (a :: r) 0 = some a := by rw [atI_nat (by omega) (by simp)]; rfl
theorem ix1 {α : Type} {a b : α} {r : List α} : atI (a :: b :: r) 1 = some b := by rw [atI_nat (by omega) (by simp; omega)]; rfl
theorem ix2 {α : Type} {a b c : α} {r : List α} : atI (a :: b :: c :: r) 2 = some c := by rw [atI_nat (by omega) (by simp; omega)]; rfl
theorem ix3 {α : Type} {a b c d : α} {r : List α} : atI (a :: b :: c :: d :: r) 3 = some d := by rw [atI_nat (by omega) (by simp; omega)]; rfl
theorem in0 {n : Nat} : ixN (n + 1) 0 = some 0 := by simp [ixN]; try omega
theorem in1 {n : Nat} : ixN (n + 1 + 1) 1 = some 1 := by simp [ixN]; try omega
theorem in2 {n : Nat} : ixN (n + 1 + 1 + 1) 2 = some 2 := by simp [ixN]; try omega
theorem atI_ints {ps : List Int} {i : Int} (h0 : 0 ≤ i) (h : i < ps.length) : ∃ p, p ∈ ps ∧ atI (ps.map D.int) i = some (.int p) := by
  rw [atI_nat h0 (by simpa using h)]
  have hj : i.toNat < ps.length := by omega
  exact ⟨ps[i.toNat], List.getElem_mem hj, by simp [List.getElem?_map, List.getElem?_eq_getElem hj]⟩
/-- a loop that keeps P, whatever it has walked -/
theorem for_ind {t : Tg} {body : Env → SRes} (P : List D → Env → Prop) : ∀ (ds done : List D) (e : Env),
    (∀ pre d post e, done ++ ds = pre ++ d :: post → P pre e → ∃ e1 e2, bindT t d e = some e1 ∧ (body e1 = .next e2 ∨ body e1 = .cnt e2) ∧ P (pre ++ [d]) e2) →
    P done e → ∃ e', forLoop t body ds e = .next e' ∧ P (done ++ ds) e'
  | [], done, e, _, h => ⟨e, rfl, by simpa using h⟩
  | d :: ds, done, e, step, h => by
    obtain ⟨e1, e2, hb, h1, h2⟩ := step done d ds e rfl h
    obtain ⟨e', hf, hp⟩ := for_ind P ds (done ++ [d]) e2 (fun pre d' post e0 hs h0 => step pre d' post e0 (by simpa using hs) h0) h2
    refine ⟨e', ?_, by simpa using hp⟩
    rcases h1 with h1 | h1 <;> simp [forLoop, hb, h1, hf]
theorem for_inv {t : Tg} {body : Env → SRes} (P : Env → Prop) {ds : List D} {e : Env}
    (step : ∀ d ∈ ds, ∀ e, P e → ∃ e1 e2, bindT t d e = some e1 ∧ (body e1 = .next e2 ∨ body e1 = .cnt e2) ∧ P e2) (h : P e) :
    ∃ e', forLoop t body ds e = .next e' ∧ P e' :=
  for_ind (fun _ => P) ds [] e (fun pre d post e0 hs h0 => step d (by rw [show ds = pre ++ d :: post from by simpa using hs]; simp) e0 h0) h
/-- a list comprehension whose parts may change the slots: P of what is done, what came of it, the slots -/
theorem lc_ind {own : List Nat} {t : Tg} {ifs : Env → Res Bool} {el : Env → Res D} {pth : Bool} (P : List D → List D → Env → Prop) : ∀ (ds done out : List D) (e : Env),
    (∀ pre d post out e, done ++ ds = pre ++ d :: post → P pre out e → ∃ e1 b e2, bindT t d e = some e1 ∧ ifs e1 = .ok b e2 ∧
      (b = true → ∃ r e3, el e2 = .ok r e3 ∧ (pth && !imm r) = false ∧ P (pre ++ [d]) (out ++ [r]) (wipeE own e3)) ∧
      (b = false → P (pre ++ [d]) out (wipeE own e2))) →
    P done out e → ∃ rs e', lcLoop own t ifs el pth ds e = .ok rs e' ∧ P (done ++ ds) (out ++ rs) e'
  | [], done, out, e, _, h => ⟨[], e, rfl, by simpa using h⟩
  | d :: ds, done, out, e, step, h => by
    obtain ⟨e1, b, e2, hb, hi, ht, hf⟩ := step done d ds out e rfl h
    have nx : ∀ pre d' post out e, (done ++ [d]) ++ ds = pre ++ d' :: post → _ := fun pre d' post out e hs => step pre d' post out e (by simpa using hs)
    cases b with
    | true =>
      obtain ⟨r, e3, he, hp, h3⟩ := ht rfl
      obtain ⟨rs, e', hl, hq⟩ := lc_ind P ds (done ++ [d]) (out ++ [r]) _ nx h3
      exact ⟨r :: rs, e', by simp [lcLoop, hb, hi, he, hp, hl], by simpa using hq⟩
    | false =>
      obtain ⟨rs, e', hl, hq⟩ := lc_ind P ds (done ++ [d]) out _ nx (hf rfl)
      exact ⟨rs, e', by simp [lcLoop, hb, hi, hl], by simpa using hq⟩
/-- a list comprehension that leaves the slots alone -/
theorem lc_map {own : List Nat} {t : Tg} {ifs : Env → Res Bool} {el : Env → Res D} {pth : Bool} {e : Env} (c : D → Bool) (g : D → D) : ∀ (ds : List D),
    (∀ d ∈ ds, ∃ e1 e2, bindT t d e = some e1 ∧ ifs e1 = .ok (c d) e2 ∧
      (c d = true → ∃ e3, el e2 = .ok (g d) e3 ∧ (pth && !imm (g d)) = false ∧ wipeE own e3 = e) ∧ (c d = false → wipeE own e2 = e)) →
    lcLoop own t ifs el pth ds e = .ok ((ds.filter c).map g) e
  | [], _ => rfl
  | d :: ds, step => by
    obtain ⟨e1, e2, hb, hi, ht, hf⟩ := step d (by simp)
    have ih := lc_map c g ds fun d' hd => step d' (by simp [hd])
    cases hc : c d with
    | true =>
      obtain ⟨e3, he, hp, hw⟩ := ht hc
      simp [lcLoop, hb, hi, he, hp, hc, hw, ih]
    | false => simp [lcLoop, hb, hi, hc, hf hc, ih]
/-- the same, of things of one kind -/
theorem lc_mapT {α : Type} {own : List Nat} {t : Tg} {ifs : Env → Res Bool} {el : Env → Res D} {pth : Bool} {e : Env} (f : α → D) (c : α → Bool) (g : α → D) : ∀ (xs : List α),
    (∀ d ∈ xs, ∃ e1 e2, bindT t (f d) e = some e1 ∧ ifs e1 = .ok (c d) e2 ∧
      (c d = true → ∃ e3, el e2 = .ok (g d) e3 ∧ (pth && !imm (g d)) = false ∧ wipeE own e3 = e) ∧ (c d = false → wipeE own e2 = e)) →
    lcLoop own t ifs el pth (xs.map f) e = .ok ((xs.filter c).map g) e
  | [], _ => rfl
  | d :: ds, step => by
    obtain ⟨e1, e2, hb, hi, ht, hf⟩ := step d (by simp)
    have ih := lc_mapT f c g ds fun d' hd => step d' (by simp [hd])
    cases hc : c d with
    | true =>
      obtain ⟨e3, he, hp, hw⟩ := ht hc
      simp [lcLoop, hb, hi, he, hp, hc, hw, ih]
    | false => simp [lcLoop, hb, hi, hc, hf hc, ih]
theorem lc_mapA {α : Type} {own : List Nat} {t : Tg} {ifs : Env → Res Bool} {el : Env → Res D} {pth : Bool} {e : Env} (f : α → D) (g : α → D) (xs : List α)
    (h : ∀ d ∈ xs, ∃ e1 e2 e3, bindT t (f d) e = some e1 ∧ ifs e1 = .ok true e2 ∧ el e2 = .ok (g d) e3 ∧ (pth && !imm (g d)) = false ∧ wipeE own e3 = e) :
    lcLoop own t ifs el pth (xs.map f) e = .ok (xs.map g) e := by
  have := lc_mapT (own := own) (t := t) (ifs := ifs) (el := el) (pth := pth) (e := e) f (fun _ => true) g xs fun d hd => by
    obtain ⟨e1, e2, e3, a, b, c, d', w⟩ := h d hd
    exact ⟨e1, e2, a, b, fun _ => ⟨e3, c, d', w⟩, fun h => by cases h⟩
  rwa [List.filter_eq_self.mpr (by simp)] at this
end Z

/-! plain layer: lists of numbers, membership, equality, loops over a prefix -/
namespace Z
open PySem PySem.Spec L2
variable [TabList]
def oD : Option Int → D
  | none => .non
  | some i => .int i
theorem imms_bls (ps : List Bool) : imms (ps.map .bl) = true := by induction ps with
  | nil => rfl
  | cons p ps ih => simpa [imms, imm] using ih
theorem imms_os (ps : List (Option Int)) : imms (ps.map oD) = true := by induction ps with
  | nil => rfl
  | cons p ps ih => cases p <;> simpa [imms, imm, oD] using ih
theorem imms_pairs (ps : List (Int × Int)) : imms (ps.map pairD) = true := by induction ps with
  | nil => rfl
  | cons p ps ih => simpa [imms, imm, pairD] using ih
theorem fzs_of_imms : ∀ {ds : List D}, (∀ d ∈ ds, fz d = d) → fzs ds = ds
  | [], _ => rfl
  | d :: ds, h => by simp [fzs, h d (by simp), fzs_of_imms (ds := ds) fun d hd => h d (by simp [hd])]
theorem fzs_ints (ps : List Int) : fzs (ps.map .int) = ps.map .int := fzs_of_imms (by simp [fz])
theorem fzs_bls (ps : List Bool) : fzs (ps.map .bl) = ps.map .bl := fzs_of_imms fun d hd => by obtain ⟨b, _, rfl⟩ := List.mem_map.mp hd; rfl
theorem fzs_pairs (ps : List (Int × Int)) : fzs (ps.map pairD) = ps.map pairD := fzs_of_imms fun d hd => by obtain ⟨b, _, rfl⟩ := List.mem_map.mp hd; rfl
theorem fzs_app : ∀ (a b : List D), fzs (a ++ b) = fzs a ++ fzs b
  | [], _ => rfl
  | d :: a, b => by simp [fzs, fzs_app a b]
theorem imms_app : ∀ (a b : List D), imms (a ++ b) = (imms a && imms b)
  | [], _ => by simp [imms]
  | d :: a, b => by simp [imms, imms_app a b, Bool.and_assoc]
theorem dInts_ints (ps : List Int) : dInts (ps.map .int) = some ps := by induction ps with
  | nil => rfl
  | cons p ps ih => simp [dInts, ih]
theorem toPys_ints (ps : List Int) : toPys (ps.map .int) = some (ps.map .int) := by induction ps with
  | nil => rfl
  | cons p ps ih => simp [toPys, toPy, ih]
def oP : Option Int → PyData
  | none => .none
  | some i => .int i
theorem toPys_os (ps : List (Option Int)) : toPys (ps.map oD) = some (ps.map oP) := by induction ps with
  | nil => rfl
  | cons p ps ih => cases p <;> simp [toPys, toPy, ih, oD, oP]
theorem lay_ints (ps : List Int) : PyData.canLayAll0 (ps.map .int) = true ∧ PyData.depthAll (ps.map .int) = 0 := by induction ps with
  | nil => exact ⟨rfl, rfl⟩
  | cons p ps ih => simp [PyData.canLayAll0, PyData.canLay0, PyData.depthAll, PyData.depth, ih]
theorem lay_os (ps : List (Option Int)) : PyData.canLayAll0 (ps.map oP) = true ∧ PyData.depthAll (ps.map oP) = 0 := by induction ps with
  | nil => exact ⟨rfl, rfl⟩
  | cons p ps ih => cases p <;> simp [PyData.canLayAll0, PyData.canLay0, PyData.depthAll, PyData.depth, oP, ih]
theorem eqv_os (ps : List (Option Int)) : PyData.eqvAll (ps.map oP) (ps.map oP) = true := by induction ps with
  | nil => rfl
  | cons p ps ih => cases p <;> simp [PyData.eqvAll, PyData.eqv, oP, ih]
theorem any_ints (i : Int) (ps : List Int) : ((ps.map PyData.int).any fun y => PyData.eqv y (.int i)) = decide (i ∈ ps) := by induction ps with
  | nil => rfl
  | cons p ps ih =>
    simp only [List.map_cons, List.any_cons, ih, PyData.eqv, List.mem_cons, Bool.decide_or]
    congr 1
    by_cases hh : i = p
    · subst hh; simp
    · first | (simp [hh, Ne.symm hh]; done) | (simp [hh, Ne.symm hh]; exact fun z => hh z.symm)
theorem in_lst {m : Bool} {i : Int} {ps : List Int} : opIn (.int i) (.lst m (ps.map .int)) = some (decide (i ∈ ps)) := by
  simp only [opIn, toPy, toPys_ints, Option.bind_some, SeqAt.shaped, PyData.canLay0, PyData.depth, lay_ints, any_ints]
  rfl
theorem in_tup {i : Int} {ps : List Int} : opIn (.int i) (.tup (ps.map .int)) = some (decide (i ∈ ps)) := by
  simp only [opIn, toPy, toPys_ints, Option.bind_some, SeqAt.shaped, PyData.canLay0, PyData.depth, lay_ints, any_ints]
  rfl
theorem dEq_os (ps : List (Option Int)) : dEq (.tup (ps.map oD)) (.tup (ps.map oD)) = some true := by
  simp only [dEq, toPy, toPys_os, Option.bind_some, Option.map_some, SeqAt.shaped, PyData.canLay0, PyData.depth, lay_os, PyData.eqv, eqv_os]
  rfl
theorem dEq_int {i j : Int} : dEq (.int i) (.int j) = some (decide (i = j)) := by
  simp only [dEq, toPy, Option.bind_some, SeqAt.shaped, PyData.canLay0, PyData.depth, PyData.eqv]
  by_cases hh : i = j
  · subst hh; simp
  · simp [hh]
/-! ### loops over a prefix -/
theorem for_pre {α : Type} {t : Tg} {body : Env → SRes} (f : α → D) (P : List α → Env → Prop) (xs : List α) (e : Env)
    (step : ∀ pre x post e, xs = pre ++ x :: post → P pre e → ∃ e1 e2, bindT t (f x) e = some e1 ∧ (body e1 = .next e2 ∨ body e1 = .cnt e2) ∧ P (pre ++ [x]) e2)
    (h : P [] e) : ∃ e', forLoop t body (xs.map f) e = .next e' ∧ P xs e' := by
  suffices g : ∀ (ys done : List α) (e : Env), done ++ ys = xs → P done e → ∃ e', forLoop t body (ys.map f) e = .next e' ∧ P xs e' from g xs [] e rfl h
  intro ys
  induction ys with
  | nil => intro done e hd hp; exact ⟨e, rfl, by simpa [← hd] using hp⟩
  | cons y ys ih =>
    intro done e hd hp
    obtain ⟨e1, e2, hb, h1, h2⟩ := step done y ys e hd.symm hp
    obtain ⟨e', hf, hp'⟩ := ih (done ++ [y]) e2 (by simpa using hd) h2
    refine ⟨e', ?_, hp'⟩
    rcases h1 with h1 | h1 <;> simp [forLoop, hb, h1, hf]
/-- a loop that may end early: by break, by return -/
theorem for_pre3 {α : Type} {t : Tg} {body : Env → SRes} (f : α → D) (P : List α → Env → Prop) (B : Env → Prop) (Q : D → Env → Prop) (xs : List α) (e : Env)
    (step : ∀ pre x post e, xs = pre ++ x :: post → P pre e → ∃ e1 e2, bindT t (f x) e = some e1 ∧
      ((body e1 = .next e2 ∧ P (pre ++ [x]) e2) ∨ (body e1 = .brk e2 ∧ B e2) ∨ ∃ r, body e1 = .ret r e2 ∧ Q r e2))
    (h : P [] e) : (∃ e', forLoop t body (xs.map f) e = .next e' ∧ (P xs e' ∨ B e')) ∨ ∃ r e', forLoop t body (xs.map f) e = .ret r e' ∧ Q r e' := by
  suffices g : ∀ (ys done : List α) (e : Env), done ++ ys = xs → P done e → (∃ e', forLoop t body (ys.map f) e = .next e' ∧ (P xs e' ∨ B e')) ∨ ∃ r e', forLoop t body (ys.map f) e = .ret r e' ∧ Q r e' from g xs [] e rfl h
  intro ys
  induction ys with
  | nil => intro done e hd hp; exact .inl ⟨e, rfl, .inl (by simpa [← hd] using hp)⟩
  | cons y ys ih =>
    intro done e hd hp
    obtain ⟨e1, e2, hb, h1 | h1 | ⟨r, h1, h2⟩⟩ := step done y ys e hd.symm hp
    · rcases ih (done ++ [y]) e2 (by simpa using hd) h1.2 with ⟨e', hf, hp'⟩ | ⟨r, e', hf, hp'⟩
      · exact .inl ⟨e', by simp [forLoop, hb, h1.1, hf], hp'⟩
      · exact .inr ⟨r, e', by simp [forLoop, hb, h1.1, hf], hp'⟩
    · exact .inl ⟨e2, by simp [forLoop, hb, h1.1], .inr h1.2⟩
    · exact .inr ⟨r, e2, by simp [forLoop, hb, h1], h2⟩
theorem enumD_len (ds : List D) (k : Nat) : (enumD ds k).length = ds.length := by simp [enumD]
theorem enumD_cons (d : D) (ds : List D) (k : Nat) : enumD (d :: ds) k = .tup [.int (k : Int), d] :: enumD ds (k + 1) := by
  simp only [enumD, List.mapIdx_cons]
  congr 1
  apply List.mapIdx_eq_mapIdx_iff.mpr
  intro i hi
  simp; omega
theorem for_preE {α : Type} {t : Tg} {body : Env → SRes} (f : α → D) (P : List α → Env → Prop) (xs : List α) (e : Env)
    (step : ∀ pre x post e, xs = pre ++ x :: post → P pre e → ∃ e1 e2, bindT t (.tup [.int (pre.length : Int), f x]) e = some e1 ∧ (body e1 = .next e2 ∨ body e1 = .cnt e2) ∧ P (pre ++ [x]) e2)
    (h : P [] e) : ∃ e', forLoop t body (enumD (xs.map f) 0) e = .next e' ∧ P xs e' := by
  suffices g : ∀ (ys done : List α) (e : Env), done ++ ys = xs → P done e → ∃ e', forLoop t body (enumD (ys.map f) done.length) e = .next e' ∧ P xs e' from g xs [] e rfl h
  intro ys
  induction ys with
  | nil => intro done e hd hp; exact ⟨e, by simp [enumD, forLoop], by simpa [← hd] using hp⟩
  | cons y ys ih =>
    intro done e hd hp
    obtain ⟨e1, e2, hb, h1, h2⟩ := step done y ys e hd.symm hp
    obtain ⟨e', hf, hp'⟩ := ih (done ++ [y]) e2 (by simpa using hd) h2
    refine ⟨e', ?_, hp'⟩
    simp only [List.length_append, List.length_cons, List.length_nil, Nat.zero_add] at hf
    rcases h1 with h1 | h1 <;> simp [enumD_cons, forLoop, hb, h1, hf]
theorem lc_pre {α : Type} {own : List Nat} {t : Tg} {ifs : Env → Res Bool} {el : Env → Res D} {pth : Bool} (f : α → D) (P : List α → List D → Env → Prop) (xs : List α) (e : Env)
    (step : ∀ pre x post out e, xs = pre ++ x :: post → P pre out e → ∃ e1 b e2, bindT t (f x) e = some e1 ∧ ifs e1 = .ok b e2 ∧
      (b = true → ∃ r e3, el e2 = .ok r e3 ∧ (pth && !imm r) = false ∧ P (pre ++ [x]) (out ++ [r]) (wipeE own e3)) ∧
      (b = false → P (pre ++ [x]) out (wipeE own e2)))
    (h : P [] [] e) : ∃ rs e', lcLoop own t ifs el pth (xs.map f) e = .ok rs e' ∧ P xs rs e' := by
  suffices g : ∀ (ys done : List α) (out : List D) (e : Env), done ++ ys = xs → P done out e → ∃ rs e', lcLoop own t ifs el pth (ys.map f) e = .ok rs e' ∧ P xs (out ++ rs) e' by simpa using g xs [] [] e rfl h
  intro ys
  induction ys with
  | nil => intro done out e hd hp; exact ⟨[], e, rfl, by simpa [← hd] using hp⟩
  | cons y ys ih =>
    intro done out e hd hp
    obtain ⟨e1, b, e2, hb, hi, ht, hf⟩ := step done y ys out e hd.symm hp
    cases b with
    | true =>
      obtain ⟨r, e3, he, hp3, h3⟩ := ht rfl
      obtain ⟨rs, e', hl, hq⟩ := ih (done ++ [y]) (out ++ [r]) _ (by simpa using hd) h3
      exact ⟨r :: rs, e', by simp [lcLoop, hb, hi, he, hp3, hl], by simpa using hq⟩
    | false =>
      obtain ⟨rs, e', hl, hq⟩ := ih (done ++ [y]) out _ (by simpa using hd) (hf rfl)
      exact ⟨rs, e', by simp [lcLoop, hb, hi, hl], hq⟩
theorem lc_preE {α : Type} {own : List Nat} {t : Tg} {ifs : Env → Res Bool} {el : Env → Res D} {pth : Bool} (f : α → D) (P : List α → List D → Env → Prop) (xs : List α) (e : Env)
    (step : ∀ pre x post out e, xs = pre ++ x :: post → P pre out e → ∃ e1 b e2, bindT t (.tup [.int (pre.length : Int), f x]) e = some e1 ∧ ifs e1 = .ok b e2 ∧
      (b = true → ∃ r e3, el e2 = .ok r e3 ∧ (pth && !imm r) = false ∧ P (pre ++ [x]) (out ++ [r]) (wipeE own e3)) ∧
      (b = false → P (pre ++ [x]) out (wipeE own e2)))
    (h : P [] [] e) : ∃ rs e', lcLoop own t ifs el pth (enumD (xs.map f) 0) e = .ok rs e' ∧ P xs rs e' := by
  suffices g : ∀ (ys done : List α) (out : List D) (e : Env), done ++ ys = xs → P done out e → ∃ rs e', lcLoop own t ifs el pth (enumD (ys.map f) done.length) e = .ok rs e' ∧ P xs (out ++ rs) e' by simpa using g xs [] [] e rfl h
  intro ys
  induction ys with
  | nil => intro done out e hd hp; exact ⟨[], e, by simp [enumD, lcLoop], by simpa [← hd] using hp⟩
  | cons y ys ih =>
    intro done out e hd hp
    obtain ⟨e1, b, e2, hb, hi, ht, hf⟩ := step done y ys out e hd.symm hp
    cases b with
    | true =>
      obtain ⟨r, e3, he, hp3, h3⟩ := ht rfl
      obtain ⟨rs, e', hl, hq⟩ := ih (done ++ [y]) (out ++ [r]) _ (by simpa using hd) h3
      simp only [List.length_append, List.length_cons, List.length_nil, Nat.zero_add] at hl
      exact ⟨r :: rs, e', by simp [enumD_cons, lcLoop, hb, hi, he, hp3, hl], by simpa using hq⟩
    | false =>
      obtain ⟨rs, e', hl, hq⟩ := ih (done ++ [y]) out _ (by simpa using hd) (hf rfl)
      simp only [List.length_append, List.length_cons, List.length_nil, Nat.zero_add] at hl
      exact ⟨rs, e', by simp [enumD_cons, lcLoop, hb, hi, hl], hq⟩
theorem lc_len {own : List Nat} {t : Tg} {ifs : Env → Res Bool} {el : Env → Res D} {pth : Bool} : ∀ {ds rs : List D} {e e' : Env}, lcLoop own t ifs el pth ds e = .ok rs e' → rs.length ≤ ds.length
  | [], rs, e, e', h => by simp only [lcLoop, Res.ok.injEq] at h; simp [← h.1]
  | d :: ds, rs, e, e', h => by
    simp only [lcLoop] at h
    split at h
    · cases h
    · split at h
      · split at h
        · split at h
          · cases h
          · split at h
            · rename_i q
              simp only [Res.ok.injEq] at h
              have := lc_len q
              simp [← h.1]; omega
            · cases h
        · cases h
      · have := lc_len h; simp; omega
      · cases h
theorem cut_app {α : Type} {a b : List α} {n : Nat} (h : n = a.length) : cutL (a ++ b) (some (n : Int)) none = b := by
  subst h
  have h1 : ¬ ((a.length : Int) < 0) := by omega
  simp [cutL, HT.sIx, h1]
theorem mul_non {n : Nat} (h : n ≤ 100000) : opMul (.lst true [.non]) (.int (n : Int)) = some (.lst true (List.replicate n .non)) := by
  have h1 : n < 4294967296 := by omega
  have h3 : n ≤ 16777216 := by omega
  simp [opMul, h1, h3, imms, imm, lim]
def takeS : Nat → Ss → Ss
  | 0, _ => .nil
  | _ + 1, .nil => .nil
  | n + 1, .cons s r => .cons s (takeS n r)
def dropS : Nat → Ss → Ss
  | 0, r => r
  | _ + 1, .nil => .nil
  | n + 1, .cons _ r => dropS n r
theorem evSs_split (C : Z.Ctx) : ∀ (n : Nat) (s : Ss) (env : Env), evSs C s env = (evSs C (takeS n s) env).thn fun e => evSs C (dropS n s) e
  | 0, s, env => by simp [takeS, dropS, evSs]
  | n + 1, .nil, env => by simp [takeS, dropS, evSs]
  | n + 1, .cons s r, env => by
    simp only [takeS, dropS, evSs]
    cases evS C s env with
    | next e => simp only [SRes.thn]; exact evSs_split C n r e
    | _ => rfl
theorem bind_one {i : Nat} {d : D} {env : Env} : bindT (.one i) d env = if i < env.length then some (env.set i (some d)) else none := by simp only [bindT]
theorem bind_tup2 {a b : Tg} {x y : D} {env : Env} : bindT (.tup [a, b]) (.tup [x, y]) env = (bindT a x env).bind fun e => bindT b y e := by
  simp only [bindT, bindTs]
  cases bindT a x env with
  | none => rfl
  | some e => simp only [Option.bind_some]; cases bindT b y e <;> rfl
theorem bind_tup3 {a b c : Tg} {x y z : D} {env : Env} : bindT (.tup [a, b, c]) (.tup [x, y, z]) env = (bindT a x env).bind fun e => (bindT b y e).bind fun e => bindT c z e := by
  simp only [bindT, bindTs]
  cases bindT a x env with
  | none => rfl
  | some e =>
    simp only [Option.bind_some]
    cases bindT b y e with
    | none => rfl
    | some e => simp only [Option.bind_some]; cases bindT c z e <;> rfl
theorem bind_tup4 {a b c d : Tg} {x y z w : D} {env : Env} : bindT (.tup [a, b, c, d]) (.tup [x, y, z, w]) env = (bindT a x env).bind fun e => (bindT b y e).bind fun e => (bindT c z e).bind fun e => bindT d w e := by
  simp only [bindT, bindTs]
  cases bindT a x env with
  | none => rfl
  | some e =>
    simp only [Option.bind_some]
    cases bindT b y e with
    | none => rfl
    | some e =>
      simp only [Option.bind_some]
      cases bindT c z e with
      | none => rfl
      | some e => simp only [Option.bind_some]; cases bindT d w e <;> rfl
/-- the first loop's body -/
def bodyFor : Ss → Ss
  | .cons (.for _ _ b) _ => b
  | .cons _ r => bodyFor r
  | .nil => .nil
theorem enter {fs : List Fd} {f : Fd} {k i : Nat} {ds : List D} (h : fs[i]? = some f) (hl : ds.length = f.np) : ∃ C : Z.Ctx, C.call = callN fs k ∧ C.kp = f.kp ∧
    callN fs (k + 1) i ds = f.out (evSs C f.body (ds.map some ++ List.replicate (f.n - f.np) none)) :=
  ⟨{ call := callN fs k, kp := f.kp }, rfl, rfl, by simp [callN, h, Fd.run, hl]⟩
/-- a walk over range(n) -/
theorem rng0 (n : Nat) : rng 0 (n : Int) = (List.range n).map fun (i : Nat) => D.int (i : Int) := by simp [rng]
theorem mem_pre {α : Type} {xs pre post : List α} {x : α} (h : xs = pre ++ x :: post) : x ∈ xs := by simp [h]
end Z

/-! houses and walks, plain -/
namespace Z
open PySem PySem.Spec L2
variable [TabList]
structure Hs where
  ks : List Int
  ps : List (Int × Int)
  hs : List Int
def Hs.D (h : Hs) : Z.D := .tup [.tup (h.ks.map .int), .tup (h.ps.map pairD), .tup (h.hs.map .int)]
structure Hs.Ok (h : Hs) : Prop where
  pr : ∀ p ∈ h.ps, 0 ≤ p.1 ∧ p.1 < p.2 ∧ p.2 < h.ks.length
  k0 : 0 < h.ks.length
  kl : h.ks.length ≤ 100
  pl : h.ps.length ≤ 200
  hr : ∀ x ∈ h.hs, 0 ≤ x ∧ x < h.ks.length
def Hs.key (h : Hs) (r : Int) : Int := (h.ks[r.toNat]?).getD 0
def Hs.pair (h : Hs) (d : Int) : Int × Int := (h.ps[d.toNat]?).getD (0, 0)
def Hs.dr (h : Hs) (d : Int) : Prop := 0 ≤ d ∧ d < h.ps.length
theorem imm_hs (h : Hs) : imm h.D = true := by simp [Hs.D, imm, imms, imms_ints, imms_pairs]
theorem at_key {h : Hs} {r : Int} (h0 : 0 ≤ r) (h1 : r < h.ks.length) : atI (h.ks.map Z.D.int) r = some (.int (h.key r)) := by
  rw [atI_nat h0 (by simpa using h1)]
  have hj : r.toNat < h.ks.length := by omega
  simp [Hs.key, List.getElem?_eq_getElem hj]
theorem at_pair {h : Hs} {d : Int} (hd : h.dr d) : atI (h.ps.map pairD) d = some (pairD (h.pair d)) := by
  have h1 := hd.2
  have h0 := hd.1
  rw [atI_nat hd.1 (by simpa using h1)]
  have hj : d.toNat < h.ps.length := by omega
  simp [Hs.pair, List.getElem?_eq_getElem hj]
theorem Hs.Ok.pair {h : Hs} (ok : h.Ok) {d : Int} (hd : h.dr d) : 0 ≤ (h.pair d).1 ∧ (h.pair d).1 < (h.pair d).2 ∧ (h.pair d).2 < h.ks.length := by
  have h1 := hd.2
  have h0 := hd.1
  have hj : d.toNat < h.ps.length := by omega
  have : h.pair d = h.ps[d.toNat] := by simp [Hs.pair, List.getElem?_eq_getElem hj]
  rw [this]
  exact ok.pr _ (List.getElem_mem hj)
/-- the rooms of a door that are not reached -/
def fr (R : List Int) (p : Int × Int) : List Int := (if p.1 ∈ R then [] else [p.1]) ++ (if p.2 ∈ R then [] else [p.2])
structure F where
  R : List Int
  hd : Int
  hands : List Int
  wa : List Int
  ways : List (Option Int)
  dk : List Key
  dd : List Z.D
def setW (d : Int) (ways : List (Option Int)) (f : List Int) : List (Option Int) := f.foldl (fun w r => w.set r.toNat (some d)) ways
theorem setW_snoc (d : Int) (w : List (Option Int)) (f : List Int) (r : Int) : setW d w (f ++ [r]) = (setW d w f).set r.toNat (some d) := by simp [setW]
def Hs.gain (h : Hs) (f : List Int) : Int := (f.map h.key).sum
def Hs.st (h : Hs) (s : F) (d : Int) : F where
  R := s.R ++ fr s.R (h.pair d)
  hd := s.hd - 1 + h.gain (fr s.R (h.pair d))
  hands := s.hands ++ [s.hd - 1 + h.gain (fr s.R (h.pair d))]
  wa := if fr s.R (h.pair d) = [] then s.wa ++ [d] else s.wa
  ways := setW d s.ways (fr s.R (h.pair d))
  dk := (putK s.dk s.dd (.inl d) (.bl true)).1
  dd := (putK s.dk s.dd (.inl d) (.bl true)).2
def Hs.f0 (h : Hs) : F := { R := [0], hd := h.key 0, hands := [h.key 0], wa := [], ways := List.replicate h.ks.length none, dk := [], dd := [] }
def Hs.run (h : Hs) (W : List Int) : F := W.foldl h.st h.f0
theorem run_snoc (h : Hs) (W : List Int) (d : Int) : h.run (W ++ [d]) = h.st (h.run W) d := by simp [Hs.run]
theorem run_nil (h : Hs) : h.run [] = h.f0 := rfl
/-- snoc induction -/
theorem snoc_ind {α : Type} {P : List α → Prop} (h0 : P []) (h1 : ∀ W d, P W → P (W ++ [d])) (W : List α) : P W := by
  suffices g : ∀ V : List α, P V.reverse by simpa using g W.reverse
  intro V
  induction V with
  | nil => exact h0
  | cons v V ih => simpa using h1 _ v ih
theorem fr_len (R : List Int) (p : Int × Int) : (fr R p).length ≤ 2 := by unfold fr; split <;> split <;> simp
theorem R_len (h : Hs) (W : List Int) : (h.run W).R.length ≤ 1 + 2 * W.length := by
  refine snoc_ind (P := fun W => (h.run W).R.length ≤ 1 + 2 * W.length) (by simp [run_nil, Hs.f0]) (fun W d ih => ?_) W
  rw [run_snoc]
  have := fr_len (h.run W).R (h.pair d)
  simp [Hs.st]; omega
theorem putK_len {κ : Type} [DecidableEq κ] (ks : List κ) (ds : List Z.D) (k : κ) (d : Z.D) : (putK ks ds k d).1.length ≤ ks.length + 1 := by
  unfold putK; split <;> simp
theorem dk_len (h : Hs) (W : List Int) : (h.run W).dk.length ≤ W.length := by
  refine snoc_ind (P := fun W => (h.run W).dk.length ≤ W.length) (by simp [run_nil, Hs.f0]) (fun W d ih => ?_) W
  rw [run_snoc]
  have := putK_len (h.run W).dk (h.run W).dd (.inl d) (.bl true)
  simp [Hs.st]; omega
theorem dd_all (h : Hs) (W : List Int) : ∀ x ∈ (h.run W).dd, x = .bl true := by
  refine snoc_ind (P := fun W => ∀ x ∈ (h.run W).dd, x = .bl true) (by simp [run_nil, Hs.f0]) (fun W d ih => ?_) W
  rw [run_snoc]
  intro x hx
  simp only [Hs.st] at hx
  unfold putK at hx
  split at hx
  · rcases List.mem_or_eq_of_mem_set hx with hx | hx
    · exact ih _ hx
    · exact hx
  · rcases List.mem_append.mp hx with hx | hx
    · exact ih _ hx
    · simpa using hx
theorem imms_of : ∀ {ds : List Z.D}, (∀ d ∈ ds, imm d = true) → imms ds = true
  | [], _ => rfl
  | d :: ds, h => by simp [imms, h d (by simp), imms_of (ds := ds) fun d hd => h d (by simp [hd])]
theorem dd_imm (h : Hs) (W : List Int) : imms (h.run W).dd = true := imms_of fun d hd => by rw [dd_all h W d hd]; rfl
theorem dd_fz (h : Hs) (W : List Int) : fzs (h.run W).dd = (h.run W).dd := fzs_of_imms fun d hd => by rw [dd_all h W d hd]; rfl
theorem setW_len (d : Int) : ∀ (f : List Int) (w : List (Option Int)), (setW d w f).length = w.length
  | [], _ => rfl
  | r :: f, w => by
    have := setW_len d f (w.set r.toNat (some d))
    simpa [setW] using this
theorem ways_len (h : Hs) (W : List Int) : (h.run W).ways.length = h.ks.length := by
  refine snoc_ind (P := fun W => (h.run W).ways.length = h.ks.length) (by simp [run_nil, Hs.f0]) (fun W d ih => ?_) W
  rw [run_snoc]
  simp [Hs.st, setW_len, ih]
/-- a step as the program has it -/
def Hs.SD (h : Hs) (W : List Int) : Z.D := .tup [.lst false ((h.run W).R.map .int), .dic false (h.run W).dk (h.run W).dd, .int (h.run W).hd]
theorem imm_SD (h : Hs) (W : List Int) : imm (h.SD W) = true := by simp [Hs.SD, imm, imms, imms_ints, dd_imm]
theorem fz_SD (h : Hs) (W : List Int) : fz (h.SD W) = h.SD W := by simp [Hs.SD, fz, fzs, fzs_ints, dd_fz]
def Hs.SDs (h : Hs) (W : List Int) : List Z.D := (List.range (W.length + 1)).map fun i => h.SD (W.take i)
theorem SDs_nil (h : Hs) : h.SDs [] = [h.SD []] := rfl
theorem SDs_snoc (h : Hs) (W : List Int) (d : Int) : h.SDs (W ++ [d]) = h.SDs W ++ [h.SD (W ++ [d])] := by
  unfold Hs.SDs
  rw [show (W ++ [d]).length + 1 = (W.length + 1) + 1 by simp, List.range_succ, List.map_append]
  congr 1
  · apply List.map_congr_left
    intro i hi
    rw [List.take_append_of_le_length (by simpa using Nat.lt_succ_iff.mp (List.mem_range.mp hi))]
  · simp [List.take_of_length_le]
theorem SDs_len (h : Hs) (W : List Int) : (h.SDs W).length = W.length + 1 := by simp [Hs.SDs]
theorem SDs_imm (h : Hs) (W : List Int) : imms (h.SDs W) = true := imms_of fun d hd => by
  obtain ⟨i, _, rfl⟩ := List.mem_map.mp hd
  exact imm_SD h _
theorem SDs_fz (h : Hs) (W : List Int) : fzs (h.SDs W) = h.SDs W := fzs_of_imms fun d hd => by
  obtain ⟨i, _, rfl⟩ := List.mem_map.mp hd
  exact fz_SD h _
theorem SDs_at (h : Hs) {W : List Int} {i : Int} (h0 : 0 ≤ i) (h1 : i ≤ W.length) : atI (h.SDs W) i = some (h.SD (W.take i.toNat)) := by
  rw [atI_nat h0 (by rw [SDs_len]; omega)]
  simp only [Hs.SDs, List.getElem?_map]
  rw [List.getElem?_range (by omega)]
  rfl
theorem SDs_last (h : Hs) (W : List Int) : atI (h.SDs W) (-1) = some (h.SD W) := by
  have : ixN (h.SDs W).length (-1) = some W.length := by simp [ixN, SDs_len]; omega
  simp only [atI, this, Option.bind_some]
  simp [Hs.SDs]
theorem hands_eq (h : Hs) (W : List Int) : (h.run W).hands = (List.range (W.length + 1)).map fun i => (h.run (W.take i)).hd := by
  refine snoc_ind (P := fun W => (h.run W).hands = (List.range (W.length + 1)).map fun i => (h.run (W.take i)).hd) (by simp [run_nil, Hs.f0]) (fun W d ih => ?_) W
  rw [show (W ++ [d]).length + 1 = (W.length + 1) + 1 by simp, List.range_succ, List.map_append, run_snoc]
  simp only [Hs.st, ih]
  congr 1
  · apply List.map_congr_left
    intro i hi
    rw [List.take_append_of_le_length (by simpa using Nat.lt_succ_iff.mp (List.mem_range.mp hi))]
  · simp [List.take_of_length_le, run_snoc, Hs.st]
/-- a state as the law has it -/
def Hs.LS (h : Hs) (W : List Int) : Z.D := .lst true [.lst true ((h.run W).R.map .int), .lst true (W.map .int), .int (h.run W).hd]
theorem imm_LS (h : Hs) (W : List Int) : imm (h.LS W) = false := by simp [Hs.LS, imm]
/-- a walk: doors of the house, none twice, each with an end that is reached -/
inductive Wk (h : Hs) : List Int → Prop
  | nil : Wk h []
  | snoc {W : List Int} {d : Int} : Wk h W → h.dr d → d ∉ W → ((h.pair d).1 ∈ (h.run W).R ∨ (h.pair d).2 ∈ (h.run W).R) → Wk h (W ++ [d])
theorem Wk.dr {h : Hs} {W : List Int} (w : Wk h W) : ∀ d ∈ W, h.dr d := by
  induction w with
  | nil => simp
  | snoc w hd _ _ ih =>
    intro d hm
    rcases List.mem_append.mp hm with hm | hm
    · exact ih d hm
    · simp at hm; subst hm; exact hd
/-- the walk without the doors that reach nothing -/
def Hs.plain (h : Hs) (W : List Int) : List Int := W.filter fun d => decide (d ∉ (h.run W).wa)
theorem wa_sub (h : Hs) (W : List Int) : ∀ d ∈ (h.run W).wa, d ∈ W := by
  refine snoc_ind (P := fun W => ∀ d ∈ (h.run W).wa, d ∈ W) (by simp [run_nil, Hs.f0]) (fun W d ih => ?_) W
  rw [run_snoc]
  intro x hx
  simp only [Hs.st] at hx
  split at hx
  · rcases List.mem_append.mp hx with hx | hx
    · exact List.mem_append_left _ (ih _ hx)
    · exact List.mem_append_right _ hx
  · exact List.mem_append_left _ (ih _ hx)
theorem plain_wa {h : Hs} {W : List Int} {d : Int} (hd : d ∉ W) (hf : fr (h.run W).R (h.pair d) = []) : h.plain (W ++ [d]) = h.plain W := by
  unfold Hs.plain
  rw [run_snoc]
  simp only [Hs.st, hf, if_pos, List.filter_append]
  have : List.filter (fun d_1 => decide (d_1 ∉ (h.run W).wa ++ [d])) [d] = [] := by simp
  rw [this, List.append_nil]
  apply List.filter_congr
  intro x hx
  have : x ≠ d := fun e => hd (e ▸ hx)
  simp [this]
theorem plain_fr {h : Hs} {W : List Int} {d : Int} (hd : d ∉ W) (hf : fr (h.run W).R (h.pair d) ≠ []) : h.plain (W ++ [d]) = h.plain W ++ [d] := by
  unfold Hs.plain
  rw [run_snoc]
  simp only [Hs.st, hf, if_false, List.filter_append]
  have : d ∉ (h.run W).wa := fun z => hd (wa_sub h W d z)
  simp [this]
/-- what the walk without the wasted doors comes to -/
theorem plain_run {h : Hs} {W : List Int} (w : Wk h W) : (h.run (h.plain W)).R = (h.run W).R ∧ (h.run (h.plain W)).hd = (h.run W).hd + (h.run W).wa.length ∧
    (h.run (h.plain W)).ways = (h.run W).ways ∧ (h.run (h.plain W)).wa = [] := by
  induction w with
  | nil => simp [Hs.plain, Hs.run, Hs.f0]
  | @snoc W d w hd hn ho ih =>
    obtain ⟨i1, i2, i3, i4⟩ := ih
    by_cases hf : fr (h.run W).R (h.pair d) = []
    · rw [plain_wa hn hf, run_snoc]
      simp [Hs.st, hf, i1, i2, i3, i4, setW, Hs.gain]
      omega
    · rw [plain_fr hn hf, run_snoc, run_snoc]
      simp [Hs.st, hf, i1, i2, i3, i4]
      omega
theorem hands_len (h : Hs) (W : List Int) : (h.run W).hands.length = W.length + 1 := by
  refine snoc_ind (P := fun W => (h.run W).hands.length = W.length + 1) (by simp [run_nil, Hs.f0]) (fun W d ih => ?_) W
  rw [run_snoc]
  simp [Hs.st, ih]
theorem hands_last (h : Hs) (W : List Int) : (h.run W).hands[W.length]? = some (h.run W).hd := by
  refine snoc_ind (P := fun W => (h.run W).hands[W.length]? = some (h.run W).hd) (by simp [run_nil, Hs.f0]) (fun W d ih => ?_) W
  rw [run_snoc]
  simp [Hs.st, List.getElem?_append, hands_len]
theorem Wk.plain_dr {h : Hs} {W : List Int} (w : Wk h W) : ∀ d ∈ h.plain W, h.dr d := fun d hd => w.dr d (List.mem_filter.mp hd).1
theorem Wk.at {h : Hs} {W : List Int} (w : Wk h W) : ∀ {pre post : List Int} {x : Int}, W = pre ++ x :: post → (h.pair x).1 ∈ (h.run pre).R ∨ (h.pair x).2 ∈ (h.run pre).R := by
  induction w with
  | nil => intro pre post x h; simp at h
  | @snoc W d w hd hn ho ih =>
    intro pre post x he
    rcases List.eq_nil_or_concat post with rfl | ⟨post', y, rfl⟩
    · have := List.append_inj' he (by simp)
      obtain ⟨rfl, h2⟩ := this
      simp at h2; subst h2; exact ho
    · have he' : W ++ [d] = (pre ++ x :: post') ++ [y] := by simpa using he
      have := List.append_inj' he' (by simp)
      exact ih this.1
theorem wa_len (h : Hs) (W : List Int) : (h.run W).wa.length ≤ W.length := by
  refine snoc_ind (P := fun W => (h.run W).wa.length ≤ W.length) (by simp [run_nil, Hs.f0]) (fun W d ih => ?_) W
  rw [run_snoc]
  simp only [Hs.st]
  split <;> simp <;> omega
theorem Wk.plain {h : Hs} {W : List Int} (w : Wk h W) : Wk h (h.plain W) := by
  induction w with
  | nil => exact .nil
  | @snoc W d w hd hn ho ih =>
    by_cases hf : fr (h.run W).R (h.pair d) = []
    · rw [plain_wa hn hf]; exact ih
    · rw [plain_fr hn hf]
      refine .snoc ih hd (fun z => hn (List.mem_filter.mp z).1) ?_
      rw [(plain_run w).1]; exact ho
end Z

namespace Gk06
open PySem PySem.Spec L2 Z
open PyProof.Rows (envOfC)
def top (i : Nat) : Stmt := PySem.Challenge.pw_anydoornext_k06_walk_facts.main.body.getD i (.Pass ⟨0, 0, 0, 0⟩)
def names : List Str := ["first_step", "next_step", "walk_steps", "hands_along", "is_wasted", "wasted_doors", "plain_walk", "walk_ways", "_law_bowl", "_law_pea", "_law_house", "_law_double_house", "_law_row_house", "_law_begin", "_law_can", "_law_open", "_law_walk", "_law_facts", "_law_same", "_law_right", "law"]
def blts : List Str := ["abs", "all", "bool", "enumerate", "int", "isinstance", "len", "max", "min", "range", "sorted", "str", "sum", "tuple"]
def kws : List (List (List Str × List Nat)) := [[], [], [], [], [], [], [], [(["house", "walk"], [0, 1])], [], [], [], [], [], [], [], [], [], [], [], [], []]
def kw (i : Nat) : List (List Str × List Nat) := kws.getD i []
def b0 : Ss := (.cons (.ret (.fze (.tup (.cons (.lst (.cons (.cst (.int 0)) .nil)) (.cons (.dic .nil) (.cons (.pidx (.pidx (.var 0) (.cst (.int 0))) (.cst (.int 0))) .nil)))))) .nil)
def f0 : Fd := ⟨1, 1, [], b0⟩
def b1 : Ss := (.cons (.asg (.tup [(.one 3), (.one 4), (.one 5)]) (.var 1)) (.cons (.asg (.one 6) (.fze (.lc [8] (.one 8) (.seq (.pidx (.pidx (.var 0) (.cst (.int 1))) (.var 2))) (.cons (.ap .nin (.cons (.var 8) (.cons (.var 3) .nil))) .nil) (.var 8)))) (.cons (.asg (.one 7) (.ap .sum (.cons (.lc [8] (.one 8) (.seq (.var 6)) .nil (.pidx (.pidx (.var 0) (.cst (.int 0))) (.var 8))) .nil))) (.cons (.ret (.fze (.tup (.cons (.ap .add (.cons (.var 3) (.cons (.var 6) .nil))) (.cons (.dup (.var 4) (.var 2) (.cst (.bl true))) (.cons (.ap .add (.cons (.ap .sub (.cons (.var 5) (.cons (.cst (.int 1)) .nil))) (.cons (.var 7) .nil))) .nil)))))) .nil))))
def f1 : Fd := ⟨3, 9, [], b1⟩
def b2 : Ss := (.cons (.asg (.one 2) (.lst (.cons (.call 0 (.cons (.var 0) .nil)) .nil))) (.cons (.for (.one 3) (.seq (.var 1)) (.cons (.exp (.mm .append (.var 2) (.cons (.call 1 (.cons (.var 0) (.cons (.pidx (.var 2) (.ap .neg (.cons (.cst (.int 1)) .nil))) (.cons (.var 3) .nil)))) .nil))) .nil)) (.cons (.ret (.fze (.mov 2))) .nil)))
def f2 : Fd := ⟨2, 4, [], b2⟩
def b3 : Ss := (.cons (.ret (.ap .tuple (.cons (.lc [2] (.one 2) (.seq (.call 2 (.cons (.var 0) (.cons (.var 1) .nil)))) .nil (.pidx (.var 2) (.cst (.int 2)))) .nil))) .nil)
def f3 : Fd := ⟨2, 3, [], b3⟩
def b4 : Ss := (.cons (.ret (.gen true 3 (.pidx (.pidx (.var 0) (.cst (.int 1))) (.var 2)) (.ap .inn (.cons (.var 3) (.cons (.pidx (.var 1) (.cst (.int 0))) .nil))))) .nil)
def f4 : Fd := ⟨3, 4, [], b4⟩
def b5 : Ss := (.cons (.asg (.one 2) (.call 2 (.cons (.var 0) (.cons (.var 1) .nil)))) (.cons (.ret (.ap .tuple (.cons (.lc [3, 4] (.tup [(.one 3), (.one 4)]) (.enum (.var 1)) (.cons (.call 4 (.cons (.var 0) (.cons (.pidx (.var 2) (.var 3)) (.cons (.var 4) .nil)))) .nil) (.var 4)) .nil))) .nil))
def f5 : Fd := ⟨2, 5, [], b5⟩
def b6 : Ss := (.cons (.asg (.one 2) (.call 5 (.cons (.var 0) (.cons (.var 1) .nil)))) (.cons (.ret (.ap .tuple (.cons (.lc [3] (.one 3) (.seq (.var 1)) (.cons (.ap .nin (.cons (.var 3) (.cons (.var 2) .nil))) .nil) (.var 3)) .nil))) .nil))
def f6 : Fd := ⟨2, 4, [], b6⟩
def b7 : Ss := (.cons (.asg (.one 2) (.ap .mul (.cons (.lst (.cons (.cst .non) .nil)) (.cons (.ap .len (.cons (.pidx (.var 0) (.cst (.int 0))) .nil)) .nil)))) (.cons (.asg (.one 3) (.call 2 (.cons (.var 0) (.cons (.var 1) .nil)))) (.cons (.for (.tup [(.one 4), (.one 5)]) (.enum (.var 1)) (.cons (.for (.one 6) (.seq (.ap (.slc true false) (.cons (.pidx (.pidx (.var 3) (.ap .add (.cons (.var 4) (.cons (.cst (.int 1)) .nil)))) (.cst (.int 0))) (.cons (.ap .len (.cons (.pidx (.pidx (.var 3) (.var 4)) (.cst (.int 0))) .nil)) .nil)))) (.cons (.sto (.var 2) (.var 6) (.var 5)) .nil)) .nil)) (.cons (.ret (.ap .tuple (.cons (.var 2) .nil))) .nil))))
def f7 : Fd := ⟨2, 7, [], b7⟩
def b8 : Ss := (.cons (.asg (.one 1) (.lc [8] (.one 8) (.seq (.var 0)) .nil (.ap .abs (.cons (.ap .int (.cons (.var 8) .nil)) .nil)))) (.cons (.ite (.ap .eq (.cons (.ap .len (.cons (.var 1) .nil)) (.cons (.cst (.int 0)) .nil))) (.cons (.asg (.one 1) (.lst (.cons (.cst (.int 515)) .nil))) .nil) .nil) (.cons (.asg (.one 2) (.fze (.lc [9] (.one 9) (.seq (.var 1)) .nil (.ap .ge (.cons (.var 9) (.cons (.ap .pow (.cons (.cst (.int 10)) (.cons (.cst (.int 18)) .nil))) .nil)))))) (.cons (.asg (.one 3) (.fze (.lc [9] (.one 9) (.seq (.var 1)) .nil (.ap .mod (.cons (.ap .int (.cons (.var 9) .nil)) (.cons (.cst (.int 1000253)) .nil)))))) (.cons (.asg (.one 4) (.lst .nil)) (.cons (.asg (.one 5) (.cst (.int 2221))) (.cons (.for (.one 6) (.rng1 (.cst (.int 700))) (.cons (.asg (.one 7) (.ap .mod (.cons (.ap .int (.cons (.ap .mul (.cons (.var 6) (.cons (.cst (.int 1)) .nil))) .nil)) (.cons (.ap .len (.cons (.var 1) .nil)) .nil)))) (.cons (.asg (.one 5) (.ap .mod (.cons (.ap .int (.cons (.ap .add (.cons (.ap .add (.cons (.ap .add (.cons (.ap .mul (.cons (.var 5) (.cons (.cst (.int 48271)) .nil))) (.cons (.ap .mul (.cons (.pidx (.var 3) (.var 7)) (.cons (.cst (.int 37)) .nil))) .nil))) (.cons (.ap .mul (.cons (.ap .mul (.cons (.var 6) (.cons (.var 6) .nil))) (.cons (.cst (.int 41)) .nil))) .nil))) (.cons (.cst (.int 9)) .nil))) .nil)) (.cons (.cst (.int 2147483647)) .nil)))) (.cons (.ite (.and (.pidx (.var 2) (.var 7)) (.ap .gt (.cons (.pidx (.var 1) (.var 7)) (.cons (.cst (.int 0)) .nil)))) (.cons (.exp (.mm .append (.var 4) (.cons (.ap .mod (.cons (.ap .int (.cons (.pidx (.var 1) (.var 7)) .nil)) (.cons (.cst (.int 32760)) .nil))) .nil))) (.cons (.sto (.var 1) (.var 7) (.ap .fdiv (.cons (.pidx (.var 1) (.var 7)) (.cons (.cst (.int 32760)) .nil)))) .nil)) (.cons (.exp (.mm .append (.var 4) (.cons (.ap .mod (.cons (.ap .int (.cons (.ap .fdiv (.cons (.var 5) (.cons (.cst (.int 29)) .nil))) .nil)) (.cons (.cst (.int 32760)) .nil))) .nil))) .nil)) .nil)))) (.cons (.ret (.lst (.cons (.mov 4) (.cons (.cst (.int 0)) .nil)))) .nil))))))))
def f8 : Fd := ⟨1, 10, [], b8⟩
def b9 : Ss := (.cons (.asg (.one 2) (.ap .mod (.cons (.ap .int (.cons (.pidx (.var 0) (.cst (.int 1))) .nil)) (.cons (.ap .len (.cons (.pidx (.var 0) (.cst (.int 0))) .nil)) .nil)))) (.cons (.sto (.var 0) (.cst (.int 1)) (.ap .add (.cons (.pidx (.var 0) (.cst (.int 1))) (.cons (.cst (.int 1)) .nil)))) (.cons (.ret (.ap .mod (.cons (.ap .int (.cons (.pidx (.pidx (.var 0) (.cst (.int 0))) (.var 2)) .nil)) (.cons (.var 1) .nil)))) .nil)))
def f9 : Fd := ⟨2, 3, [], b9⟩
def b10 : Ss := (.cons (.asg (.one 3) (.call 9 (.cons (.var 0) (.cons (.cst (.int 6)) .nil)))) (.cons (.asg (.one 4) (.lst .nil)) (.cons (.for (.one 5) (.rng1 (.var 1)) (.cons (.exp (.mm .append (.var 4) (.cons (.ap .idx (.cons (.tup (.cons (.call 9 (.cons (.var 0) (.cons (.cst (.int 3)) .nil))) (.cons (.cst (.int 1)) (.cons (.call 9 (.cons (.var 0) (.cons (.cst (.int 2)) .nil))) (.cons (.call 9 (.cons (.var 0) (.cons (.cst (.int 5)) .nil))) (.cons (.cst (.int 0)) (.cons (.call 9 (.cons (.var 0) (.cons (.cst (.int 100)) .nil))) .nil))))))) (.cons (.var 3) .nil))) .nil))) .nil)) (.cons (.ite (.ap .gt (.cons (.call 9 (.cons (.var 0) (.cons (.cst (.int 4)) .nil))) (.cons (.cst (.int 0)) .nil))) (.cons (.sto (.var 4) (.cst (.int 0)) (.ap .add (.cons (.cst (.int 1)) (.cons (.call 9 (.cons (.var 0) (.cons (.cst (.int 9)) .nil))) .nil)))) .nil) .nil) (.cons (.asg (.one 6) (.lst .nil)) (.cons (.for (.one 7) (.rng1 (.var 2)) (.cons (.asg (.one 8) (.call 9 (.cons (.var 0) (.cons (.var 1) .nil)))) (.cons (.asg (.one 9) (.call 9 (.cons (.var 0) (.cons (.var 1) .nil)))) (.cons (.ite (.and (.ap .lt (.cons (.var 7) (.cons (.ap .sub (.cons (.var 1) (.cons (.cst (.int 1)) .nil))) .nil))) (.ap .gt (.cons (.call 9 (.cons (.var 0) (.cons (.cst (.int 4)) .nil))) (.cons (.cst (.int 0)) .nil)))) (.cons (.asg (.one 8) (.ap .add (.cons (.var 7) (.cons (.cst (.int 1)) .nil)))) (.cons (.asg (.one 9) (.call 9 (.cons (.var 0) (.cons (.ap .add (.cons (.var 7) (.cons (.cst (.int 1)) .nil))) .nil)))) .nil)) .nil) (.cons (.ite (.ap .ne (.cons (.var 8) (.cons (.var 9) .nil))) (.cons (.exp (.mm .append (.var 6) (.cons (.tup (.cons (.ap .min2 (.cons (.var 8) (.cons (.var 9) .nil))) (.cons (.ap .max2 (.cons (.var 8) (.cons (.var 9) .nil))) .nil))) .nil))) .nil) .nil) .nil))))) (.cons (.asg (.one 10) (.fze (.lc [5] (.one 5) (.rng2 (.cst (.int 1)) (.var 1)) (.cons (.ap .eq (.cons (.call 9 (.cons (.var 0) (.cons (.cst (.int 7)) .nil))) (.cons (.cst (.int 0)) .nil))) .nil) (.var 5)))) (.cons (.ite (.ap .eq (.cons (.ap .len (.cons (.var 10) .nil)) (.cons (.cst (.int 0)) .nil))) (.cons (.asg (.one 10) (.fze (.lst (.cons (.ap .add (.cons (.cst (.int 1)) (.cons (.call 9 (.cons (.var 0) (.cons (.ap .sub (.cons (.var 1) (.cons (.cst (.int 1)) .nil))) .nil))) .nil))) .nil)))) .nil) .nil) (.cons (.for (.one 11) (.seq (.var 10)) (.cons (.sto (.var 4) (.var 11) (.cst (.int 0))) .nil)) (.cons (.ret (.tup (.cons (.ap .tuple (.cons (.var 4) .nil)) (.cons (.ap .tuple (.cons (.ap .sorted (.cons (.var 6) .nil)) .nil)) (.cons (.ap .tuple (.cons (.var 10) .nil)) .nil))))) .nil))))))))))
def f10 : Fd := ⟨3, 12, [], b10⟩
def b11 : Ss := (.cons (.asg (.one 1) (.ap .add (.cons (.ap .add (.cons (.ap .add (.cons (.lst (.cons (.tup (.cons (.cst (.int 0)) (.cons (.cst (.int 1)) .nil))) (.cons (.tup (.cons (.cst (.int 0)) (.cons (.cst (.int 1)) .nil))) .nil))) (.cons (.ap .mul (.cons (.lst (.cons (.tup (.cons (.cst (.int 0)) (.cons (.cst (.int 1)) .nil))) .nil)) (.cons (.call 9 (.cons (.var 0) (.cons (.cst (.int 2)) .nil))) .nil))) .nil))) (.cons (.ap .mul (.cons (.lst (.cons (.tup (.cons (.cst (.int 0)) (.cons (.cst (.int 2)) .nil))) .nil)) (.cons (.call 9 (.cons (.var 0) (.cons (.cst (.int 3)) .nil))) .nil))) .nil))) (.cons (.ap .mul (.cons (.lst (.cons (.tup (.cons (.cst (.int 1)) (.cons (.cst (.int 2)) .nil))) .nil)) (.cons (.call 9 (.cons (.var 0) (.cons (.cst (.int 3)) .nil))) .nil))) .nil)))) (.cons (.exp (.mm .append (.var 1) (.cons (.tup (.cons (.cst (.int 2)) (.cons (.cst (.int 3)) .nil))) .nil))) (.cons (.ret (.tup (.cons (.tup (.cons (.ap .add (.cons (.cst (.int 3)) (.cons (.call 9 (.cons (.var 0) (.cons (.cst (.int 4)) .nil))) .nil))) (.cons (.call 9 (.cons (.var 0) (.cons (.cst (.int 3)) .nil))) (.cons (.call 9 (.cons (.var 0) (.cons (.cst (.int 3)) .nil))) (.cons (.cst (.int 0)) .nil))))) (.cons (.ap .tuple (.cons (.var 1) .nil)) (.cons (.tup (.cons (.cst (.int 3)) .nil)) .nil))))) .nil)))
def f11 : Fd := ⟨1, 2, [], b11⟩
def b12 : Ss := (.cons (.asg (.one 1) (.ap .add (.cons (.cst (.int 3)) (.cons (.call 9 (.cons (.var 0) (.cons (.cst (.int 5)) .nil))) .nil)))) (.cons (.asg (.one 2) (.lc [3] (.one 3) (.rng1 (.var 1)) .nil (.call 9 (.cons (.var 0) (.cons (.cst (.int 2)) .nil))))) (.cons (.sto (.var 2) (.ap .sub (.cons (.var 1) (.cons (.cst (.int 1)) .nil))) (.cst (.int 0))) (.cons (.sto (.var 2) (.cst (.int 0)) (.ap .max2 (.cons (.cst (.int 0)) (.cons (.ap .add (.cons (.ap .sub (.cons (.ap .sub (.cons (.var 1) (.cons (.cst (.int 2)) .nil))) (.cons (.ap .sum (.cons (.ap (.slc true false) (.cons (.var 2) (.cons (.cst (.int 1)) .nil))) .nil)) .nil))) (.cons (.call 9 (.cons (.var 0) (.cons (.cst (.int 3)) .nil))) .nil))) .nil)))) (.cons (.ret (.tup (.cons (.ap .tuple (.cons (.var 2) .nil)) (.cons (.ap .tuple (.cons (.lc [3] (.one 3) (.rng1 (.ap .sub (.cons (.var 1) (.cons (.cst (.int 1)) .nil)))) .nil (.tup (.cons (.var 3) (.cons (.ap .add (.cons (.var 3) (.cons (.cst (.int 1)) .nil))) .nil)))) .nil)) (.cons (.tup (.cons (.ap .sub (.cons (.var 1) (.cons (.cst (.int 1)) .nil))) .nil)) .nil))))) .nil)))))
def f12 : Fd := ⟨1, 4, [], b12⟩
def b13 : Ss := (.cons (.ret (.lst (.cons (.lst (.cons (.cst (.int 0)) .nil)) (.cons (.lst .nil) (.cons (.pidx (.pidx (.var 0) (.cst (.int 0))) (.cst (.int 0))) .nil))))) .nil)
def f13 : Fd := ⟨1, 1, [], b13⟩
def b14 : Ss := (.cons (.asg (.tup [(.one 3), (.one 4)]) (.pidx (.pidx (.var 0) (.cst (.int 1))) (.var 2))) (.cons (.ite (.or (.ap .inn (.cons (.var 2) (.cons (.pidx (.var 1) (.cst (.int 1))) .nil))) (.ap .lt (.cons (.pidx (.var 1) (.cst (.int 2))) (.cons (.cst (.int 1)) .nil)))) (.cons (.ret (.cst (.bl false))) .nil) .nil) (.cons (.for (.one 5) (.seq (.pidx (.var 0) (.cst (.int 2)))) (.cons (.ite (.ap .inn (.cons (.var 5) (.cons (.pidx (.var 1) (.cst (.int 0))) .nil))) (.cons (.ret (.cst (.bl false))) .nil) .nil) .nil)) (.cons (.ret (.or (.ap .inn (.cons (.var 3) (.cons (.pidx (.var 1) (.cst (.int 0))) .nil))) (.ap .inn (.cons (.var 4) (.cons (.pidx (.var 1) (.cst (.int 0))) .nil))))) .nil))))
def f14 : Fd := ⟨3, 6, [], b14⟩
def b15 : Ss := (.cons (.exp (.mm .append (.pidx (.var 1) (.cst (.int 1))) (.cons (.var 2) .nil))) (.cons (.sto (.var 1) (.cst (.int 2)) (.ap .sub (.cons (.pidx (.var 1) (.cst (.int 2))) (.cons (.cst (.int 1)) .nil)))) (.cons (.for (.one 3) (.seq (.pidx (.pidx (.var 0) (.cst (.int 1))) (.var 2))) (.cons (.ite (.ap .nin (.cons (.var 3) (.cons (.pidx (.var 1) (.cst (.int 0))) .nil))) (.cons (.exp (.mm .append (.pidx (.var 1) (.cst (.int 0))) (.cons (.var 3) .nil))) (.cons (.sto (.var 1) (.cst (.int 2)) (.ap .add (.cons (.pidx (.var 1) (.cst (.int 2))) (.cons (.pidx (.pidx (.var 0) (.cst (.int 0))) (.var 3)) .nil)))) .nil)) .nil) .nil)) .nil)))
def f15 : Fd := ⟨3, 4, [], b15⟩
def b16 : Ss := (.cons (.asg (.one 3) (.call 13 (.cons (.var 1) .nil))) (.cons (.for (.one 4) (.rng1 (.var 2)) (.cons (.asg (.one 5) (.fze (.lc [7] (.one 7) (.rng1 (.ap .len (.cons (.pidx (.var 1) (.cst (.int 1))) .nil))) (.cons (.call 14 (.cons (.var 1) (.cons (.var 3) (.cons (.var 7) .nil)))) .nil) (.var 7)))) (.cons (.asg (.one 6) (.fze (.lc [7] (.one 7) (.seq (.var 5)) (.cons (.and (.ap .nin (.cons (.pidx (.pidx (.pidx (.var 1) (.cst (.int 1))) (.var 7)) (.cst (.int 0))) (.cons (.pidx (.var 1) (.cst (.int 2))) .nil))) (.ap .nin (.cons (.pidx (.pidx (.pidx (.var 1) (.cst (.int 1))) (.var 7)) (.cst (.int 1))) (.cons (.pidx (.var 1) (.cst (.int 2))) .nil)))) .nil) (.var 7)))) (.cons (.ite (.and (.ap .gt (.cons (.ap .len (.cons (.var 6) .nil)) (.cons (.cst (.int 0)) .nil))) (.ap .gt (.cons (.call 9 (.cons (.var 0) (.cons (.cst (.int 5)) .nil))) (.cons (.cst (.int 0)) .nil)))) (.cons (.asg (.one 5) (.fze (.mov 6))) .nil) .nil) (.cons (.ite (.ap .eq (.cons (.ap .len (.cons (.var 5) .nil)) (.cons (.cst (.int 0)) .nil))) (.cons .brk .nil) .nil) (.cons (.exp (.call 15 (.cons (.var 1) (.cons (.var 3) (.cons (.pidx (.var 5) (.call 9 (.cons (.var 0) (.cons (.ap .len (.cons (.var 5) .nil)) .nil)))) .nil))))) .nil)))))) (.cons (.ret (.ap .tuple (.cons (.pidx (.var 3) (.cst (.int 1))) .nil))) .nil)))
def f16 : Fd := ⟨3, 8, [], b16⟩
def b17 : Ss := (.cons (.asg (.one 2) (.call 13 (.cons (.var 0) .nil))) (.cons (.asg (.one 3) (.lst (.cons (.pidx (.var 2) (.cst (.int 2))) .nil))) (.cons (.asg (.one 4) (.lst .nil)) (.cons (.asg (.one 5) (.ap .mul (.cons (.lst (.cons (.cst .non) .nil)) (.cons (.ap .len (.cons (.pidx (.var 0) (.cst (.int 0))) .nil)) .nil)))) (.cons (.for (.one 6) (.seq (.var 1)) (.cons (.asg (.tup [(.one 7), (.one 8)]) (.pidx (.pidx (.var 0) (.cst (.int 1))) (.var 6))) (.cons (.ite (.and (.ap .inn (.cons (.var 7) (.cons (.pidx (.var 2) (.cst (.int 0))) .nil))) (.ap .inn (.cons (.var 8) (.cons (.pidx (.var 2) (.cst (.int 0))) .nil)))) (.cons (.exp (.mm .append (.var 4) (.cons (.var 6) .nil))) .nil) (.cons (.sto (.var 5) (.ife (.ap .inn (.cons (.var 7) (.cons (.pidx (.var 2) (.cst (.int 0))) .nil))) (.var 8) (.var 7)) (.var 6)) .nil)) (.cons (.exp (.call 15 (.cons (.var 0) (.cons (.var 2) (.cons (.var 6) .nil))))) (.cons (.exp (.mm .append (.var 3) (.cons (.pidx (.var 2) (.cst (.int 2))) .nil))) .nil))))) (.cons (.asg (.one 9) (.ap .tuple (.cons (.lc [6] (.one 6) (.seq (.var 1)) (.cons (.ap .nin (.cons (.var 6) (.cons (.var 4) .nil))) .nil) (.var 6)) .nil))) (.cons (.ret (.tup (.cons (.ap .tuple (.cons (.var 3) .nil)) (.cons (.ap .tuple (.cons (.var 4) .nil)) (.cons (.var 9) (.cons (.ap .tuple (.cons (.var 5) .nil)) .nil)))))) .nil)))))))
def f17 : Fd := ⟨2, 10, [], b17⟩
def b18 : Ss := (.cons (.ite (.ap .isN (.cons (.var 1) .nil)) (.cons (.ret (.ap .isN (.cons (.var 0) .nil))) .nil) .nil) (.cons (.ite (.ap (.isi .bool) (.cons (.var 1) .nil)) (.cons (.ret (.and (.ap (.isi .bool) (.cons (.var 0) .nil)) (.ap .eq (.cons (.var 0) (.cons (.var 1) .nil))))) .nil) .nil) (.cons (.ite (.ap (.isi .int) (.cons (.var 1) .nil)) (.cons (.ret (.and (.ap (.isi .int) (.cons (.var 0) .nil)) (.and (.not (.ap (.isi .bool) (.cons (.var 0) .nil))) (.ap .eq (.cons (.var 0) (.cons (.var 1) .nil)))))) .nil) .nil) (.cons (.ite (.ap (.isi .str) (.cons (.var 1) .nil)) (.cons (.ret (.and (.ap (.isi .str) (.cons (.var 0) .nil)) (.ap .eq (.cons (.var 0) (.cons (.var 1) .nil))))) .nil) .nil) (.cons (.ite (.or (.not (.ap (.isi .tup) (.cons (.var 0) .nil))) (.ap .ne (.cons (.ap .len (.cons (.var 0) .nil)) (.cons (.ap .len (.cons (.var 1) .nil)) .nil)))) (.cons (.ret (.cst (.bl false))) .nil) .nil) (.cons (.for (.one 2) (.rng1 (.ap .len (.cons (.var 1) .nil))) (.cons (.ite (.not (.call 18 (.cons (.pidx (.var 0) (.var 2)) (.cons (.pidx (.var 1) (.var 2)) .nil)))) (.cons (.ret (.cst (.bl false))) .nil) .nil) .nil)) (.cons (.ret (.cst (.bl true))) .nil)))))))
def f18 : Fd := ⟨2, 3, [], b18⟩
def b19 : Ss := (.cons (.asg (.tup [(.one 2), (.one 3), (.one 4), (.one 5)]) (.call 17 (.cons (.var 0) (.cons (.var 1) .nil)))) (.cons (.ite (.or (.not (.call 18 (.cons (.call 3 (.cons (.var 0) (.cons (.var 1) .nil))) (.cons (.var 2) .nil)))) (.not (.call 18 (.cons (.call 5 (.cons (.var 0) (.cons (.var 1) .nil))) (.cons (.var 3) .nil))))) (.cons (.ret (.cst (.bl false))) .nil) .nil) (.cons (.ite (.or (.not (.call 18 (.cons (.call 6 (.cons (.var 0) (.cons (.var 1) .nil))) (.cons (.var 4) .nil)))) (.not (.call 18 (.cons (.kcall 7 [0, 1] (.cons (.var 0) (.cons (.var 1) .nil))) (.cons (.var 5) .nil))))) (.cons (.ret (.cst (.bl false))) .nil) .nil) (.cons (.asg (.one 6) (.call 17 (.cons (.var 0) (.cons (.var 4) .nil)))) (.cons (.ite (.or (.ap .ne (.cons (.pidx (.pidx (.var 6) (.cst (.int 0))) (.ap .len (.cons (.var 4) .nil))) (.cons (.ap .add (.cons (.pidx (.var 2) (.ap .len (.cons (.var 1) .nil))) (.cons (.ap .len (.cons (.var 3) .nil)) .nil))) .nil))) (.ap .ne (.cons (.pidx (.var 6) (.cst (.int 3))) (.cons (.var 5) .nil)))) (.cons (.ret (.cst (.bl false))) .nil) .nil) (.cons (.ret (.and (.call 18 (.cons (.call 3 (.cons (.var 0) (.cons (.var 4) .nil))) (.cons (.pidx (.var 6) (.cst (.int 0))) .nil))) (.call 18 (.cons (.call 5 (.cons (.var 0) (.cons (.var 4) .nil))) (.cons (.tup .nil) .nil))))) .nil))))))
def f19 : Fd := ⟨2, 7, [], b19⟩
def b20 : Ss := (.cons (.asg (.one 1) (.call 8 (.cons (.var 0) .nil))) (.cons (.asg (.one 2) (.ap .eq (.cons (.call 9 (.cons (.var 1) (.cons (.cst (.int 13)) .nil))) (.cons (.cst (.int 7)) .nil)))) (.cons (.ite (.var 2) (.cons (.asg (.one 3) (.call 10 (.cons (.var 1) (.cons (.cst (.int 60)) (.cons (.cst (.int 150)) .nil))))) (.cons (.asg (.one 3) (.tup (.cons (.ap .add (.cons (.tup (.cons (.cst (.int 99)) .nil)) (.cons (.ap (.slc true false) (.cons (.pidx (.var 3) (.cst (.int 0))) (.cons (.cst (.int 1)) .nil))) .nil))) (.cons (.pidx (.var 3) (.cst (.int 1))) (.cons (.ap (.slc true false) (.cons (.pidx (.var 3) (.cst (.int 2))) (.cons (.ap .sub (.cons (.ap .len (.cons (.pidx (.var 3) (.cst (.int 2))) .nil)) (.cons (.cst (.int 1)) .nil))) .nil))) .nil))))) .nil)) (.cons (.asg (.one 3) (.call 10 (.cons (.var 1) (.cons (.ap .add (.cons (.cst (.int 2)) (.cons (.call 9 (.cons (.var 1) (.cons (.cst (.int 6)) .nil))) .nil))) (.cons (.call 9 (.cons (.var 1) (.cons (.cst (.int 10)) .nil))) .nil))))) .nil)) (.cons (.asg (.one 4) (.call 11 (.cons (.var 1) .nil))) (.cons (.asg (.one 5) (.call 12 (.cons (.var 1) .nil))) (.cons (.ite (.not (.call 19 (.cons (.var 3) (.cons (.call 16 (.cons (.var 1) (.cons (.var 3) (.cons (.ife (.var 2) (.cst (.int 150)) (.call 9 (.cons (.var 1) (.cons (.cst (.int 11)) .nil)))) .nil)))) .nil)))) (.cons (.ret (.cst (.bl false))) .nil) .nil) (.cons (.ite (.or (.not (.call 19 (.cons (.var 3) (.cons (.tup .nil) .nil)))) (.not (.call 19 (.cons (.var 5) (.cons (.call 16 (.cons (.var 1) (.cons (.var 5) (.cons (.cst (.int 9)) .nil)))) .nil))))) (.cons (.ret (.cst (.bl false))) .nil) .nil) (.cons (.ite (.not (.call 19 (.cons (.var 4) (.cons (.call 16 (.cons (.var 1) (.cons (.var 4) (.cons (.ap .add (.cons (.cst (.int 1)) (.cons (.call 9 (.cons (.var 1) (.cons (.cst (.int 10)) .nil))) .nil))) .nil)))) .nil)))) (.cons (.ret (.cst (.bl false))) .nil) .nil) (.cons (.ret (.and (.call 19 (.cons (.var 4) (.cons (.tup (.cons (.cst (.int 1)) (.cons (.cst (.int 0)) .nil))) .nil))) (.call 19 (.cons (.var 4) (.cons (.tup (.cons (.cst (.int 0)) (.cons (.ap .sub (.cons (.ap .len (.cons (.pidx (.var 4) (.cst (.int 1))) .nil)) (.cons (.cst (.int 2)) .nil))) .nil))) .nil))))) .nil)))))))))
def f20 : Fd := ⟨1, 6, [], b20⟩
def fs : List Fd := [f0, f1, f2, f3, f4, f5, f6, f7, f8, f9, f10, f11, f12, f13, f14, f15, f16, f17, f18, f19, f20]
def tf : List He.Defn := [("is_wasted", none)]
section
variable [TabList] {P : Program} {w : World} {K : PySem.W.Frag} {mg : Str → Option Value} {base : Heap} {rx : XR} {k : Nat} {call : Nat → List D → CRes}
theorem sc0 : FnScope ["house"] ["house"] (defScope (top 1)) := ⟨rfl, rfl, rfl, by decide +kernel, rfl, by decide +kernel, by decide +kernel⟩
theorem t0 (IH : ∀ i x, names[i]? = some x → FnW P w K mg base rx k x (kw i) (call i)) (free : ∀ x, blts.contains x = true → mg x = none) (TT : ∀ q ∈ tf, (He.cT K q).2 ∈ TabList.tabs ∧ GxR.TabB base mg (He.cT K q).1 (He.cT K q).2) {f : Addr} {cdv : Value} {A : Around} {outer : List PySem.Env} {s : Shared} {H : Hp} {E : XK} (hcode : cdv = .ref (He.codeOf K ("first_step", none))) (hr : Room k (A.deeper (envOfC "first_step" (defScope (top 1)) s.heap.objs.size f cdv))) : PSs (cxOf (L2.CX P w) P w K mg base ["house"] "first_step" (defScope (top 1)) f cdv A outer s H E) (defBody (top 1)) (tSs K rx (fun c d _ H' => E c d H') { call := call, kp := Fd.kp f0 } b0) := by
  subst hcode
  have hN := sc0.nd
  have tk := takes_cx (P := P) (w := w) (K := K) (mg := mg) (base := base) (N := ["house"]) (qual := "first_step") (scope := defScope (top 1)) (f := f) (cd := .ref (He.codeOf K ("first_step", none))) (A := A) (outer := outer) (s := s) (H := H) (E := E)
  have hp := owns_cx (P := P) (w := w) (K := K) (mg := mg) (base := base) (N := ["house"]) (qual := "first_step") (scope := defScope (top 1)) (f := f) (cd := .ref (He.codeOf K ("first_step", none))) (A := A) (outer := outer) (s := s) (H := H) (E := E)
  exact (q_cons (q_ret (s_fze (s_tup (so_cons (s_lst (so_cons s_cint so_nil rfl)) (so_cons s_dic0 (so_cons (s_pidx hr (s_pidx hr (s_var rfl (vis_by rfl) rfl rfl) s_cint (fun _ _ => rfl)) s_cint (fun _ _ => rfl)) so_nil rfl) rfl) rfl)))) q_nil)
theorem g0 (IH : ∀ i x, names[i]? = some x → FnW P w K mg base rx k x (kw i) (callN fs k i)) (free : ∀ x, blts.contains x = true → mg x = none) (TT : ∀ q ∈ tf, (He.cT K q).2 ∈ TabList.tabs ∧ GxR.TabB base mg (He.cT K q).1 (He.cT K q).2) {f : Addr} {fd : FuncData} (hf : f = He.fAd K ("first_step", none)) (F : FunD K "first_step" "first_step" (defArgs (top 1)) (defBody (top 1)) (defScope (top 1)) [] [] f fd) (hm : mg "first_step" = some (.ref f)) : FnW P w K mg base rx (k + 1) "first_step" (kw 0) (callN fs (k + 1) 0) :=
  ⟨f, fd, ["house"], fd_okC hf F sc0 f0 rfl rfl (fun cdv A outer s H E hc hr => t0 IH free TT hc hr), hm, F.kp, F.bindsN (fun _ _ _ _ _ _ us hl => match us, hl with | [_], _ => rfl), fun j _ _ hj => by cases hj⟩
theorem sc1 : FnScope ["house", "step", "door", "rooms", "opened", "hand", "fresh", "gained", "room"] ["house", "step", "door"] (defScope (top 2)) := ⟨rfl, rfl, rfl, by decide +kernel, rfl, by decide +kernel, by decide +kernel⟩
theorem t1 (IH : ∀ i x, names[i]? = some x → FnW P w K mg base rx k x (kw i) (call i)) (free : ∀ x, blts.contains x = true → mg x = none) (TT : ∀ q ∈ tf, (He.cT K q).2 ∈ TabList.tabs ∧ GxR.TabB base mg (He.cT K q).1 (He.cT K q).2) {f : Addr} {cdv : Value} {A : Around} {outer : List PySem.Env} {s : Shared} {H : Hp} {E : XK} (hcode : cdv = .ref (He.codeOf K ("next_step", none))) (hr : Room k (A.deeper (envOfC "next_step" (defScope (top 2)) s.heap.objs.size f cdv))) : PSs (cxOf (L2.CX P w) P w K mg base ["house", "step", "door", "rooms", "opened", "hand", "fresh", "gained", "room"] "next_step" (defScope (top 2)) f cdv A outer s H E) (defBody (top 2)) (tSs K rx (fun c d _ H' => E c d H') { call := call, kp := Fd.kp f1 } b1) := by
  subst hcode
  have hN := sc1.nd
  have tk := takes_cx (P := P) (w := w) (K := K) (mg := mg) (base := base) (N := ["house", "step", "door", "rooms", "opened", "hand", "fresh", "gained", "room"]) (qual := "next_step") (scope := defScope (top 2)) (f := f) (cd := .ref (He.codeOf K ("next_step", none))) (A := A) (outer := outer) (s := s) (H := H) (E := E)
  have hp := owns_cx (P := P) (w := w) (K := K) (mg := mg) (base := base) (N := ["house", "step", "door", "rooms", "opened", "hand", "fresh", "gained", "room"]) (qual := "next_step") (scope := defScope (top 2)) (f := f) (cd := .ref (He.codeOf K ("next_step", none))) (A := A) (outer := outer) (s := s) (H := H) (E := E)
  exact (q_cons (q_asg (s_var rfl (vis_by rfl) rfl rfl) (g_tup rfl (g_cons (g_name hN rfl (loc_by rfl) (fnl_by rfl)) (g_cons (g_name hN rfl (loc_by rfl) (fnl_by rfl)) (g_cons (g_name hN rfl (loc_by rfl) (fnl_by rfl)) g_nil rfl) rfl) rfl) rfl rfl) rfl rfl rfl) (q_cons (q_setLcF (own := [("room", 8)]) rfl hN rfl rfl rfl rfl rfl (i_seq (s_pidx hr (s_pidx hr (s_var rfl (vis_by rfl) rfl rfl) s_cint (fun _ _ => rfl)) (s_var rfl (vis_by rfl) rfl rfl) (fun _ _ => rfl))) rfl (by decide) rfl (fun _ _ _ _ _ => (g_name hN rfl (loc_by rfl) (fnl_by rfl))) (fun _ _ _ _ _ => (if_one (t_cmp rfl (o_nin hr) (s_var rfl (vis_by rfl) rfl rfl) (s_var rfl (vis_by rfl) rfl rfl) rfl))) (fun _ _ _ _ _ => (s_var rfl (vis_by rfl) rfl rfl)) (fun _ => rfl)) (q_cons (q_asg (s_callB (c_sum rfl) rfl (free "sum" rfl) rfl (s_cons (s_lc (own := [("room", 8)]) rfl hN (i_seq (s_var rfl (vis_by rfl) rfl rfl)) rfl (by decide) rfl (fun _ _ _ _ _ => (g_name hN rfl (loc_by rfl) (fnl_by rfl))) (fun _ _ _ _ _ => if_nil) (fun _ _ _ _ _ => (s_pidx hr (s_pidx hr (s_var rfl (vis_by rfl) rfl rfl) s_cint (fun _ _ => rfl)) (s_var rfl (vis_by rfl) rfl rfl) (fun _ _ => rfl))) (fun _ => rfl)) s_nil rfl) (by decide) rfl rfl rfl) (g_name hN rfl (loc_by rfl) (fnl_by rfl)) rfl rfl rfl) (q_cons (q_ret (s_fze (s_tup (so_cons (s_bin o_add (s_var rfl (vis_by rfl) rfl rfl) (s_var rfl (vis_by rfl) rfl rfl)) (so_cons (s_dup hr (s_var rfl (vis_by rfl) rfl rfl) (s_var rfl (vis_by rfl) rfl rfl) s_cbl) (so_cons (s_bin o_add (s_bin o_sub (s_var rfl (vis_by rfl) rfl rfl) s_cint) (s_var rfl (vis_by rfl) rfl rfl)) so_nil rfl) rfl) rfl)))) q_nil))))
theorem g1 (IH : ∀ i x, names[i]? = some x → FnW P w K mg base rx k x (kw i) (callN fs k i)) (free : ∀ x, blts.contains x = true → mg x = none) (TT : ∀ q ∈ tf, (He.cT K q).2 ∈ TabList.tabs ∧ GxR.TabB base mg (He.cT K q).1 (He.cT K q).2) {f : Addr} {fd : FuncData} (hf : f = He.fAd K ("next_step", none)) (F : FunD K "next_step" "next_step" (defArgs (top 2)) (defBody (top 2)) (defScope (top 2)) [] [] f fd) (hm : mg "next_step" = some (.ref f)) : FnW P w K mg base rx (k + 1) "next_step" (kw 1) (callN fs (k + 1) 1) :=
  ⟨f, fd, ["house", "step", "door"], fd_okC hf F sc1 f1 rfl rfl (fun cdv A outer s H E hc hr => t1 IH free TT hc hr), hm, F.kp, F.bindsN (fun _ _ _ _ _ _ us hl => match us, hl with | [_, _, _], _ => rfl), fun j _ _ hj => by cases hj⟩
theorem sc2 : FnScope ["house", "walk", "steps", "door"] ["house", "walk"] (defScope (top 3)) := ⟨rfl, rfl, rfl, by decide +kernel, rfl, by decide +kernel, by decide +kernel⟩
theorem t2 (IH : ∀ i x, names[i]? = some x → FnW P w K mg base rx k x (kw i) (call i)) (free : ∀ x, blts.contains x = true → mg x = none) (TT : ∀ q ∈ tf, (He.cT K q).2 ∈ TabList.tabs ∧ GxR.TabB base mg (He.cT K q).1 (He.cT K q).2) {f : Addr} {cdv : Value} {A : Around} {outer : List PySem.Env} {s : Shared} {H : Hp} {E : XK} (hcode : cdv = .ref (He.codeOf K ("walk_steps", none))) (hr : Room k (A.deeper (envOfC "walk_steps" (defScope (top 3)) s.heap.objs.size f cdv))) : PSs (cxOf (L2.CX P w) P w K mg base ["house", "walk", "steps", "door"] "walk_steps" (defScope (top 3)) f cdv A outer s H E) (defBody (top 3)) (tSs K rx (fun c d _ H' => E c d H') { call := call, kp := Fd.kp f2 } b2) := by
  subst hcode
  have hN := sc2.nd
  have tk := takes_cx (P := P) (w := w) (K := K) (mg := mg) (base := base) (N := ["house", "walk", "steps", "door"]) (qual := "walk_steps") (scope := defScope (top 3)) (f := f) (cd := .ref (He.codeOf K ("walk_steps", none))) (A := A) (outer := outer) (s := s) (H := H) (E := E)
  have hp := owns_cx (P := P) (w := w) (K := K) (mg := mg) (base := base) (N := ["house", "walk", "steps", "door"]) (qual := "walk_steps") (scope := defScope (top 3)) (f := f) (cd := .ref (He.codeOf K ("walk_steps", none))) (A := A) (outer := outer) (s := s) (H := H) (E := E)
  exact (q_cons (q_asg (s_lst (so_cons (s_call ((IH 0 "first_step" rfl).at) hr tk rfl (sc_var rfl (vis_by rfl) rfl rfl sc_nil rfl) rfl rfl rfl) so_nil rfl)) (g_name hN rfl (loc_by rfl) (fnl_by rfl)) rfl rfl rfl) (q_cons (q_for hp rfl (i_seq (s_var rfl (vis_by rfl) rfl rfl)) (g_name hN rfl (loc_by rfl) (fnl_by rfl)) (q_cons (q_exp (s_mm slot_append PySem.F.type_list_append (p_var rfl (vis_by rfl) rfl rfl) (so_cons (s_call ((IH 1 "next_step" rfl).at) hr tk rfl (sc_var rfl (vis_by rfl) rfl rfl (sc_cons rfl (s_pidx hr (s_var rfl (vis_by rfl) rfl rfl) (s_un o_neg s_cint) (fun _ _ => rfl)) (sc_var rfl (vis_by rfl) rfl rfl sc_nil rfl) rfl) rfl) rfl rfl rfl) so_nil rfl) rfl rfl rfl rfl rfl) rfl) q_nil) (fun _ => rfl)) (q_cons (q_ret (s_fze (s_mov rfl (vis_by rfl) rfl rfl))) q_nil)))
theorem g2 (IH : ∀ i x, names[i]? = some x → FnW P w K mg base rx k x (kw i) (callN fs k i)) (free : ∀ x, blts.contains x = true → mg x = none) (TT : ∀ q ∈ tf, (He.cT K q).2 ∈ TabList.tabs ∧ GxR.TabB base mg (He.cT K q).1 (He.cT K q).2) {f : Addr} {fd : FuncData} (hf : f = He.fAd K ("walk_steps", none)) (F : FunD K "walk_steps" "walk_steps" (defArgs (top 3)) (defBody (top 3)) (defScope (top 3)) [] [] f fd) (hm : mg "walk_steps" = some (.ref f)) : FnW P w K mg base rx (k + 1) "walk_steps" (kw 2) (callN fs (k + 1) 2) :=
  ⟨f, fd, ["house", "walk"], fd_okC hf F sc2 f2 rfl rfl (fun cdv A outer s H E hc hr => t2 IH free TT hc hr), hm, F.kp, F.bindsN (fun _ _ _ _ _ _ us hl => match us, hl with | [_, _], _ => rfl), fun j _ _ hj => by cases hj⟩
theorem sc3 : FnScope ["house", "walk", "step"] ["house", "walk"] (defScope (top 5)) := ⟨rfl, rfl, rfl, by decide +kernel, rfl, by decide +kernel, by decide +kernel⟩
theorem t3 (IH : ∀ i x, names[i]? = some x → FnW P w K mg base rx k x (kw i) (call i)) (free : ∀ x, blts.contains x = true → mg x = none) (TT : ∀ q ∈ tf, (He.cT K q).2 ∈ TabList.tabs ∧ GxR.TabB base mg (He.cT K q).1 (He.cT K q).2) {f : Addr} {cdv : Value} {A : Around} {outer : List PySem.Env} {s : Shared} {H : Hp} {E : XK} (hcode : cdv = .ref (He.codeOf K ("hands_along", none))) (hr : Room k (A.deeper (envOfC "hands_along" (defScope (top 5)) s.heap.objs.size f cdv))) : PSs (cxOf (L2.CX P w) P w K mg base ["house", "walk", "step"] "hands_along" (defScope (top 5)) f cdv A outer s H E) (defBody (top 5)) (tSs K rx (fun c d _ H' => E c d H') { call := call, kp := Fd.kp f3 } b3) := by
  subst hcode
  have hN := sc3.nd
  have tk := takes_cx (P := P) (w := w) (K := K) (mg := mg) (base := base) (N := ["house", "walk", "step"]) (qual := "hands_along") (scope := defScope (top 5)) (f := f) (cd := .ref (He.codeOf K ("hands_along", none))) (A := A) (outer := outer) (s := s) (H := H) (E := E)
  have hp := owns_cx (P := P) (w := w) (K := K) (mg := mg) (base := base) (N := ["house", "walk", "step"]) (qual := "hands_along") (scope := defScope (top 5)) (f := f) (cd := .ref (He.codeOf K ("hands_along", none))) (A := A) (outer := outer) (s := s) (H := H) (E := E)
  exact (q_cons (q_ret (s_callTy c_tuple rfl (free "tuple" rfl) rfl (s_cons (s_lc (own := [("step", 2)]) rfl hN (i_seq (s_call ((IH 2 "walk_steps" rfl).at) hr tk rfl (sc_var rfl (vis_by rfl) rfl rfl (sc_var rfl (vis_by rfl) rfl rfl sc_nil rfl) rfl) rfl rfl rfl)) rfl (by decide) rfl (fun _ _ _ _ _ => (g_name hN rfl (loc_by rfl) (fnl_by rfl))) (fun _ _ _ _ _ => if_nil) (fun _ _ _ _ _ => (s_pidx hr (s_var rfl (vis_by rfl) rfl rfl) s_cint (fun _ _ => rfl))) (fun _ => rfl)) s_nil rfl) (by decide) rfl rfl rfl)) q_nil)
theorem g3 (IH : ∀ i x, names[i]? = some x → FnW P w K mg base rx k x (kw i) (callN fs k i)) (free : ∀ x, blts.contains x = true → mg x = none) (TT : ∀ q ∈ tf, (He.cT K q).2 ∈ TabList.tabs ∧ GxR.TabB base mg (He.cT K q).1 (He.cT K q).2) {f : Addr} {fd : FuncData} (hf : f = He.fAd K ("hands_along", none)) (F : FunD K "hands_along" "hands_along" (defArgs (top 5)) (defBody (top 5)) (defScope (top 5)) [] [] f fd) (hm : mg "hands_along" = some (.ref f)) : FnW P w K mg base rx (k + 1) "hands_along" (kw 3) (callN fs (k + 1) 3) :=
  ⟨f, fd, ["house", "walk"], fd_okC hf F sc3 f3 rfl rfl (fun cdv A outer s H E hc hr => t3 IH free TT hc hr), hm, F.kp, F.bindsN (fun _ _ _ _ _ _ us hl => match us, hl with | [_, _], _ => rfl), fun j _ _ hj => by cases hj⟩
theorem sc4 : FnScope ["house", "step", "door", "room"] ["house", "step", "door"] (defScope (top 6)) := ⟨rfl, rfl, rfl, by decide +kernel, rfl, by decide +kernel, by decide +kernel⟩
theorem t4 (IH : ∀ i x, names[i]? = some x → FnW P w K mg base rx k x (kw i) (call i)) (free : ∀ x, blts.contains x = true → mg x = none) (TT : ∀ q ∈ tf, (He.cT K q).2 ∈ TabList.tabs ∧ GxR.TabB base mg (He.cT K q).1 (He.cT K q).2) {f : Addr} {cdv : Value} {A : Around} {outer : List PySem.Env} {s : Shared} {H : Hp} {E : XK} (hcode : cdv = .ref (He.codeOf K ("is_wasted", none))) (hr : Room k (A.deeper (envOfC "is_wasted" (defScope (top 6)) s.heap.objs.size f cdv))) : PSs (cxOf (L2.CX P w) P w K mg base ["house", "step", "door", "room"] "is_wasted" (defScope (top 6)) f cdv A outer s H E) (defBody (top 6)) (tSs K rx (fun c d _ H' => E c d H') { call := call, kp := Fd.kp f4 } b4) := by
  subst hcode
  have hN := sc4.nd
  have tt := TT ("is_wasted", none) (by decide)
  have tk := takes_cx (P := P) (w := w) (K := K) (mg := mg) (base := base) (N := ["house", "step", "door", "room"]) (qual := "is_wasted") (scope := defScope (top 6)) (f := f) (cd := .ref (He.codeOf K ("is_wasted", none))) (A := A) (outer := outer) (s := s) (H := H) (E := E)
  have hp := owns_cx (P := P) (w := w) (K := K) (mg := mg) (base := base) (N := ["house", "step", "door", "room"]) (qual := "is_wasted") (scope := defScope (top 6)) (f := f) (cd := .ref (He.codeOf K ("is_wasted", none))) (A := A) (outer := outer) (s := s) (H := H) (E := E)
  exact (q_cons (q_ret (s_all hr hN rfl rfl tt.1 tt.2 rfl rfl (free "all" rfl) (s_pidx hr (s_pidx hr (s_var rfl (vis_by rfl) rfl rfl) s_cint (fun _ _ => rfl)) (s_var rfl (vis_by rfl) rfl rfl) (fun _ _ => rfl)) (fun G hG => (qe_in (qe_loc rfl (by rw [hG]; rfl) rfl) (qe_pidx (qe_free rfl (by rw [hG]; rfl) rfl rfl) qe_int (fun _ _ => rfl)) rfl)) (fun _ => rfl) rfl)) q_nil)
theorem g4 (IH : ∀ i x, names[i]? = some x → FnW P w K mg base rx k x (kw i) (callN fs k i)) (free : ∀ x, blts.contains x = true → mg x = none) (TT : ∀ q ∈ tf, (He.cT K q).2 ∈ TabList.tabs ∧ GxR.TabB base mg (He.cT K q).1 (He.cT K q).2) {f : Addr} {fd : FuncData} (hf : f = He.fAd K ("is_wasted", none)) (F : FunD K "is_wasted" "is_wasted" (defArgs (top 6)) (defBody (top 6)) (defScope (top 6)) [] [] f fd) (hm : mg "is_wasted" = some (.ref f)) : FnW P w K mg base rx (k + 1) "is_wasted" (kw 4) (callN fs (k + 1) 4) :=
  ⟨f, fd, ["house", "step", "door"], fd_okC hf F sc4 f4 rfl rfl (fun cdv A outer s H E hc hr => t4 IH free TT hc hr), hm, F.kp, F.bindsN (fun _ _ _ _ _ _ us hl => match us, hl with | [_, _, _], _ => rfl), fun j _ _ hj => by cases hj⟩
theorem sc5 : FnScope ["house", "walk", "steps", "at", "door"] ["house", "walk"] (defScope (top 7)) := ⟨rfl, rfl, rfl, by decide +kernel, rfl, by decide +kernel, by decide +kernel⟩
theorem t5 (IH : ∀ i x, names[i]? = some x → FnW P w K mg base rx k x (kw i) (call i)) (free : ∀ x, blts.contains x = true → mg x = none) (TT : ∀ q ∈ tf, (He.cT K q).2 ∈ TabList.tabs ∧ GxR.TabB base mg (He.cT K q).1 (He.cT K q).2) {f : Addr} {cdv : Value} {A : Around} {outer : List PySem.Env} {s : Shared} {H : Hp} {E : XK} (hcode : cdv = .ref (He.codeOf K ("wasted_doors", none))) (hr : Room k (A.deeper (envOfC "wasted_doors" (defScope (top 7)) s.heap.objs.size f cdv))) : PSs (cxOf (L2.CX P w) P w K mg base ["house", "walk", "steps", "at", "door"] "wasted_doors" (defScope (top 7)) f cdv A outer s H E) (defBody (top 7)) (tSs K rx (fun c d _ H' => E c d H') { call := call, kp := Fd.kp f5 } b5) := by
  subst hcode
  have hN := sc5.nd
  have tk := takes_cx (P := P) (w := w) (K := K) (mg := mg) (base := base) (N := ["house", "walk", "steps", "at", "door"]) (qual := "wasted_doors") (scope := defScope (top 7)) (f := f) (cd := .ref (He.codeOf K ("wasted_doors", none))) (A := A) (outer := outer) (s := s) (H := H) (E := E)
  have hp := owns_cx (P := P) (w := w) (K := K) (mg := mg) (base := base) (N := ["house", "walk", "steps", "at", "door"]) (qual := "wasted_doors") (scope := defScope (top 7)) (f := f) (cd := .ref (He.codeOf K ("wasted_doors", none))) (A := A) (outer := outer) (s := s) (H := H) (E := E)
  exact (q_cons (q_asg (s_call ((IH 2 "walk_steps" rfl).at) hr tk rfl (sc_var rfl (vis_by rfl) rfl rfl (sc_var rfl (vis_by rfl) rfl rfl sc_nil rfl) rfl) rfl rfl rfl) (g_name hN rfl (loc_by rfl) (fnl_by rfl)) rfl rfl rfl) (q_cons (q_ret (s_callTy c_tuple rfl (free "tuple" rfl) rfl (s_cons (s_lc (own := [("at", 3), ("door", 4)]) rfl hN (i_enum rfl (free "enumerate" rfl) (s_var rfl (vis_by rfl) rfl rfl) rfl) rfl (by decide) rfl (fun _ _ _ _ _ => (g_tup rfl (g_cons (g_name hN rfl (loc_by rfl) (fnl_by rfl)) (g_cons (g_name hN rfl (loc_by rfl) (fnl_by rfl)) g_nil rfl) rfl) rfl rfl)) (fun _ _ _ _ _ => (if_one (t_plain (s_call ((IH 4 "is_wasted" rfl).at) hr takes_no rfl (sc_var rfl (vis_by rfl) rfl rfl (sc_cons rfl (s_pidx hr (s_var rfl (vis_by rfl) rfl rfl) (s_var rfl (vis_by rfl) rfl rfl) (fun _ _ => rfl)) (sc_var rfl (vis_by rfl) rfl rfl sc_nil rfl) rfl) rfl) rfl rfl rfl) (fun _ => rfl)))) (fun _ _ _ _ _ => (s_var rfl (vis_by rfl) rfl rfl)) (fun _ => rfl)) s_nil rfl) (by decide) rfl rfl rfl)) q_nil))
theorem g5 (IH : ∀ i x, names[i]? = some x → FnW P w K mg base rx k x (kw i) (callN fs k i)) (free : ∀ x, blts.contains x = true → mg x = none) (TT : ∀ q ∈ tf, (He.cT K q).2 ∈ TabList.tabs ∧ GxR.TabB base mg (He.cT K q).1 (He.cT K q).2) {f : Addr} {fd : FuncData} (hf : f = He.fAd K ("wasted_doors", none)) (F : FunD K "wasted_doors" "wasted_doors" (defArgs (top 7)) (defBody (top 7)) (defScope (top 7)) [] [] f fd) (hm : mg "wasted_doors" = some (.ref f)) : FnW P w K mg base rx (k + 1) "wasted_doors" (kw 5) (callN fs (k + 1) 5) :=
  ⟨f, fd, ["house", "walk"], fd_okC hf F sc5 f5 rfl rfl (fun cdv A outer s H E hc hr => t5 IH free TT hc hr), hm, F.kp, F.bindsN (fun _ _ _ _ _ _ us hl => match us, hl with | [_, _], _ => rfl), fun j _ _ hj => by cases hj⟩
theorem sc6 : FnScope ["house", "walk", "wasted", "door"] ["house", "walk"] (defScope (top 8)) := ⟨rfl, rfl, rfl, by decide +kernel, rfl, by decide +kernel, by decide +kernel⟩
theorem t6 (IH : ∀ i x, names[i]? = some x → FnW P w K mg base rx k x (kw i) (call i)) (free : ∀ x, blts.contains x = true → mg x = none) (TT : ∀ q ∈ tf, (He.cT K q).2 ∈ TabList.tabs ∧ GxR.TabB base mg (He.cT K q).1 (He.cT K q).2) {f : Addr} {cdv : Value} {A : Around} {outer : List PySem.Env} {s : Shared} {H : Hp} {E : XK} (hcode : cdv = .ref (He.codeOf K ("plain_walk", none))) (hr : Room k (A.deeper (envOfC "plain_walk" (defScope (top 8)) s.heap.objs.size f cdv))) : PSs (cxOf (L2.CX P w) P w K mg base ["house", "walk", "wasted", "door"] "plain_walk" (defScope (top 8)) f cdv A outer s H E) (defBody (top 8)) (tSs K rx (fun c d _ H' => E c d H') { call := call, kp := Fd.kp f6 } b6) := by
  subst hcode
  have hN := sc6.nd
  have tk := takes_cx (P := P) (w := w) (K := K) (mg := mg) (base := base) (N := ["house", "walk", "wasted", "door"]) (qual := "plain_walk") (scope := defScope (top 8)) (f := f) (cd := .ref (He.codeOf K ("plain_walk", none))) (A := A) (outer := outer) (s := s) (H := H) (E := E)
  have hp := owns_cx (P := P) (w := w) (K := K) (mg := mg) (base := base) (N := ["house", "walk", "wasted", "door"]) (qual := "plain_walk") (scope := defScope (top 8)) (f := f) (cd := .ref (He.codeOf K ("plain_walk", none))) (A := A) (outer := outer) (s := s) (H := H) (E := E)
  exact (q_cons (q_asg (s_call ((IH 5 "wasted_doors" rfl).at) hr tk rfl (sc_var rfl (vis_by rfl) rfl rfl (sc_var rfl (vis_by rfl) rfl rfl sc_nil rfl) rfl) rfl rfl rfl) (g_name hN rfl (loc_by rfl) (fnl_by rfl)) rfl rfl rfl) (q_cons (q_ret (s_callTy c_tuple rfl (free "tuple" rfl) rfl (s_cons (s_lc (own := [("door", 3)]) rfl hN (i_seq (s_var rfl (vis_by rfl) rfl rfl)) rfl (by decide) rfl (fun _ _ _ _ _ => (g_name hN rfl (loc_by rfl) (fnl_by rfl))) (fun _ _ _ _ _ => (if_one (t_cmp rfl (o_nin hr) (s_var rfl (vis_by rfl) rfl rfl) (s_var rfl (vis_by rfl) rfl rfl) rfl))) (fun _ _ _ _ _ => (s_var rfl (vis_by rfl) rfl rfl)) (fun _ => rfl)) s_nil rfl) (by decide) rfl rfl rfl)) q_nil))
theorem g6 (IH : ∀ i x, names[i]? = some x → FnW P w K mg base rx k x (kw i) (callN fs k i)) (free : ∀ x, blts.contains x = true → mg x = none) (TT : ∀ q ∈ tf, (He.cT K q).2 ∈ TabList.tabs ∧ GxR.TabB base mg (He.cT K q).1 (He.cT K q).2) {f : Addr} {fd : FuncData} (hf : f = He.fAd K ("plain_walk", none)) (F : FunD K "plain_walk" "plain_walk" (defArgs (top 8)) (defBody (top 8)) (defScope (top 8)) [] [] f fd) (hm : mg "plain_walk" = some (.ref f)) : FnW P w K mg base rx (k + 1) "plain_walk" (kw 6) (callN fs (k + 1) 6) :=
  ⟨f, fd, ["house", "walk"], fd_okC hf F sc6 f6 rfl rfl (fun cdv A outer s H E hc hr => t6 IH free TT hc hr), hm, F.kp, F.bindsN (fun _ _ _ _ _ _ us hl => match us, hl with | [_, _], _ => rfl), fun j _ _ hj => by cases hj⟩
theorem sc7 : FnScope ["house", "walk", "told", "steps", "at", "door", "room"] ["house", "walk"] (defScope (top 9)) := ⟨rfl, rfl, rfl, by decide +kernel, rfl, by decide +kernel, by decide +kernel⟩
theorem t7 (IH : ∀ i x, names[i]? = some x → FnW P w K mg base rx k x (kw i) (call i)) (free : ∀ x, blts.contains x = true → mg x = none) (TT : ∀ q ∈ tf, (He.cT K q).2 ∈ TabList.tabs ∧ GxR.TabB base mg (He.cT K q).1 (He.cT K q).2) {f : Addr} {cdv : Value} {A : Around} {outer : List PySem.Env} {s : Shared} {H : Hp} {E : XK} (hcode : cdv = .ref (He.codeOf K ("walk_ways", none))) (hr : Room k (A.deeper (envOfC "walk_ways" (defScope (top 9)) s.heap.objs.size f cdv))) : PSs (cxOf (L2.CX P w) P w K mg base ["house", "walk", "told", "steps", "at", "door", "room"] "walk_ways" (defScope (top 9)) f cdv A outer s H E) (defBody (top 9)) (tSs K rx (fun c d _ H' => E c d H') { call := call, kp := Fd.kp f7 } b7) := by
  subst hcode
  have hN := sc7.nd
  have tk := takes_cx (P := P) (w := w) (K := K) (mg := mg) (base := base) (N := ["house", "walk", "told", "steps", "at", "door", "room"]) (qual := "walk_ways") (scope := defScope (top 9)) (f := f) (cd := .ref (He.codeOf K ("walk_ways", none))) (A := A) (outer := outer) (s := s) (H := H) (E := E)
  have hp := owns_cx (P := P) (w := w) (K := K) (mg := mg) (base := base) (N := ["house", "walk", "told", "steps", "at", "door", "room"]) (qual := "walk_ways") (scope := defScope (top 9)) (f := f) (cd := .ref (He.codeOf K ("walk_ways", none))) (A := A) (outer := outer) (s := s) (H := H) (E := E)
  exact (q_cons (q_asg (s_bin o_mul (s_lst (so_cons s_cnon so_nil rfl)) (s_callB c_len rfl (free "len" rfl) rfl (s_cons (s_pidx hr (s_var rfl (vis_by rfl) rfl rfl) s_cint (fun _ _ => rfl)) s_nil rfl) (by decide) rfl rfl rfl)) (g_name hN rfl (loc_by rfl) (fnl_by rfl)) rfl rfl rfl) (q_cons (q_asg (s_call ((IH 2 "walk_steps" rfl).at) hr tk rfl (sc_var rfl (vis_by rfl) rfl rfl (sc_var rfl (vis_by rfl) rfl rfl sc_nil rfl) rfl) rfl rfl rfl) (g_name hN rfl (loc_by rfl) (fnl_by rfl)) rfl rfl rfl) (q_cons (q_for hp rfl (i_enum rfl (free "enumerate" rfl) (s_var rfl (vis_by rfl) rfl rfl) rfl) (g_tup rfl (g_cons (g_name hN rfl (loc_by rfl) (fnl_by rfl)) (g_cons (g_name hN rfl (loc_by rfl) (fnl_by rfl)) g_nil rfl) rfl) rfl rfl) (q_cons (q_for hp rfl (i_seq (s_cutL (s_pidx hr (s_pidx hr (s_var rfl (vis_by rfl) rfl rfl) (s_bin o_add (s_var rfl (vis_by rfl) rfl rfl) s_cint) (fun _ _ => rfl)) s_cint (fun _ _ => rfl)) (s_callB c_len rfl (free "len" rfl) rfl (s_cons (s_pidx hr (s_pidx hr (s_var rfl (vis_by rfl) rfl rfl) (s_var rfl (vis_by rfl) rfl rfl) (fun _ _ => rfl)) s_cint (fun _ _ => rfl)) s_nil rfl) (by decide) rfl rfl rfl))) (g_name hN rfl (loc_by rfl) (fnl_by rfl)) (q_cons (q_sto hr (s_var rfl (vis_by rfl) rfl rfl) (p_var rfl (vis_by rfl) rfl rfl) (s_var rfl (vis_by rfl) rfl rfl) rfl rfl rfl (fun _ => rfl)) q_nil) (fun _ => rfl)) q_nil) (fun _ => rfl)) (q_cons (q_ret (s_callTy c_tuple rfl (free "tuple" rfl) rfl (s_cons (s_var rfl (vis_by rfl) rfl rfl) s_nil rfl) (by decide) rfl rfl rfl)) q_nil))))
theorem g7 (IH : ∀ i x, names[i]? = some x → FnW P w K mg base rx k x (kw i) (callN fs k i)) (free : ∀ x, blts.contains x = true → mg x = none) (TT : ∀ q ∈ tf, (He.cT K q).2 ∈ TabList.tabs ∧ GxR.TabB base mg (He.cT K q).1 (He.cT K q).2) {f : Addr} {fd : FuncData} (hf : f = He.fAd K ("walk_ways", none)) (F : FunD K "walk_ways" "walk_ways" (defArgs (top 9)) (defBody (top 9)) (defScope (top 9)) [] [] f fd) (hm : mg "walk_ways" = some (.ref f)) : FnW P w K mg base rx (k + 1) "walk_ways" (kw 7) (callN fs (k + 1) 7) :=
  ⟨f, fd, ["house", "walk"], fd_okC hf F sc7 f7 rfl rfl (fun cdv A outer s H E hc hr => t7 IH free TT hc hr), hm, F.kp, F.bindsN (fun _ _ _ _ _ _ us hl => match us, hl with | [_, _], _ => rfl), fun j _ _ hj => by
    match j, hj with
    | 0, hj =>
      cases hj
      exact kwN F fun _ _ _ _ _ _ us hl => match us, hl with | [_, _], _ => rfl
    | j + 1, hj => cases hj⟩
theorem sc8 : FnScope ["script", "seeds", "vast", "tame", "peas", "stir", "turn", "at", "cell", "seed"] ["script"] (defScope (top 11)) := ⟨rfl, rfl, rfl, by decide +kernel, rfl, by decide +kernel, by decide +kernel⟩
theorem t8 (IH : ∀ i x, names[i]? = some x → FnW P w K mg base rx k x (kw i) (call i)) (free : ∀ x, blts.contains x = true → mg x = none) (TT : ∀ q ∈ tf, (He.cT K q).2 ∈ TabList.tabs ∧ GxR.TabB base mg (He.cT K q).1 (He.cT K q).2) {f : Addr} {cdv : Value} {A : Around} {outer : List PySem.Env} {s : Shared} {H : Hp} {E : XK} (hcode : cdv = .ref (He.codeOf K ("_law_bowl", none))) (hr : Room k (A.deeper (envOfC "_law_bowl" (defScope (top 11)) s.heap.objs.size f cdv))) : PSs (cxOf (L2.CX P w) P w K mg base ["script", "seeds", "vast", "tame", "peas", "stir", "turn", "at", "cell", "seed"] "_law_bowl" (defScope (top 11)) f cdv A outer s H E) (defBody (top 11)) (tSs K rx (fun c d _ H' => E c d H') { call := call, kp := Fd.kp f8 } b8) := by
  subst hcode
  have hN := sc8.nd
  have tk := takes_cx (P := P) (w := w) (K := K) (mg := mg) (base := base) (N := ["script", "seeds", "vast", "tame", "peas", "stir", "turn", "at", "cell", "seed"]) (qual := "_law_bowl") (scope := defScope (top 11)) (f := f) (cd := .ref (He.codeOf K ("_law_bowl", none))) (A := A) (outer := outer) (s := s) (H := H) (E := E)
  have hp := owns_cx (P := P) (w := w) (K := K) (mg := mg) (base := base) (N := ["script", "seeds", "vast", "tame", "peas", "stir", "turn", "at", "cell", "seed"]) (qual := "_law_bowl") (scope := defScope (top 11)) (f := f) (cd := .ref (He.codeOf K ("_law_bowl", none))) (A := A) (outer := outer) (s := s) (H := H) (E := E)
  exact (q_cons (q_setLc (own := [("cell", 8)]) rfl hN rfl rfl rfl rfl rfl (i_seq (s_var rfl (vis_by rfl) rfl rfl)) rfl (by decide) rfl (fun _ _ _ _ _ => (g_name hN rfl (loc_by rfl) (fnl_by rfl))) (fun _ _ _ _ _ => if_nil) (fun _ _ _ _ _ => (s_callB c_abs rfl (free "abs" rfl) rfl (s_cons (s_callTy c_int rfl (free "int" rfl) rfl (s_cons (s_var rfl (vis_by rfl) rfl rfl) s_nil rfl) (by decide) rfl rfl rfl) s_nil rfl) (by decide) rfl rfl rfl)) (fun _ => rfl)) (q_cons (q_ite (t_cmp rfl (o_eq hr) (s_callB c_len rfl (free "len" rfl) rfl (s_cons (s_var rfl (vis_by rfl) rfl rfl) s_nil rfl) (by decide) rfl rfl rfl) s_cint rfl) (q_cons (q_asg (s_lst (so_cons s_cint so_nil rfl)) (g_name hN rfl (loc_by rfl) (fnl_by rfl)) rfl rfl rfl) q_nil) q_nil) (q_cons (q_setLcF (own := [("seed", 9)]) rfl hN rfl rfl rfl rfl rfl (i_seq (s_var rfl (vis_by rfl) rfl rfl)) rfl (by decide) rfl (fun _ _ _ _ _ => (g_name hN rfl (loc_by rfl) (fnl_by rfl))) (fun _ _ _ _ _ => if_nil) (fun _ _ _ _ _ => (s_cmp o_ge (s_var rfl (vis_by rfl) rfl rfl) (s_bin o_pow s_cint s_cint) rfl)) (fun _ => rfl)) (q_cons (q_setLcF (own := [("seed", 9)]) rfl hN rfl rfl rfl rfl rfl (i_seq (s_var rfl (vis_by rfl) rfl rfl)) rfl (by decide) rfl (fun _ _ _ _ _ => (g_name hN rfl (loc_by rfl) (fnl_by rfl))) (fun _ _ _ _ _ => if_nil) (fun _ _ _ _ _ => (s_bin o_mod (s_callTy c_int rfl (free "int" rfl) rfl (s_cons (s_var rfl (vis_by rfl) rfl rfl) s_nil rfl) (by decide) rfl rfl rfl) s_cint)) (fun _ => rfl)) (q_cons (q_asg (s_lst so_nil) (g_name hN rfl (loc_by rfl) (fnl_by rfl)) rfl rfl rfl) (q_cons (q_asg s_cint (g_name hN rfl (loc_by rfl) (fnl_by rfl)) rfl rfl rfl) (q_cons (q_for hp rfl (i_rng1 rfl (free "range" rfl) (s_cons s_cint s_nil rfl) rfl) (g_name hN rfl (loc_by rfl) (fnl_by rfl)) (q_cons (q_asg (s_bin o_mod (s_callTy c_int rfl (free "int" rfl) rfl (s_cons (s_bin o_mul (s_var rfl (vis_by rfl) rfl rfl) s_cint) s_nil rfl) (by decide) rfl rfl rfl) (s_callB c_len rfl (free "len" rfl) rfl (s_cons (s_var rfl (vis_by rfl) rfl rfl) s_nil rfl) (by decide) rfl rfl rfl)) (g_name hN rfl (loc_by rfl) (fnl_by rfl)) rfl rfl rfl) (q_cons (q_asg (s_bin o_mod (s_callTy c_int rfl (free "int" rfl) rfl (s_cons (s_bin o_add (s_bin o_add (s_bin o_add (s_bin o_mul (s_var rfl (vis_by rfl) rfl rfl) s_cint) (s_bin o_mul (s_pidx hr (s_var rfl (vis_by rfl) rfl rfl) (s_var rfl (vis_by rfl) rfl rfl) (fun _ _ => rfl)) s_cint)) (s_bin o_mul (s_bin o_mul (s_var rfl (vis_by rfl) rfl rfl) (s_var rfl (vis_by rfl) rfl rfl)) s_cint)) s_cint) s_nil rfl) (by decide) rfl rfl rfl) s_cint) (g_name hN rfl (loc_by rfl) (fnl_by rfl)) rfl rfl rfl) (q_cons (q_ite (PW.pt (w_and (t_plain (s_pidx hr (s_var rfl (vis_by rfl) rfl rfl) (s_var rfl (vis_by rfl) rfl rfl) (fun _ _ => rfl)) (fun _ => rfl)) (w_and1 (t_cmp rfl o_gt (s_pidx hr (s_var rfl (vis_by rfl) rfl rfl) (s_var rfl (vis_by rfl) rfl rfl) (fun _ _ => rfl)) s_cint rfl)))) (q_cons (q_exp (s_mm slot_append PySem.F.type_list_append (p_var rfl (vis_by rfl) rfl rfl) (so_cons (s_bin o_mod (s_callTy c_int rfl (free "int" rfl) rfl (s_cons (s_pidx hr (s_var rfl (vis_by rfl) rfl rfl) (s_var rfl (vis_by rfl) rfl rfl) (fun _ _ => rfl)) s_nil rfl) (by decide) rfl rfl rfl) s_cint) so_nil rfl) rfl rfl rfl rfl rfl) rfl) (q_cons (q_sto hr (s_bin o_fdiv (s_pidx hr (s_var rfl (vis_by rfl) rfl rfl) (s_var rfl (vis_by rfl) rfl rfl) (fun _ _ => rfl)) s_cint) (p_var rfl (vis_by rfl) rfl rfl) (s_var rfl (vis_by rfl) rfl rfl) rfl rfl rfl (fun _ => rfl)) q_nil)) (q_cons (q_exp (s_mm slot_append PySem.F.type_list_append (p_var rfl (vis_by rfl) rfl rfl) (so_cons (s_bin o_mod (s_callTy c_int rfl (free "int" rfl) rfl (s_cons (s_bin o_fdiv (s_var rfl (vis_by rfl) rfl rfl) s_cint) s_nil rfl) (by decide) rfl rfl rfl) s_cint) so_nil rfl) rfl rfl rfl rfl rfl) rfl) q_nil)) q_nil))) (fun _ => rfl)) (q_cons (q_ret (s_lst (so_cons (s_mov rfl (vis_by rfl) rfl rfl) (so_cons s_cint so_nil rfl) rfl))) q_nil))))))))
theorem g8 (IH : ∀ i x, names[i]? = some x → FnW P w K mg base rx k x (kw i) (callN fs k i)) (free : ∀ x, blts.contains x = true → mg x = none) (TT : ∀ q ∈ tf, (He.cT K q).2 ∈ TabList.tabs ∧ GxR.TabB base mg (He.cT K q).1 (He.cT K q).2) {f : Addr} {fd : FuncData} (hf : f = He.fAd K ("_law_bowl", none)) (F : FunD K "_law_bowl" "_law_bowl" (defArgs (top 11)) (defBody (top 11)) (defScope (top 11)) [] [] f fd) (hm : mg "_law_bowl" = some (.ref f)) : FnW P w K mg base rx (k + 1) "_law_bowl" (kw 8) (callN fs (k + 1) 8) :=
  ⟨f, fd, ["script"], fd_okC hf F sc8 f8 rfl rfl (fun cdv A outer s H E hc hr => t8 IH free TT hc hr), hm, F.kp, F.bindsN (fun _ _ _ _ _ _ us hl => match us, hl with | [_], _ => rfl), fun j _ _ hj => by cases hj⟩
theorem sc9 : FnScope ["bowl", "many", "at"] ["bowl", "many"] (defScope (top 12)) := ⟨rfl, rfl, rfl, by decide +kernel, rfl, by decide +kernel, by decide +kernel⟩
theorem t9 (IH : ∀ i x, names[i]? = some x → FnW P w K mg base rx k x (kw i) (call i)) (free : ∀ x, blts.contains x = true → mg x = none) (TT : ∀ q ∈ tf, (He.cT K q).2 ∈ TabList.tabs ∧ GxR.TabB base mg (He.cT K q).1 (He.cT K q).2) {f : Addr} {cdv : Value} {A : Around} {outer : List PySem.Env} {s : Shared} {H : Hp} {E : XK} (hcode : cdv = .ref (He.codeOf K ("_law_pea", none))) (hr : Room k (A.deeper (envOfC "_law_pea" (defScope (top 12)) s.heap.objs.size f cdv))) : PSs (cxOf (L2.CX P w) P w K mg base ["bowl", "many", "at"] "_law_pea" (defScope (top 12)) f cdv A outer s H E) (defBody (top 12)) (tSs K rx (fun c d _ H' => E c d H') { call := call, kp := Fd.kp f9 } b9) := by
  subst hcode
  have hN := sc9.nd
  have tk := takes_cx (P := P) (w := w) (K := K) (mg := mg) (base := base) (N := ["bowl", "many", "at"]) (qual := "_law_pea") (scope := defScope (top 12)) (f := f) (cd := .ref (He.codeOf K ("_law_pea", none))) (A := A) (outer := outer) (s := s) (H := H) (E := E)
  have hp := owns_cx (P := P) (w := w) (K := K) (mg := mg) (base := base) (N := ["bowl", "many", "at"]) (qual := "_law_pea") (scope := defScope (top 12)) (f := f) (cd := .ref (He.codeOf K ("_law_pea", none))) (A := A) (outer := outer) (s := s) (H := H) (E := E)
  exact (q_cons (q_asg (s_bin o_mod (s_callTy c_int rfl (free "int" rfl) rfl (s_cons (s_pidx hr (s_var rfl (vis_by rfl) rfl rfl) s_cint (fun _ _ => rfl)) s_nil rfl) (by decide) rfl rfl rfl) (s_callB c_len rfl (free "len" rfl) rfl (s_cons (s_pidx hr (s_var rfl (vis_by rfl) rfl rfl) s_cint (fun _ _ => rfl)) s_nil rfl) (by decide) rfl rfl rfl)) (g_name hN rfl (loc_by rfl) (fnl_by rfl)) rfl rfl rfl) (q_cons (q_sto hr (s_bin o_add (s_pidx hr (s_var rfl (vis_by rfl) rfl rfl) s_cint (fun _ _ => rfl)) s_cint) (p_var rfl (vis_by rfl) rfl rfl) s_cint rfl rfl rfl (fun _ => rfl)) (q_cons (q_ret (s_bin o_mod (s_callTy c_int rfl (free "int" rfl) rfl (s_cons (s_pidx hr (s_pidx hr (s_var rfl (vis_by rfl) rfl rfl) s_cint (fun _ _ => rfl)) (s_var rfl (vis_by rfl) rfl rfl) (fun _ _ => rfl)) s_nil rfl) (by decide) rfl rfl rfl) (s_var rfl (vis_by rfl) rfl rfl))) q_nil)))
theorem g9 (IH : ∀ i x, names[i]? = some x → FnW P w K mg base rx k x (kw i) (callN fs k i)) (free : ∀ x, blts.contains x = true → mg x = none) (TT : ∀ q ∈ tf, (He.cT K q).2 ∈ TabList.tabs ∧ GxR.TabB base mg (He.cT K q).1 (He.cT K q).2) {f : Addr} {fd : FuncData} (hf : f = He.fAd K ("_law_pea", none)) (F : FunD K "_law_pea" "_law_pea" (defArgs (top 12)) (defBody (top 12)) (defScope (top 12)) [] [] f fd) (hm : mg "_law_pea" = some (.ref f)) : FnW P w K mg base rx (k + 1) "_law_pea" (kw 9) (callN fs (k + 1) 9) :=
  ⟨f, fd, ["bowl", "many"], fd_okC hf F sc9 f9 rfl rfl (fun cdv A outer s H E hc hr => t9 IH free TT hc hr), hm, F.kp, F.bindsN (fun _ _ _ _ _ _ us hl => match us, hl with | [_, _], _ => rfl), fun j _ _ hj => by cases hj⟩
theorem sc10 : FnScope ["bowl", "rooms", "doors", "habit", "keys", "room", "pairs", "lap", "one", "other", "halls", "hall"] ["bowl", "rooms", "doors"] (defScope (top 13)) := ⟨rfl, rfl, rfl, by decide +kernel, rfl, by decide +kernel, by decide +kernel⟩
theorem t10 (IH : ∀ i x, names[i]? = some x → FnW P w K mg base rx k x (kw i) (call i)) (free : ∀ x, blts.contains x = true → mg x = none) (TT : ∀ q ∈ tf, (He.cT K q).2 ∈ TabList.tabs ∧ GxR.TabB base mg (He.cT K q).1 (He.cT K q).2) {f : Addr} {cdv : Value} {A : Around} {outer : List PySem.Env} {s : Shared} {H : Hp} {E : XK} (hcode : cdv = .ref (He.codeOf K ("_law_house", none))) (hr : Room k (A.deeper (envOfC "_law_house" (defScope (top 13)) s.heap.objs.size f cdv))) : PSs (cxOf (L2.CX P w) P w K mg base ["bowl", "rooms", "doors", "habit", "keys", "room", "pairs", "lap", "one", "other", "halls", "hall"] "_law_house" (defScope (top 13)) f cdv A outer s H E) (defBody (top 13)) (tSs K rx (fun c d _ H' => E c d H') { call := call, kp := Fd.kp f10 } b10) := by
  subst hcode
  have hN := sc10.nd
  have tk := takes_cx (P := P) (w := w) (K := K) (mg := mg) (base := base) (N := ["bowl", "rooms", "doors", "habit", "keys", "room", "pairs", "lap", "one", "other", "halls", "hall"]) (qual := "_law_house") (scope := defScope (top 13)) (f := f) (cd := .ref (He.codeOf K ("_law_house", none))) (A := A) (outer := outer) (s := s) (H := H) (E := E)
  have hp := owns_cx (P := P) (w := w) (K := K) (mg := mg) (base := base) (N := ["bowl", "rooms", "doors", "habit", "keys", "room", "pairs", "lap", "one", "other", "halls", "hall"]) (qual := "_law_house") (scope := defScope (top 13)) (f := f) (cd := .ref (He.codeOf K ("_law_house", none))) (A := A) (outer := outer) (s := s) (H := H) (E := E)
  exact (q_cons (q_asg (s_call ((IH 9 "_law_pea" rfl).at) hr tk rfl (sc_var rfl (vis_by rfl) rfl rfl (sc_cons rfl s_cint sc_nil rfl) rfl) rfl rfl rfl) (g_name hN rfl (loc_by rfl) (fnl_by rfl)) rfl rfl rfl) (q_cons (q_asg (s_lst so_nil) (g_name hN rfl (loc_by rfl) (fnl_by rfl)) rfl rfl rfl) (q_cons (q_for hp rfl (i_rng1 rfl (free "range" rfl) (s_cons (s_var rfl (vis_by rfl) rfl rfl) s_nil rfl) rfl) (g_name hN rfl (loc_by rfl) (fnl_by rfl)) (q_cons (q_exp (s_mm slot_append PySem.F.type_list_append (p_var rfl (vis_by rfl) rfl rfl) (so_cons (s_idx hr (s_tup (so_cons (s_call ((IH 9 "_law_pea" rfl).at) hr tk rfl (sc_var rfl (vis_by rfl) rfl rfl (sc_cons rfl s_cint sc_nil rfl) rfl) rfl rfl rfl) (so_cons s_cint (so_cons (s_call ((IH 9 "_law_pea" rfl).at) hr tk rfl (sc_var rfl (vis_by rfl) rfl rfl (sc_cons rfl s_cint sc_nil rfl) rfl) rfl rfl rfl) (so_cons (s_call ((IH 9 "_law_pea" rfl).at) hr tk rfl (sc_var rfl (vis_by rfl) rfl rfl (sc_cons rfl s_cint sc_nil rfl) rfl) rfl rfl rfl) (so_cons s_cint (so_cons (s_call ((IH 9 "_law_pea" rfl).at) hr tk rfl (sc_var rfl (vis_by rfl) rfl rfl (sc_cons rfl s_cint sc_nil rfl) rfl) rfl rfl rfl) so_nil rfl) rfl) rfl) rfl) rfl) rfl)) (s_var rfl (vis_by rfl) rfl rfl) (fun _ _ => rfl)) so_nil rfl) rfl rfl rfl rfl rfl) rfl) q_nil) (fun _ => rfl)) (q_cons (q_ite (t_cmp rfl o_gt (s_call ((IH 9 "_law_pea" rfl).at) hr tk rfl (sc_var rfl (vis_by rfl) rfl rfl (sc_cons rfl s_cint sc_nil rfl) rfl) rfl rfl rfl) s_cint rfl) (q_cons (q_sto hr (s_bin o_add s_cint (s_call ((IH 9 "_law_pea" rfl).at) hr tk rfl (sc_var rfl (vis_by rfl) rfl rfl (sc_cons rfl s_cint sc_nil rfl) rfl) rfl rfl rfl)) (p_var rfl (vis_by rfl) rfl rfl) s_cint rfl rfl rfl (fun _ => rfl)) q_nil) q_nil) (q_cons (q_asg (s_lst so_nil) (g_name hN rfl (loc_by rfl) (fnl_by rfl)) rfl rfl rfl) (q_cons (q_for hp rfl (i_rng1 rfl (free "range" rfl) (s_cons (s_var rfl (vis_by rfl) rfl rfl) s_nil rfl) rfl) (g_name hN rfl (loc_by rfl) (fnl_by rfl)) (q_cons (q_asg (s_call ((IH 9 "_law_pea" rfl).at) hr tk rfl (sc_var rfl (vis_by rfl) rfl rfl (sc_var rfl (vis_by rfl) rfl rfl sc_nil rfl) rfl) rfl rfl rfl) (g_name hN rfl (loc_by rfl) (fnl_by rfl)) rfl rfl rfl) (q_cons (q_asg (s_call ((IH 9 "_law_pea" rfl).at) hr tk rfl (sc_var rfl (vis_by rfl) rfl rfl (sc_var rfl (vis_by rfl) rfl rfl sc_nil rfl) rfl) rfl rfl rfl) (g_name hN rfl (loc_by rfl) (fnl_by rfl)) rfl rfl rfl) (q_cons (q_ite (PW.pt (w_and (t_cmp rfl (o_lt hr) (s_var rfl (vis_by rfl) rfl rfl) (s_bin o_sub (s_var rfl (vis_by rfl) rfl rfl) s_cint) rfl) (w_and1 (t_cmp rfl o_gt (s_call ((IH 9 "_law_pea" rfl).at) hr tk rfl (sc_var rfl (vis_by rfl) rfl rfl (sc_cons rfl s_cint sc_nil rfl) rfl) rfl rfl rfl) s_cint rfl)))) (q_cons (q_asg (s_bin o_add (s_var rfl (vis_by rfl) rfl rfl) s_cint) (g_name hN rfl (loc_by rfl) (fnl_by rfl)) rfl rfl rfl) (q_cons (q_asg (s_call ((IH 9 "_law_pea" rfl).at) hr tk rfl (sc_var rfl (vis_by rfl) rfl rfl (sc_cons rfl (s_bin o_add (s_var rfl (vis_by rfl) rfl rfl) s_cint) sc_nil rfl) rfl) rfl rfl rfl) (g_name hN rfl (loc_by rfl) (fnl_by rfl)) rfl rfl rfl) q_nil)) q_nil) (q_cons (q_ite (t_cmp rfl (o_ne hr) (s_var rfl (vis_by rfl) rfl rfl) (s_var rfl (vis_by rfl) rfl rfl) rfl) (q_cons (q_exp (s_mm slot_append PySem.F.type_list_append (p_var rfl (vis_by rfl) rfl rfl) (so_cons (s_tup (so_cons (s_callB (c_min2 rfl) rfl (free "min" rfl) rfl (s_cons (s_var rfl (vis_by rfl) rfl rfl) (s_cons (s_var rfl (vis_by rfl) rfl rfl) s_nil rfl) rfl) (by decide) rfl rfl rfl) (so_cons (s_callB (c_max2 rfl) rfl (free "max" rfl) rfl (s_cons (s_var rfl (vis_by rfl) rfl rfl) (s_cons (s_var rfl (vis_by rfl) rfl rfl) s_nil rfl) rfl) (by decide) rfl rfl rfl) so_nil rfl) rfl)) so_nil rfl) rfl rfl rfl rfl rfl) rfl) q_nil) q_nil) q_nil)))) (fun _ => rfl)) (q_cons (q_setLcF (own := [("room", 5)]) rfl hN rfl rfl rfl rfl rfl (i_rng2 rfl (free "range" rfl) (s_cons s_cint (s_cons (s_var rfl (vis_by rfl) rfl rfl) s_nil rfl) rfl) rfl rfl) rfl (by decide) rfl (fun _ _ _ _ _ => (g_name hN rfl (loc_by rfl) (fnl_by rfl))) (fun _ _ _ _ _ => (if_one (t_cmp rfl (o_eq hr) (s_call ((IH 9 "_law_pea" rfl).at) hr takes_no rfl (sc_var rfl (vis_by rfl) rfl rfl (sc_cons rfl s_cint sc_nil rfl) rfl) rfl rfl rfl) s_cint rfl))) (fun _ _ _ _ _ => (s_var rfl (vis_by rfl) rfl rfl)) (fun _ => rfl)) (q_cons (q_ite (t_cmp rfl (o_eq hr) (s_callB c_len rfl (free "len" rfl) rfl (s_cons (s_var rfl (vis_by rfl) rfl rfl) s_nil rfl) (by decide) rfl rfl rfl) s_cint rfl) (q_cons (q_asg (s_fze (s_lst (so_cons (s_bin o_add s_cint (s_call ((IH 9 "_law_pea" rfl).at) hr tk rfl (sc_var rfl (vis_by rfl) rfl rfl (sc_cons rfl (s_bin o_sub (s_var rfl (vis_by rfl) rfl rfl) s_cint) sc_nil rfl) rfl) rfl rfl rfl)) so_nil rfl))) (g_name hN rfl (loc_by rfl) (fnl_by rfl)) rfl rfl rfl) q_nil) q_nil) (q_cons (q_for hp rfl (i_seq (s_var rfl (vis_by rfl) rfl rfl)) (g_name hN rfl (loc_by rfl) (fnl_by rfl)) (q_cons (q_sto hr s_cint (p_var rfl (vis_by rfl) rfl rfl) (s_var rfl (vis_by rfl) rfl rfl) rfl rfl rfl (fun _ => rfl)) q_nil) (fun _ => rfl)) (q_cons (q_ret (s_tup (so_cons (s_callTy c_tuple rfl (free "tuple" rfl) rfl (s_cons (s_var rfl (vis_by rfl) rfl rfl) s_nil rfl) (by decide) rfl rfl rfl) (so_cons (s_callTy c_tuple rfl (free "tuple" rfl) rfl (s_cons (s_callB c_sorted rfl (free "sorted" rfl) rfl (s_cons (s_var rfl (vis_by rfl) rfl rfl) s_nil rfl) (by decide) rfl rfl rfl) s_nil rfl) (by decide) rfl rfl rfl) (so_cons (s_callTy c_tuple rfl (free "tuple" rfl) rfl (s_cons (s_var rfl (vis_by rfl) rfl rfl) s_nil rfl) (by decide) rfl rfl rfl) so_nil rfl) rfl) rfl))) q_nil))))))))))
theorem g10 (IH : ∀ i x, names[i]? = some x → FnW P w K mg base rx k x (kw i) (callN fs k i)) (free : ∀ x, blts.contains x = true → mg x = none) (TT : ∀ q ∈ tf, (He.cT K q).2 ∈ TabList.tabs ∧ GxR.TabB base mg (He.cT K q).1 (He.cT K q).2) {f : Addr} {fd : FuncData} (hf : f = He.fAd K ("_law_house", none)) (F : FunD K "_law_house" "_law_house" (defArgs (top 13)) (defBody (top 13)) (defScope (top 13)) [] [] f fd) (hm : mg "_law_house" = some (.ref f)) : FnW P w K mg base rx (k + 1) "_law_house" (kw 10) (callN fs (k + 1) 10) :=
  ⟨f, fd, ["bowl", "rooms", "doors"], fd_okC hf F sc10 f10 rfl rfl (fun cdv A outer s H E hc hr => t10 IH free TT hc hr), hm, F.kp, F.bindsN (fun _ _ _ _ _ _ us hl => match us, hl with | [_, _, _], _ => rfl), fun j _ _ hj => by cases hj⟩
theorem sc11 : FnScope ["bowl", "pairs"] ["bowl"] (defScope (top 14)) := ⟨rfl, rfl, rfl, by decide +kernel, rfl, by decide +kernel, by decide +kernel⟩
theorem t11 (IH : ∀ i x, names[i]? = some x → FnW P w K mg base rx k x (kw i) (call i)) (free : ∀ x, blts.contains x = true → mg x = none) (TT : ∀ q ∈ tf, (He.cT K q).2 ∈ TabList.tabs ∧ GxR.TabB base mg (He.cT K q).1 (He.cT K q).2) {f : Addr} {cdv : Value} {A : Around} {outer : List PySem.Env} {s : Shared} {H : Hp} {E : XK} (hcode : cdv = .ref (He.codeOf K ("_law_double_house", none))) (hr : Room k (A.deeper (envOfC "_law_double_house" (defScope (top 14)) s.heap.objs.size f cdv))) : PSs (cxOf (L2.CX P w) P w K mg base ["bowl", "pairs"] "_law_double_house" (defScope (top 14)) f cdv A outer s H E) (defBody (top 14)) (tSs K rx (fun c d _ H' => E c d H') { call := call, kp := Fd.kp f11 } b11) := by
  subst hcode
  have hN := sc11.nd
  have tk := takes_cx (P := P) (w := w) (K := K) (mg := mg) (base := base) (N := ["bowl", "pairs"]) (qual := "_law_double_house") (scope := defScope (top 14)) (f := f) (cd := .ref (He.codeOf K ("_law_double_house", none))) (A := A) (outer := outer) (s := s) (H := H) (E := E)
  have hp := owns_cx (P := P) (w := w) (K := K) (mg := mg) (base := base) (N := ["bowl", "pairs"]) (qual := "_law_double_house") (scope := defScope (top 14)) (f := f) (cd := .ref (He.codeOf K ("_law_double_house", none))) (A := A) (outer := outer) (s := s) (H := H) (E := E)
  exact (q_cons (q_asg (s_bin o_add (s_bin o_add (s_bin o_add (s_lst (so_cons (s_tup (so_cons s_cint (so_cons s_cint so_nil rfl) rfl)) (so_cons (s_tup (so_cons s_cint (so_cons s_cint so_nil rfl) rfl)) so_nil rfl) rfl)) (s_bin o_mul (s_lst (so_cons (s_tup (so_cons s_cint (so_cons s_cint so_nil rfl) rfl)) so_nil rfl)) (s_call ((IH 9 "_law_pea" rfl).at) hr tk rfl (sc_var rfl (vis_by rfl) rfl rfl (sc_cons rfl s_cint sc_nil rfl) rfl) rfl rfl rfl))) (s_bin o_mul (s_lst (so_cons (s_tup (so_cons s_cint (so_cons s_cint so_nil rfl) rfl)) so_nil rfl)) (s_call ((IH 9 "_law_pea" rfl).at) hr tk rfl (sc_var rfl (vis_by rfl) rfl rfl (sc_cons rfl s_cint sc_nil rfl) rfl) rfl rfl rfl))) (s_bin o_mul (s_lst (so_cons (s_tup (so_cons s_cint (so_cons s_cint so_nil rfl) rfl)) so_nil rfl)) (s_call ((IH 9 "_law_pea" rfl).at) hr tk rfl (sc_var rfl (vis_by rfl) rfl rfl (sc_cons rfl s_cint sc_nil rfl) rfl) rfl rfl rfl))) (g_name hN rfl (loc_by rfl) (fnl_by rfl)) rfl rfl rfl) (q_cons (q_exp (s_mm slot_append PySem.F.type_list_append (p_var rfl (vis_by rfl) rfl rfl) (so_cons (s_tup (so_cons s_cint (so_cons s_cint so_nil rfl) rfl)) so_nil rfl) rfl rfl rfl rfl rfl) rfl) (q_cons (q_ret (s_tup (so_cons (s_tup (so_cons (s_bin o_add s_cint (s_call ((IH 9 "_law_pea" rfl).at) hr tk rfl (sc_var rfl (vis_by rfl) rfl rfl (sc_cons rfl s_cint sc_nil rfl) rfl) rfl rfl rfl)) (so_cons (s_call ((IH 9 "_law_pea" rfl).at) hr tk rfl (sc_var rfl (vis_by rfl) rfl rfl (sc_cons rfl s_cint sc_nil rfl) rfl) rfl rfl rfl) (so_cons (s_call ((IH 9 "_law_pea" rfl).at) hr tk rfl (sc_var rfl (vis_by rfl) rfl rfl (sc_cons rfl s_cint sc_nil rfl) rfl) rfl rfl rfl) (so_cons s_cint so_nil rfl) rfl) rfl) rfl)) (so_cons (s_callTy c_tuple rfl (free "tuple" rfl) rfl (s_cons (s_var rfl (vis_by rfl) rfl rfl) s_nil rfl) (by decide) rfl rfl rfl) (so_cons (s_tup (so_cons s_cint so_nil rfl)) so_nil rfl) rfl) rfl))) q_nil)))
theorem g11 (IH : ∀ i x, names[i]? = some x → FnW P w K mg base rx k x (kw i) (callN fs k i)) (free : ∀ x, blts.contains x = true → mg x = none) (TT : ∀ q ∈ tf, (He.cT K q).2 ∈ TabList.tabs ∧ GxR.TabB base mg (He.cT K q).1 (He.cT K q).2) {f : Addr} {fd : FuncData} (hf : f = He.fAd K ("_law_double_house", none)) (F : FunD K "_law_double_house" "_law_double_house" (defArgs (top 14)) (defBody (top 14)) (defScope (top 14)) [] [] f fd) (hm : mg "_law_double_house" = some (.ref f)) : FnW P w K mg base rx (k + 1) "_law_double_house" (kw 11) (callN fs (k + 1) 11) :=
  ⟨f, fd, ["bowl"], fd_okC hf F sc11 f11 rfl rfl (fun cdv A outer s H E hc hr => t11 IH free TT hc hr), hm, F.kp, F.bindsN (fun _ _ _ _ _ _ us hl => match us, hl with | [_], _ => rfl), fun j _ _ hj => by cases hj⟩
theorem sc12 : FnScope ["bowl", "rooms", "keys", "room"] ["bowl"] (defScope (top 15)) := ⟨rfl, rfl, rfl, by decide +kernel, rfl, by decide +kernel, by decide +kernel⟩
theorem t12 (IH : ∀ i x, names[i]? = some x → FnW P w K mg base rx k x (kw i) (call i)) (free : ∀ x, blts.contains x = true → mg x = none) (TT : ∀ q ∈ tf, (He.cT K q).2 ∈ TabList.tabs ∧ GxR.TabB base mg (He.cT K q).1 (He.cT K q).2) {f : Addr} {cdv : Value} {A : Around} {outer : List PySem.Env} {s : Shared} {H : Hp} {E : XK} (hcode : cdv = .ref (He.codeOf K ("_law_row_house", none))) (hr : Room k (A.deeper (envOfC "_law_row_house" (defScope (top 15)) s.heap.objs.size f cdv))) : PSs (cxOf (L2.CX P w) P w K mg base ["bowl", "rooms", "keys", "room"] "_law_row_house" (defScope (top 15)) f cdv A outer s H E) (defBody (top 15)) (tSs K rx (fun c d _ H' => E c d H') { call := call, kp := Fd.kp f12 } b12) := by
  subst hcode
  have hN := sc12.nd
  have tk := takes_cx (P := P) (w := w) (K := K) (mg := mg) (base := base) (N := ["bowl", "rooms", "keys", "room"]) (qual := "_law_row_house") (scope := defScope (top 15)) (f := f) (cd := .ref (He.codeOf K ("_law_row_house", none))) (A := A) (outer := outer) (s := s) (H := H) (E := E)
  have hp := owns_cx (P := P) (w := w) (K := K) (mg := mg) (base := base) (N := ["bowl", "rooms", "keys", "room"]) (qual := "_law_row_house") (scope := defScope (top 15)) (f := f) (cd := .ref (He.codeOf K ("_law_row_house", none))) (A := A) (outer := outer) (s := s) (H := H) (E := E)
  exact (q_cons (q_asg (s_bin o_add s_cint (s_call ((IH 9 "_law_pea" rfl).at) hr tk rfl (sc_var rfl (vis_by rfl) rfl rfl (sc_cons rfl s_cint sc_nil rfl) rfl) rfl rfl rfl)) (g_name hN rfl (loc_by rfl) (fnl_by rfl)) rfl rfl rfl) (q_cons (q_setLc (own := [("room", 3)]) rfl hN rfl rfl rfl rfl rfl (i_rng1 rfl (free "range" rfl) (s_cons (s_var rfl (vis_by rfl) rfl rfl) s_nil rfl) rfl) rfl (by decide) rfl (fun _ _ _ _ _ => (g_name hN rfl (loc_by rfl) (fnl_by rfl))) (fun _ _ _ _ _ => if_nil) (fun _ _ _ _ _ => (s_call ((IH 9 "_law_pea" rfl).at) hr takes_no rfl (sc_var rfl (vis_by rfl) rfl rfl (sc_cons rfl s_cint sc_nil rfl) rfl) rfl rfl rfl)) (fun _ => rfl)) (q_cons (q_sto hr s_cint (p_var rfl (vis_by rfl) rfl rfl) (s_bin o_sub (s_var rfl (vis_by rfl) rfl rfl) s_cint) rfl rfl rfl (fun _ => rfl)) (q_cons (q_sto hr (s_callB (c_max2 rfl) rfl (free "max" rfl) rfl (s_cons s_cint (s_cons (s_bin o_add (s_bin o_sub (s_bin o_sub (s_var rfl (vis_by rfl) rfl rfl) s_cint) (s_callB (c_sum rfl) rfl (free "sum" rfl) rfl (s_cons (s_cutL (s_var rfl (vis_by rfl) rfl rfl) s_cint) s_nil rfl) (by decide) rfl rfl rfl)) (s_call ((IH 9 "_law_pea" rfl).at) hr tk rfl (sc_var rfl (vis_by rfl) rfl rfl (sc_cons rfl s_cint sc_nil rfl) rfl) rfl rfl rfl)) s_nil rfl) rfl) (by decide) rfl rfl rfl) (p_var rfl (vis_by rfl) rfl rfl) s_cint rfl rfl rfl (fun _ => rfl)) (q_cons (q_ret (s_tup (so_cons (s_callTy c_tuple rfl (free "tuple" rfl) rfl (s_cons (s_var rfl (vis_by rfl) rfl rfl) s_nil rfl) (by decide) rfl rfl rfl) (so_cons (s_callTy c_tuple rfl (free "tuple" rfl) rfl (s_cons (s_lc (own := [("room", 3)]) rfl hN (i_rng1 rfl (free "range" rfl) (s_cons (s_bin o_sub (s_var rfl (vis_by rfl) rfl rfl) s_cint) s_nil rfl) rfl) rfl (by decide) rfl (fun _ _ _ _ _ => (g_name hN rfl (loc_by rfl) (fnl_by rfl))) (fun _ _ _ _ _ => if_nil) (fun _ _ _ _ _ => (s_tup (so_cons (s_var rfl (vis_by rfl) rfl rfl) (so_cons (s_bin o_add (s_var rfl (vis_by rfl) rfl rfl) s_cint) so_nil rfl) rfl))) (fun _ => rfl)) s_nil rfl) (by decide) rfl rfl rfl) (so_cons (s_tup (so_cons (s_bin o_sub (s_var rfl (vis_by rfl) rfl rfl) s_cint) so_nil rfl)) so_nil rfl) rfl) rfl))) q_nil)))))
theorem g12 (IH : ∀ i x, names[i]? = some x → FnW P w K mg base rx k x (kw i) (callN fs k i)) (free : ∀ x, blts.contains x = true → mg x = none) (TT : ∀ q ∈ tf, (He.cT K q).2 ∈ TabList.tabs ∧ GxR.TabB base mg (He.cT K q).1 (He.cT K q).2) {f : Addr} {fd : FuncData} (hf : f = He.fAd K ("_law_row_house", none)) (F : FunD K "_law_row_house" "_law_row_house" (defArgs (top 15)) (defBody (top 15)) (defScope (top 15)) [] [] f fd) (hm : mg "_law_row_house" = some (.ref f)) : FnW P w K mg base rx (k + 1) "_law_row_house" (kw 12) (callN fs (k + 1) 12) :=
  ⟨f, fd, ["bowl"], fd_okC hf F sc12 f12 rfl rfl (fun cdv A outer s H E hc hr => t12 IH free TT hc hr), hm, F.kp, F.bindsN (fun _ _ _ _ _ _ us hl => match us, hl with | [_], _ => rfl), fun j _ _ hj => by cases hj⟩
theorem sc13 : FnScope ["house"] ["house"] (defScope (top 16)) := ⟨rfl, rfl, rfl, by decide +kernel, rfl, by decide +kernel, by decide +kernel⟩
theorem t13 (IH : ∀ i x, names[i]? = some x → FnW P w K mg base rx k x (kw i) (call i)) (free : ∀ x, blts.contains x = true → mg x = none) (TT : ∀ q ∈ tf, (He.cT K q).2 ∈ TabList.tabs ∧ GxR.TabB base mg (He.cT K q).1 (He.cT K q).2) {f : Addr} {cdv : Value} {A : Around} {outer : List PySem.Env} {s : Shared} {H : Hp} {E : XK} (hcode : cdv = .ref (He.codeOf K ("_law_begin", none))) (hr : Room k (A.deeper (envOfC "_law_begin" (defScope (top 16)) s.heap.objs.size f cdv))) : PSs (cxOf (L2.CX P w) P w K mg base ["house"] "_law_begin" (defScope (top 16)) f cdv A outer s H E) (defBody (top 16)) (tSs K rx (fun c d _ H' => E c d H') { call := call, kp := Fd.kp f13 } b13) := by
  subst hcode
  have hN := sc13.nd
  have tk := takes_cx (P := P) (w := w) (K := K) (mg := mg) (base := base) (N := ["house"]) (qual := "_law_begin") (scope := defScope (top 16)) (f := f) (cd := .ref (He.codeOf K ("_law_begin", none))) (A := A) (outer := outer) (s := s) (H := H) (E := E)
  have hp := owns_cx (P := P) (w := w) (K := K) (mg := mg) (base := base) (N := ["house"]) (qual := "_law_begin") (scope := defScope (top 16)) (f := f) (cd := .ref (He.codeOf K ("_law_begin", none))) (A := A) (outer := outer) (s := s) (H := H) (E := E)
  exact (q_cons (q_ret (s_lst (so_cons (s_lst (so_cons s_cint so_nil rfl)) (so_cons (s_lst so_nil) (so_cons (s_pidx hr (s_pidx hr (s_var rfl (vis_by rfl) rfl rfl) s_cint (fun _ _ => rfl)) s_cint (fun _ _ => rfl)) so_nil rfl) rfl) rfl))) q_nil)
theorem g13 (IH : ∀ i x, names[i]? = some x → FnW P w K mg base rx k x (kw i) (callN fs k i)) (free : ∀ x, blts.contains x = true → mg x = none) (TT : ∀ q ∈ tf, (He.cT K q).2 ∈ TabList.tabs ∧ GxR.TabB base mg (He.cT K q).1 (He.cT K q).2) {f : Addr} {fd : FuncData} (hf : f = He.fAd K ("_law_begin", none)) (F : FunD K "_law_begin" "_law_begin" (defArgs (top 16)) (defBody (top 16)) (defScope (top 16)) [] [] f fd) (hm : mg "_law_begin" = some (.ref f)) : FnW P w K mg base rx (k + 1) "_law_begin" (kw 13) (callN fs (k + 1) 13) :=
  ⟨f, fd, ["house"], fd_okC hf F sc13 f13 rfl rfl (fun cdv A outer s H E hc hr => t13 IH free TT hc hr), hm, F.kp, F.bindsN (fun _ _ _ _ _ _ us hl => match us, hl with | [_], _ => rfl), fun j _ _ hj => by cases hj⟩
theorem sc14 : FnScope ["house", "state", "door", "one", "other", "hall"] ["house", "state", "door"] (defScope (top 17)) := ⟨rfl, rfl, rfl, by decide +kernel, rfl, by decide +kernel, by decide +kernel⟩
theorem t14 (IH : ∀ i x, names[i]? = some x → FnW P w K mg base rx k x (kw i) (call i)) (free : ∀ x, blts.contains x = true → mg x = none) (TT : ∀ q ∈ tf, (He.cT K q).2 ∈ TabList.tabs ∧ GxR.TabB base mg (He.cT K q).1 (He.cT K q).2) {f : Addr} {cdv : Value} {A : Around} {outer : List PySem.Env} {s : Shared} {H : Hp} {E : XK} (hcode : cdv = .ref (He.codeOf K ("_law_can", none))) (hr : Room k (A.deeper (envOfC "_law_can" (defScope (top 17)) s.heap.objs.size f cdv))) : PSs (cxOf (L2.CX P w) P w K mg base ["house", "state", "door", "one", "other", "hall"] "_law_can" (defScope (top 17)) f cdv A outer s H E) (defBody (top 17)) (tSs K rx (fun c d _ H' => E c d H') { call := call, kp := Fd.kp f14 } b14) := by
  subst hcode
  have hN := sc14.nd
  have tk := takes_cx (P := P) (w := w) (K := K) (mg := mg) (base := base) (N := ["house", "state", "door", "one", "other", "hall"]) (qual := "_law_can") (scope := defScope (top 17)) (f := f) (cd := .ref (He.codeOf K ("_law_can", none))) (A := A) (outer := outer) (s := s) (H := H) (E := E)
  have hp := owns_cx (P := P) (w := w) (K := K) (mg := mg) (base := base) (N := ["house", "state", "door", "one", "other", "hall"]) (qual := "_law_can") (scope := defScope (top 17)) (f := f) (cd := .ref (He.codeOf K ("_law_can", none))) (A := A) (outer := outer) (s := s) (H := H) (E := E)
  exact (q_cons (q_asg (s_pidx hr (s_pidx hr (s_var rfl (vis_by rfl) rfl rfl) s_cint (fun _ _ => rfl)) (s_var rfl (vis_by rfl) rfl rfl) (fun _ _ => rfl)) (g_tup rfl (g_cons (g_name hN rfl (loc_by rfl) (fnl_by rfl)) (g_cons (g_name hN rfl (loc_by rfl) (fnl_by rfl)) g_nil rfl) rfl) rfl rfl) rfl rfl rfl) (q_cons (q_ite (PW.pt (w_or (t_cmp rfl (o_in hr) (s_var rfl (vis_by rfl) rfl rfl) (s_pidx hr (s_var rfl (vis_by rfl) rfl rfl) s_cint (fun _ _ => rfl)) rfl) (w_or1 (t_cmp rfl (o_lt hr) (s_pidx hr (s_var rfl (vis_by rfl) rfl rfl) s_cint (fun _ _ => rfl)) s_cint rfl)))) (q_cons (q_ret s_cbl) q_nil) q_nil) (q_cons (q_for hp rfl (i_seq (s_pidx hr (s_var rfl (vis_by rfl) rfl rfl) s_cint (fun _ _ => rfl))) (g_name hN rfl (loc_by rfl) (fnl_by rfl)) (q_cons (q_ite (t_cmp rfl (o_in hr) (s_var rfl (vis_by rfl) rfl rfl) (s_pidx hr (s_var rfl (vis_by rfl) rfl rfl) s_cint (fun _ _ => rfl)) rfl) (q_cons (q_ret s_cbl) q_nil) q_nil) q_nil) (fun _ => rfl)) (q_cons (q_ret (s_or (s_cmp (o_in hr) (s_var rfl (vis_by rfl) rfl rfl) (s_pidx hr (s_var rfl (vis_by rfl) rfl rfl) s_cint (fun _ _ => rfl)) rfl) (s_or1 (s_cmp (o_in hr) (s_var rfl (vis_by rfl) rfl rfl) (s_pidx hr (s_var rfl (vis_by rfl) rfl rfl) s_cint (fun _ _ => rfl)) rfl)))) q_nil))))
theorem g14 (IH : ∀ i x, names[i]? = some x → FnW P w K mg base rx k x (kw i) (callN fs k i)) (free : ∀ x, blts.contains x = true → mg x = none) (TT : ∀ q ∈ tf, (He.cT K q).2 ∈ TabList.tabs ∧ GxR.TabB base mg (He.cT K q).1 (He.cT K q).2) {f : Addr} {fd : FuncData} (hf : f = He.fAd K ("_law_can", none)) (F : FunD K "_law_can" "_law_can" (defArgs (top 17)) (defBody (top 17)) (defScope (top 17)) [] [] f fd) (hm : mg "_law_can" = some (.ref f)) : FnW P w K mg base rx (k + 1) "_law_can" (kw 14) (callN fs (k + 1) 14) :=
  ⟨f, fd, ["house", "state", "door"], fd_okC hf F sc14 f14 rfl rfl (fun cdv A outer s H E hc hr => t14 IH free TT hc hr), hm, F.kp, F.bindsN (fun _ _ _ _ _ _ us hl => match us, hl with | [_, _, _], _ => rfl), fun j _ _ hj => by cases hj⟩
theorem sc15 : FnScope ["house", "state", "door", "room"] ["house", "state", "door"] (defScope (top 18)) := ⟨rfl, rfl, rfl, by decide +kernel, rfl, by decide +kernel, by decide +kernel⟩
theorem t15 (IH : ∀ i x, names[i]? = some x → FnW P w K mg base rx k x (kw i) (call i)) (free : ∀ x, blts.contains x = true → mg x = none) (TT : ∀ q ∈ tf, (He.cT K q).2 ∈ TabList.tabs ∧ GxR.TabB base mg (He.cT K q).1 (He.cT K q).2) {f : Addr} {cdv : Value} {A : Around} {outer : List PySem.Env} {s : Shared} {H : Hp} {E : XK} (hcode : cdv = .ref (He.codeOf K ("_law_open", none))) (hr : Room k (A.deeper (envOfC "_law_open" (defScope (top 18)) s.heap.objs.size f cdv))) : PSs (cxOf (L2.CX P w) P w K mg base ["house", "state", "door", "room"] "_law_open" (defScope (top 18)) f cdv A outer s H E) (defBody (top 18)) (tSs K rx (fun c d _ H' => E c d H') { call := call, kp := Fd.kp f15 } b15) := by
  subst hcode
  have hN := sc15.nd
  have tk := takes_cx (P := P) (w := w) (K := K) (mg := mg) (base := base) (N := ["house", "state", "door", "room"]) (qual := "_law_open") (scope := defScope (top 18)) (f := f) (cd := .ref (He.codeOf K ("_law_open", none))) (A := A) (outer := outer) (s := s) (H := H) (E := E)
  have hp := owns_cx (P := P) (w := w) (K := K) (mg := mg) (base := base) (N := ["house", "state", "door", "room"]) (qual := "_law_open") (scope := defScope (top 18)) (f := f) (cd := .ref (He.codeOf K ("_law_open", none))) (A := A) (outer := outer) (s := s) (H := H) (E := E)
  exact (q_cons (q_exp (s_mm slot_append PySem.F.type_list_append (p_idx (rx := rx) (W := W0) hr (p_var rfl (vis_by rfl) rfl rfl) s_cint (fun _ _ => rfl)) (so_cons (s_var rfl (vis_by rfl) rfl rfl) so_nil rfl) rfl rfl rfl rfl rfl) rfl) (q_cons (q_sto hr (s_bin o_sub (s_pidx hr (s_var rfl (vis_by rfl) rfl rfl) s_cint (fun _ _ => rfl)) s_cint) (p_var rfl (vis_by rfl) rfl rfl) s_cint rfl rfl rfl (fun _ => rfl)) (q_cons (q_for hp rfl (i_seq (s_pidx hr (s_pidx hr (s_var rfl (vis_by rfl) rfl rfl) s_cint (fun _ _ => rfl)) (s_var rfl (vis_by rfl) rfl rfl) (fun _ _ => rfl))) (g_name hN rfl (loc_by rfl) (fnl_by rfl)) (q_cons (q_ite (t_cmp rfl (o_nin hr) (s_var rfl (vis_by rfl) rfl rfl) (s_pidx hr (s_var rfl (vis_by rfl) rfl rfl) s_cint (fun _ _ => rfl)) rfl) (q_cons (q_exp (s_mm slot_append PySem.F.type_list_append (p_idx (rx := rx) (W := W0) hr (p_var rfl (vis_by rfl) rfl rfl) s_cint (fun _ _ => rfl)) (so_cons (s_var rfl (vis_by rfl) rfl rfl) so_nil rfl) rfl rfl rfl rfl rfl) rfl) (q_cons (q_sto hr (s_bin o_add (s_pidx hr (s_var rfl (vis_by rfl) rfl rfl) s_cint (fun _ _ => rfl)) (s_pidx hr (s_pidx hr (s_var rfl (vis_by rfl) rfl rfl) s_cint (fun _ _ => rfl)) (s_var rfl (vis_by rfl) rfl rfl) (fun _ _ => rfl))) (p_var rfl (vis_by rfl) rfl rfl) s_cint rfl rfl rfl (fun _ => rfl)) q_nil)) q_nil) q_nil) (fun _ => rfl)) q_nil)))
theorem g15 (IH : ∀ i x, names[i]? = some x → FnW P w K mg base rx k x (kw i) (callN fs k i)) (free : ∀ x, blts.contains x = true → mg x = none) (TT : ∀ q ∈ tf, (He.cT K q).2 ∈ TabList.tabs ∧ GxR.TabB base mg (He.cT K q).1 (He.cT K q).2) {f : Addr} {fd : FuncData} (hf : f = He.fAd K ("_law_open", none)) (F : FunD K "_law_open" "_law_open" (defArgs (top 18)) (defBody (top 18)) (defScope (top 18)) [] [] f fd) (hm : mg "_law_open" = some (.ref f)) : FnW P w K mg base rx (k + 1) "_law_open" (kw 15) (callN fs (k + 1) 15) :=
  ⟨f, fd, ["house", "state", "door"], fd_okC hf F sc15 f15 rfl rfl (fun cdv A outer s H E hc hr => t15 IH free TT hc hr), hm, F.kp, F.bindsN (fun _ _ _ _ _ _ us hl => match us, hl with | [_, _, _], _ => rfl), fun j _ _ hj => by cases hj⟩
theorem sc16 : FnScope ["bowl", "house", "most", "state", "lap", "open_now", "inner", "door"] ["bowl", "house", "most"] (defScope (top 19)) := ⟨rfl, rfl, rfl, by decide +kernel, rfl, by decide +kernel, by decide +kernel⟩
theorem t16 (IH : ∀ i x, names[i]? = some x → FnW P w K mg base rx k x (kw i) (call i)) (free : ∀ x, blts.contains x = true → mg x = none) (TT : ∀ q ∈ tf, (He.cT K q).2 ∈ TabList.tabs ∧ GxR.TabB base mg (He.cT K q).1 (He.cT K q).2) {f : Addr} {cdv : Value} {A : Around} {outer : List PySem.Env} {s : Shared} {H : Hp} {E : XK} (hcode : cdv = .ref (He.codeOf K ("_law_walk", none))) (hr : Room k (A.deeper (envOfC "_law_walk" (defScope (top 19)) s.heap.objs.size f cdv))) : PSs (cxOf (L2.CX P w) P w K mg base ["bowl", "house", "most", "state", "lap", "open_now", "inner", "door"] "_law_walk" (defScope (top 19)) f cdv A outer s H E) (defBody (top 19)) (tSs K rx (fun c d _ H' => E c d H') { call := call, kp := Fd.kp f16 } b16) := by
  subst hcode
  have hN := sc16.nd
  have tk := takes_cx (P := P) (w := w) (K := K) (mg := mg) (base := base) (N := ["bowl", "house", "most", "state", "lap", "open_now", "inner", "door"]) (qual := "_law_walk") (scope := defScope (top 19)) (f := f) (cd := .ref (He.codeOf K ("_law_walk", none))) (A := A) (outer := outer) (s := s) (H := H) (E := E)
  have hp := owns_cx (P := P) (w := w) (K := K) (mg := mg) (base := base) (N := ["bowl", "house", "most", "state", "lap", "open_now", "inner", "door"]) (qual := "_law_walk") (scope := defScope (top 19)) (f := f) (cd := .ref (He.codeOf K ("_law_walk", none))) (A := A) (outer := outer) (s := s) (H := H) (E := E)
  exact (q_cons (q_asg (s_call ((IH 13 "_law_begin" rfl).at) hr tk rfl (sc_var rfl (vis_by rfl) rfl rfl sc_nil rfl) rfl rfl rfl) (g_name hN rfl (loc_by rfl) (fnl_by rfl)) rfl rfl rfl) (q_cons (q_for hp rfl (i_rng1 rfl (free "range" rfl) (s_cons (s_var rfl (vis_by rfl) rfl rfl) s_nil rfl) rfl) (g_name hN rfl (loc_by rfl) (fnl_by rfl)) (q_cons (q_setLcF (own := [("door", 7)]) rfl hN rfl rfl rfl rfl rfl (i_rng1 rfl (free "range" rfl) (s_cons (s_callB c_len rfl (free "len" rfl) rfl (s_cons (s_pidx hr (s_var rfl (vis_by rfl) rfl rfl) s_cint (fun _ _ => rfl)) s_nil rfl) (by decide) rfl rfl rfl) s_nil rfl) rfl) rfl (by decide) rfl (fun _ _ _ _ _ => (g_name hN rfl (loc_by rfl) (fnl_by rfl))) (fun _ _ _ _ _ => (if_one (t_plain (s_call ((IH 14 "_law_can" rfl).at) hr takes_no rfl (sc_var rfl (vis_by rfl) rfl rfl (sc_var rfl (vis_by rfl) rfl rfl (sc_var rfl (vis_by rfl) rfl rfl sc_nil rfl) rfl) rfl) rfl rfl rfl) (fun _ => rfl)))) (fun _ _ _ _ _ => (s_var rfl (vis_by rfl) rfl rfl)) (fun _ => rfl)) (q_cons (q_setLcF (own := [("door", 7)]) rfl hN rfl rfl rfl rfl rfl (i_seq (s_var rfl (vis_by rfl) rfl rfl)) rfl (by decide) rfl (fun _ _ _ _ _ => (g_name hN rfl (loc_by rfl) (fnl_by rfl))) (fun _ _ _ _ _ => (if_one (PW.pt (w_and (t_cmp rfl (o_nin hr) (s_pidx hr (s_pidx hr (s_pidx hr (s_var rfl (vis_by rfl) rfl rfl) s_cint (fun _ _ => rfl)) (s_var rfl (vis_by rfl) rfl rfl) (fun _ _ => rfl)) s_cint (fun _ _ => rfl)) (s_pidx hr (s_var rfl (vis_by rfl) rfl rfl) s_cint (fun _ _ => rfl)) rfl) (w_and1 (t_cmp rfl (o_nin hr) (s_pidx hr (s_pidx hr (s_pidx hr (s_var rfl (vis_by rfl) rfl rfl) s_cint (fun _ _ => rfl)) (s_var rfl (vis_by rfl) rfl rfl) (fun _ _ => rfl)) s_cint (fun _ _ => rfl)) (s_pidx hr (s_var rfl (vis_by rfl) rfl rfl) s_cint (fun _ _ => rfl)) rfl)))))) (fun _ _ _ _ _ => (s_var rfl (vis_by rfl) rfl rfl)) (fun _ => rfl)) (q_cons (q_ite (PW.pt (w_and (t_cmp rfl o_gt (s_callB c_len rfl (free "len" rfl) rfl (s_cons (s_var rfl (vis_by rfl) rfl rfl) s_nil rfl) (by decide) rfl rfl rfl) s_cint rfl) (w_and1 (t_cmp rfl o_gt (s_call ((IH 9 "_law_pea" rfl).at) hr tk rfl (sc_var rfl (vis_by rfl) rfl rfl (sc_cons rfl s_cint sc_nil rfl) rfl) rfl rfl rfl) s_cint rfl)))) (q_cons (q_asg (s_fze (s_mov rfl (vis_by rfl) rfl rfl)) (g_name hN rfl (loc_by rfl) (fnl_by rfl)) rfl rfl rfl) q_nil) q_nil) (q_cons (q_ite (t_cmp rfl (o_eq hr) (s_callB c_len rfl (free "len" rfl) rfl (s_cons (s_var rfl (vis_by rfl) rfl rfl) s_nil rfl) (by decide) rfl rfl rfl) s_cint rfl) (q_cons q_brk q_nil) q_nil) (q_cons (q_exp (s_call ((IH 15 "_law_open" rfl).at) hr tk rfl (sc_var rfl (vis_by rfl) rfl rfl (sc_var rfl (vis_by rfl) rfl rfl (sc_cons rfl (s_pidx hr (s_var rfl (vis_by rfl) rfl rfl) (s_call ((IH 9 "_law_pea" rfl).at) hr tk rfl (sc_var rfl (vis_by rfl) rfl rfl (sc_cons rfl (s_callB c_len rfl (free "len" rfl) rfl (s_cons (s_var rfl (vis_by rfl) rfl rfl) s_nil rfl) (by decide) rfl rfl rfl) sc_nil rfl) rfl) rfl rfl rfl) (fun _ _ => rfl)) sc_nil rfl) rfl) rfl) rfl rfl rfl) rfl) q_nil))))) (fun _ => rfl)) (q_cons (q_ret (s_callTy c_tuple rfl (free "tuple" rfl) rfl (s_cons (s_pidx hr (s_var rfl (vis_by rfl) rfl rfl) s_cint (fun _ _ => rfl)) s_nil rfl) (by decide) rfl rfl rfl)) q_nil)))
theorem g16 (IH : ∀ i x, names[i]? = some x → FnW P w K mg base rx k x (kw i) (callN fs k i)) (free : ∀ x, blts.contains x = true → mg x = none) (TT : ∀ q ∈ tf, (He.cT K q).2 ∈ TabList.tabs ∧ GxR.TabB base mg (He.cT K q).1 (He.cT K q).2) {f : Addr} {fd : FuncData} (hf : f = He.fAd K ("_law_walk", none)) (F : FunD K "_law_walk" "_law_walk" (defArgs (top 19)) (defBody (top 19)) (defScope (top 19)) [] [] f fd) (hm : mg "_law_walk" = some (.ref f)) : FnW P w K mg base rx (k + 1) "_law_walk" (kw 16) (callN fs (k + 1) 16) :=
  ⟨f, fd, ["bowl", "house", "most"], fd_okC hf F sc16 f16 rfl rfl (fun cdv A outer s H E hc hr => t16 IH free TT hc hr), hm, F.kp, F.bindsN (fun _ _ _ _ _ _ us hl => match us, hl with | [_, _, _], _ => rfl), fun j _ _ hj => by cases hj⟩
theorem sc17 : FnScope ["house", "walk", "state", "hands", "wasted", "ways", "door", "one", "other", "plain"] ["house", "walk"] (defScope (top 20)) := ⟨rfl, rfl, rfl, by decide +kernel, rfl, by decide +kernel, by decide +kernel⟩
theorem t17 (IH : ∀ i x, names[i]? = some x → FnW P w K mg base rx k x (kw i) (call i)) (free : ∀ x, blts.contains x = true → mg x = none) (TT : ∀ q ∈ tf, (He.cT K q).2 ∈ TabList.tabs ∧ GxR.TabB base mg (He.cT K q).1 (He.cT K q).2) {f : Addr} {cdv : Value} {A : Around} {outer : List PySem.Env} {s : Shared} {H : Hp} {E : XK} (hcode : cdv = .ref (He.codeOf K ("_law_facts", none))) (hr : Room k (A.deeper (envOfC "_law_facts" (defScope (top 20)) s.heap.objs.size f cdv))) : PSs (cxOf (L2.CX P w) P w K mg base ["house", "walk", "state", "hands", "wasted", "ways", "door", "one", "other", "plain"] "_law_facts" (defScope (top 20)) f cdv A outer s H E) (defBody (top 20)) (tSs K rx (fun c d _ H' => E c d H') { call := call, kp := Fd.kp f17 } b17) := by
  subst hcode
  have hN := sc17.nd
  have tk := takes_cx (P := P) (w := w) (K := K) (mg := mg) (base := base) (N := ["house", "walk", "state", "hands", "wasted", "ways", "door", "one", "other", "plain"]) (qual := "_law_facts") (scope := defScope (top 20)) (f := f) (cd := .ref (He.codeOf K ("_law_facts", none))) (A := A) (outer := outer) (s := s) (H := H) (E := E)
  have hp := owns_cx (P := P) (w := w) (K := K) (mg := mg) (base := base) (N := ["house", "walk", "state", "hands", "wasted", "ways", "door", "one", "other", "plain"]) (qual := "_law_facts") (scope := defScope (top 20)) (f := f) (cd := .ref (He.codeOf K ("_law_facts", none))) (A := A) (outer := outer) (s := s) (H := H) (E := E)
  exact (q_cons (q_asg (s_call ((IH 13 "_law_begin" rfl).at) hr tk rfl (sc_var rfl (vis_by rfl) rfl rfl sc_nil rfl) rfl rfl rfl) (g_name hN rfl (loc_by rfl) (fnl_by rfl)) rfl rfl rfl) (q_cons (q_asg (s_lst (so_cons (s_pidx hr (s_var rfl (vis_by rfl) rfl rfl) s_cint (fun _ _ => rfl)) so_nil rfl)) (g_name hN rfl (loc_by rfl) (fnl_by rfl)) rfl rfl rfl) (q_cons (q_asg (s_lst so_nil) (g_name hN rfl (loc_by rfl) (fnl_by rfl)) rfl rfl rfl) (q_cons (q_asg (s_bin o_mul (s_lst (so_cons s_cnon so_nil rfl)) (s_callB c_len rfl (free "len" rfl) rfl (s_cons (s_pidx hr (s_var rfl (vis_by rfl) rfl rfl) s_cint (fun _ _ => rfl)) s_nil rfl) (by decide) rfl rfl rfl)) (g_name hN rfl (loc_by rfl) (fnl_by rfl)) rfl rfl rfl) (q_cons (q_for hp rfl (i_seq (s_var rfl (vis_by rfl) rfl rfl)) (g_name hN rfl (loc_by rfl) (fnl_by rfl)) (q_cons (q_asg (s_pidx hr (s_pidx hr (s_var rfl (vis_by rfl) rfl rfl) s_cint (fun _ _ => rfl)) (s_var rfl (vis_by rfl) rfl rfl) (fun _ _ => rfl)) (g_tup rfl (g_cons (g_name hN rfl (loc_by rfl) (fnl_by rfl)) (g_cons (g_name hN rfl (loc_by rfl) (fnl_by rfl)) g_nil rfl) rfl) rfl rfl) rfl rfl rfl) (q_cons (q_ite (PW.pt (w_and (t_cmp rfl (o_in hr) (s_var rfl (vis_by rfl) rfl rfl) (s_pidx hr (s_var rfl (vis_by rfl) rfl rfl) s_cint (fun _ _ => rfl)) rfl) (w_and1 (t_cmp rfl (o_in hr) (s_var rfl (vis_by rfl) rfl rfl) (s_pidx hr (s_var rfl (vis_by rfl) rfl rfl) s_cint (fun _ _ => rfl)) rfl)))) (q_cons (q_exp (s_mm slot_append PySem.F.type_list_append (p_var rfl (vis_by rfl) rfl rfl) (so_cons (s_var rfl (vis_by rfl) rfl rfl) so_nil rfl) rfl rfl rfl rfl rfl) rfl) q_nil) (q_cons (q_sto hr (s_var rfl (vis_by rfl) rfl rfl) (p_var rfl (vis_by rfl) rfl rfl) (s_ife (t_cmp rfl (o_in hr) (s_var rfl (vis_by rfl) rfl rfl) (s_pidx hr (s_var rfl (vis_by rfl) rfl rfl) s_cint (fun _ _ => rfl)) rfl) (s_var rfl (vis_by rfl) rfl rfl) (s_var rfl (vis_by rfl) rfl rfl)) rfl rfl rfl (fun _ => rfl)) q_nil)) (q_cons (q_exp (s_call ((IH 15 "_law_open" rfl).at) hr tk rfl (sc_var rfl (vis_by rfl) rfl rfl (sc_var rfl (vis_by rfl) rfl rfl (sc_var rfl (vis_by rfl) rfl rfl sc_nil rfl) rfl) rfl) rfl rfl rfl) rfl) (q_cons (q_exp (s_mm slot_append PySem.F.type_list_append (p_var rfl (vis_by rfl) rfl rfl) (so_cons (s_pidx hr (s_var rfl (vis_by rfl) rfl rfl) s_cint (fun _ _ => rfl)) so_nil rfl) rfl rfl rfl rfl rfl) rfl) q_nil)))) (fun _ => rfl)) (q_cons (q_asg (s_callTy c_tuple rfl (free "tuple" rfl) rfl (s_cons (s_lc (own := [("door", 6)]) rfl hN (i_seq (s_var rfl (vis_by rfl) rfl rfl)) rfl (by decide) rfl (fun _ _ _ _ _ => (g_name hN rfl (loc_by rfl) (fnl_by rfl))) (fun _ _ _ _ _ => (if_one (t_cmp rfl (o_nin hr) (s_var rfl (vis_by rfl) rfl rfl) (s_var rfl (vis_by rfl) rfl rfl) rfl))) (fun _ _ _ _ _ => (s_var rfl (vis_by rfl) rfl rfl)) (fun _ => rfl)) s_nil rfl) (by decide) rfl rfl rfl) (g_name hN rfl (loc_by rfl) (fnl_by rfl)) rfl rfl rfl) (q_cons (q_ret (s_tup (so_cons (s_callTy c_tuple rfl (free "tuple" rfl) rfl (s_cons (s_var rfl (vis_by rfl) rfl rfl) s_nil rfl) (by decide) rfl rfl rfl) (so_cons (s_callTy c_tuple rfl (free "tuple" rfl) rfl (s_cons (s_var rfl (vis_by rfl) rfl rfl) s_nil rfl) (by decide) rfl rfl rfl) (so_cons (s_var rfl (vis_by rfl) rfl rfl) (so_cons (s_callTy c_tuple rfl (free "tuple" rfl) rfl (s_cons (s_var rfl (vis_by rfl) rfl rfl) s_nil rfl) (by decide) rfl rfl rfl) so_nil rfl) rfl) rfl) rfl))) q_nil)))))))
theorem g17 (IH : ∀ i x, names[i]? = some x → FnW P w K mg base rx k x (kw i) (callN fs k i)) (free : ∀ x, blts.contains x = true → mg x = none) (TT : ∀ q ∈ tf, (He.cT K q).2 ∈ TabList.tabs ∧ GxR.TabB base mg (He.cT K q).1 (He.cT K q).2) {f : Addr} {fd : FuncData} (hf : f = He.fAd K ("_law_facts", none)) (F : FunD K "_law_facts" "_law_facts" (defArgs (top 20)) (defBody (top 20)) (defScope (top 20)) [] [] f fd) (hm : mg "_law_facts" = some (.ref f)) : FnW P w K mg base rx (k + 1) "_law_facts" (kw 17) (callN fs (k + 1) 17) :=
  ⟨f, fd, ["house", "walk"], fd_okC hf F sc17 f17 rfl rfl (fun cdv A outer s H E hc hr => t17 IH free TT hc hr), hm, F.kp, F.bindsN (fun _ _ _ _ _ _ us hl => match us, hl with | [_, _], _ => rfl), fun j _ _ hj => by cases hj⟩
theorem sc18 : FnScope ["told", "due", "k"] ["told", "due"] (defScope (top 21)) := ⟨rfl, rfl, rfl, by decide +kernel, rfl, by decide +kernel, by decide +kernel⟩
theorem t18 (IH : ∀ i x, names[i]? = some x → FnW P w K mg base rx k x (kw i) (call i)) (free : ∀ x, blts.contains x = true → mg x = none) (TT : ∀ q ∈ tf, (He.cT K q).2 ∈ TabList.tabs ∧ GxR.TabB base mg (He.cT K q).1 (He.cT K q).2) {f : Addr} {cdv : Value} {A : Around} {outer : List PySem.Env} {s : Shared} {H : Hp} {E : XK} (hcode : cdv = .ref (He.codeOf K ("_law_same", none))) (hr : Room k (A.deeper (envOfC "_law_same" (defScope (top 21)) s.heap.objs.size f cdv))) : PSs (cxOf (L2.CX P w) P w K mg base ["told", "due", "k"] "_law_same" (defScope (top 21)) f cdv A outer s H E) (defBody (top 21)) (tSs K rx (fun c d _ H' => E c d H') { call := call, kp := Fd.kp f18 } b18) := by
  subst hcode
  have hN := sc18.nd
  have tk := takes_cx (P := P) (w := w) (K := K) (mg := mg) (base := base) (N := ["told", "due", "k"]) (qual := "_law_same") (scope := defScope (top 21)) (f := f) (cd := .ref (He.codeOf K ("_law_same", none))) (A := A) (outer := outer) (s := s) (H := H) (E := E)
  have hp := owns_cx (P := P) (w := w) (K := K) (mg := mg) (base := base) (N := ["told", "due", "k"]) (qual := "_law_same") (scope := defScope (top 21)) (f := f) (cd := .ref (He.codeOf K ("_law_same", none))) (A := A) (outer := outer) (s := s) (H := H) (E := E)
  exact (q_cons (q_ite (t_isN (s_var rfl (vis_by rfl) rfl rfl)) (q_cons (q_ret (s_isN (s_var rfl (vis_by rfl) rfl rfl))) q_nil) q_nil) (q_cons (q_ite (t_plain (s_isi .bool rfl (free "isinstance" rfl) (s_var rfl (vis_by rfl) rfl rfl) rfl (free "bool" rfl) rfl (by decide) rfl rfl rfl rfl) (fun _ => rfl)) (q_cons (q_ret (s_and (s_isi .bool rfl (free "isinstance" rfl) (s_var rfl (vis_by rfl) rfl rfl) rfl (free "bool" rfl) rfl (by decide) rfl rfl rfl rfl) (s_and1 (s_cmp (o_eq hr) (s_var rfl (vis_by rfl) rfl rfl) (s_var rfl (vis_by rfl) rfl rfl) rfl)))) q_nil) q_nil) (q_cons (q_ite (t_plain (s_isi .int rfl (free "isinstance" rfl) (s_var rfl (vis_by rfl) rfl rfl) rfl (free "int" rfl) rfl (by decide) rfl rfl rfl rfl) (fun _ => rfl)) (q_cons (q_ret (s_and (s_isi .int rfl (free "isinstance" rfl) (s_var rfl (vis_by rfl) rfl rfl) rfl (free "int" rfl) rfl (by decide) rfl rfl rfl rfl) (s_and (s_not (s_isi .bool rfl (free "isinstance" rfl) (s_var rfl (vis_by rfl) rfl rfl) rfl (free "bool" rfl) rfl (by decide) rfl rfl rfl rfl)) (s_and1 (s_cmp (o_eq hr) (s_var rfl (vis_by rfl) rfl rfl) (s_var rfl (vis_by rfl) rfl rfl) rfl))))) q_nil) q_nil) (q_cons (q_ite (t_plain (s_isi .str rfl (free "isinstance" rfl) (s_var rfl (vis_by rfl) rfl rfl) rfl (free "str" rfl) rfl (by decide) rfl rfl rfl rfl) (fun _ => rfl)) (q_cons (q_ret (s_and (s_isi .str rfl (free "isinstance" rfl) (s_var rfl (vis_by rfl) rfl rfl) rfl (free "str" rfl) rfl (by decide) rfl rfl rfl rfl) (s_and1 (s_cmp (o_eq hr) (s_var rfl (vis_by rfl) rfl rfl) (s_var rfl (vis_by rfl) rfl rfl) rfl)))) q_nil) q_nil) (q_cons (q_ite (PW.pt (w_or (t_not (t_plain (s_isi .tup rfl (free "isinstance" rfl) (s_var rfl (vis_by rfl) rfl rfl) rfl (free "tuple" rfl) rfl (by decide) rfl rfl rfl rfl) (fun _ => rfl))) (w_or1 (t_cmp rfl (o_ne hr) (s_callB c_len rfl (free "len" rfl) rfl (s_cons (s_var rfl (vis_by rfl) rfl rfl) s_nil rfl) (by decide) rfl rfl rfl) (s_callB c_len rfl (free "len" rfl) rfl (s_cons (s_var rfl (vis_by rfl) rfl rfl) s_nil rfl) (by decide) rfl rfl rfl) rfl)))) (q_cons (q_ret s_cbl) q_nil) q_nil) (q_cons (q_for hp rfl (i_rng1 rfl (free "range" rfl) (s_cons (s_callB c_len rfl (free "len" rfl) rfl (s_cons (s_var rfl (vis_by rfl) rfl rfl) s_nil rfl) (by decide) rfl rfl rfl) s_nil rfl) rfl) (g_name hN rfl (loc_by rfl) (fnl_by rfl)) (q_cons (q_ite (t_not (t_plain (s_call ((IH 18 "_law_same" rfl).at) hr tk rfl (sc_cons rfl (s_pidx hr (s_var rfl (vis_by rfl) rfl rfl) (s_var rfl (vis_by rfl) rfl rfl) (fun _ _ => rfl)) (sc_cons rfl (s_pidx hr (s_var rfl (vis_by rfl) rfl rfl) (s_var rfl (vis_by rfl) rfl rfl) (fun _ _ => rfl)) sc_nil rfl) rfl) rfl rfl rfl) (fun _ => rfl))) (q_cons (q_ret s_cbl) q_nil) q_nil) q_nil) (fun _ => rfl)) (q_cons (q_ret s_cbl) q_nil)))))))
theorem g18 (IH : ∀ i x, names[i]? = some x → FnW P w K mg base rx k x (kw i) (callN fs k i)) (free : ∀ x, blts.contains x = true → mg x = none) (TT : ∀ q ∈ tf, (He.cT K q).2 ∈ TabList.tabs ∧ GxR.TabB base mg (He.cT K q).1 (He.cT K q).2) {f : Addr} {fd : FuncData} (hf : f = He.fAd K ("_law_same", none)) (F : FunD K "_law_same" "_law_same" (defArgs (top 21)) (defBody (top 21)) (defScope (top 21)) [] [] f fd) (hm : mg "_law_same" = some (.ref f)) : FnW P w K mg base rx (k + 1) "_law_same" (kw 18) (callN fs (k + 1) 18) :=
  ⟨f, fd, ["told", "due"], fd_okC hf F sc18 f18 rfl rfl (fun cdv A outer s H E hc hr => t18 IH free TT hc hr), hm, F.kp, F.bindsN (fun _ _ _ _ _ _ us hl => match us, hl with | [_, _], _ => rfl), fun j _ _ hj => by cases hj⟩
theorem sc19 : FnScope ["house", "walk", "hands", "wasted", "plain", "ways", "after"] ["house", "walk"] (defScope (top 22)) := ⟨rfl, rfl, rfl, by decide +kernel, rfl, by decide +kernel, by decide +kernel⟩
theorem t19 (IH : ∀ i x, names[i]? = some x → FnW P w K mg base rx k x (kw i) (call i)) (free : ∀ x, blts.contains x = true → mg x = none) (TT : ∀ q ∈ tf, (He.cT K q).2 ∈ TabList.tabs ∧ GxR.TabB base mg (He.cT K q).1 (He.cT K q).2) {f : Addr} {cdv : Value} {A : Around} {outer : List PySem.Env} {s : Shared} {H : Hp} {E : XK} (hcode : cdv = .ref (He.codeOf K ("_law_right", none))) (hr : Room k (A.deeper (envOfC "_law_right" (defScope (top 22)) s.heap.objs.size f cdv))) : PSs (cxOf (L2.CX P w) P w K mg base ["house", "walk", "hands", "wasted", "plain", "ways", "after"] "_law_right" (defScope (top 22)) f cdv A outer s H E) (defBody (top 22)) (tSs K rx (fun c d _ H' => E c d H') { call := call, kp := Fd.kp f19 } b19) := by
  subst hcode
  have hN := sc19.nd
  have tk := takes_cx (P := P) (w := w) (K := K) (mg := mg) (base := base) (N := ["house", "walk", "hands", "wasted", "plain", "ways", "after"]) (qual := "_law_right") (scope := defScope (top 22)) (f := f) (cd := .ref (He.codeOf K ("_law_right", none))) (A := A) (outer := outer) (s := s) (H := H) (E := E)
  have hp := owns_cx (P := P) (w := w) (K := K) (mg := mg) (base := base) (N := ["house", "walk", "hands", "wasted", "plain", "ways", "after"]) (qual := "_law_right") (scope := defScope (top 22)) (f := f) (cd := .ref (He.codeOf K ("_law_right", none))) (A := A) (outer := outer) (s := s) (H := H) (E := E)
  exact (q_cons (q_asg (s_call ((IH 17 "_law_facts" rfl).at) hr tk rfl (sc_var rfl (vis_by rfl) rfl rfl (sc_var rfl (vis_by rfl) rfl rfl sc_nil rfl) rfl) rfl rfl rfl) (g_tup rfl (g_cons (g_name hN rfl (loc_by rfl) (fnl_by rfl)) (g_cons (g_name hN rfl (loc_by rfl) (fnl_by rfl)) (g_cons (g_name hN rfl (loc_by rfl) (fnl_by rfl)) (g_cons (g_name hN rfl (loc_by rfl) (fnl_by rfl)) g_nil rfl) rfl) rfl) rfl) rfl rfl) rfl rfl rfl) (q_cons (q_ite (PW.pt (w_or (t_not (t_plain (s_call ((IH 18 "_law_same" rfl).at) hr tk rfl (sc_cons rfl (s_call ((IH 3 "hands_along" rfl).at) hr tk rfl (sc_var rfl (vis_by rfl) rfl rfl (sc_var rfl (vis_by rfl) rfl rfl sc_nil rfl) rfl) rfl rfl rfl) (sc_var rfl (vis_by rfl) rfl rfl sc_nil rfl) rfl) rfl rfl rfl) (fun _ => rfl))) (w_or1 (t_not (t_plain (s_call ((IH 18 "_law_same" rfl).at) hr tk rfl (sc_cons rfl (s_call ((IH 5 "wasted_doors" rfl).at) hr tk rfl (sc_var rfl (vis_by rfl) rfl rfl (sc_var rfl (vis_by rfl) rfl rfl sc_nil rfl) rfl) rfl rfl rfl) (sc_var rfl (vis_by rfl) rfl rfl sc_nil rfl) rfl) rfl rfl rfl) (fun _ => rfl)))))) (q_cons (q_ret s_cbl) q_nil) q_nil) (q_cons (q_ite (PW.pt (w_or (t_not (t_plain (s_call ((IH 18 "_law_same" rfl).at) hr tk rfl (sc_cons rfl (s_call ((IH 6 "plain_walk" rfl).at) hr tk rfl (sc_var rfl (vis_by rfl) rfl rfl (sc_var rfl (vis_by rfl) rfl rfl sc_nil rfl) rfl) rfl rfl rfl) (sc_var rfl (vis_by rfl) rfl rfl sc_nil rfl) rfl) rfl rfl rfl) (fun _ => rfl))) (w_or1 (t_not (t_plain (s_call ((IH 18 "_law_same" rfl).at) hr tk rfl (sc_cons rfl (s_callK ((IH 7 "walk_ways" rfl).atK 0 rfl) hr tk rfl (sk_var rfl (vis_by rfl) rfl rfl (sk_var rfl (vis_by rfl) rfl rfl sk_nil)) (by decide) rfl rfl rfl rfl rfl) (sc_var rfl (vis_by rfl) rfl rfl sc_nil rfl) rfl) rfl rfl rfl) (fun _ => rfl)))))) (q_cons (q_ret s_cbl) q_nil) q_nil) (q_cons (q_asg (s_call ((IH 17 "_law_facts" rfl).at) hr tk rfl (sc_var rfl (vis_by rfl) rfl rfl (sc_var rfl (vis_by rfl) rfl rfl sc_nil rfl) rfl) rfl rfl rfl) (g_name hN rfl (loc_by rfl) (fnl_by rfl)) rfl rfl rfl) (q_cons (q_ite (PW.pt (w_or (t_cmp rfl (o_ne hr) (s_pidx hr (s_pidx hr (s_var rfl (vis_by rfl) rfl rfl) s_cint (fun _ _ => rfl)) (s_callB c_len rfl (free "len" rfl) rfl (s_cons (s_var rfl (vis_by rfl) rfl rfl) s_nil rfl) (by decide) rfl rfl rfl) (fun _ _ => rfl)) (s_bin o_add (s_pidx hr (s_var rfl (vis_by rfl) rfl rfl) (s_callB c_len rfl (free "len" rfl) rfl (s_cons (s_var rfl (vis_by rfl) rfl rfl) s_nil rfl) (by decide) rfl rfl rfl) (fun _ _ => rfl)) (s_callB c_len rfl (free "len" rfl) rfl (s_cons (s_var rfl (vis_by rfl) rfl rfl) s_nil rfl) (by decide) rfl rfl rfl)) rfl) (w_or1 (t_cmp rfl (o_ne hr) (s_pidx hr (s_var rfl (vis_by rfl) rfl rfl) s_cint (fun _ _ => rfl)) (s_var rfl (vis_by rfl) rfl rfl) rfl)))) (q_cons (q_ret s_cbl) q_nil) q_nil) (q_cons (q_ret (s_and (s_call ((IH 18 "_law_same" rfl).at) hr tk rfl (sc_cons rfl (s_call ((IH 3 "hands_along" rfl).at) hr tk rfl (sc_var rfl (vis_by rfl) rfl rfl (sc_var rfl (vis_by rfl) rfl rfl sc_nil rfl) rfl) rfl rfl rfl) (sc_cons rfl (s_pidx hr (s_var rfl (vis_by rfl) rfl rfl) s_cint (fun _ _ => rfl)) sc_nil rfl) rfl) rfl rfl rfl) (s_and1 (s_call ((IH 18 "_law_same" rfl).at) hr tk rfl (sc_cons rfl (s_call ((IH 5 "wasted_doors" rfl).at) hr tk rfl (sc_var rfl (vis_by rfl) rfl rfl (sc_var rfl (vis_by rfl) rfl rfl sc_nil rfl) rfl) rfl rfl rfl) (sc_cons rfl (s_tup so_nil) sc_nil rfl) rfl) rfl rfl rfl)))) q_nil))))))
theorem g19 (IH : ∀ i x, names[i]? = some x → FnW P w K mg base rx k x (kw i) (callN fs k i)) (free : ∀ x, blts.contains x = true → mg x = none) (TT : ∀ q ∈ tf, (He.cT K q).2 ∈ TabList.tabs ∧ GxR.TabB base mg (He.cT K q).1 (He.cT K q).2) {f : Addr} {fd : FuncData} (hf : f = He.fAd K ("_law_right", none)) (F : FunD K "_law_right" "_law_right" (defArgs (top 22)) (defBody (top 22)) (defScope (top 22)) [] [] f fd) (hm : mg "_law_right" = some (.ref f)) : FnW P w K mg base rx (k + 1) "_law_right" (kw 19) (callN fs (k + 1) 19) :=
  ⟨f, fd, ["house", "walk"], fd_okC hf F sc19 f19 rfl rfl (fun cdv A outer s H E hc hr => t19 IH free TT hc hr), hm, F.kp, F.bindsN (fun _ _ _ _ _ _ us hl => match us, hl with | [_, _], _ => rfl), fun j _ _ hj => by cases hj⟩
theorem sc20 : FnScope ["script", "bowl", "wide", "house", "double", "row"] ["script"] (defScope (top 23)) := ⟨rfl, rfl, rfl, by decide +kernel, rfl, by decide +kernel, by decide +kernel⟩
theorem t20 (IH : ∀ i x, names[i]? = some x → FnW P w K mg base rx k x (kw i) (call i)) (free : ∀ x, blts.contains x = true → mg x = none) (TT : ∀ q ∈ tf, (He.cT K q).2 ∈ TabList.tabs ∧ GxR.TabB base mg (He.cT K q).1 (He.cT K q).2) {f : Addr} {cdv : Value} {A : Around} {outer : List PySem.Env} {s : Shared} {H : Hp} {E : XK} (hcode : cdv = .ref (He.codeOf K ("law", none))) (hr : Room k (A.deeper (envOfC "law" (defScope (top 23)) s.heap.objs.size f cdv))) : PSs (cxOf (L2.CX P w) P w K mg base ["script", "bowl", "wide", "house", "double", "row"] "law" (defScope (top 23)) f cdv A outer s H E) (defBody (top 23)) (tSs K rx (fun c d _ H' => E c d H') { call := call, kp := Fd.kp f20 } b20) := by
  subst hcode
  have hN := sc20.nd
  have tk := takes_cx (P := P) (w := w) (K := K) (mg := mg) (base := base) (N := ["script", "bowl", "wide", "house", "double", "row"]) (qual := "law") (scope := defScope (top 23)) (f := f) (cd := .ref (He.codeOf K ("law", none))) (A := A) (outer := outer) (s := s) (H := H) (E := E)
  have hp := owns_cx (P := P) (w := w) (K := K) (mg := mg) (base := base) (N := ["script", "bowl", "wide", "house", "double", "row"]) (qual := "law") (scope := defScope (top 23)) (f := f) (cd := .ref (He.codeOf K ("law", none))) (A := A) (outer := outer) (s := s) (H := H) (E := E)
  exact (q_cons (q_asg (s_call ((IH 8 "_law_bowl" rfl).at) hr tk rfl (sc_var rfl (vis_by rfl) rfl rfl sc_nil rfl) rfl rfl rfl) (g_name hN rfl (loc_by rfl) (fnl_by rfl)) rfl rfl rfl) (q_cons (q_asg (s_cmp (o_eq hr) (s_call ((IH 9 "_law_pea" rfl).at) hr tk rfl (sc_var rfl (vis_by rfl) rfl rfl (sc_cons rfl s_cint sc_nil rfl) rfl) rfl rfl rfl) s_cint rfl) (g_name hN rfl (loc_by rfl) (fnl_by rfl)) rfl rfl rfl) (q_cons (q_ite (t_plain (s_var rfl (vis_by rfl) rfl rfl) (fun _ => rfl)) (q_cons (q_asg (s_call ((IH 10 "_law_house" rfl).at) hr tk rfl (sc_var rfl (vis_by rfl) rfl rfl (sc_cons rfl s_cint (sc_cons rfl s_cint sc_nil rfl) rfl) rfl) rfl rfl rfl) (g_name hN rfl (loc_by rfl) (fnl_by rfl)) rfl rfl rfl) (q_cons (q_asg (s_tup (so_cons (s_bin o_add (s_tup (so_cons s_cint so_nil rfl)) (s_cutL (s_pidx hr (s_var rfl (vis_by rfl) rfl rfl) s_cint (fun _ _ => rfl)) s_cint)) (so_cons (s_pidx hr (s_var rfl (vis_by rfl) rfl rfl) s_cint (fun _ _ => rfl)) (so_cons (s_cutL (s_pidx hr (s_var rfl (vis_by rfl) rfl rfl) s_cint (fun _ _ => rfl)) (s_bin o_sub (s_callB c_len rfl (free "len" rfl) rfl (s_cons (s_pidx hr (s_var rfl (vis_by rfl) rfl rfl) s_cint (fun _ _ => rfl)) s_nil rfl) (by decide) rfl rfl rfl) s_cint)) so_nil rfl) rfl) rfl)) (g_name hN rfl (loc_by rfl) (fnl_by rfl)) rfl rfl rfl) q_nil)) (q_cons (q_asg (s_call ((IH 10 "_law_house" rfl).at) hr tk rfl (sc_var rfl (vis_by rfl) rfl rfl (sc_cons rfl (s_bin o_add s_cint (s_call ((IH 9 "_law_pea" rfl).at) hr tk rfl (sc_var rfl (vis_by rfl) rfl rfl (sc_cons rfl s_cint sc_nil rfl) rfl) rfl rfl rfl)) (sc_cons rfl (s_call ((IH 9 "_law_pea" rfl).at) hr tk rfl (sc_var rfl (vis_by rfl) rfl rfl (sc_cons rfl s_cint sc_nil rfl) rfl) rfl rfl rfl) sc_nil rfl) rfl) rfl) rfl rfl rfl) (g_name hN rfl (loc_by rfl) (fnl_by rfl)) rfl rfl rfl) q_nil)) (q_cons (q_asg (s_call ((IH 11 "_law_double_house" rfl).at) hr tk rfl (sc_var rfl (vis_by rfl) rfl rfl sc_nil rfl) rfl rfl rfl) (g_name hN rfl (loc_by rfl) (fnl_by rfl)) rfl rfl rfl) (q_cons (q_asg (s_call ((IH 12 "_law_row_house" rfl).at) hr tk rfl (sc_var rfl (vis_by rfl) rfl rfl sc_nil rfl) rfl rfl rfl) (g_name hN rfl (loc_by rfl) (fnl_by rfl)) rfl rfl rfl) (q_cons (q_ite (t_not (t_plain (s_call ((IH 19 "_law_right" rfl).at) hr tk rfl (sc_var rfl (vis_by rfl) rfl rfl (sc_cons rfl (s_call ((IH 16 "_law_walk" rfl).at) hr tk rfl (sc_var rfl (vis_by rfl) rfl rfl (sc_var rfl (vis_by rfl) rfl rfl (sc_cons rfl (s_ife (t_plain (s_var rfl (vis_by rfl) rfl rfl) (fun _ => rfl)) s_cint (s_call ((IH 9 "_law_pea" rfl).at) hr tk rfl (sc_var rfl (vis_by rfl) rfl rfl (sc_cons rfl s_cint sc_nil rfl) rfl) rfl rfl rfl)) sc_nil rfl) rfl) rfl) rfl rfl rfl) sc_nil rfl) rfl) rfl rfl rfl) (fun _ => rfl))) (q_cons (q_ret s_cbl) q_nil) q_nil) (q_cons (q_ite (PW.pt (w_or (t_not (t_plain (s_call ((IH 19 "_law_right" rfl).at) hr tk rfl (sc_var rfl (vis_by rfl) rfl rfl (sc_cons rfl (s_tup so_nil) sc_nil rfl) rfl) rfl rfl rfl) (fun _ => rfl))) (w_or1 (t_not (t_plain (s_call ((IH 19 "_law_right" rfl).at) hr tk rfl (sc_var rfl (vis_by rfl) rfl rfl (sc_cons rfl (s_call ((IH 16 "_law_walk" rfl).at) hr tk rfl (sc_var rfl (vis_by rfl) rfl rfl (sc_var rfl (vis_by rfl) rfl rfl (sc_cons rfl s_cint sc_nil rfl) rfl) rfl) rfl rfl rfl) sc_nil rfl) rfl) rfl rfl rfl) (fun _ => rfl)))))) (q_cons (q_ret s_cbl) q_nil) q_nil) (q_cons (q_ite (t_not (t_plain (s_call ((IH 19 "_law_right" rfl).at) hr tk rfl (sc_var rfl (vis_by rfl) rfl rfl (sc_cons rfl (s_call ((IH 16 "_law_walk" rfl).at) hr tk rfl (sc_var rfl (vis_by rfl) rfl rfl (sc_var rfl (vis_by rfl) rfl rfl (sc_cons rfl (s_bin o_add s_cint (s_call ((IH 9 "_law_pea" rfl).at) hr tk rfl (sc_var rfl (vis_by rfl) rfl rfl (sc_cons rfl s_cint sc_nil rfl) rfl) rfl rfl rfl)) sc_nil rfl) rfl) rfl) rfl rfl rfl) sc_nil rfl) rfl) rfl rfl rfl) (fun _ => rfl))) (q_cons (q_ret s_cbl) q_nil) q_nil) (q_cons (q_ret (s_and (s_call ((IH 19 "_law_right" rfl).at) hr tk rfl (sc_var rfl (vis_by rfl) rfl rfl (sc_cons rfl (s_tup (so_cons s_cint (so_cons s_cint so_nil rfl) rfl)) sc_nil rfl) rfl) rfl rfl rfl) (s_and1 (s_call ((IH 19 "_law_right" rfl).at) hr tk rfl (sc_var rfl (vis_by rfl) rfl rfl (sc_cons rfl (s_tup (so_cons s_cint (so_cons (s_bin o_sub (s_callB c_len rfl (free "len" rfl) rfl (s_cons (s_pidx hr (s_var rfl (vis_by rfl) rfl rfl) s_cint (fun _ _ => rfl)) s_nil rfl) (by decide) rfl rfl rfl) s_cint) so_nil rfl) rfl)) sc_nil rfl) rfl) rfl rfl rfl)))) q_nil)))))))))
theorem g20 (IH : ∀ i x, names[i]? = some x → FnW P w K mg base rx k x (kw i) (callN fs k i)) (free : ∀ x, blts.contains x = true → mg x = none) (TT : ∀ q ∈ tf, (He.cT K q).2 ∈ TabList.tabs ∧ GxR.TabB base mg (He.cT K q).1 (He.cT K q).2) {f : Addr} {fd : FuncData} (hf : f = He.fAd K ("law", none)) (F : FunD K "law" "law" (defArgs (top 23)) (defBody (top 23)) (defScope (top 23)) [] [] f fd) (hm : mg "law" = some (.ref f)) : FnW P w K mg base rx (k + 1) "law" (kw 20) (callN fs (k + 1) 20) :=
  ⟨f, fd, ["script"], fd_okC hf F sc20 f20 rfl rfl (fun cdv A outer s H E hc hr => t20 IH free TT hc hr), hm, F.kp, F.bindsN (fun _ _ _ _ _ _ us hl => match us, hl with | [_], _ => rfl), fun j _ _ hj => by cases hj⟩
end
def d0 : He.DefD := ⟨("first_step", none), "first_step", "first_step", defArgs (top 1), defBody (top 1), defScope (top 1), [], []⟩
def d1 : He.DefD := ⟨("next_step", none), "next_step", "next_step", defArgs (top 2), defBody (top 2), defScope (top 2), [], []⟩
def d2 : He.DefD := ⟨("walk_steps", none), "walk_steps", "walk_steps", defArgs (top 3), defBody (top 3), defScope (top 3), [], []⟩
def d3 : He.DefD := ⟨("hands_along", none), "hands_along", "hands_along", defArgs (top 5), defBody (top 5), defScope (top 5), [], []⟩
def d4 : He.DefD := ⟨("is_wasted", none), "is_wasted", "is_wasted", defArgs (top 6), defBody (top 6), defScope (top 6), [], []⟩
def d5 : He.DefD := ⟨("wasted_doors", none), "wasted_doors", "wasted_doors", defArgs (top 7), defBody (top 7), defScope (top 7), [], []⟩
def d6 : He.DefD := ⟨("plain_walk", none), "plain_walk", "plain_walk", defArgs (top 8), defBody (top 8), defScope (top 8), [], []⟩
def d7 : He.DefD := ⟨("walk_ways", none), "walk_ways", "walk_ways", defArgs (top 9), defBody (top 9), defScope (top 9), [], []⟩
def d8 : He.DefD := ⟨("_law_bowl", none), "_law_bowl", "_law_bowl", defArgs (top 11), defBody (top 11), defScope (top 11), [], []⟩
def d9 : He.DefD := ⟨("_law_pea", none), "_law_pea", "_law_pea", defArgs (top 12), defBody (top 12), defScope (top 12), [], []⟩
def d10 : He.DefD := ⟨("_law_house", none), "_law_house", "_law_house", defArgs (top 13), defBody (top 13), defScope (top 13), [], []⟩
def d11 : He.DefD := ⟨("_law_double_house", none), "_law_double_house", "_law_double_house", defArgs (top 14), defBody (top 14), defScope (top 14), [], []⟩
def d12 : He.DefD := ⟨("_law_row_house", none), "_law_row_house", "_law_row_house", defArgs (top 15), defBody (top 15), defScope (top 15), [], []⟩
def d13 : He.DefD := ⟨("_law_begin", none), "_law_begin", "_law_begin", defArgs (top 16), defBody (top 16), defScope (top 16), [], []⟩
def d14 : He.DefD := ⟨("_law_can", none), "_law_can", "_law_can", defArgs (top 17), defBody (top 17), defScope (top 17), [], []⟩
def d15 : He.DefD := ⟨("_law_open", none), "_law_open", "_law_open", defArgs (top 18), defBody (top 18), defScope (top 18), [], []⟩
def d16 : He.DefD := ⟨("_law_walk", none), "_law_walk", "_law_walk", defArgs (top 19), defBody (top 19), defScope (top 19), [], []⟩
def d17 : He.DefD := ⟨("_law_facts", none), "_law_facts", "_law_facts", defArgs (top 20), defBody (top 20), defScope (top 20), [], []⟩
def d18 : He.DefD := ⟨("_law_same", none), "_law_same", "_law_same", defArgs (top 21), defBody (top 21), defScope (top 21), [], []⟩
def d19 : He.DefD := ⟨("_law_right", none), "_law_right", "_law_right", defArgs (top 22), defBody (top 22), defScope (top 22), [], []⟩
def d20 : He.DefD := ⟨("law", none), "law", "law", defArgs (top 23), defBody (top 23), defScope (top 23), [], []⟩
def fn : List He.DefD := [d0, d1, d2, d3, d4, d5, d6, d7, d8, d9, d10, d11, d12, d13, d14, d15, d16, d17, d18, d19, d20]
def fa : List He.Fa := [.glo "first_step", .glo "next_step", .glo "walk_steps", .glo "hands_along", .glo "is_wasted", .glo "wasted_doors", .glo "plain_walk", .glo "walk_ways", .glo "_law_bowl", .glo "_law_pea", .glo "_law_house", .glo "_law_double_house", .glo "_law_row_house", .glo "_law_begin", .glo "_law_can", .glo "_law_open", .glo "_law_walk", .glo "_law_facts", .glo "_law_same", .glo "_law_right", .glo "law", .free "abs", .free "all", .free "bool", .free "enumerate", .free "int", .free "isinstance", .free "len", .free "max", .free "min", .free "range", .free "sorted", .free "str", .free "sum", .free "tuple"]
abbrev R : PySem.W.OpenRow := PySem.W.OpenLaw.row PySem.Challenge.rw_anydoornext_k06_walk_facts
abbrev hk : PySem.W.Hook := He.hookX 4 fa fn [] tf (fun _ => true)
def ob (s : PySem.W.SharedT) : He.AlX := He.obsX 4 fa fn [] tf (fun _ => true) (HandSHeadRun.getT s)
theorem ob_eq (s : PySem.W.SharedT) : ob s = hk.obs s.abs := He.obsX_eq (HandSHeadRun.getT_eq s)
theorem run (w : World) : HandSHeadRun.RunEq R (PySem.W.view R.prog [23]) hk ob 2000 ["first_step", "next_step", "walk_steps", "hands_along", "is_wasted", "wasted_doors", "plain_walk", "walk_ways", "_law_bowl", "_law_pea", "_law_house", "_law_double_house", "_law_row_house", "_law_begin", "_law_can", "_law_open", "_law_walk", "_law_facts", "_law_same", "_law_right"] w := by
  intro os
  kernel_rfl
section
variable [TabList] {P : Program} {w : World} {K : PySem.W.Frag} {h : Heap} {mg : Str → Option Value} {base : Heap} {rx : XR}
theorem free_of (X : K.In h) (G : h.Ns mainGlobals mg) (c : He.SaysD fa fn K) : ∀ x, blts.contains x = true → mg x = none := fun x hx => by
  have hx : x ∈ blts := by simpa using hx
  have key : ∀ (j : Nat) (x : Str), fa[j]? = some (.free x) → mg x = none := fun j x hj => He.free_ok X G (c.fact j hj)
  obtain ⟨j, hj, e⟩ := List.mem_iff_getElem.mp hx
  have hl : j < 14 := hj
  subst e
  match j, hj, hl with
  | 0, _, _ => exact key 21 _ rfl
  | 1, _, _ => exact key 22 _ rfl
  | 2, _, _ => exact key 23 _ rfl
  | 3, _, _ => exact key 24 _ rfl
  | 4, _, _ => exact key 25 _ rfl
  | 5, _, _ => exact key 26 _ rfl
  | 6, _, _ => exact key 27 _ rfl
  | 7, _, _ => exact key 28 _ rfl
  | 8, _, _ => exact key 29 _ rfl
  | 9, _, _ => exact key 30 _ rfl
  | 10, _, _ => exact key 31 _ rfl
  | 11, _, _ => exact key 32 _ rfl
  | 12, _, _ => exact key 33 _ rfl
  | 13, _, _ => exact key 34 _ rfl
  | j + 14, _, hl => exact absurd hl (by omega)
theorem all (X : K.In h) (G : h.Ns mainGlobals mg) (c : He.SaysD fa fn K) (TT : ∀ q ∈ tf, (He.cT K q).2 ∈ TabList.tabs ∧ GxR.TabB base mg (He.cT K q).1 (He.cT K q).2) : ∀ (k i : Nat) (x : Str), names[i]? = some x → FnW P w K mg base rx k x (kw i) (callN fs k i) := by
  obtain ⟨fd0, F0⟩ := c.def_ 0 (d := d0) rfl
  have m0 := He.glo_ok X G (c.fact 0 (f := .glo "first_step") rfl)
  obtain ⟨fd1, F1⟩ := c.def_ 1 (d := d1) rfl
  have m1 := He.glo_ok X G (c.fact 1 (f := .glo "next_step") rfl)
  obtain ⟨fd2, F2⟩ := c.def_ 2 (d := d2) rfl
  have m2 := He.glo_ok X G (c.fact 2 (f := .glo "walk_steps") rfl)
  obtain ⟨fd3, F3⟩ := c.def_ 3 (d := d3) rfl
  have m3 := He.glo_ok X G (c.fact 3 (f := .glo "hands_along") rfl)
  obtain ⟨fd4, F4⟩ := c.def_ 4 (d := d4) rfl
  have m4 := He.glo_ok X G (c.fact 4 (f := .glo "is_wasted") rfl)
  obtain ⟨fd5, F5⟩ := c.def_ 5 (d := d5) rfl
  have m5 := He.glo_ok X G (c.fact 5 (f := .glo "wasted_doors") rfl)
  obtain ⟨fd6, F6⟩ := c.def_ 6 (d := d6) rfl
  have m6 := He.glo_ok X G (c.fact 6 (f := .glo "plain_walk") rfl)
  obtain ⟨fd7, F7⟩ := c.def_ 7 (d := d7) rfl
  have m7 := He.glo_ok X G (c.fact 7 (f := .glo "walk_ways") rfl)
  obtain ⟨fd8, F8⟩ := c.def_ 8 (d := d8) rfl
  have m8 := He.glo_ok X G (c.fact 8 (f := .glo "_law_bowl") rfl)
  obtain ⟨fd9, F9⟩ := c.def_ 9 (d := d9) rfl
  have m9 := He.glo_ok X G (c.fact 9 (f := .glo "_law_pea") rfl)
  obtain ⟨fd10, F10⟩ := c.def_ 10 (d := d10) rfl
  have m10 := He.glo_ok X G (c.fact 10 (f := .glo "_law_house") rfl)
  obtain ⟨fd11, F11⟩ := c.def_ 11 (d := d11) rfl
  have m11 := He.glo_ok X G (c.fact 11 (f := .glo "_law_double_house") rfl)
  obtain ⟨fd12, F12⟩ := c.def_ 12 (d := d12) rfl
  have m12 := He.glo_ok X G (c.fact 12 (f := .glo "_law_row_house") rfl)
  obtain ⟨fd13, F13⟩ := c.def_ 13 (d := d13) rfl
  have m13 := He.glo_ok X G (c.fact 13 (f := .glo "_law_begin") rfl)
  obtain ⟨fd14, F14⟩ := c.def_ 14 (d := d14) rfl
  have m14 := He.glo_ok X G (c.fact 14 (f := .glo "_law_can") rfl)
  obtain ⟨fd15, F15⟩ := c.def_ 15 (d := d15) rfl
  have m15 := He.glo_ok X G (c.fact 15 (f := .glo "_law_open") rfl)
  obtain ⟨fd16, F16⟩ := c.def_ 16 (d := d16) rfl
  have m16 := He.glo_ok X G (c.fact 16 (f := .glo "_law_walk") rfl)
  obtain ⟨fd17, F17⟩ := c.def_ 17 (d := d17) rfl
  have m17 := He.glo_ok X G (c.fact 17 (f := .glo "_law_facts") rfl)
  obtain ⟨fd18, F18⟩ := c.def_ 18 (d := d18) rfl
  have m18 := He.glo_ok X G (c.fact 18 (f := .glo "_law_same") rfl)
  obtain ⟨fd19, F19⟩ := c.def_ 19 (d := d19) rfl
  have m19 := He.glo_ok X G (c.fact 19 (f := .glo "_law_right") rfl)
  obtain ⟨fd20, F20⟩ := c.def_ 20 (d := d20) rfl
  have m20 := He.glo_ok X G (c.fact 20 (f := .glo "law") rfl)
  have free := free_of X G c
  intro k
  induction k with
  | zero =>
    intro i x hx
    match i, hx with
    | 0, hx =>
      cases hx
      exact ⟨_, fd0, ["house"], fn_zero (fun _ => rfl), m0, F0.kp, F0.bindsN (fun _ _ _ _ _ _ us hl => match us, hl with | [_], _ => rfl), fun j _ _ hj => by cases hj⟩
    | 1, hx =>
      cases hx
      exact ⟨_, fd1, ["house", "step", "door"], fn_zero (fun _ => rfl), m1, F1.kp, F1.bindsN (fun _ _ _ _ _ _ us hl => match us, hl with | [_, _, _], _ => rfl), fun j _ _ hj => by cases hj⟩
    | 2, hx =>
      cases hx
      exact ⟨_, fd2, ["house", "walk"], fn_zero (fun _ => rfl), m2, F2.kp, F2.bindsN (fun _ _ _ _ _ _ us hl => match us, hl with | [_, _], _ => rfl), fun j _ _ hj => by cases hj⟩
    | 3, hx =>
      cases hx
      exact ⟨_, fd3, ["house", "walk"], fn_zero (fun _ => rfl), m3, F3.kp, F3.bindsN (fun _ _ _ _ _ _ us hl => match us, hl with | [_, _], _ => rfl), fun j _ _ hj => by cases hj⟩
    | 4, hx =>
      cases hx
      exact ⟨_, fd4, ["house", "step", "door"], fn_zero (fun _ => rfl), m4, F4.kp, F4.bindsN (fun _ _ _ _ _ _ us hl => match us, hl with | [_, _, _], _ => rfl), fun j _ _ hj => by cases hj⟩
    | 5, hx =>
      cases hx
      exact ⟨_, fd5, ["house", "walk"], fn_zero (fun _ => rfl), m5, F5.kp, F5.bindsN (fun _ _ _ _ _ _ us hl => match us, hl with | [_, _], _ => rfl), fun j _ _ hj => by cases hj⟩
    | 6, hx =>
      cases hx
      exact ⟨_, fd6, ["house", "walk"], fn_zero (fun _ => rfl), m6, F6.kp, F6.bindsN (fun _ _ _ _ _ _ us hl => match us, hl with | [_, _], _ => rfl), fun j _ _ hj => by cases hj⟩
    | 7, hx =>
      cases hx
      exact ⟨_, fd7, ["house", "walk"], fn_zero (fun _ => rfl), m7, F7.kp, F7.bindsN (fun _ _ _ _ _ _ us hl => match us, hl with | [_, _], _ => rfl), fun j _ _ hj => by
        match j, hj with
        | 0, hj =>
          cases hj
          exact kwN F7 fun _ _ _ _ _ _ us hl => match us, hl with | [_, _], _ => rfl
        | j + 1, hj => cases hj⟩
    | 8, hx =>
      cases hx
      exact ⟨_, fd8, ["script"], fn_zero (fun _ => rfl), m8, F8.kp, F8.bindsN (fun _ _ _ _ _ _ us hl => match us, hl with | [_], _ => rfl), fun j _ _ hj => by cases hj⟩
    | 9, hx =>
      cases hx
      exact ⟨_, fd9, ["bowl", "many"], fn_zero (fun _ => rfl), m9, F9.kp, F9.bindsN (fun _ _ _ _ _ _ us hl => match us, hl with | [_, _], _ => rfl), fun j _ _ hj => by cases hj⟩
    | 10, hx =>
      cases hx
      exact ⟨_, fd10, ["bowl", "rooms", "doors"], fn_zero (fun _ => rfl), m10, F10.kp, F10.bindsN (fun _ _ _ _ _ _ us hl => match us, hl with | [_, _, _], _ => rfl), fun j _ _ hj => by cases hj⟩
    | 11, hx =>
      cases hx
      exact ⟨_, fd11, ["bowl"], fn_zero (fun _ => rfl), m11, F11.kp, F11.bindsN (fun _ _ _ _ _ _ us hl => match us, hl with | [_], _ => rfl), fun j _ _ hj => by cases hj⟩
    | 12, hx =>
      cases hx
      exact ⟨_, fd12, ["bowl"], fn_zero (fun _ => rfl), m12, F12.kp, F12.bindsN (fun _ _ _ _ _ _ us hl => match us, hl with | [_], _ => rfl), fun j _ _ hj => by cases hj⟩
    | 13, hx =>
      cases hx
      exact ⟨_, fd13, ["house"], fn_zero (fun _ => rfl), m13, F13.kp, F13.bindsN (fun _ _ _ _ _ _ us hl => match us, hl with | [_], _ => rfl), fun j _ _ hj => by cases hj⟩
    | 14, hx =>
      cases hx
      exact ⟨_, fd14, ["house", "state", "door"], fn_zero (fun _ => rfl), m14, F14.kp, F14.bindsN (fun _ _ _ _ _ _ us hl => match us, hl with | [_, _, _], _ => rfl), fun j _ _ hj => by cases hj⟩
    | 15, hx =>
      cases hx
      exact ⟨_, fd15, ["house", "state", "door"], fn_zero (fun _ => rfl), m15, F15.kp, F15.bindsN (fun _ _ _ _ _ _ us hl => match us, hl with | [_, _, _], _ => rfl), fun j _ _ hj => by cases hj⟩
    | 16, hx =>
      cases hx
      exact ⟨_, fd16, ["bowl", "house", "most"], fn_zero (fun _ => rfl), m16, F16.kp, F16.bindsN (fun _ _ _ _ _ _ us hl => match us, hl with | [_, _, _], _ => rfl), fun j _ _ hj => by cases hj⟩
    | 17, hx =>
      cases hx
      exact ⟨_, fd17, ["house", "walk"], fn_zero (fun _ => rfl), m17, F17.kp, F17.bindsN (fun _ _ _ _ _ _ us hl => match us, hl with | [_, _], _ => rfl), fun j _ _ hj => by cases hj⟩
    | 18, hx =>
      cases hx
      exact ⟨_, fd18, ["told", "due"], fn_zero (fun _ => rfl), m18, F18.kp, F18.bindsN (fun _ _ _ _ _ _ us hl => match us, hl with | [_, _], _ => rfl), fun j _ _ hj => by cases hj⟩
    | 19, hx =>
      cases hx
      exact ⟨_, fd19, ["house", "walk"], fn_zero (fun _ => rfl), m19, F19.kp, F19.bindsN (fun _ _ _ _ _ _ us hl => match us, hl with | [_, _], _ => rfl), fun j _ _ hj => by cases hj⟩
    | 20, hx =>
      cases hx
      exact ⟨_, fd20, ["script"], fn_zero (fun _ => rfl), m20, F20.kp, F20.bindsN (fun _ _ _ _ _ _ us hl => match us, hl with | [_], _ => rfl), fun j _ _ hj => by cases hj⟩
    | i + 21, hx => cases hx
  | succ k IH =>
    intro i x hx
    match i, hx with
    | 0, hx =>
      cases hx
      exact g0 IH free TT rfl F0 m0
    | 1, hx =>
      cases hx
      exact g1 IH free TT rfl F1 m1
    | 2, hx =>
      cases hx
      exact g2 IH free TT rfl F2 m2
    | 3, hx =>
      cases hx
      exact g3 IH free TT rfl F3 m3
    | 4, hx =>
      cases hx
      exact g4 IH free TT rfl F4 m4
    | 5, hx =>
      cases hx
      exact g5 IH free TT rfl F5 m5
    | 6, hx =>
      cases hx
      exact g6 IH free TT rfl F6 m6
    | 7, hx =>
      cases hx
      exact g7 IH free TT rfl F7 m7
    | 8, hx =>
      cases hx
      exact g8 IH free TT rfl F8 m8
    | 9, hx =>
      cases hx
      exact g9 IH free TT rfl F9 m9
    | 10, hx =>
      cases hx
      exact g10 IH free TT rfl F10 m10
    | 11, hx =>
      cases hx
      exact g11 IH free TT rfl F11 m11
    | 12, hx =>
      cases hx
      exact g12 IH free TT rfl F12 m12
    | 13, hx =>
      cases hx
      exact g13 IH free TT rfl F13 m13
    | 14, hx =>
      cases hx
      exact g14 IH free TT rfl F14 m14
    | 15, hx =>
      cases hx
      exact g15 IH free TT rfl F15 m15
    | 16, hx =>
      cases hx
      exact g16 IH free TT rfl F16 m16
    | 17, hx =>
      cases hx
      exact g17 IH free TT rfl F17 m17
    | 18, hx =>
      cases hx
      exact g18 IH free TT rfl F18 m18
    | 19, hx =>
      cases hx
      exact g19 IH free TT rfl F19 m19
    | 20, hx =>
      cases hx
      exact g20 IH free TT rfl F20 m20
    | i + 21, hx => cases hx
theorem facts (X : K.In h) (G : h.Ns mainGlobals mg) (c : He.SaysD fa fn K) (plain : ∀ ns : List Int, ns.length ≤ 63 → ∃ fin, callN fs 40 20 [.scr ns] = .ok (.bl true) fin) :
    ∃ fd : FuncData, mg ("law" : Str) = some (.ref (He.fAd K ("law", none))) ∧ (∀ (s : Shared) (v : Value), BindsTo s fd ⟨[v], []⟩ [("script", v)]) ∧ ∀ base : Heap, (∀ q ∈ tf, (He.cT K q).2 ∈ TabList.tabs ∧ GxR.TabB base mg (He.cT K q).1 (He.cT K q).2) → FnOk P w K mg base (L2.CX P w) 40 (He.fAd K ("law", none)) fd ["script"] (spLaw K (fun _ _ _ _ => False) (Fd.run f20 (callN fs 39))) := by
  obtain ⟨fd, F⟩ := c.def_ 20 (d := d20) rfl
  have b := FunD.bindsA (ps := ["script"]) F fun _ _ _ _ _ _ us hl => match us, hl with | [_], _ => rfl
  exact ⟨fd, He.glo_ok X G (c.fact 20 (f := .glo "law") rfl), fun s v => b s [v] rfl, fun base TT => law_ok rfl F sc20 f20 rfl rfl (fun cdv A outer s H E hc hr => t20 (fun i x hx => all X G c TT 39 i x hx) (free_of X G c) TT hc hr)⟩
end
end Gk06
namespace Gk06P
open PySem PySem.Spec L2 Z Gk06
variable [TabList]
def d0 : Ss := (.cons (.ret (.fze (.tup (.cons (.lst (.cons (.cst (.int 0)) .nil)) (.cons (.dic .nil) (.cons (.pidx (.pidx (.var 0) (.cst (.int 0))) (.cst (.int 0))) .nil)))))) .nil)
theorem bd0 : f0.body = d0 := rfl
def i1_0 : Es := (.cons (.ap .nin (.cons (.var 8) (.cons (.var 3) .nil))) .nil)
def e1_0 : E := (.var 8)
theorem ui1_0 : Es.pu i1_0 = true := rfl
theorem ue1_0 : E.pu e1_0 = true := rfl
theorem pe1_0 : E.pth e1_0 = true := rfl
def i1_1 : Es := .nil
def e1_1 : E := (.pidx (.pidx (.var 0) (.cst (.int 0))) (.var 8))
theorem ui1_1 : Es.pu i1_1 = true := rfl
theorem ue1_1 : E.pu e1_1 = true := rfl
theorem pe1_1 : E.pth e1_1 = true := rfl
def d1 : Ss := (.cons (.asg (.tup [(.one 3), (.one 4), (.one 5)]) (.var 1)) (.cons (.asg (.one 6) (.fze (.lc [8] (.one 8) (.seq (.pidx (.pidx (.var 0) (.cst (.int 1))) (.var 2))) i1_0 e1_0))) (.cons (.asg (.one 7) (.ap .sum (.cons (.lc [8] (.one 8) (.seq (.var 6)) i1_1 e1_1) .nil))) (.cons (.ret (.fze (.tup (.cons (.ap .add (.cons (.var 3) (.cons (.var 6) .nil))) (.cons (.dup (.var 4) (.var 2) (.cst (.bl true))) (.cons (.ap .add (.cons (.ap .sub (.cons (.var 5) (.cons (.cst (.int 1)) .nil))) (.cons (.var 7) .nil))) .nil)))))) .nil))))
theorem bd1 : f1.body = d1 := rfl
def l2_0 : Ss := (.cons (.exp (.mm .append (.var 2) (.cons (.call 1 (.cons (.var 0) (.cons (.pidx (.var 2) (.ap .neg (.cons (.cst (.int 1)) .nil))) (.cons (.var 3) .nil)))) .nil))) .nil)
def d2 : Ss := (.cons (.asg (.one 2) (.lst (.cons (.call 0 (.cons (.var 0) .nil)) .nil))) (.cons (.for (.one 3) (.seq (.var 1)) l2_0) (.cons (.ret (.fze (.mov 2))) .nil)))
theorem bd2 : f2.body = d2 := rfl
def i3_0 : Es := .nil
def e3_0 : E := (.pidx (.var 2) (.cst (.int 2)))
theorem ui3_0 : Es.pu i3_0 = true := rfl
theorem ue3_0 : E.pu e3_0 = true := rfl
theorem pe3_0 : E.pth e3_0 = true := rfl
def d3 : Ss := (.cons (.ret (.ap .tuple (.cons (.lc [2] (.one 2) (.seq (.call 2 (.cons (.var 0) (.cons (.var 1) .nil)))) i3_0 e3_0) .nil))) .nil)
theorem bd3 : f3.body = d3 := rfl
def d4 : Ss := (.cons (.ret (.gen true 3 (.pidx (.pidx (.var 0) (.cst (.int 1))) (.var 2)) (.ap .inn (.cons (.var 3) (.cons (.pidx (.var 1) (.cst (.int 0))) .nil))))) .nil)
theorem bd4 : f4.body = d4 := rfl
def i5_0 : Es := (.cons (.call 4 (.cons (.var 0) (.cons (.pidx (.var 2) (.var 3)) (.cons (.var 4) .nil)))) .nil)
def e5_0 : E := (.var 4)
theorem ui5_0 : Es.pu i5_0 = false := rfl
theorem ue5_0 : E.pu e5_0 = true := rfl
theorem pe5_0 : E.pth e5_0 = true := rfl
def d5 : Ss := (.cons (.asg (.one 2) (.call 2 (.cons (.var 0) (.cons (.var 1) .nil)))) (.cons (.ret (.ap .tuple (.cons (.lc [3, 4] (.tup [(.one 3), (.one 4)]) (.enum (.var 1)) i5_0 e5_0) .nil))) .nil))
theorem bd5 : f5.body = d5 := rfl
def i6_0 : Es := (.cons (.ap .nin (.cons (.var 3) (.cons (.var 2) .nil))) .nil)
def e6_0 : E := (.var 3)
theorem ui6_0 : Es.pu i6_0 = true := rfl
theorem ue6_0 : E.pu e6_0 = true := rfl
theorem pe6_0 : E.pth e6_0 = true := rfl
def d6 : Ss := (.cons (.asg (.one 2) (.call 5 (.cons (.var 0) (.cons (.var 1) .nil)))) (.cons (.ret (.ap .tuple (.cons (.lc [3] (.one 3) (.seq (.var 1)) i6_0 e6_0) .nil))) .nil))
theorem bd6 : f6.body = d6 := rfl
def l7_0 : Ss := (.cons (.sto (.var 2) (.var 6) (.var 5)) .nil)
def l7_1 : Ss := (.cons (.for (.one 6) (.seq (.ap (.slc true false) (.cons (.pidx (.pidx (.var 3) (.ap .add (.cons (.var 4) (.cons (.cst (.int 1)) .nil)))) (.cst (.int 0))) (.cons (.ap .len (.cons (.pidx (.pidx (.var 3) (.var 4)) (.cst (.int 0))) .nil)) .nil)))) l7_0) .nil)
def d7 : Ss := (.cons (.asg (.one 2) (.ap .mul (.cons (.lst (.cons (.cst .non) .nil)) (.cons (.ap .len (.cons (.pidx (.var 0) (.cst (.int 0))) .nil)) .nil)))) (.cons (.asg (.one 3) (.call 2 (.cons (.var 0) (.cons (.var 1) .nil)))) (.cons (.for (.tup [(.one 4), (.one 5)]) (.enum (.var 1)) l7_1) (.cons (.ret (.ap .tuple (.cons (.var 2) .nil))) .nil))))
theorem bd7 : f7.body = d7 := rfl
def i8_0 : Es := .nil
def e8_0 : E := (.ap .abs (.cons (.ap .int (.cons (.var 8) .nil)) .nil))
theorem ui8_0 : Es.pu i8_0 = true := rfl
theorem ue8_0 : E.pu e8_0 = true := rfl
theorem pe8_0 : E.pth e8_0 = false := rfl
def i8_1 : Es := .nil
def e8_1 : E := (.ap .ge (.cons (.var 9) (.cons (.ap .pow (.cons (.cst (.int 10)) (.cons (.cst (.int 18)) .nil))) .nil)))
theorem ui8_1 : Es.pu i8_1 = true := rfl
theorem ue8_1 : E.pu e8_1 = true := rfl
theorem pe8_1 : E.pth e8_1 = false := rfl
def i8_2 : Es := .nil
def e8_2 : E := (.ap .mod (.cons (.ap .int (.cons (.var 9) .nil)) (.cons (.cst (.int 1000253)) .nil)))
theorem ui8_2 : Es.pu i8_2 = true := rfl
theorem ue8_2 : E.pu e8_2 = true := rfl
theorem pe8_2 : E.pth e8_2 = false := rfl
def l8_0 : Ss := (.cons (.asg (.one 7) (.ap .mod (.cons (.ap .int (.cons (.ap .mul (.cons (.var 6) (.cons (.cst (.int 1)) .nil))) .nil)) (.cons (.ap .len (.cons (.var 1) .nil)) .nil)))) (.cons (.asg (.one 5) (.ap .mod (.cons (.ap .int (.cons (.ap .add (.cons (.ap .add (.cons (.ap .add (.cons (.ap .mul (.cons (.var 5) (.cons (.cst (.int 48271)) .nil))) (.cons (.ap .mul (.cons (.pidx (.var 3) (.var 7)) (.cons (.cst (.int 37)) .nil))) .nil))) (.cons (.ap .mul (.cons (.ap .mul (.cons (.var 6) (.cons (.var 6) .nil))) (.cons (.cst (.int 41)) .nil))) .nil))) (.cons (.cst (.int 9)) .nil))) .nil)) (.cons (.cst (.int 2147483647)) .nil)))) (.cons (.ite (.and (.pidx (.var 2) (.var 7)) (.ap .gt (.cons (.pidx (.var 1) (.var 7)) (.cons (.cst (.int 0)) .nil)))) (.cons (.exp (.mm .append (.var 4) (.cons (.ap .mod (.cons (.ap .int (.cons (.pidx (.var 1) (.var 7)) .nil)) (.cons (.cst (.int 32760)) .nil))) .nil))) (.cons (.sto (.var 1) (.var 7) (.ap .fdiv (.cons (.pidx (.var 1) (.var 7)) (.cons (.cst (.int 32760)) .nil)))) .nil)) (.cons (.exp (.mm .append (.var 4) (.cons (.ap .mod (.cons (.ap .int (.cons (.ap .fdiv (.cons (.var 5) (.cons (.cst (.int 29)) .nil))) .nil)) (.cons (.cst (.int 32760)) .nil))) .nil))) .nil)) .nil)))
def d8 : Ss := (.cons (.asg (.one 1) (.lc [8] (.one 8) (.seq (.var 0)) i8_0 e8_0)) (.cons (.ite (.ap .eq (.cons (.ap .len (.cons (.var 1) .nil)) (.cons (.cst (.int 0)) .nil))) (.cons (.asg (.one 1) (.lst (.cons (.cst (.int 515)) .nil))) .nil) .nil) (.cons (.asg (.one 2) (.fze (.lc [9] (.one 9) (.seq (.var 1)) i8_1 e8_1))) (.cons (.asg (.one 3) (.fze (.lc [9] (.one 9) (.seq (.var 1)) i8_2 e8_2))) (.cons (.asg (.one 4) (.lst .nil)) (.cons (.asg (.one 5) (.cst (.int 2221))) (.cons (.for (.one 6) (.rng1 (.cst (.int 700))) l8_0) (.cons (.ret (.lst (.cons (.mov 4) (.cons (.cst (.int 0)) .nil)))) .nil))))))))
theorem bd8 : f8.body = d8 := rfl
def d9 : Ss := (.cons (.asg (.one 2) (.ap .mod (.cons (.ap .int (.cons (.pidx (.var 0) (.cst (.int 1))) .nil)) (.cons (.ap .len (.cons (.pidx (.var 0) (.cst (.int 0))) .nil)) .nil)))) (.cons (.sto (.var 0) (.cst (.int 1)) (.ap .add (.cons (.pidx (.var 0) (.cst (.int 1))) (.cons (.cst (.int 1)) .nil)))) (.cons (.ret (.ap .mod (.cons (.ap .int (.cons (.pidx (.pidx (.var 0) (.cst (.int 0))) (.var 2)) .nil)) (.cons (.var 1) .nil)))) .nil)))
theorem bd9 : f9.body = d9 := rfl
def l10_0 : Ss := (.cons (.exp (.mm .append (.var 4) (.cons (.ap .idx (.cons (.tup (.cons (.call 9 (.cons (.var 0) (.cons (.cst (.int 3)) .nil))) (.cons (.cst (.int 1)) (.cons (.call 9 (.cons (.var 0) (.cons (.cst (.int 2)) .nil))) (.cons (.call 9 (.cons (.var 0) (.cons (.cst (.int 5)) .nil))) (.cons (.cst (.int 0)) (.cons (.call 9 (.cons (.var 0) (.cons (.cst (.int 100)) .nil))) .nil))))))) (.cons (.var 3) .nil))) .nil))) .nil)
def l10_1 : Ss := (.cons (.asg (.one 8) (.call 9 (.cons (.var 0) (.cons (.var 1) .nil)))) (.cons (.asg (.one 9) (.call 9 (.cons (.var 0) (.cons (.var 1) .nil)))) (.cons (.ite (.and (.ap .lt (.cons (.var 7) (.cons (.ap .sub (.cons (.var 1) (.cons (.cst (.int 1)) .nil))) .nil))) (.ap .gt (.cons (.call 9 (.cons (.var 0) (.cons (.cst (.int 4)) .nil))) (.cons (.cst (.int 0)) .nil)))) (.cons (.asg (.one 8) (.ap .add (.cons (.var 7) (.cons (.cst (.int 1)) .nil)))) (.cons (.asg (.one 9) (.call 9 (.cons (.var 0) (.cons (.ap .add (.cons (.var 7) (.cons (.cst (.int 1)) .nil))) .nil)))) .nil)) .nil) (.cons (.ite (.ap .ne (.cons (.var 8) (.cons (.var 9) .nil))) (.cons (.exp (.mm .append (.var 6) (.cons (.tup (.cons (.ap .min2 (.cons (.var 8) (.cons (.var 9) .nil))) (.cons (.ap .max2 (.cons (.var 8) (.cons (.var 9) .nil))) .nil))) .nil))) .nil) .nil) .nil))))
def i10_0 : Es := (.cons (.ap .eq (.cons (.call 9 (.cons (.var 0) (.cons (.cst (.int 7)) .nil))) (.cons (.cst (.int 0)) .nil))) .nil)
def e10_0 : E := (.var 5)
theorem ui10_0 : Es.pu i10_0 = false := rfl
theorem ue10_0 : E.pu e10_0 = true := rfl
theorem pe10_0 : E.pth e10_0 = true := rfl
def l10_2 : Ss := (.cons (.sto (.var 4) (.var 11) (.cst (.int 0))) .nil)
def d10 : Ss := (.cons (.asg (.one 3) (.call 9 (.cons (.var 0) (.cons (.cst (.int 6)) .nil)))) (.cons (.asg (.one 4) (.lst .nil)) (.cons (.for (.one 5) (.rng1 (.var 1)) l10_0) (.cons (.ite (.ap .gt (.cons (.call 9 (.cons (.var 0) (.cons (.cst (.int 4)) .nil))) (.cons (.cst (.int 0)) .nil))) (.cons (.sto (.var 4) (.cst (.int 0)) (.ap .add (.cons (.cst (.int 1)) (.cons (.call 9 (.cons (.var 0) (.cons (.cst (.int 9)) .nil))) .nil)))) .nil) .nil) (.cons (.asg (.one 6) (.lst .nil)) (.cons (.for (.one 7) (.rng1 (.var 2)) l10_1) (.cons (.asg (.one 10) (.fze (.lc [5] (.one 5) (.rng2 (.cst (.int 1)) (.var 1)) i10_0 e10_0))) (.cons (.ite (.ap .eq (.cons (.ap .len (.cons (.var 10) .nil)) (.cons (.cst (.int 0)) .nil))) (.cons (.asg (.one 10) (.fze (.lst (.cons (.ap .add (.cons (.cst (.int 1)) (.cons (.call 9 (.cons (.var 0) (.cons (.ap .sub (.cons (.var 1) (.cons (.cst (.int 1)) .nil))) .nil))) .nil))) .nil)))) .nil) .nil) (.cons (.for (.one 11) (.seq (.var 10)) l10_2) (.cons (.ret (.tup (.cons (.ap .tuple (.cons (.var 4) .nil)) (.cons (.ap .tuple (.cons (.ap .sorted (.cons (.var 6) .nil)) .nil)) (.cons (.ap .tuple (.cons (.var 10) .nil)) .nil))))) .nil))))))))))
theorem bd10 : f10.body = d10 := rfl
def d11 : Ss := (.cons (.asg (.one 1) (.ap .add (.cons (.ap .add (.cons (.ap .add (.cons (.lst (.cons (.tup (.cons (.cst (.int 0)) (.cons (.cst (.int 1)) .nil))) (.cons (.tup (.cons (.cst (.int 0)) (.cons (.cst (.int 1)) .nil))) .nil))) (.cons (.ap .mul (.cons (.lst (.cons (.tup (.cons (.cst (.int 0)) (.cons (.cst (.int 1)) .nil))) .nil)) (.cons (.call 9 (.cons (.var 0) (.cons (.cst (.int 2)) .nil))) .nil))) .nil))) (.cons (.ap .mul (.cons (.lst (.cons (.tup (.cons (.cst (.int 0)) (.cons (.cst (.int 2)) .nil))) .nil)) (.cons (.call 9 (.cons (.var 0) (.cons (.cst (.int 3)) .nil))) .nil))) .nil))) (.cons (.ap .mul (.cons (.lst (.cons (.tup (.cons (.cst (.int 1)) (.cons (.cst (.int 2)) .nil))) .nil)) (.cons (.call 9 (.cons (.var 0) (.cons (.cst (.int 3)) .nil))) .nil))) .nil)))) (.cons (.exp (.mm .append (.var 1) (.cons (.tup (.cons (.cst (.int 2)) (.cons (.cst (.int 3)) .nil))) .nil))) (.cons (.ret (.tup (.cons (.tup (.cons (.ap .add (.cons (.cst (.int 3)) (.cons (.call 9 (.cons (.var 0) (.cons (.cst (.int 4)) .nil))) .nil))) (.cons (.call 9 (.cons (.var 0) (.cons (.cst (.int 3)) .nil))) (.cons (.call 9 (.cons (.var 0) (.cons (.cst (.int 3)) .nil))) (.cons (.cst (.int 0)) .nil))))) (.cons (.ap .tuple (.cons (.var 1) .nil)) (.cons (.tup (.cons (.cst (.int 3)) .nil)) .nil))))) .nil)))
theorem bd11 : f11.body = d11 := rfl
def i12_0 : Es := .nil
def e12_0 : E := (.call 9 (.cons (.var 0) (.cons (.cst (.int 2)) .nil)))
theorem ui12_0 : Es.pu i12_0 = true := rfl
theorem ue12_0 : E.pu e12_0 = false := rfl
theorem pe12_0 : E.pth e12_0 = false := rfl
def i12_1 : Es := .nil
def e12_1 : E := (.tup (.cons (.var 3) (.cons (.ap .add (.cons (.var 3) (.cons (.cst (.int 1)) .nil))) .nil)))
theorem ui12_1 : Es.pu i12_1 = true := rfl
theorem ue12_1 : E.pu e12_1 = true := rfl
theorem pe12_1 : E.pth e12_1 = false := rfl
def d12 : Ss := (.cons (.asg (.one 1) (.ap .add (.cons (.cst (.int 3)) (.cons (.call 9 (.cons (.var 0) (.cons (.cst (.int 5)) .nil))) .nil)))) (.cons (.asg (.one 2) (.lc [3] (.one 3) (.rng1 (.var 1)) i12_0 e12_0)) (.cons (.sto (.var 2) (.ap .sub (.cons (.var 1) (.cons (.cst (.int 1)) .nil))) (.cst (.int 0))) (.cons (.sto (.var 2) (.cst (.int 0)) (.ap .max2 (.cons (.cst (.int 0)) (.cons (.ap .add (.cons (.ap .sub (.cons (.ap .sub (.cons (.var 1) (.cons (.cst (.int 2)) .nil))) (.cons (.ap .sum (.cons (.ap (.slc true false) (.cons (.var 2) (.cons (.cst (.int 1)) .nil))) .nil)) .nil))) (.cons (.call 9 (.cons (.var 0) (.cons (.cst (.int 3)) .nil))) .nil))) .nil)))) (.cons (.ret (.tup (.cons (.ap .tuple (.cons (.var 2) .nil)) (.cons (.ap .tuple (.cons (.lc [3] (.one 3) (.rng1 (.ap .sub (.cons (.var 1) (.cons (.cst (.int 1)) .nil)))) i12_1 e12_1) .nil)) (.cons (.tup (.cons (.ap .sub (.cons (.var 1) (.cons (.cst (.int 1)) .nil))) .nil)) .nil))))) .nil)))))
theorem bd12 : f12.body = d12 := rfl
def d13 : Ss := (.cons (.ret (.lst (.cons (.lst (.cons (.cst (.int 0)) .nil)) (.cons (.lst .nil) (.cons (.pidx (.pidx (.var 0) (.cst (.int 0))) (.cst (.int 0))) .nil))))) .nil)
theorem bd13 : f13.body = d13 := rfl
def l14_0 : Ss := (.cons (.ite (.ap .inn (.cons (.var 5) (.cons (.pidx (.var 1) (.cst (.int 0))) .nil))) (.cons (.ret (.cst (.bl false))) .nil) .nil) .nil)
def d14 : Ss := (.cons (.asg (.tup [(.one 3), (.one 4)]) (.pidx (.pidx (.var 0) (.cst (.int 1))) (.var 2))) (.cons (.ite (.or (.ap .inn (.cons (.var 2) (.cons (.pidx (.var 1) (.cst (.int 1))) .nil))) (.ap .lt (.cons (.pidx (.var 1) (.cst (.int 2))) (.cons (.cst (.int 1)) .nil)))) (.cons (.ret (.cst (.bl false))) .nil) .nil) (.cons (.for (.one 5) (.seq (.pidx (.var 0) (.cst (.int 2)))) l14_0) (.cons (.ret (.or (.ap .inn (.cons (.var 3) (.cons (.pidx (.var 1) (.cst (.int 0))) .nil))) (.ap .inn (.cons (.var 4) (.cons (.pidx (.var 1) (.cst (.int 0))) .nil))))) .nil))))
theorem bd14 : f14.body = d14 := rfl
def l15_0 : Ss := (.cons (.ite (.ap .nin (.cons (.var 3) (.cons (.pidx (.var 1) (.cst (.int 0))) .nil))) (.cons (.exp (.mm .append (.pidx (.var 1) (.cst (.int 0))) (.cons (.var 3) .nil))) (.cons (.sto (.var 1) (.cst (.int 2)) (.ap .add (.cons (.pidx (.var 1) (.cst (.int 2))) (.cons (.pidx (.pidx (.var 0) (.cst (.int 0))) (.var 3)) .nil)))) .nil)) .nil) .nil)
def d15 : Ss := (.cons (.exp (.mm .append (.pidx (.var 1) (.cst (.int 1))) (.cons (.var 2) .nil))) (.cons (.sto (.var 1) (.cst (.int 2)) (.ap .sub (.cons (.pidx (.var 1) (.cst (.int 2))) (.cons (.cst (.int 1)) .nil)))) (.cons (.for (.one 3) (.seq (.pidx (.pidx (.var 0) (.cst (.int 1))) (.var 2))) l15_0) .nil)))
theorem bd15 : f15.body = d15 := rfl
def i16_0 : Es := (.cons (.call 14 (.cons (.var 1) (.cons (.var 3) (.cons (.var 7) .nil)))) .nil)
def e16_0 : E := (.var 7)
theorem ui16_0 : Es.pu i16_0 = false := rfl
theorem ue16_0 : E.pu e16_0 = true := rfl
theorem pe16_0 : E.pth e16_0 = true := rfl
def i16_1 : Es := (.cons (.and (.ap .nin (.cons (.pidx (.pidx (.pidx (.var 1) (.cst (.int 1))) (.var 7)) (.cst (.int 0))) (.cons (.pidx (.var 1) (.cst (.int 2))) .nil))) (.ap .nin (.cons (.pidx (.pidx (.pidx (.var 1) (.cst (.int 1))) (.var 7)) (.cst (.int 1))) (.cons (.pidx (.var 1) (.cst (.int 2))) .nil)))) .nil)
def e16_1 : E := (.var 7)
theorem ui16_1 : Es.pu i16_1 = true := rfl
theorem ue16_1 : E.pu e16_1 = true := rfl
theorem pe16_1 : E.pth e16_1 = true := rfl
def l16_0 : Ss := (.cons (.asg (.one 5) (.fze (.lc [7] (.one 7) (.rng1 (.ap .len (.cons (.pidx (.var 1) (.cst (.int 1))) .nil))) i16_0 e16_0))) (.cons (.asg (.one 6) (.fze (.lc [7] (.one 7) (.seq (.var 5)) i16_1 e16_1))) (.cons (.ite (.and (.ap .gt (.cons (.ap .len (.cons (.var 6) .nil)) (.cons (.cst (.int 0)) .nil))) (.ap .gt (.cons (.call 9 (.cons (.var 0) (.cons (.cst (.int 5)) .nil))) (.cons (.cst (.int 0)) .nil)))) (.cons (.asg (.one 5) (.fze (.mov 6))) .nil) .nil) (.cons (.ite (.ap .eq (.cons (.ap .len (.cons (.var 5) .nil)) (.cons (.cst (.int 0)) .nil))) (.cons .brk .nil) .nil) (.cons (.exp (.call 15 (.cons (.var 1) (.cons (.var 3) (.cons (.pidx (.var 5) (.call 9 (.cons (.var 0) (.cons (.ap .len (.cons (.var 5) .nil)) .nil)))) .nil))))) .nil)))))
def d16 : Ss := (.cons (.asg (.one 3) (.call 13 (.cons (.var 1) .nil))) (.cons (.for (.one 4) (.rng1 (.var 2)) l16_0) (.cons (.ret (.ap .tuple (.cons (.pidx (.var 3) (.cst (.int 1))) .nil))) .nil)))
theorem bd16 : f16.body = d16 := rfl
def l17_0 : Ss := (.cons (.asg (.tup [(.one 7), (.one 8)]) (.pidx (.pidx (.var 0) (.cst (.int 1))) (.var 6))) (.cons (.ite (.and (.ap .inn (.cons (.var 7) (.cons (.pidx (.var 2) (.cst (.int 0))) .nil))) (.ap .inn (.cons (.var 8) (.cons (.pidx (.var 2) (.cst (.int 0))) .nil)))) (.cons (.exp (.mm .append (.var 4) (.cons (.var 6) .nil))) .nil) (.cons (.sto (.var 5) (.ife (.ap .inn (.cons (.var 7) (.cons (.pidx (.var 2) (.cst (.int 0))) .nil))) (.var 8) (.var 7)) (.var 6)) .nil)) (.cons (.exp (.call 15 (.cons (.var 0) (.cons (.var 2) (.cons (.var 6) .nil))))) (.cons (.exp (.mm .append (.var 3) (.cons (.pidx (.var 2) (.cst (.int 2))) .nil))) .nil))))
def i17_0 : Es := (.cons (.ap .nin (.cons (.var 6) (.cons (.var 4) .nil))) .nil)
def e17_0 : E := (.var 6)
theorem ui17_0 : Es.pu i17_0 = true := rfl
theorem ue17_0 : E.pu e17_0 = true := rfl
theorem pe17_0 : E.pth e17_0 = true := rfl
def d17 : Ss := (.cons (.asg (.one 2) (.call 13 (.cons (.var 0) .nil))) (.cons (.asg (.one 3) (.lst (.cons (.pidx (.var 2) (.cst (.int 2))) .nil))) (.cons (.asg (.one 4) (.lst .nil)) (.cons (.asg (.one 5) (.ap .mul (.cons (.lst (.cons (.cst .non) .nil)) (.cons (.ap .len (.cons (.pidx (.var 0) (.cst (.int 0))) .nil)) .nil)))) (.cons (.for (.one 6) (.seq (.var 1)) l17_0) (.cons (.asg (.one 9) (.ap .tuple (.cons (.lc [6] (.one 6) (.seq (.var 1)) i17_0 e17_0) .nil))) (.cons (.ret (.tup (.cons (.ap .tuple (.cons (.var 3) .nil)) (.cons (.ap .tuple (.cons (.var 4) .nil)) (.cons (.var 9) (.cons (.ap .tuple (.cons (.var 5) .nil)) .nil)))))) .nil)))))))
theorem bd17 : f17.body = d17 := rfl
def l18_0 : Ss := (.cons (.ite (.not (.call 18 (.cons (.pidx (.var 0) (.var 2)) (.cons (.pidx (.var 1) (.var 2)) .nil)))) (.cons (.ret (.cst (.bl false))) .nil) .nil) .nil)
def d18 : Ss := (.cons (.ite (.ap .isN (.cons (.var 1) .nil)) (.cons (.ret (.ap .isN (.cons (.var 0) .nil))) .nil) .nil) (.cons (.ite (.ap (.isi .bool) (.cons (.var 1) .nil)) (.cons (.ret (.and (.ap (.isi .bool) (.cons (.var 0) .nil)) (.ap .eq (.cons (.var 0) (.cons (.var 1) .nil))))) .nil) .nil) (.cons (.ite (.ap (.isi .int) (.cons (.var 1) .nil)) (.cons (.ret (.and (.ap (.isi .int) (.cons (.var 0) .nil)) (.and (.not (.ap (.isi .bool) (.cons (.var 0) .nil))) (.ap .eq (.cons (.var 0) (.cons (.var 1) .nil)))))) .nil) .nil) (.cons (.ite (.ap (.isi .str) (.cons (.var 1) .nil)) (.cons (.ret (.and (.ap (.isi .str) (.cons (.var 0) .nil)) (.ap .eq (.cons (.var 0) (.cons (.var 1) .nil))))) .nil) .nil) (.cons (.ite (.or (.not (.ap (.isi .tup) (.cons (.var 0) .nil))) (.ap .ne (.cons (.ap .len (.cons (.var 0) .nil)) (.cons (.ap .len (.cons (.var 1) .nil)) .nil)))) (.cons (.ret (.cst (.bl false))) .nil) .nil) (.cons (.for (.one 2) (.rng1 (.ap .len (.cons (.var 1) .nil))) l18_0) (.cons (.ret (.cst (.bl true))) .nil)))))))
theorem bd18 : f18.body = d18 := rfl
def d19 : Ss := (.cons (.asg (.tup [(.one 2), (.one 3), (.one 4), (.one 5)]) (.call 17 (.cons (.var 0) (.cons (.var 1) .nil)))) (.cons (.ite (.or (.not (.call 18 (.cons (.call 3 (.cons (.var 0) (.cons (.var 1) .nil))) (.cons (.var 2) .nil)))) (.not (.call 18 (.cons (.call 5 (.cons (.var 0) (.cons (.var 1) .nil))) (.cons (.var 3) .nil))))) (.cons (.ret (.cst (.bl false))) .nil) .nil) (.cons (.ite (.or (.not (.call 18 (.cons (.call 6 (.cons (.var 0) (.cons (.var 1) .nil))) (.cons (.var 4) .nil)))) (.not (.call 18 (.cons (.kcall 7 [0, 1] (.cons (.var 0) (.cons (.var 1) .nil))) (.cons (.var 5) .nil))))) (.cons (.ret (.cst (.bl false))) .nil) .nil) (.cons (.asg (.one 6) (.call 17 (.cons (.var 0) (.cons (.var 4) .nil)))) (.cons (.ite (.or (.ap .ne (.cons (.pidx (.pidx (.var 6) (.cst (.int 0))) (.ap .len (.cons (.var 4) .nil))) (.cons (.ap .add (.cons (.pidx (.var 2) (.ap .len (.cons (.var 1) .nil))) (.cons (.ap .len (.cons (.var 3) .nil)) .nil))) .nil))) (.ap .ne (.cons (.pidx (.var 6) (.cst (.int 3))) (.cons (.var 5) .nil)))) (.cons (.ret (.cst (.bl false))) .nil) .nil) (.cons (.ret (.and (.call 18 (.cons (.call 3 (.cons (.var 0) (.cons (.var 4) .nil))) (.cons (.pidx (.var 6) (.cst (.int 0))) .nil))) (.call 18 (.cons (.call 5 (.cons (.var 0) (.cons (.var 4) .nil))) (.cons (.tup .nil) .nil))))) .nil))))))
theorem bd19 : f19.body = d19 := rfl
def d20 : Ss := (.cons (.asg (.one 1) (.call 8 (.cons (.var 0) .nil))) (.cons (.asg (.one 2) (.ap .eq (.cons (.call 9 (.cons (.var 1) (.cons (.cst (.int 13)) .nil))) (.cons (.cst (.int 7)) .nil)))) (.cons (.ite (.var 2) (.cons (.asg (.one 3) (.call 10 (.cons (.var 1) (.cons (.cst (.int 60)) (.cons (.cst (.int 150)) .nil))))) (.cons (.asg (.one 3) (.tup (.cons (.ap .add (.cons (.tup (.cons (.cst (.int 99)) .nil)) (.cons (.ap (.slc true false) (.cons (.pidx (.var 3) (.cst (.int 0))) (.cons (.cst (.int 1)) .nil))) .nil))) (.cons (.pidx (.var 3) (.cst (.int 1))) (.cons (.ap (.slc true false) (.cons (.pidx (.var 3) (.cst (.int 2))) (.cons (.ap .sub (.cons (.ap .len (.cons (.pidx (.var 3) (.cst (.int 2))) .nil)) (.cons (.cst (.int 1)) .nil))) .nil))) .nil))))) .nil)) (.cons (.asg (.one 3) (.call 10 (.cons (.var 1) (.cons (.ap .add (.cons (.cst (.int 2)) (.cons (.call 9 (.cons (.var 1) (.cons (.cst (.int 6)) .nil))) .nil))) (.cons (.call 9 (.cons (.var 1) (.cons (.cst (.int 10)) .nil))) .nil))))) .nil)) (.cons (.asg (.one 4) (.call 11 (.cons (.var 1) .nil))) (.cons (.asg (.one 5) (.call 12 (.cons (.var 1) .nil))) (.cons (.ite (.not (.call 19 (.cons (.var 3) (.cons (.call 16 (.cons (.var 1) (.cons (.var 3) (.cons (.ife (.var 2) (.cst (.int 150)) (.call 9 (.cons (.var 1) (.cons (.cst (.int 11)) .nil)))) .nil)))) .nil)))) (.cons (.ret (.cst (.bl false))) .nil) .nil) (.cons (.ite (.or (.not (.call 19 (.cons (.var 3) (.cons (.tup .nil) .nil)))) (.not (.call 19 (.cons (.var 5) (.cons (.call 16 (.cons (.var 1) (.cons (.var 5) (.cons (.cst (.int 9)) .nil)))) .nil))))) (.cons (.ret (.cst (.bl false))) .nil) .nil) (.cons (.ite (.not (.call 19 (.cons (.var 4) (.cons (.call 16 (.cons (.var 1) (.cons (.var 4) (.cons (.ap .add (.cons (.cst (.int 1)) (.cons (.call 9 (.cons (.var 1) (.cons (.cst (.int 10)) .nil))) .nil))) .nil)))) .nil)))) (.cons (.ret (.cst (.bl false))) .nil) .nil) (.cons (.ret (.and (.call 19 (.cons (.var 4) (.cons (.tup (.cons (.cst (.int 1)) (.cons (.cst (.int 0)) .nil))) .nil))) (.call 19 (.cons (.var 4) (.cons (.tup (.cons (.cst (.int 0)) (.cons (.ap .sub (.cons (.ap .len (.cons (.pidx (.var 4) (.cst (.int 1))) .nil)) (.cons (.cst (.int 2)) .nil))) .nil))) .nil))))) .nil)))))))))
theorem bd20 : f20.body = d20 := rfl
theorem callN_at {k i : Nat} {f : Fd} {ds : List Z.D} (h : fs[i]? = some f) : callN fs (k + 1) i ds = f.run (callN fs k) ds := by simp [callN, h]
theorem c0 {k : Nat} {h : Hs} (ok : h.Ok) : callN fs (k + 1) 0 [h.D] = .ok (h.SD []) [some h.D] := by
  rw [callN_at (f := f0) rfl]
  have e := at_key (h := h) (r := 0) (by omega) (by have := ok.k0; omega)
  simp [f0, b0, Hs.D, Fd.run, evSs, evS, evT, evE, evEs, evOs, evCs, evP, evI, evIf, PF.ap, opIdx, opLen, opMod, opAdd, opSum, opLt, opGt, opLe, stepD, getK, setD, putKs, setP, nodeAt, mmTy, mmAp, truth, E.pth, E.pu, Es.pu, imm, imms, fz, fzs, bind_one, bind_tup2, bind_tup3, bind_tup4, Tg.free, Tg.frees, Fd.kp, Fd.out, Fd.fin, finE, giveBack, wipeE, backE, seqOf, lcLoop, forLoop, lim, ix0, ix1, ix2, ix3, in0, in1, in2, dInts, imms_ints, imms_pairs, fzs_ints, fzs_pairs, fzs_app, imms_app, dInts_ints, in_lst, in_tup, dEq_int, e, Hs.SD, run_nil, Hs.f0]
theorem c1 {k : Nat} {h : Hs} (ok : h.Ok) {W : List Int} (hW : W.length ≤ 1000) {d : Int} (hd : h.dr d) :
    callN fs (k + 1) 1 [h.D, h.SD W, .int d] = .ok (h.SD (W ++ [d])) [some h.D, some (h.SD W), some (.int d)] := by
  rw [callN_at (f := f1) rfl]
  obtain ⟨p1, p2, p3⟩ := ok.pair hd
  have e := at_pair hd
  have ea := at_key (h := h) (r := (h.pair d).1) (by omega) (by omega)
  have eb := at_key (h := h) (r := (h.pair d).2) (by omega) (by omega)
  have l1 := R_len h W
  have l2 := dk_len h W
  have l3 := dd_imm h W
  have l4 := dd_fz h (W ++ [d])
  have l5 : (h.run W).R.length ≤ 16777216 := by omega
  have l6 : (h.run W).R.length ≤ 16777215 := by omega
  have l7 : (h.run W).R.length ≤ 16777214 := by omega
  have l8 : (h.run W).dk.length < 16777216 := by omega
  rw [run_snoc] at l4
  simp only [Hs.st] at l4
  by_cases ca : (h.pair d).1 ∈ (h.run W).R <;> by_cases cb : (h.pair d).2 ∈ (h.run W).R <;>
  simp [f1, b1, Hs.D, Fd.run, evSs, evS, evT, evE, evEs, evOs, evCs, evP, evI, evIf, PF.ap, opIdx, opLen, opMod, opAdd, opSum, opLt, opGt, opLe, stepD, getK, setD, putKs, setP, nodeAt, mmTy, mmAp, truth, E.pth, E.pu, Es.pu, imm, imms, fz, fzs, bind_one, bind_tup2, bind_tup3, bind_tup4, Tg.free, Tg.frees, Fd.kp, Fd.out, Fd.fin, finE, giveBack, wipeE, backE, seqOf, lcLoop, forLoop, lim, ix0, ix1, ix2, ix3, in0, in1, in2, dInts, imms_ints, imms_pairs, fzs_ints, fzs_pairs, fzs_app, imms_app, dInts_ints, in_lst, in_tup, dEq_int, pairD, e, ea, eb, Hs.SD, run_snoc, Hs.st, fr, ca, cb, dKey, l3, l4, l5, l6, l7, l8, Hs.gain]

theorem c2 {k : Nat} {h : Hs} (ok : h.Ok) {W : List Int} (hW : W.length ≤ 500) (hd : ∀ d ∈ W, h.dr d) :
    callN fs (k + 1 + 1) 2 [h.D, .tup (W.map .int)] = .ok (.lst false (h.SDs W)) [some h.D, some (.tup (W.map .int))] := by
  obtain ⟨C, hc, hk, hr⟩ := enter (fs := fs) (f := f2) (k := k + 1) (i := 2) (ds := [h.D, .tup (W.map .int)]) rfl rfl
  rw [hr, bd2]
  obtain ⟨e', hf, x, he⟩ := for_pre (t := .one 3) (body := evSs C l2_0) Z.D.int (fun pre e => ∃ x, e = [some h.D, some (.tup (W.map .int)), some (.lst true (h.SDs pre)), x]) W
    [some h.D, some (.tup (W.map .int)), some (.lst true [h.SD []]), none] (by
      rintro pre x post e hW' ⟨y, rfl⟩
      have hp : pre.length ≤ 1000 := by have := congrArg List.length hW'; simp at this; omega
      have hx := c1 (k := k) ok hp (hd x (by simp [hW']))
      have l1 : pre.length + 1 < 16777216 := by omega
      simp [l2_0, Fd.run, evSs, evS, evT, evE, evEs, evOs, evCs, evP, evI, evIf, PF.ap, opIdx, opLen, opMod, opAdd, opSum, opLt, opGt, opLe, stepD, getK, setD, putKs, setP, nodeAt, mmTy, mmAp, truth, E.pth, E.pu, Es.pu, imm, imms, fz, fzs, bind_one, bind_tup2, bind_tup3, bind_tup4, Tg.free, Tg.frees, Fd.kp, Fd.out, Fd.fin, finE, giveBack, wipeE, backE, seqOf, lcLoop, forLoop, lim, ix0, ix1, ix2, ix3, in0, in1, in2, dInts, imms_ints, imms_pairs, fzs_ints, fzs_pairs, fzs_app, imms_app, dInts_ints, in_lst, in_tup, dEq_int, imm_hs, imm_SD, SDs_last, hc, hx, SDs_snoc, SDs_len, l1]) ⟨none, rfl⟩
  subst he
  have hx := c0 (k := k) ok
  simp [f2, d2, Fd.run, evSs, evS, evT, evE, evEs, evOs, evCs, evP, evI, evIf, PF.ap, opIdx, opLen, opMod, opAdd, opSum, opLt, opGt, opLe, stepD, getK, setD, putKs, setP, nodeAt, mmTy, mmAp, truth, E.pth, E.pu, Es.pu, imm, imms, fz, fzs, bind_one, bind_tup2, bind_tup3, bind_tup4, Tg.free, Tg.frees, Fd.kp, Fd.out, Fd.fin, finE, giveBack, wipeE, backE, seqOf, lcLoop, forLoop, lim, ix0, ix1, ix2, ix3, in0, in1, in2, dInts, imms_ints, imms_pairs, fzs_ints, fzs_pairs, fzs_app, imms_app, dInts_ints, in_lst, in_tup, dEq_int, imm_hs, imm_SD, SDs_nil, hc, hk, hx, hf, SDs_fz]
theorem c3 {k : Nat} {h : Hs} (ok : h.Ok) {W : List Int} (hW : W.length ≤ 500) (hd : ∀ d ∈ W, h.dr d) :
    callN fs (k + 1 + 1 + 1) 3 [h.D, .tup (W.map .int)] = .ok (.tup ((h.run W).hands.map .int)) [some h.D, some (.tup (W.map .int))] := by
  obtain ⟨C, hc, hk, hr⟩ := enter (fs := fs) (f := f3) (k := k + 1 + 1) (i := 3) (ds := [h.D, .tup (W.map .int)]) rfl rfl
  rw [hr, bd3]
  have hx := c2 (k := k) ok hW hd
  have hl := lc_mapA (own := [2]) (t := .one 2) (ifs := evIf C i3_0) (el := evE C e3_0) (pth := true) (e := [some h.D, some (.tup (W.map .int)), none])
    (fun i => h.SD (W.take i)) (fun i => .int (h.run (W.take i)).hd) (List.range (W.length + 1)) (by
      intro i hi
      simp [i3_0, e3_0, Fd.run, evSs, evS, evT, evE, evEs, evOs, evCs, evP, evI, evIf, PF.ap, opIdx, opLen, opMod, opAdd, opSum, opLt, opGt, opLe, stepD, getK, setD, putKs, setP, nodeAt, mmTy, mmAp, truth, E.pth, E.pu, Es.pu, imm, imms, fz, fzs, bind_one, bind_tup2, bind_tup3, bind_tup4, Tg.free, Tg.frees, Fd.kp, Fd.out, Fd.fin, finE, giveBack, wipeE, backE, seqOf, lcLoop, forLoop, lim, ix0, ix1, ix2, ix3, in0, in1, in2, dInts, imms_ints, imms_pairs, fzs_ints, fzs_pairs, fzs_app, imms_app, dInts_ints, in_lst, in_tup, dEq_int, Hs.SD])
  have e : (h.run W).hands.map Z.D.int = (List.range (W.length + 1)).map fun i => .int (h.run (W.take i)).hd := by simp [hands_eq]
  have l1 : W.length ≤ 16777215 := by omega
  rw [show (List.range (W.length + 1)).map (fun i => h.SD (W.take i)) = h.SDs W from rfl, ← e] at hl
  simp [f3, d3, Fd.run, evSs, evS, evT, evE, evEs, evOs, evCs, evP, evI, evIf, PF.ap, opIdx, opLen, opMod, opAdd, opSum, opLt, opGt, opLe, stepD, getK, setD, putKs, setP, nodeAt, mmTy, mmAp, truth, E.pth, E.pu, Es.pu, imm, imms, fz, fzs, bind_one, bind_tup2, bind_tup3, bind_tup4, Tg.free, Tg.frees, Fd.kp, Fd.out, Fd.fin, finE, giveBack, wipeE, backE, seqOf, lcLoop, forLoop, lim, ix0, ix1, ix2, ix3, in0, in1, in2, dInts, imms_ints, imms_pairs, fzs_ints, fzs_pairs, fzs_app, imms_app, dInts_ints, in_lst, in_tup, dEq_int, ui3_0, ue3_0, pe3_0, imm_hs, hc, hx, SDs_imm, SDs_len, l1, hl]
theorem c4 {k : Nat} {h : Hs} (ok : h.Ok) {W : List Int} {d : Int} (hd : h.dr d) :
    callN fs (k + 1) 4 [h.D, h.SD W, .int d] = .ok (.bl (decide (fr (h.run W).R (h.pair d) = []))) [some h.D, some (h.SD W), some (.int d)] := by
  obtain ⟨C, hc, hk, hr⟩ := enter (fs := fs) (f := f4) (k := k) (i := 4) (ds := [h.D, h.SD W, .int d]) rfl rfl
  rw [hr, bd4]
  have e := at_pair hd
  by_cases ca : (h.pair d).1 ∈ (h.run W).R <;> by_cases cb : (h.pair d).2 ∈ (h.run W).R <;>
  simp [f4, d4, Fd.run, evSs, evS, evT, evE, evEs, evOs, evCs, evP, evI, evIf, PF.ap, opIdx, opLen, opMod, opAdd, opSum, opLt, opGt, opLe, stepD, getK, setD, putKs, setP, nodeAt, mmTy, mmAp, truth, E.pth, E.pu, Es.pu, imm, imms, fz, fzs, bind_one, bind_tup2, bind_tup3, bind_tup4, Tg.free, Tg.frees, Fd.kp, Fd.out, Fd.fin, finE, giveBack, wipeE, backE, seqOf, lcLoop, forLoop, lim, ix0, ix1, ix2, ix3, in0, in1, in2, dInts, imms_ints, imms_pairs, fzs_ints, fzs_pairs, fzs_app, imms_app, dInts_ints, in_lst, in_tup, dEq_int, Hs.D, Hs.SD, e, pairD, seqG, genAll, evQ, evQs, apQ, idxQ, ca, cb, fr]
theorem c5 {k : Nat} {h : Hs} (ok : h.Ok) {W : List Int} (hW : W.length ≤ 500) (hd : ∀ d ∈ W, h.dr d) :
    callN fs (k + 1 + 1 + 1) 5 [h.D, .tup (W.map .int)] = .ok (.tup ((h.run W).wa.map .int)) [some h.D, some (.tup (W.map .int))] := by
  obtain ⟨C, hc, hk, hr⟩ := enter (fs := fs) (f := f5) (k := k + 1 + 1) (i := 5) (ds := [h.D, .tup (W.map .int)]) rfl rfl
  rw [hr, bd5]
  have hx := c2 (k := k) ok hW hd
  obtain ⟨rs, e', hl, rfl, rfl⟩ := lc_preE (own := [3, 4]) (t := .tup [.one 3, .one 4]) (ifs := evIf C i5_0) (el := evE C e5_0) (pth := true) Z.D.int
    (fun pre out e => e = [some h.D, some (.tup (W.map .int)), some (.lst false (h.SDs W)), none, none] ∧ out = (h.run pre).wa.map .int) W
    [some h.D, some (.tup (W.map .int)), some (.lst false (h.SDs W)), none, none] (by
      rintro pre x post out e hW' ⟨rfl, rfl⟩
      have hp : pre.length ≤ W.length := by have := congrArg List.length hW'; simp at this; omega
      have hx := c4 (k := k + 1) (W := pre) ok (hd x (by simp [hW']))
      have ha := SDs_at h (W := W) (i := (pre.length : Int)) (by omega) (by omega)
      have ht : W.take pre.length = pre := by simp [hW']
      simp only [Int.toNat_natCast, ht] at ha
      by_cases cf : fr (h.run pre).R (h.pair x) = []
      · simp [i5_0, e5_0, Fd.run, evSs, evS, evT, evE, evEs, evOs, evCs, evP, evI, evIf, PF.ap, opIdx, opLen, opMod, opAdd, opSum, opLt, opGt, opLe, stepD, getK, setD, putKs, setP, nodeAt, mmTy, mmAp, truth, E.pth, E.pu, Es.pu, imm, imms, fz, fzs, bind_one, bind_tup2, bind_tup3, bind_tup4, Tg.free, Tg.frees, Fd.kp, Fd.out, Fd.fin, finE, giveBack, wipeE, backE, seqOf, lcLoop, forLoop, lim, ix0, ix1, ix2, ix3, in0, in1, in2, dInts, imms_ints, imms_pairs, fzs_ints, fzs_pairs, fzs_app, imms_app, dInts_ints, in_lst, in_tup, dEq_int, imm_hs, imm_SD, ha, hc, hx, run_snoc, Hs.st, cf, SDs_imm]
        exact ⟨_, _, ⟨rfl, rfl⟩, rfl, rfl, rfl⟩
      · simp [i5_0, e5_0, Fd.run, evSs, evS, evT, evE, evEs, evOs, evCs, evP, evI, evIf, PF.ap, opIdx, opLen, opMod, opAdd, opSum, opLt, opGt, opLe, stepD, getK, setD, putKs, setP, nodeAt, mmTy, mmAp, truth, E.pth, E.pu, Es.pu, imm, imms, fz, fzs, bind_one, bind_tup2, bind_tup3, bind_tup4, Tg.free, Tg.frees, Fd.kp, Fd.out, Fd.fin, finE, giveBack, wipeE, backE, seqOf, lcLoop, forLoop, lim, ix0, ix1, ix2, ix3, in0, in1, in2, dInts, imms_ints, imms_pairs, fzs_ints, fzs_pairs, fzs_app, imms_app, dInts_ints, in_lst, in_tup, dEq_int, imm_hs, imm_SD, ha, hc, hx, run_snoc, Hs.st, cf, SDs_imm]) ⟨rfl, rfl⟩
  have l1 : W.length ≤ 16777216 := by omega
  simp [f5, d5, Fd.run, evSs, evS, evT, evE, evEs, evOs, evCs, evP, evI, evIf, PF.ap, opIdx, opLen, opMod, opAdd, opSum, opLt, opGt, opLe, stepD, getK, setD, putKs, setP, nodeAt, mmTy, mmAp, truth, E.pth, E.pu, Es.pu, imm, imms, fz, fzs, bind_one, bind_tup2, bind_tup3, bind_tup4, Tg.free, Tg.frees, Fd.kp, Fd.out, Fd.fin, finE, giveBack, wipeE, backE, seqOf, lcLoop, forLoop, lim, ix0, ix1, ix2, ix3, in0, in1, in2, dInts, imms_ints, imms_pairs, fzs_ints, fzs_pairs, fzs_app, imms_app, dInts_ints, in_lst, in_tup, dEq_int, ui5_0, ue5_0, pe5_0, enumOf, imm_hs, hc, hk, hx, SDs_imm, enumD_len, l1, hl]
theorem c6 {k : Nat} {h : Hs} (ok : h.Ok) {W : List Int} (hW : W.length ≤ 500) (hd : ∀ d ∈ W, h.dr d) :
    callN fs (k + 1 + 1 + 1 + 1) 6 [h.D, .tup (W.map .int)] = .ok (.tup ((h.plain W).map .int)) [some h.D, some (.tup (W.map .int))] := by
  obtain ⟨C, hc, hk, hr⟩ := enter (fs := fs) (f := f6) (k := k + 1 + 1 + 1) (i := 6) (ds := [h.D, .tup (W.map .int)]) rfl rfl
  rw [hr, bd6]
  have hx := c5 (k := k) ok hW hd
  have hl := lc_mapT (own := [3]) (t := .one 3) (ifs := evIf C i6_0) (el := evE C e6_0) (pth := true) (e := [some h.D, some (.tup (W.map .int)), some (.tup ((h.run W).wa.map .int)), none])
    Z.D.int (fun d => decide (d ∉ (h.run W).wa)) Z.D.int W (by
      intro d hdW
      by_cases cf : d ∈ (h.run W).wa <;>
      simp [i6_0, e6_0, Fd.run, evSs, evS, evT, evE, evEs, evOs, evCs, evP, evI, evIf, PF.ap, opIdx, opLen, opMod, opAdd, opSum, opLt, opGt, opLe, stepD, getK, setD, putKs, setP, nodeAt, mmTy, mmAp, truth, E.pth, E.pu, Es.pu, imm, imms, fz, fzs, bind_one, bind_tup2, bind_tup3, bind_tup4, Tg.free, Tg.frees, Fd.kp, Fd.out, Fd.fin, finE, giveBack, wipeE, backE, seqOf, lcLoop, forLoop, lim, ix0, ix1, ix2, ix3, in0, in1, in2, dInts, imms_ints, imms_pairs, fzs_ints, fzs_pairs, fzs_app, imms_app, dInts_ints, in_lst, in_tup, dEq_int, cf])
  have l1 : W.length ≤ 16777216 := by omega
  rw [show W.filter (fun d => decide (d ∉ (h.run W).wa)) = h.plain W from rfl] at hl
  simp [f6, d6, Fd.run, evSs, evS, evT, evE, evEs, evOs, evCs, evP, evI, evIf, PF.ap, opIdx, opLen, opMod, opAdd, opSum, opLt, opGt, opLe, stepD, getK, setD, putKs, setP, nodeAt, mmTy, mmAp, truth, E.pth, E.pu, Es.pu, imm, imms, fz, fzs, bind_one, bind_tup2, bind_tup3, bind_tup4, Tg.free, Tg.frees, Fd.kp, Fd.out, Fd.fin, finE, giveBack, wipeE, backE, seqOf, lcLoop, forLoop, lim, ix0, ix1, ix2, ix3, in0, in1, in2, dInts, imms_ints, imms_pairs, fzs_ints, fzs_pairs, fzs_app, imms_app, dInts_ints, in_lst, in_tup, dEq_int, ui6_0, ue6_0, pe6_0, imm_hs, hc, hk, hx, l1, hl]
theorem c7 {k : Nat} {h : Hs} (ok : h.Ok) {W : List Int} (hW : W.length ≤ 500) (hd : ∀ d ∈ W, h.dr d) :
    callN fs (k + 1 + 1 + 1) 7 [h.D, .tup (W.map .int)] = .ok (.tup ((h.run W).ways.map oD)) [some h.D, some (.tup (W.map .int))] := by
  obtain ⟨C, hc, hk, hr⟩ := enter (fs := fs) (f := f7) (k := k + 1 + 1) (i := 7) (ds := [h.D, .tup (W.map .int)]) rfl rfl
  rw [hr, bd7]
  have hx := c2 (k := k) ok hW hd
  obtain ⟨e', hf, x, y, z, rfl⟩ := for_preE (t := .tup [.one 4, .one 5]) (body := evSs C l7_1) Z.D.int
    (fun pre e => ∃ x y z, e = [some h.D, some (.tup (W.map .int)), some (.lst true ((h.run pre).ways.map oD)), some (.lst false (h.SDs W)), x, y, z]) W
    [some h.D, some (.tup (W.map .int)), some (.lst true (List.replicate h.ks.length .non)), some (.lst false (h.SDs W)), none, none, none] (by
      rintro pre x post e hW' ⟨y1, y2, y3, rfl⟩
      have hp : pre.length + 1 ≤ W.length := by have := congrArg List.length hW'; simp at this; omega
      have ha := SDs_at h (W := W) (i := (pre.length : Int)) (by omega) (by omega)
      have hb := SDs_at h (W := W) (i := (pre.length : Int) + 1) (by omega) (by omega)
      have ht : W.take pre.length = pre := by simp [hW']
      have ht2 : W.take (pre.length + 1) = pre ++ [x] := by rw [List.take_add_one, ht]; simp [hW']
      simp only [Int.toNat_natCast, ht] at ha
      rw [show ((pre.length : Int) + 1).toNat = pre.length + 1 by omega, ht2] at hb
      obtain ⟨p1, p2, p3⟩ := ok.pair (hd x (by simp [hW']))
      obtain ⟨e', hf, z, rfl⟩ := for_pre (t := .one 6) (body := evSs C l7_0) Z.D.int
        (fun f e => ∃ z, e = [some h.D, some (.tup (W.map .int)), some (.lst true ((setW x (h.run pre).ways f).map oD)), some (.lst false (h.SDs W)), some (.int pre.length), some (.int x), z]) (fr (h.run pre).R (h.pair x))
        [some h.D, some (.tup (W.map .int)), some (.lst true ((h.run pre).ways.map oD)), some (.lst false (h.SDs W)), some (.int pre.length), some (.int x), y3] (by
          rintro f r post e hf ⟨z, rfl⟩
          have hr : 0 ≤ r ∧ r < h.ks.length := by
            have hm := mem_pre hf
            unfold fr at hm
            simp only [List.mem_append] at hm
            rcases hm with hm | hm <;> split at hm <;> simp at hm <;> omega
          have hi : ixN h.ks.length r = some r.toNat := by simp [ixN, hr]
          simp [l7_0, Fd.run, evSs, evS, evT, evE, evEs, evOs, evCs, evP, evI, evIf, PF.ap, opIdx, opLen, opMod, opAdd, opSum, opLt, opGt, opLe, stepD, getK, setD, putKs, setP, nodeAt, mmTy, mmAp, truth, E.pth, E.pu, Es.pu, imm, imms, fz, fzs, bind_one, bind_tup2, bind_tup3, bind_tup4, Tg.free, Tg.frees, Fd.kp, Fd.out, Fd.fin, finE, giveBack, wipeE, backE, seqOf, lcLoop, forLoop, lim, ix0, ix1, ix2, ix3, in0, in1, in2, dInts, imms_ints, imms_pairs, fzs_ints, fzs_pairs, fzs_app, imms_app, dInts_ints, in_lst, in_tup, dEq_int, setW_len, ways_len, hi, setW_snoc, oD, List.map_set]) ⟨_, rfl⟩
      have hcut := cut_app (a := (h.run pre).R.map Z.D.int) (b := (fr (h.run pre).R (h.pair x)).map Z.D.int) (n := (h.run pre).R.length) (by simp)
      simp [l7_1, Fd.run, evSs, evS, evT, evE, evEs, evOs, evCs, evP, evI, evIf, PF.ap, opIdx, opLen, opMod, opAdd, opSum, opLt, opGt, opLe, stepD, getK, setD, putKs, setP, nodeAt, mmTy, mmAp, truth, E.pth, E.pu, Es.pu, imm, imms, fz, fzs, bind_one, bind_tup2, bind_tup3, bind_tup4, Tg.free, Tg.frees, Fd.kp, Fd.out, Fd.fin, finE, giveBack, wipeE, backE, seqOf, lcLoop, forLoop, lim, ix0, ix1, ix2, ix3, in0, in1, in2, dInts, imms_ints, imms_pairs, fzs_ints, fzs_pairs, fzs_app, imms_app, dInts_ints, in_lst, in_tup, dEq_int, opCut, ha, hb, SDs_imm, Hs.SD, dd_imm, run_snoc, Hs.st, hcut, hf, hk, f7])
    ⟨none, none, none, by simp [run_nil, Hs.f0, oD]⟩
  have l1 : W.length ≤ 16777216 := by omega
  have l2 := ok.kl
  have l3 := mul_non (n := h.ks.length) (by omega)
  simp only [Hs.D] at hf hx ⊢
  simp [f7, d7, Fd.run, evSs, evS, evT, evE, evEs, evOs, evCs, evP, evI, evIf, PF.ap, opIdx, opLen, opMod, opAdd, opSum, opLt, opGt, opLe, stepD, getK, setD, putKs, setP, nodeAt, mmTy, mmAp, truth, E.pth, E.pu, Es.pu, imm, imms, fz, fzs, bind_one, bind_tup2, bind_tup3, bind_tup4, Tg.free, Tg.frees, Fd.kp, Fd.out, Fd.fin, finE, giveBack, wipeE, backE, seqOf, lcLoop, forLoop, lim, ix0, ix1, ix2, ix3, in0, in1, in2, dInts, imms_ints, imms_pairs, fzs_ints, fzs_pairs, fzs_app, imms_app, dInts_ints, in_lst, in_tup, dEq_int, enumOf, hc, hk, hx, SDs_imm, enumD_len, l1, l3, hf, imms_os]

def Bowl (d : Z.D) : Prop := ∃ (ps : List Int) (n : Int), d = .lst true [.lst true (ps.map .int), .int n] ∧ ps.length = 700 ∧ 0 ≤ n
theorem Bowl.imm {b : Z.D} (h : Bowl b) : Z.imm b = false := by obtain ⟨ps, n, rfl, _⟩ := h; simp [Z.imm]
theorem c9 {k : Nat} {b : Z.D} (h : Bowl b) {many : Int} (hm : 0 < many) : ∃ r b', callN fs (k + 1) 9 [b, .int many] = .ok (.int r) [some b', some (.int many)] ∧ Bowl b' ∧ 0 ≤ r ∧ r < many := by
  obtain ⟨ps, n, rfl, hl, hn⟩ := h
  have h0 : 0 ≤ n % (700 : Int) := Int.emod_nonneg _ (by decide)
  have h1 : n % (700 : Int) < ps.length := by rw [hl]; exact Int.emod_lt_of_pos _ (by decide)
  obtain ⟨p, _, hp⟩ := atI_ints h0 h1
  refine ⟨p % many, .lst true [.lst true (ps.map .int), .int (n + 1)], ?_, ⟨ps, n + 1, rfl, hl, by omega⟩, Int.emod_nonneg _ (by omega), Int.emod_lt_of_pos _ hm⟩
  obtain ⟨C, hc, hk, hr⟩ := enter (fs := fs) (f := f9) (k := k) (i := 9) (ds := [.lst true [.lst true (ps.map .int), .int n], .int many]) rfl rfl
  rw [hr, bd9]
  simp [f9, d9, Fd.run, evSs, evS, evT, evE, evEs, evOs, evCs, evP, evI, evIf, PF.ap, opIdx, opLen, opMod, opAdd, opSum, opLt, opGt, opLe, stepD, getK, setD, putKs, setP, nodeAt, mmTy, mmAp, truth, E.pth, E.pu, Es.pu, imm, imms, fz, fzs, bind_one, bind_tup2, bind_tup3, bind_tup4, Tg.free, Tg.frees, Fd.kp, Fd.out, Fd.fin, finE, giveBack, wipeE, backE, seqOf, lcLoop, forLoop, lim, ix0, ix1, ix2, ix3, in0, in1, in2, dInts, imms_ints, imms_pairs, fzs_ints, fzs_pairs, fzs_app, imms_app, dInts_ints, in_lst, in_tup, dEq_int, hk, hm, hl, hp]
theorem c13 {k : Nat} {h : Hs} (ok : h.Ok) : callN fs (k + 1) 13 [h.D] = .ok (h.LS []) [some h.D] := by
  obtain ⟨C, hc, hk, hr⟩ := enter (fs := fs) (f := f13) (k := k) (i := 13) (ds := [h.D]) rfl rfl
  rw [hr, bd13]
  have e := at_key (h := h) (r := 0) (by omega) (by have := ok.k0; omega)
  simp [f13, d13, Fd.run, evSs, evS, evT, evE, evEs, evOs, evCs, evP, evI, evIf, PF.ap, opIdx, opLen, opMod, opAdd, opSum, opLt, opGt, opLe, stepD, getK, setD, putKs, setP, nodeAt, mmTy, mmAp, truth, E.pth, E.pu, Es.pu, imm, imms, fz, fzs, bind_one, bind_tup2, bind_tup3, bind_tup4, Tg.free, Tg.frees, Fd.kp, Fd.out, Fd.fin, finE, giveBack, wipeE, backE, seqOf, lcLoop, forLoop, lim, ix0, ix1, ix2, ix3, in0, in1, in2, dInts, imms_ints, imms_pairs, fzs_ints, fzs_pairs, fzs_app, imms_app, dInts_ints, in_lst, in_tup, dEq_int, Hs.D, e, Hs.LS, run_nil, Hs.f0]
theorem in_lst1 {m : Bool} {i a : Int} {ps : List Int} : opIn (.int i) (.lst m (ps.map .int ++ [.int a])) = some (decide (i ∈ ps ∨ i = a)) := by
  have := in_lst (m := m) (i := i) (ps := ps ++ [a])
  simpa using this
theorem c15 {k : Nat} {h : Hs} (ok : h.Ok) {W : List Int} (hW : W.length ≤ 1000) {d : Int} (hd : h.dr d) :
    callN fs (k + 1) 15 [h.D, h.LS W, .int d] = .ok .non [some h.D, some (h.LS (W ++ [d])), some (.int d)] := by
  obtain ⟨C, hc, hk, hr⟩ := enter (fs := fs) (f := f15) (k := k) (i := 15) (ds := [h.D, h.LS W, .int d]) rfl rfl
  rw [hr, bd15]
  obtain ⟨p1, p2, p3⟩ := ok.pair hd
  have e := at_pair hd
  have ea := at_key (h := h) (r := (h.pair d).1) (by omega) (by omega)
  have eb := at_key (h := h) (r := (h.pair d).2) (by omega) (by omega)
  have l1 := R_len h W
  have l2 : W.length < 16777216 := by omega
  have l3 : (h.run W).R.length < 16777216 := by omega
  have l4 : (h.run W).R.length + 1 < 16777216 := by omega
  have ne : ¬ (h.pair d).2 = (h.pair d).1 := by omega
  by_cases ca : (h.pair d).1 ∈ (h.run W).R <;> by_cases cb : (h.pair d).2 ∈ (h.run W).R <;>
  simp [f15, d15, l15_0, Fd.run, evSs, evS, evT, evE, evEs, evOs, evCs, evP, evI, evIf, PF.ap, opIdx, opLen, opMod, opAdd, opSum, opLt, opGt, opLe, stepD, getK, setD, putKs, setP, nodeAt, mmTy, mmAp, truth, E.pth, E.pu, Es.pu, imm, imms, fz, fzs, bind_one, bind_tup2, bind_tup3, bind_tup4, Tg.free, Tg.frees, Fd.kp, Fd.out, Fd.fin, finE, giveBack, wipeE, backE, seqOf, lcLoop, forLoop, lim, ix0, ix1, ix2, ix3, in0, in1, in2, dInts, imms_ints, imms_pairs, fzs_ints, fzs_pairs, fzs_app, imms_app, dInts_ints, in_lst, in_tup, dEq_int, Hs.D, Hs.LS, e, ea, eb, pairD, ca, cb, ne, hk, in_lst1, run_snoc, Hs.st, fr, Hs.gain, l2, l3, l4, Int.add_assoc]
theorem c14 {k : Nat} {h : Hs} (ok : h.Ok) {W : List Int} (hW : W.length ≤ 1000) {d : Int} (hd : h.dr d) :
    ∃ c, callN fs (k + 1) 14 [h.D, h.LS W, .int d] = .ok (.bl c) [some h.D, some (h.LS W), some (.int d)] ∧
      (c = true → d ∉ W ∧ ((h.pair d).1 ∈ (h.run W).R ∨ (h.pair d).2 ∈ (h.run W).R)) := by
  obtain ⟨C, hc, hk, hr⟩ := enter (fs := fs) (f := f14) (k := k) (i := 14) (ds := [h.D, h.LS W, .int d]) rfl rfl
  rw [hr, bd14]
  have e := at_pair hd
  by_cases c1 : d ∈ W
  · refine ⟨false, ?_, by simp⟩
    simp [f14, d14, Fd.run, evSs, evS, evT, evE, evEs, evOs, evCs, evP, evI, evIf, PF.ap, opIdx, opLen, opMod, opAdd, opSum, opLt, opGt, opLe, stepD, getK, setD, putKs, setP, nodeAt, mmTy, mmAp, truth, E.pth, E.pu, Es.pu, imm, imms, fz, fzs, bind_one, bind_tup2, bind_tup3, bind_tup4, Tg.free, Tg.frees, Fd.kp, Fd.out, Fd.fin, finE, giveBack, wipeE, backE, seqOf, lcLoop, forLoop, lim, ix0, ix1, ix2, ix3, in0, in1, in2, dInts, imms_ints, imms_pairs, fzs_ints, fzs_pairs, fzs_app, imms_app, dInts_ints, in_lst, in_tup, dEq_int, Hs.D, Hs.LS, e, pairD, hk, c1]
  by_cases c2 : (h.run W).hd < 1
  · refine ⟨false, ?_, by simp⟩
    simp [f14, d14, Fd.run, evSs, evS, evT, evE, evEs, evOs, evCs, evP, evI, evIf, PF.ap, opIdx, opLen, opMod, opAdd, opSum, opLt, opGt, opLe, stepD, getK, setD, putKs, setP, nodeAt, mmTy, mmAp, truth, E.pth, E.pu, Es.pu, imm, imms, fz, fzs, bind_one, bind_tup2, bind_tup3, bind_tup4, Tg.free, Tg.frees, Fd.kp, Fd.out, Fd.fin, finE, giveBack, wipeE, backE, seqOf, lcLoop, forLoop, lim, ix0, ix1, ix2, ix3, in0, in1, in2, dInts, imms_ints, imms_pairs, fzs_ints, fzs_pairs, fzs_app, imms_app, dInts_ints, in_lst, in_tup, dEq_int, Hs.D, Hs.LS, e, pairD, hk, c1, c2]
  rcases for_pre3 (t := .one 5) (body := evSs C l14_0) Z.D.int
    (fun pre e => ∃ x, e = [some h.D, some (h.LS W), some (.int d), some (.int (h.pair d).1), some (.int (h.pair d).2), x]) (fun _ => False)
    (fun r e => r = .bl false ∧ ∃ x, e = [some h.D, some (h.LS W), some (.int d), some (.int (h.pair d).1), some (.int (h.pair d).2), x]) h.hs
    [some h.D, some (h.LS W), some (.int d), some (.int (h.pair d).1), some (.int (h.pair d).2), none] (by
      rintro pre x post e hp ⟨y, rfl⟩
      by_cases c3 : x ∈ (h.run W).R
      · exact ⟨_, _, rfl, .inr (.inr ⟨.bl false, by simp [l14_0, Fd.run, evSs, evS, evT, evE, evEs, evOs, evCs, evP, evI, evIf, PF.ap, opIdx, opLen, opMod, opAdd, opSum, opLt, opGt, opLe, stepD, getK, setD, putKs, setP, nodeAt, mmTy, mmAp, truth, E.pth, E.pu, Es.pu, imm, imms, fz, fzs, bind_one, bind_tup2, bind_tup3, bind_tup4, Tg.free, Tg.frees, Fd.kp, Fd.out, Fd.fin, finE, giveBack, wipeE, backE, seqOf, lcLoop, forLoop, lim, ix0, ix1, ix2, ix3, in0, in1, in2, dInts, imms_ints, imms_pairs, fzs_ints, fzs_pairs, fzs_app, imms_app, dInts_ints, in_lst, in_tup, dEq_int, Hs.LS, c3], rfl, some (.int x), rfl⟩)⟩
      · exact ⟨_, _, rfl, .inl ⟨by simp [l14_0, Fd.run, evSs, evS, evT, evE, evEs, evOs, evCs, evP, evI, evIf, PF.ap, opIdx, opLen, opMod, opAdd, opSum, opLt, opGt, opLe, stepD, getK, setD, putKs, setP, nodeAt, mmTy, mmAp, truth, E.pth, E.pu, Es.pu, imm, imms, fz, fzs, bind_one, bind_tup2, bind_tup3, bind_tup4, Tg.free, Tg.frees, Fd.kp, Fd.out, Fd.fin, finE, giveBack, wipeE, backE, seqOf, lcLoop, forLoop, lim, ix0, ix1, ix2, ix3, in0, in1, in2, dInts, imms_ints, imms_pairs, fzs_ints, fzs_pairs, fzs_app, imms_app, dInts_ints, in_lst, in_tup, dEq_int, Hs.LS, c3], some (.int x), rfl⟩⟩) ⟨none, rfl⟩ with
    ⟨e', hf, ⟨x, rfl⟩ | hb⟩ | ⟨r, e', hf, rfl, x, rfl⟩
  · refine ⟨decide ((h.pair d).1 ∈ (h.run W).R) || decide ((h.pair d).2 ∈ (h.run W).R), ?_, fun hh => ⟨c1, by simpa using hh⟩⟩
    simp only [Hs.D, Hs.LS] at hf ⊢
    by_cases ca : (h.pair d).1 ∈ (h.run W).R <;>
    simp [f14, d14, Fd.run, evSs, evS, evT, evE, evEs, evOs, evCs, evP, evI, evIf, PF.ap, opIdx, opLen, opMod, opAdd, opSum, opLt, opGt, opLe, stepD, getK, setD, putKs, setP, nodeAt, mmTy, mmAp, truth, E.pth, E.pu, Es.pu, imm, imms, fz, fzs, bind_one, bind_tup2, bind_tup3, bind_tup4, Tg.free, Tg.frees, Fd.kp, Fd.out, Fd.fin, finE, giveBack, wipeE, backE, seqOf, lcLoop, forLoop, lim, ix0, ix1, ix2, ix3, in0, in1, in2, dInts, imms_ints, imms_pairs, fzs_ints, fzs_pairs, fzs_app, imms_app, dInts_ints, in_lst, in_tup, dEq_int, e, pairD, hk, c1, c2, hf, ca]
  · exact hb.elim
  · refine ⟨false, ?_, by simp⟩
    simp only [Hs.D, Hs.LS] at hf ⊢
    simp [f14, d14, Fd.run, evSs, evS, evT, evE, evEs, evOs, evCs, evP, evI, evIf, PF.ap, opIdx, opLen, opMod, opAdd, opSum, opLt, opGt, opLe, stepD, getK, setD, putKs, setP, nodeAt, mmTy, mmAp, truth, E.pth, E.pu, Es.pu, imm, imms, fz, fzs, bind_one, bind_tup2, bind_tup3, bind_tup4, Tg.free, Tg.frees, Fd.kp, Fd.out, Fd.fin, finE, giveBack, wipeE, backE, seqOf, lcLoop, forLoop, lim, ix0, ix1, ix2, ix3, in0, in1, in2, dInts, imms_ints, imms_pairs, fzs_ints, fzs_pairs, fzs_app, imms_app, dInts_ints, in_lst, in_tup, dEq_int, e, pairD, hk, c1, c2, hf]

theorem rngZ (m : Int) : rng 0 m = (List.range m.toNat).map fun (i : Nat) => Z.D.int (i : Int) := by simp [rng]
theorem c16 {k : Nat} {h : Hs} (ok : h.Ok) {b : Z.D} (hb : Bowl b) {most : Int} (h0 : 0 ≤ most) (h1 : most ≤ 500) :
    ∃ W b', callN fs (k + 1 + 1) 16 [b, h.D, .int most] = .ok (.tup (W.map .int)) [some b', some h.D, some (.int most)] ∧ Bowl b' ∧ Wk h W ∧ W.length ≤ 500 := by
  obtain ⟨C, hc, hk, hr⟩ := enter (fs := fs) (f := f16) (k := k + 1) (i := 16) (ds := [b, h.D, .int most]) rfl rfl
  rw [hr, bd16]
  have l1 := ok.pl
  have l2 : h.ps.length ≤ 16777216 := by omega
  have hs62 : small62 (h.ps.length : Int) = true := by simp [small62]; omega
  have hm62 : small62 most = true := by simp [small62]; omega
  suffices g : ∃ e', forLoop (.one 4) (evSs C l16_0) ((List.range most.toNat).map fun (i : Nat) => Z.D.int (i : Int)) [some b, some h.D, some (.int most), some (h.LS []), none, none, none, none] = .next e' ∧
      ∃ W b' x4 x5 x6, e' = [some b', some h.D, some (.int most), some (h.LS W), x4, x5, x6, none] ∧ Bowl b' ∧ Wk h W ∧ W.length ≤ 500 by
    obtain ⟨e', hf, W, b', x4, x5, x6, rfl, hb', hw, hl⟩ := g
    refine ⟨W, b', ?_, hb', hw, hl⟩
    have hx := c13 (k := k) ok
    simp [f16, d16, Fd.run, evSs, evS, evT, evE, evEs, evOs, evCs, evP, evI, evIf, PF.ap, opIdx, opLen, opMod, opAdd, opSum, opLt, opGt, opLe, stepD, getK, setD, putKs, setP, nodeAt, mmTy, mmAp, truth, E.pth, E.pu, Es.pu, imm, imms, fz, fzs, bind_one, bind_tup2, bind_tup3, bind_tup4, Tg.free, Tg.frees, Fd.kp, Fd.out, Fd.fin, finE, giveBack, wipeE, backE, seqOf, lcLoop, forLoop, lim, ix0, ix1, ix2, ix3, in0, in1, in2, dInts, imms_ints, imms_pairs, fzs_ints, fzs_pairs, fzs_app, imms_app, dInts_ints, in_lst, in_tup, dEq_int, imm_hs, hc, hk, hx, imm_LS, hm62, rngZ, hf]
    simp [Hs.LS, Fd.run, evSs, evS, evT, evE, evEs, evOs, evCs, evP, evI, evIf, PF.ap, opIdx, opLen, opMod, opAdd, opSum, opLt, opGt, opLe, stepD, getK, setD, putKs, setP, nodeAt, mmTy, mmAp, truth, E.pth, E.pu, Es.pu, imm, imms, fz, fzs, bind_one, bind_tup2, bind_tup3, bind_tup4, Tg.free, Tg.frees, Fd.kp, Fd.out, Fd.fin, finE, giveBack, wipeE, backE, seqOf, lcLoop, forLoop, lim, ix0, ix1, ix2, ix3, in0, in1, in2, dInts, imms_ints, imms_pairs, fzs_ints, fzs_pairs, fzs_app, imms_app, dInts_ints, in_lst, in_tup, dEq_int]
  rcases for_pre3 (t := .one 4) (body := evSs C l16_0) (fun (i : Nat) => Z.D.int (i : Int))
    (fun pre e => ∃ W b' x4 x5 x6, e = [some b', some h.D, some (.int most), some (h.LS W), x4, x5, x6, none] ∧ Bowl b' ∧ Wk h W ∧ W.length ≤ pre.length)
    (fun e => ∃ W b' x4 x5 x6, e = [some b', some h.D, some (.int most), some (h.LS W), x4, x5, x6, none] ∧ Bowl b' ∧ Wk h W ∧ W.length ≤ 500)
    (fun _ _ => False) (List.range most.toNat)
    [some b, some h.D, some (.int most), some (h.LS []), none, none, none, none] (by
      rintro pre x post e hp ⟨W, b', x4, x5, x6, rfl, hb', hw, hl⟩
      have hl2 : pre.length + 1 ≤ 500 := by have := congrArg List.length hp; simp at this; omega
      have hW : W.length ≤ 1000 := by omega
      -- the doors that can be opened
      obtain ⟨rs, e', hl1, ⟨ds, rfl, hds⟩, rfl⟩ := lc_pre (own := [7]) (t := .one 7) (ifs := evIf C i16_0) (el := evE C e16_0) (pth := true) (fun (i : Nat) => Z.D.int (i : Int))
        (fun pre out e => (∃ ds : List Int, out = ds.map .int ∧ ∀ d ∈ ds, h.dr d ∧ d ∉ W ∧ ((h.pair d).1 ∈ (h.run W).R ∨ (h.pair d).2 ∈ (h.run W).R)) ∧
          e = [some b', some h.D, some (.int most), some (h.LS W), some (.int x), x5, x6, none]) (List.range h.ps.length)
        [some b', some h.D, some (.int most), some (h.LS W), some (.int x), x5, x6, none] (by
          rintro pre' i post' out e hpi ⟨⟨ds, rfl, hds⟩, rfl⟩
          have hi : i < h.ps.length := by have := mem_pre hpi; simpa using this
          have hdr : h.dr (i : Int) := ⟨by omega, by omega⟩
          obtain ⟨c, hx, hcc⟩ := c14 (k := k) ok hW hdr
          have hx' := hx
          refine ⟨[some b', some h.D, some (.int most), some (h.LS W), some (.int x), x5, x6, some (.int i)], c, [some b', some h.D, some (.int most), some (h.LS W), some (.int x), x5, x6, some (.int i)], by simp [Fd.run, evSs, evS, evT, evE, evEs, evOs, evCs, evP, evI, evIf, PF.ap, opIdx, opLen, opMod, opAdd, opSum, opLt, opGt, opLe, stepD, getK, setD, putKs, setP, nodeAt, mmTy, mmAp, truth, E.pth, E.pu, Es.pu, imm, imms, fz, fzs, bind_one, bind_tup2, bind_tup3, bind_tup4, Tg.free, Tg.frees, Fd.kp, Fd.out, Fd.fin, finE, giveBack, wipeE, backE, seqOf, lcLoop, forLoop, lim, ix0, ix1, ix2, ix3, in0, in1, in2, dInts, imms_ints, imms_pairs, fzs_ints, fzs_pairs, fzs_app, imms_app, dInts_ints, in_lst, in_tup, dEq_int],
            by cases c <;> simp [i16_0, Fd.run, evSs, evS, evT, evE, evEs, evOs, evCs, evP, evI, evIf, PF.ap, opIdx, opLen, opMod, opAdd, opSum, opLt, opGt, opLe, stepD, getK, setD, putKs, setP, nodeAt, mmTy, mmAp, truth, E.pth, E.pu, Es.pu, imm, imms, fz, fzs, bind_one, bind_tup2, bind_tup3, bind_tup4, Tg.free, Tg.frees, Fd.kp, Fd.out, Fd.fin, finE, giveBack, wipeE, backE, seqOf, lcLoop, forLoop, lim, ix0, ix1, ix2, ix3, in0, in1, in2, dInts, imms_ints, imms_pairs, fzs_ints, fzs_pairs, fzs_app, imms_app, dInts_ints, in_lst, in_tup, dEq_int, imm_hs, imm_LS, hc, hx], fun hcv => ⟨.int i, [some b', some h.D, some (.int most), some (h.LS W), some (.int x), x5, x6, some (.int i)], by simp [e16_0, Fd.run, evSs, evS, evT, evE, evEs, evOs, evCs, evP, evI, evIf, PF.ap, opIdx, opLen, opMod, opAdd, opSum, opLt, opGt, opLe, stepD, getK, setD, putKs, setP, nodeAt, mmTy, mmAp, truth, E.pth, E.pu, Es.pu, imm, imms, fz, fzs, bind_one, bind_tup2, bind_tup3, bind_tup4, Tg.free, Tg.frees, Fd.kp, Fd.out, Fd.fin, finE, giveBack, wipeE, backE, seqOf, lcLoop, forLoop, lim, ix0, ix1, ix2, ix3, in0, in1, in2, dInts, imms_ints, imms_pairs, fzs_ints, fzs_pairs, fzs_app, imms_app, dInts_ints, in_lst, in_tup, dEq_int], rfl, ⟨ds ++ [(i : Int)], by simp, ?_⟩, by simp [Fd.run, evSs, evS, evT, evE, evEs, evOs, evCs, evP, evI, evIf, PF.ap, opIdx, opLen, opMod, opAdd, opSum, opLt, opGt, opLe, stepD, getK, setD, putKs, setP, nodeAt, mmTy, mmAp, truth, E.pth, E.pu, Es.pu, imm, imms, fz, fzs, bind_one, bind_tup2, bind_tup3, bind_tup4, Tg.free, Tg.frees, Fd.kp, Fd.out, Fd.fin, finE, giveBack, wipeE, backE, seqOf, lcLoop, forLoop, lim, ix0, ix1, ix2, ix3, in0, in1, in2, dInts, imms_ints, imms_pairs, fzs_ints, fzs_pairs, fzs_app, imms_app, dInts_ints, in_lst, in_tup, dEq_int]⟩, fun hcv => ⟨⟨ds, rfl, hds⟩, by simp [Fd.run, evSs, evS, evT, evE, evEs, evOs, evCs, evP, evI, evIf, PF.ap, opIdx, opLen, opMod, opAdd, opSum, opLt, opGt, opLe, stepD, getK, setD, putKs, setP, nodeAt, mmTy, mmAp, truth, E.pth, E.pu, Es.pu, imm, imms, fz, fzs, bind_one, bind_tup2, bind_tup3, bind_tup4, Tg.free, Tg.frees, Fd.kp, Fd.out, Fd.fin, finE, giveBack, wipeE, backE, seqOf, lcLoop, forLoop, lim, ix0, ix1, ix2, ix3, in0, in1, in2, dInts, imms_ints, imms_pairs, fzs_ints, fzs_pairs, fzs_app, imms_app, dInts_ints, in_lst, in_tup, dEq_int]⟩⟩
          intro d hd
          rcases List.mem_append.mp hd with hd | hd
          · exact hds d hd
          · simp at hd; subst hd; exact ⟨hdr, hcc hcv⟩) ⟨⟨[], rfl, by simp⟩, rfl⟩
      have d1 : ds.length ≤ 16777216 := by
        have := lc_len hl1
        simp at this; omega
      have hl3 := lc_mapT (own := [7]) (t := .one 7) (ifs := evIf C i16_1) (el := evE C e16_1) (pth := true) (e := [some b', some h.D, some (.int most), some (h.LS W), some (.int x), some (.lst false (ds.map .int)), x6, none])
        Z.D.int (fun d => decide ((h.pair d).1 ∉ h.hs) && decide ((h.pair d).2 ∉ h.hs)) Z.D.int ds (by
          intro d hd
          have e := at_pair (hds d hd).1
          by_cases c1 : (h.pair d).1 ∈ h.hs <;> by_cases c2 : (h.pair d).2 ∈ h.hs <;>
          simp [i16_1, e16_1, Fd.run, evSs, evS, evT, evE, evEs, evOs, evCs, evP, evI, evIf, PF.ap, opIdx, opLen, opMod, opAdd, opSum, opLt, opGt, opLe, stepD, getK, setD, putKs, setP, nodeAt, mmTy, mmAp, truth, E.pth, E.pu, Es.pu, imm, imms, fz, fzs, bind_one, bind_tup2, bind_tup3, bind_tup4, Tg.free, Tg.frees, Fd.kp, Fd.out, Fd.fin, finE, giveBack, wipeE, backE, seqOf, lcLoop, forLoop, lim, ix0, ix1, ix2, ix3, in0, in1, in2, dInts, imms_ints, imms_pairs, fzs_ints, fzs_pairs, fzs_app, imms_app, dInts_ints, in_lst, in_tup, dEq_int, Hs.D, e, pairD, c1, c2])
      obtain ⟨es, b2, y6, ha, hb2, hes⟩ : ∃ (es : List Int) (b2 : Z.D) (y6 : Option Z.D), evSs C (takeS 3 l16_0) [some b', some h.D, some (.int most), some (h.LS W), some (.int x), x5, x6, none] =
          .next [some b2, some h.D, some (.int most), some (h.LS W), some (.int x), some (.lst false (es.map .int)), y6, none] ∧ Bowl b2 ∧ ∀ d ∈ es, d ∈ ds := by
        obtain ⟨r1, b1, hp1, hb1, q1, q2⟩ := c9 (k := k) hb' (many := 5) (by omega)
        have hbi := hb'.imm
        have hfl : (h.ps.map pairD).length = h.ps.length := by simp
        generalize hes : List.filter (fun d => decide ((h.pair d).1 ∉ h.hs) && decide ((h.pair d).2 ∉ h.hs)) ds = es at hl3
        have hsub : ∀ d ∈ es, d ∈ ds := fun d hd => by subst hes; exact (List.mem_filter.mp hd).1
        have ix : atI [Z.D.tup (h.ks.map .int), .tup (h.ps.map pairD), .tup (h.hs.map .int)] 1 = some (.tup (h.ps.map pairD)) := ix1
        simp only [Hs.D] at hl1 hl3 ⊢
        by_cases c1 : es = []
        · subst c1
          exact ⟨ds, b', some (.lst false []), by simp [takeS, l16_0, Fd.run, evSs, evS, evT, evE, evEs, evOs, evCs, evP, evI, evIf, PF.ap, opIdx, opLen, opMod, opAdd, opSum, opLt, opGt, opLe, stepD, getK, setD, putKs, setP, nodeAt, mmTy, mmAp, truth, E.pth, E.pu, Es.pu, imm, imms, fz, fzs, bind_one, bind_tup2, bind_tup3, bind_tup4, Tg.free, Tg.frees, Fd.kp, Fd.out, Fd.fin, finE, giveBack, wipeE, backE, seqOf, lcLoop, forLoop, lim, ix0, ix1, ix2, ix3, in0, in1, in2, dInts, imms_ints, imms_pairs, fzs_ints, fzs_pairs, fzs_app, imms_app, dInts_ints, in_lst, in_tup, dEq_int, ui16_0, ue16_0, pe16_0, ui16_1, ue16_1, pe16_1, imm_LS, hc, hk, f16, hs62, rngZ, hl1, hl3, l2, d1], hb', fun _ h => h⟩
        · have c3 := List.length_pos_iff.mpr c1
          by_cases c2 : 0 < r1
          · exact ⟨es, b1, none, by simp [takeS, l16_0, Fd.run, evSs, evS, evT, evE, evEs, evOs, evCs, evP, evI, evIf, PF.ap, opIdx, opLen, opMod, opAdd, opSum, opLt, opGt, opLe, stepD, getK, setD, putKs, setP, nodeAt, mmTy, mmAp, truth, E.pth, E.pu, Es.pu, imm, imms, fz, fzs, bind_one, bind_tup2, bind_tup3, bind_tup4, Tg.free, Tg.frees, Fd.kp, Fd.out, Fd.fin, finE, giveBack, wipeE, backE, seqOf, lcLoop, forLoop, lim, ix0, ix1, ix2, ix3, in0, in1, in2, dInts, imms_ints, imms_pairs, fzs_ints, fzs_pairs, fzs_app, imms_app, dInts_ints, in_lst, in_tup, dEq_int, ui16_0, ue16_0, pe16_0, ui16_1, ue16_1, pe16_1, imm_LS, hc, hk, f16, hs62, rngZ, hl1, hl3, l2, d1, hp1, hbi, c1, c2, c3], hb1, hsub⟩
          · exact ⟨ds, b1, some (.lst false (es.map .int)), by simp [takeS, l16_0, Fd.run, evSs, evS, evT, evE, evEs, evOs, evCs, evP, evI, evIf, PF.ap, opIdx, opLen, opMod, opAdd, opSum, opLt, opGt, opLe, stepD, getK, setD, putKs, setP, nodeAt, mmTy, mmAp, truth, E.pth, E.pu, Es.pu, imm, imms, fz, fzs, bind_one, bind_tup2, bind_tup3, bind_tup4, Tg.free, Tg.frees, Fd.kp, Fd.out, Fd.fin, finE, giveBack, wipeE, backE, seqOf, lcLoop, forLoop, lim, ix0, ix1, ix2, ix3, in0, in1, in2, dInts, imms_ints, imms_pairs, fzs_ints, fzs_pairs, fzs_app, imms_app, dInts_ints, in_lst, in_tup, dEq_int, ui16_0, ue16_0, pe16_0, ui16_1, ue16_1, pe16_1, imm_LS, hc, hk, f16, hs62, rngZ, hl1, hl3, l2, d1, hp1, hbi, c1, c2, c3], hb1, fun _ h => h⟩
      refine ⟨[some b', some h.D, some (.int most), some (h.LS W), some (.int x), x5, x6, none], ?_⟩
      by_cases ce : es = []
      · subst ce
        refine ⟨_, by simp [Fd.run, evSs, evS, evT, evE, evEs, evOs, evCs, evP, evI, evIf, PF.ap, opIdx, opLen, opMod, opAdd, opSum, opLt, opGt, opLe, stepD, getK, setD, putKs, setP, nodeAt, mmTy, mmAp, truth, E.pth, E.pu, Es.pu, imm, imms, fz, fzs, bind_one, bind_tup2, bind_tup3, bind_tup4, Tg.free, Tg.frees, Fd.kp, Fd.out, Fd.fin, finE, giveBack, wipeE, backE, seqOf, lcLoop, forLoop, lim, ix0, ix1, ix2, ix3, in0, in1, in2, dInts, imms_ints, imms_pairs, fzs_ints, fzs_pairs, fzs_app, imms_app, dInts_ints, in_lst, in_tup, dEq_int], .inr (.inl ⟨?_, W, b2, some (.int x), some (.lst false []), y6, rfl, hb2, hw, by omega⟩)⟩
        rw [evSs_split C 3, ha]
        simp [dropS, l16_0, Fd.run, evSs, evS, evT, evE, evEs, evOs, evCs, evP, evI, evIf, PF.ap, opIdx, opLen, opMod, opAdd, opSum, opLt, opGt, opLe, stepD, getK, setD, putKs, setP, nodeAt, mmTy, mmAp, truth, E.pth, E.pu, Es.pu, imm, imms, fz, fzs, bind_one, bind_tup2, bind_tup3, bind_tup4, Tg.free, Tg.frees, Fd.kp, Fd.out, Fd.fin, finE, giveBack, wipeE, backE, seqOf, lcLoop, forLoop, lim, ix0, ix1, ix2, ix3, in0, in1, in2, dInts, imms_ints, imms_pairs, fzs_ints, fzs_pairs, fzs_app, imms_app, dInts_ints, in_lst, in_tup, dEq_int]
      · obtain ⟨r1, b1, hp1, hb1, q1, q2⟩ := c9 (k := k) hb2 (many := (es.length : Int)) (by have := List.length_pos_iff.mpr ce; omega)
        obtain ⟨d, hd, hat⟩ := atI_ints q1 q2
        obtain ⟨g1, g2, g3⟩ := hds d (hes d hd)
        have hx := c15 (k := k) ok hW g1
        have hbi := hb2.imm
        refine ⟨[some b1, some h.D, some (.int most), some (h.LS (W ++ [d])), some (.int x), some (.lst false (es.map .int)), y6, none], by simp [Fd.run, evSs, evS, evT, evE, evEs, evOs, evCs, evP, evI, evIf, PF.ap, opIdx, opLen, opMod, opAdd, opSum, opLt, opGt, opLe, stepD, getK, setD, putKs, setP, nodeAt, mmTy, mmAp, truth, E.pth, E.pu, Es.pu, imm, imms, fz, fzs, bind_one, bind_tup2, bind_tup3, bind_tup4, Tg.free, Tg.frees, Fd.kp, Fd.out, Fd.fin, finE, giveBack, wipeE, backE, seqOf, lcLoop, forLoop, lim, ix0, ix1, ix2, ix3, in0, in1, in2, dInts, imms_ints, imms_pairs, fzs_ints, fzs_pairs, fzs_app, imms_app, dInts_ints, in_lst, in_tup, dEq_int], .inl ⟨?_, W ++ [d], b1, _, _, _, rfl, hb1, .snoc hw g1 g2 g3, by simp; omega⟩⟩
        rw [evSs_split C 3, ha]
        simp [dropS, l16_0, Fd.run, evSs, evS, evT, evE, evEs, evOs, evCs, evP, evI, evIf, PF.ap, opIdx, opLen, opMod, opAdd, opSum, opLt, opGt, opLe, stepD, getK, setD, putKs, setP, nodeAt, mmTy, mmAp, truth, E.pth, E.pu, Es.pu, imm, imms, fz, fzs, bind_one, bind_tup2, bind_tup3, bind_tup4, Tg.free, Tg.frees, Fd.kp, Fd.out, Fd.fin, finE, giveBack, wipeE, backE, seqOf, lcLoop, forLoop, lim, ix0, ix1, ix2, ix3, in0, in1, in2, dInts, imms_ints, imms_pairs, fzs_ints, fzs_pairs, fzs_app, imms_app, dInts_ints, in_lst, in_tup, dEq_int, imm_LS, imm_hs, hc, hk, hp1, hbi, ce, hat, hx]) ⟨[], b, none, none, none, rfl, hb, .nil, by simp⟩ with ⟨e', hf, hP | hB⟩ | ⟨r, e', hf, hq⟩
  · obtain ⟨W, b', x4, x5, x6, rfl, hb', hw, hl⟩ := hP
    exact ⟨_, hf, W, b', x4, x5, x6, rfl, hb', hw, by simp at hl; omega⟩
  · exact ⟨_, hf, hB⟩
  · exact hq.elim

theorem c17 {k : Nat} {h : Hs} (ok : h.Ok) {W : List Int} (hW : W.length ≤ 500) (w : Wk h W) :
    callN fs (k + 1 + 1) 17 [h.D, .tup (W.map .int)] = .ok (.tup [.tup ((h.run W).hands.map .int), .tup ((h.run W).wa.map .int), .tup ((h.plain W).map .int), .tup ((h.run W).ways.map oD)])
      [some h.D, some (.tup (W.map .int))] := by
  obtain ⟨C, hc, hk, hr⟩ := enter (fs := fs) (f := f17) (k := k + 1) (i := 17) (ds := [h.D, .tup (W.map .int)]) rfl rfl
  rw [hr, bd17]
  obtain ⟨e', hf, x6, x7, x8, rfl⟩ := for_pre (t := .one 6) (body := evSs C l17_0) Z.D.int
    (fun pre e => ∃ x6 x7 x8, e = [some h.D, some (.tup (W.map .int)), some (h.LS pre), some (.lst true ((h.run pre).hands.map .int)), some (.lst true ((h.run pre).wa.map .int)), some (.lst true ((h.run pre).ways.map oD)), x6, x7, x8, none]) W
    [some h.D, some (.tup (W.map .int)), some (h.LS []), some (.lst true [.int (h.key 0)]), some (.lst true []), some (.lst true (List.replicate h.ks.length .non)), none, none, none, none] (by
      rintro pre x post e hW' ⟨x6, x7, x8, rfl⟩
      have hp : pre.length ≤ 500 := by have := congrArg List.length hW'; simp at this; omega
      have hx := w.dr x (by simp [hW'])
      obtain ⟨p1, p2, p3⟩ := ok.pair hx
      have e := at_pair hx
      have hor := w.at hW'
      have ho := c15 (k := k) ok (W := pre) (by omega) hx
      have q1 := hands_len h pre
      have q2 := wa_len h pre
      have q3 := ways_len h pre
      have a1 : (h.pair x).1 < h.ks.length := by omega
      have a2 : 0 ≤ (h.pair x).2 := by omega
      have ia : ixN h.ks.length (h.pair x).1 = some (h.pair x).1.toNat := by simp [ixN, p1, a1]
      have ib : ixN h.ks.length (h.pair x).2 = some (h.pair x).2.toNat := by simp [ixN, p3, a2]
      have l1 : (h.run pre).hands.length < 16777216 := by omega
      have l2 : (h.run pre).wa.length < 16777216 := by omega
      have l3 : pre.length + 1 < 16777216 := by omega
      have hs1 : h.LS pre = .lst true [.lst true ((h.run pre).R.map .int), .lst true (pre.map .int), .int (h.run pre).hd] := rfl
      have hs2 : h.LS (pre ++ [x]) = .lst true [.lst true ((h.run (pre ++ [x])).R.map .int), .lst true ((pre ++ [x]).map .int), .int (h.run (pre ++ [x])).hd] := rfl
      rw [hs1, hs2] at ho
      simp only [hs1, hs2, Hs.D] at ho ⊢
      by_cases ca : (h.pair x).1 ∈ (h.run pre).R <;> by_cases cb : (h.pair x).2 ∈ (h.run pre).R
      · simp [run_snoc, Hs.st, fr, ca, cb] at ho
        simp [l17_0, Fd.run, evSs, evS, evT, evE, evEs, evOs, evCs, evP, evI, evIf, PF.ap, opIdx, opLen, opMod, opAdd, opSum, opLt, opGt, opLe, stepD, getK, setD, putKs, setP, nodeAt, mmTy, mmAp, truth, E.pth, E.pu, Es.pu, imm, imms, fz, fzs, bind_one, bind_tup2, bind_tup3, bind_tup4, Tg.free, Tg.frees, Fd.kp, Fd.out, Fd.fin, finE, giveBack, wipeE, backE, seqOf, lcLoop, forLoop, lim, ix0, ix1, ix2, ix3, in0, in1, in2, dInts, imms_ints, imms_pairs, fzs_ints, fzs_pairs, fzs_app, imms_app, dInts_ints, in_lst, in_tup, dEq_int, e, pairD, ca, cb, hc, hk, f17, ho, run_snoc, Hs.st, fr, q1, q3, l1, l2, l3, ia, ib, setW, oD, List.map_set]
      · simp [run_snoc, Hs.st, fr, ca, cb] at ho
        simp [l17_0, Fd.run, evSs, evS, evT, evE, evEs, evOs, evCs, evP, evI, evIf, PF.ap, opIdx, opLen, opMod, opAdd, opSum, opLt, opGt, opLe, stepD, getK, setD, putKs, setP, nodeAt, mmTy, mmAp, truth, E.pth, E.pu, Es.pu, imm, imms, fz, fzs, bind_one, bind_tup2, bind_tup3, bind_tup4, Tg.free, Tg.frees, Fd.kp, Fd.out, Fd.fin, finE, giveBack, wipeE, backE, seqOf, lcLoop, forLoop, lim, ix0, ix1, ix2, ix3, in0, in1, in2, dInts, imms_ints, imms_pairs, fzs_ints, fzs_pairs, fzs_app, imms_app, dInts_ints, in_lst, in_tup, dEq_int, e, pairD, ca, cb, hc, hk, f17, ho, run_snoc, Hs.st, fr, q1, q3, l1, l2, l3, ia, ib, setW, oD, List.map_set]
      · simp [run_snoc, Hs.st, fr, ca, cb] at ho
        simp [l17_0, Fd.run, evSs, evS, evT, evE, evEs, evOs, evCs, evP, evI, evIf, PF.ap, opIdx, opLen, opMod, opAdd, opSum, opLt, opGt, opLe, stepD, getK, setD, putKs, setP, nodeAt, mmTy, mmAp, truth, E.pth, E.pu, Es.pu, imm, imms, fz, fzs, bind_one, bind_tup2, bind_tup3, bind_tup4, Tg.free, Tg.frees, Fd.kp, Fd.out, Fd.fin, finE, giveBack, wipeE, backE, seqOf, lcLoop, forLoop, lim, ix0, ix1, ix2, ix3, in0, in1, in2, dInts, imms_ints, imms_pairs, fzs_ints, fzs_pairs, fzs_app, imms_app, dInts_ints, in_lst, in_tup, dEq_int, e, pairD, ca, cb, hc, hk, f17, ho, run_snoc, Hs.st, fr, q1, q3, l1, l2, l3, ia, ib, setW, oD, List.map_set]
      · simp [ca, cb] at hor) ⟨none, none, none, by simp [run_nil, Hs.f0, oD]⟩
  have hx := c13 (k := k) ok
  have hl := lc_mapT (own := [6]) (t := .one 6) (ifs := evIf C i17_0) (el := evE C e17_0) (pth := true)
    (e := [some h.D, some (.tup (W.map .int)), some (h.LS W), some (.lst true ((h.run W).hands.map .int)), some (.lst true ((h.run W).wa.map .int)), some (.lst true ((h.run W).ways.map oD)), none, x7, x8, none])
    Z.D.int (fun d => decide (d ∉ (h.run W).wa)) Z.D.int W (by
      intro d hdW
      by_cases cf : d ∈ (h.run W).wa <;>
      simp [i17_0, e17_0, Fd.run, evSs, evS, evT, evE, evEs, evOs, evCs, evP, evI, evIf, PF.ap, opIdx, opLen, opMod, opAdd, opSum, opLt, opGt, opLe, stepD, getK, setD, putKs, setP, nodeAt, mmTy, mmAp, truth, E.pth, E.pu, Es.pu, imm, imms, fz, fzs, bind_one, bind_tup2, bind_tup3, bind_tup4, Tg.free, Tg.frees, Fd.kp, Fd.out, Fd.fin, finE, giveBack, wipeE, backE, seqOf, lcLoop, forLoop, lim, ix0, ix1, ix2, ix3, in0, in1, in2, dInts, imms_ints, imms_pairs, fzs_ints, fzs_pairs, fzs_app, imms_app, dInts_ints, in_lst, in_tup, dEq_int, cf])
  have l1 : W.length ≤ 16777216 := by omega
  rw [show W.filter (fun d => decide (d ∉ (h.run W).wa)) = h.plain W from rfl] at hl
  have l2 := ok.kl
  have l3 := mul_non (n := h.ks.length) (by omega)
  have hs0 : h.LS [] = .lst true [.lst true ((h.run []).R.map .int), .lst true [], .int (h.run []).hd] := rfl
  have hr0 : (h.run []).hd = h.key 0 := rfl
  rw [hs0, hr0] at hf hx
  simp only [Hs.D] at hf hl hx ⊢
  simp [f17, d17, Fd.run, evSs, evS, evT, evE, evEs, evOs, evCs, evP, evI, evIf, PF.ap, opIdx, opLen, opMod, opAdd, opSum, opLt, opGt, opLe, stepD, getK, setD, putKs, setP, nodeAt, mmTy, mmAp, truth, E.pth, E.pu, Es.pu, imm, imms, fz, fzs, bind_one, bind_tup2, bind_tup3, bind_tup4, Tg.free, Tg.frees, Fd.kp, Fd.out, Fd.fin, finE, giveBack, wipeE, backE, seqOf, lcLoop, forLoop, lim, ix0, ix1, ix2, ix3, in0, in1, in2, dInts, imms_ints, imms_pairs, fzs_ints, fzs_pairs, fzs_app, imms_app, dInts_ints, in_lst, in_tup, dEq_int, ui17_0, ue17_0, pe17_0, hc, hk, hx, l1, l3, hl, hf, imms_os]

theorem same_int {k : Nat} {i : Int} : callN fs (k + 1) 18 [.int i, .int i] = .ok (.bl true) [some (.int i), some (.int i)] := by
  obtain ⟨C, hc, hk, hr⟩ := enter (fs := fs) (f := f18) (k := k) (i := 18) (ds := [.int i, .int i]) rfl rfl
  rw [hr, bd18]
  simp [f18, d18, Fd.run, evSs, evS, evT, evE, evEs, evOs, evCs, evP, evI, evIf, PF.ap, opIdx, opLen, opMod, opAdd, opSum, opLt, opGt, opLe, stepD, getK, setD, putKs, setP, nodeAt, mmTy, mmAp, truth, E.pth, E.pu, Es.pu, imm, imms, fz, fzs, bind_one, bind_tup2, bind_tup3, bind_tup4, Tg.free, Tg.frees, Fd.kp, Fd.out, Fd.fin, finE, giveBack, wipeE, backE, seqOf, lcLoop, forLoop, lim, ix0, ix1, ix2, ix3, in0, in1, in2, dInts, imms_ints, imms_pairs, fzs_ints, fzs_pairs, fzs_app, imms_app, dInts_ints, in_lst, in_tup, dEq_int, tyD, isiT]
theorem same_non {k : Nat} : callN fs (k + 1) 18 [.non, .non] = .ok (.bl true) [some .non, some .non] := by
  obtain ⟨C, hc, hk, hr⟩ := enter (fs := fs) (f := f18) (k := k) (i := 18) (ds := [.non, .non]) rfl rfl
  rw [hr, bd18]
  simp [f18, d18, Fd.run, evSs, evS, evT, evE, evEs, evOs, evCs, evP, evI, evIf, PF.ap, opIdx, opLen, opMod, opAdd, opSum, opLt, opGt, opLe, stepD, getK, setD, putKs, setP, nodeAt, mmTy, mmAp, truth, E.pth, E.pu, Es.pu, imm, imms, fz, fzs, bind_one, bind_tup2, bind_tup3, bind_tup4, Tg.free, Tg.frees, Fd.kp, Fd.out, Fd.fin, finE, giveBack, wipeE, backE, seqOf, lcLoop, forLoop, lim, ix0, ix1, ix2, ix3, in0, in1, in2, dInts, imms_ints, imms_pairs, fzs_ints, fzs_pairs, fzs_app, imms_app, dInts_ints, in_lst, in_tup, dEq_int, tyD, isiT]
theorem same_tup {k : Nat} {ds : List Z.D} (hn : ds.length ≤ 100000) (hi : imms ds = true) (h : ∀ d ∈ ds, imm d = true ∧ callN fs k 18 [d, d] = .ok (.bl true) [some d, some d]) :
    callN fs (k + 1) 18 [.tup ds, .tup ds] = .ok (.bl true) [some (.tup ds), some (.tup ds)] := by
  obtain ⟨C, hc, hk, hr⟩ := enter (fs := fs) (f := f18) (k := k) (i := 18) (ds := [.tup ds, .tup ds]) rfl rfl
  rw [hr, bd18]
  have hs62 : small62 (ds.length : Int) = true := by simp [small62]; omega
  obtain ⟨e', hf, x, rfl⟩ := for_pre (t := .one 2) (body := evSs C l18_0) (fun (i : Nat) => Z.D.int (i : Int))
    (fun pre e => ∃ x, e = [some (.tup ds), some (.tup ds), x]) (List.range ds.length) [some (.tup ds), some (.tup ds), none] (by
      rintro pre i post e hp ⟨x, rfl⟩
      have hil : i < ds.length := by have := mem_pre hp; simpa using this
      have ha : atI ds (i : Int) = some ds[i] := by
        rw [atI_nat (by omega) (by omega)]
        simp [List.getElem?_eq_getElem hil]
      obtain ⟨h1, h2⟩ := h ds[i] (List.getElem_mem hil)
      simp [l18_0, Fd.run, evSs, evS, evT, evE, evEs, evOs, evCs, evP, evI, evIf, PF.ap, opIdx, opLen, opMod, opAdd, opSum, opLt, opGt, opLe, stepD, getK, setD, putKs, setP, nodeAt, mmTy, mmAp, truth, E.pth, E.pu, Es.pu, imm, imms, fz, fzs, bind_one, bind_tup2, bind_tup3, bind_tup4, Tg.free, Tg.frees, Fd.kp, Fd.out, Fd.fin, finE, giveBack, wipeE, backE, seqOf, lcLoop, forLoop, lim, ix0, ix1, ix2, ix3, in0, in1, in2, dInts, imms_ints, imms_pairs, fzs_ints, fzs_pairs, fzs_app, imms_app, dInts_ints, in_lst, in_tup, dEq_int, hi, ha, hc, h1, h2]) ⟨none, rfl⟩
  simp [f18, d18, Fd.run, evSs, evS, evT, evE, evEs, evOs, evCs, evP, evI, evIf, PF.ap, opIdx, opLen, opMod, opAdd, opSum, opLt, opGt, opLe, stepD, getK, setD, putKs, setP, nodeAt, mmTy, mmAp, truth, E.pth, E.pu, Es.pu, imm, imms, fz, fzs, bind_one, bind_tup2, bind_tup3, bind_tup4, Tg.free, Tg.frees, Fd.kp, Fd.out, Fd.fin, finE, giveBack, wipeE, backE, seqOf, lcLoop, forLoop, lim, ix0, ix1, ix2, ix3, in0, in1, in2, dInts, imms_ints, imms_pairs, fzs_ints, fzs_pairs, fzs_app, imms_app, dInts_ints, in_lst, in_tup, dEq_int, tyD, isiT, hi, hk, hs62, rngZ, hf]
theorem same_ints {k : Nat} {xs : List Int} (hn : xs.length ≤ 100000) : callN fs (k + 1 + 1) 18 [.tup (xs.map .int), .tup (xs.map .int)] = .ok (.bl true) [some (.tup (xs.map .int)), some (.tup (xs.map .int))] :=
  same_tup (by simpa using hn) imms_ints fun d hd => by
    obtain ⟨i, _, rfl⟩ := List.mem_map.mp hd
    exact ⟨rfl, same_int⟩
theorem same_os {k : Nat} {xs : List (Option Int)} (hn : xs.length ≤ 100000) : callN fs (k + 1 + 1) 18 [.tup (xs.map oD), .tup (xs.map oD)] = .ok (.bl true) [some (.tup (xs.map oD)), some (.tup (xs.map oD))] :=
  same_tup (by simpa using hn) (imms_os xs) fun d hd => by
    obtain ⟨i, _, rfl⟩ := List.mem_map.mp hd
    cases i with
    | none => exact ⟨rfl, same_non⟩
    | some i => exact ⟨rfl, same_int⟩
theorem at_nat {xs : List Int} {n : Nat} {v : Int} (h : xs[n]? = some v) : atI (xs.map Z.D.int) (n : Int) = some (.int v) := by
  have hl : n < xs.length := by
    rcases Nat.lt_or_ge n xs.length with h' | h'
    · exact h'
    · rw [List.getElem?_eq_none h'] at h; cases h
  rw [atI_nat (by omega) (by simpa using hl)]
  simp [h]
theorem c19 {k : Nat} {h : Hs} (ok : h.Ok) {W : List Int} (hW : W.length ≤ 500) (w : Wk h W) :
    callN fs (k + 1 + 1 + 1 + 1 + 1) 19 [h.D, .tup (W.map .int)] = .ok (.bl true) [some h.D, some (.tup (W.map .int))] := by
  obtain ⟨C, hc, hk, hr⟩ := enter (fs := fs) (f := f19) (k := k + 1 + 1 + 1 + 1) (i := 19) (ds := [h.D, .tup (W.map .int)]) rfl rfl
  rw [hr, bd19]
  have hpl : (h.plain W).length ≤ W.length := List.length_filter_le _ _
  have w2 := w.plain
  have hW2 : (h.plain W).length ≤ 500 := by omega
  obtain ⟨r1, r2, r3, r4⟩ := plain_run w
  have a17 := c17 (k := k + 1 + 1) ok hW w
  have b17 := c17 (k := k + 1 + 1) ok hW2 w2
  have a3 := c3 (k := k + 1) ok hW w.dr
  have b3 := c3 (k := k + 1) ok hW2 w2.dr
  have a5 := c5 (k := k + 1) ok hW w.dr
  have b5 := c5 (k := k + 1) ok hW2 w2.dr
  have a6 := c6 (k := k) ok hW w.dr
  have a7 := c7 (k := k + 1) ok hW w.dr
  have s1 := same_ints (k := k + 1 + 1) (xs := (h.run W).hands) (by rw [hands_len]; omega)
  have s2 := same_ints (k := k + 1 + 1) (xs := (h.run W).wa) (by have := wa_len h W; omega)
  have s3 := same_ints (k := k + 1 + 1) (xs := h.plain W) (by omega)
  have s4 := same_os (k := k + 1 + 1) (xs := (h.run W).ways) (by rw [ways_len]; have := ok.kl; omega)
  have s5 := same_ints (k := k + 1 + 1) (xs := (h.run (h.plain W)).hands) (by rw [hands_len]; omega)
  have s6 := same_ints (k := k + 1 + 1) (xs := []) (by simp)
  have t1 := at_nat (hands_last h W)
  have t2 := at_nat (hands_last h (h.plain W))
  rw [r2] at t2
  rw [r3, r4] at b17
  rw [r4] at b5
  simp only [List.map_nil] at b17 b5 s6
  simp [f19, d19, Fd.run, evSs, evS, evT, evE, evEs, evOs, evCs, evP, evI, evIf, PF.ap, opIdx, opLen, opMod, opAdd, opSum, opLt, opGt, opLe, stepD, getK, setD, putKs, setP, nodeAt, mmTy, mmAp, truth, E.pth, E.pu, Es.pu, imm, imms, fz, fzs, bind_one, bind_tup2, bind_tup3, bind_tup4, Tg.free, Tg.frees, Fd.kp, Fd.out, Fd.fin, finE, giveBack, wipeE, backE, seqOf, lcLoop, forLoop, lim, ix0, ix1, ix2, ix3, in0, in1, in2, dInts, imms_ints, imms_pairs, fzs_ints, fzs_pairs, fzs_app, imms_app, dInts_ints, in_lst, in_tup, dEq_int, imm_hs, hc, hk, a17, b17, a3, b3, a5, b5, a6, a7, s1, s2, s3, s4, s5, s6, t1, t2, imms_os, permL, dEq_os]

theorem atI_bls {ps : List Bool} {i : Int} (h0 : 0 ≤ i) (h : i < ps.length) : ∃ p, atI (ps.map Z.D.bl) i = some (.bl p) := by
  rw [atI_nat h0 (by simpa using h)]
  have hj : i.toNat < ps.length := by omega
  exact ⟨ps[i.toNat], by simp [List.getElem?_map, List.getElem?_eq_getElem hj]⟩
theorem bowl_step {C : Z.Ctx} {ns : List Int} {L : Nat} (hL : 0 < L) {j : Int} (j0 : 0 ≤ j) (hj : j < 700) {sd : List Int} {vs : List Bool} {tm ps : List Int} {st : Int} {a b : Option Z.D}
    (h1 : sd.length = L) (h2 : vs.length = L) (h3 : tm.length = L) (h4 : ps.length < 1000) (kp : C.kp = f8.kp) :
    ∃ (sd' : List Int) (p st' : Int) (b' : Option Z.D), evSs C l8_0 [some (.scr ns), some (.lst true (sd.map .int)), some (.lst false (vs.map .bl)), some (.lst false (tm.map .int)), some (.lst true (ps.map .int)), some (.int st), some (.int j), b, none, none] =
      .next [some (.scr ns), some (.lst true (sd'.map .int)), some (.lst false (vs.map .bl)), some (.lst false (tm.map .int)), some (.lst true ((ps ++ [p]).map .int)), some (.int st'), some (.int j), b', none, none] ∧ sd'.length = L := by
  have hp : (0 : Int) < L := by omega
  obtain ⟨q, hq⟩ : ∃ q, q = j % (L : Int) := ⟨_, rfl⟩
  have g0 : 0 ≤ q := by rw [hq]; exact Int.emod_nonneg _ (by omega)
  have g1 : q < L := by rw [hq]; exact Int.emod_lt_of_pos _ hp
  obtain ⟨s, _, hs⟩ := atI_ints (ps := sd) g0 (by omega)
  obtain ⟨t, _, ht⟩ := atI_ints (ps := tm) g0 (by omega)
  obtain ⟨v, hv⟩ := atI_bls (ps := vs) g0 (by omega)
  have m1 : mulOk j 1 = true := by simp [mulOk]
  have m2 : mulOk j j = true := by simp [mulOk]; omega
  have m3 : ∀ x : Int, mulOk x 48271 = true := fun x => by simp [mulOk]
  have m4 : ∀ x : Int, mulOk x 37 = true := fun x => by simp [mulOk]
  have m5 : ∀ x : Int, mulOk x 41 = true := fun x => by simp [mulOk]
  have lg : (Nat.log2 32760 ≤ 8999) = True := by decide
  have lg2 : (Nat.log2 29 ≤ 8999) = True := by decide
  have lp : ps.length < 16777216 := by omega
  have hi : ixN L q = some q.toNat := by simp [ixN, g0, g1]
  by_cases hc : v = true ∧ 0 < s
  · obtain ⟨rfl, hc⟩ := hc
    refine ⟨sd.set q.toNat (s / 32760), s % 32760, (st * 48271 + t * 37 + j * j * 41 + 9) % 2147483647, some (.int q), ?_, by simpa using h1⟩
    simp [l8_0, Fd.run, evSs, evS, evT, evE, evEs, evOs, evCs, evP, evI, evIf, PF.ap, opIdx, opLen, opMod, opAdd, opSum, opLt, opGt, opLe, stepD, getK, setD, putKs, setP, nodeAt, mmTy, mmAp, truth, E.pth, E.pu, Es.pu, imm, imms, fz, fzs, bind_one, bind_tup2, bind_tup3, bind_tup4, Tg.free, Tg.frees, Fd.kp, Fd.out, Fd.fin, finE, giveBack, wipeE, backE, seqOf, lcLoop, forLoop, lim, ix0, ix1, ix2, ix3, in0, in1, in2, dInts, imms_ints, imms_pairs, fzs_ints, fzs_pairs, fzs_app, imms_app, dInts_ints, in_lst, in_tup, dEq_int, opMul, opDiv, lg, lg2, kp, f8, h1, h2, h3, ← hq, hp, hL, hs, ht, hv, m1, m2, m3, m4, m5, lp, hi, hc, List.map_set]
  · refine ⟨sd, ((st * 48271 + t * 37 + j * j * 41 + 9) % 2147483647) / 29 % 32760, (st * 48271 + t * 37 + j * j * 41 + 9) % 2147483647, some (.int q), ?_, h1⟩
    have hc' : v = true → ¬ 0 < s := fun a b => hc ⟨a, b⟩
    cases v
    · simp [l8_0, Fd.run, evSs, evS, evT, evE, evEs, evOs, evCs, evP, evI, evIf, PF.ap, opIdx, opLen, opMod, opAdd, opSum, opLt, opGt, opLe, stepD, getK, setD, putKs, setP, nodeAt, mmTy, mmAp, truth, E.pth, E.pu, Es.pu, imm, imms, fz, fzs, bind_one, bind_tup2, bind_tup3, bind_tup4, Tg.free, Tg.frees, Fd.kp, Fd.out, Fd.fin, finE, giveBack, wipeE, backE, seqOf, lcLoop, forLoop, lim, ix0, ix1, ix2, ix3, in0, in1, in2, dInts, imms_ints, imms_pairs, fzs_ints, fzs_pairs, fzs_app, imms_app, dInts_ints, in_lst, in_tup, dEq_int, opMul, opDiv, lg, lg2, kp, f8, h1, h2, h3, ← hq, hp, hL, hs, ht, hv, m1, m2, m3, m4, m5, lp, hi, List.map_set]
    · have hz : ¬ 0 < s := hc' rfl
      simp [l8_0, Fd.run, evSs, evS, evT, evE, evEs, evOs, evCs, evP, evI, evIf, PF.ap, opIdx, opLen, opMod, opAdd, opSum, opLt, opGt, opLe, stepD, getK, setD, putKs, setP, nodeAt, mmTy, mmAp, truth, E.pth, E.pu, Es.pu, imm, imms, fz, fzs, bind_one, bind_tup2, bind_tup3, bind_tup4, Tg.free, Tg.frees, Fd.kp, Fd.out, Fd.fin, finE, giveBack, wipeE, backE, seqOf, lcLoop, forLoop, lim, ix0, ix1, ix2, ix3, in0, in1, in2, dInts, imms_ints, imms_pairs, fzs_ints, fzs_pairs, fzs_app, imms_app, dInts_ints, in_lst, in_tup, dEq_int, opMul, opDiv, lg, lg2, kp, f8, h1, h2, h3, ← hq, hp, hL, hs, ht, hv, m1, m2, m3, m4, m5, lp, hi, hz, List.map_set]
theorem c8 {k : Nat} {ns : List Int} (hn : ns.length ≤ 63) : ∃ b, callN fs (k + 1) 8 [.scr ns] = .ok b [some (.scr ns)] ∧ Bowl b := by
  obtain ⟨C, hc, hk, hr⟩ := enter (fs := fs) (f := f8) (k := k) (i := 8) (ds := [.scr ns]) rfl rfl
  rw [hr, bd8]
  have l1 : ns.length ≤ 16777216 := by omega
  have hl1 := lc_mapA (own := [8]) (t := .one 8) (ifs := evIf C i8_0) (el := evE C e8_0) (pth := false) (e := [some (.scr ns), none, none, none, none, none, none, none, none, none])
    Z.D.int (fun n => .int (if n < 0 then -n else n)) ns (by
      intro n _
      simp [i8_0, e8_0, Fd.run, evSs, evS, evT, evE, evEs, evOs, evCs, evP, evI, evIf, PF.ap, opIdx, opLen, opMod, opAdd, opSum, opLt, opGt, opLe, stepD, getK, setD, putKs, setP, nodeAt, mmTy, mmAp, truth, E.pth, E.pu, Es.pu, imm, imms, fz, fzs, bind_one, bind_tup2, bind_tup3, bind_tup4, Tg.free, Tg.frees, Fd.kp, Fd.out, Fd.fin, finE, giveBack, wipeE, backE, seqOf, lcLoop, forLoop, lim, ix0, ix1, ix2, ix3, in0, in1, in2, dInts, imms_ints, imms_pairs, fzs_ints, fzs_pairs, fzs_app, imms_app, dInts_ints, in_lst, in_tup, dEq_int])
  obtain ⟨sd, ha, s0, s1⟩ : ∃ sd : List Int, evSs C (takeS 2 d8) [some (.scr ns), none, none, none, none, none, none, none, none, none] =
      .next [some (.scr ns), some (.lst true (sd.map .int)), none, none, none, none, none, none, none, none] ∧ 0 < sd.length ∧ sd.length ≤ 63 := by
    rw [show ns.map (fun n => Z.D.int (if n < 0 then -n else n)) = (ns.map fun n => if n < 0 then -n else n).map .int by simp] at hl1
    generalize hg : (ns.map fun n => if n < 0 then -n else n) = vs at hl1
    have hv : vs.length = ns.length := by simp [← hg]
    by_cases c0 : vs = []
    · subst c0
      exact ⟨[515], by simp [takeS, d8, Fd.run, evSs, evS, evT, evE, evEs, evOs, evCs, evP, evI, evIf, PF.ap, opIdx, opLen, opMod, opAdd, opSum, opLt, opGt, opLe, stepD, getK, setD, putKs, setP, nodeAt, mmTy, mmAp, truth, E.pth, E.pu, Es.pu, imm, imms, fz, fzs, bind_one, bind_tup2, bind_tup3, bind_tup4, Tg.free, Tg.frees, Fd.kp, Fd.out, Fd.fin, finE, giveBack, wipeE, backE, seqOf, lcLoop, forLoop, lim, ix0, ix1, ix2, ix3, in0, in1, in2, dInts, imms_ints, imms_pairs, fzs_ints, fzs_pairs, fzs_app, imms_app, dInts_ints, in_lst, in_tup, dEq_int, ui8_0, ue8_0, pe8_0, ui8_1, ue8_1, pe8_1, ui8_2, ue8_2, pe8_2, l1, hl1, hk, f8], by simp, by simp⟩
    · have c3 := List.length_pos_iff.mpr c0
      exact ⟨vs, by simp [takeS, d8, Fd.run, evSs, evS, evT, evE, evEs, evOs, evCs, evP, evI, evIf, PF.ap, opIdx, opLen, opMod, opAdd, opSum, opLt, opGt, opLe, stepD, getK, setD, putKs, setP, nodeAt, mmTy, mmAp, truth, E.pth, E.pu, Es.pu, imm, imms, fz, fzs, bind_one, bind_tup2, bind_tup3, bind_tup4, Tg.free, Tg.frees, Fd.kp, Fd.out, Fd.fin, finE, giveBack, wipeE, backE, seqOf, lcLoop, forLoop, lim, ix0, ix1, ix2, ix3, in0, in1, in2, dInts, imms_ints, imms_pairs, fzs_ints, fzs_pairs, fzs_app, imms_app, dInts_ints, in_lst, in_tup, dEq_int, ui8_0, ue8_0, pe8_0, ui8_1, ue8_1, pe8_1, ui8_2, ue8_2, pe8_2, l1, hl1, hk, f8, c0], c3, by omega⟩
  have hl2 := lc_mapA (own := [9]) (t := .one 9) (ifs := evIf C i8_1) (el := evE C e8_1) (pth := false) (e := [some (.scr ns), some (.lst true (sd.map .int)), none, none, none, none, none, none, none, none])
    Z.D.int (fun n => .bl (decide (1000000000000000000 ≤ n))) sd (by
      intro n _
      simp [i8_1, e8_1, Fd.run, evSs, evS, evT, evE, evEs, evOs, evCs, evP, evI, evIf, PF.ap, opIdx, opLen, opMod, opAdd, opSum, opLt, opGt, opLe, stepD, getK, setD, putKs, setP, nodeAt, mmTy, mmAp, truth, E.pth, E.pu, Es.pu, imm, imms, fz, fzs, bind_one, bind_tup2, bind_tup3, bind_tup4, Tg.free, Tg.frees, Fd.kp, Fd.out, Fd.fin, finE, giveBack, wipeE, backE, seqOf, lcLoop, forLoop, lim, ix0, ix1, ix2, ix3, in0, in1, in2, dInts, imms_ints, imms_pairs, fzs_ints, fzs_pairs, fzs_app, imms_app, dInts_ints, in_lst, in_tup, dEq_int, opPow])
  rw [show sd.map (fun n => Z.D.bl (decide (1000000000000000000 ≤ n))) = (sd.map fun n => decide (1000000000000000000 ≤ n)).map .bl by simp] at hl2
  have hv2 : (sd.map fun n : Int => decide (1000000000000000000 ≤ n)).length = sd.length := by simp
  generalize (sd.map fun n : Int => decide (1000000000000000000 ≤ n)) = vs at hl2 hv2
  have hl3 := lc_mapA (own := [9]) (t := .one 9) (ifs := evIf C i8_2) (el := evE C e8_2) (pth := false) (e := [some (.scr ns), some (.lst true (sd.map .int)), some (.lst false (vs.map .bl)), none, none, none, none, none, none, none])
    Z.D.int (fun n => .int (n % 1000253)) sd (by
      intro n _
      simp [i8_2, e8_2, Fd.run, evSs, evS, evT, evE, evEs, evOs, evCs, evP, evI, evIf, PF.ap, opIdx, opLen, opMod, opAdd, opSum, opLt, opGt, opLe, stepD, getK, setD, putKs, setP, nodeAt, mmTy, mmAp, truth, E.pth, E.pu, Es.pu, imm, imms, fz, fzs, bind_one, bind_tup2, bind_tup3, bind_tup4, Tg.free, Tg.frees, Fd.kp, Fd.out, Fd.fin, finE, giveBack, wipeE, backE, seqOf, lcLoop, forLoop, lim, ix0, ix1, ix2, ix3, in0, in1, in2, dInts, imms_ints, imms_pairs, fzs_ints, fzs_pairs, fzs_app, imms_app, dInts_ints, in_lst, in_tup, dEq_int])
  rw [show sd.map (fun n => Z.D.int (n % 1000253)) = (sd.map fun n => n % 1000253).map .int by simp] at hl3
  have hv3 : (sd.map fun n : Int => n % 1000253).length = sd.length := by simp
  generalize (sd.map fun n : Int => n % 1000253) = tm at hl3 hv3
  obtain ⟨e', hf, sd', ps, st, a, b, rfl, hp, hsd⟩ := for_pre (t := .one 6) (body := evSs C l8_0) (fun (i : Nat) => Z.D.int (i : Int))
    (fun pre e => ∃ (sd' ps : List Int) (st : Int) (a b : Option Z.D), e = [some (.scr ns), some (.lst true (sd'.map .int)), some (.lst false (vs.map .bl)), some (.lst false (tm.map .int)), some (.lst true (ps.map .int)), some (.int st), a, b, none, none] ∧
      ps.length = pre.length ∧ sd'.length = sd.length) (List.range 700)
    [some (.scr ns), some (.lst true (sd.map .int)), some (.lst false (vs.map .bl)), some (.lst false (tm.map .int)), some (.lst true []), some (.int 2221), none, none, none, none] (by
      rintro pre i post e hpi ⟨sd', ps, st, a, b, rfl, hp, hsd⟩
      have hil : i < 700 := by have := mem_pre hpi; simpa using this
      have hpl : pre.length < 700 := by have := congrArg List.length hpi; simp at this; omega
      obtain ⟨sd2, p, st2, b2, hb, h5⟩ := bowl_step (C := C) (ns := ns) (L := sd.length) s0 (j := (i : Int)) (by omega) (by omega) (sd := sd') (vs := vs) (tm := tm) (ps := ps) (st := st) (a := a) (b := b) hsd hv2 hv3 (by omega) hk
      exact ⟨_, _, by simp [Fd.run, evSs, evS, evT, evE, evEs, evOs, evCs, evP, evI, evIf, PF.ap, opIdx, opLen, opMod, opAdd, opSum, opLt, opGt, opLe, stepD, getK, setD, putKs, setP, nodeAt, mmTy, mmAp, truth, E.pth, E.pu, Es.pu, imm, imms, fz, fzs, bind_one, bind_tup2, bind_tup3, bind_tup4, Tg.free, Tg.frees, Fd.kp, Fd.out, Fd.fin, finE, giveBack, wipeE, backE, seqOf, lcLoop, forLoop, lim, ix0, ix1, ix2, ix3, in0, in1, in2, dInts, imms_ints, imms_pairs, fzs_ints, fzs_pairs, fzs_app, imms_app, dInts_ints, in_lst, in_tup, dEq_int], .inl hb, sd2, ps ++ [p], st2, _, b2, rfl, by simp [hp], h5⟩) ⟨sd, [], 2221, none, none, by simp⟩
  refine ⟨.lst true [.lst true (ps.map .int), .int 0], ?_, ⟨ps, 0, rfl, by simpa using hp, by omega⟩⟩
  have l2 : sd.length ≤ 16777216 := by omega
  have hs62 : small62 700 = true := by decide
  rw [evSs_split C 2, show (List.map some [Z.D.scr ns] ++ List.replicate (f8.n - f8.np) none) = [some (.scr ns), none, none, none, none, none, none, none, none, none] from rfl, ha]
  have hr700 : rng 0 700 = (List.range 700).map fun (i : Nat) => Z.D.int (i : Int) := rngZ 700
  simp [f8, d8, dropS, Fd.run, evSs, evS, evT, evE, evEs, evOs, evCs, evP, evI, evIf, PF.ap, opIdx, opLen, opMod, opAdd, opSum, opLt, opGt, opLe, stepD, getK, setD, putKs, setP, nodeAt, mmTy, mmAp, truth, E.pth, E.pu, Es.pu, imm, imms, fz, fzs, bind_one, bind_tup2, bind_tup3, bind_tup4, Tg.free, Tg.frees, Fd.kp, Fd.out, Fd.fin, finE, giveBack, wipeE, backE, seqOf, lcLoop, forLoop, lim, ix0, ix1, ix2, ix3, in0, in1, in2, dInts, imms_ints, imms_pairs, fzs_ints, fzs_pairs, fzs_app, imms_app, dInts_ints, in_lst, in_tup, dEq_int, ui8_0, ue8_0, pe8_0, ui8_1, ue8_1, pe8_1, ui8_2, ue8_2, pe8_2, hk, l2, hl2, hl3, fzs_bls, imms_bls, hs62, hr700, hf]

theorem dPairs_pairs (ps : List (Int × Int)) : dPairs (ps.map pairD) = some ps := by induction ps with
  | nil => rfl
  | cons p ps ih => simp only [List.map_cons, pairD, dPairs]; rw [show List.map pairD ps = List.map pairD ps from rfl]; simp [ih]
theorem sorted_pairs (m : Bool) (ps : List (Int × Int)) : ∃ qs : List (Int × Int), opSorted (.lst m (ps.map pairD)) = some (.lst true (qs.map pairD)) ∧ qs.length = ps.length ∧ ∀ p ∈ qs, p ∈ ps := by
  cases ps with
  | nil => exact ⟨[], by simp [opSorted, dInts], rfl, fun _ h => h⟩
  | cons p ps =>
    refine ⟨(p :: ps).mergeSort leP, ?_, by simp, fun q hq => by simpa using hq⟩
    have h1 : dInts ((p :: ps).map pairD) = none := by simp [pairD, dInts]
    simp only [opSorted, h1, dPairs_pairs]
    rfl
theorem c10 {k : Nat} {b : Z.D} (hb : Bowl b) {rooms doors : Int} (r0 : 2 ≤ rooms) (r1 : rooms ≤ 60) (d0 : 0 ≤ doors) (d1 : doors ≤ 150) :
    ∃ (h : Hs) (b' : Z.D), callN fs (k + 1 + 1) 10 [b, .int rooms, .int doors] = .ok h.D [some b', some (.int rooms), some (.int doors)] ∧ Bowl b' ∧ h.Ok ∧ h.ks.length = rooms ∧ 0 < h.hs.length ∧ h.hs.length ≤ 60 := by
  obtain ⟨C, hc, hk, hr⟩ := enter (fs := fs) (f := f10) (k := k + 1) (i := 10) (ds := [b, .int rooms, .int doors]) rfl rfl
  rw [hr, bd10]
  have hs1 : small62 rooms = true := by simp [small62]; omega
  have hs2 : small62 doors = true := by simp [small62]; omega
  have hs3 : small62 1 = true := by decide
  -- keys
  obtain ⟨hab, b1, hp1, hb1, q1, q2⟩ := c9 (k := k) hb (many := 6) (by omega)
  obtain ⟨e', hf, b2, ks, x5, rfl, hb2, hks⟩ := for_pre (t := .one 5) (body := evSs C l10_0) (fun (i : Nat) => Z.D.int (i : Int))
    (fun pre e => ∃ (b' : Z.D) (ks : List Int) (x5 : Option Z.D), e = [some b', some (.int rooms), some (.int doors), some (.int hab), some (.lst true (ks.map .int)), x5, none, none, none, none, none, none] ∧ Bowl b' ∧ ks.length = pre.length) (List.range rooms.toNat)
    [some b1, some (.int rooms), some (.int doors), some (.int hab), some (.lst true []), none, none, none, none, none, none, none] (by
      rintro pre i post e hpi ⟨b', ks, x5, rfl, hb', hks⟩
      have hpl : pre.length < 60 := by have := congrArg List.length hpi; simp at this; omega
      obtain ⟨a1, c1, e1, hc1, _, _⟩ := c9 (k := k) hb' (many := 3) (by omega)
      obtain ⟨a2, c2, e2, hc2, _, _⟩ := c9 (k := k) hc1 (many := 2) (by omega)
      obtain ⟨a3, c3, e3, hc3, _, _⟩ := c9 (k := k) hc2 (many := 5) (by omega)
      obtain ⟨a4, c4, e4, hc4, _, _⟩ := c9 (k := k) hc3 (many := 100) (by omega)
      have i0 := hb'.imm
      have i1 := hc1.imm
      have i2 := hc2.imm
      have i3 := hc3.imm
      have lk : ks.length < 16777216 := by omega
      obtain ⟨v, _, hv⟩ := atI_ints (ps := [a1, 1, a2, a3, 0, a4]) q1 (by simp; omega)
      simp only [List.map_cons, List.map_nil] at hv
      refine ⟨_, [some c4, some (.int rooms), some (.int doors), some (.int hab), some (.lst true ((ks ++ [v]).map .int)), some (.int i), none, none, none, none, none, none], by simp [Fd.run, evSs, evS, evT, evE, evEs, evOs, evCs, evP, evI, evIf, PF.ap, opIdx, opLen, opMod, opAdd, opSum, opLt, opGt, opLe, stepD, getK, setD, putKs, setP, nodeAt, mmTy, mmAp, truth, E.pth, E.pu, Es.pu, imm, imms, fz, fzs, bind_one, bind_tup2, bind_tup3, bind_tup4, Tg.free, Tg.frees, Fd.kp, Fd.out, Fd.fin, finE, giveBack, wipeE, backE, seqOf, lcLoop, forLoop, lim, ix0, ix1, ix2, ix3, in0, in1, in2, dInts, imms_ints, imms_pairs, fzs_ints, fzs_pairs, fzs_app, imms_app, dInts_ints, in_lst, in_tup, dEq_int]; rfl, .inl ?_, c4, ks ++ [v], _, rfl, hc4, by simp [hks]⟩
      simp [l10_0, Fd.run, evSs, evS, evT, evE, evEs, evOs, evCs, evP, evI, evIf, PF.ap, opIdx, opLen, opMod, opAdd, opSum, opLt, opGt, opLe, stepD, getK, setD, putKs, setP, nodeAt, mmTy, mmAp, truth, E.pth, E.pu, Es.pu, imm, imms, fz, fzs, bind_one, bind_tup2, bind_tup3, bind_tup4, Tg.free, Tg.frees, Fd.kp, Fd.out, Fd.fin, finE, giveBack, wipeE, backE, seqOf, lcLoop, forLoop, lim, ix0, ix1, ix2, ix3, in0, in1, in2, dInts, imms_ints, imms_pairs, fzs_ints, fzs_pairs, fzs_app, imms_app, dInts_ints, in_lst, in_tup, dEq_int, hc, e1, e2, e3, e4, i0, i1, i2, i3, lk, hv]) ⟨b1, [], none, rfl, hb1, rfl⟩
  have hA : evSs C (takeS 3 d10) [some b, some (.int rooms), some (.int doors), none, none, none, none, none, none, none, none, none] =
      .next [some b2, some (.int rooms), some (.int doors), some (.int hab), some (.lst true (ks.map .int)), x5, none, none, none, none, none, none] := by
    have i0 := hb.imm
    simp [takeS, d10, Fd.run, evSs, evS, evT, evE, evEs, evOs, evCs, evP, evI, evIf, PF.ap, opIdx, opLen, opMod, opAdd, opSum, opLt, opGt, opLe, stepD, getK, setD, putKs, setP, nodeAt, mmTy, mmAp, truth, E.pth, E.pu, Es.pu, imm, imms, fz, fzs, bind_one, bind_tup2, bind_tup3, bind_tup4, Tg.free, Tg.frees, Fd.kp, Fd.out, Fd.fin, finE, giveBack, wipeE, backE, seqOf, lcLoop, forLoop, lim, ix0, ix1, ix2, ix3, in0, in1, in2, dInts, imms_ints, imms_pairs, fzs_ints, fzs_pairs, fzs_app, imms_app, dInts_ints, in_lst, in_tup, dEq_int, hc, hk, f10, hp1, i0, hs1, rngZ, hf]
  have hksl : (ks.length : Int) = rooms := by simp at hks; omega
  -- keys of the entrance
  obtain ⟨b3, ks2, hB, hb3, hksl2⟩ : ∃ (b3 : Z.D) (ks2 : List Int), evSs C (takeS 2 (dropS 3 d10)) [some b2, some (.int rooms), some (.int doors), some (.int hab), some (.lst true (ks.map .int)), x5, none, none, none, none, none, none] =
      .next [some b3, some (.int rooms), some (.int doors), some (.int hab), some (.lst true (ks2.map .int)), x5, some (.lst true []), none, none, none, none, none] ∧ Bowl b3 ∧ (ks2.length : Int) = rooms := by
    obtain ⟨a1, c1, e1, hc1, _, _⟩ := c9 (k := k) hb2 (many := 4) (by omega)
    obtain ⟨a2, c2, e2, hc2, _, _⟩ := c9 (k := k) hc1 (many := 9) (by omega)
    have i0 := hb2.imm
    have i1 := hc1.imm
    have hi : ixN ks.length 0 = some 0 := by
      have : 0 < ks.length := by omega
      simp [ixN, this]
    by_cases c0 : 0 < a1
    · exact ⟨c2, ks.set 0 (1 + a2), by simp [takeS, dropS, d10, Fd.run, evSs, evS, evT, evE, evEs, evOs, evCs, evP, evI, evIf, PF.ap, opIdx, opLen, opMod, opAdd, opSum, opLt, opGt, opLe, stepD, getK, setD, putKs, setP, nodeAt, mmTy, mmAp, truth, E.pth, E.pu, Es.pu, imm, imms, fz, fzs, bind_one, bind_tup2, bind_tup3, bind_tup4, Tg.free, Tg.frees, Fd.kp, Fd.out, Fd.fin, finE, giveBack, wipeE, backE, seqOf, lcLoop, forLoop, lim, ix0, ix1, ix2, ix3, in0, in1, in2, dInts, imms_ints, imms_pairs, fzs_ints, fzs_pairs, fzs_app, imms_app, dInts_ints, in_lst, in_tup, dEq_int, hc, hk, f10, e1, e2, i0, i1, c0, hi, List.map_set], hc2, by simpa using hksl⟩
    · exact ⟨c1, ks, by simp [takeS, dropS, d10, Fd.run, evSs, evS, evT, evE, evEs, evOs, evCs, evP, evI, evIf, PF.ap, opIdx, opLen, opMod, opAdd, opSum, opLt, opGt, opLe, stepD, getK, setD, putKs, setP, nodeAt, mmTy, mmAp, truth, E.pth, E.pu, Es.pu, imm, imms, fz, fzs, bind_one, bind_tup2, bind_tup3, bind_tup4, Tg.free, Tg.frees, Fd.kp, Fd.out, Fd.fin, finE, giveBack, wipeE, backE, seqOf, lcLoop, forLoop, lim, ix0, ix1, ix2, ix3, in0, in1, in2, dInts, imms_ints, imms_pairs, fzs_ints, fzs_pairs, fzs_app, imms_app, dInts_ints, in_lst, in_tup, dEq_int, hc, hk, f10, e1, i0, c0], hc1, hksl⟩
  -- doors
  obtain ⟨e', hfC, b4, ps, y7, y8, y9, rfl, hb4, hpsl, hps⟩ := for_pre (t := .one 7) (body := evSs C l10_1) (fun (i : Nat) => Z.D.int (i : Int))
    (fun pre e => ∃ (b' : Z.D) (ps : List (Int × Int)) (x7 x8 x9 : Option Z.D), e = [some b', some (.int rooms), some (.int doors), some (.int hab), some (.lst true (ks2.map .int)), x5, some (.lst true (ps.map pairD)), x7, x8, x9, none, none] ∧ Bowl b' ∧
      ps.length ≤ pre.length ∧ ∀ p ∈ ps, 0 ≤ p.1 ∧ p.1 < p.2 ∧ p.2 < rooms) (List.range doors.toNat)
    [some b3, some (.int rooms), some (.int doors), some (.int hab), some (.lst true (ks2.map .int)), x5, some (.lst true []), none, none, none, none, none] (by
      rintro pre i post e hpi ⟨b', ps, x7, x8, x9, rfl, hb', hpl, hps⟩
      have hpl2 : pre.length < 150 := by have := congrArg List.length hpi; simp at this; omega
      obtain ⟨lap, hlap⟩ : ∃ lap : Int, lap = (i : Int) := ⟨_, rfl⟩
      have l0 : 0 ≤ lap := by omega
      obtain ⟨one, oth, c4, hs1', hc4, o1, o2, o3, o4⟩ : ∃ (one oth : Int) (c4 : Z.D), evSs C (takeS 3 l10_1) [some b', some (.int rooms), some (.int doors), some (.int hab), some (.lst true (ks2.map .int)), x5, some (.lst true (ps.map pairD)), some (.int lap), x8, x9, none, none] =
          .next [some c4, some (.int rooms), some (.int doors), some (.int hab), some (.lst true (ks2.map .int)), x5, some (.lst true (ps.map pairD)), some (.int lap), some (.int one), some (.int oth), none, none] ∧ Bowl c4 ∧ 0 ≤ one ∧ one < rooms ∧ 0 ≤ oth ∧ oth < rooms := by
        obtain ⟨a1, c1, e1, hc1, _, _⟩ := c9 (k := k) hb' (many := rooms) (by omega)
        obtain ⟨a2, c2, e2, hc2, _, _⟩ := c9 (k := k) hc1 (many := rooms) (by omega)
        obtain ⟨a3, c3, e3, hc3, _, _⟩ := c9 (k := k) hc2 (many := 4) (by omega)
        obtain ⟨a4, c4, e4, hc4, _, _⟩ := c9 (k := k) hc3 (many := lap + 1) (by omega)
        have i0 := hb'.imm
        have i1 := hc1.imm
        have i2 := hc2.imm
        have i3 := hc3.imm
        by_cases cl : lap < rooms - 1
        · by_cases cp : 0 < a3
          · exact ⟨lap + 1, a4, c4, by simp [takeS, l10_1, Fd.run, evSs, evS, evT, evE, evEs, evOs, evCs, evP, evI, evIf, PF.ap, opIdx, opLen, opMod, opAdd, opSum, opLt, opGt, opLe, stepD, getK, setD, putKs, setP, nodeAt, mmTy, mmAp, truth, E.pth, E.pu, Es.pu, imm, imms, fz, fzs, bind_one, bind_tup2, bind_tup3, bind_tup4, Tg.free, Tg.frees, Fd.kp, Fd.out, Fd.fin, finE, giveBack, wipeE, backE, seqOf, lcLoop, forLoop, lim, ix0, ix1, ix2, ix3, in0, in1, in2, dInts, imms_ints, imms_pairs, fzs_ints, fzs_pairs, fzs_app, imms_app, dInts_ints, in_lst, in_tup, dEq_int, hc, hk, f10, e1, e2, e3, e4, i0, i1, i2, i3, cl, cp], hc4, by omega, by omega, by omega, by omega⟩
          · exact ⟨a1, a2, c3, by simp [takeS, l10_1, Fd.run, evSs, evS, evT, evE, evEs, evOs, evCs, evP, evI, evIf, PF.ap, opIdx, opLen, opMod, opAdd, opSum, opLt, opGt, opLe, stepD, getK, setD, putKs, setP, nodeAt, mmTy, mmAp, truth, E.pth, E.pu, Es.pu, imm, imms, fz, fzs, bind_one, bind_tup2, bind_tup3, bind_tup4, Tg.free, Tg.frees, Fd.kp, Fd.out, Fd.fin, finE, giveBack, wipeE, backE, seqOf, lcLoop, forLoop, lim, ix0, ix1, ix2, ix3, in0, in1, in2, dInts, imms_ints, imms_pairs, fzs_ints, fzs_pairs, fzs_app, imms_app, dInts_ints, in_lst, in_tup, dEq_int, hc, hk, f10, e1, e2, e3, i0, i1, i2, cl, cp], hc3, by omega, by omega, by omega, by omega⟩
        · exact ⟨a1, a2, c2, by simp [takeS, l10_1, Fd.run, evSs, evS, evT, evE, evEs, evOs, evCs, evP, evI, evIf, PF.ap, opIdx, opLen, opMod, opAdd, opSum, opLt, opGt, opLe, stepD, getK, setD, putKs, setP, nodeAt, mmTy, mmAp, truth, E.pth, E.pu, Es.pu, imm, imms, fz, fzs, bind_one, bind_tup2, bind_tup3, bind_tup4, Tg.free, Tg.frees, Fd.kp, Fd.out, Fd.fin, finE, giveBack, wipeE, backE, seqOf, lcLoop, forLoop, lim, ix0, ix1, ix2, ix3, in0, in1, in2, dInts, imms_ints, imms_pairs, fzs_ints, fzs_pairs, fzs_app, imms_app, dInts_ints, in_lst, in_tup, dEq_int, hc, hk, f10, e1, e2, i0, i1, cl], hc2, by omega, by omega, by omega, by omega⟩
      have lps : ps.length < 16777216 := by omega
      refine ⟨[some b', some (.int rooms), some (.int doors), some (.int hab), some (.lst true (ks2.map .int)), x5, some (.lst true (ps.map pairD)), some (.int lap), x8, x9, none, none], ?_⟩
      by_cases ce : one = oth
      · refine ⟨_, by simp [Fd.run, evSs, evS, evT, evE, evEs, evOs, evCs, evP, evI, evIf, PF.ap, opIdx, opLen, opMod, opAdd, opSum, opLt, opGt, opLe, stepD, getK, setD, putKs, setP, nodeAt, mmTy, mmAp, truth, E.pth, E.pu, Es.pu, imm, imms, fz, fzs, bind_one, bind_tup2, bind_tup3, bind_tup4, Tg.free, Tg.frees, Fd.kp, Fd.out, Fd.fin, finE, giveBack, wipeE, backE, seqOf, lcLoop, forLoop, lim, ix0, ix1, ix2, ix3, in0, in1, in2, dInts, imms_ints, imms_pairs, fzs_ints, fzs_pairs, fzs_app, imms_app, dInts_ints, in_lst, in_tup, dEq_int, hlap], .inl ?_, c4, ps, some (.int lap), some (.int one), some (.int oth), rfl, hc4, by simp; omega, hps⟩
        rw [evSs_split C 3, hs1']
        simp [dropS, l10_1, Fd.run, evSs, evS, evT, evE, evEs, evOs, evCs, evP, evI, evIf, PF.ap, opIdx, opLen, opMod, opAdd, opSum, opLt, opGt, opLe, stepD, getK, setD, putKs, setP, nodeAt, mmTy, mmAp, truth, E.pth, E.pu, Es.pu, imm, imms, fz, fzs, bind_one, bind_tup2, bind_tup3, bind_tup4, Tg.free, Tg.frees, Fd.kp, Fd.out, Fd.fin, finE, giveBack, wipeE, backE, seqOf, lcLoop, forLoop, lim, ix0, ix1, ix2, ix3, in0, in1, in2, dInts, imms_ints, imms_pairs, fzs_ints, fzs_pairs, fzs_app, imms_app, dInts_ints, in_lst, in_tup, dEq_int, ce]
      · refine ⟨_, by simp [Fd.run, evSs, evS, evT, evE, evEs, evOs, evCs, evP, evI, evIf, PF.ap, opIdx, opLen, opMod, opAdd, opSum, opLt, opGt, opLe, stepD, getK, setD, putKs, setP, nodeAt, mmTy, mmAp, truth, E.pth, E.pu, Es.pu, imm, imms, fz, fzs, bind_one, bind_tup2, bind_tup3, bind_tup4, Tg.free, Tg.frees, Fd.kp, Fd.out, Fd.fin, finE, giveBack, wipeE, backE, seqOf, lcLoop, forLoop, lim, ix0, ix1, ix2, ix3, in0, in1, in2, dInts, imms_ints, imms_pairs, fzs_ints, fzs_pairs, fzs_app, imms_app, dInts_ints, in_lst, in_tup, dEq_int, hlap], .inl ?_, c4, ps ++ [(if oth < one then oth else one, if one < oth then oth else one)], some (.int lap), some (.int one), some (.int oth), rfl, hc4, by simp; omega, ?_⟩
        · rw [evSs_split C 3, hs1']
          simp [dropS, l10_1, Fd.run, evSs, evS, evT, evE, evEs, evOs, evCs, evP, evI, evIf, PF.ap, opIdx, opLen, opMod, opAdd, opSum, opLt, opGt, opLe, stepD, getK, setD, putKs, setP, nodeAt, mmTy, mmAp, truth, E.pth, E.pu, Es.pu, imm, imms, fz, fzs, bind_one, bind_tup2, bind_tup3, bind_tup4, Tg.free, Tg.frees, Fd.kp, Fd.out, Fd.fin, finE, giveBack, wipeE, backE, seqOf, lcLoop, forLoop, lim, ix0, ix1, ix2, ix3, in0, in1, in2, dInts, imms_ints, imms_pairs, fzs_ints, fzs_pairs, fzs_app, imms_app, dInts_ints, in_lst, in_tup, dEq_int, ce, lps, pairD]
        · intro p hp
          rcases List.mem_append.mp hp with hp | hp
          · exact hps p hp
          · simp at hp; subst hp
            dsimp only
            split <;> split <;> omega) ⟨b3, [], none, none, none, rfl, hb3, by simp, by simp⟩
  -- halls
  obtain ⟨n, hrng, hn⟩ : ∃ n : Nat, rng 1 rooms = ((List.range n).map fun (i : Nat) => Z.D.int (1 + (i : Int))) ∧ (n : Int) = rooms - 1 := ⟨(rooms - 1).toNat, rfl, by omega⟩
  obtain ⟨rs, e', hlD, b5, hs, rfl, rfl, hb5, hhs, hhl⟩ := lc_pre (own := [5]) (t := .one 5) (ifs := evIf C i10_0) (el := evE C e10_0) (pth := true) (fun (i : Nat) => Z.D.int (1 + (i : Int)))
    (fun pre out e => ∃ (b' : Z.D) (hs : List Int), out = hs.map .int ∧ e = [some b', some (.int rooms), some (.int doors), some (.int hab), some (.lst true (ks2.map .int)), none, some (.lst true (ps.map pairD)), y7, y8, y9, none, none] ∧ Bowl b' ∧
      (∀ x ∈ hs, 0 ≤ x ∧ x < rooms) ∧ hs.length ≤ pre.length) (List.range n)
    [some b4, some (.int rooms), some (.int doors), some (.int hab), some (.lst true (ks2.map .int)), none, some (.lst true (ps.map pairD)), y7, y8, y9, none, none] (by
      rintro pre i post out e hpi ⟨b', hs, rfl, rfl, hb', hhs, hhl⟩
      have hil : (i : Int) < rooms - 1 := by have := mem_pre hpi; simp at this; omega
      obtain ⟨a1, c1, e1, hc1, _, _⟩ := c9 (k := k) hb' (many := 7) (by omega)
      have i0 := hb'.imm
      refine ⟨_, decide (a1 = 0), [some c1, some (.int rooms), some (.int doors), some (.int hab), some (.lst true (ks2.map .int)), some (.int (1 + (i : Int))), some (.lst true (ps.map pairD)), y7, y8, y9, none, none], by simp [Fd.run, evSs, evS, evT, evE, evEs, evOs, evCs, evP, evI, evIf, PF.ap, opIdx, opLen, opMod, opAdd, opSum, opLt, opGt, opLe, stepD, getK, setD, putKs, setP, nodeAt, mmTy, mmAp, truth, E.pth, E.pu, Es.pu, imm, imms, fz, fzs, bind_one, bind_tup2, bind_tup3, bind_tup4, Tg.free, Tg.frees, Fd.kp, Fd.out, Fd.fin, finE, giveBack, wipeE, backE, seqOf, lcLoop, forLoop, lim, ix0, ix1, ix2, ix3, in0, in1, in2, dInts, imms_ints, imms_pairs, fzs_ints, fzs_pairs, fzs_app, imms_app, dInts_ints, in_lst, in_tup, dEq_int]; rfl,
        by by_cases ca : a1 = 0 <;> simp [i10_0, Fd.run, evSs, evS, evT, evE, evEs, evOs, evCs, evP, evI, evIf, PF.ap, opIdx, opLen, opMod, opAdd, opSum, opLt, opGt, opLe, stepD, getK, setD, putKs, setP, nodeAt, mmTy, mmAp, truth, E.pth, E.pu, Es.pu, imm, imms, fz, fzs, bind_one, bind_tup2, bind_tup3, bind_tup4, Tg.free, Tg.frees, Fd.kp, Fd.out, Fd.fin, finE, giveBack, wipeE, backE, seqOf, lcLoop, forLoop, lim, ix0, ix1, ix2, ix3, in0, in1, in2, dInts, imms_ints, imms_pairs, fzs_ints, fzs_pairs, fzs_app, imms_app, dInts_ints, in_lst, in_tup, dEq_int, hc, e1, i0, ca], fun _ => ⟨.int (1 + (i : Int)), _, by simp [e10_0, Fd.run, evSs, evS, evT, evE, evEs, evOs, evCs, evP, evI, evIf, PF.ap, opIdx, opLen, opMod, opAdd, opSum, opLt, opGt, opLe, stepD, getK, setD, putKs, setP, nodeAt, mmTy, mmAp, truth, E.pth, E.pu, Es.pu, imm, imms, fz, fzs, bind_one, bind_tup2, bind_tup3, bind_tup4, Tg.free, Tg.frees, Fd.kp, Fd.out, Fd.fin, finE, giveBack, wipeE, backE, seqOf, lcLoop, forLoop, lim, ix0, ix1, ix2, ix3, in0, in1, in2, dInts, imms_ints, imms_pairs, fzs_ints, fzs_pairs, fzs_app, imms_app, dInts_ints, in_lst, in_tup, dEq_int]; rfl, rfl, c1, hs ++ [1 + (i : Int)], by simp, by simp [Fd.run, evSs, evS, evT, evE, evEs, evOs, evCs, evP, evI, evIf, PF.ap, opIdx, opLen, opMod, opAdd, opSum, opLt, opGt, opLe, stepD, getK, setD, putKs, setP, nodeAt, mmTy, mmAp, truth, E.pth, E.pu, Es.pu, imm, imms, fz, fzs, bind_one, bind_tup2, bind_tup3, bind_tup4, Tg.free, Tg.frees, Fd.kp, Fd.out, Fd.fin, finE, giveBack, wipeE, backE, seqOf, lcLoop, forLoop, lim, ix0, ix1, ix2, ix3, in0, in1, in2, dInts, imms_ints, imms_pairs, fzs_ints, fzs_pairs, fzs_app, imms_app, dInts_ints, in_lst, in_tup, dEq_int], hc1, ?_, by simp; omega⟩,
        fun _ => ⟨c1, hs, rfl, by simp [Fd.run, evSs, evS, evT, evE, evEs, evOs, evCs, evP, evI, evIf, PF.ap, opIdx, opLen, opMod, opAdd, opSum, opLt, opGt, opLe, stepD, getK, setD, putKs, setP, nodeAt, mmTy, mmAp, truth, E.pth, E.pu, Es.pu, imm, imms, fz, fzs, bind_one, bind_tup2, bind_tup3, bind_tup4, Tg.free, Tg.frees, Fd.kp, Fd.out, Fd.fin, finE, giveBack, wipeE, backE, seqOf, lcLoop, forLoop, lim, ix0, ix1, ix2, ix3, in0, in1, in2, dInts, imms_ints, imms_pairs, fzs_ints, fzs_pairs, fzs_app, imms_app, dInts_ints, in_lst, in_tup, dEq_int], hc1, hhs, by simp; omega⟩⟩
      intro x hx
      rcases List.mem_append.mp hx with hx | hx
      · exact hhs x hx
      · simp at hx; subst hx; omega) ⟨b4, [], rfl, rfl, hb4, by simp, by simp⟩
  have hrl : n ≤ 60 := by omega
  have hrl2 : n ≤ 16777216 := by omega
  have hhl2 : hs.length ≤ 60 := by simp at hhl; omega
  obtain ⟨z5, hCD⟩ : ∃ z5, evSs C (takeS 2 (dropS 5 d10)) [some b3, some (.int rooms), some (.int doors), some (.int hab), some (.lst true (ks2.map .int)), x5, some (.lst true []), none, none, none, none, none] =
      .next [some b5, some (.int rooms), some (.int doors), some (.int hab), some (.lst true (ks2.map .int)), z5, some (.lst true (ps.map pairD)), y7, y8, y9, some (.lst false (hs.map .int)), none] := by
    rcases x5 with _ | x5
    · exact ⟨none, by simp [takeS, dropS, d10, Fd.run, evSs, evS, evT, evE, evEs, evOs, evCs, evP, evI, evIf, PF.ap, opIdx, opLen, opMod, opAdd, opSum, opLt, opGt, opLe, stepD, getK, setD, putKs, setP, nodeAt, mmTy, mmAp, truth, E.pth, E.pu, Es.pu, imm, imms, fz, fzs, bind_one, bind_tup2, bind_tup3, bind_tup4, Tg.free, Tg.frees, Fd.kp, Fd.out, Fd.fin, finE, giveBack, wipeE, backE, seqOf, lcLoop, forLoop, lim, ix0, ix1, ix2, ix3, in0, in1, in2, dInts, imms_ints, imms_pairs, fzs_ints, fzs_pairs, fzs_app, imms_app, dInts_ints, in_lst, in_tup, dEq_int, ui10_0, ue10_0, pe10_0, hc, hk, f10, hs1, hs2, hs3, rngZ, hrng, hrl2, hfC, hlD]⟩
    · exact ⟨if imm x5 = true then some x5 else none, by simp [takeS, dropS, d10, Fd.run, evSs, evS, evT, evE, evEs, evOs, evCs, evP, evI, evIf, PF.ap, opIdx, opLen, opMod, opAdd, opSum, opLt, opGt, opLe, stepD, getK, setD, putKs, setP, nodeAt, mmTy, mmAp, truth, E.pth, E.pu, Es.pu, imm, imms, fz, fzs, bind_one, bind_tup2, bind_tup3, bind_tup4, Tg.free, Tg.frees, Fd.kp, Fd.out, Fd.fin, finE, giveBack, wipeE, backE, seqOf, lcLoop, forLoop, lim, ix0, ix1, ix2, ix3, in0, in1, in2, dInts, imms_ints, imms_pairs, fzs_ints, fzs_pairs, fzs_app, imms_app, dInts_ints, in_lst, in_tup, dEq_int, ui10_0, ue10_0, pe10_0, hc, hk, f10, hs1, hs2, hs3, rngZ, hrng, hrl2, hfC, hlD]⟩
  obtain ⟨b6, hs', hE, hb6, hhs', hne, hhl'⟩ : ∃ (b6 : Z.D) (hs' : List Int), evSs C (takeS 1 (dropS 7 d10)) [some b5, some (.int rooms), some (.int doors), some (.int hab), some (.lst true (ks2.map .int)), z5, some (.lst true (ps.map pairD)), y7, y8, y9, some (.lst false (hs.map .int)), none] =
      .next [some b6, some (.int rooms), some (.int doors), some (.int hab), some (.lst true (ks2.map .int)), z5, some (.lst true (ps.map pairD)), y7, y8, y9, some (.lst false (hs'.map .int)), none] ∧ Bowl b6 ∧ (∀ x ∈ hs', 0 ≤ x ∧ x < rooms) ∧ 0 < hs'.length ∧ hs'.length ≤ 60 := by
    obtain ⟨a1, c1, e1, hc1, _, _⟩ := c9 (k := k) hb5 (many := rooms - 1) (by omega)
    have i0 := hb5.imm
    by_cases c0 : hs = []
    · subst c0
      exact ⟨c1, [1 + a1], by simp [takeS, dropS, d10, Fd.run, evSs, evS, evT, evE, evEs, evOs, evCs, evP, evI, evIf, PF.ap, opIdx, opLen, opMod, opAdd, opSum, opLt, opGt, opLe, stepD, getK, setD, putKs, setP, nodeAt, mmTy, mmAp, truth, E.pth, E.pu, Es.pu, imm, imms, fz, fzs, bind_one, bind_tup2, bind_tup3, bind_tup4, Tg.free, Tg.frees, Fd.kp, Fd.out, Fd.fin, finE, giveBack, wipeE, backE, seqOf, lcLoop, forLoop, lim, ix0, ix1, ix2, ix3, in0, in1, in2, dInts, imms_ints, imms_pairs, fzs_ints, fzs_pairs, fzs_app, imms_app, dInts_ints, in_lst, in_tup, dEq_int, hc, hk, f10, e1, i0], hc1, by simp; omega, by simp, by simp⟩
    · have c3 := List.length_pos_iff.mpr c0
      exact ⟨b5, hs, by simp [takeS, dropS, d10, Fd.run, evSs, evS, evT, evE, evEs, evOs, evCs, evP, evI, evIf, PF.ap, opIdx, opLen, opMod, opAdd, opSum, opLt, opGt, opLe, stepD, getK, setD, putKs, setP, nodeAt, mmTy, mmAp, truth, E.pth, E.pu, Es.pu, imm, imms, fz, fzs, bind_one, bind_tup2, bind_tup3, bind_tup4, Tg.free, Tg.frees, Fd.kp, Fd.out, Fd.fin, finE, giveBack, wipeE, backE, seqOf, lcLoop, forLoop, lim, ix0, ix1, ix2, ix3, in0, in1, in2, dInts, imms_ints, imms_pairs, fzs_ints, fzs_pairs, fzs_app, imms_app, dInts_ints, in_lst, in_tup, dEq_int, hc, hk, f10, c0], hb5, hhs, c3, by omega⟩
  obtain ⟨e', hfE, ks3, y11, rfl, hks3⟩ := for_pre (t := .one 11) (body := evSs C l10_2) Z.D.int
    (fun pre e => ∃ (ks3 : List Int) (y11 : Option Z.D), e = [some b6, some (.int rooms), some (.int doors), some (.int hab), some (.lst true (ks3.map .int)), z5, some (.lst true (ps.map pairD)), y7, y8, y9, some (.lst false (hs'.map .int)), y11] ∧
      (ks3.length : Int) = rooms) hs'
    [some b6, some (.int rooms), some (.int doors), some (.int hab), some (.lst true (ks2.map .int)), z5, some (.lst true (ps.map pairD)), y7, y8, y9, some (.lst false (hs'.map .int)), none] (by
      rintro pre x post e hpi ⟨ks3, y11, rfl, hl3⟩
      obtain ⟨x0, x1⟩ := hhs' x (mem_pre hpi)
      have hx3 : x < ks3.length := by omega
      have hi : ixN ks3.length x = some x.toNat := by simp [ixN, x0, hx3]
      exact ⟨_, [some b6, some (.int rooms), some (.int doors), some (.int hab), some (.lst true ((ks3.set x.toNat 0).map .int)), z5, some (.lst true (ps.map pairD)), y7, y8, y9, some (.lst false (hs'.map .int)), some (.int x)], by simp [Fd.run, evSs, evS, evT, evE, evEs, evOs, evCs, evP, evI, evIf, PF.ap, opIdx, opLen, opMod, opAdd, opSum, opLt, opGt, opLe, stepD, getK, setD, putKs, setP, nodeAt, mmTy, mmAp, truth, E.pth, E.pu, Es.pu, imm, imms, fz, fzs, bind_one, bind_tup2, bind_tup3, bind_tup4, Tg.free, Tg.frees, Fd.kp, Fd.out, Fd.fin, finE, giveBack, wipeE, backE, seqOf, lcLoop, forLoop, lim, ix0, ix1, ix2, ix3, in0, in1, in2, dInts, imms_ints, imms_pairs, fzs_ints, fzs_pairs, fzs_app, imms_app, dInts_ints, in_lst, in_tup, dEq_int]; rfl,
        .inl (by simp [l10_2, Fd.run, evSs, evS, evT, evE, evEs, evOs, evCs, evP, evI, evIf, PF.ap, opIdx, opLen, opMod, opAdd, opSum, opLt, opGt, opLe, stepD, getK, setD, putKs, setP, nodeAt, mmTy, mmAp, truth, E.pth, E.pu, Es.pu, imm, imms, fz, fzs, bind_one, bind_tup2, bind_tup3, bind_tup4, Tg.free, Tg.frees, Fd.kp, Fd.out, Fd.fin, finE, giveBack, wipeE, backE, seqOf, lcLoop, forLoop, lim, ix0, ix1, ix2, ix3, in0, in1, in2, dInts, imms_ints, imms_pairs, fzs_ints, fzs_pairs, fzs_app, imms_app, dInts_ints, in_lst, in_tup, dEq_int, hi, List.map_set]), ks3.set x.toNat 0, _, rfl, by simpa using hl3⟩) ⟨ks2, none, rfl, hksl2⟩
  obtain ⟨qs, hq, hql, hqm⟩ := sorted_pairs true ps
  refine ⟨⟨ks3, qs, hs'⟩, b6, ?_, hb6, ⟨?_, by simp only; omega, by simp only; omega, by simp only; simp at hpsl; omega, ?_⟩, hks3, hne, hhl'⟩
  · rw [evSs_split C 3, show (List.map some [b, Z.D.int rooms, Z.D.int doors] ++ List.replicate (f10.n - f10.np) none) = [some b, some (.int rooms), some (.int doors), none, none, none, none, none, none, none, none, none] from rfl, hA]
    simp only [SRes.thn]
    rw [evSs_split C 2, hB]
    simp only [SRes.thn]
    rw [evSs_split C 2]
    rw [show dropS 2 (dropS 3 d10) = dropS 5 d10 from rfl, hCD]
    simp only [SRes.thn]
    rw [evSs_split C 1]
    rw [show dropS 2 (dropS 5 d10) = dropS 7 d10 from rfl, hE]
    simp [f10, d10, dropS, Fd.run, evSs, evS, evT, evE, evEs, evOs, evCs, evP, evI, evIf, PF.ap, opIdx, opLen, opMod, opAdd, opSum, opLt, opGt, opLe, stepD, getK, setD, putKs, setP, nodeAt, mmTy, mmAp, truth, E.pth, E.pu, Es.pu, imm, imms, fz, fzs, bind_one, bind_tup2, bind_tup3, bind_tup4, Tg.free, Tg.frees, Fd.kp, Fd.out, Fd.fin, finE, giveBack, wipeE, backE, seqOf, lcLoop, forLoop, lim, ix0, ix1, ix2, ix3, in0, in1, in2, dInts, imms_ints, imms_pairs, fzs_ints, fzs_pairs, fzs_app, imms_app, dInts_ints, in_lst, in_tup, dEq_int, hk, hfE, hq, Hs.D]
  · intro p hp
    have := hps p (hqm p hp)
    simp only
    omega
  · intro x hx
    have := hhs' x hx
    simp only
    omega

theorem mul_pr {a b r : Int} (h0 : 0 ≤ r) (h1 : r < 100) : opMul (.lst true [.tup [.int a, .int b]]) (.int r) = some (.lst true ((List.replicate r.toNat (a, b)).map pairD)) := by
  have h2 : r.natAbs < 4294967296 := by omega
  have h3 : r.toNat ≤ 16777216 := by omega
  simp [opMul, h2, h3, imms, imm, lim, pairD]
theorem c11 {k : Nat} {b : Z.D} (hb : Bowl b) :
    ∃ (h : Hs) (b' : Z.D) (M : List (Int × Int)), callN fs (k + 1 + 1) 11 [b] = .ok h.D [some b'] ∧ Bowl b' ∧ h.Ok ∧ h.ps = [(0, 1), (0, 1)] ++ M ++ [(2, 3)] ∧ ∀ p ∈ M, p.1 = 0 ∨ p.1 = 1 := by
  obtain ⟨C, hc, hk, hr⟩ := enter (fs := fs) (f := f11) (k := k + 1) (i := 11) (ds := [b]) rfl rfl
  rw [hr, bd11]
  obtain ⟨a1, b1, e1, hb1, p1, q1⟩ := c9 (k := k) hb (many := 2) (by omega)
  obtain ⟨a2, b2, e2, hb2, p2, q2⟩ := c9 (k := k) hb1 (many := 3) (by omega)
  obtain ⟨a3, b3, e3, hb3, p3, q3⟩ := c9 (k := k) hb2 (many := 3) (by omega)
  obtain ⟨a4, b4, e4, hb4, p4, q4⟩ := c9 (k := k) hb3 (many := 4) (by omega)
  obtain ⟨a5, b5, e5, hb5, p5, q5⟩ := c9 (k := k) hb4 (many := 3) (by omega)
  obtain ⟨a6, b6, e6, hb6, p6, q6⟩ := c9 (k := k) hb5 (many := 3) (by omega)
  have i0 := hb.imm
  have i1 := hb1.imm
  have i2 := hb2.imm
  have i3 := hb3.imm
  have i4 := hb4.imm
  have i5 := hb5.imm
  have m1 := mul_pr (a := 0) (b := 1) p1 (by omega)
  have m2 := mul_pr (a := 0) (b := 2) p2 (by omega)
  have m3 := mul_pr (a := 1) (b := 2) p3 (by omega)
  obtain ⟨n1, h1, z1⟩ : ∃ n : Nat, a1.toNat = n ∧ n ≤ 3 := ⟨_, rfl, by omega⟩
  obtain ⟨n2, h2, z2⟩ : ∃ n : Nat, a2.toNat = n ∧ n ≤ 3 := ⟨_, rfl, by omega⟩
  obtain ⟨n3, h3, z3⟩ : ∃ n : Nat, a3.toNat = n ∧ n ≤ 3 := ⟨_, rfl, by omega⟩
  rw [h1] at m1
  rw [h2] at m2
  rw [h3] at m3
  refine ⟨⟨[3 + a4, a5, a6, 0], [(0, 1), (0, 1)] ++ (List.replicate n1 (0, 1) ++ List.replicate n2 (0, 2) ++ List.replicate n3 (1, 2)) ++ [(2, 3)], [3]⟩, b6, _, ?_, hb6, ⟨?_, by simp, by simp, by simp; omega, by simp⟩, rfl, ?_⟩
  · have g : ∀ (n : Nat) (x y : Int), imms (List.replicate n (.tup [.int x, .int y])) = true := fun n x y => by
      have := imms_pairs (List.replicate n (x, y))
      simpa [pairD] using this
    simp only [pairD, List.map_replicate] at m1 m2 m3
    have w1 : 2 + n1 ≤ 16777216 := by omega
    have w2 : n1 + 1 + 1 + n2 ≤ 16777216 := by omega
    have w3 : n1 + n2 + 1 + 1 + n3 ≤ 16777216 := by omega
    have w4 : n1 + (n2 + n3) + 1 + 1 < 16777216 := by omega
    have w5 : n1 + (n2 + n3) + 1 < 16777215 := by omega
    have w6 : n1 + (n2 + n3) < 16777214 := by omega
    simp [f11, d11, Fd.run, evSs, evS, evT, evE, evEs, evOs, evCs, evP, evI, evIf, PF.ap, opIdx, opLen, opMod, opAdd, opSum, opLt, opGt, opLe, stepD, getK, setD, putKs, setP, nodeAt, mmTy, mmAp, truth, E.pth, E.pu, Es.pu, imm, imms, fz, fzs, bind_one, bind_tup2, bind_tup3, bind_tup4, Tg.free, Tg.frees, Fd.kp, Fd.out, Fd.fin, finE, giveBack, wipeE, backE, seqOf, lcLoop, forLoop, lim, ix0, ix1, ix2, ix3, in0, in1, in2, dInts, imms_ints, imms_pairs, fzs_ints, fzs_pairs, fzs_app, imms_app, dInts_ints, in_lst, in_tup, dEq_int, hc, hk, e1, e2, e3, e4, e5, e6, i0, i1, i2, i3, i4, i5, m1, m2, m3, Hs.D, pairD, g, w1, w2, w3, w4, w5, w6]
  · intro p hp
    simp [List.mem_replicate] at hp ⊢
    rcases hp with rfl | ⟨_, rfl⟩ | ⟨_, rfl⟩ | ⟨_, rfl⟩ | rfl <;> decide
  · intro p hp
    simp [List.mem_replicate] at hp ⊢
    rcases hp with ⟨_, rfl⟩ | ⟨_, rfl⟩ | ⟨_, rfl⟩ <;> decide
theorem cut_map {α β : Type} (f : α → β) (l : List α) (lo hi : Option Int) : cutL (l.map f) lo hi = (cutL l lo hi).map f := by
  simp [cutL, List.map_take, List.map_drop]
theorem c12 {k : Nat} {b : Z.D} (hb : Bowl b) :
    ∃ (h : Hs) (b' : Z.D), callN fs (k + 1 + 1) 12 [b] = .ok h.D [some b'] ∧ Bowl b' ∧ h.Ok := by
  obtain ⟨C, hc, hk, hr⟩ := enter (fs := fs) (f := f12) (k := k + 1) (i := 12) (ds := [b]) rfl rfl
  rw [hr, bd12]
  obtain ⟨a1, b1, e1, hb1, p1, q1⟩ := c9 (k := k) hb (many := 5) (by omega)
  have i0 := hb.imm
  obtain ⟨rooms, hro⟩ : ∃ r, r = 3 + a1 := ⟨_, rfl⟩
  have hs1 : small62 rooms = true := by simp [small62]; omega
  obtain ⟨n, hn⟩ : ∃ n : Nat, rooms.toNat = n := ⟨_, rfl⟩
  have hn2 : n ≤ 16777216 := by omega
  obtain ⟨rs, e', hl, b2, ks, rfl, rfl, hb2, hks⟩ := lc_pre (own := [3]) (t := .one 3) (ifs := evIf C i12_0) (el := evE C e12_0) (pth := false) (fun (i : Nat) => Z.D.int (i : Int))
    (fun pre out e => ∃ (b' : Z.D) (ks : List Int), e = [some b', some (.int rooms), none, none] ∧ out = ks.map .int ∧ Bowl b' ∧ ks.length = pre.length) (List.range n)
    [some b1, some (.int rooms), none, none] (by
      rintro pre i post out e hpi ⟨b', ks, rfl, rfl, hb', hks⟩
      obtain ⟨a2, c2, e2, hc2, _, _⟩ := c9 (k := k) hb' (many := 2) (by omega)
      have i1 := hb'.imm
      exact ⟨_, true, [some b', some (.int rooms), none, some (.int i)], by simp [Fd.run, evSs, evS, evT, evE, evEs, evOs, evCs, evP, evI, evIf, PF.ap, opIdx, opLen, opMod, opAdd, opSum, opLt, opGt, opLe, stepD, getK, setD, putKs, setP, nodeAt, mmTy, mmAp, truth, E.pth, E.pu, Es.pu, imm, imms, fz, fzs, bind_one, bind_tup2, bind_tup3, bind_tup4, Tg.free, Tg.frees, Fd.kp, Fd.out, Fd.fin, finE, giveBack, wipeE, backE, seqOf, lcLoop, forLoop, lim, ix0, ix1, ix2, ix3, in0, in1, in2, dInts, imms_ints, imms_pairs, fzs_ints, fzs_pairs, fzs_app, imms_app, dInts_ints, in_lst, in_tup, dEq_int]; rfl, by simp [i12_0, Fd.run, evSs, evS, evT, evE, evEs, evOs, evCs, evP, evI, evIf, PF.ap, opIdx, opLen, opMod, opAdd, opSum, opLt, opGt, opLe, stepD, getK, setD, putKs, setP, nodeAt, mmTy, mmAp, truth, E.pth, E.pu, Es.pu, imm, imms, fz, fzs, bind_one, bind_tup2, bind_tup3, bind_tup4, Tg.free, Tg.frees, Fd.kp, Fd.out, Fd.fin, finE, giveBack, wipeE, backE, seqOf, lcLoop, forLoop, lim, ix0, ix1, ix2, ix3, in0, in1, in2, dInts, imms_ints, imms_pairs, fzs_ints, fzs_pairs, fzs_app, imms_app, dInts_ints, in_lst, in_tup, dEq_int], fun _ => ⟨.int a2, [some c2, some (.int rooms), none, some (.int i)], by simp [e12_0, Fd.run, evSs, evS, evT, evE, evEs, evOs, evCs, evP, evI, evIf, PF.ap, opIdx, opLen, opMod, opAdd, opSum, opLt, opGt, opLe, stepD, getK, setD, putKs, setP, nodeAt, mmTy, mmAp, truth, E.pth, E.pu, Es.pu, imm, imms, fz, fzs, bind_one, bind_tup2, bind_tup3, bind_tup4, Tg.free, Tg.frees, Fd.kp, Fd.out, Fd.fin, finE, giveBack, wipeE, backE, seqOf, lcLoop, forLoop, lim, ix0, ix1, ix2, ix3, in0, in1, in2, dInts, imms_ints, imms_pairs, fzs_ints, fzs_pairs, fzs_app, imms_app, dInts_ints, in_lst, in_tup, dEq_int, hc, e2, i1], rfl, c2, ks ++ [a2], by simp [Fd.run, evSs, evS, evT, evE, evEs, evOs, evCs, evP, evI, evIf, PF.ap, opIdx, opLen, opMod, opAdd, opSum, opLt, opGt, opLe, stepD, getK, setD, putKs, setP, nodeAt, mmTy, mmAp, truth, E.pth, E.pu, Es.pu, imm, imms, fz, fzs, bind_one, bind_tup2, bind_tup3, bind_tup4, Tg.free, Tg.frees, Fd.kp, Fd.out, Fd.fin, finE, giveBack, wipeE, backE, seqOf, lcLoop, forLoop, lim, ix0, ix1, ix2, ix3, in0, in1, in2, dInts, imms_ints, imms_pairs, fzs_ints, fzs_pairs, fzs_app, imms_app, dInts_ints, in_lst, in_tup, dEq_int], by simp, hc2, by simp [hks]⟩,
        fun h => by cases h⟩) ⟨b1, [], rfl, rfl, hb1, rfl⟩
  have hkl : ks.length = n := by simpa using hks
  obtain ⟨a3, b3, e3, hb3, p3, q3⟩ := c9 (k := k) hb2 (many := 3) (by omega)
  have i2 := hb2.imm
  have hi1 : ixN n (rooms - 1) = some (n - 1) := by
    have g1 : 0 ≤ rooms - 1 := by omega
    have g2 : rooms - 1 < n := by omega
    simp only [ixN]
    rw [if_pos g1, if_pos g2]
    congr 1; omega
  have hi0 : ixN n 0 = some 0 := by
    have g2 : 0 < n := by omega
    simp [ixN, g2]
  obtain ⟨ks2, hk2⟩ : ∃ ks2, ks.set (n - 1) 0 = ks2 := ⟨_, rfl⟩
  have hk2l : ks2.length = n := by rw [← hk2]; simp [hkl]
  obtain ⟨v, hv⟩ : ∃ v, v = (if rooms - 2 - (cutL ks2 (some 1) none).sum + a3 > 0 then rooms - 2 - (cutL ks2 (some 1) none).sum + a3 else 0) := ⟨_, rfl⟩
  have hA : evSs C (takeS 4 d12) [some b, none, none, none] = .next [some b3, some (.int rooms), some (.lst true ((ks2.set 0 v).map .int)), none] := by
    have hcut := cut_map Z.D.int ks2 (some 1) none
    have hs2 : (List.map Z.D.int ks).set (n - 1) (.int 0) = List.map Z.D.int ks2 := by rw [← hk2, List.map_set]
    simp [takeS, d12, Fd.run, evSs, evS, evT, evE, evEs, evOs, evCs, evP, evI, evIf, PF.ap, opIdx, opLen, opMod, opAdd, opSum, opLt, opGt, opLe, stepD, getK, setD, putKs, setP, nodeAt, mmTy, mmAp, truth, E.pth, E.pu, Es.pu, imm, imms, fz, fzs, bind_one, bind_tup2, bind_tup3, bind_tup4, Tg.free, Tg.frees, Fd.kp, Fd.out, Fd.fin, finE, giveBack, wipeE, backE, seqOf, lcLoop, forLoop, lim, ix0, ix1, ix2, ix3, in0, in1, in2, dInts, imms_ints, imms_pairs, fzs_ints, fzs_pairs, fzs_app, imms_app, dInts_ints, in_lst, in_tup, dEq_int, ui12_0, ue12_0, pe12_0, ui12_1, ue12_1, pe12_1, hc, hk, f12, e1, i0, ← hro, hs1, rngZ, hn, hn2, hl, hkl, hi1, hs2, hk2l, hi0, opCut, hcut, e3, i2, hv, List.map_set]
  obtain ⟨ks3, hk3⟩ : ∃ ks3, ks3 = ks2.set 0 v := ⟨_, rfl⟩
  have hk3l : ks3.length = n := by rw [hk3]; simpa using hk2l
  rw [← hk3] at hA
  have hn1 : n - 1 ≤ 16777216 := by omega
  have hs3 : small62 (rooms - 1) = true := by simp [small62]; omega
  have hl2 := lc_mapA (own := [3]) (t := .one 3) (ifs := evIf C i12_1) (el := evE C e12_1) (pth := false) (e := [some b3, some (.int rooms), some (.lst true (ks3.map .int)), none])
    (fun (i : Nat) => Z.D.int (i : Int)) (fun (i : Nat) => pairD ((i : Int), (i : Int) + 1)) (List.range (n - 1)) (by
      intro i _
      simp [i12_1, e12_1, Fd.run, evSs, evS, evT, evE, evEs, evOs, evCs, evP, evI, evIf, PF.ap, opIdx, opLen, opMod, opAdd, opSum, opLt, opGt, opLe, stepD, getK, setD, putKs, setP, nodeAt, mmTy, mmAp, truth, E.pth, E.pu, Es.pu, imm, imms, fz, fzs, bind_one, bind_tup2, bind_tup3, bind_tup4, Tg.free, Tg.frees, Fd.kp, Fd.out, Fd.fin, finE, giveBack, wipeE, backE, seqOf, lcLoop, forLoop, lim, ix0, ix1, ix2, ix3, in0, in1, in2, dInts, imms_ints, imms_pairs, fzs_ints, fzs_pairs, fzs_app, imms_app, dInts_ints, in_lst, in_tup, dEq_int, pairD])
  refine ⟨⟨ks3, (List.range (n - 1)).map fun (i : Nat) => ((i : Int), (i : Int) + 1), [rooms - 1]⟩, b3, ?_, hb3, ⟨?_, by simp; omega, by simp; omega, by simp; omega, ?_⟩⟩
  · rw [evSs_split C 4, show (List.map some [b] ++ List.replicate (f12.n - f12.np) none) = [some b, none, none, none] from rfl, hA]
    have himm : imms ((List.range (n - 1)).map fun (i : Nat) => pairD ((i : Int), (i : Int) + 1)) = true := by
      have := imms_pairs ((List.range (n - 1)).map fun (i : Nat) => ((i : Int), (i : Int) + 1))
      simpa [Function.comp_def] using this
    have hrz : rng 0 (rooms - 1) = (List.range (n - 1)).map fun (i : Nat) => Z.D.int (i : Int) := by
      rw [rngZ]; congr 2; omega
    simp [f12, d12, dropS, Fd.run, evSs, evS, evT, evE, evEs, evOs, evCs, evP, evI, evIf, PF.ap, opIdx, opLen, opMod, opAdd, opSum, opLt, opGt, opLe, stepD, getK, setD, putKs, setP, nodeAt, mmTy, mmAp, truth, E.pth, E.pu, Es.pu, imm, imms, fz, fzs, bind_one, bind_tup2, bind_tup3, bind_tup4, Tg.free, Tg.frees, Fd.kp, Fd.out, Fd.fin, finE, giveBack, wipeE, backE, seqOf, lcLoop, forLoop, lim, ix0, ix1, ix2, ix3, in0, in1, in2, dInts, imms_ints, imms_pairs, fzs_ints, fzs_pairs, fzs_app, imms_app, dInts_ints, in_lst, in_tup, dEq_int, ui12_0, ue12_0, pe12_0, ui12_1, ue12_1, pe12_1, hk, hs3, hrz, hn1, hl2, himm, Hs.D, Function.comp_def]
  · intro p hp
    obtain ⟨i, hi, rfl⟩ := List.mem_map.mp hp
    have := List.mem_range.mp hi
    simp
    omega
  · intro x hx
    simp at hx; subst hx
    simp
    omega

theorem cut_mem {α : Type} {l : List α} {lo hi : Option Int} {x : α} (h : x ∈ cutL l lo hi) : x ∈ l := List.mem_of_mem_drop (List.mem_of_mem_take h)
theorem cut1 {α : Type} {l : List α} (h : 0 < l.length) : cutL l (some 1) none = l.drop 1 := by
  have h1 : ¬ (l.length : Int) < 1 := by omega
  have h2 : 1 ≤ l.length := h
  simp only [cutL, HT.sIx]
  have e : (if (1 : Int) < 0 then ((1 : Int) + (l.length : Int)).toNat else min (1 : Int).toNat l.length) = 1 := by simp; omega
  first
    | (simp only [e]; apply List.take_of_length_le; simp; done)
    | (simp [Nat.min_eq_left h2]; rw [← List.drop_one]; apply List.take_of_length_le; simp)
theorem wide_house {h : Hs} (ok : h.Ok) (n : Int) : (⟨99 :: h.ks.drop 1, h.ps, cutL h.hs (some n) none⟩ : Hs).Ok := by
  have h0 := ok.k0
  have hl : (99 :: h.ks.drop 1).length = h.ks.length := by simp; omega
  exact ⟨by simpa only [hl] using ok.pr, by simp, by rw [hl]; exact ok.kl, ok.pl, fun x hx => by simpa only [hl] using ok.hr x (cut_mem hx)⟩
theorem R_grow {h : Hs} {W : List Int} {d r : Int} (hr : r ∈ (h.run W).R) : r ∈ (h.run (W ++ [d])).R := by
  rw [run_snoc]; exact List.mem_append_left _ hr
theorem dbl_walks {h : Hs} {M : List (Int × Int)} (hps : h.ps = [(0, 1), (0, 1)] ++ M ++ [(2, 3)]) (hM : ∀ p ∈ M, p.1 = 0 ∨ p.1 = 1) :
    Wk h [1, 0] ∧ Wk h [0, (h.ps.length : Int) - 2] := by
  have hl : h.ps.length = M.length + 3 := by rw [hps]; simp
  have p0 : h.pair 0 = (0, 1) := by simp [Hs.pair, hps]
  have p1 : h.pair 1 = (0, 1) := by simp [Hs.pair, hps]
  have d0 : h.dr 0 := ⟨by omega, by omega⟩
  have d1 : h.dr 1 := ⟨by omega, by omega⟩
  have r0 : (0 : Int) ∈ (h.run []).R := by simp [run_nil, Hs.f0]
  have w1 : Wk h [1] := .snoc (W := []) .nil d1 (by simp) (.inl (by rw [p1]; exact r0))
  have w0 : Wk h [0] := .snoc (W := []) .nil d0 (by simp) (.inl (by rw [p0]; exact r0))
  refine ⟨.snoc (W := [1]) w1 d0 (by decide) (.inl (by rw [p0]; exact R_grow (W := []) r0)), .snoc (W := [0]) w0 ⟨by omega, by omega⟩ (by simp <;> omega) ?_⟩
  have hm : h.pair ((h.ps.length : Int) - 2) ∈ [(0, 1), (0, 1)] ++ M := by
    have e : ((h.ps.length : Int) - 2).toNat = M.length + 1 := by omega
    have hlt : M.length + 1 < ([(0, 1), (0, 1)] ++ M : List (Int × Int)).length := by simp
    unfold Hs.pair
    rw [e, hps, List.getElem?_append_left hlt, List.getElem?_eq_getElem hlt]
    exact List.getElem_mem hlt
  have h01 : (h.pair ((h.ps.length : Int) - 2)).1 = 0 ∨ (h.pair ((h.ps.length : Int) - 2)).1 = 1 := by
    rcases List.mem_append.mp hm with hm | hm
    · simp at hm; rw [hm]; exact .inl rfl
    · exact hM _ hm
  have rr : (h.run [0]).R = [0, 1] := by
    rw [show ([0] : List Int) = [] ++ [0] from rfl, run_snoc]
    simp [Hs.st, run_nil, Hs.f0, fr, p0]
  left
  rw [rr]
  rcases h01 with e | e <;> rw [e] <;> simp
theorem c20 {k : Nat} {ns : List Int} (hn : ns.length ≤ 63) : ∃ fin, callN fs (k + 1 + 1 + 1 + 1 + 1 + 1) 20 [.scr ns] = .ok (.bl true) fin := by
  obtain ⟨C, hc, hk, hr⟩ := enter (fs := fs) (f := f20) (k := k + 1 + 1 + 1 + 1 + 1) (i := 20) (ds := [.scr ns]) rfl rfl
  rw [hr, bd20]
  obtain ⟨b0, e0, hb0⟩ := c8 (k := k + 1 + 1 + 1 + 1) hn
  obtain ⟨a1, b1, e1, hb1, _, _⟩ := c9 (k := k + 1 + 1 + 1 + 1) hb0 (many := 13) (by omega)
  have i0 := hb0.imm
  have i1 := hb1.imm
  obtain ⟨h, b2, hA, hb2, ok⟩ : ∃ (h : Hs) (b2 : Z.D), evSs C (takeS 3 d20) [some (.scr ns), none, none, none, none, none] =
      .next [some (.scr ns), some b2, some (.bl (decide (a1 = 7))), some h.D, none, none] ∧ Bowl b2 ∧ h.Ok := by
    by_cases c7 : a1 = 7
    · obtain ⟨h, b2, e2, hb2, ok, hkl, hhl, _⟩ := c10 (k := k + 1 + 1 + 1) hb1 (rooms := 60) (doors := 150) (by omega) (by omega) (by omega) (by omega)
      refine ⟨⟨99 :: h.ks.drop 1, h.ps, cutL h.hs (some ((h.hs.length : Int) - 1)) none⟩, b2, ?_, hb2, wide_house ok _⟩
      have q1 := cut_map Z.D.int h.ks (some 1) none
      have q2 := cut_map Z.D.int h.hs (some ((h.hs.length : Int) - 1)) none
      have hl : (h.ks.drop 1).length + 1 ≤ 100 := by have := ok.kl; have := ok.k0; simp; omega
      have hl2 : (h.ks.drop 1).length ≤ 16777215 := by omega
      rw [cut1 ok.k0] at q1
      generalize h.ks.drop 1 = kk at q1 hl hl2 ⊢
      generalize cutL h.hs (some ((h.hs.length : Int) - 1)) none = hh at q2 ⊢
      have hl3 : 1 + kk.length ≤ 16777216 := by omega
      simp only [Hs.D] at e2 ⊢
      simp [takeS, d20, Fd.run, evSs, evS, evT, evE, evEs, evOs, evCs, evP, evI, evIf, PF.ap, opIdx, opLen, opMod, opAdd, opSum, opLt, opGt, opLe, stepD, getK, setD, putKs, setP, nodeAt, mmTy, mmAp, truth, E.pth, E.pu, Es.pu, imm, imms, fz, fzs, bind_one, bind_tup2, bind_tup3, bind_tup4, Tg.free, Tg.frees, Fd.kp, Fd.out, Fd.fin, finE, giveBack, wipeE, backE, seqOf, lcLoop, forLoop, lim, ix0, ix1, ix2, ix3, in0, in1, in2, dInts, imms_ints, imms_pairs, fzs_ints, fzs_pairs, fzs_app, imms_app, dInts_ints, in_lst, in_tup, dEq_int, hc, hk, f20, e0, e1, i0, i1, c7, e2, opCut, q1, q2, hl2, hl3]
    · obtain ⟨a2, c2, e2, hc2, _, _⟩ := c9 (k := k + 1 + 1 + 1 + 1) hb1 (many := 6) (by omega)
      obtain ⟨a3, c3, e3, hc3, _, _⟩ := c9 (k := k + 1 + 1 + 1 + 1) hc2 (many := 10) (by omega)
      obtain ⟨h, b2, e4, hb2, ok, hkl, hhl, _⟩ := c10 (k := k + 1 + 1 + 1) hc3 (rooms := 2 + a2) (doors := a3) (by omega) (by omega) (by omega) (by omega)
      have i2 := hc2.imm
      have i3 := hc3.imm
      exact ⟨h, b2, by simp [takeS, d20, Fd.run, evSs, evS, evT, evE, evEs, evOs, evCs, evP, evI, evIf, PF.ap, opIdx, opLen, opMod, opAdd, opSum, opLt, opGt, opLe, stepD, getK, setD, putKs, setP, nodeAt, mmTy, mmAp, truth, E.pth, E.pu, Es.pu, imm, imms, fz, fzs, bind_one, bind_tup2, bind_tup3, bind_tup4, Tg.free, Tg.frees, Fd.kp, Fd.out, Fd.fin, finE, giveBack, wipeE, backE, seqOf, lcLoop, forLoop, lim, ix0, ix1, ix2, ix3, in0, in1, in2, dInts, imms_ints, imms_pairs, fzs_ints, fzs_pairs, fzs_app, imms_app, dInts_ints, in_lst, in_tup, dEq_int, hc, hk, f20, e0, e1, i0, i1, c7, e2, e3, e4, i2, i3], hb2, ok⟩
  obtain ⟨h4, b4, M, e4, hb4, ok4, hps, hM⟩ := c11 (k := k + 1 + 1 + 1) hb2
  obtain ⟨h5, b5, e5, hb5, ok5⟩ := c12 (k := k + 1 + 1 + 1) hb4
  have i2 := hb2.imm
  have i4 := hb4.imm
  have i5 := hb5.imm
  -- the drawn house
  obtain ⟨b6, hB, hb6⟩ : ∃ b6, evSs C (takeS 3 (dropS 3 d20)) [some (.scr ns), some b2, some (.bl (decide (a1 = 7))), some h.D, none, none] =
      .next [some (.scr ns), some b6, some (.bl (decide (a1 = 7))), some h.D, some h4.D, some h5.D] ∧ Bowl b6 := by
    by_cases c7 : a1 = 7
    · obtain ⟨W, b6, e6, hb6, hw, hwl⟩ := c16 (k := k + 1 + 1 + 1) ok hb5 (most := 150) (by omega) (by omega)
      have e7 := c19 (k := k) ok hwl hw
      exact ⟨b6, by simp [takeS, dropS, d20, Fd.run, evSs, evS, evT, evE, evEs, evOs, evCs, evP, evI, evIf, PF.ap, opIdx, opLen, opMod, opAdd, opSum, opLt, opGt, opLe, stepD, getK, setD, putKs, setP, nodeAt, mmTy, mmAp, truth, E.pth, E.pu, Es.pu, imm, imms, fz, fzs, bind_one, bind_tup2, bind_tup3, bind_tup4, Tg.free, Tg.frees, Fd.kp, Fd.out, Fd.fin, finE, giveBack, wipeE, backE, seqOf, lcLoop, forLoop, lim, ix0, ix1, ix2, ix3, in0, in1, in2, dInts, imms_ints, imms_pairs, fzs_ints, fzs_pairs, fzs_app, imms_app, dInts_ints, in_lst, in_tup, dEq_int, imm_hs, hc, hk, f20, e4, e5, i2, i4, i5, c7, e6, e7], hb6⟩
    · obtain ⟨a2, c2, e2, hc2, _, _⟩ := c9 (k := k + 1 + 1 + 1 + 1) hb5 (many := 11) (by omega)
      obtain ⟨W, b6, e6, hb6, hw, hwl⟩ := c16 (k := k + 1 + 1 + 1) ok hc2 (most := a2) (by omega) (by omega)
      have e7 := c19 (k := k) ok hwl hw
      have i6 := hc2.imm
      exact ⟨b6, by simp [takeS, dropS, d20, Fd.run, evSs, evS, evT, evE, evEs, evOs, evCs, evP, evI, evIf, PF.ap, opIdx, opLen, opMod, opAdd, opSum, opLt, opGt, opLe, stepD, getK, setD, putKs, setP, nodeAt, mmTy, mmAp, truth, E.pth, E.pu, Es.pu, imm, imms, fz, fzs, bind_one, bind_tup2, bind_tup3, bind_tup4, Tg.free, Tg.frees, Fd.kp, Fd.out, Fd.fin, finE, giveBack, wipeE, backE, seqOf, lcLoop, forLoop, lim, ix0, ix1, ix2, ix3, in0, in1, in2, dInts, imms_ints, imms_pairs, fzs_ints, fzs_pairs, fzs_app, imms_app, dInts_ints, in_lst, in_tup, dEq_int, imm_hs, hc, hk, f20, e4, e5, i2, i4, i5, c7, e2, i6, e6, e7], hb6⟩
  have i6 := hb6.imm
  -- (), the row, the double house
  obtain ⟨b7, hC, hb7⟩ : ∃ b7, evSs C (takeS 1 (dropS 6 d20)) [some (.scr ns), some b6, some (.bl (decide (a1 = 7))), some h.D, some h4.D, some h5.D] =
      .next [some (.scr ns), some b7, some (.bl (decide (a1 = 7))), some h.D, some h4.D, some h5.D] ∧ Bowl b7 := by
    have e6 := c19 (k := k) ok (W := []) (by simp) .nil
    obtain ⟨W, b7, e7, hb7, hw, hwl⟩ := c16 (k := k + 1 + 1 + 1) ok5 hb6 (most := 9) (by omega) (by omega)
    have e8 := c19 (k := k) ok5 hwl hw
    simp only [List.map_nil] at e6
    exact ⟨b7, by simp [takeS, dropS, d20, Fd.run, evSs, evS, evT, evE, evEs, evOs, evCs, evP, evI, evIf, PF.ap, opIdx, opLen, opMod, opAdd, opSum, opLt, opGt, opLe, stepD, getK, setD, putKs, setP, nodeAt, mmTy, mmAp, truth, E.pth, E.pu, Es.pu, imm, imms, fz, fzs, bind_one, bind_tup2, bind_tup3, bind_tup4, Tg.free, Tg.frees, Fd.kp, Fd.out, Fd.fin, finE, giveBack, wipeE, backE, seqOf, lcLoop, forLoop, lim, ix0, ix1, ix2, ix3, in0, in1, in2, dInts, imms_ints, imms_pairs, fzs_ints, fzs_pairs, fzs_app, imms_app, dInts_ints, in_lst, in_tup, dEq_int, imm_hs, hc, hk, f20, e6, e7, e8, i6], hb7⟩
  have i7 := hb7.imm
  obtain ⟨b8, hD, hb8⟩ : ∃ b8, evSs C (takeS 1 (dropS 7 d20)) [some (.scr ns), some b7, some (.bl (decide (a1 = 7))), some h.D, some h4.D, some h5.D] =
      .next [some (.scr ns), some b8, some (.bl (decide (a1 = 7))), some h.D, some h4.D, some h5.D] ∧ Bowl b8 := by
    obtain ⟨a2, c2, e2, hc2, _, _⟩ := c9 (k := k + 1 + 1 + 1 + 1) hb7 (many := 10) (by omega)
    obtain ⟨W, b8, e7, hb8, hw, hwl⟩ := c16 (k := k + 1 + 1 + 1) ok4 hc2 (most := 1 + a2) (by omega) (by omega)
    have e8 := c19 (k := k) ok4 hwl hw
    have i8 := hc2.imm
    exact ⟨b8, by simp [takeS, dropS, d20, Fd.run, evSs, evS, evT, evE, evEs, evOs, evCs, evP, evI, evIf, PF.ap, opIdx, opLen, opMod, opAdd, opSum, opLt, opGt, opLe, stepD, getK, setD, putKs, setP, nodeAt, mmTy, mmAp, truth, E.pth, E.pu, Es.pu, imm, imms, fz, fzs, bind_one, bind_tup2, bind_tup3, bind_tup4, Tg.free, Tg.frees, Fd.kp, Fd.out, Fd.fin, finE, giveBack, wipeE, backE, seqOf, lcLoop, forLoop, lim, ix0, ix1, ix2, ix3, in0, in1, in2, dInts, imms_ints, imms_pairs, fzs_ints, fzs_pairs, fzs_app, imms_app, dInts_ints, in_lst, in_tup, dEq_int, imm_hs, hc, hk, f20, e2, e7, e8, i7, i8], hb8⟩
  obtain ⟨w1, w2⟩ := dbl_walks hps hM
  have e9 := c19 (k := k) ok4 (W := [1, 0]) (by simp) w1
  have e10 := c19 (k := k) ok4 (W := [0, (h4.ps.length : Int) - 2]) (by simp) w2
  simp only [List.map_cons, List.map_nil] at e9 e10
  rw [evSs_split C 3, show (List.map some [Z.D.scr ns] ++ List.replicate (f20.n - f20.np) none) = [some (.scr ns), none, none, none, none, none] from rfl, hA]
  simp only [SRes.thn]
  rw [evSs_split C 3, hB]
  simp only [SRes.thn]
  rw [evSs_split C 1, show dropS 3 (dropS 3 d20) = dropS 6 d20 from rfl, hC]
  simp only [SRes.thn]
  rw [evSs_split C 1, show dropS 1 (dropS 6 d20) = dropS 7 d20 from rfl, hD]
  simp only [SRes.thn]
  rw [show dropS 1 (dropS 7 d20) = dropS 8 d20 from rfl]
  simp only [Hs.D] at e9 e10 ⊢
  simp [dropS, d20, Fd.run, evSs, evS, evT, evE, evEs, evOs, evCs, evP, evI, evIf, PF.ap, opIdx, opLen, opMod, opAdd, opSum, opLt, opGt, opLe, stepD, getK, setD, putKs, setP, nodeAt, mmTy, mmAp, truth, E.pth, E.pu, Es.pu, imm, imms, fz, fzs, bind_one, bind_tup2, bind_tup3, bind_tup4, Tg.free, Tg.frees, Fd.kp, Fd.out, Fd.fin, finE, giveBack, wipeE, backE, seqOf, lcLoop, forLoop, lim, ix0, ix1, ix2, ix3, in0, in1, in2, dInts, imms_ints, imms_pairs, fzs_ints, fzs_pairs, fzs_app, imms_app, dInts_ints, in_lst, in_tup, dEq_int, hc, hk, f20, e9, e10]
theorem plain (ns : List Int) (h : ns.length ≤ 63) : ∃ fin, callN fs 40 20 [.scr ns] = .ok (.bl true) fin := c20 (k := 34) h

end Gk06P
theorem Gk06.plain [Z.TabList] (ns : List Int) (h : ns.length ≤ 63) : ∃ fin, Z.callN Gk06.fs 40 20 [.scr ns] = .ok (.bl true) fin := Gk06P.plain ns h
open PySem PySem.W PySem.Calls PyProof.Rows
theorem PySem.Challenge.cw_anydoornext_k06_walk_facts_holds : PySem.Challenge.rw_anydoornext_k06_walk_facts.Holds := by
  w_on; o_law
  refine HandSHeadRun.head_any (r := OpenLaw.row PySem.Challenge.rw_anydoornext_k06_walk_facts) (q := view (OpenLaw.row PySem.Challenge.rw_anydoornext_k06_walk_facts).prog [23]) (H := Gk06.hk) (ob := Gk06.ob) (M := 2000) (loose := ["first_step", "next_step", "walk_steps", "hands_along", "is_wasted", "wasted_doors", "plain_walk", "walk_ways", "_law_bowl", "_law_pea", "_law_house", "_law_double_house", "_law_row_house", "_law_begin", "_law_can", "_law_open", "_law_walk", "_law_facts", "_law_same", "_law_right"]) (d := HandSHeadRun.topDef (OpenLaw.row PySem.Challenge.rw_anydoornext_k06_walk_facts).prog 23) (kwd := []) Gk06.ob_eq
    (by kernel_rfl) (fun s => by kernel_rfl) Gk06.run (by kernel_rfl) (by kernel_rfl) (by kernel_rfl) (by rfl) (by first | assumption | decide +kernel) (by decide +kernel) ⟨rfl, rfl, rfl, rfl, rfl, by decide +kernel⟩ ?hw ?hc
  case hw => w_witness2
  case hc =>
    refine LamX.walk_ofTsE (l := PySem.Challenge.rw_anydoornext_k06_walk_facts) (n := 63) (k := 40) (x := "script") (CX := fun w => L2.CX (PySem.Challenge.rw_anydoornext_k06_walk_facts).prog w) rfl (by decide) (by kernel_rfl) ⟨rfl, by decide, by decide⟩ ?F ?CX
    case CX => exact fun w H s e s' h => by obtain ⟨_, _, _, _, _, _, _, _, _, _, _, _, h⟩ := h; exact h
    case F =>
      intro w mg fa h Y G hmg0
      obtain ⟨K, KX, c⟩ := Y
      refine ⟨K, KX, ?_⟩
      letI : Z.TabList := ⟨Gk06.tf.map fun q => (He.cT K q).2⟩
      obtain ⟨fd, hm, hb, hF⟩ := Gk06.facts (P := (PySem.Challenge.rw_anydoornext_k06_walk_facts).prog) (w := w) KX G c.t.d Gk06.plain
      have hmg : mg ("law" : PySem.Str) = some (.ref fa) := by
        have e : (HandSHeadRun.topDef (OpenLaw.row PySem.Challenge.rw_anydoornext_k06_walk_facts).prog 23).name = ("law" : PySem.Str) := by kernel_rfl
        rw [← e]
        exact hmg0
      obtain rfl : He.fAd K ("law", none) = fa := by rw [hm] at hmg; cases hmg; rfl
      refine ⟨fd, Gk06.tf.map (He.cT K), _, fun q hq => ?_, fun q hq => ?_, fun q hq => ?_, hb, fun H a ns hl _ hT hS => ?_, fun base _ _ TB => hF base fun q hq => ⟨List.mem_map_of_mem hq, ?_⟩⟩
      · obtain ⟨p, hp, e⟩ := List.mem_map.mp hq; subst e; exact c.empty p hp
      · obtain ⟨p, hp, e⟩ := List.mem_map.mp hq; subst e; exact c.out p hp
      · obtain ⟨p, hp, e⟩ := List.mem_map.mp hq; subst e; exact PySem.W.codeHd_of_K KX (c.hd p hp)
      · refine ⟨fun q hq => ?_, a, ns, rfl, hS, Gk06.plain ns hl, fun _ => rfl⟩
        obtain ⟨p, hp, e⟩ := List.mem_map.mp hq; subst e
        exact ⟨#[], hT _ (List.mem_map_of_mem hp), trivial⟩
      · have t := TB _ (List.mem_map_of_mem hq)
        exact ⟨t.code, t.bm, t.gP⟩

