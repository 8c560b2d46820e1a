import PyProof.Rows.All
import Wide.All
import OpenK.AllK
import Wide.FinOn
import HandS.ForMost
import HandS.ExcCtx
import HandS.HotCalls
import HandS.ForExc
import HandS.TupLe
import HandS.CallSlots
import HandS.TupAny
import HandS.Wide
import HandS.SortInts
import HandS.Deep
import HandS.SortOrd
import HandS.SortRule
import KE.KTupSum
import HandS.Flow
import HandS.Small
import HandS.Comp
import HandS.Defaults
import HandS.IsInst
import KE.GoesEnum
import HandS.Head0
import HandS.Head1
import HandS.Head2
import HandS.HeadEnd
import HandS.HeadHook1
import HandS.HeadHook2
import HandS.Ends
import HandS.DictComp
import HandS.AnyAll
import PyProof.GenCompD
import HandS.Nested
import HandS.HeadHook3
import HandS.HeadHook4
import HandS.HeadWalk
import KE.KExcSuper
import HandS.ExcInit
import HandS.More
import HandS.ExcField
import HandS.TryMany
import HandS.Style
import KE.KTryMore
import HandS.Strs
import HandS.SetBool
import HandS.Conv
import KE.DatumOrd
import PySem.Challenge.RW_anydoornext_k04_check_walk
set_option Elab.async false
set_option linter.all false
set_option maxRecDepth 100000
namespace Z
open PySem PySem.Spec L2

/-! ### pure value trees -/
inductive D where
  | non | bl (b : Bool) | int (i : Int) | str (s : Str)
  | tup (ds : List D)
  | lst (m : Bool) (ds : List D)
  | dic (m : Bool) (ks : List Key) (ds : List D)
  | dit (m : Bool) (ks : List (List Key)) (ds : List D)
  | set (m : Bool) (ks : List Int)
  /-- the script, that none may change -/
  | scr (ns : List Int)
  deriving Inhabited

mutual
def imm : D → Bool
  | .tup ds => imms ds
  | .lst m ds => !m && imms ds
  | .dic m _ ds => !m && imms ds
  | .dit m _ ds => !m && imms ds
  | .set m _ => !m
  | _ => true
def imms : List D → Bool
  | [] => true
  | d :: ds => imm d && imms ds
end
mutual
def fz : D → D
  | .tup ds => .tup (fzs ds)
  | .lst _ ds => .lst false (fzs ds)
  | .dic _ ks ds => .dic false ks (fzs ds)
  | .dit _ ks ds => .dit false ks (fzs ds)
  | .set _ ks => .set false ks
  | d => d
def fzs : List D → List D
  | [] => []
  | d :: ds => fz d :: fzs ds
end

abbrev Own := Addr → Prop
def Sep (P P1 P2 : Own) : Prop := (∀ a, P1 a → P a) ∧ (∀ a, P2 a → P a) ∧ ∀ a, P1 a → ¬ P2 a

/-- at a stands u: owned (m), or locked for good -/
def Hold (H : Hp) (m : Bool) (a : Addr) (u : HO) (P Q : Own) : Prop :=
  match m with
  | true => H a = some u ∧ P a ∧ ∀ b, Q b → P b ∧ b ≠ a
  | false => (∃ o, H a = some (.frz o u)) ∧ ∀ b, Q b → P b

/-- the script at a -/
def Scr (K : PySem.W.Frag) (H : Hp) (a : Addr) (ns : List Int) : Prop := (∃ o, H a = some (.frz o (.lst (ns.map V.int)))) ∨
  ∃ (o : Obj) (its : Array Value) (n : Nat), K.lookup a = some o ∧ o.cls = .type "list" ∧ o.dict = none ∧ o.data = .seq its n ∧ its.size ≤ sizeLine ∧ Vals (ns.map V.int) its.toList
theorem Scr.sq {K : PySem.W.Frag} {H : Hp} {a : Addr} {ns : List Int} (h : Scr K H a ns) : SqL K H a (ns.map V.int) := h.imp (fun z => .inr z) id

mutual
def Rel (K : PySem.W.Frag) (H : Hp) : D → V → Own → Prop
  | .non, v, _ => v = .non
  | .bl b, v, _ => v = .bl b
  | .int i, v, _ => v = .int i
  | .str x, v, _ => v = .str x
  | .tup ds, v, P => ∃ a vs, v = .ref a ∧ SqT K H a vs ∧ Rels K H ds vs P
  | .lst m ds, v, P => ∃ a vs Q, v = .ref a ∧ Hold H m a (.lst vs) P Q ∧ Rels K H ds vs Q
  | .dic m ks ds, v, P => ∃ a kvs Q, v = .ref a ∧ Hold H m a (.dK kvs) P Q ∧ (kvs.map (·.1) = ks ∧ ks.Nodup) ∧ Rels K H ds (kvs.map (·.2)) Q
  | .dit m ks ds, v, P => ∃ a kvs Q, v = .ref a ∧ Hold H m a (.dT kvs) P Q ∧ (kvs.map (·.1) = ks ∧ ks.Nodup) ∧ Rels K H ds (kvs.map (·.2)) Q
  | .set m ks, v, P => ∃ a S Q, v = .ref a ∧ Hold H m a (.set S ks.length) P Q ∧ ks.Nodup ∧ ∀ i, S i = decide (i ∈ ks)
  | .scr ns, v, _ => ∃ a, v = .ref a ∧ Scr K H a ns
def Rels (K : PySem.W.Frag) (H : Hp) : List D → List V → Own → Prop
  | [], vs, _ => vs = []
  | d :: ds, vs, P => ∃ v vs' P1 P2, vs = v :: vs' ∧ Sep P P1 P2 ∧ Rel K H d v P1 ∧ Rels K H ds vs' P2
end

/-- a def's table of code that was made by it -/
def TabG' (H : Hp) (p : Addr) : Prop := ∃ ps : Array Value, H p = some (.tbl ps) ∧ TriplesOk ps.toList
/-- the program's defs that make code as they run: where their tables stand -/
class TabList where
  tabs : List Addr
/-- what may change: mutable things at O, tables of code; all else stands -/
structure Ev (O : Own) (H H' : Hp) : Prop where
  keep : ∀ a o, H a = some o → (∀ ps, o ≠ .tbl ps) → (O a → ¬ Mut (some o)) → H' a = some o
  dom : ∀ a, H a ≠ none → H' a ≠ none
  tbl : ∀ p, TabG' H p → TabG' H' p
abbrev No : Own := fun _ => False
def New (P : Own) (H : Hp) (P' : Own) : Prop := ∀ a, P' a → P a ∨ H a = none

theorem Ev.refl {O : Own} {H : Hp} : Ev O H H := ⟨fun _ _ e _ _ => e, fun _ e => e, fun _ h => h⟩
theorem Ev.trans {O O1 : Own} {H H1 H2 : Hp} (a : Ev O H H1) (b : Ev O1 H1 H2) (h : New O H O1) : Ev O H H2 :=
  ⟨fun x o e t m => b.keep x o (a.keep x o e t m) t (fun z => (h x z).elim m (fun n => absurd n (by rw [e]; exact fun z => nomatch z))), fun x e => b.dom x (a.dom x e), fun p h => b.tbl p (a.tbl p h)⟩
theorem Ev.mono {O O1 : Own} {H H1 : Hp} (a : Ev O H H1) (h : ∀ x, O x → O1 x) : Ev O1 H H1 := ⟨fun x o e t m => a.keep x o e t fun z => m (h x z), a.dom, a.tbl⟩
theorem Ev.of_no {O : Own} {H H1 : Hp} (a : Ev No H H1) : Ev O H H1 := a.mono fun _ z => z.elim
theorem New.refl {P : Own} {H : Hp} : New P H P := fun _ h => .inl h
theorem New.trans {P P1 P2 : Own} {O : Own} {H H1 : Hp} (a : New P H P1) (e : Ev O H H1) (b : New P1 H1 P2) : New P H P2 := fun x h => by
  rcases b x h with h | h
  · exact a x h
  · right
    cases q : H x with
    | none => rfl
    | some o => exact absurd h (e.dom x (by rw [q]; exact fun z => nomatch z))
theorem New.sub {P P1 P2 : Own} {H : Hp} (a : New P H P1) (h : ∀ x, P2 x → P1 x) : New P H P2 := fun x z => a x (h x z)
theorem Sep.symm {P P1 P2 : Own} (s : Sep P P1 P2) : Sep P P2 P1 := ⟨s.2.1, s.1, fun a h2 h1 => s.2.2 a h1 h2⟩
theorem Sep.nl {P : Own} : Sep P No P := ⟨fun _ z => z.elim, fun _ z => z, fun _ z => z.elim⟩
theorem Sep.nr {P : Own} : Sep P P No := ⟨fun _ z => z, fun _ z => z.elim, fun _ _ z => z.elim⟩
theorem Sep.mono {P P' P1 P2 Q1 Q2 : Own} (s : Sep P P1 P2) (h : ∀ a, P a → P' a) (h1 : ∀ a, Q1 a → P1 a) (h2 : ∀ a, Q2 a → P2 a) : Sep P' Q1 Q2 :=
  ⟨fun a z => h a (s.1 a (h1 a z)), fun a z => h a (s.2.1 a (h2 a z)), fun a z y => s.2.2 a (h1 a z) (h2 a y)⟩
def Uni (P Q : Own) : Own := fun a => P a ∨ Q a
theorem Sep.uni {P Q : Own} (h : ∀ a, P a → ¬ Q a) : Sep (Uni P Q) P Q := ⟨fun _ z => .inl z, fun _ z => .inr z, h⟩

section
variable {K : PySem.W.Frag} {H H' : Hp} {O P P' Q : Own}

theorem Hold.mono {m : Bool} {a : Addr} {u : HO} (h : Hold H m a u P Q) (hp : ∀ a, P a → P' a) : Hold H m a u P' Q := by
  cases m with
  | true => exact ⟨h.1, hp _ h.2.1, fun b z => ⟨hp _ (h.2.2 b z).1, (h.2.2 b z).2⟩⟩
  | false => exact ⟨h.1, fun b z => hp _ (h.2 b z)⟩
theorem Hold.frame {m : Bool} {a : Addr} {u : HO} (h : Hold H m a u P Q) (e : Ev O H H') (hu : ∀ ps, u ≠ .tbl ps) (d : ∀ a, P a → ¬ O a) : Hold H' m a u P Q := by
  cases m with
  | true => exact ⟨e.keep a u h.1 hu fun z => (d a h.2.1 z).elim, h.2⟩
  | false => exact ⟨h.1.imp fun o z => e.keep a _ z (fun _ q => nomatch q) fun _ m => m, h.2⟩
theorem Hold.sub {m : Bool} {a : Addr} {u : HO} (h : Hold H m a u P Q) : ∀ b, Q b → P b := by
  cases m with
  | true => exact fun b z => (h.2.2 b z).1
  | false => exact h.2
theorem Hold.rd {m : Bool} {a : Addr} {u : HO} (h : Hold H m a u P Q) : Rd H a u := by
  cases m with
  | true => exact .inl h.1
  | false => exact .inr h.1
theorem sqT_frame {a : Addr} {vs : List V} (h : SqT K H a vs) (e : Ev O H H') : SqT K H' a vs := by
  rcases h with (h | ⟨o, h⟩) | h
  · exact .inl (.inl (e.keep a _ h (fun _ q => nomatch q) fun _ m => m))
  · exact .inl (.inr ⟨o, e.keep a _ h (fun _ q => nomatch q) fun _ m => m⟩)
  · exact .inr h

mutual
theorem Rel.mono : ∀ {d : D} {v : V} {P P' : Own}, Rel K H d v P → (∀ a, P a → P' a) → Rel K H d v P'
  | .non, _, _, _, h, _ => h
  | .bl _, _, _, _, h, _ => h
  | .int _, _, _, _, h, _ => h
  | .str _, _, _, _, h, _ => h
  | .tup ds, _, _, _, h, hp => by
    obtain ⟨a, vs, e, s, r⟩ := h
    exact ⟨a, vs, e, s, Rels.mono r hp⟩
  | .lst m ds, _, _, _, h, hp => by
    obtain ⟨a, vs, Q, e, s, r⟩ := h
    exact ⟨a, vs, Q, e, s.mono hp, r⟩
  | .dic m ks ds, _, _, _, h, hp => by
    obtain ⟨a, vs, Q, e, s, r⟩ := h
    exact ⟨a, vs, Q, e, s.mono hp, r⟩
  | .dit m ks ds, _, _, _, h, hp => by
    obtain ⟨a, vs, Q, e, s, r⟩ := h
    exact ⟨a, vs, Q, e, s.mono hp, r⟩
  | .set m ks, _, _, _, h, hp => by
    obtain ⟨a, vs, Q, e, s, r⟩ := h
    exact ⟨a, vs, Q, e, s.mono hp, r⟩
  | .scr _, _, _, _, h, _ => h
theorem Rels.mono : ∀ {ds : List D} {vs : List V} {P P' : Own}, Rels K H ds vs P → (∀ a, P a → P' a) → Rels K H ds vs P'
  | [], _, _, _, h, _ => h
  | _ :: _, _, _, _, h, hp => by
    obtain ⟨v, vs', P1, P2, e, s, r, rs⟩ := h
    exact ⟨v, vs', P1, P2, e, s.mono hp (fun _ z => z) fun _ z => z, r, rs⟩
end

mutual
theorem Rel.frame : ∀ {d : D} {v : V} {P : Own}, Rel K H d v P → Ev O H H' → (∀ a, P a → ¬ O a) → Rel K H' d v P
  | .non, _, _, h, _, _ => h
  | .bl _, _, _, h, _, _ => h
  | .int _, _, _, h, _, _ => h
  | .str _, _, _, h, _, _ => h
  | .tup ds, _, _, h, e, d => by
    obtain ⟨a, vs, q, s, r⟩ := h
    exact ⟨a, vs, q, sqT_frame s e, Rels.frame r e d⟩
  | .lst m ds, _, _, h, e, d => by
    obtain ⟨a, vs, Q, q, s, r⟩ := h
    exact ⟨a, vs, Q, q, s.frame e (fun _ z => nomatch z) d, Rels.frame r e fun a z => d a (s.sub a z)⟩
  | .dic m ks ds, _, _, h, e, d => by
    obtain ⟨a, vs, Q, q, s, k, r⟩ := h
    exact ⟨a, vs, Q, q, s.frame e (fun _ z => nomatch z) d, k, Rels.frame r e fun a z => d a (s.sub a z)⟩
  | .dit m ks ds, _, _, h, e, d => by
    obtain ⟨a, vs, Q, q, s, k, r⟩ := h
    exact ⟨a, vs, Q, q, s.frame e (fun _ z => nomatch z) d, k, Rels.frame r e fun a z => d a (s.sub a z)⟩
  | .set m ks, _, _, h, e, d => by
    obtain ⟨a, vs, Q, q, s, k⟩ := h
    exact ⟨a, vs, Q, q, s.frame e (fun _ z => nomatch z) d, k⟩
  | .scr ns, _, _, h, e, d => by
    obtain ⟨a, q, s⟩ := h
    exact ⟨a, q, s.imp (fun ⟨o, z⟩ => ⟨o, e.keep a _ z (fun _ q => nomatch q) fun _ m => m⟩) id⟩
theorem Rels.frame : ∀ {ds : List D} {vs : List V} {P : Own}, Rels K H ds vs P → Ev O H H' → (∀ a, P a → ¬ O a) → Rels K H' ds vs P
  | [], _, _, h, _, _ => h
  | _ :: _, _, _, h, e, d => by
    obtain ⟨v, vs', P1, P2, q, s, r, rs⟩ := h
    exact ⟨v, vs', P1, P2, q, s, Rel.frame r e fun a z => d a (s.1 a z), Rels.frame rs e fun a z => d a (s.2.1 a z)⟩
end

mutual
theorem Rel.imm : ∀ {d : D} {v : V} {P : Own}, imm d = true → Rel K H d v P → Rel K H d v No
  | .non, _, _, _, h => h
  | .bl _, _, _, _, h => h
  | .int _, _, _, _, h => h
  | .str _, _, _, _, h => h
  | .tup ds, _, _, i, h => by
    obtain ⟨a, vs, q, s, r⟩ := h
    exact ⟨a, vs, q, s, Rels.imm (by simpa [Z.imm] using i) r⟩
  | .lst m ds, _, _, i, h => by
    simp only [Z.imm, Bool.and_eq_true, Bool.not_eq_true'] at i
    obtain ⟨rfl, i⟩ := i
    obtain ⟨a, vs, Q, q, s, r⟩ := h
    exact ⟨a, vs, No, q, ⟨s.1, fun _ z => z⟩, Rels.imm i r⟩
  | .dic m ks ds, _, _, i, h => by
    simp only [Z.imm, Bool.and_eq_true, Bool.not_eq_true'] at i
    obtain ⟨rfl, i⟩ := i
    obtain ⟨a, vs, Q, q, s, k, r⟩ := h
    exact ⟨a, vs, No, q, ⟨s.1, fun _ z => z⟩, k, Rels.imm i r⟩
  | .dit m ks ds, _, _, i, h => by
    simp only [Z.imm, Bool.and_eq_true, Bool.not_eq_true'] at i
    obtain ⟨rfl, i⟩ := i
    obtain ⟨a, vs, Q, q, s, k, r⟩ := h
    exact ⟨a, vs, No, q, ⟨s.1, fun _ z => z⟩, k, Rels.imm i r⟩
  | .set m ks, _, _, i, h => by
    simp only [Z.imm, Bool.not_eq_true'] at i
    subst i
    obtain ⟨a, vs, Q, q, s, k⟩ := h
    exact ⟨a, vs, No, q, ⟨s.1, fun _ z => z⟩, k⟩
  | .scr _, _, _, _, h => h
theorem Rels.imm : ∀ {ds : List D} {vs : List V} {P : Own}, imms ds = true → Rels K H ds vs P → Rels K H ds vs No
  | [], _, _, _, h => h
  | d :: ds, _, _, i, h => by
    simp only [imms, Bool.and_eq_true] at i
    obtain ⟨v, vs', P1, P2, q, s, r, rs⟩ := h
    exact ⟨v, vs', No, No, q, Sep.nl, Rel.imm i.1 r, Rels.imm i.2 rs⟩
end

theorem Rels.length : ∀ {ds : List D} {vs : List V} {P : Own}, Rels K H ds vs P → ds.length = vs.length
  | [], vs, _, h => by
    have e : vs = [] := h
    subst e
    rfl
  | _ :: _, _, _, h => by
    obtain ⟨v, vs', P1, P2, q, s, r, rs⟩ := h
    rw [q, List.length_cons, List.length_cons, Rels.length rs]
end
section
variable {K : PySem.W.Frag} {H H' : Hp} {O P P' Q : Own}
theorem Rels.cons {d : D} {ds : List D} {v : V} {vs : List V} {P1 P2 : Own} (s : Sep P P1 P2) (r : Rel K H d v P1) (rs : Rels K H ds vs P2) : Rels K H (d :: ds) (v :: vs) P := ⟨v, vs, P1, P2, rfl, s, r, rs⟩
/-- one item taken out -/
theorem Rels.get : ∀ {ds : List D} {vs : List V} {P : Own} {i : Nat} {d : D}, Rels K H ds vs P → ds[i]? = some d → ∃ v P1, vs[i]? = some v ∧ (∀ a, P1 a → P a) ∧ Rel K H d v P1
  | [], _, _, _, _, _, e => by simp at e
  | d :: ds, _, _, 0, _, h, e => by
    obtain ⟨v, vs', P1, P2, rfl, s, r, rs⟩ := h
    simp at e; subst e
    exact ⟨v, P1, rfl, s.1, r⟩
  | d :: ds, _, _, i + 1, _, h, e => by
    obtain ⟨v, vs', P1, P2, rfl, s, r, rs⟩ := h
    obtain ⟨w, P3, e1, sb, r1⟩ := Rels.get (i := i) rs (by simpa using e)
    exact ⟨w, P3, by simpa using e1, fun a z => s.2.1 a (sb a z), r1⟩
theorem Rels.nil : Rels K H [] [] P := rfl
theorem Rels.append : ∀ {ds es : List D} {vs ws : List V} {P P1 P2 : Own}, Sep P P1 P2 → Rels K H ds vs P1 → Rels K H es ws P2 → Rels K H (ds ++ es) (vs ++ ws) P
  | [], es, vs, ws, P, P1, P2, s, h, g => by
    have e : vs = [] := h
    subst e
    exact g.mono s.2.1
  | d :: ds, es, _, ws, P, P1, P2, s, h, g => by
    obtain ⟨v, vs', Q1, Q2, rfl, t, r, rs⟩ := h
    refine ⟨v, vs' ++ ws, Q1, Uni Q2 P2, rfl, ⟨fun a z => s.1 a (t.1 a z), fun a z => z.elim (fun z => s.1 a (t.2.1 a z)) (s.2.1 a), fun a z y => y.elim (t.2.2 a z) (s.2.2 a (t.1 a z))⟩, r, ?_⟩
    exact Rels.append (Sep.uni fun a z => s.2.2 a (t.2.1 a z)) rs g
theorem Rels.split : ∀ {ds es : List D} {ws : List V} {P : Own}, Rels K H (ds ++ es) ws P → ∃ vs us P1 P2, ws = vs ++ us ∧ Sep P P1 P2 ∧ Rels K H ds vs P1 ∧ Rels K H es us P2
  | [], es, ws, P, h => ⟨[], ws, No, P, rfl, Sep.nl, rfl, h⟩
  | d :: ds, es, _, P, h => by
    obtain ⟨v, vs', Q1, Q2, rfl, t, r, rs⟩ := h
    obtain ⟨vs, us, P1, P2, rfl, s, r1, r2⟩ := Rels.split rs
    refine ⟨v :: vs, us, Uni Q1 P1, P2, rfl, ⟨fun a z => z.elim (t.1 a) (fun z => t.2.1 a (s.1 a z)), fun a z => t.2.1 a (s.2.1 a z), fun a z y => z.elim (fun z => t.2.2 a z (s.2.1 a y)) (fun z => s.2.2 a z y)⟩, ?_, r2⟩
    exact Rels.cons (Sep.uni fun a z y => t.2.2 a z (s.1 a y)) r r1
theorem imms_of_get : ∀ {ds : List D} {i : Nat} {d : D}, imms ds = true → ds[i]? = some d → Z.imm d = true
  | [], _, _, _, e => by simp at e
  | d :: ds, 0, _, h, e => by simp at e; subst e; simp only [imms, Bool.and_eq_true] at h; exact h.1
  | d :: ds, i + 1, _, h, e => by simp only [imms, Bool.and_eq_true] at h; exact imms_of_get (i := i) h.2 (by simpa using e)
theorem imms_all : ∀ ds : List D, imms ds = ds.all Z.imm
  | [] => rfl
  | d :: ds => by simp only [imms, List.all_cons, imms_all ds]
theorem fzs_map : ∀ ds : List D, fzs ds = ds.map fz
  | [] => rfl
  | d :: ds => by simp only [fzs, List.map_cons, fzs_map ds]
mutual
theorem fz_imm : ∀ d : D, Z.imm (fz d) = true
  | .non => rfl
  | .bl _ => rfl
  | .int _ => rfl
  | .str _ => rfl
  | .tup ds => by simp only [fz, Z.imm]; exact fzs_imm ds
  | .lst m ds => by simp only [fz, Z.imm]; simpa using fzs_imm ds
  | .dic m ks ds => by simp only [fz, Z.imm]; simpa using fzs_imm ds
  | .dit m ks ds => by simp only [fz, Z.imm]; simpa using fzs_imm ds
  | .set m ks => rfl
  | .scr _ => rfl
theorem fzs_imm : ∀ ds : List D, imms (fzs ds) = true
  | [] => rfl
  | d :: ds => by simp only [fzs, imms, fz_imm d, fzs_imm ds, Bool.and_self]
end
mutual
theorem fz_of_imm : ∀ d : D, Z.imm d = true → fz d = d
  | .non, _ => rfl
  | .bl _, _ => rfl
  | .int _, _ => rfl
  | .str _, _ => rfl
  | .tup ds, h => by simp only [fz]; rw [fzs_of_imm ds (by simpa [Z.imm] using h)]
  | .lst m ds, h => by
    simp only [Z.imm, Bool.and_eq_true, Bool.not_eq_true'] at h
    simp only [fz]; rw [fzs_of_imm ds h.2, h.1]
  | .dic m ks ds, h => by
    simp only [Z.imm, Bool.and_eq_true, Bool.not_eq_true'] at h
    simp only [fz]; rw [fzs_of_imm ds h.2, h.1]
  | .dit m ks ds, h => by
    simp only [Z.imm, Bool.and_eq_true, Bool.not_eq_true'] at h
    simp only [fz]; rw [fzs_of_imm ds h.2, h.1]
  | .set m ks, h => by
    simp only [Z.imm, Bool.not_eq_true'] at h
    simp only [fz]; rw [h]
  | .scr _, _ => rfl
theorem fzs_of_imm : ∀ ds : List D, imms ds = true → fzs ds = ds
  | [], _ => rfl
  | d :: ds, h => by
    simp only [imms, Bool.and_eq_true] at h
    simp only [fzs]; rw [fz_of_imm d h.1, fzs_of_imm ds h.2]
end
end

section
variable {K : PySem.W.Frag} {H : Hp}
abbrev Tt (H : Hp) (P : Own) : Own := fun a => P a ∧ H a ≠ none
theorem Sep.tight {P P1 P2 : Own} (s : Sep P P1 P2) : Sep (Tt H P) (Tt H P1) (Tt H P2) := ⟨fun a z => ⟨s.1 a z.1, z.2⟩, fun a z => ⟨s.2.1 a z.1, z.2⟩, fun a z y => s.2.2 a z.1 y.1⟩
theorem Hold.tight {m : Bool} {a : Addr} {u : HO} {P Q : Own} (h : Hold H m a u P Q) : Hold H m a u (Tt H P) (Tt H Q) := by
  cases m with
  | true => exact ⟨h.1, ⟨h.2.1, by rw [h.1]; exact fun z => nomatch z⟩, fun b z => ⟨⟨(h.2.2 b z.1).1, z.2⟩, (h.2.2 b z.1).2⟩⟩
  | false => exact ⟨h.1, fun b z => ⟨h.2 b z.1, z.2⟩⟩
mutual
theorem Rel.tight : ∀ {d : D} {v : V} {P : Own}, Rel K H d v P → Rel K H d v (Tt H P)
  | .non, _, _, h => h
  | .bl _, _, _, h => h
  | .int _, _, _, h => h
  | .str _, _, _, h => h
  | .tup ds, _, _, h => by
    obtain ⟨a, vs, e, s, r⟩ := h
    exact ⟨a, vs, e, s, Rels.tight r⟩
  | .lst m ds, _, _, h => by
    obtain ⟨a, vs, Q, e, s, r⟩ := h
    exact ⟨a, vs, _, e, s.tight, Rels.tight r⟩
  | .dic m ks ds, _, _, h => by
    obtain ⟨a, vs, Q, e, s, k, r⟩ := h
    exact ⟨a, vs, _, e, s.tight, k, Rels.tight r⟩
  | .dit m ks ds, _, _, h => by
    obtain ⟨a, vs, Q, e, s, k, r⟩ := h
    exact ⟨a, vs, _, e, s.tight, k, Rels.tight r⟩
  | .set m ks, _, _, h => by
    obtain ⟨a, vs, Q, e, s, k⟩ := h
    exact ⟨a, vs, _, e, s.tight, k⟩
  | .scr _, _, _, h => h
theorem Rels.tight : ∀ {ds : List D} {vs : List V} {P : Own}, Rels K H ds vs P → Rels K H ds vs (Tt H P)
  | [], _, _, h => h
  | _ :: _, _, _, h => by
    obtain ⟨v, vs', P1, P2, e, s, r, rs⟩ := h
    exact ⟨v, vs', _, _, e, s.tight, Rel.tight r, Rels.tight rs⟩
end
end

/-! ### slots -/
abbrev Env := List (Option D)
def RelO' (K : PySem.W.Frag) (H : Hp) : Option D → Option V → Own → Prop
  | none, _, _ => True
  | some d, ov, P => ∃ v, ov = some v ∧ Rel K H d v P
variable [TabList]
theorem TabG'.new {H : Hp} {p q : Addr} {u : HO} (h : H p = none) (t : TabG' H q) : TabG' (upd H p u) q := by
  obtain ⟨ps, e, ok⟩ := t
  exact ⟨ps, by rw [upd_ne (fun z => by rw [z, h] at e; cases e)]; exact e, ok⟩
theorem TabG'.mut {H : Hp} {p q : Addr} {o u : HO} (h : H p = some o) (mu : Mut (some o)) (t : TabG' H q) : TabG' (upd H p u) q := by
  obtain ⟨ps, e, ok⟩ := t
  exact ⟨ps, by rw [upd_ne (fun z => by rw [z, h] at e; cases e; exact mu)]; exact e, ok⟩
def Tabs (H : Hp) : Prop := ∀ p ∈ TabList.tabs, TabG' H p
theorem Tabs.on {O : Own} {H H' : Hp} (h : Tabs H) (e : Ev O H H') : Tabs H' := fun p hp => e.tbl p (h p hp)
def RelE (K : PySem.W.Frag) (H : Hp) : Env → L2.St → Own → Prop
  | [], σ, _ => σ = [] ∧ Tabs H
  | od :: e, σ, P => ∃ ov σ' P1 P2, σ = ov :: σ' ∧ Sep P P1 P2 ∧ RelO' K H od ov P1 ∧ RelE K H e σ' P2
section
variable {K : PySem.W.Frag} {H H' : Hp} {O P P' Q : Own}
theorem RelO'.mono {od : Option D} {ov : Option V} (h : RelO' K H od ov P) (hp : ∀ a, P a → P' a) : RelO' K H od ov P' := by
  cases od with
  | none => trivial
  | some d => obtain ⟨v, e, r⟩ := h; exact ⟨v, e, r.mono hp⟩
theorem RelO'.frame {od : Option D} {ov : Option V} (h : RelO' K H od ov P) (e : Ev O H H') (d : ∀ a, P a → ¬ O a) : RelO' K H' od ov P := by
  cases od with
  | none => trivial
  | some d' => obtain ⟨v, q, r⟩ := h; exact ⟨v, q, r.frame e d⟩
theorem RelE.mono : ∀ {env : Env} {σ : L2.St} {P P' : Own}, RelE K H env σ P → (∀ a, P a → P' a) → RelE K H env σ P'
  | [], _, _, _, h, _ => h
  | _ :: _, _, _, _, h, hp => by
    obtain ⟨ov, σ', P1, P2, e, s, r, rs⟩ := h
    exact ⟨ov, σ', P1, P2, e, s.mono hp (fun _ z => z) fun _ z => z, r, rs⟩
theorem RelE.tabs : ∀ {env : Env} {σ : L2.St} {P : Own}, RelE K H env σ P → Tabs H
  | [], _, _, h => h.2
  | _ :: _, _, _, h => by
    obtain ⟨ov, σ', P1, P2, e, s, r, rs⟩ := h
    exact rs.tabs
theorem RelE.frame : ∀ {env : Env} {σ : L2.St} {P : Own}, RelE K H env σ P → Ev O H H' → (∀ a, P a → ¬ O a) → RelE K H' env σ P
  | [], _, _, h, e, _ => ⟨h.1, h.2.on e⟩
  | _ :: _, _, _, h, e, d => by
    obtain ⟨ov, σ', P1, P2, q, s, r, rs⟩ := h
    exact ⟨ov, σ', P1, P2, q, s, r.frame e fun a z => d a (s.1 a z), RelE.frame rs e fun a z => d a (s.2.1 a z)⟩
theorem RelE.ev {env : Env} {σ : L2.St} (h : RelE K H env σ P) (e : Ev No H H') : RelE K H' env σ P := h.frame e fun _ _ z => z
theorem Rel.ev {d : D} {v : V} (h : Rel K H d v P) (e : Ev No H H') : Rel K H' d v P := h.frame e fun _ _ z => z
theorem RelE.length : ∀ {env : Env} {σ : L2.St} {P : Own}, RelE K H env σ P → env.length = σ.length
  | [], σ, _, h => by
    have e : σ = [] := h.1
    subst e
    rfl
  | _ :: _, _, _, h => by
    obtain ⟨ov, σ', P1, P2, q, s, r, rs⟩ := h
    rw [q, List.length_cons, List.length_cons, RelE.length rs]
theorem RelE.tight : ∀ {env : Env} {σ : L2.St} {P : Own}, RelE K H env σ P → RelE K H env σ (Tt H P)
  | [], _, _, h => h
  | od :: _, _, _, h => by
    obtain ⟨ov, σ', P1, P2, e, s, r, rs⟩ := h
    refine ⟨ov, σ', _, _, e, s.tight, ?_, RelE.tight rs⟩
    cases od with
    | none => trivial
    | some d => obtain ⟨v, e, r⟩ := r; exact ⟨v, e, r.tight⟩
/-- slot i taken out -/
theorem RelE.get : ∀ {env : Env} {σ : L2.St} {P : Own} {i : Nat} {d : D}, RelE K H env σ P → env[i]? = some (some d) →
    ∃ v P1 P2, σ[i]? = some (some v) ∧ Sep P P1 P2 ∧ Rel K H d v P1 ∧ RelE K H (env.set i none) σ P2
  | [], _, _, _, _, _, e => by simp at e
  | od :: env, _, _, 0, d, h, e => by
    obtain ⟨ov, σ', P1, P2, rfl, s, r, rs⟩ := h
    simp at e; subst e
    obtain ⟨v, rfl, r⟩ := r
    exact ⟨v, P1, P2, rfl, s, r, some v, σ', No, P2, rfl, Sep.nl, trivial, rs⟩
  | od :: env, _, _, i + 1, d, h, e => by
    obtain ⟨ov, σ', P1, P2, rfl, s, r, rs⟩ := h
    obtain ⟨v, Q1, Q2, e1, t, r1, r2⟩ := RelE.get (i := i) rs (by simpa using e)
    refine ⟨v, Q1, Uni P1 Q2, by simpa using e1, ⟨fun a z => s.2.1 a (t.1 a z), fun a z => z.elim (s.1 a) fun z => s.2.1 a (t.2.1 a z), fun a z y => y.elim (fun y => s.2.2 a y (t.1 a z)) (t.2.2 a z)⟩, r1, ?_⟩
    exact ⟨ov, σ', P1, Q2, rfl, Sep.uni fun a z y => s.2.2 a z (t.2.1 a y), r, r2⟩
/-- slot i filled -/
theorem RelE.put : ∀ {env : Env} {σ : L2.St} {P P1 P2 : Own} {i : Nat} {d : D} {v : V}, RelE K H (env.set i none) σ P2 → Sep P P1 P2 → Rel K H d v P1 → σ[i]? = some (some v) → RelE K H (env.set i (some d)) σ P
  | [], _, _, _, _, _, _, _, h, _, _, e => by
    have q : _ = [] := h.1
    subst q
    simp at e
  | od :: env, _, P, P1, P2, 0, d, v, h, s, r, e => by
    obtain ⟨ov, σ', Q1, Q2, rfl, t, _, rs⟩ := h
    simp at e; subst e
    exact ⟨some v, σ', P1, Q2, rfl, s.mono (fun _ z => z) (fun _ z => z) t.2.1, ⟨v, rfl, r⟩, rs⟩
  | od :: env, _, P, P1, P2, i + 1, d, v, h, s, r, e => by
    obtain ⟨ov, σ', Q1, Q2, rfl, t, r0, rs⟩ := h
    refine ⟨ov, σ', Q1, Uni P1 Q2, rfl, ⟨fun a z => s.2.1 a (t.1 a z), fun a z => z.elim (s.1 a) fun z => s.2.1 a (t.2.1 a z), fun a z y => y.elim (fun y => s.2.2 a y (t.1 a z)) (t.2.2 a z)⟩, r0, ?_⟩
    exact RelE.put (i := i) rs (Sep.uni fun a z y => s.2.2 a z (t.2.1 a y)) r (by simpa using e)
/-- slot i forgotten, whatever stands there -/
theorem RelE.drop : ∀ {env : Env} {σ : L2.St} {P : Own} {i : Nat} {ov : Option V}, RelE K H env σ P → RelE K H (env.set i none) (σ.set i ov) P
  | [], σ, _, _, _, h => by
    have q : σ = [] := h.1
    subst q
    exact ⟨rfl, h.2⟩
  | od :: env, _, P, 0, ov, h => by
    obtain ⟨ov', σ', Q1, Q2, rfl, t, _, rs⟩ := h
    exact ⟨ov, σ', No, Q2, rfl, Sep.nl.mono t.2.1 (fun _ z => z) (fun _ z => z), trivial, rs⟩
  | od :: env, _, P, i + 1, ov, h => by
    obtain ⟨ov', σ', Q1, Q2, rfl, t, r0, rs⟩ := h
    exact ⟨ov', σ'.set i ov, Q1, Q2, rfl, t, r0, RelE.drop (i := i) rs⟩
theorem RelE.drop' {env : Env} {σ : L2.St} {i : Nat} (h : RelE K H env σ P) : RelE K H (env.set i none) σ P := by
  by_cases hi : i < σ.length
  · have q := h.drop (i := i) (ov := σ[i])
    rwa [List.set_getElem_self] at q
  · rw [List.set_eq_of_length_le (by rw [h.length]; omega)]
    exact h
/-- a name is stored -/
theorem RelE.store {env : Env} {σ : L2.St} {P1 P2 : Own} {i : Nat} {d : D} {v : V} (h : RelE K H env σ P2) (hi : i < env.length) (s : Sep P P1 P2) (r : Rel K H d v P1) : RelE K H (env.set i (some d)) (σ.set i (some v)) P := by
  have q := (h.drop (i := i) (ov := some v)).put (i := i) (d := d) (v := v) (P := P) (P1 := P1) ?_ r (by rw [List.getElem?_set_self (by rw [← h.length]; exact hi)])
  · exact q
  · exact s
end
end Z

namespace Z
open PySem PySem.Spec L2
variable [TabList]

structure Exc where
  cls : Nat
  args : List D
inductive Res (α : Type) where
  | ok (a : α) (e : Env) | exc (x : Exc) (e : Env) | bad
inductive SRes where
  | next (e : Env) | ret (d : D) (e : Env) | brk (e : Env) | cnt (e : Env) | exc (x : Exc) (e : Env) | bad
/-- a call's answer, and what the parameters' things are like then -/
inductive CRes where
  | ok (d : D) (fin : Env) | exc (x : Exc) (fin : Env) | bad
@[simp] def Res.bind {α β : Type} (r : Res α) (f : α → Env → Res β) : Res β := match r with
  | .ok a e => f a e
  | .exc x e => .exc x e
  | .bad => .bad
@[simp] def Res.thn {α : Type} (r : Res α) (f : α → Env → SRes) : SRes := match r with
  | .ok a e => f a e
  | .exc x e => .exc x e
  | .bad => .bad
@[simp] def SRes.thn (r : SRes) (f : Env → SRes) : SRes := match r with
  | .next e => f e
  | r => r
/-- lists, texts: the longest -/
abbrev lim : Nat := 16777216

/-! ### pure functions of values -/
mutual
def toPy : D → Option PyData
  | .non => some .none
  | .bl b => some (.bool b)
  | .int i => some (.int i)
  | .str s => some (.str s)
  | .tup ds => (toPys ds).map .tuple
  | .lst _ ds => (toPys ds).map .list
  | _ => none
def toPys : List D → Option (List PyData)
  | [] => some []
  | d :: ds => (toPy d).bind fun p => (toPys ds).map fun ps => p :: ps
end
def dEq (a b : D) : Option Bool := (toPy a).bind fun x => (toPy b).bind fun y => if SeqAt.shaped x && SeqAt.shaped y then some (PyData.eqv x y) else none
def dInts : List D → Option (List Int)
  | [] => some []
  | .int i :: r => (dInts r).map fun l => i :: l
  | _ :: _ => none
def dStrs : List D → Option (List Str)
  | [] => some []
  | .str i :: r => (dStrs r).map fun l => i :: l
  | _ :: _ => none
def dBls : List D → Option (List Bool)
  | [] => some []
  | .bl i :: r => (dBls r).map fun l => i :: l
  | _ :: _ => none
def cutL {α : Type} (xs : List α) (lo hi : Option Int) : List α := (xs.drop (HT.sIx xs.length 0 lo)).take (HT.sIx xs.length xs.length hi - HT.sIx xs.length 0 lo)
/-- the key that a value is -/
def dKey : D → Option Key
  | .int i => some (.inl i)
  | .str s => some (.inr s)
  | _ => none
def dKeys : List D → Option (List Key)
  | [] => some []
  | d :: ds => (dKey d).bind fun k => (dKeys ds).map fun ks => k :: ks
/-- where a key stands -/
def kIx {κ : Type} [DecidableEq κ] : List κ → κ → Option Nat
  | [], _ => none
  | x :: xs, k => if x = k then some 0 else (kIx xs k).map (· + 1)
def look {κ : Type} [DecidableEq κ] (ks : List κ) (ds : List D) (k : κ) : Option D := (kIx ks k).bind fun j => ds[j]?
def kD : Key → D
  | .inl i => .int i
  | .inr s => .str s

/-- the types that are asked for, or stood under -/
inductive Ty where
  | non | bool | int | str | tup | lst | dic
  deriving DecidableEq
def Ty.nm : Ty → String
  | .non => "NoneType"
  | .bool => "bool"
  | .int => "int"
  | .str => "str"
  | .tup => "tuple"
  | .lst => "list"
  | .dic => "dict"
def tyD : D → Option Ty
  | .non => some .non
  | .bl _ => some .bool
  | .int _ => some .int
  | .str _ => some .str
  | .tup _ => some .tup
  | .lst _ _ => some .lst
  | .scr _ => some .lst
  | .dic _ _ _ => some .dic
  | .dit true _ _ => some .dic
  | _ => none
def isiT (a b : Ty) : Bool := decide (a = b) || (decide (a = .bool) && decide (b = .int))
inductive PF where
  | isi (t : Ty)
  | add | sub | mul | fdiv | mod | pow | shl
  | neg
  | eq | ne | lt | le | gt | ge | isN | notN | inn | nin
  | idx | slc (lo hi : Bool) | rev
  /-- list(range(..)), tuple(range(..)) -/
  | lrg (l : Bool)
  /-- min, max of a list or tuple of ints -/
  | minI | maxI
  | len | abs | min2 | max2 | sum | sorted | tuple | list | int | str
  | allL | anyL
  deriving DecidableEq

def opAdd : D → D → Option D
  | .int i, .int j => some (.int (i + j))
  | .int i, .bl k => some (.int (i + if k then 1 else 0))
  | .str a, .str b => if a.length + b.length ≤ lim then some (.str (a ++ b)) else none
  | .tup a, .tup b => if a.length + b.length ≤ lim ∧ imms a = true ∧ imms b = true then some (.tup (a ++ b)) else none
  | .lst _ a, .lst _ b => if a.length + b.length ≤ lim ∧ imms a = true ∧ imms b = true then some (.lst true (a ++ b)) else none
  | _, _ => none
/-- numbers of less than 2 ^ 900000 together, or one below 2 ^ 64 -/
def mulOk (i j : Int) : Bool := decide (i.natAbs < 2 ^ 64) || decide (j.natAbs < 2 ^ 64) || decide (i.natAbs.log2 + j.natAbs.log2 + 2 ≤ 1000000)
def opMul : D → D → Option D
  | .int i, .int j => if mulOk i j = true then some (.int (i * j)) else none
  | .lst true a, .int k => if k.natAbs < 2 ^ 32 ∧ a.length * k.toNat ≤ lim ∧ imms a = true then some (.lst true (List.replicate k.toNat a).flatten) else none
  | _, _ => none
def opDiv : D → D → Option D
  | .int i, .int j => if 0 < j ∧ j.natAbs.log2 ≤ 8999 then some (.int (i / j)) else none
  | _, _ => none
def opMod : D → D → Option D
  | .int i, .int j => if 0 < j then some (.int (i % j)) else none
  | _, _ => none
def opPow : D → D → Option D
  | .int i, .int j => if 0 ≤ j ∧ j.natAbs ≤ 1000000 ∧ i.natAbs < 2 ^ 64 then some (.int (i ^ j.toNat)) else none
  | _, _ => none
def opShl : D → D → Option D
  | .int i, .int j => if 0 ≤ j ∧ j.natAbs ≤ 1000000 ∧ i.natAbs < 2 ^ 64 then some (.int (i * 2 ^ j.toNat)) else none
  | _, _ => none
def opLt : D → D → Option Bool
  | .int i, .int j => some (decide (i < j))
  | .str i, .str j => some (decide (i.cps.toList < j.cps.toList))
  | .tup a, .tup b => (dInts a).bind fun x => (dInts b).map fun y => HT.lexLt x y
  | _, _ => none
/-- tuples of ints, from the first pair that differs on -/
def cmpT (r : Int → Int → Bool) (z : Nat → Nat → Bool) (ns ms : List Int) : Bool := Ob.lexAt (fun j => decide (ns.getD j 0 = ms.getD j 0)) (fun j => r (ns.getD j 0) (ms.getD j 0)) (z ns.length ms.length) 0 (min ns.length ms.length)
def opGt : D → D → Option Bool
  | .int i, .int j => some (decide (j < i))
  | .str i, .str j => some (decide (j.cps.toList < i.cps.toList))
  | .tup a, .tup b => (dInts a).bind fun x => (dInts b).map fun y => cmpT (fun i j => decide (j < i)) (fun m n => decide (m > n)) x y
  | _, _ => none
def opLe : D → D → Option Bool
  | .int i, .int j => some (decide (i ≤ j))
  | .str i, .str j => some (!decide (j.cps.toList < i.cps.toList))
  | .tup a, .tup b => (dInts a).bind fun x => (dInts b).map fun y => cmpT (fun i j => decide (i ≤ j)) (fun m n => decide (m ≤ n)) x y
  | _, _ => none
def opIn : D → D → Option Bool
  | d, .dic _ ks ds => (dKey d).map fun k => (look ks ds k).isSome
  | d, .str j => match d with
    | .str i => some (!(Builtin.Str.occurrences j i 0 j.length 1).isEmpty)
    | _ => none
  | d, .lst _ ds => (toPy d).bind fun x => (toPys ds).bind fun ys => if SeqAt.shaped x && SeqAt.shaped (.list ys) then some (ys.any fun y => PyData.eqv y x) else none
  | d, .tup ds => (toPy d).bind fun x => (toPys ds).bind fun ys => if SeqAt.shaped x && SeqAt.shaped (.tuple ys) then some (ys.any fun y => PyData.eqv y x) else none
  | _, _ => none
def opIdx : D → D → Option D
  | .tup ds, .int i => atI ds i
  | .lst _ ds, .int i => atI ds i
  | .str s, .int i => if s.length ≤ lim then (atI s.cps.toList i).map fun c => .str ⟨#[c]⟩ else none
  | .dic _ ks ds, d => (dKey d).bind fun k => look ks ds k
  | _, _ => none
def opCut : D → Option Int → Option Int → Option D
  | .tup ds, lo, hi => if imms ds = true then some (.tup (cutL ds lo hi)) else none
  | .lst _ ds, lo, hi => if imms ds = true then some (.lst true (cutL ds lo hi)) else none
  | .scr ns, lo, hi => some (.lst true (cutL (ns.map .int) lo hi))
  | _, _, _ => none
def opLen : D → Option D
  | .scr ns => some (.int ns.length)
  | .tup ds => some (.int ds.length)
  | .lst _ ds => some (.int ds.length)
  | .dic _ ks _ => some (.int ks.length)
  | .str s => if s.length ≤ lim then some (.int s.length) else none
  | _ => none
def dPairs : List D → Option (List (Int × Int))
  | [] => some []
  | .tup [.int i, .int j] :: r => (dPairs r).map fun l => (i, j) :: l
  | _ :: _ => none
def pairD (p : Int × Int) : D := .tup [.int p.1, .int p.2]
def leP (p q : Int × Int) : Bool := decide (p.1 < q.1 ∨ (p.1 = q.1 ∧ p.2 ≤ q.2))
def rng (lo hi : Int) : List D := (List.range (hi - lo).toNat).map fun (i : Nat) => D.int (lo + (i : Int))
def small62 (i : Int) : Bool := decide (i.natAbs < 2 ^ 62)
def mnI : List Int → Option D
  | [] => none
  | x :: xs => some (.int (xs.foldl (fun a y => if y < a then y else a) x))
def mxI : List Int → Option D
  | [] => none
  | x :: xs => some (.int (xs.foldl (fun a y => if a < y then y else a) x))
def opSorted : D → Option D
  | .lst _ ds => match dInts ds with
    | some ns => some (.lst true ((ns.mergeSort fun a b => decide (a ≤ b)).map .int))
    | none => (dPairs ds).map fun ps => .lst true ((ps.mergeSort leP).map pairD)
  | .tup ds => (dInts ds).map fun ns => .lst true ((ns.mergeSort fun a b => decide (a ≤ b)).map .int)
  | _ => none
def opSum : D → Option D
  | .lst _ ds => (dInts ds).map fun ns => .int ns.sum
  | .tup ds => (dInts ds).map fun ns => .int ns.sum
  | _ => none
def PF.ap : PF → List D → Option D
  | .add, [a, b] => opAdd a b
  | .sub, [.int i, .int j] => some (.int (i - j))
  | .mul, [a, b] => opMul a b
  | .fdiv, [a, b] => opDiv a b
  | .mod, [a, b] => opMod a b
  | .pow, [a, b] => opPow a b
  | .shl, [a, b] => opShl a b
  | .neg, [.int i] => some (.int (-i))
  | .eq, [a, b] => (dEq a b).map .bl
  | .ne, [a, b] => (dEq a b).map fun c => .bl (!c)
  | .lt, [a, b] => (opLt a b).map .bl
  | .gt, [a, b] => (opGt a b).map .bl
  | .le, [a, b] => (opLe a b).map .bl
  | .ge, [a, b] => (opLe b a).map .bl
  | .isi t, [a] => (tyD a).map fun n => .bl (isiT n t)
  | .isN, [a] => some (.bl (match a with | .non => true | _ => false))
  | .notN, [a] => some (.bl (match a with | .non => false | _ => true))
  | .inn, [a, b] => (opIn a b).map .bl
  | .nin, [a, b] => (opIn a b).map fun c => .bl (!c)
  | .idx, [a, b] => (opIdx a b).bind fun d => if imm d = true then some d else none
  | .slc false false, [a] => opCut a none none
  | .slc true false, [a, .int i] => opCut a (some i) none
  | .slc false true, [a, .int i] => opCut a none (some i)
  | .slc true true, [a, .int i, .int j] => opCut a (some i) (some j)
  | .len, [a] => opLen a
  | .abs, [.int i] => some (.int (if i < 0 then -i else i))
  | .min2, [.int i, .int j] => some (.int (if j < i then j else i))
  | .max2, [.int i, .int j] => some (.int (if j > i then j else i))
  | .sum, [a] => opSum a
  | .sorted, [a] => opSorted a
  | .allL, [.lst _ ds] => (dBls ds).map fun bs => .bl (bs.all id)
  | .anyL, [.lst _ ds] => (dBls ds).map fun bs => .bl (bs.any id)
  | .minI, [.tup ds] => (dInts ds).bind mnI
  | .minI, [.lst _ ds] => (dInts ds).bind mnI
  | .maxI, [.tup ds] => (dInts ds).bind mxI
  | .maxI, [.lst _ ds] => (dInts ds).bind mxI
  | .lrg l, [.int j] => if small62 j = true ∧ j.toNat ≤ lim then some (bif l then .lst true (rng 0 j) else .tup (rng 0 j)) else none
  | .lrg l, [.int i, .int j] => if small62 i = true ∧ small62 j = true ∧ (j - i).toNat ≤ lim then some (bif l then .lst true (rng i j) else .tup (rng i j)) else none
  | .rev, [.tup ds] => if imms ds = true then some (.tup ds.reverse) else none
  | .tuple, [.lst _ ds] => if imms ds = true then some (.tup ds) else none
  | .tuple, [.tup ds] => if imms ds = true then some (.tup ds) else none
  | .list, [.lst _ ds] => if imms ds = true then some (.lst true ds) else none
  | .list, [.tup ds] => if imms ds = true then some (.lst true ds) else none
  | .int, [.int i] => some (.int i)
  | .int, [.bl k] => some (.int (if k then 1 else 0))
  | .str, [.int i] => if i.natAbs.log2 < 1920 then some (.str (toString i)) else none
  | _, _ => none

def truth : D → Option Bool
  | .non => some false
  | .bl b => some b
  | .int i => some (i != 0)
  | .str s => if s.length ≤ lim then some (s.length != 0) else none
  | .tup ds => some (!ds.isEmpty)
  | .lst _ ds => some (!ds.isEmpty)
  | .dic true ks _ => some (!ks.isEmpty)
  | _ => none

/-! ### the text -/
/-- targets -/
inductive Tg where
  | one (i : Nat) | tup (ts : List Tg)
/-- methods that change their object -/
inductive MM where
  | append | pop | popAt | extend | insert | clear | reverse | sort | add
  deriving DecidableEq

mutual
inductive E where
  | var (i : Nat) | mov (i : Nat) | frz (i : Nat)
  | fze (e : E)
  | cst (d : D)
  | pidx (a i : E)
  | ap (p : PF) (es : Es)
  | and (a b : E) | or (a b : E) | not (a : E)
  | ife (c a b : E)
  | chn (p q : PF) (a b c : E)
  | tup (es : Es) | lst (es : Es) | dic (es : Es)
  | call (f : Nat) (es : Es)
  /-- by keywords: the j-th parameter is the perm_j-th of the values -/
  | kcall (f : Nat) (perm : List Nat) (es : Es)
  | mm (m : MM) (o : E) (es : Es)
  /-- {**o, k: v} -/
  | dup (o k v : E)
  /-- any, all of a generator expression -/
  | gen (all : Bool) (i : Nat) (a e : E)
  | lc (own : List Nat) (t : Tg) (it : It) (ifs : Es) (e : E)
  /-- sorted({e for t0 in i0 for t1 in i1 if ..}), ints -/
  | sc2 (own own1 : List Nat) (t0 : Tg) (i0 : It) (t1 : Tg) (i1 : It) (ifs : Es) (e : E)
inductive Es where
  | nil | cons (e : E) (r : Es)
/-- what a for walks -/
inductive It where
  | seq (e : E) | rng1 (a : E) | rng2 (a b : E) | rng3 (a b c : E) | enum (e : E)
end
/-- what an except suite returns: a value, or a tuple of values and of the error's fields -/
inductive HE where
  | cst (d : D) | fld (i : Nat)
inductive HR where
  | one (p : HE) | tup (ps : List HE)
  /-- x = e.field, no return -/
  | asg (x : Nat) (p : HE)
  /-- return f((.., e.field), x, ..) -/
  | call (f : Nat) (ps : List HE) (ws : List Nat)
def heOut (x : List D) : HE → Option D
  | .cst d => some d
  | .fld i => x[i]?
def hesOut (x : List D) : List HE → Option (List D)
  | [] => some []
  | p :: ps => (heOut x p).bind fun d => (hesOut x ps).map fun ds => d :: ds
def hrOut (x : List D) : HR → Option D
  | .one p => heOut x p
  | .tup ps => (hesOut x ps).map .tup
  | .asg _ p => heOut x p
  | .call _ ps _ => (hesOut x ps).map .tup
/-- clauses: the name's slot, the classes that are taken, what is returned -/
def hFind : List (Nat × List Nat × HR) → Nat → Option (Nat × HR)
  | [], _ => none
  | (i, cs, r) :: hs, c => if cs.contains c = true then some (i, r) else hFind hs c
mutual
inductive S where
  | nop
  | asg (t : Tg) (e : E)
  | sto (o i e : E)
  /-- a thing put into what stands in a slot, at a place that is computed -/
  | stc (r : Nat) (i e : E)
  | aug (i : Nat) (p : PF) (e : E)
  | exp (e : E)
  | ret (e : E) | ret0
  | brk | cnt
  | ite (c : E) (a b : Ss)
  | whl (c : E) (b : Ss)
  | for (t : Tg) (it : It) (b : Ss)
  /-- a walk over the list in a slot, which may be a changeable one; the body does not look at the slot -/
  | forL (t : Tg) (i : Nat) (b : Ss)
  /-- raise the c-th error, of n arguments -/
  | rse (c n : Nat) (es : Es)
  /-- several names at once -/
  | par (ns : List Nat) (es : Es)
  | tri (b : Ss) (hs : List (Nat × List Nat × HR))
inductive Ss where
  | nil | cons (s : S) (r : Ss)
end

/-- may the value be (a part of) what stands in a slot? -/
def E.pth : E → Bool
  | .var _ => true
  | .pidx a _ => a.pth
  | .ife _ a b => a.pth || b.pth
  | .and a b => a.pth || b.pth
  | .or a b => a.pth || b.pth
  | _ => false
mutual
/-- changes nothing that stands -/
def E.pu : E → Bool
  | .var _ => true
  | .mov _ => false
  | .frz _ => false
  | .fze e => e.pu
  | .cst _ => true
  | .pidx a i => a.pu && i.pu
  | .ap _ es => es.pu
  | .and a b => a.pu && b.pu
  | .or a b => a.pu && b.pu
  | .not a => a.pu
  | .ife c a b => c.pu && a.pu && b.pu
  | .chn _ _ a b c => a.pu && b.pu && c.pu
  | .tup es => es.pu
  | .lst es => es.pu
  | .dic es => es.pu
  | .call _ _ => false
  | .kcall _ _ _ => false
  | .mm _ _ _ => false
  | .dup _ _ _ => false
  | .gen _ _ _ _ => false
  | .lc _ _ _ _ _ => false
  | .sc2 _ _ _ _ _ _ _ _ => false
def Es.pu : Es → Bool
  | .nil => true
  | .cons e r => e.pu && r.pu
end
/-! ### the evaluator -/
structure Ctx where
  call : Nat → List D → CRes
  /-- slots that keep what they were given -/
  kp : Nat → Bool := fun _ => false
mutual
def Tg.free (kp : Nat → Bool) : Tg → Bool
  | .one i => !kp i
  | .tup ts => Tg.frees kp ts
def Tg.frees (kp : Nat → Bool) : List Tg → Bool
  | [] => true
  | t :: ts => t.free kp && Tg.frees kp ts
end

mutual
def bindT : Tg → D → Env → Option Env
  | .one i, d, env => if i < env.length then some (env.set i (some d)) else none
  | .tup ts, .tup ds, env => bindTs ts ds env
  | _, _, _ => none
def bindTs : List Tg → List D → Env → Option Env
  | [], [], env => some env
  | t :: ts, d :: ds, env => (bindT t d env).bind fun env' => bindTs ts ds env'
  | _, _, _ => none
end
def wipeE : List Nat → Env → Env
  | [], env => env
  | v :: vs, env => (wipeE vs env).set v none
/-- the own names' slots, as before (what can be changed is dropped) -/
def backE : List Nat → Env → Env → Env
  | [], _, env => env
  | v :: vs, old, env => backE vs old (env.set v (match old[v]? with
    | some (some d) => if imm d = true then some d else none
    | _ => none))

def lcLoop (own : List Nat) (t : Tg) (ifs : Env → Res Bool) (e : Env → Res D) (pth : Bool) : List D → Env → Res (List D)
  | [], env => .ok [] env
  | d :: ds, env => match bindT t d env with
    | none => .bad
    | some env1 => match ifs env1 with
      | .ok true env2 => match e env2 with
        | .ok r env3 => if pth && !imm r then .bad else match lcLoop own t ifs e pth ds (wipeE own env3) with
          | .ok rs env4 => .ok (r :: rs) env4
          | _ => .bad
        | _ => .bad
      | .ok false env2 => lcLoop own t ifs e pth ds (wipeE own env2)
      | _ => .bad
/-- the ints that are put in, in their sequence -/
def sc2Loop (own own1 : List Nat) (t0 t1 : Tg) (f1 : Env → Res (List D)) (ifs : Env → Res Bool) (e : Env → Res D) (pth : Bool) : List D → Env → Option (List Int × Env)
  | [], env => some ([], env)
  | d :: ds, env => match bindT t0 d env with
    | none => none
    | some e1 => match f1 e1 with
      | .ok items e2 => match lcLoop own1 t1 ifs e pth items (wipeE own1 e2) with
        | .ok rs e3 => match dInts rs with
          | some ns => (sc2Loop own own1 t0 t1 f1 ifs e pth ds (wipeE own e3)).map fun p => (ns ++ p.1, p.2)
          | none => none
        | _ => none
      | _ => none
/-- a set's members, as they stand sorted -/
def srtSet (ns : List Int) : List Int := ns.eraseDups.mergeSort fun a b => decide (a ≤ b)
def forLoop (t : Tg) (body : Env → SRes) : List D → Env → SRes
  | [], env => .next env
  | d :: ds, env => match bindT t d env with
    | none => .bad
    | some env1 => match body env1 with
      | .next e => forLoop t body ds e
      | .cnt e => forLoop t body ds e
      | .brk e => .next e
      | r => r
/-- more turns than any loop here takes -/
def turns : Nat := 1099511627776
def whlLoop (c : Env → Res Bool) (body : Env → SRes) : Nat → Env → SRes
  | 0, _ => .bad
  | n + 1, env => match c env with
    | .ok true e1 => match body e1 with
      | .next e => whlLoop c body n e
      | .cnt e => whlLoop c body n e
      | .brk e => .next e
      | r => r
    | .ok false e1 => .next e1
    | .exc x e => .exc x e
    | .bad => .bad
def enumD (ds : List D) (k : Nat) : List D := ds.mapIdx fun i d => .tup [.int ((k + i : Nat) : Int), d]
def chars (s : Str) : List D := s.cps.toList.map fun c => .str ⟨#[c]⟩
/-- what is walked -/
def seqOf (pth : Bool) : D → Option (List D)
  | .scr ns => some (ns.map .int)
  | .tup ds => if imms ds = true then some ds else none
  | .lst m ds => if imms ds = true ∧ (m = true → pth = false) then some ds else none
  | .str s => some (chars s)
  | _ => none
def enumOf (pth : Bool) : D → Option (List D)
  | .scr ns => some (enumD (ns.map .int) 0)
  | .tup ds => if imms ds = true then some (enumD ds 0) else none
  | .lst m ds => if imms ds = true ∧ (m = true → pth = false) then some (enumD ds 0) else none
  | _ => none
def mmAp : MM → D → List D → Option (D × D)
  | .append, .lst true ds, [d] => if ds.length < lim then some (.non, .lst true (ds ++ [d])) else none
  | .pop, .lst true ds, [] => (ds.getLast?).map fun d => (d, .lst true ds.dropLast)
  | .extend, .lst true ds, [.lst true es] => if ds.length + es.length ≤ lim then some (.non, .lst true (ds ++ es)) else none
  | .clear, .lst true _, [] => some (.non, .lst true [])
  | _, _, _ => none
/-- a step down: an index, a key -/
def stepD (d k : D) : Option D := opIdx d k
def putK {κ : Type} [DecidableEq κ] (ks : List κ) (ds : List D) (k : κ) (d : D) : List κ × List D :=
  match kIx ks k with
  | some j => (ks, ds.set j d)
  | none => (ks ++ [k], ds ++ [d])
/-- the thing at k exchanged; its object owned -/
def setD (x k d : D) : Option D := match x with
  | .lst true ds => match k with
    | .int i => (ixN ds.length i).map fun j => .lst true (ds.set j d)
    | _ => none
  | .dic true ks ds => (dKey k).bind fun q => if ks.length < lim then some (.dic true (putK ks ds q d).1 (putK ks ds q d).2) else none
  | _ => none
/-- the part of a part exchanged, on the way back up (tuples stay, their things may change) -/
def setP (x k d : D) : Option D := match x with
  | .tup ds => match k with
    | .int i => (ixN ds.length i).map fun j => .tup (ds.set j d)
    | _ => none
  | .lst true ds => match k with
    | .int i => (ixN ds.length i).map fun j => .lst true (ds.set j d)
    | _ => none
  | .dic true ks ds => (dKey k).bind fun q => (kIx ks q).map fun j => .dic true ks (ds.set j d)
  | _ => none

def getK : D → List D → Option D
  | x, [] => some x
  | x, k :: ks => (stepD x k).bind fun y => getK y ks
def nodeAt (env : Env) (i : Nat) (ks : List D) : Option D := match env[i]? with
  | some (some x) => getK x ks
  | _ => none
/-- is it a thing that has the method? -/
def mmTy (_m : MM) : Option D → Bool
  | some (.lst true _) => true
  | _ => false
def putKs : D → List D → D → Option D
  | _, [], d => some d
  | x, k :: ks, d => (stepD x k).bind fun y => (putKs y ks d).bind fun y' => setP x k y'
/-- several slots, one after the other -/
def setAll : List Nat → List D → Env → Env
  | i :: is, d :: ds, env => setAll is ds (env.set i (some d))
  | _, _, env => env
/-- what was lent comes back -/
def giveBack : List (Option Nat) → Env → Env → Env
  | some i :: bs, od :: fin, env => giveBack bs fin (env.set i od)
  | none :: bs, _ :: fin, env => giveBack bs fin env
  | _, _, env => env
/-- what a generator expression's element reads -/
def idxQ : D → D → Option D
  | .tup ds, .int i => atI ds i
  | .lst _ ds, .int i => atI ds i
  | _, _ => none
def apQ : PF → List D → Option D
  | .inn, [x, .tup ds] => (opIn x (.tup ds)).map .bl
  | .inn, [x, .lst m ds] => (opIn x (.lst m ds)).map .bl
  | .inn, [x, .str y] => (opIn x (.str y)).map .bl
  | .nin, [x, .tup ds] => (opIn x (.tup ds)).map fun c => .bl (!c)
  | .nin, [x, .lst m ds] => (opIn x (.lst m ds)).map fun c => .bl (!c)
  | .nin, [x, .str y] => (opIn x (.str y)).map fun c => .bl (!c)
  | .lt, [.int i, .int j] => some (.bl (decide (i < j)))
  | .add, [.int i, .int j] => some (.int (i + j))
  | .sub, [.int i, .int j] => some (.int (i - j))
  | _, _ => none
mutual
def evQ : E → Env → Option D
  | .var i, env => match env[i]? with
    | some (some d) => some d
    | _ => none
  | .cst d, _ => some d
  | .pidx a b, env => (evQ a env).bind fun x => (evQ b env).bind fun y => idxQ x y
  | .ap p es, env => (evQs es env).bind fun ds => apQ p ds
  | _, _ => none
def evQs : Es → Env → Option (List D)
  | .nil, _ => some []
  | .cons e r, env => (evQ e env).bind fun d => (evQs r env).map fun ds => d :: ds
end
def seqG : D → Option (List D)
  | .tup ds => if imms ds = true then some ds else none
  | .lst _ ds => if imms ds = true then some ds else none
  | _ => none
def genAll (t : Tg) (e : E) (env : Env) : List D → Option (List Bool)
  | [] => some []
  | d :: ds => (bindT t d env).bind fun env1 => match evQ e env1 with
    | some (.bl b) => (genAll t e env ds).map fun bs => b :: bs
    | _ => none
def permL {α : Type} (perm : List Nat) (l : List α) : List α := perm.filterMap fun j => l[j]?
mutual
def evE (C : Ctx) : E → Env → Res D
  | .var i, env => match env[i]? with
    | some (some d) => .ok d env
    | _ => .bad
  | .mov i, env => match env[i]? with
    | some (some d) => .ok d (env.set i none)
    | _ => .bad
  | .frz i, env => match env[i]? with
    | some (some d) => .ok (fz d) (env.set i (some (fz d)))
    | _ => .bad
  | .fze e, env => (evE C e env).bind fun d e1 => if e.pth && !imm d then .bad else .ok (fz d) e1
  | .cst d, env => .ok d env
  | .pidx a k, env => (evE C a env).bind fun x e1 => if a.pth && !k.pu && !imm x then .bad else (evE C k e1).bind fun i e2 => match stepD x i with
    | some d => .ok d e2
    | none => .bad
  | .ap p es, env => (evEs C es env).bind fun ds e1 => match p.ap ds with
    | some d => .ok d e1
    | none => .bad
  | .and a b, env => (evE C a env).bind fun x e1 => match truth x with
    | some true => evE C b e1
    | some false => .ok x e1
    | none => .bad
  | .or a b, env => (evE C a env).bind fun x e1 => match truth x with
    | some true => .ok x e1
    | some false => evE C b e1
    | none => .bad
  | .not a, env => (evE C a env).bind fun x e1 => match truth x with
    | some b => .ok (.bl (!b)) e1
    | none => .bad
  | .ife c a b, env => (evE C c env).bind fun x e1 => match truth x with
    | some true => evE C a e1
    | some false => evE C b e1
    | none => .bad
  | .chn p q a b c, env => (evE C a env).bind fun x e1 => if a.pth && !b.pu && !imm x then .bad else (evE C b e1).bind fun y e2 => match p.ap [x, y] with
    | some (.bl false) => .ok (.bl false) e2
    | some (.bl true) => if b.pth && !c.pu && !imm y then .bad else (evE C c e2).bind fun z e3 => match q.ap [y, z] with
      | some d => .ok d e3
      | none => .bad
    | _ => .bad
  | .tup es, env => (evOs C es env).bind fun ds e1 => if ds.length ≤ lim then .ok (.tup ds) e1 else .bad
  | .lst es, env => (evOs C es env).bind fun ds e1 => if ds.length ≤ lim then .ok (.lst true ds) e1 else .bad
  | .dic es, env => (evOs C es env).bind fun ds e1 => match ds with
    | [] => .ok (.dic true [] []) e1
    | _ => .bad
  | .call f es, env => (evCs C es env).bind fun dbs e1 => match C.call f dbs.1 with
    | .ok d fin => .ok d (giveBack dbs.2 fin e1)
    | .exc x fin => .exc x (giveBack dbs.2 fin e1)
    | .bad => .bad
  | .kcall f perm es, env => (evCs C es env).bind fun dbs e1 => match C.call f (permL perm dbs.1) with
    | .ok d fin => .ok d (giveBack (permL perm dbs.2) fin e1)
    | .exc x fin => .exc x (giveBack (permL perm dbs.2) fin e1)
    | .bad => .bad
  | .mm m o es, env => match evP C o env with
    | some (i, ks) => if (ks.isEmpty || es.pu) && mmTy m (nodeAt env i ks) then (evOs C es env).bind fun ds e1 => match e1[i]? with
        | some (some x) => match getK x ks with
          | some y => match mmAp m y ds with
            | some (r, y') => match putKs x ks y' with
              | some x' => .ok r (e1.set i (some x'))
              | none => .bad
            | none => .bad
          | none => .bad
        | _ => .bad
      else .bad
    | none => .bad
  | .dup o k v, env => (evE C o env).bind fun x e1 => match x with
    | .dic _ ks ds => if imms ds = true ∧ ks.length < lim ∧ (o.pu && (k.pu && v.pu)) = true then (evE C k e1).bind fun y e2 => (evE C v e2).bind fun z e3 => match dKey y with
        | some q => if imm z = true then .ok (.dic true (putK ks ds q z).1 (putK ks ds q z).2) e3 else .bad
        | none => .bad
      else .bad
    | _ => .bad
  | .gen all i a e, env => (evE C a env).bind fun d e1 => match seqG d with
    | some ds => match genAll (.one i) e (wipeE [i] e1) ds with
      | some bs => .ok (.bl (if all then bs.all id else bs.any id)) e1
      | none => .bad
    | none => .bad
  | .lc own t it ifs e, env => (evI C (ifs.pu && e.pu) it env).bind fun items e1 =>
    if items.length ≤ lim then match lcLoop own t (evIf C ifs) (evE C e) e.pth items (wipeE own e1) with
      | .ok rs e2 => .ok (.lst true rs) (backE own e1 e2)
      | _ => .bad
    else .bad
  | .sc2 own own1 t0 i0 t1 i1 ifs e, env => (evI C true i0 env).bind fun items e1 =>
    if (ifs.pu && e.pu) = true then match sc2Loop own own1 t0 t1 (evI C true i1) (evIf C ifs) (evE C e) e.pth items (wipeE own e1) with
      | some (ns, e2) => if ns.length ≤ 4000 then .ok (.lst true ((srtSet ns).map .int)) (backE own e1 e2) else .bad
      | none => .bad
    else .bad
/-- arguments that are read -/
def evEs (C : Ctx) : Es → Env → Res (List D)
  | .nil, env => .ok [] env
  | .cons e r, env => (evE C e env).bind fun d e1 => if e.pth && !r.pu && !imm d then .bad else (evEs C r e1).bind fun ds e2 => .ok (d :: ds) e2
/-- arguments that are kept -/
def evOs (C : Ctx) : Es → Env → Res (List D)
  | .nil, env => .ok [] env
  | .cons e r, env => (evE C e env).bind fun d e1 => if e.pth && !imm d then .bad else (evOs C r e1).bind fun ds e2 => .ok (d :: ds) e2
/-- arguments of a def: what stands in a slot is lent -/
def evCs (C : Ctx) : Es → Env → Res (List D × List (Option Nat))
  | .nil, env => .ok ([], []) env
  | .cons e r, env => (evE C e env).bind fun d e1 => match e with
    | .var i => if imm d = true then (evCs C r e1).bind fun p e2 => .ok (d :: p.1, none :: p.2) e2 else (evCs C r e1).bind fun p e2 => match e2[i]? with
      | some (some d') => .ok (d' :: p.1, some i :: p.2) (e2.set i none)
      | _ => .bad
    | _ => if e.pth && !imm d then .bad else (evCs C r e1).bind fun p e2 => .ok (d :: p.1, none :: p.2) e2
/-- a path: its slot, its keys -/
def evP (C : Ctx) : E → Env → Option (Nat × List D)
  | .var i, _ => some (i, [])
  | .pidx a k, env => if k.pu then match evP C a env with
      | some (i, ks) => match evE C k env with
        | .ok d _ => some (i, ks ++ [d])
        | _ => none
      | none => none
    else none
  | _, _ => none
def evIf (C : Ctx) : Es → Env → Res Bool
  | .nil, env => .ok true env
  | .cons e r, env => (evE C e env).bind fun d e1 => match truth d with
    | some true => evIf C r e1
    | some false => .ok false e1
    | none => .bad
def evI (C : Ctx) (pur : Bool) : It → Env → Res (List D)
  | .seq e, env => (evE C e env).bind fun d e1 => match seqOf (e.pth && !pur) d with
    | some ds => .ok ds e1
    | none => .bad
  | .rng1 a, env => (evE C a env).bind fun d e1 => match d with
    | .int j => if small62 j = true then .ok (rng 0 j) e1 else .bad
    | _ => .bad
  | .rng2 a b, env => (evE C a env).bind fun x e1 => if a.pth && !b.pu && !imm x then .bad else (evE C b e1).bind fun y e2 => match x, y with
    | .int i, .int j => if small62 i = true ∧ small62 j = true then .ok (rng i j) e2 else .bad
    | _, _ => .bad
  | .rng3 _ _ _, _ => .bad
  | .enum e, env => (evE C e env).bind fun d e1 => match enumOf (e.pth && !pur) d with
    | some ds => .ok ds e1
    | none => .bad
end

def slotsV (env : Env) : List Nat → Option (List D)
  | [] => some []
  | w :: ws => match env[w]? with
    | some (some d) => (slotsV env ws).map (d :: ·)
    | _ => none
/-- what an except suite comes to -/
def hrEnd (C : Ctx) (i : Nat) (d : D) (env : Env) : HR → SRes
  | .call f _ ws => if ws.contains i = true then .bad else match slotsV env ws with
    | some ds => if imms (d :: ds) = true then match C.call f (d :: ds) with
      | .ok r _ => .ret r env
      | _ => .bad
      else .bad
    | none => .bad
  | .asg x _ => if C.kp x || C.kp i || !decide (x < env.length) then .bad else .next (((env.set i none).set x (some d)).set i none)
  | _ => .ret d env
def putBack (i : Nat) (d : D) : SRes → SRes
  | .next e => .next (e.set i (some d))
  | .ret r e => .ret r (e.set i (some d))
  | .exc x e => .exc x (e.set i (some d))
  | _ => .bad
def evT (C : Ctx) (e : E) (env : Env) : Res Bool := (evE C e env).bind fun d e1 => match truth d with
  | some b => .ok b e1
  | none => .bad
mutual
def evS (C : Ctx) : S → Env → SRes
  | .nop, env => .next env
  | .asg t e, env => (evE C e env).thn fun d e1 => if e.pth && !imm d || !t.free C.kp then .bad else match bindT t d e1 with
    | some e2 => .next e2
    | none => .bad
  | .sto o i e, env => (evE C e env).thn fun d e1 => if e.pth && !imm d || !i.pu then .bad else match evP C o e1, evE C i e1 with
    | some (r, ks), .ok k _ => match e1[r]? with
      | some (some x) => match getK x ks with
        | some y => match setD y k d with
          | some y' => match putKs x ks y' with
            | some x' => .next (e1.set r (some x'))
            | none => .bad
          | none => .bad
        | none => .bad
      | _ => .bad
    | _, _ => .bad
  | .stc r i e, env => (evE C e env).thn fun d e1 => if e.pth && !imm d then .bad else match e1[r]?, evE C i e1 with
    | some (some _), .ok k e2 => match e2[r]? with
      | some (some x) => match setD x k d with
        | some x' => .next (e2.set r (some x'))
        | none => .bad
      | _ => .bad
    | _, _ => .bad
  | .aug i p e, env => match env[i]? with
    | some (some x) => if imm x = true then (evE C e env).thn fun d e1 => match p.ap [x, d] with
        | some r => if C.kp i then .bad else .next (e1.set i (some r))
        | none => .bad
      else .bad
    | _ => .bad
  | .exp e, env => (evE C e env).thn fun _ e1 => .next e1
  | .ret e, env => (evE C e env).thn fun d e1 => if e.pth && !imm d then .bad else .ret d e1
  | .ret0, env => .ret .non env
  | .brk, env => .brk env
  | .cnt, env => .cnt env
  | .ite c a b, env => (evT C c env).thn fun t e1 => if t = true then evSs C a e1 else evSs C b e1
  | .whl c b, env => whlLoop (evT C c) (evSs C b) turns env
  | .for t it b, env => (evI C false it env).thn fun ds e1 => if t.free C.kp then forLoop t (evSs C b) ds e1 else .bad
  | .forL t i b, env => match env[i]? with
    | some (some (.lst m ds)) => if C.kp i = true ∧ imms ds = true ∧ t.free C.kp = true then putBack i (.lst m ds) (forLoop t (evSs C b) ds (env.set i none)) else .bad
    | _ => .bad
  | .rse c n es, env => (evOs C es env).thn fun ds e1 => if ds.length = n ∧ imms ds = true then .exc ⟨c, ds⟩ e1 else .bad
  | .par ns es, env => (evOs C es env).thn fun ds e1 => if ns.all (fun i => !C.kp i && decide (i < e1.length)) && decide (ns.length = ds.length) then .next (setAll ns ds e1) else .bad
  | .tri b hs, env => match evSs C b env with
    | .exc x e1 => match hFind hs x.cls with
      | some (i, r) => if i < e1.length then match hrOut x.args r with
        | some d => hrEnd C i d e1 r
        | none => .bad
        else .bad
      | none => .exc x e1
    | r => r
def evSs (C : Ctx) : Ss → Env → SRes
  | .nil, env => .next env
  | .cons s r, env => (evS C s env).thn fun e1 => evSs C r e1
end
end Z

namespace Z
open PySem PySem.Spec L2
variable [TabList]

/-- how an own error lies -/
abbrev XR := Exc → Value → Option Addr → Hp → Prop
abbrev eO (pu : Bool) (P : Own) : Own := fun a => pu = false ∧ P a

def PostE (K : PySem.W.Frag) (rx : XR) (W : WX) (pu pth : Bool) (P : Own) (σ : L2.St) (H : Hp) (r : Res D) (Q : VK) : Prop :=
  match r with
  | .ok d env' => ∀ v H' P1 P2, RelE K H' env' σ P1 → Rel K H' d v P2 → (pth = false → (∀ a, P1 a → ¬ P2 a) ∧ New (eO pu P) H P2) → New P H P1 → Ev (eO pu P) H H' → Q v H'
  | .exc x env' => ∀ c dd H' P1, RelE K H' env' σ P1 → rx x c dd H' → New P H P1 → Ev P H H' → W c dd σ H'
  | .bad => False
def tE (K : PySem.W.Frag) (rx : XR) (W : WX) (C : Ctx) (e : E) : TE := fun σ H Q => ∃ env P, RelE K H env σ P ∧ PostE K rx W e.pu e.pth P σ H (evE C e env) Q

/-- the arguments' reading: borrowed -/
def RB (K : PySem.W.Frag) (H : Hp) : List D → List V → Prop
  | [], vs => vs = []
  | d :: ds, vs => ∃ v vs' P, vs = v :: vs' ∧ Rel K H d v P ∧ RB K H ds vs'
def PostB (K : PySem.W.Frag) (rx : XR) (W : WX) (pu : Bool) (P : Own) (σ : L2.St) (H : Hp) (r : Res (List D)) (Q : List V → Hp → Prop) : Prop :=
  match r with
  | .ok ds env' => ∀ vs H' P1, RelE K H' env' σ P1 → RB K H' ds vs → New P H P1 → Ev (eO pu P) H H' → Q vs H'
  | .exc x env' => ∀ c dd H' P1, RelE K H' env' σ P1 → rx x c dd H' → New P H P1 → Ev P H H' → W c dd σ H'
  | .bad => False
def tB' (K : PySem.W.Frag) (rx : XR) (W : WX) (C : Ctx) (es : Es) : TA := fun σ H Q => ∃ env P, RelE K H env σ P ∧ PostB K rx W es.pu P σ H (evEs C es env) Q
/-- kept -/
def PostO (K : PySem.W.Frag) (rx : XR) (W : WX) (pu : Bool) (P : Own) (σ : L2.St) (H : Hp) (r : Res (List D)) (Q : List V → Hp → Prop) : Prop :=
  match r with
  | .ok ds env' => ∀ vs H' P1 P2, RelE K H' env' σ P1 → Rels K H' ds vs P2 → (∀ a, P1 a → ¬ P2 a) → New (eO pu P) H P2 → New P H P1 → Ev (eO pu P) H H' → Q vs H'
  | .exc x env' => ∀ c dd H' P1, RelE K H' env' σ P1 → rx x c dd H' → New P H P1 → Ev P H H' → W c dd σ H'
  | .bad => False
def tO (K : PySem.W.Frag) (rx : XR) (W : WX) (C : Ctx) (es : Es) : TA := fun σ H Q => ∃ env P, RelE K H env σ P ∧ PostO K rx W es.pu P σ H (evOs C es env) Q
/-- a test -/
def PostT (K : PySem.W.Frag) (rx : XR) (W : WX) (pu : Bool) (P : Own) (σ : L2.St) (H : Hp) (r : Res Bool) (Q : Bool → Hp → Prop) : Prop :=
  match r with
  | .ok b env' => ∀ H' P1, RelE K H' env' σ P1 → New P H P1 → Ev (eO pu P) H H' → Q b H'
  | .exc x env' => ∀ c dd H' P1, RelE K H' env' σ P1 → rx x c dd H' → New P H P1 → Ev P H H' → W c dd σ H'
  | .bad => False
def tT (K : PySem.W.Frag) (rx : XR) (W : WX) (C : Ctx) (e : E) : TT := fun σ H Q => ∃ env P, RelE K H env σ P ∧ PostT K rx W e.pu P σ H (evT C e env) Q

theorem PE.of {X : Cx} {e : Expr} {t' : TE} (h : ∀ σ H Q, t' σ H Q → ∃ t, PE X e t ∧ t σ H Q) : PE X e t' := ⟨fun pins s σ H Q I hw => let ⟨_, a, b⟩ := h σ H Q hw; a.run pins s σ H Q I b⟩
theorem PT.of {X : Cx} {e : Expr} {t' : TT} (h : ∀ σ H Q, t' σ H Q → ∃ t, PT X e t ∧ t σ H Q) : PT X e t' := ⟨fun pins s σ H Q I hw => let ⟨_, a, b⟩ := h σ H Q hw; a.run pins s σ H Q I b⟩
theorem PW.of {X : Cx} {e : Expr} {t' : TT} (h : ∀ σ H Q, t' σ H Q → ∃ t, PW X e t ∧ t σ H Q) : PW X e t' := ⟨fun wh pins s σ H Q I hw => let ⟨_, a, b⟩ := h σ H Q hw; a.run wh pins s σ H Q I b⟩
theorem PA.of {X : Cx} {e : List Expr} {t' : TA} (h : ∀ σ H Q, t' σ H Q → ∃ t, PA X e t ∧ t σ H Q) : PA X e t' := ⟨fun pos pins s σ H Q I hw => let ⟨_, a, b⟩ := h σ H Q hw; a.run pos pins s σ H Q I b⟩
theorem PS.of {X : Cx} {e : Stmt} {t' : TS} (h : ∀ D σ H, t' D σ H → ∃ t, PS X e t ∧ t D σ H) : PS X e t' := ⟨fun pins s σ H D I hw => let ⟨_, a, b⟩ := h D σ H hw; a.run pins s σ H D I b⟩
theorem PSs.of {X : Cx} {e : List Stmt} {t' : TS} (h : ∀ D σ H, t' D σ H → ∃ t, PSs X e t ∧ t D σ H) : PSs X e t' := ⟨fun pins s σ H D I hw => let ⟨_, a, b⟩ := h D σ H hw; a.run pins s σ H D I b⟩

theorem eO_sub {pu : Bool} {P : Own} : ∀ a, eO pu P a → P a := fun _ z => z.2
theorem Ev.eo {pu : Bool} {P : Own} {H H' : Hp} (e : Ev (eO pu P) H H') : Ev P H H' := e.mono eO_sub
theorem New.eo {pu : Bool} {P P1 : Own} {H : Hp} (n : New P H P1) : New P H (eO pu P1) := n.sub eO_sub
/-- two steps in a row: what they change together -/
theorem ev_and {p q : Bool} {P P1 : Own} {H H1 H2 : Hp} (a : Ev (eO p P) H H1) (b : Ev (eO q P1) H1 H2) (n : New P H P1) : Ev (eO (p && q) P) H H2 := by
  refine ⟨fun x o e t m => ?_, fun x e => b.dom x (a.dom x e), fun p h => b.tbl p (a.tbl p h)⟩
  have e1 : H1 x = some o := a.keep x o e t fun z => m ⟨by rw [z.1]; rfl, z.2⟩
  refine b.keep x o e1 t fun z => ?_
  rcases n x z.2 with y | y
  · exact m ⟨by rw [z.1, Bool.and_false], y⟩
  · rw [e] at y; cases y

theorem new_and {p q : Bool} {P P1 P2 : Own} {H H1 : Hp} (n : New P H P1) (e : Ev (eO p P) H H1) (m : New (eO q P1) H1 P2) : New (eO (p && q) P) H P2 := fun x h => by
  have back : H1 x = none → H x = none := fun h => by
    cases q : H x with
    | none => rfl
    | some o => exact absurd h (e.dom x (by rw [q]; exact fun z => nomatch z))
  rcases m x h with h | h
  · exact (n x h.2).imp (fun y => ⟨by rw [h.1, Bool.and_false], y⟩) id
  · exact .inr (back h)
section
variable {X : Cx} {rx : XR} {W : WX} {C : Ctx}
theorem PostE.exc {K : PySem.W.Frag} {pu pth pu' : Bool} {P : Own} {σ : L2.St} {H : Hp} {x : Exc} {env : Env} {Q Q' : VK} (h : PostE K rx W pu pth P σ H (.exc x env) Q) : PostE K rx W pu' pth P σ H (.exc x env) Q' := h
/-- exceptions, one step on -/
theorem exc_on {K : PySem.W.Frag} {x : Exc} {env : Env} {P P1 : Own} {σ : L2.St} {H H1 : Hp} (h : ∀ c dd H' P2, RelE K H' env σ P2 → rx x c dd H' → New P H P2 → Ev P H H' → W c dd σ H')
    (n : New P H P1) (e : Ev P H H1) : ∀ c dd H' P2, RelE K H' env σ P2 → rx x c dd H' → New P1 H1 P2 → Ev P1 H1 H' → W c dd σ H' := fun c dd H' P2 r x' n' e' => h c dd H' P2 r x' (n.trans e n') (e.trans e' n)

/-! ### names, constants -/
theorem s_var {i : Nat} {x : Str} {pos : Pos} (hN : X.N[i]? = some x) (hv : Vis X.env.scope x) (hd : (x == ("__debug__" : Str)) = false) (hcd : (x == ("__classdict__" : Str)) = false) : PE X (.Name x pos) (tE X.K rx W C (.var i)) := by
  refine PE.of fun σ H Q ⟨env, P, hE, h⟩ => ⟨_, pe_var hN hv hd hcd, ?_⟩
  simp only [evE] at h
  cases q : env[i]? with
  | none => rw [q] at h; exact h.elim
  | some od =>
    cases od with
    | none => rw [q] at h; exact h.elim
    | some d =>
      rw [q] at h
      obtain ⟨v, P1, P2, e, s, r, rs⟩ := hE.get q
      exact ⟨v, e, h v H P P1 hE r (fun z => nomatch z) New.refl Ev.refl⟩
theorem s_mov {i : Nat} {x : Str} {pos : Pos} (hN : X.N[i]? = some x) (hv : Vis X.env.scope x) (hd : (x == ("__debug__" : Str)) = false) (hcd : (x == ("__classdict__" : Str)) = false) : PE X (.Name x pos) (tE X.K rx W C (.mov i)) := by
  refine PE.of fun σ H Q ⟨env, P, hE, h⟩ => ⟨_, pe_var hN hv hd hcd, ?_⟩
  simp only [evE] at h
  cases q : env[i]? with
  | none => rw [q] at h; exact h.elim
  | some od =>
    cases od with
    | none => rw [q] at h; exact h.elim
    | some d =>
      rw [q] at h
      obtain ⟨v, P1, P2, e, s, r, rs⟩ := hE.get q
      exact ⟨v, e, h v H P2 P1 rs r (fun _ => ⟨fun a z y => s.2.2 a y z, fun a z => .inl ⟨rfl, s.1 a z⟩⟩) (fun a z => .inl (s.2.1 a z)) Ev.refl⟩
theorem s_cint {i : Int} {j pos} : PE X (.Constant (.int i) j pos) (tE X.K rx W C (.cst (.int i))) :=
  PE.of fun σ H Q ⟨env, P, hE, h⟩ => ⟨_, pe_int, h _ H P No hE rfl (fun _ => ⟨fun _ _ z => z, fun _ z => z.elim⟩) New.refl Ev.refl⟩
theorem s_cbl {b : Bool} {j pos} : PE X (.Constant (.bool b) j pos) (tE X.K rx W C (.cst (.bl b))) :=
  PE.of fun σ H Q ⟨env, P, hE, h⟩ => ⟨_, pe_bl, h _ H P No hE rfl (fun _ => ⟨fun _ _ z => z, fun _ z => z.elim⟩) New.refl Ev.refl⟩
theorem s_cnon {j pos} : PE X (.Constant .none j pos) (tE X.K rx W C (.cst .non)) :=
  PE.of fun σ H Q ⟨env, P, hE, h⟩ => ⟨_, pe_non, h _ H P No hE rfl (fun _ => ⟨fun _ _ z => z, fun _ z => z.elim⟩) New.refl Ev.refl⟩
theorem s_cstr {x : Str} {j pos} : PE X (.Constant (.str x) j pos) (tE X.K rx W C (.cst (.str x))) :=
  PE.of fun σ H Q ⟨env, P, hE, h⟩ => ⟨_, pe_str, h _ H P No hE rfl (fun _ => ⟨fun _ _ z => z, fun _ z => z.elim⟩) New.refl Ev.refl⟩
end
end Z

namespace Z
open PySem PySem.Spec L2
variable [TabList]

/-- a new value of which only new things are owned -/
def Fin (K : PySem.W.Frag) (r : D) (H : Hp) (Q : VK) : Prop := ∀ v H' P', Rel K H' r v P' → (∀ a, P' a → H a = none) → Ev No H H' → Q v H'

section
variable {K : PySem.W.Frag} {rx : XR} {W : WX} {C : Ctx} {σ : L2.St} {H : Hp} {Q : VK}
/-- from the fresh value to what is wanted -/
theorem fin_of {pu : Bool} {P P1 : Own} {H1 : Hp} {env : Env} {d : D} (hE : RelE K H1 env σ P1) (n : New P H P1) (ev : Ev (eO pu P) H H1) (h : PostE K rx W pu false P σ H (.ok d env) Q) : Fin K d H1 Q := fun v H' P' r hn e => by
  refine h v H' (Tt H1 P1) P' (hE.tight.ev e) r (fun _ => ⟨fun a z y => z.2 (hn a y), ?_⟩) (n.sub fun _ z => z.1) (ev.trans e fun a z => z.elim)
  intro a z
  right
  cases q : H a with
  | none => rfl
  | some o => exact absurd (hn a z) (ev.dom a (by rw [q]; exact fun z => nomatch z))
theorem RB.frame : ∀ {ds : List D} {vs : List V} {H H' : Hp}, RB K H ds vs → Ev No H H' → RB K H' ds vs
  | [], _, _, _, h, _ => h
  | _ :: _, _, _, _, h, e => by
    obtain ⟨v, vs', P, q, r, rs⟩ := h
    exact ⟨v, vs', P, q, r.ev e, RB.frame rs e⟩
/-- a value that is held while more is worked -/
theorem held {a : E} {pu : Bool} {P1 P2 : Own} {H1 H2 : Hp} {d : D} {v : V} (hc : (a.pth && !pu && !imm d) = false) (r : Rel K H1 d v P2) (dj : a.pth = false → ∀ a, P1 a → ¬ P2 a) (ev : Ev (eO pu P1) H1 H2) : ∃ P, Rel K H2 d v P := by
  cases hp : a.pth with
  | false => exact ⟨P2, r.frame ev fun x z y => dj hp x y.2 z⟩
  | true =>
    rw [hp] at hc
    cases hi : imm d with
    | true => exact ⟨No, (Rel.imm hi r).frame ev fun _ z => z.elim⟩
    | false =>
      rw [hi] at hc
      cases pu with
      | true => exact ⟨P2, r.frame ev fun x _ y => nomatch y.1⟩
      | false => cases hc
/-- reading the arguments from the left -/
theorem b_cons {e : E} {r : Es} {R : List V → Hp → Prop} (h : tB' K rx W C (.cons e r) σ H R) : tE K rx W C e σ H fun v H1 => tB' K rx W C r σ H1 fun vs H2 => R (v :: vs) H2 := by
  obtain ⟨env, P, hE, h⟩ := h
  refine ⟨env, P, hE, ?_⟩
  simp only [evEs] at h
  cases q : evE C e env with
  | bad => rw [q] at h; exact h.elim
  | exc x e1 => rw [q] at h; exact h
  | ok d e1 =>
    rw [q] at h
    simp only [Res.bind] at h
    intro v H1 P1 P2 r1 rd hd hn ev
    split at h
    · exact h.elim
    rename_i hc
    have hc : (e.pth && !r.pu && !imm d) = false := by simpa using hc
    refine ⟨e1, P1, r1, ?_⟩
    cases q2 : evEs C r e1 with
    | bad => rw [q2] at h; exact h.elim
    | exc x e2 =>
      rw [q2] at h
      exact exc_on h hn ev.eo
    | ok ds e2 =>
      rw [q2] at h
      intro vs H2 P3 r3 rb hn3 ev3
      obtain ⟨P4, r4⟩ := held hc rd (fun z => (hd z).1) ev3
      exact h (v :: vs) H2 P3 r3 ⟨v, vs, P4, rfl, r4, rb⟩ (hn.trans ev.eo hn3) (ev_and ev ev3 hn)
theorem b_nil {R : List V → Hp → Prop} (h : tB' K rx W C .nil σ H R) : R [] H := by
  obtain ⟨env, P, hE, h⟩ := h
  exact h [] H P hE rfl New.refl Ev.refl
/-- a pure function's arguments, then its value -/
theorem ap_b {p : PF} {es : Es} (h : tE K rx W C (.ap p es) σ H Q) : tB' K rx W C es σ H fun vs H2 => ∃ ds r, RB K H2 ds vs ∧ p.ap ds = some r ∧ Fin K r H2 Q := by
  obtain ⟨env, P, hE, h⟩ := h
  refine ⟨env, P, hE, ?_⟩
  simp only [evE] at h
  cases q : evEs C es env with
  | bad => rw [q] at h; exact h.elim
  | exc x e1 => rw [q] at h; exact h
  | ok ds e1 =>
    rw [q] at h
    simp only [Res.bind] at h
    intro vs H1 P1 r1 rb hn ev
    cases q2 : p.ap ds with
    | none => rw [q2] at h; exact h.elim
    | some r =>
      rw [q2] at h
      exact ⟨ds, r, rb, q2, fin_of r1 hn ev h⟩
/-- two arguments -/
theorem ap_two {p : PF} {a b : E} (h : tE K rx W C (.ap p (.cons a (.cons b .nil))) σ H Q) : tE K rx W C a σ H fun x H1 => tE K rx W C b σ H1 fun y H2 => ∃ d e r P2 P4, Rel K H2 d x P2 ∧ Rel K H2 e y P4 ∧ p.ap [d, e] = some r ∧ Fin K r H2 Q := by
  have mono : ∀ {e : E} {σ : L2.St} {H : Hp} {Q Q' : VK}, tE K rx W C e σ H Q → (∀ v H, Q v H → Q' v H) → tE K rx W C e σ H Q' := fun {e σ H Q Q'} h hq => by
    obtain ⟨env, P, hE, h⟩ := h
    refine ⟨env, P, hE, ?_⟩
    cases q : evE C e env with
    | bad => rw [q] at h; exact h.elim
    | exc x e1 => rw [q] at h; exact h
    | ok d e1 => rw [q] at h; exact fun v H' P1 P2 z1 z2 z3 z4 z5 => hq _ _ (h v H' P1 P2 z1 z2 z3 z4 z5)
  refine mono (b_cons (ap_b h)) fun x H1 h1 => mono (b_cons h1) fun y H2 h2 => ?_
  obtain ⟨ds, r, rb, ha, hf⟩ := b_nil h2
  cases ds with
  | nil => cases (show [x, y] = [] from rb)
  | cons d ds =>
    obtain ⟨v, vs', P2, e1, r1, rb⟩ := rb
    obtain ⟨rfl, rfl⟩ := List.cons.inj e1
    cases ds with
    | nil => cases (show [y] = [] from rb)
    | cons e ds =>
      obtain ⟨v, vs', P4, e2, r2, rb⟩ := rb
      obtain ⟨rfl, rfl⟩ := List.cons.inj e2
      cases ds with
      | nil => exact ⟨d, e, r, P2, P4, r1, r2, ha, hf⟩
      | cons f ds => obtain ⟨v, vs', P5, e3, _⟩ := rb; cases e3
theorem tE_mono {e : E} {σ : L2.St} {H : Hp} {Q Q' : VK} (h : tE K rx W C e σ H Q) (hq : ∀ v H, Q v H → Q' v H) : tE K rx W C e σ H Q' := by
  obtain ⟨env, P, hE, h⟩ := h
  refine ⟨env, P, hE, ?_⟩
  cases q : evE C e env with
  | bad => rw [q] at h; exact h.elim
  | exc x e1 => rw [q] at h; exact h
  | ok d e1 => rw [q] at h; exact fun v H' P1 P2 z1 z2 z3 z4 z5 => hq _ _ (h v H' P1 P2 z1 z2 z3 z4 z5)
theorem ap_one {p : PF} {a : E} (h : tE K rx W C (.ap p (.cons a .nil)) σ H Q) : tE K rx W C a σ H fun x H1 => ∃ d r P2, Rel K H1 d x P2 ∧ p.ap [d] = some r ∧ Fin K r H1 Q := by
  refine tE_mono (b_cons (ap_b h)) fun x H1 h1 => ?_
  obtain ⟨ds, r, rb, ha, hf⟩ := b_nil h1
  cases ds with
  | nil => cases (show [x] = [] from rb)
  | cons d ds =>
    obtain ⟨v, vs', P2, e1, r1, rb⟩ := rb
    obtain ⟨rfl, rfl⟩ := List.cons.inj e1
    cases ds with
    | nil => exact ⟨d, r, P2, r1, ha, hf⟩
    | cons f ds => obtain ⟨v, vs', P5, e3, _⟩ := rb; cases e3
end

/-- a two-place function of values -/
abbrev r2P (K : PySem.W.Frag) (p : PF) : R2 := fun x y H Q => ∃ d e r P2 P4, Rel K H d x P2 ∧ Rel K H e y P4 ∧ p.ap [d, e] = some r ∧ Fin K r H Q
abbrev r1P (K : PySem.W.Frag) (p : PF) : V → Hp → VK → Prop := fun x H Q => ∃ d r P2, Rel K H d x P2 ∧ p.ap [d] = some r ∧ Fin K r H Q
abbrev rNP (K : PySem.W.Frag) (p : PF) : List V → Hp → VK → Prop := fun vs H Q => ∃ ds r, RB K H ds vs ∧ p.ap ds = some r ∧ Fin K r H Q
theorem OpR.of {X : Cx} {f : Value → Value → Sem Value} {r' : R2} (h : ∀ x y H Q, r' x y H Q → ∃ r, OpR X f r ∧ r x y H Q) : OpR X f r' := fun pins s σ H x y v u Q I rx ry hw => let ⟨_, a, b⟩ := h x y H Q hw; a pins s σ H x y v u Q I rx ry b
theorem UnR.of {X : Cx} {f : Value → Sem Value} {r' : V → Hp → VK → Prop} (h : ∀ x H Q, r' x H Q → ∃ r, UnR X f r ∧ r x H Q) : UnR X f r' := fun pins s σ H x v Q I rx hw => let ⟨_, a, b⟩ := h x H Q hw; a pins s σ H x v Q I rx b
theorem CallR.of {X : Cx} {f : Value} {r' : List V → Hp → VK → Prop} (h : ∀ xs H Q, r' xs H Q → ∃ r, CallR X f r ∧ r xs H Q) : CallR X f r' := fun pins s σ H xs us Q I rx hw => let ⟨_, a, b⟩ := h xs H Q hw; a pins s σ H xs us Q I rx b

section
variable {X : Cx} {rx : XR} {W : WX} {C : Ctx} {a b : E} {ea eb : Expr} {pos : Pos} {p : PF}
theorem s_bin {op : Operator} (ho : OpR X (binaryOp op) (r2P X.K p)) (ha : PE X ea (tE X.K rx W C a)) (hb : PE X eb (tE X.K rx W C b)) : PE X (.BinOp ea op eb pos) (tE X.K rx W C (.ap p (.cons a (.cons b .nil)))) :=
  PE.of fun σ H Q h => ⟨_, pe_op ho ha hb, ap_two h⟩
theorem s_cmp {op : CmpOp} (ho : OpR X (compareOp op) (r2P X.K p)) (ha : PE X ea (tE X.K rx W C a)) (hb : PE X eb (tE X.K rx W C b)) (hm : behindInMarks op eb = false) : PE X (.Compare ea [op] [eb] pos) (tE X.K rx W C (.ap p (.cons a (.cons b .nil)))) :=
  PE.of fun σ H Q h => ⟨_, pe_cmpR ho ha hb hm, ap_two h⟩
theorem s_un {op : UnaryOp} (ho : UnR X (unaryOp op) (r1P X.K p)) (ha : PE X ea (tE X.K rx W C a)) : PE X (.UnaryOp op ea pos) (tE X.K rx W C (.ap p (.cons a .nil))) :=
  PE.of fun σ H Q h => ⟨_, pe_un ho ha, ap_one h⟩
theorem s_nil : PA X [] (tB' X.K rx W C .nil) := PA.of fun σ H Q h => ⟨_, pa_nil, b_nil h⟩
theorem s_cons {r : Es} {es : List Expr} (ha : PE X ea (tE X.K rx W C a)) (hr : PA X es (tB' X.K rx W C r)) (hs : starEach (ea :: es) X.env = (false, eval ea X.env) :: starEach es X.env) : PA X (ea :: es) (tB' X.K rx W C (.cons a r)) :=
  PA.of fun σ H Q h => ⟨_, pa_cons ha hr hs, b_cons h⟩
theorem s_callB {id : String} {x : Str} {po : Pos} {es : Es} {e : Expr} {el : List Expr} (hc : CallR X (.builtin id) (rNP X.K p)) (hg : Gl X x) (hm : X.mg x = none) (hv : bootBuiltins x = some (.builtin id)) (ha : PA X (e :: el) (tB' X.K rx W C es)) (hn : x ≠ "__name__") (hdb : (x == ("__debug__" : Str)) = false)
    (he : starEach (e :: el) X.env = (false, eval e X.env) :: starEach el X.env) (hpl : (backTo pos (starEach el X.env)).any (·.1) = false) : PE X (.Call (.Name x po) (e :: el) [] pos) (tE X.K rx W C (.ap p es)) :=
  PE.of fun σ H Q h => ⟨_, pe_callB hc hg hm hv ha hn hdb he hpl, ap_b h⟩
theorem s_callTy {T : String} {x : Str} {po : Pos} {es : Es} {e : Expr} {el : List Expr} (hc : CallR X (.type T) (rNP X.K p)) (hg : Gl X x) (hm : X.mg x = none) (hv : bootBuiltins x = some (.type T)) (ha : PA X (e :: el) (tB' X.K rx W C es)) (hn : x ≠ "__name__") (hdb : (x == ("__debug__" : Str)) = false)
    (he : starEach (e :: el) X.env = (false, eval e X.env) :: starEach el X.env) (hpl : (backTo pos (starEach el X.env)).any (·.1) = false) : PE X (.Call (.Name x po) (e :: el) [] pos) (tE X.K rx W C (.ap p es)) :=
  PE.of fun σ H Q h => ⟨_, pe_callTy hc hg hm hv ha hn hdb he hpl, ap_b h⟩
end
end Z

namespace Z
open PySem PySem.Spec L2
variable [TabList]

section
variable {K : PySem.W.Frag} {H : Hp} {Q : VK}
theorem Ev.laid {O : Own} {p : Addr} {o : HO} (h : H p = none) : Ev O H (upd H p o) :=
  ⟨fun a u e _ _ => by rw [upd_ne (ne_of_none e h)]; exact e, fun a e => by
    by_cases q : a = p
    · rw [q, upd_same]; exact fun z => nomatch z
    · rw [upd_ne q]; exact e, fun _ t => t.new h⟩
theorem Fin.int {i : Int} (h : Fin K (.int i) H Q) : Q (.int i) H := h _ H No rfl (fun _ z => z.elim) Ev.refl
theorem Fin.bl {i : Bool} (h : Fin K (.bl i) H Q) : Q (.bl i) H := h _ H No rfl (fun _ z => z.elim) Ev.refl
theorem Fin.str {i : Str} (h : Fin K (.str i) H Q) : Q (.str i) H := h _ H No rfl (fun _ z => z.elim) Ev.refl
theorem Fin.non (h : Fin K .non H Q) : Q .non H := h _ H No rfl (fun _ z => z.elim) Ev.refl
theorem Fin.lst {ds : List D} {vs : List V} {p : Addr} (h : Fin K (.lst true ds) H Q) (hp : H p = none) (r : Rels K H ds vs No) : Q (.ref p) (upd H p (.lst vs)) :=
  h _ _ (fun a => a = p) ⟨p, vs, No, rfl, ⟨upd_same, rfl, fun _ z => z.elim⟩, r.frame (Ev.laid (O := No) hp) fun _ z => z.elim⟩ (fun a z => by rw [z]; exact hp) (Ev.laid hp)
theorem Fin.tup {ds : List D} {vs : List V} {p : Addr} (h : Fin K (.tup ds) H Q) (hp : H p = none) (r : Rels K H ds vs No) : Q (.ref p) (upd H p (.tup vs)) :=
  h _ _ No ⟨p, vs, rfl, .inl (.inl upd_same), r.frame (Ev.laid (O := No) hp) fun _ z => z.elim⟩ (fun a z => z.elim) (Ev.laid hp)
theorem Fin.old {d : D} {v : V} {P : Own} (h : Fin K d H Q) (i : imm d = true) (r : Rel K H d v P) : Q v H := h v H No (Rel.imm i r) (fun _ z => z.elim) Ev.refl

/-! ### data -/
mutual
theorem dp_of : ∀ {d : D} {v : V} {P : Own} {x : PyData}, Rel K H d v P → toPy d = some x → Dp K H v x
  | .non, _, _, _, r, h => by cases (show _ = V.non from r); cases h; exact .non
  | .bl b, _, _, _, r, h => by cases (show _ = V.bl b from r); cases h; exact .bl b
  | .int i, _, _, _, r, h => by cases (show _ = V.int i from r); cases h; exact .int i
  | .str s, _, _, _, r, h => by cases (show _ = V.str s from r); cases h; exact .str s
  | .tup ds, _, _, _, r, h => by
    obtain ⟨a, vs, rfl, s, rs⟩ := r
    simp only [toPy, Option.map_eq_some_iff] at h
    obtain ⟨xs, hx, rfl⟩ := h
    exact .tup s (dps_of rs hx)
  | .lst m ds, _, _, _, r, h => by
    obtain ⟨a, vs, Q, rfl, s, rs⟩ := r
    simp only [toPy, Option.map_eq_some_iff] at h
    obtain ⟨xs, hx, rfl⟩ := h
    exact .lst (.inl s.rd) (dps_of rs hx)
  | .dic _ _ _, _, _, _, _, h => by simp [toPy] at h
  | .dit _ _ _, _, _, _, _, h => by simp [toPy] at h
  | .set _ _, _, _, _, _, h => by simp [toPy] at h
  | .scr _, _, _, _, _, h => by simp [toPy] at h
theorem dps_of : ∀ {ds : List D} {vs : List V} {P : Own} {xs : List PyData}, Rels K H ds vs P → toPys ds = some xs → DpAll K H vs xs
  | [], vs, _, _, r, h => by
    have e : vs = [] := r
    subst e
    cases h
    exact .nil
  | d :: ds, _, _, _, r, h => by
    obtain ⟨v, vs', P1, P2, rfl, s, r1, rs⟩ := r
    simp only [toPys, Option.bind_eq_some_iff, Option.map_eq_some_iff] at h
    obtain ⟨p, hp, ps, hps, rfl⟩ := h
    exact .cons (dp_of r1 hp) (dps_of rs hps)
end
theorem ints_of : ∀ {ds : List D} {vs : List V} {P : Own} {ns : List Int}, Rels K H ds vs P → dInts ds = some ns → vs = ns.map V.int
  | [], vs, _, _, r, h => by
    have e : vs = [] := r
    subst e
    cases h
    rfl
  | d :: ds, _, _, _, r, h => by
    obtain ⟨v, vs', P1, P2, rfl, s, r1, rs⟩ := r
    cases d <;> simp only [dInts, Option.map_eq_some_iff, reduceCtorEq] at h
    obtain ⟨l, hl, rfl⟩ := h
    rw [ints_of rs hl, show v = _ from r1]
    rfl
theorem rels_ints : ∀ {ns : List Int}, Rels K H (ns.map D.int) (ns.map V.int) No
  | [] => rfl
  | n :: ns => ⟨_, _, No, No, rfl, Sep.nl, rfl, rels_ints⟩
theorem look_val {κ : Type} [DecidableEq κ] {k : κ} : ∀ {kvs : List (κ × V)} {ds : List D} {P : Own}, Rels K H ds (kvs.map (·.2)) P →
    (look (kvs.map (·.1)) ds k = none ∧ valV kvs k = none) ∨ ∃ d v P1, look (kvs.map (·.1)) ds k = some d ∧ valV kvs k = some v ∧ (∀ a, P1 a → P a) ∧ Rel K H d v P1
  | [], ds, _, r => .inl ⟨by simp [look, kIx], rfl⟩
  | (q, v) :: kvs, ds, _, r => by
    cases ds with
    | nil => cases (show v :: kvs.map (·.2) = [] from r)
    | cons d ds =>
      obtain ⟨v', vs', P1, P2, e, s, r1, rs⟩ := r
      obtain ⟨rfl, rfl⟩ := List.cons.inj e
      by_cases hq : q = k
      · right
        exact ⟨d, v, P1, by simp [look, kIx, hq], valV_pos hq, s.1, r1⟩
      · have e1 : look (((q, v) :: kvs).map (·.1)) (d :: ds) k = look (kvs.map (·.1)) ds k := by
          simp only [look, List.map_cons, kIx, if_neg hq]
          cases kIx (kvs.map (·.1)) k <;> simp
        rw [e1, valV_neg hq]
        rcases look_val (k := k) rs with h | ⟨d, v, P3, h1, h2, h3, h4⟩
        · exact .inl h
        · exact .inr ⟨d, v, P3, h1, h2, fun a z => s.2.1 a (h3 a z), h4⟩
theorem key_val {d : D} {v : V} {P : Own} {k : Key} (r : Rel K H d v P) (h : dKey d = some k) : v = kV k := by
  cases d <;> simp only [dKey, reduceCtorEq, Option.some.injEq] at h <;> subst h <;> exact r
theorem Rels.cut {ds : List D} {vs : List V} {P : Own} (r : Rels K H ds vs P) (lo hi : Option Int) (i : imms ds = true) : Rels K H (cutL ds lo hi) (cutV vs lo hi) No := by
  have tk : ∀ {ds : List D} {vs : List V} (n : Nat), Rels K H ds vs No → Rels K H (ds.take n) (vs.take n) No := by
    intro ds
    induction ds with
    | nil => intro vs n h; have e : vs = [] := h; subst e; simp; exact rfl
    | cons d ds ih =>
      intro vs n h
      obtain ⟨v, vs', P1, P2, rfl, s, r1, rs⟩ := h
      cases n with
      | zero => exact rfl
      | succ n => exact Rels.cons Sep.nl (r1.mono s.1) (ih n (rs.mono s.2.1))
  have dr : ∀ {ds : List D} {vs : List V} (n : Nat), Rels K H ds vs No → Rels K H (ds.drop n) (vs.drop n) No := by
    intro ds
    induction ds with
    | nil => intro vs n h; have e : vs = [] := h; subst e; simp; exact rfl
    | cons d ds ih =>
      intro vs n h
      cases n with
      | zero => exact h
      | succ n =>
        obtain ⟨v, vs', P1, P2, rfl, s, r1, rs⟩ := h
        exact ih n (rs.mono s.2.1)
  unfold cutL cutV
  rw [r.length]
  exact tk _ (dr _ (Rels.imm i r))
theorem Rels.atI {ds : List D} {vs : List V} {P : Own} {i : Int} {d : D} (r : Rels K H ds vs P) (h : atI ds i = some d) : ∃ v P1, L2.atI vs i = some v ∧ (∀ a, P1 a → P a) ∧ Rel K H d v P1 := by
  unfold L2.atI at h ⊢
  rw [r.length] at h
  obtain ⟨j, hj, hd⟩ := Option.bind_eq_some_iff.mp h
  obtain ⟨v, P1, e, s, r1⟩ := r.get hd
  exact ⟨v, P1, by rw [hj]; exact e, s, r1⟩
theorem dInts_map : ∀ (ns : List Int), dInts (ns.map D.int) = some ns
  | [] => rfl
  | n :: ns => by simp [dInts, dInts_map ns]
end

section
variable {X : Cx} {k : Nat}
theorem I_rdlst {pins : List (Addr × Obj)} {σ : L2.St} {H : Hp} {s : Shared} {p : Addr} {xs : List V} (I : Inv X pins σ H s) (h : Rd H p (.lst xs)) :
    xs.length ≤ sizeLine ∧ ∃ (its : List Value) (n : Nat), Vals xs its ∧ xs.length = its.length ∧ s.heap.get? p = some { cls := .type "list", data := .seq its.toArray n } := by
  obtain ⟨z, its, n, r, e⟩ := h.ok I.hok
  exact ⟨z, its, n, r, r.length, e⟩
theorem op_catR : OpR X (binaryOp .Add) (fun x y H Q => ∃ l b xs zs, x = .ref l ∧ y = .ref b ∧ Rd H l (.lst xs) ∧ Rd H b (.lst zs) ∧ xs.length + zs.length ≤ sizeLine ∧ ∀ p, H p = none → Q (.ref p) (upd H p (.lst (xs ++ zs)))) := by
  intro pins s σ H x y v u Q I rx ry h
  obtain ⟨l, b, xs, zs, rfl, rfl, hH, hB, hz, q⟩ := h
  cases rx
  cases ry
  obtain ⟨z, its, n, r, hl, e⟩ := I_rdlst I hH
  obtain ⟨z2, its2, n2, r2, hl2, e2⟩ := I_rdlst I hB
  refine PySem.P.add_list e e2 ?_ (by rw [List.size_toArray, List.size_toArray]; omega)
  have ea : its.toArray ++ its2.toArray = (its ++ its2).toArray := by simp
  rw [ea]
  exact ⟨.ref _, _, I.lnew (t' := s.toks) (r.append r2) (by rw [List.length_append]; omega), rfl, q _ I.fresh⟩
theorem lim_eq : lim = sizeLine := by rw [sizeLine_eq]

theorem rels_rep {K : PySem.W.Frag} {H : Hp} {ds : List D} {vs : List V} (r : Rels K H ds vs No) : ∀ n : Nat, Rels K H (List.replicate n ds).flatten (List.replicate n vs).flatten No
  | 0 => rfl
  | n + 1 => by
    simp only [List.replicate_succ, List.flatten_cons]
    exact Rels.append Sep.nl r (rels_rep r n)
theorem o_add : OpR X (binaryOp .Add) (r2P X.K .add) := by
  refine OpR.of fun x y H Q ⟨d, e, r, P2, P4, rd, re, ha, hf⟩ => ?_
  simp only [PF.ap] at ha
  cases d <;> cases e <;> simp only [opAdd, reduceCtorEq, Option.some.injEq, Option.ite_none_right_eq_some] at ha
  · subst ha; exact ⟨_, op_add_ib, _, _, rd, re, hf.int⟩
  · subst ha; exact ⟨_, op_add, _, _, rd, re, hf.int⟩
  · obtain ⟨h1, rfl⟩ := ha; exact ⟨_, op_add_str, _, _, rd, re, by rw [← lim_eq]; exact h1, hf.str⟩
  · rename_i ds es
    obtain ⟨⟨h1, i1, i2⟩, rfl⟩ := ha
    obtain ⟨a, vs, rfl, s1, r1⟩ := rd
    obtain ⟨b, ws, rfl, s2, r2⟩ := re
    have l1 := r1.length
    have l2 := r2.length
    refine ⟨_, op_catA, a, b, vs, ws, rfl, rfl, s1, s2, by rw [← lim_eq]; omega, fun z => ?_, fun _ z => ?_, fun _ _ p hp => ?_⟩
    · subst z
      have e1 : ds = [] := List.eq_nil_of_length_eq_zero l1
      subst e1
      exact hf.old (by simpa [imm] using i2) ⟨b, ws, rfl, s2, r2⟩
    · subst z
      have e1 : es = [] := List.eq_nil_of_length_eq_zero l2
      subst e1
      rw [List.append_nil] at hf
      exact hf.old (by simpa [imm] using i1) ⟨a, vs, rfl, s1, r1⟩
    · exact hf.tup hp (Rels.append Sep.nl (Rels.imm i1 r1) (Rels.imm i2 r2))
  · obtain ⟨⟨h1, i1, i2⟩, rfl⟩ := ha
    obtain ⟨a, vs, Q1, rfl, s1, r1⟩ := rd
    obtain ⟨b, ws, Q2, rfl, s2, r2⟩ := re
    have l1 := r1.length
    have l2 := r2.length
    exact ⟨_, op_catR, a, b, vs, ws, rfl, rfl, s1.rd, s2.rd, by rw [← lim_eq]; omega, fun p hp => hf.lst hp (Rels.append Sep.nl (Rels.imm i1 r1) (Rels.imm i2 r2))⟩
theorem o_sub : OpR X (binaryOp .Sub) (r2P X.K .sub) := by
  refine OpR.of fun x y H Q ⟨d, e, r, P2, P4, rd, re, ha, hf⟩ => ?_
  cases d <;> cases e <;> simp only [PF.ap, reduceCtorEq, Option.some.injEq] at ha
  subst ha; exact ⟨_, op_sub, _, _, rd, re, hf.int⟩
theorem o_mul : OpR X (binaryOp .Mult) (r2P X.K .mul) := by
  refine OpR.of fun x y H Q ⟨d, e, r, P2, P4, rd, re, ha, hf⟩ => ?_
  simp only [PF.ap] at ha
  cases d <;> cases e <;> simp only [opMul, reduceCtorEq, Option.some.injEq, Option.ite_none_right_eq_some] at ha
  · obtain ⟨h1, rfl⟩ := ha
    simp only [mulOk, Bool.or_eq_true, decide_eq_true_eq] at h1
    rcases h1 with h1 | h1
    · exact ⟨_, op_mul, _, _, rd, re, h1.elim (fun h => .inl ⟨by omega, by omega⟩) (fun h => .inr ⟨by omega, by omega⟩), hf.int⟩
    · refine ⟨_, op_mulW, _, _, rd, re, ?_, hf.int⟩
      unfold CMulW
      omega
  · rename_i m ds k
    cases m <;> simp only [reduceCtorEq, Option.ite_none_right_eq_some, Option.some.injEq] at ha
    obtain ⟨⟨h1, h3, i1⟩, rfl⟩ := ha
    obtain ⟨a, vs, Q1, rfl, s1, r1⟩ := rd
    have l1 := r1.length
    refine ⟨_, op_rep, a, _, vs, rfl, re, s1.1, by omega, by omega, by rw [← lim_eq, ← l1]; exact h3, fun p hp => hf.lst hp ?_⟩
    exact rels_rep (Rels.imm i1 r1) _
theorem o_fdiv : OpR X (binaryOp .FloorDiv) (r2P X.K .fdiv) := by
  refine OpR.of fun x y H Q ⟨d, e, r, P2, P4, rd, re, ha, hf⟩ => ?_
  simp only [PF.ap] at ha
  cases d <;> cases e <;> simp only [opDiv, reduceCtorEq, Option.some.injEq, Option.ite_none_right_eq_some] at ha
  obtain ⟨⟨h1, h2⟩, rfl⟩ := ha
  exact ⟨_, op_fdivW, _, _, rd, re, ⟨h1, by omega⟩, hf.int⟩
theorem o_mod : OpR X (binaryOp .Mod) (r2P X.K .mod) := by
  refine OpR.of fun x y H Q ⟨d, e, r, P2, P4, rd, re, ha, hf⟩ => ?_
  simp only [PF.ap] at ha
  cases d <;> cases e <;> simp only [opMod, reduceCtorEq, Option.some.injEq, Option.ite_none_right_eq_some] at ha
  obtain ⟨h1, rfl⟩ := ha
  exact ⟨_, op_mod, _, _, rd, re, h1, hf.int⟩
theorem o_pow : OpR X (binaryOp .Pow) (r2P X.K .pow) := by
  refine OpR.of fun x y H Q ⟨d, e, r, P2, P4, rd, re, ha, hf⟩ => ?_
  simp only [PF.ap] at ha
  cases d <;> cases e <;> simp only [opPow, reduceCtorEq, Option.some.injEq, Option.ite_none_right_eq_some] at ha
  obtain ⟨h1, rfl⟩ := ha
  exact ⟨_, op_pow, _, _, rd, re, ⟨h1.1, by omega, h1.2.2⟩, hf.int⟩
theorem o_shl : OpR X (binaryOp .LShift) (r2P X.K .shl) := by
  refine OpR.of fun x y H Q ⟨d, e, r, P2, P4, rd, re, ha, hf⟩ => ?_
  simp only [PF.ap] at ha
  cases d <;> cases e <;> simp only [opShl, reduceCtorEq, Option.some.injEq, Option.ite_none_right_eq_some] at ha
  obtain ⟨h1, rfl⟩ := ha
  exact ⟨_, op_shl, _, _, rd, re, ⟨h1.1, by omega, h1.2.2⟩, hf.int⟩
theorem o_neg : UnR X (unaryOp .USub) (r1P X.K .neg) := by
  refine UnR.of fun x H Q ⟨d, r, P2, rd, ha, hf⟩ => ?_
  cases d <;> simp only [PF.ap, reduceCtorEq, Option.some.injEq] at ha
  subst ha
  exact ⟨_, un_neg, _, rd, hf.int⟩
theorem o_eq (hr : Room k X.A) : OpR X (compareOp .Eq) (r2P X.K .eq) := by
  refine OpR.of fun x y H Q ⟨d, e, r, P2, P4, rd, re, ha, hf⟩ => ?_
  simp only [PF.ap, dEq, Option.map_eq_some_iff, Option.bind_eq_some_iff, Option.ite_none_right_eq_some, Option.some.injEq, Bool.and_eq_true] at ha
  obtain ⟨b, ⟨x1, h1, x2, h2, ⟨h3, h4⟩, rfl⟩, rfl⟩ := ha
  exact ⟨_, op_eqD hr.units, x1, x2, dp_of rd h1, dp_of re h2, h3, h4, hf.bl⟩
theorem o_ne (hr : Room k X.A) : OpR X (compareOp .NotEq) (r2P X.K .ne) := by
  refine OpR.of fun x y H Q ⟨d, e, r, P2, P4, rd, re, ha, hf⟩ => ?_
  simp only [PF.ap, dEq, Option.map_eq_some_iff, Option.bind_eq_some_iff, Option.ite_none_right_eq_some, Option.some.injEq, Bool.and_eq_true] at ha
  obtain ⟨b, ⟨x1, h1, x2, h2, ⟨h3, h4⟩, rfl⟩, rfl⟩ := ha
  exact ⟨_, op_neD hr.units, x1, x2, dp_of rd h1, dp_of re h2, h3, h4, hf.bl⟩
theorem o_lt (hr : Room k X.A) : OpR X (compareOp .Lt) (r2P X.K .lt) := by
  refine OpR.of fun x y H Q ⟨d, e, r, P2, P4, rd, re, ha, hf⟩ => ?_
  simp only [PF.ap, Option.map_eq_some_iff] at ha
  obtain ⟨b, ha, rfl⟩ := ha
  cases d <;> cases e <;> simp only [opLt, reduceCtorEq, Option.some.injEq, Option.map_eq_some_iff, Option.bind_eq_some_iff] at ha
  · subst ha; exact ⟨_, op_lt, _, _, rd, re, hf.bl⟩
  · subst ha; exact ⟨_, op_lt_str, _, _, rd, re, hf.bl⟩
  · obtain ⟨xs, h1, ys, h2, rfl⟩ := ha
    obtain ⟨a, vs, rfl, s1, r1⟩ := rd
    obtain ⟨c, ws, rfl, s2, r2⟩ := re
    rw [ints_of r1 h1] at s1
    rw [ints_of r2 h2] at s2
    exact ⟨_, op_ltT hr.units0, a, c, xs, ys, rfl, rfl, s1, s2, hf.bl⟩
def rCmpT (K : PySem.W.Frag) (r : Int → Int → Bool) (z : Nat → Nat → Bool) : R2 := fun x y H Q => ∃ (a b : Addr) (ns ms : List Int), x = .ref a ∧ y = .ref b ∧ SqT K H a (ns.map V.int) ∧ SqT K H b (ms.map V.int) ∧ Q (.bl (cmpT r z ns ms)) H
theorem op_cmpT {op : CmpOp} {r : Int → Int → Bool} {z : Nat → Nat → Bool} (hu : X.A.units < cLine)
    (hi : ∀ {A : Around} {s : Shared} (x y : Int) (t u : Tok), Ob.RcOp op A s (.int x t) (.int y u) (r x y)) (hc : compareOp op = richCompare op)
    (ht : ∀ {A : Around} {s : Shared} {l b : Addr} {p q : Array Value} {e f : Nat → Bool}, s.heap.IsTuple l p → s.heap.IsTuple b q → A.units < cLine → (∀ j (h1 : j < p.size) (h2 : j < q.size), SeqAt.EqAt A.in1 s p[j] q[j] (e j)) →
      (∀ j (h1 : j < p.size) (h2 : j < q.size), e j = false → Ob.RcOp op A.in1 s p[j] q[j] (f j)) → Ob.RcOp op A s (.ref l) (.ref b) (Ob.lexAt e f (z p.size q.size) 0 (min p.size q.size))) : OpR X (compareOp op) (rCmpT X.K r z) := by
  rintro pins s σ H x y v u Q I rx ry ⟨a, b, ns, ms, rfl, rfl, ha, hb, q⟩
  cases rx
  cases ry
  obtain ⟨its, r1, p1, _⟩ := I.tuple ha
  obtain ⟨its2, r2, p2, _⟩ := I.tuple hb
  have i1 : PyProof.Rows.IntsAre its ns := Vals.ints r1
  have i2 : PyProof.Rows.IntsAre its2 ms := Vals.ints r2
  have g1 : its.toArray.size = ns.length := (List.size_toArray).trans i1.length
  have g2 : its2.toArray.size = ms.length := (List.size_toArray).trans i2.length
  have a1 : ∀ j (h1 : j < its.toArray.size), ∃ t, its.toArray[j] = .int (ns.getD j 0) t := fun j h1 => i1.int_at _ _ (by simp at h1; simp [h1])
  have a2 : ∀ j (h1 : j < its2.toArray.size), ∃ t, its2.toArray[j] = .int (ms.getD j 0) t := fun j h1 => i2.int_at _ _ (by simp at h1; simp [h1])
  have R := ht (A := X.A) (s := s) (e := fun j => decide (ns.getD j 0 = ms.getD j 0)) (f := fun j => r (ns.getD j 0) (ms.getD j 0)) p1 p2 hu
    (fun j h1 h2 => by
      obtain ⟨⟨t, e1⟩, t2, e2⟩ := (⟨a1 j h1, a2 j h2⟩ : _ ∧ _)
      have e3 : decide (ns.getD j 0 = ms.getD j 0) = (ns.getD j 0 == ms.getD j 0) := by rw [Bool.eq_iff_iff, decide_eq_true_eq, beq_iff_eq]
      rw [e1, e2, e3]
      exact SeqAt.EqAt.int_int _ _ _ _)
    (fun j h1 h2 _ => by
      obtain ⟨⟨t, e1⟩, t2, e2⟩ := (⟨a1 j h1, a2 j h2⟩ : _ ∧ _)
      rw [e1, e2]
      exact hi _ _ _ _)
  rw [g1, g2] at R
  rw [hc]
  exact R X.prog X.w X.xe (EP X pins σ Q) ⟨.bl _, H, I, rfl, q⟩
theorem lexAt_congr {e f : Nat → Bool} {z : Bool} (h : ∀ j, e j = f j) {r : Nat → Bool} : ∀ (k i : Nat), Ob.lexAt e r z i k = Ob.lexAt f r z i k
  | 0, _ => rfl
  | k + 1, i => by rw [Ob.lexAt_succ, Ob.lexAt_succ, h i, lexAt_congr h k]
theorem cmpT_sw (ns ms : List Int) : cmpT (fun i j => decide (j ≤ i)) (fun m n => decide (m ≥ n)) ns ms = cmpT (fun i j => decide (i ≤ j)) (fun m n => decide (m ≤ n)) ms ns := by
  unfold cmpT
  rw [Nat.min_comm ns.length ms.length]
  exact lexAt_congr (fun j => by rw [Bool.eq_iff_iff, decide_eq_true_eq, decide_eq_true_eq]; exact eq_comm) _ _
theorem o_gt (hr : Room k X.A) : OpR X (compareOp .Gt) (r2P X.K .gt) := by
  refine OpR.of fun x y H Q ⟨d, e, r, P2, P4, rd, re, ha, hf⟩ => ?_
  simp only [PF.ap, Option.map_eq_some_iff] at ha
  obtain ⟨b, ha, rfl⟩ := ha
  cases d <;> cases e <;> simp only [opGt, reduceCtorEq, Option.some.injEq, Option.map_eq_some_iff, Option.bind_eq_some_iff] at ha
  · subst ha; exact ⟨_, op_gt, _, _, rd, re, hf.bl⟩
  · subst ha; exact ⟨_, op_gt_str, _, _, rd, re, hf.bl⟩
  · obtain ⟨xs, h1, ys, h2, rfl⟩ := ha
    obtain ⟨a, vs, rfl, s1, r1⟩ := rd
    obtain ⟨c, ws, rfl, s2, r2⟩ := re
    rw [ints_of r1 h1] at s1
    rw [ints_of r2 h2] at s2
    exact ⟨_, op_cmpT hr.units0 Ob.RcOp.gt_int rfl Ob.RcOp.tuples_gt, a, c, xs, ys, rfl, rfl, s1, s2, hf.bl⟩
theorem o_le (hr : Room k X.A) : OpR X (compareOp .LtE) (r2P X.K .le) := by
  refine OpR.of fun x y H Q ⟨d, e, r, P2, P4, rd, re, ha, hf⟩ => ?_
  simp only [PF.ap, Option.map_eq_some_iff] at ha
  obtain ⟨b, ha, rfl⟩ := ha
  cases d <;> cases e <;> simp only [opLe, reduceCtorEq, Option.some.injEq, Option.map_eq_some_iff, Option.bind_eq_some_iff] at ha
  · subst ha; exact ⟨_, op_le, _, _, rd, re, hf.bl⟩
  · subst ha; exact ⟨_, op_le_str, _, _, rd, re, hf.bl⟩
  · obtain ⟨xs, h1, ys, h2, rfl⟩ := ha
    obtain ⟨a, vs, rfl, s1, r1⟩ := rd
    obtain ⟨c, ws, rfl, s2, r2⟩ := re
    rw [ints_of r1 h1] at s1
    rw [ints_of r2 h2] at s2
    exact ⟨_, op_cmpT hr.units0 Ob.RcOp.le_int rfl Ob.RcOp.tuples_le, a, c, xs, ys, rfl, rfl, s1, s2, hf.bl⟩
theorem o_ge (hr : Room k X.A) : OpR X (compareOp .GtE) (r2P X.K .ge) := by
  refine OpR.of fun x y H Q ⟨d, e, r, P2, P4, rd, re, ha, hf⟩ => ?_
  simp only [PF.ap, Option.map_eq_some_iff] at ha
  obtain ⟨b, ha, rfl⟩ := ha
  cases d <;> cases e <;> simp only [opLe, reduceCtorEq, Option.some.injEq, Option.map_eq_some_iff, Option.bind_eq_some_iff] at ha
  · subst ha; exact ⟨_, op_ge, _, _, rd, re, hf.bl⟩
  · subst ha; exact ⟨_, op_ge_str, _, _, rd, re, hf.bl⟩
  · obtain ⟨xs, h1, ys, h2, rfl⟩ := ha
    obtain ⟨a, vs, rfl, s1, r1⟩ := rd
    obtain ⟨c, ws, rfl, s2, r2⟩ := re
    rw [ints_of r1 h2] at s1
    rw [ints_of r2 h1] at s2
    rw [← cmpT_sw] at hf
    exact ⟨_, op_cmpT hr.units0 Ob.RcOp.ge_int rfl Ob.RcOp.tuples_ge, a, c, ys, xs, rfl, rfl, s1, s2, hf.bl⟩
theorem o_in (hr : Room k X.A) : OpR X (compareOp .In) (r2P X.K .inn) := by
  refine OpR.of fun x y H Q ⟨d, e, r, P2, P4, rd, re, ha, hf⟩ => ?_
  simp only [PF.ap, Option.map_eq_some_iff] at ha
  obtain ⟨b, ha, rfl⟩ := ha
  have hu : X.A.units + 65 < cLine := by have := hr.un; omega
  cases e <;> simp only [opIn, reduceCtorEq, Option.some.injEq, Option.map_eq_some_iff, Option.bind_eq_some_iff, Option.ite_none_right_eq_some, Bool.and_eq_true] at ha
  · cases d <;> simp only [reduceCtorEq, Option.some.injEq] at ha
    subst ha
    exact ⟨_, op_in_str, _, _, rd, re, hf.bl⟩
  · obtain ⟨x1, h1, ys, h2, ⟨h3, h4⟩, rfl⟩ := ha
    refine ⟨fun x y H Q => ∃ d ds, Dp X.K H x d ∧ Dp X.K H y (.tuple ds) ∧ SeqAt.shaped d = true ∧ SeqAt.shaped (.tuple ds) = true ∧ Q (.bl (ds.any fun z => PyData.eqv z d)) H, ?_, x1, ys, dp_of rd h1, dp_of re (by simp [toPy, h2]), h3, h4, hf.bl⟩
    intro pins s σ H x y v u Q I rx ry h
    obtain ⟨d, ds, hd, he, sd, se, q⟩ := h
    obtain ⟨as, r1⟩ := Dp.reads I d x v hd rx
    obtain ⟨bs, r2⟩ := Dp.reads I (.tuple ds) y u he ry
    exact SeqAt.in_tuple_reads r2 r1 (SeqAt.canLay_of_shaped se) (SeqAt.canLay_of_shaped sd) (PyProof.Rows.room_in_shaped sd hu) ⟨.bl _, H, I, rfl, q⟩
  · obtain ⟨x1, h1, ys, h2, ⟨h3, h4⟩, rfl⟩ := ha
    exact ⟨_, op_inD hu, x1, ys, dp_of rd h1, dp_of re (by simp [toPy, h2]), h3, h4, hf.bl⟩
  · obtain ⟨q, hq, rfl⟩ := ha
    obtain ⟨a, kvs, Q1, rfl, s1, ⟨rfl, nd⟩, r1⟩ := re
    refine ⟨fun x y H Q => ∃ a o, y = .ref a ∧ DGet H a x o ∧ Q (.bl o.isSome) H, ?_, a, valV kvs q, rfl, .inl ⟨kvs, q, s1.rd, key_val rd hq, rfl⟩, ?_⟩
    · intro pins s σ H x y v u Q I rx ry h
      obtain ⟨a, o, rfl, g, q⟩ := h
      obtain rfl : u = Value.ref a := ry
      exact d_in (by have := hr.un; omega) I g rx fun s3 I3 => ⟨.bl o.isSome, H, I3, rfl, q⟩
    · rcases look_val (k := q) r1 with ⟨h1, h2⟩ | ⟨d', v', P1, h1, h2, _, _⟩
      · rw [h1] at hf; rw [h2]; exact hf.bl
      · rw [h1] at hf; rw [h2]; exact hf.bl
theorem o_nin (hr : Room k X.A) : OpR X (compareOp .NotIn) (r2P X.K .nin) := by
  refine OpR.of fun x y H Q ⟨d, e, r, P2, P4, rd, re, ha, hf⟩ => ?_
  simp only [PF.ap, Option.map_eq_some_iff] at ha
  obtain ⟨b, ha, rfl⟩ := ha
  have hu : X.A.units + 65 < cLine := by have := hr.un; omega
  cases e <;> simp only [opIn, reduceCtorEq, Option.some.injEq, Option.map_eq_some_iff, Option.bind_eq_some_iff, Option.ite_none_right_eq_some, Bool.and_eq_true] at ha
  · cases d <;> simp only [reduceCtorEq, Option.some.injEq] at ha
    subst ha
    exact ⟨_, op_notin_str, _, _, rd, re, hf.bl⟩
  · obtain ⟨x1, h1, ys, h2, ⟨h3, h4⟩, rfl⟩ := ha
    refine ⟨fun x y H Q => ∃ d ds, Dp X.K H x d ∧ Dp X.K H y (.tuple ds) ∧ SeqAt.shaped d = true ∧ SeqAt.shaped (.tuple ds) = true ∧ Q (.bl (!ds.any fun z => PyData.eqv z d)) H, ?_, x1, ys, dp_of rd h1, dp_of re (by simp [toPy, h2]), h3, h4, hf.bl⟩
    intro pins s σ H x y v u Q I rx ry h
    obtain ⟨d, ds, hd, he, sd, se, q⟩ := h
    obtain ⟨as, r1⟩ := Dp.reads I d x v hd rx
    obtain ⟨bs, r2⟩ := Dp.reads I (.tuple ds) y u he ry
    exact SeqAt.notIn_tuple_reads r2 r1 (SeqAt.canLay_of_shaped se) (SeqAt.canLay_of_shaped sd) (PyProof.Rows.room_in_shaped sd hu) ⟨.bl _, H, I, rfl, q⟩
  · obtain ⟨x1, h1, ys, h2, ⟨h3, h4⟩, rfl⟩ := ha
    exact ⟨_, op_notInD hu, x1, ys, dp_of rd h1, dp_of re (by simp [toPy, h2]), h3, h4, hf.bl⟩
  · obtain ⟨q, hq, rfl⟩ := ha
    obtain ⟨a, kvs, Q1, rfl, s1, ⟨rfl, nd⟩, r1⟩ := re
    refine ⟨fun x y H Q => ∃ a o, y = .ref a ∧ DGet H a x o ∧ Q (.bl (!o.isSome)) H, ?_, a, valV kvs q, rfl, .inl ⟨kvs, q, s1.rd, key_val rd hq, rfl⟩, ?_⟩
    · intro pins s σ H x y v u Q I rx ry h
      obtain ⟨a, o, rfl, g, q⟩ := h
      obtain rfl : u = Value.ref a := ry
      exact d_notIn (by have := hr.un; omega) I g rx fun s3 I3 => ⟨.bl (!o.isSome), H, I3, rfl, q⟩
    · rcases look_val (k := q) r1 with ⟨h1, h2⟩ | ⟨d', v', P1, h1, h2, _, _⟩
      · rw [h1] at hf; rw [h2]; exact hf.bl
      · rw [h1] at hf; rw [h2]; exact hf.bl
end
end Z

/-! sorted(xs), xs a tuple of ints -/
namespace Z
open PySem PySem.Spec PyProof.Rows L2
section
variable {prog : Program} {w : World} {A : Around} {E : Value → Shared → Prop} {s : Shared}
/-- the heap behind the gathering of a tuple's items -/
abbrev gth (h : Heap) (vs : List Value) : Heap := (h.push (seqObj "list" #[] 0)).update h.objs.size (Obj.mapSeq (· ++ vs.toArray))
theorem gather_tup {l : Addr} {vs : List Value} {Q : List Value → Shared → Prop} (hl : ∃ o, s.heap.get? l = some o ∧ o.cls = .type "tuple" ∧ ∃ n, o.data = .seq vs.toArray n) (hz : vs.length ≤ sizeLine)
    (q : Q vs { s with heap := gth s.heap vs }) : wpAny (model prog w) A (collect (.ref l)) Q E s := by
  obtain ⟨o, ho, hc, n, hd⟩ := hl
  have o2 := Heap.get?_push_of_some (seqObj "list" #[] 0) ho
  have nw : (s.heap.push (seqObj "list" #[] 0)).get? s.heap.objs.size = some (seqObj "list" #[] 0) := Heap.get?_push_size _ rfl
  unfold collect
  refine wpAny_bind (wpAny_runValue (codeAny_builtin entry_proto_collect' (show wpAny _ _ (do again (.builtin "list.__iadd__" ⟨[← newList [], .ref l], []⟩)) _ _ s from
    wpAny_bind (wpAny_newList (wpAny_pure ⟨Code.quiet_builtin _ (by decide +kernel), codeAny_builtin entry_list_iadd' (show wpAny _ _ (Builtin.List.listExtendWith (.ref s.heap.objs.size) (.ref l) (.ref s.heap.objs.size)) _ _ { s with heap := s.heap.push (seqObj "list" #[] 0) } from ?_)⟩)))))
  unfold Builtin.List.listExtendWith
  refine wpAny_bind (wpAny_typeOf (T := "tuple") ⟨o, o2, hc⟩ ?_)
  rw [if_pos (by rw [show (Value.type "tuple" == Value.type "tuple") = true from rfl]; simp)]
  refine wpAny_bind (listItems_at o2 hd (wpAny_bind (listItems_at (xs := #[]) (n := 0) nw rfl ?_)))
  rw [if_neg (by simp)]
  refine wpAny_bind (listUpdate_at (xs := #[]) (n := 0) nw rfl (wpAny_pure ?_) (Nat.zero_le _) (by simp only [Array.size_append, List.size_toArray, List.length_nil]; omega))
  refine (show wpAny (model prog w) A (do
      match (← load s.heap.objs.size).data with
      | .seq xs _ => pure xs.toList
      | _ => unsupported "internal:collect") Q E { s with heap := gth s.heap vs } from wpAny_bind (wpAny_load (get?_update_seq nw _) ?_))
  have e : ((#[] : Array Value) ++ vs.toArray).toList = vs := by simp
  exact wpAny_pure (e.symm ▸ q)
theorem sorted_tupI {l : Addr} {vs : List Value} {ns : List Int} {Q : Value → Shared → Prop} (hl : ∃ o, s.heap.get? l = some o ∧ o.cls = .type "tuple" ∧ ∃ n, o.data = .seq vs.toArray n) (hz : vs.length ≤ sizeLine)
    (hi : IntsAre vs ns) (q : ∀ out : List Value, SrtO.Srtd SrtO.ltIv out → SrtO.Stb SrtO.ltIv out vs → Q (.ref (s.heap.objs.size + 1)) { s with heap := sortedAll s.heap vs out.toArray }) :
    wpAny (model prog w) A (call (.builtin "sorted") [.ref l]) Q E s := by
  refine Calls.call_function_entry kind_sorted plain_sorted entry_sorted (args_sorted1 _) (show wpAny _ _ (Builtin.«sorted» ⟨[.ref l], []⟩) _ _ s from ?_)
  unfold Builtin.«sorted»
  refine wpAny_bind (m := checkCount "sorted" 1 1 _) (wpAny_pure (wpAny_bind (gather_tup hl hz (wpAny_bind (wpAny_newList ?_ hz)))))
  have sz : (gth s.heap vs).objs.size = s.heap.objs.size + 1 := (Heap.size_update ..).trans (size_push' ..)
  have at2 : ((gth s.heap vs).push (seqObj "list" vs.toArray 0)).get? (s.heap.objs.size + 1) = some (seqObj "list" vs.toArray 0) := sz ▸ Heap.get?_push_size _ rfl
  show wpAny _ _ _ _ _ { s with heap := (gth s.heap vs).push (seqObj "list" vs.toArray 0) }
  rw [sz]
  exact wpAny_bind (wpAny_holding (wpAny_call_entry slot_list_sort ⟨_, at2, rfl⟩ entry_list_sort (SrtO.list_sort_ord SrtO.swo_int at2 hz (SrtO.ints_sortable hi) fun out h1 h2 => ⟨_, rfl, wpAny_pure ⟨_, rfl, q out h1 h2⟩⟩) (args_list_sort _)))
end
/-- sorted(xs), xs a tuple of ints, any number of them -/
def rSortedT (K : PySem.W.Frag) : List V → Hp → VK → Prop := fun vs H Q => ∃ (a : Addr) (ns : List Int), vs = [V.ref a] ∧ SqT K H a (ns.map V.int) ∧
  ∀ (ms : List Int) (p : Addr), ms.Perm ns → ms.Pairwise (· ≤ ·) → H p = none → Q (.ref p) (upd H p (.lst (ms.map V.int)))
theorem cr_sortedT {X : Cx} : CallR X (.builtin "sorted") (rSortedT X.K) := by
  rintro pins s σ H vs us Q I r ⟨a, ns, rfl, hs, q⟩
  obtain ⟨its, rv, hl, hz⟩ := I.tuple hs
  rw [Vals.ref1 r]
  refine sorted_tupI hl (by rw [← rv.length]; exact hz) rv.ints fun out h1 h2 => ?_
  obtain ⟨k1, k2, k3⟩ := SrtO.ints_out rv.ints h1 h2
  obtain ⟨ep, hp⟩ := sortedAll_at s.heap its out.toArray
  refine ⟨.ref _, upd H (s.heap.objs.size + 1) (.lst ((out.map SrtO.iv).map V.int)), I.laid (t' := s.toks) (fun _ _ => sortedAll_old) (Nat.le_succ _) ⟨?_, out, ep, vals_of_ints k1, hp⟩, rfl, q _ _ k2 k3 (I.hok.fresh (Nat.le_succ _))⟩
  rw [List.length_map, k2.length_eq, ← List.length_map (f := V.int)]
  exact hz
end Z

namespace Z
open PySem PySem.Spec L2
variable [TabList]

section
variable {X : Cx} {k : Nat}
theorem IxR.of {r' : R2} (h : ∀ x y H Q, r' x y H Q → ∃ r, IxR X r ∧ r x y H Q) : IxR X r' := fun a b pins s σ H x y v u Q I rx ry hw hs => let ⟨_, i, j⟩ := h x y H Q hw; i a b pins s σ H x y v u Q I rx ry j hs
theorem ix_dict (hr : Room k X.A) : IxR X (fun x y H Q => ∃ a v, x = .ref a ∧ DGet H a y (some v) ∧ Q v H) := by
  intro value slice pins s σ H x y v u Q I rx ry h hs
  obtain ⟨a, w, rfl, g, q⟩ := h
  obtain rfl : v = Value.ref a := rx
  have hT := dict_typeIs I g
  unfold PyProof.Rows.subscriptTail
  refine wpAny_bind ?_
  rw [getitemInPython_of_ne hT.not_modules]
  refine wpAny_bind (wpAny_specialOf hT PySem.F.slot_dict_getitem.lookup ?_)
  have fin : wpAny (model X.prog X.w) X.A (subscripted slice false (.ref a) u) (fun r s₃ => wpAny (model X.prog X.w) X.A (letTemporaryGo value (.ref a) r >>= fun _ => pure r) (EP X pins σ Q) X.xe s₃) X.xe s := by
    rw [hs]
    exact wpAny_operating (d_getItem (by have := hr.un; omega) I g ry fun w' s3 I3 rw' => wpAny_bind (wpAny_letTemporaryGo (wpAny_pure ⟨w, H, I3, rw', q⟩)))
  first
    | exact wpAny_pure (wpAny_bind fin)
    | exact wpAny_bind (wpAny_pure (wpAny_bind fin))
    | exact wpAny_bind fin
/-- a part of a value, whatever is owned in it -/
abbrev rStep (K : PySem.W.Frag) : R2 := fun x y H Q => ∃ d e r P2 P4, Rel K H d x P2 ∧ Rel K H e y P4 ∧ opIdx d e = some r ∧ ∀ v P', (∀ a, P' a → P2 a) → Rel K H r v P' → Q v H
theorem ix_step (hr : Room k X.A) : IxR X (rStep X.K) := by
  refine IxR.of fun x y H Q ⟨d, e, r, P2, P4, rd, re, ha, hf⟩ => ?_
  cases d <;> simp only [opIdx, reduceCtorEq] at ha
  · cases e <;> simp only [reduceCtorEq, Option.ite_none_right_eq_some, Option.map_eq_some_iff] at ha
    obtain ⟨h1, c, hc, rfl⟩ := ha
    exact ⟨_, ix_str, _, _, c, rd, re, by rw [← lim_eq]; exact h1, hc, hf _ No (fun _ z => z.elim) rfl⟩
  · cases e <;> simp only [reduceCtorEq] at ha
    obtain ⟨a, vs, rfl, s1, r1⟩ := rd
    obtain ⟨v, P1, e1, sb, r2⟩ := r1.atI ha
    exact ⟨_, ix_tup, a, vs, _, v, rfl, re, s1, e1, hf v P1 sb r2⟩
  · cases e <;> simp only [reduceCtorEq] at ha
    obtain ⟨a, vs, Q1, rfl, s1, r1⟩ := rd
    obtain ⟨v, P1, e1, sb, r2⟩ := r1.atI ha
    exact ⟨_, ix_list, a, vs, _, v, rfl, re, .inl s1.rd, e1, hf v P1 (fun a z => s1.sub a (sb a z)) r2⟩
  · obtain ⟨q, hq, hl⟩ := Option.bind_eq_some_iff.mp ha
    obtain ⟨a, kvs, Q1, rfl, s1, ⟨rfl, nd⟩, r1⟩ := rd
    rcases look_val (k := q) r1 with ⟨h1, _⟩ | ⟨d', v', P1, h1, h2, h3, h4⟩
    · rw [h1] at hl; cases hl
    · rw [h1] at hl
      cases hl
      exact ⟨_, ix_dict hr, a, v', rfl, .inl ⟨kvs, q, s1.rd, key_val re hq, h2.symm⟩, hf v' P1 (fun a z => s1.sub a (h3 a z)) h4⟩
theorem ix_ap (hr : Room k X.A) : IxR X (r2P X.K .idx) := by
  refine IxR.of fun x y H Q ⟨d, e, r, P2, P4, rd, re, ha, hf⟩ => ⟨_, ix_step hr, d, e, r, P2, P4, rd, re, ?_⟩
  simp only [PF.ap, Option.bind_eq_some_iff, Option.ite_none_right_eq_some, Option.some.injEq] at ha
  obtain ⟨r', h1, h2, rfl⟩ := ha
  exact ⟨h1, fun v P' _ rv => hf.old h2 rv⟩

theorem imms_ints : ∀ {ns : List Int}, imms (ns.map D.int) = true
  | [] => rfl
  | n :: ns => by simp only [List.map_cons, imms, imm, Bool.true_and]; exact imms_ints
/-! ### slices -/
theorem SlR.of {r' : V → Option Int → Option Int → Hp → VK → Prop} (h : ∀ x lo hi H Q, r' x lo hi H Q → ∃ r, SlR X r ∧ r x lo hi H Q) : SlR X r' := fun pins s σ H x v vl vu lo hi sl Q I rx hs pl pu hw => let ⟨_, a, b⟩ := h x lo hi H Q hw; a pins s σ H x v vl vu lo hi sl Q I rx hs pl pu b
abbrev rCutP (K : PySem.W.Frag) : V → Option Int → Option Int → Hp → VK → Prop := fun x lo hi H Q => ∃ d r P2, Rel K H d x P2 ∧ opCut d lo hi = some r ∧ Fin K r H Q
theorem sl_cut : SlR X (rCutP X.K) := by
  refine SlR.of fun x lo hi H Q ⟨d, r, P2, rd, ha, hf⟩ => ?_
  cases d <;> simp only [opCut, reduceCtorEq, Option.ite_none_right_eq_some, Option.some.injEq] at ha
  · rename_i ds
    obtain ⟨i1, rfl⟩ := ha
    obtain ⟨a, vs, rfl, s1, r1⟩ := rd
    refine ⟨_, sl_tupA, a, vs, rfl, s1, fun ⟨z1, z2⟩ => ?_, fun _ p hp => hf.tup hp (r1.cut lo hi i1)⟩
    have e1 : cutL ds lo hi = ds := by
      unfold cutL
      rw [r1.length, z1, z2, Nat.sub_zero, List.drop_zero, ← r1.length, List.take_length]
    rw [e1] at hf
    exact hf.old (by simpa [imm] using i1) ⟨a, vs, rfl, s1, r1⟩
  · obtain ⟨i1, rfl⟩ := ha
    obtain ⟨a, vs, Q1, rfl, s1, r1⟩ := rd
    exact ⟨_, sl_list, a, vs, rfl, .inl s1.rd, fun p hp => hf.lst hp (r1.cut lo hi i1)⟩
  · subst ha
    obtain ⟨a, rfl, s1⟩ := rd
    exact ⟨_, sl_list, a, _, rfl, s1.sq, fun p hp => hf.lst hp (rels_ints.cut lo hi imms_ints)⟩

/-! ### built-in functions -/
theorem rb1 {K : PySem.W.Frag} {H : Hp} {d : D} {vs : List V} (h : RB K H [d] vs) : ∃ v P, vs = [v] ∧ Rel K H d v P := by
  obtain ⟨v, vs', P, rfl, r, h⟩ := h
  obtain rfl : vs' = [] := h
  exact ⟨v, P, rfl, r⟩
theorem rb2 {K : PySem.W.Frag} {H : Hp} {d e : D} {vs : List V} (h : RB K H [d, e] vs) : ∃ v u P P', vs = [v, u] ∧ Rel K H d v P ∧ Rel K H e u P' := by
  obtain ⟨v, vs', P, rfl, r, h⟩ := h
  obtain ⟨u, P', rfl, r'⟩ := rb1 h
  exact ⟨v, u, P, P', rfl, r, r'⟩
theorem c_len : CallR X (.builtin "len") (rNP X.K .len) := by
  refine CallR.of fun xs H Q ⟨ds, r, rb, ha, hf⟩ => ?_
  rcases ds with _ | ⟨d, _ | ⟨e, ds⟩⟩
  · simp only [PF.ap, reduceCtorEq] at ha
  rotate_left
  · simp only [PF.ap, reduceCtorEq] at ha
  · obtain ⟨v, P, rfl, rd⟩ := rb1 rb
    cases d <;> simp only [PF.ap, opLen, reduceCtorEq, Option.some.injEq, Option.ite_none_right_eq_some] at ha
    · obtain ⟨h1, rfl⟩ := ha
      obtain rfl : v = .str _ := rd
      exact ⟨_, call_len_str, _, rfl, by rw [← lim_eq]; exact h1, hf.int⟩
    · subst ha
      obtain ⟨a, vs, rfl, s1, r1⟩ := rd
      rw [r1.length] at hf
      exact ⟨_, call_len_seq, a, vs, rfl, .inr s1, hf.int⟩
    · subst ha
      obtain ⟨a, vs, Q1, rfl, s1, r1⟩ := rd
      rw [r1.length] at hf
      exact ⟨_, call_len_seq, a, vs, rfl, .inl (.inl s1.rd), hf.int⟩
    · subst ha
      obtain ⟨a, kvs, Q1, rfl, s1, ⟨rfl, nd⟩, r1⟩ := rd
      rw [List.length_map] at hf
      refine ⟨fun xs H Q => ∃ a kvs, xs = [V.ref a] ∧ Rd H a (.dK kvs) ∧ Q (.int kvs.length) H, ?_, a, kvs, rfl, s1.rd, hf.int⟩
      intro pins s σ H xs us Q I rx h
      obtain ⟨a, kvs, rfl, h1, q⟩ := h
      rw [Vals.ref1 rx]
      exact d_len I h1 fun t s' I' => ⟨.int kvs.length, H, I', ⟨_, rfl⟩, q⟩
    · subst ha
      obtain ⟨a, rfl, s1⟩ := rd
      refine ⟨_, call_len_seq, a, _, rfl, .inl s1.sq, ?_⟩
      rw [List.length_map]
      exact hf.int
theorem c_abs : CallR X (.builtin "abs") (rNP X.K .abs) := by
  refine CallR.of fun xs H Q ⟨ds, r, rb, ha, hf⟩ => ?_
  rcases ds with _ | ⟨d, _ | ⟨e, ds⟩⟩
  · simp only [PF.ap, reduceCtorEq] at ha
  rotate_left
  · simp only [PF.ap, reduceCtorEq] at ha
  · obtain ⟨v, P, rfl, rd⟩ := rb1 rb
    cases d <;> simp only [PF.ap, reduceCtorEq, Option.some.injEq] at ha
    subst ha
    obtain rfl : v = .int _ := rd
    exact ⟨_, call_abs, _, rfl, hf.int⟩
theorem c_min2 (hc : X.calm = true) : CallR X (.builtin "min") (rNP X.K .min2) := by
  refine CallR.of fun xs H Q ⟨ds, r, rb, ha, hf⟩ => ?_
  rcases ds with _ | ⟨d, _ | ⟨e, _ | ⟨f, ds⟩⟩⟩
  · simp only [PF.ap, reduceCtorEq] at ha
  · simp only [PF.ap, reduceCtorEq] at ha
  rotate_left
  · simp only [PF.ap, reduceCtorEq] at ha
  · obtain ⟨v, u, P, P', rfl, rd, re⟩ := rb2 rb
    cases d <;> cases e <;> simp only [PF.ap, reduceCtorEq, Option.some.injEq] at ha
    subst ha
    obtain rfl : v = .int _ := rd
    obtain rfl : u = .int _ := re
    exact ⟨_, call_min2 hc, _, _, rfl, hf.int⟩
theorem c_max2 (hc : X.calm = true) : CallR X (.builtin "max") (rNP X.K .max2) := by
  refine CallR.of fun xs H Q ⟨ds, r, rb, ha, hf⟩ => ?_
  rcases ds with _ | ⟨d, _ | ⟨e, _ | ⟨f, ds⟩⟩⟩
  · simp only [PF.ap, reduceCtorEq] at ha
  · simp only [PF.ap, reduceCtorEq] at ha
  rotate_left
  · simp only [PF.ap, reduceCtorEq] at ha
  · obtain ⟨v, u, P, P', rfl, rd, re⟩ := rb2 rb
    cases d <;> cases e <;> simp only [PF.ap, reduceCtorEq, Option.some.injEq] at ha
    subst ha
    obtain rfl : v = .int _ := rd
    obtain rfl : u = .int _ := re
    exact ⟨_, call_max2 hc, _, _, rfl, hf.int⟩
theorem c_sumT (hc : X.calm = true) : CallR X (.builtin "sum") (fun vs H Q => ∃ (a : Addr) (ns : List Int), vs = [V.ref a] ∧ SqT X.K H a (ns.map V.int) ∧ Q (.int ns.sum) H) := by
  intro pins s σ H vs us Q I r h
  obtain ⟨a, ns, rfl, hs, q⟩ := h
  obtain ⟨its, rv, ht, _⟩ := I.tuple hs
  rw [Vals.ref1 r]
  have hi := rv.ints
  obtain ⟨xs, e⟩ := hi.allInts.items
  have hn : numsOf (intItems xs).toList = ns := by rw [← e]; exact hi.numsOf
  rw [nums_intItems] at hn
  rw [e] at ht
  refine PySem.W.ktm_sumG (I.ok.hd hc) (show s.heap.IsTuple a (intItems xs) from ht) fun h' tk t' hk => ⟨.int ns.sum, H, I.kept hk, ⟨t', ?_⟩, q⟩
  rw [preSum_eq, List.take_of_length_le (by simp), hn]
theorem c_sum (hc : X.calm = true) : CallR X (.builtin "sum") (rNP X.K .sum) := by
  refine CallR.of fun xs H Q ⟨ds, r, rb, ha, hf⟩ => ?_
  rcases ds with _ | ⟨d, _ | ⟨e, ds⟩⟩
  · simp only [PF.ap, reduceCtorEq] at ha
  rotate_left
  · simp only [PF.ap, reduceCtorEq] at ha
  · obtain ⟨v, P, rfl, rd⟩ := rb1 rb
    cases d <;> simp only [PF.ap, opSum, reduceCtorEq, Option.map_eq_some_iff] at ha
    · obtain ⟨ns, h1, rfl⟩ := ha
      obtain ⟨a, vs, rfl, s1, r1⟩ := rd
      rw [ints_of r1 h1] at s1
      exact ⟨_, c_sumT hc, a, ns, rfl, s1, hf.int⟩
    · obtain ⟨ns, h1, rfl⟩ := ha
      obtain ⟨a, vs, Q1, rfl, s1, r1⟩ := rd
      have e := ints_of r1 h1
      subst e
      exact ⟨_, cr_sum hc, a, ns, rfl, .inl s1.rd, hf.int⟩
/-- sorted(xs), xs a list of pairs of ints, wherever they stand -/
theorem cr_sortedPQ : CallR X (.builtin "sorted") (fun vs H Q => ∃ (a : Addr) (xs : List V) (k : V → Int × Int), vs = [V.ref a] ∧ SqL X.K H a xs ∧ (∀ x ∈ xs, ∃ t, x = V.ref t ∧ SqT X.K H t [.int (k x).1, .int (k x).2]) ∧
  ∀ ys p, SrtO.Srtd (ltP k) ys → SrtO.Stb (ltP k) ys xs → H p = none → Q (.ref p) (upd H p (.lst ys))) := by
  intro pins s σ H vs us Q I r h
  obtain ⟨a, xs, k, rfl, hs, hx, q⟩ := h
  obtain ⟨its, rv, hl, hz⟩ := I.list hs
  obtain ⟨u, rfl, ru⟩ := vals1 r
  obtain rfl : u = Value.ref a := ru
  obtain ⟨e1, e2⟩ := refs_back rv fun x m => by
    obtain ⟨t, e, _⟩ := hx x m
    exact ⟨t, e⟩
  refine SrtO.sorted_pairsO (k := fun u => k (backV u)) hl.isList (by rw [← rv.length]; exact hz) (fun v hv => ?_) fun h' d out h1 h2 kp hd hn => ?_
  · obtain ⟨t, rfl⟩ := e2 v hv
    have hm : V.ref t ∈ xs := by rw [e1]; exact List.mem_map.mpr ⟨_, hv, rfl⟩
    obtain ⟨t', e, ht⟩ := hx _ hm
    cases e
    obtain ⟨its2, r2, ⟨o, ho, hc, n, hd⟩, _⟩ := I.tuple ht
    obtain ⟨u1, u2, rfl, ri, rj⟩ := vals2 r2
    obtain ⟨t1, rfl⟩ := ri
    obtain ⟨t2, rfl⟩ := rj
    exact ⟨t, o, t1, t2, n, rfl, ho, hc, hd⟩
  · have h3 : ∀ u ∈ out, ∃ a, u = Value.ref a := fun u hu => e2 u (h2.perm.mem_iff.mp hu)
    obtain ⟨n, hn⟩ := hn
    have hb : SrtO.Stb (ltP k) (out.map backV) xs := by
      rw [e1]
      exact SrtO.Stb.map (ltP_swo k) backV h2
    refine ⟨.ref d, upd H d (.lst (out.map backV)), I.laid (t' := s.toks) kp hd ⟨?_, out, n, vals_back h3, hn⟩, rfl, q _ d (SrtO.srtd_map h1) hb (I.hok.fresh hd)⟩
    rw [hb.len]
    exact hz
theorem pairs_of {K : PySem.W.Frag} {H : Hp} : ∀ {ds : List D} {vs : List V} {P : Own} {ps : List (Int × Int)}, Rels K H ds vs P → dPairs ds = some ps → (∀ v ∈ vs, ∃ t i j, v = V.ref t ∧ SqT K H t [.int i, .int j]) ∧ ∀ k : V → Int × Int, (∀ v ∈ vs, ∀ t i j, v = V.ref t → SqT K H t [.int i, .int j] → k v = (i, j)) → ps = vs.map k
  | [], vs, _, _, r, h => by
    obtain rfl : vs = [] := r
    cases h
    exact ⟨fun v hv => (nomatch hv), fun _ _ => rfl⟩
  | d :: ds, _, _, _, r, h => by
    obtain ⟨v, vs', P1, P2, rfl, s, r1, rs⟩ := r
    unfold dPairs at h
    split at h
    · rename_i hd
      cases hd
    · rename_i i j r' hd
      obtain ⟨rfl, rfl⟩ := List.cons.inj hd
      obtain ⟨l, hl, rfl⟩ := Option.map_eq_some_iff.mp h
      obtain ⟨h1, h2⟩ := pairs_of rs hl
      obtain ⟨t, us, rfl, st, rr⟩ := r1
      obtain ⟨u, us', _, _, rfl, _, e1, rr⟩ := rr
      obtain ⟨u2, us2, _, _, rfl, _, e2, rr⟩ := rr
      obtain rfl : us2 = [] := rr
      obtain rfl : u = .int i := e1
      obtain rfl : u2 = .int j := e2
      refine ⟨fun v hv => ?_, fun k hk => ?_⟩
      · rcases List.mem_cons.mp hv with rfl | hv
        · exact ⟨t, i, j, rfl, st⟩
        · exact h1 v hv
      · rw [List.map_cons, hk (.ref t) (List.mem_cons_self ..) t i j rfl st, ← h2 k fun v hv => hk v (List.mem_cons_of_mem _ hv)]
    · cases h
theorem rels_of_all {K : PySem.W.Frag} {H : Hp} {k : V → Int × Int} : ∀ {vs : List V}, (∀ v ∈ vs, ∃ t, v = V.ref t ∧ SqT K H t [.int (k v).1, .int (k v).2]) → Rels K H ((vs.map k).map pairD) vs No
  | [], _ => rfl
  | v :: vs, h => by
    obtain ⟨t, rfl, st⟩ := h v (List.mem_cons_self ..)
    exact Rels.cons Sep.nl ⟨t, _, rfl, st, Rels.cons Sep.nl (show Rel K H (.int _) (.int _) No from rfl) (Rels.cons Sep.nl (show Rel K H (.int _) (.int _) No from rfl) (show Rels K H [] [] No from rfl))⟩ (rels_of_all fun v hv => h v (List.mem_cons_of_mem _ hv))
theorem leP_tot (p q : Int × Int) : (leP p q || leP q p) = true := by
  unfold leP
  simp only [Bool.or_eq_true, decide_eq_true_eq]
  omega
theorem leP_trans (p q r : Int × Int) (h1 : leP p q = true) (h2 : leP q r = true) : leP p r = true := by
  unfold leP at *
  simp only [decide_eq_true_eq] at *
  omega
theorem leP_anti {p q : Int × Int} (h1 : leP p q = true) (h2 : leP q p = true) : p = q := by
  unfold leP at *
  simp only [decide_eq_true_eq] at *
  exact Prod.ext (by omega) (by omega)
/-- what stands sorted is what mergeSort tells -/
theorem srt_uniq {ns ms : List Int} (hp : ms.Perm ns) (hs : ms.Pairwise (· ≤ ·)) : ms = ns.mergeSort fun a b => decide (a ≤ b) := by
  refine List.Perm.eq_of_pairwise (le := fun a b => a ≤ b) (fun a b _ _ h1 h2 => by omega) hs ?_ (hp.trans (List.mergeSort_perm ..).symm)
  refine (List.pairwise_mergeSort (le := fun a b => decide (a ≤ b)) (fun a b c h1 h2 => ?_) (fun a b => ?_) ns).imp fun h => ?_
  · simp only [decide_eq_true_eq] at h1 h2 ⊢; omega
  · simp only [Bool.or_eq_true, decide_eq_true_eq]; omega
  · simpa using h
theorem c_sorted : CallR X (.builtin "sorted") (rNP X.K .sorted) := by
  refine CallR.of fun xs H Q ⟨ds, r, rb, ha, hf⟩ => ?_
  rcases ds with _ | ⟨d, _ | ⟨e, ds⟩⟩
  · simp only [PF.ap, reduceCtorEq] at ha
  rotate_left
  · simp only [PF.ap, reduceCtorEq] at ha
  · obtain ⟨v, P, rfl, rd⟩ := rb1 rb
    cases d <;> simp only [PF.ap, opSorted, reduceCtorEq, Option.map_eq_some_iff] at ha
    · obtain ⟨ns, h1, rfl⟩ := ha
      obtain ⟨a, vs, rfl, s1, r1⟩ := rd
      obtain rfl := ints_of r1 h1
      refine ⟨_, cr_sortedT, a, ns, rfl, s1, fun ms p hp hs hn => ?_⟩
      rw [← srt_uniq hp hs] at hf
      exact hf.lst hn rels_ints
    rename_i m ds0
    split at ha
    · rename_i ns h1
      cases ha
      obtain ⟨a, vs, Q1, rfl, s1, r1⟩ := rd
      have e := ints_of r1 h1
      subst e
      refine ⟨_, cr_sortedI, a, ns, rfl, .inl s1.rd, fun ns' p hp hs hn => ?_⟩
      rw [← srt_uniq hp hs] at hf
      exact hf.lst hn rels_ints
    · simp only [Option.map_eq_some_iff] at ha
      obtain ⟨ps, h1, rfl⟩ := ha
      obtain ⟨a, vs, Q1, rfl, s1, r1⟩ := rd
      obtain ⟨g1, g2⟩ := pairs_of r1 h1
      let k : V → Int × Int := fun v => Classical.epsilon fun ij : Int × Int => ∃ t, v = V.ref t ∧ SqT X.K H t [.int ij.1, .int ij.2]
      have hk : ∀ v ∈ vs, ∃ t, v = V.ref t ∧ SqT X.K H t [.int (k v).1, .int (k v).2] := fun v hv => by
        obtain ⟨t, i, j, e, st⟩ := g1 v hv
        exact Classical.epsilon_spec (p := fun ij : Int × Int => ∃ t, v = V.ref t ∧ SqT X.K H t [.int ij.1, .int ij.2]) ⟨(i, j), t, e, st⟩
      -- the rule needs the heap's own word for the two ints
      have key : CallR X (.builtin "sorted") (fun us H2 Q2 => us = [V.ref a] ∧ H2 = H ∧ Q2 = Q) := by
        intro pins s σ H2 us ws Q2 I rw ⟨e1, e2, e3⟩
        subst e1 e2 e3
        have hps : ps = vs.map k := g2 k fun v hv t i j e st => by
          obtain ⟨t', e', st'⟩ := hk v hv
          rw [e] at e'
          cases e'
          have := I.tuple_inj st' st
          simp only [List.cons.injEq, V.int.injEq, and_true] at this
          exact Prod.ext this.1 this.2
        refine cr_sortedPQ pins s σ H2 _ ws Q2 I rw ⟨a, vs, k, rfl, .inl s1.rd, hk, fun ys p hs hb hn => ?_⟩
        have e : ys.map k = ps.mergeSort leP := by
          refine List.Perm.eq_of_pairwise (le := fun a b => leP a b = true) (fun a b _ _ h1 h2 => leP_anti h1 h2) ?_ (List.pairwise_mergeSort leP_trans leP_tot ps) ?_
          · refine List.pairwise_map.mpr (hs.imp fun {x y} h => ?_)
            have := SrtO.lexB_no.mp h
            unfold leP
            simp only [decide_eq_true_eq]
            omega
          · rw [hps]
            exact (hb.perm.map k).trans (List.mergeSort_perm ..).symm
        rw [← e] at hf
        exact hf.lst hn (rels_of_all fun v hv => hk v (hb.perm.mem_iff.mp hv))
      exact ⟨_, key, rfl, rfl, rfl⟩
theorem c_tuple : CallR X (.type "tuple") (rNP X.K .tuple) := by
  refine CallR.of fun xs H Q ⟨ds, r, rb, ha, hf⟩ => ?_
  rcases ds with _ | ⟨d, _ | ⟨e, ds⟩⟩
  · simp only [PF.ap, reduceCtorEq] at ha
  rotate_left
  · simp only [PF.ap, reduceCtorEq] at ha
  · obtain ⟨v, P, rfl, rd⟩ := rb1 rb
    cases d <;> simp only [PF.ap, reduceCtorEq, Option.ite_none_right_eq_some, Option.some.injEq] at ha
    · obtain ⟨i1, rfl⟩ := ha
      obtain ⟨a, vs, rfl, s1, r1⟩ := rd
      exact ⟨_, call_tuple_of, a, vs, rfl, .inr ⟨s1, hf.old (by simpa [imm] using i1) ⟨a, vs, rfl, s1, r1⟩⟩⟩
    · obtain ⟨i1, rfl⟩ := ha
      obtain ⟨a, vs, Q1, rfl, s1, r1⟩ := rd
      exact ⟨_, call_tuple_of, a, vs, rfl, .inl ⟨.inl s1.rd, fun l hl => hf.tup hl (Rels.imm i1 r1)⟩⟩
theorem c_list : CallR X (.type "list") (rNP X.K .list) := by
  refine CallR.of fun xs H Q ⟨ds, r, rb, ha, hf⟩ => ?_
  rcases ds with _ | ⟨d, _ | ⟨e, ds⟩⟩
  · simp only [PF.ap, reduceCtorEq] at ha
  rotate_left
  · simp only [PF.ap, reduceCtorEq] at ha
  · obtain ⟨v, P, rfl, rd⟩ := rb1 rb
    cases d <;> simp only [PF.ap, reduceCtorEq, Option.ite_none_right_eq_some, Option.some.injEq] at ha
    · obtain ⟨i1, rfl⟩ := ha
      obtain ⟨a, vs, rfl, s1, r1⟩ := rd
      exact ⟨_, call_list_of, a, vs, rfl, .inr s1, fun l hl => hf.lst hl (Rels.imm i1 r1)⟩
    · obtain ⟨i1, rfl⟩ := ha
      obtain ⟨a, vs, Q1, rfl, s1, r1⟩ := rd
      exact ⟨_, call_list_of, a, vs, rfl, .inl (.inl s1.rd), fun l hl => hf.lst hl (Rels.imm i1 r1)⟩
theorem c_int : CallR X (.type "int") (rNP X.K .int) := by
  refine CallR.of fun xs H Q ⟨ds, r, rb, ha, hf⟩ => ?_
  rcases ds with _ | ⟨d, _ | ⟨e, ds⟩⟩
  · simp only [PF.ap, reduceCtorEq] at ha
  rotate_left
  · simp only [PF.ap, reduceCtorEq] at ha
  · obtain ⟨v, P, rfl, rd⟩ := rb1 rb
    cases d <;> simp only [PF.ap, reduceCtorEq, Option.some.injEq] at ha
    · subst ha
      obtain rfl : v = .bl _ := rd
      exact ⟨_, call_int1, .inr ⟨_, rfl, hf.int⟩⟩
    · subst ha
      obtain rfl : v = .int _ := rd
      exact ⟨_, call_int1, .inl ⟨_, rfl, hf.int⟩⟩
theorem c_str : CallR X (.type "str") (rNP X.K .str) := by
  refine CallR.of fun xs H Q ⟨ds, r, rb, ha, hf⟩ => ?_
  rcases ds with _ | ⟨d, _ | ⟨e, ds⟩⟩
  · simp only [PF.ap, reduceCtorEq] at ha
  rotate_left
  · simp only [PF.ap, reduceCtorEq] at ha
  · obtain ⟨v, P, rfl, rd⟩ := rb1 rb
    cases d <;> simp only [PF.ap, reduceCtorEq, Option.some.injEq, Option.ite_none_right_eq_some] at ha
    obtain ⟨h1, rfl⟩ := ha
    obtain rfl : v = .int _ := rd
    exact ⟨_, call_str_int, _, rfl, h1, hf.str⟩
end
section
variable {X : Cx} {rx : XR} {W : WX} {C : Ctx} {a b : E} {ea eb : Expr} {pos : Pos} {p : PF} {k : Nat}
theorem s_idx (hr : Room k X.A) (ha : PE X ea (tE X.K rx W C a)) (hb : PE X eb (tE X.K rx W C b)) (hs : PlainIx eb) : PE X (.Subscript ea eb pos) (tE X.K rx W C (.ap .idx (.cons a (.cons b .nil)))) :=
  PE.of fun σ H Q h => ⟨_, pe_ix (ix_ap hr) ha hb hs, ap_two h⟩
/-- is None -/
theorem s_isN {j} {pos'} (ha : PE X ea (tE X.K rx W C a)) : PE X (.Compare ea [.Is] [.Constant .none j pos'] pos) (tE X.K rx W C (.ap .isN (.cons a .nil))) := by
  refine PE.of fun σ H Q h => ⟨_, pe_cmp (pc_isN ha) (by rfl), tE_mono (ap_one h) fun x H1 ⟨d, r, P2, rd, hp, hf⟩ => ?_⟩
  simp only [PF.ap, Option.some.injEq] at hp
  subst hp
  cases d
  case non => obtain rfl : x = .non := rd; exact hf.bl
  case bl => obtain rfl : x = .bl _ := rd; exact hf.bl
  case int => obtain rfl : x = .int _ := rd; exact hf.bl
  case str => obtain rfl : x = .str _ := rd; exact hf.bl
  case tup => obtain ⟨a, vs, rfl, _⟩ := rd; exact hf.bl
  case lst => obtain ⟨a, vs, _, rfl, _⟩ := rd; exact hf.bl
  case dic => obtain ⟨a, vs, _, rfl, _⟩ := rd; exact hf.bl
  case dit => obtain ⟨a, vs, _, rfl, _⟩ := rd; exact hf.bl
  case set => obtain ⟨a, vs, _, rfl, _⟩ := rd; exact hf.bl
  case scr => obtain ⟨a, rfl, _⟩ := rd; exact hf.bl
theorem s_notN {j} {pos'} (ha : PE X ea (tE X.K rx W C a)) : PE X (.Compare ea [.IsNot] [.Constant .none j pos'] pos) (tE X.K rx W C (.ap .notN (.cons a .nil))) := by
  refine PE.of fun σ H Q h => ⟨_, pe_cmp (pc_notN ha) (by rfl), tE_mono (ap_one h) fun x H1 ⟨d, r, P2, rd, hp, hf⟩ => ?_⟩
  simp only [PF.ap, Option.some.injEq] at hp
  subst hp
  cases d
  case non => obtain rfl : x = .non := rd; exact hf.bl
  case bl => obtain rfl : x = .bl _ := rd; exact hf.bl
  case int => obtain rfl : x = .int _ := rd; exact hf.bl
  case str => obtain rfl : x = .str _ := rd; exact hf.bl
  case tup => obtain ⟨a, vs, rfl, _⟩ := rd; exact hf.bl
  case lst => obtain ⟨a, vs, _, rfl, _⟩ := rd; exact hf.bl
  case dic => obtain ⟨a, vs, _, rfl, _⟩ := rd; exact hf.bl
  case dit => obtain ⟨a, vs, _, rfl, _⟩ := rd; exact hf.bl
  case set => obtain ⟨a, vs, _, rfl, _⟩ := rd; exact hf.bl
  case scr => obtain ⟨a, rfl, _⟩ := rd; exact hf.bl
end
end Z

namespace Z
open PySem PySem.Spec L2
variable [TabList]

section
variable {K : PySem.W.Frag} {rx : XR} {W : WX} {C : Ctx} {σ : L2.St} {H H1 : Hp} {P P1 : Own}
theorem eO_l {a b : Bool} : ∀ x, eO a P x → eO (a && b) P x := fun x z => ⟨by rw [z.1]; rfl, z.2⟩
theorem eO_r {a b : Bool} : ∀ x, eO b P x → eO (a && b) P x := fun x z => ⟨by rw [z.1, Bool.and_false], z.2⟩
/-- one step on -/
theorem PostE.step {pa pb pth pth' : Bool} {r : Res D} {Q : VK} (h : PostE K rx W (pa && pb) pth P σ H r Q) (hn : New P H P1) (ev : Ev (eO pa P) H H1) (hp : pth' = true → pth = true) : PostE K rx W pb pth' P1 σ H1 r Q := by
  cases r with
  | bad => exact h.elim
  | exc x e1 => exact exc_on h hn ev.eo
  | ok d e1 =>
    intro v H' P2 P3 r1 rd hd hn2 ev2
    refine h v H' P2 P3 r1 rd (fun z => ?_) (hn.trans ev.eo hn2) (ev_and ev ev2 hn)
    have z' : pth' = false := by cases pth' with
      | false => rfl
      | true => rw [hp rfl] at z; cases z
    exact ⟨(hd z').1, new_and hn ev (hd z').2⟩
theorem PostT.step {pa pb : Bool} {r : Res Bool} {Q : Bool → Hp → Prop} (h : PostT K rx W (pa && pb) P σ H r Q) (hn : New P H P1) (ev : Ev (eO pa P) H H1) : PostT K rx W pb P1 σ H1 r Q := by
  cases r with
  | bad => exact h.elim
  | exc x e1 => exact exc_on h hn ev.eo
  | ok d e1 =>
    intro H' P2 r1 hn2 ev2
    exact h H' P2 r1 (hn.trans ev.eo hn2) (ev_and ev ev2 hn)
theorem tru_of {d : D} {v : V} {b : Bool} (r : Rel K H d v P) (h : truth d = some b) : TruV K v H b := by
  cases d <;> simp only [truth, Option.some.injEq, Option.ite_none_right_eq_some, reduceCtorEq] at h
  · obtain rfl : v = .non := r; exact h.symm
  · obtain rfl : v = .bl _ := r; exact h.symm
  · obtain rfl : v = .int _ := r; exact h.symm
  · obtain rfl : v = .str _ := r
    obtain ⟨h1, h2⟩ := h
    refine ⟨by rw [← lim_eq]; exact h1, ?_⟩
    rw [← h2]
    rw [Bool.eq_iff_iff]
    simp
  · obtain ⟨a, vs, rfl, s, rs⟩ := r
    refine .inr (.inl ⟨vs, s, ?_⟩)
    rw [← h]
    have := rs.length
    rename_i ds
    cases ds <;> cases vs <;> simp_all
  · obtain ⟨a, vs, Q, rfl, s, rs⟩ := r
    refine .inl ⟨vs, .inl s.rd, ?_⟩
    rw [← h]
    have := rs.length
    rename_i ds
    cases ds <;> cases vs <;> simp_all
  · rename_i m ks ds
    cases m <;> simp only [reduceCtorEq, Option.some.injEq] at h
    obtain ⟨a, kvs, Q, rfl, s, ⟨rfl, _⟩, rs⟩ := r
    refine .inr (.inr ⟨kvs, s.1, ?_⟩)
    rw [← h]
    cases kvs <;> simp
theorem tT_to {e : E} {Q : Bool → Hp → Prop} (h : tT K rx W C e σ H Q) : tE K rx W C e σ H fun x H' => ∃ k, TruV K x H' k ∧ Q k H' := by
  obtain ⟨env, P, hE, h⟩ := h
  refine ⟨env, P, hE, ?_⟩
  simp only [evT] at h
  cases q : evE C e env with
  | bad => rw [q] at h; exact h.elim
  | exc x e1 => rw [q] at h; exact h
  | ok d e1 =>
    rw [q] at h
    simp only [Res.bind] at h
    intro v H' P1 P2 r1 rd hd hn ev
    cases q2 : truth d with
    | none => rw [q2] at h; exact h.elim
    | some b =>
      rw [q2] at h
      exact ⟨b, tru_of rd q2, h H' P1 r1 hn ev⟩
theorem tT_and {a b : E} {Q : Bool → Hp → Prop} (h : tT K rx W C (.and a b) σ H Q) : tT K rx W C a σ H fun c H1 => if c = true then tT K rx W C b σ H1 Q else Q false H1 := by
  obtain ⟨env, P, hE, h⟩ := h
  refine ⟨env, P, hE, ?_⟩
  simp only [evT, evE] at h ⊢
  cases q : evE C a env with
  | bad => rw [q] at h; exact h.elim
  | exc x e1 => rw [q] at h; exact h
  | ok d e1 =>
    rw [q] at h
    simp only [Res.bind] at h ⊢
    cases q2 : truth d with
    | none => rw [q2] at h; exact h.elim
    | some c =>
      rw [q2] at h
      intro H' P1 r1 hn ev
      cases c with
      | true => exact ⟨e1, P1, r1, PostT.step h hn ev⟩
      | false =>
        simp only [q2] at h
        exact h H' P1 r1 hn (ev.mono eO_l)
theorem tT_or {a b : E} {Q : Bool → Hp → Prop} (h : tT K rx W C (.or a b) σ H Q) : tT K rx W C a σ H fun c H1 => if c = true then Q true H1 else tT K rx W C b σ H1 Q := by
  obtain ⟨env, P, hE, h⟩ := h
  refine ⟨env, P, hE, ?_⟩
  simp only [evT, evE] at h ⊢
  cases q : evE C a env with
  | bad => rw [q] at h; exact h.elim
  | exc x e1 => rw [q] at h; exact h
  | ok d e1 =>
    rw [q] at h
    simp only [Res.bind] at h ⊢
    cases q2 : truth d with
    | none => rw [q2] at h; exact h.elim
    | some c =>
      rw [q2] at h
      intro H' P1 r1 hn ev
      cases c with
      | false => exact ⟨e1, P1, r1, PostT.step h hn ev⟩
      | true =>
        simp only [q2] at h
        exact h H' P1 r1 hn (ev.mono eO_l)
theorem tT_not {a : E} {Q : Bool → Hp → Prop} (h : tT K rx W C (.not a) σ H Q) : tT K rx W C a σ H fun c H1 => Q (!c) H1 := by
  obtain ⟨env, P, hE, h⟩ := h
  refine ⟨env, P, hE, ?_⟩
  simp only [evT, evE] at h ⊢
  cases q : evE C a env with
  | bad => rw [q] at h; exact h.elim
  | exc x e1 => rw [q] at h; exact h
  | ok d e1 =>
    rw [q] at h
    simp only [Res.bind] at h ⊢
    cases q2 : truth d with
    | none => rw [q2] at h; exact h.elim
    | some c =>
      rw [q2] at h
      exact h
theorem tE_and {a b : E} {Q : VK} (h : tE K rx W C (.and a b) σ H Q) : tE K rx W C a σ H fun x H1 => ∃ k, TruV K x H1 k ∧ if k = true then tE K rx W C b σ H1 Q else Q x H1 := by
  obtain ⟨env, P, hE, h⟩ := h
  refine ⟨env, P, hE, ?_⟩
  simp only [evE] at h
  cases q : evE C a env with
  | bad => rw [q] at h; exact h.elim
  | exc x e1 => rw [q] at h; exact h
  | ok d e1 =>
    rw [q] at h
    simp only [Res.bind] at h
    intro v H' P1 P2 r1 rd hd hn ev
    cases q2 : truth d with
    | none => rw [q2] at h; exact h.elim
    | some c =>
      rw [q2] at h
      refine ⟨c, tru_of rd q2, ?_⟩
      cases c with
      | true => exact ⟨e1, P1, r1, PostE.step h hn ev (fun z => by simp [E.pth, z])⟩
      | false => exact h v H' P1 P2 r1 rd (fun z => let y := hd (by simp [E.pth] at z; exact z.1); ⟨y.1, fun x w => (y.2 x w).imp (eO_l x) id⟩) hn (ev.mono eO_l)
theorem tE_or {a b : E} {Q : VK} (h : tE K rx W C (.or a b) σ H Q) : tE K rx W C a σ H fun x H1 => ∃ k, TruV K x H1 k ∧ if k = true then Q x H1 else tE K rx W C b σ H1 Q := by
  obtain ⟨env, P, hE, h⟩ := h
  refine ⟨env, P, hE, ?_⟩
  simp only [evE] at h
  cases q : evE C a env with
  | bad => rw [q] at h; exact h.elim
  | exc x e1 => rw [q] at h; exact h
  | ok d e1 =>
    rw [q] at h
    simp only [Res.bind] at h
    intro v H' P1 P2 r1 rd hd hn ev
    cases q2 : truth d with
    | none => rw [q2] at h; exact h.elim
    | some c =>
      rw [q2] at h
      refine ⟨c, tru_of rd q2, ?_⟩
      cases c with
      | false => exact ⟨e1, P1, r1, PostE.step h hn ev (fun z => by simp [E.pth, z])⟩
      | true => exact h v H' P1 P2 r1 rd (fun z => let y := hd (by simp [E.pth] at z; exact z.1); ⟨y.1, fun x w => (y.2 x w).imp (eO_l x) id⟩) hn (ev.mono eO_l)
theorem tE_not {a : E} {Q : VK} (h : tE K rx W C (.not a) σ H Q) : tE K rx W C a σ H fun x H1 => ∃ k, TruV K x H1 k ∧ Q (.bl (!k)) H1 := by
  obtain ⟨env, P, hE, h⟩ := h
  refine ⟨env, P, hE, ?_⟩
  simp only [evE] at h
  cases q : evE C a env with
  | bad => rw [q] at h; exact h.elim
  | exc x e1 => rw [q] at h; exact h
  | ok d e1 =>
    rw [q] at h
    simp only [Res.bind] at h
    intro v H' P1 P2 r1 rd hd hn ev
    cases q2 : truth d with
    | none => rw [q2] at h; exact h.elim
    | some c =>
      rw [q2] at h
      exact ⟨c, tru_of rd q2, h _ H' P1 No r1 rfl (fun _ => ⟨fun _ _ z => z, fun _ z => z.elim⟩) hn ev⟩
theorem tE_ife {c a b : E} {Q : VK} (h : tE K rx W C (.ife c a b) σ H Q) : tT K rx W C c σ H fun k H1 => if k = true then tE K rx W C a σ H1 Q else tE K rx W C b σ H1 Q := by
  obtain ⟨env, P, hE, h⟩ := h
  refine ⟨env, P, hE, ?_⟩
  simp only [evE, evT] at h ⊢
  cases q : evE C c env with
  | bad => rw [q] at h; exact h.elim
  | exc x e1 => rw [q] at h; exact h
  | ok d e1 =>
    rw [q] at h
    simp only [Res.bind] at h ⊢
    cases q2 : truth d with
    | none => rw [q2] at h; exact h.elim
    | some k =>
      rw [q2] at h
      intro H' P1 r1 hn ev
      cases k with
      | true =>
        refine ⟨e1, P1, r1, PostE.step (pa := c.pu) (pb := a.pu) (pth := (E.ife c a b).pth) ?_ hn ev (fun z => by show (a.pth || b.pth) = true; rw [z]; rfl)⟩
        cases q3 : evE C a e1 with
        | bad => simp only [q3] at h; exact h.elim
        | exc x e2 => simp only [q3] at h; exact h
        | ok d e2 =>
          simp only [q3] at h
          exact fun v H2 P2 P3 z1 z2 z3 z4 z5 => h v H2 P2 P3 z1 z2 (fun u => ⟨(z3 u).1, fun x w => ((z3 u).2 x w).imp (fun y => eO_l (b := b.pu) x y) id⟩) z4 (z5.mono fun x y => eO_l (b := b.pu) x y)
      | false =>
        refine ⟨e1, P1, r1, PostE.step (pa := c.pu) (pb := b.pu) (pth := (E.ife c a b).pth) ?_ hn ev (fun z => by show (a.pth || b.pth) = true; rw [z, Bool.or_true])⟩
        cases q3 : evE C b e1 with
        | bad => simp only [q3] at h; exact h.elim
        | exc x e2 => simp only [q3] at h; exact h
        | ok d e2 =>
          simp only [q3] at h
          have im : (c.pu && b.pu) = false → (E.ife c a b).pu = false := fun this => by
            simp only [E.pu, Bool.and_eq_false_iff] at this ⊢
            rcases this with z | z
            · exact .inl (.inl z)
            · exact .inr z
          exact fun v H2 P2 P3 z1 z2 z3 z4 z5 => h v H2 P2 P3 z1 z2 (fun u => ⟨(z3 u).1, fun x w => ((z3 u).2 x w).imp (fun y => ⟨im y.1, y.2⟩) id⟩) z4 (z5.mono fun x y => ⟨im y.1, y.2⟩)
end

section
variable {X : Cx} {rx : XR} {W : WX} {C : Ctx} {a b c : E} {ea eb ec : Expr} {pos : Pos} {p : PF} {k : Nat} {rest : List Expr}
theorem t_plain (ha : PE X ea (tE X.K rx W C a)) (he : ∀ whole, isTrue ea X.env whole = (do let v ← whole; standAt ea.pos; holding [v] (truthy v))) : PT X ea (tT X.K rx W C a) :=
  PT.of fun σ H Q h => ⟨_, pt_truth ha he, tT_to h⟩
theorem w_and (ha : PT X ea (tT X.K rx W C a)) (hb : PW X (.BoolOp .And (eb :: rest) pos) (tT X.K rx W C b)) : PW X (.BoolOp .And (ea :: eb :: rest) pos) (tT X.K rx W C (.and a b)) :=
  PW.of fun σ H Q h => ⟨_, pw_and ha hb, tT_and h⟩
theorem w_or (ha : PT X ea (tT X.K rx W C a)) (hb : PW X (.BoolOp .Or (eb :: rest) pos) (tT X.K rx W C b)) : PW X (.BoolOp .Or (ea :: eb :: rest) pos) (tT X.K rx W C (.or a b)) :=
  PW.of fun σ H Q h => ⟨_, pw_or ha hb, tT_or h⟩
theorem t_not (ha : PT X ea (tT X.K rx W C a)) : PT X (.UnaryOp .Not ea pos) (tT X.K rx W C (.not a)) :=
  PT.of fun σ H Q h => ⟨_, pt_not ha, tT_not h⟩
theorem s_and (ha : PE X ea (tE X.K rx W C a)) (hb : PE X (.BoolOp .And (eb :: rest) pos) (tE X.K rx W C b)) : PE X (.BoolOp .And (ea :: eb :: rest) pos) (tE X.K rx W C (.and a b)) :=
  PE.of fun σ H Q h => ⟨_, pe_andT ha hb, tE_and h⟩
theorem s_or (ha : PE X ea (tE X.K rx W C a)) (hb : PE X (.BoolOp .Or (eb :: rest) pos) (tE X.K rx W C b)) : PE X (.BoolOp .Or (ea :: eb :: rest) pos) (tE X.K rx W C (.or a b)) :=
  PE.of fun σ H Q h => ⟨_, pe_orT ha hb, tE_or h⟩
theorem s_not (ha : PE X ea (tE X.K rx W C a)) : PE X (.UnaryOp .Not ea pos) (tE X.K rx W C (.not a)) :=
  PE.of fun σ H Q h => ⟨_, pe_notT ha, tE_not h⟩
theorem s_ife (hc : PT X ec (tT X.K rx W C c)) (ha : PE X ea (tE X.K rx W C a)) (hb : PE X eb (tE X.K rx W C b)) : PE X (.IfExp ec ea eb pos) (tE X.K rx W C (.ife c a b)) :=
  PE.of fun σ H Q h => ⟨_, pe_ifExp hc ha hb, tE_ife h⟩
end
end Z

namespace Z
open PySem PySem.Spec L2
variable [TabList]

/-- a comparison: its value is a bool -/
def PF.isC : PF → Bool
  | .eq | .ne | .lt | .le | .gt | .ge | .isN | .notN | .inn | .nin => true
  | _ => false
theorem isC_bl {p : PF} {ds : List D} {r : D} (hp : p.isC = true) (h : p.ap ds = some r) : ∃ b, r = .bl b := by
  cases p <;> simp only [PF.isC, Bool.false_eq_true] at hp <;> (rcases ds with _ | ⟨d, _ | ⟨e, _ | ⟨f, ds⟩⟩⟩) <;> simp only [PF.ap, reduceCtorEq, Option.map_eq_some_iff, Option.some.injEq] at h <;>
    first
    | exact ⟨_, h.symm⟩
    | (obtain ⟨b, _, h⟩ := h; exact ⟨_, h.symm⟩)

section
variable {K : PySem.W.Frag} {rx : XR} {W : WX} {C : Ctx} {σ : L2.St} {H H1 : Hp} {P P1 : Own}
theorem fin_bl {b : Bool} {H : Hp} {Q : Bool → Hp → Prop} (h : Fin K (.bl b) H fun x H' => ∃ k, TruV K x H' k ∧ Q k H') : Fin K (.bl b) H fun x H' => ∃ k, x = .bl k ∧ Q k H' := fun v H' P' r n e => by
  have ev : v = .bl b := r
  subst ev
  obtain ⟨k, hk, q⟩ := h (.bl b) H' P' r n e
  obtain rfl : k = b := hk
  exact ⟨k, rfl, q⟩
theorem tT_cmp {p : PF} {a b : E} {Q : Bool → Hp → Prop} (hp : p.isC = true) (h : tT K rx W C (.ap p (.cons a (.cons b .nil))) σ H Q) :
    tE K rx W C a σ H fun x H1 => tE K rx W C b σ H1 fun y H2 => r2P K p x y H2 fun z H3 => ∃ k, z = .bl k ∧ Q k H3 := by
  refine tE_mono (ap_two (tT_to h)) fun x H1 h1 => tE_mono h1 fun y H2 ⟨d, e, r, P2, P4, rd, re, ha, hf⟩ => ⟨d, e, r, P2, P4, rd, re, ha, ?_⟩
  obtain ⟨b, rfl⟩ := isC_bl hp ha
  exact fin_bl hf
theorem tT_cmp1 {p : PF} {a : E} {Q : Bool → Hp → Prop} (hp : p.isC = true) (h : tT K rx W C (.ap p (.cons a .nil)) σ H Q) :
    tE K rx W C a σ H fun x H1 => r1P K p x H1 fun z H3 => ∃ k, z = .bl k ∧ Q k H3 := by
  refine tE_mono (ap_one (tT_to h)) fun x H1 ⟨d, r, P2, rd, ha, hf⟩ => ⟨d, r, P2, rd, ha, ?_⟩
  obtain ⟨b, rfl⟩ := isC_bl hp ha
  exact fin_bl hf
theorem fin_mono {r : D} {H : Hp} {Q Q' : VK} (h : Fin K r H Q) (hq : ∀ v H, Q v H → Q' v H) : Fin K r H Q' := fun v H' P' a b c => hq _ _ (h v H' P' a b c)
/-- a < b < c -/
theorem tE_chn {p q : PF} {a b c : E} {Q : VK} (hp : p.isC = true) (hq : q.isC = true) (h : tE K rx W C (.chn p q a b c) σ H Q) :
    tE K rx W C a σ H fun x H1 => tE K rx W C b σ H1 fun y H2 => r2P K p x y H2 fun z H3 => ∃ k, z = .bl k ∧ (if k = true then tE K rx W C c σ H3 fun w H4 => r2P K q y w H4 Q else Q (.bl false) H3) := by
  obtain ⟨env, P, hE, h⟩ := h
  refine ⟨env, P, hE, ?_⟩
  simp only [evE] at h
  cases q1 : evE C a env with
  | bad => rw [q1] at h; exact h.elim
  | exc x e1 => rw [q1] at h; exact h
  | ok d e1 =>
    rw [q1] at h
    simp only [Res.bind] at h
    intro v H1 P1 P2 r1 rd hd hn ev
    split at h
    · exact h.elim
    rename_i hc
    have hc : (a.pth && !b.pu && !imm d) = false := by simpa using hc
    refine ⟨e1, P1, r1, ?_⟩
    cases q2 : evE C b e1 with
    | bad => rw [q2] at h; exact h.elim
    | exc x e2 => rw [q2] at h; exact exc_on h hn ev.eo
    | ok e e2 =>
      rw [q2] at h
      simp only at h
      intro u H2 P3 P4 r3 re hd3 hn3 ev3
      obtain ⟨P5, rd'⟩ := held hc rd (fun z => (hd z).1) ev3
      cases q3 : p.ap [d, e] with
      | none => rw [q3] at h; exact h.elim
      | some z =>
        obtain ⟨k, rfl⟩ := isC_bl hp q3
        rw [q3] at h
        refine ⟨d, e, _, P5, P4, rd', re, q3, fun v3 H3 P6 r6 hn6 ev6 => ?_⟩
        obtain rfl : v3 = .bl k := r6
        have nn : New P H P3 := hn.trans ev.eo hn3
        have evv := ev_and ev ev3 hn
        cases k with
        | false =>
          refine ⟨false, rfl, ?_⟩
          rw [if_neg Bool.false_ne_true]
          refine h _ H3 P3 No (r3.ev ev6) rfl (fun _ => ⟨fun _ _ z => z, fun _ z => z.elim⟩) nn ?_
          refine (evv.mono fun x y => ⟨?_, y.2⟩).trans ev6 fun _ z => z.elim
          have := y.1
          simp only [E.pu, Bool.and_eq_false_iff] at this ⊢
          exact .inl this
        | true =>
          refine ⟨true, rfl, ?_⟩
          rw [if_pos rfl]
          simp only at h
          split at h
          · exact h.elim
          rename_i hc2
          have hc2 : (b.pth && !c.pu && !imm e) = false := by simpa using hc2
          refine ⟨e2, P3, r3.ev ev6, ?_⟩
          have ev7 : Ev (eO (a.pu && b.pu) P) H H3 := evv.trans ev6 fun _ z => z.elim
          cases q4 : evE C c e2 with
          | bad => rw [q4] at h; exact h.elim
          | exc x e3 => rw [q4] at h; exact exc_on h nn ev7.eo
          | ok f e3 =>
            rw [q4] at h
            simp only at h
            intro w H4 P7 P8 r7 rf hd7 hn7 ev8
            obtain ⟨P9, re'⟩ := held hc2 (re.ev ev6) (fun z => (hd3 z).1) ev8
            cases q5 : q.ap [e, f] with
            | none => rw [q5] at h; exact h.elim
            | some z =>
              rw [q5] at h
              exact ⟨e, f, z, P9, P8, re', rf, q5, fin_of (pu := (E.chn p q a b c).pu) r7 (nn.trans ev7.eo hn7) (ev_and ev7 ev8 nn) h⟩
theorem tT_chn {p q : PF} {a b c : E} {Q : Bool → Hp → Prop} (hp : p.isC = true) (hq : q.isC = true) (h : tT K rx W C (.chn p q a b c) σ H Q) :
    tE K rx W C a σ H fun x H1 => tE K rx W C b σ H1 fun y H2 => r2P K p x y H2 fun z H3 => ∃ k, z = .bl k ∧ (if k = true then tE K rx W C c σ H3 fun w H4 => r2P K q y w H4 (fun z H5 => ∃ k, z = .bl k ∧ Q k H5) else (∃ k, V.bl false = .bl k ∧ Q k H3)) := by
  refine tE_mono (tE_chn hp hq (tT_to h)) fun x H1 h1 => tE_mono h1 fun y H2 ⟨d, e, r, P2, P4, rd, re, ha, hf⟩ => ⟨d, e, r, P2, P4, rd, re, ha, fin_mono hf fun z H3 ⟨k, e1, h3⟩ => ⟨k, e1, ?_⟩⟩
  cases k with
  | false =>
    rw [if_neg Bool.false_ne_true] at h3 ⊢
    obtain ⟨k, hk, q⟩ := h3
    exact ⟨k, by rw [show k = false from hk], q⟩
  | true =>
    rw [if_pos rfl] at h3 ⊢
    refine tE_mono h3 fun w H4 ⟨d, e, r, P2, P4, rd, re, ha, hf⟩ => ⟨d, e, r, P2, P4, rd, re, ha, ?_⟩
    obtain ⟨b, rfl⟩ := isC_bl hq ha
    exact fin_bl hf

/-! ### arguments that are kept; displays -/
theorem o_nil {R : List V → Hp → Prop} (h : tO K rx W C .nil σ H R) : R [] H := by
  obtain ⟨env, P, hE, h⟩ := h
  exact h [] H P No hE rfl (fun _ _ z => z) (fun _ z => z.elim) New.refl Ev.refl
theorem o_cons {e : E} {r : Es} {R : List V → Hp → Prop} (h : tO K rx W C (.cons e r) σ H R) : tE K rx W C e σ H fun v H1 => tO K rx W C r σ H1 fun vs H2 => R (v :: vs) H2 := by
  obtain ⟨env, P, hE, h⟩ := h
  refine ⟨env, P, hE, ?_⟩
  simp only [evOs] at h
  cases q : evE C e env with
  | bad => rw [q] at h; exact h.elim
  | exc x e1 => rw [q] at h; exact h
  | ok d e1 =>
    rw [q] at h
    simp only [Res.bind] at h
    intro v H1 P1 P2 r1 rd hd hn ev
    split at h
    · exact h.elim
    rename_i hc
    -- what is owned in the value
    obtain ⟨P5, rd5, dj5, n5⟩ : ∃ P5, Rel K H1 d v P5 ∧ (∀ a, P1 a → ¬ P5 a) ∧ New (eO e.pu P) H P5 := by
      cases hp : e.pth with
      | false => exact ⟨P2, rd, (hd hp).1, (hd hp).2⟩
      | true =>
        have hi : imm d = true := by simpa [hp] using hc
        exact ⟨No, Rel.imm hi rd, fun _ _ z => z, fun _ z => z.elim⟩
    refine ⟨e1, P1, r1, ?_⟩
    cases q2 : evOs C r e1 with
    | bad => rw [q2] at h; exact h.elim
    | exc x e2 =>
      rw [q2] at h
      exact exc_on h hn ev.eo
    | ok ds e2 =>
      rw [q2] at h
      intro vs H2 P3 P4 r3 rs dj4 n4 hn3 ev3
      have rd6 := (rd5.tight).frame ev3 fun a z y => dj5 a y.2 z.1
      -- the new things stand apart from what was held
      have ap : ∀ a, Tt H1 P5 a → ¬ P4 a := fun a z y => (n4 a y).elim (fun y => dj5 a y.2 z.1) z.2
      have ap3 : ∀ a, P3 a → ¬ Tt H1 P5 a := fun a z y => (hn3 a z).elim (fun z => dj5 a z y.1) y.2
      refine h (v :: vs) H2 P3 (Uni (Tt H1 P5) P4) r3 (Rels.cons (Sep.uni ap) rd6 rs) (fun a z y => y.elim (ap3 a z) (dj4 a z)) (fun a z => z.elim (fun z => (n5 a z.1).imp (eO_l a) id) (new_and hn ev n4 a)) (hn.trans ev.eo hn3) (ev_and ev ev3 hn)
theorem tE_tup {es : Es} {Q : VK} (h : tE K rx W C (.tup es) σ H Q) : tO K rx W C es σ H fun xs H1 => xs.length ≤ sizeLine ∧ ∀ p, H1 p = none → Q (.ref p) (upd H1 p (.tup xs)) := by
  obtain ⟨env, P, hE, h⟩ := h
  refine ⟨env, P, hE, ?_⟩
  simp only [evE] at h
  cases q : evOs C es env with
  | bad => rw [q] at h; exact h.elim
  | exc x e1 => rw [q] at h; exact h
  | ok ds e1 =>
    rw [q] at h
    simp only [Res.bind] at h
    intro vs H1 P1 P2 r1 rs dj n2 hn ev
    split at h
    · rename_i hl
      have e1 := rs.length
      refine ⟨by rw [← lim_eq]; omega, fun p hp => h _ _ P1 P2 ?_ ?_ (fun _ => ⟨dj, n2⟩) hn (ev.trans (Ev.laid (O := No) hp) fun _ z => z.elim)⟩
      · exact r1.ev (Ev.laid hp)
      · exact ⟨p, vs, rfl, .inl (.inl upd_same), rs.frame (Ev.laid (O := No) hp) fun _ _ z => z⟩
    · exact h.elim
theorem tE_lst {es : Es} {Q : VK} (h : tE K rx W C (.lst es) σ H Q) : tO K rx W C es σ H fun xs H1 => xs.length ≤ sizeLine ∧ ∀ p, H1 p = none → Q (.ref p) (upd H1 p (.lst xs)) := by
  obtain ⟨env, P, hE, h⟩ := h
  refine ⟨env, P, hE, ?_⟩
  simp only [evE] at h
  cases q : evOs C es env with
  | bad => rw [q] at h; exact h.elim
  | exc x e1 => rw [q] at h; exact h
  | ok ds e1 =>
    rw [q] at h
    simp only [Res.bind] at h
    intro vs H1 P1 P2 r1 rs dj n2 hn ev
    split at h
    · rename_i hl
      have e1 := rs.length
      refine ⟨by rw [← lim_eq]; omega, fun p hp => ?_⟩
      have t1 := r1.tight
      have t2 := rs.tight
      have np : ∀ a, H1 a ≠ none → a ≠ p := fun a z y => z (by rw [y]; exact hp)
      refine h _ _ (Tt H1 P1) (fun a => a = p ∨ Tt H1 P2 a) (t1.ev (Ev.laid hp)) ⟨p, vs, Tt H1 P2, rfl, ⟨upd_same, .inl rfl, fun b z => ⟨.inr z, np b z.2⟩⟩, t2.frame (Ev.laid (O := No) hp) fun _ _ z => z⟩
        (fun _ => ⟨fun a z y => y.elim (np a z.2) fun y => dj a z.1 y.1, fun a z => z.elim (fun z => ?_) fun z => n2 a z.1⟩) (fun a z => hn a z.1) (ev.trans (Ev.laid (O := No) hp) fun _ z => z.elim)
      rw [z]
      right
      cases hh : H p with
      | none => rfl
      | some o => exact absurd hp (ev.dom p (by rw [hh]; exact fun z => nomatch z))
    · exact h.elim
end

section
variable {X : Cx} {rx : XR} {W : WX} {C : Ctx} {a b c : E} {ea eb ec : Expr} {pos : Pos} {p q : PF} {k : Nat}
theorem t_cmp {op : CmpOp} (hp : p.isC = true) (ho : OpR X (compareOp op) (r2P X.K p)) (ha : PE X ea (tE X.K rx W C a)) (hb : PE X eb (tE X.K rx W C b)) (hm : behindInMarks op eb = false) : PT X (.Compare ea [op] [eb] pos) (tT X.K rx W C (.ap p (.cons a (.cons b .nil)))) :=
  PT.of fun σ H Q h => ⟨_, pt_cmpR ho ha hb hm, tT_cmp hp h⟩
theorem t_isN {j pos'} (ha : PE X ea (tE X.K rx W C a)) : PT X (.Compare ea [.Is] [.Constant .none j pos'] pos) (tT X.K rx W C (.ap .isN (.cons a .nil))) := by
  refine PT.of fun σ H Q h => ⟨_, pt_cmp (pc_isN ha) (by rfl), tE_mono (tT_cmp1 rfl h) fun x H1 ⟨d, r, P2, rd, hp, hf⟩ => ?_⟩
  simp only [PF.ap, Option.some.injEq] at hp
  subst hp
  cases d
  case non => obtain rfl : x = .non := rd; exact hf.bl
  case bl => obtain rfl : x = .bl _ := rd; exact hf.bl
  case int => obtain rfl : x = .int _ := rd; exact hf.bl
  case str => obtain rfl : x = .str _ := rd; exact hf.bl
  case tup => obtain ⟨a, vs, rfl, _⟩ := rd; exact hf.bl
  case lst => obtain ⟨a, vs, _, rfl, _⟩ := rd; exact hf.bl
  case dic => obtain ⟨a, vs, _, rfl, _⟩ := rd; exact hf.bl
  case dit => obtain ⟨a, vs, _, rfl, _⟩ := rd; exact hf.bl
  case set => obtain ⟨a, vs, _, rfl, _⟩ := rd; exact hf.bl
  case scr => obtain ⟨a, rfl, _⟩ := rd; exact hf.bl
theorem t_notN {j pos'} (ha : PE X ea (tE X.K rx W C a)) : PT X (.Compare ea [.IsNot] [.Constant .none j pos'] pos) (tT X.K rx W C (.ap .notN (.cons a .nil))) := by
  refine PT.of fun σ H Q h => ⟨_, pt_cmp (pc_notN ha) (by rfl), tE_mono (tT_cmp1 rfl h) fun x H1 ⟨d, r, P2, rd, hp, hf⟩ => ?_⟩
  simp only [PF.ap, Option.some.injEq] at hp
  subst hp
  cases d
  case non => obtain rfl : x = .non := rd; exact hf.bl
  case bl => obtain rfl : x = .bl _ := rd; exact hf.bl
  case int => obtain rfl : x = .int _ := rd; exact hf.bl
  case str => obtain rfl : x = .str _ := rd; exact hf.bl
  case tup => obtain ⟨a, vs, rfl, _⟩ := rd; exact hf.bl
  case lst => obtain ⟨a, vs, _, rfl, _⟩ := rd; exact hf.bl
  case dic => obtain ⟨a, vs, _, rfl, _⟩ := rd; exact hf.bl
  case dit => obtain ⟨a, vs, _, rfl, _⟩ := rd; exact hf.bl
  case set => obtain ⟨a, vs, _, rfl, _⟩ := rd; exact hf.bl
  case scr => obtain ⟨a, rfl, _⟩ := rd; exact hf.bl
theorem s_chn {o1 o2 : CmpOp} (hp : p.isC = true) (hq : q.isC = true) (h1 : OpR X (compareOp o1) (r2P X.K p)) (h2 : OpR X (compareOp o2) (r2P X.K q)) (ha : PE X ea (tE X.K rx W C a)) (hb : PE X eb (tE X.K rx W C b)) (hc : PE X ec (tE X.K rx W C c)) (hm : lastMarks [o1, o2] [eb, ec] = false) :
    PE X (.Compare ea [o1, o2] [eb, ec] pos) (tE X.K rx W C (.chn p q a b c)) := PE.of fun σ H Q h => ⟨_, pe_chain h1 h2 ha hb hc hm, tE_chn hp hq h⟩
theorem t_chn {o1 o2 : CmpOp} (hp : p.isC = true) (hq : q.isC = true) (h1 : OpR X (compareOp o1) (r2P X.K p)) (h2 : OpR X (compareOp o2) (r2P X.K q)) (ha : PE X ea (tE X.K rx W C a)) (hb : PE X eb (tE X.K rx W C b)) (hc : PE X ec (tE X.K rx W C c)) (hm : lastMarks [o1, o2] [eb, ec] = false) :
    PT X (.Compare ea [o1, o2] [eb, ec] pos) (tT X.K rx W C (.chn p q a b c)) := PT.of fun σ H Q h => ⟨_, pt_chain h1 h2 ha hb hc hm, tT_chn hp hq h⟩
theorem so_nil : PA X [] (tO X.K rx W C .nil) := PA.of fun σ H Q h => ⟨_, pa_nil, o_nil h⟩
theorem so_cons {r : Es} {es : List Expr} (ha : PE X ea (tE X.K rx W C a)) (hr : PA X es (tO X.K rx W C r)) (hs : starEach (ea :: es) X.env = (false, eval ea X.env) :: starEach es X.env) : PA X (ea :: es) (tO X.K rx W C (.cons a r)) :=
  PA.of fun σ H Q h => ⟨_, pa_cons ha hr hs, o_cons h⟩
theorem s_tup {es : Es} {el : List Expr} {x1} (h : PA X el (tO X.K rx W C es)) : PE X (.Tuple el x1 pos) (tE X.K rx W C (.tup es)) := PE.of fun σ H Q hh => ⟨_, pe_tup h, tE_tup hh⟩
theorem s_lst {es : Es} {el : List Expr} (h : PA X el (tO X.K rx W C es)) : PE X (.List el pos) (tE X.K rx W C (.lst es)) := PE.of fun σ H Q hh => ⟨_, pe_lst h, tE_lst hh⟩
end
end Z

namespace Z
open PySem PySem.Spec L2
variable [TabList]

section
variable {K : PySem.W.Frag} {H : Hp}
/-- one place of a row: what is owned there, what else -/
theorem Rels.lens : ∀ {ds : List D} {vs : List V} {P : Own} {j : Nat} {d : D}, Rels K H ds vs P → ds[j]? = some d → ∃ v Pd Pr, vs[j]? = some v ∧ Sep P Pd Pr ∧ Rel K H d v Pd ∧
    ∀ H2 d' v' P', Rel K H2 d' v' P' → (∀ a, P' a → ¬ Pr a) → Ev Pd H H2 → Rels K H2 (ds.set j d') (vs.set j v') (Uni P' Pr)
  | [], _, _, _, _, _, e => by simp at e
  | d0 :: ds, _, _, 0, d, h, e => by
    obtain ⟨v, vs', P1, P2, rfl, s, r, rs⟩ := h
    simp at e; subst e
    refine ⟨v, P1, P2, rfl, s, r, fun H2 d' v' P' r' dj ev => ?_⟩
    exact Rels.cons (Sep.uni dj) r' (rs.frame ev fun a z y => s.2.2 a y z)
  | d0 :: ds, _, _, j + 1, d, h, e => by
    obtain ⟨v0, vs', P1, P2, rfl, s, r, rs⟩ := h
    obtain ⟨v, Pd, Pr, e1, s1, r1, w⟩ := Rels.lens (j := j) rs (by simpa using e)
    refine ⟨v, Pd, Uni P1 Pr, by simpa using e1, ⟨fun a z => s.2.1 a (s1.1 a z), fun a z => z.elim (s.1 a) fun z => s.2.1 a (s1.2.1 a z), fun a z y => y.elim (fun y => s.2.2 a y (s1.1 a z)) (s1.2.2 a z)⟩, r1, fun H2 d' v' P' r' dj ev => ?_⟩
    have rs' := w H2 d' v' P' r' (fun a z y => dj a z (.inr y)) ev
    simp only [List.set_cons_succ]
    refine ⟨v0, vs'.set j v', P1, Uni P' Pr, rfl, ⟨fun a z => .inr (.inl z), fun a z => z.elim .inl fun z => .inr (.inr z), fun a z y => y.elim (fun y => dj a y (.inl z)) fun y => s.2.2 a z (s1.2.1 a y)⟩, r.frame ev fun a z y => s.2.2 a z (s1.1 a y), rs'⟩
theorem set_same {α : Type} : ∀ {xs : List α} {j : Nat} {v : α}, xs[j]? = some v → xs.set j v = xs
  | [], _, _, h => by simp at h
  | x :: xs, 0, v, h => by simp at h; subst h; rfl
  | x :: xs, j + 1, v, h => by simp only [List.set_cons_succ]; rw [set_same (by simpa using h)]
theorem kIx_look {κ : Type} [DecidableEq κ] {k : κ} : ∀ {kvs : List (κ × V)} {j : Nat}, kIx (kvs.map (·.1)) k = some j → ∃ v, (kvs.map (·.2))[j]? = some v ∧ valV kvs k = some v
  | [], _, h => by simp [kIx] at h
  | (q, v) :: kvs, j, h => by
    simp only [List.map_cons, kIx] at h
    split at h
    · rename_i hq
      obtain rfl : 0 = j := Option.some.inj h
      exact ⟨v, rfl, valV_pos hq⟩
    · rename_i hq
      obtain ⟨i, hi, rfl⟩ := Option.map_eq_some_iff.mp h
      obtain ⟨v', h1, h2⟩ := kIx_look hi
      exact ⟨v', by simpa using h1, by rw [valV_neg hq]; exact h2⟩
end

section
variable {X : Cx} {k : Nat}
/-- a step down, and the way back up -/
theorem step_lens (hr : Room k X.A) {H : Hp} {x kd d : D} {vx vk : V} {P Pk : Own} (r : Rel X.K H x vx P) (rk : Rel X.K H kd vk Pk) (h : stepD x kd = some d) :
    ∃ v Pd Pr rd, IxR X rd ∧ (∀ Q : VK, Q v H → rd vx vk H Q) ∧ Sep P Pd Pr ∧ Rel X.K H d v Pd ∧
      ∀ H2 d' P' x', Rel X.K H2 d' v P' → (∀ a, P' a → ¬ Pr a) → Ev Pd H H2 → setP x kd d' = some x' → Rel X.K H2 x' vx (Uni P' Pr) := by
  unfold stepD at h
  cases x <;> simp only [opIdx, reduceCtorEq] at h
  · cases kd <;> simp only [reduceCtorEq, Option.ite_none_right_eq_some, Option.map_eq_some_iff] at h
    obtain ⟨h1, c, hc, rfl⟩ := h
    exact ⟨_, No, P, _, ix_str, fun Q q => ⟨_, _, c, r, rk, by rw [← lim_eq]; exact h1, hc, q⟩, Sep.nl, rfl, fun H2 d' P' x' _ _ _ z => by simp [setP] at z⟩
  · cases kd <;> simp only [reduceCtorEq] at h
    obtain ⟨a, vs, rfl, s1, r1⟩ := r
    unfold atI at h
    obtain ⟨j, hj, hd⟩ := Option.bind_eq_some_iff.mp h
    obtain ⟨v, Pd, Pr, e1, s, rd, w⟩ := r1.lens hd
    refine ⟨v, Pd, Pr, _, ix_tup, fun Q q => ⟨a, vs, _, v, rfl, rk, s1, ?_, q⟩, s, rd, fun H2 d' P' x' r' dj ev z => ?_⟩
    · unfold atI
      rw [← r1.length, hj]
      exact e1
    · simp only [setP, hj, Option.map_some, Option.some.injEq] at z
      subst z
      have z := w H2 d' v P' r' dj ev
      rw [set_same e1] at z
      exact ⟨a, vs, rfl, sqT_frame s1 ev, z⟩
  · cases kd <;> simp only [reduceCtorEq] at h
    rename_i m ds i
    obtain ⟨a, vs, Q1, rfl, s1, r1⟩ := r
    unfold atI at h
    obtain ⟨j, hj, hd⟩ := Option.bind_eq_some_iff.mp h
    obtain ⟨v, Pd, Pr, e1, s, rd, w⟩ := r1.lens hd
    refine ⟨v, Pd, fun x => P x ∧ ¬ Pd x, _, ix_list, fun Q q => ⟨a, vs, _, v, rfl, rk, .inl s1.rd, ?_, q⟩, ⟨fun x z => s1.sub x (s.1 x z), fun x z => z.1, fun x z y => y.2 z⟩, rd, fun H2 d' P' x' r' dj ev z => ?_⟩
    · unfold atI
      rw [← r1.length, hj]
      exact e1
    · cases m <;> simp only [setP, hj, Option.map_some, Option.some.injEq, reduceCtorEq] at z
      subst z
      have na : ¬ Pd a := fun y => (s1.2.2 a (s.1 a y)).2 rfl
      have z := w H2 d' v P' r' (fun x y z => dj x y ⟨(s1.2.2 x (s.2.1 x z)).1, fun u => s.2.2 x u z⟩) ev
      rw [set_same e1] at z
      refine ⟨a, vs, Uni P' Pr, rfl, ⟨ev.keep a _ s1.1 (fun _ z => nomatch z) fun y => (na y).elim, .inr ⟨s1.2.1, na⟩, fun b y => ?_⟩, z⟩
      rcases y with y | y
      · exact ⟨.inl y, fun e => dj b y (by rw [e]; exact ⟨s1.2.1, na⟩)⟩
      · exact ⟨.inr ⟨(s1.2.2 b (s.2.1 b y)).1, fun u => s.2.2 b u y⟩, (s1.2.2 b (s.2.1 b y)).2⟩
  · rename_i m ks ds
    obtain ⟨q, hq, hl⟩ := Option.bind_eq_some_iff.mp h
    obtain ⟨a, kvs, Q1, rfl, s1, ⟨rfl, nd⟩, r1⟩ := r
    unfold look at hl
    obtain ⟨j, hj, hd⟩ := Option.bind_eq_some_iff.mp hl
    obtain ⟨v, Pd, Pr, e1, s, rd, w⟩ := r1.lens hd
    obtain ⟨v', e2, e3⟩ := kIx_look hj
    obtain rfl : v' = v := by rw [e1] at e2; exact (Option.some.inj e2).symm
    refine ⟨v', Pd, fun x => P x ∧ ¬ Pd x, _, ix_dict hr, fun Q z => ⟨a, v', rfl, .inl ⟨kvs, q, s1.rd, key_val rk hq, e3.symm⟩, z⟩, ⟨fun x z => s1.sub x (s.1 x z), fun x z => z.1, fun x z y => y.2 z⟩, rd, fun H2 d' P' x' r' dj ev z => ?_⟩
    cases m <;> simp only [setP, hq, hj, Option.map_some, Option.bind_some, Option.some.injEq, reduceCtorEq] at z
    subst z
    have na : ¬ Pd a := fun y => (s1.2.2 a (s.1 a y)).2 rfl
    have z := w H2 d' v' P' r' (fun x y z => dj x y ⟨(s1.2.2 x (s.2.1 x z)).1, fun u => s.2.2 x u z⟩) ev
    rw [set_same e1] at z
    refine ⟨a, kvs, Uni P' Pr, rfl, ⟨ev.keep a _ s1.1 (fun _ z => nomatch z) fun y => (na y).elim, .inr ⟨s1.2.1, na⟩, fun b y => ?_⟩, ⟨rfl, nd⟩, z⟩
    rcases y with y | y
    · exact ⟨.inl y, fun e => dj b y (by rw [e]; exact ⟨s1.2.1, na⟩)⟩
    · exact ⟨.inr ⟨(s1.2.2 b (s.2.1 b y)).1, fun u => s.2.2 b u y⟩, (s1.2.2 b (s.2.1 b y)).2⟩
end

/-! ### paths -/
theorem getK_snoc : ∀ {ks : List D} {x k : D}, getK x (ks ++ [k]) = (getK x ks).bind fun y => stepD y k
  | [], x, k => by simp [getK]
  | q :: ks, x, k => by
    simp only [List.cons_append, getK]
    cases stepD x q with
    | none => rfl
    | some y => exact getK_snoc (ks := ks)
theorem putKs_snoc : ∀ {ks : List D} {x k d x' : D}, putKs x (ks ++ [k]) d = some x' → ∃ y y', getK x ks = some y ∧ setP y k d = some y' ∧ putKs x ks y' = some x'
  | [], x, k, d, x', h => by
    simp only [List.nil_append, putKs, Option.bind_eq_some_iff] at h
    obtain ⟨y, _, y', hy, h⟩ := h
    cases hy
    exact ⟨x, x', rfl, h, rfl⟩
  | q :: ks, x, k, d, x', h => by
    simp only [List.cons_append, putKs, Option.bind_eq_some_iff] at h
    obtain ⟨y, h1, y', h2, h3⟩ := h
    obtain ⟨z, z', e1, e2, e3⟩ := putKs_snoc h2
    exact ⟨z, z', by simp [getK, h1, e1], e2, by simp [putKs, h1, e3, h3]⟩

/-- the thing at a path: d stands there as v; whatever comes in its place, the slots hold what the evaluator says -/
def Foc (K : PySem.W.Frag) (H : Hp) (σ : L2.St) (env : Env) (P : Own) (i : Nat) (ks : List D) (x d : D) (v : V) : Prop :=
  ∃ Pd Pr, Sep P Pd Pr ∧ Rel K H d v Pd ∧ ∀ H2 d' P' x', putKs x ks d' = some x' → Rel K H2 d' v P' → (∀ a, P' a → ¬ Pr a) → Ev Pd H H2 → RelE K H2 (env.set i (some x')) σ (Uni P' Pr)
def tP (K : PySem.W.Frag) (C : Ctx) (o : E) : TE := fun σ H Q => ∃ env P i ks x d, RelE K H env σ P ∧ evP C o env = some (i, ks) ∧ env[i]? = some (some x) ∧ getK x ks = some d ∧
  ∀ v H', Ev No H H' → Foc K H' σ env P i ks x d v → (ks = [] → σ[i]? = some (some v)) → Q v H'
section
variable {K : PySem.W.Frag} {σ : L2.St} {H H' : Hp} {env : Env} {P : Own} {i : Nat} {ks : List D} {x d : D} {v : V}
theorem Foc.ev (h : Foc K H σ env P i ks x d v) (e : Ev No H H') : Foc K H' σ env P i ks x d v := by
  obtain ⟨Pd, Pr, s, r, w⟩ := h
  exact ⟨Pd, Pr, s, r.ev e, fun H2 d' P' x' h1 h2 h3 h4 => w H2 d' P' x' h1 h2 h3 (e.of_no.trans h4 New.refl)⟩
theorem foc_var (hE : RelE K H env σ P) (hx : env[i]? = some (some x)) (hv : σ[i]? = some (some v)) : Foc K H σ env P i [] x x v := by
  obtain ⟨v', P1, P2, e, s, r, rs⟩ := hE.get hx
  rw [hv] at e
  obtain rfl : v = v' := by injection e with e; injection e
  refine ⟨P1, P2, s, r, fun H2 d' P' x' h1 h2 h3 h4 => ?_⟩
  obtain rfl : d' = x' := Option.some.inj h1
  exact (rs.frame h4 fun a z y => s.2.2 a y z).put (Sep.uni h3) h2 hv
end

section
variable {X : Cx} {rx : XR} {W : WX} {C : Ctx} {a kE : E} {ea eb : Expr} {pos : Pos} {k : Nat}
theorem p_var {i : Nat} {x : Str} {pos : Pos} (hN : X.N[i]? = some x) (hv : Vis X.env.scope x) (hd : (x == ("__debug__" : Str)) = false) (hcd : (x == ("__classdict__" : Str)) = false) : PE X (.Name x pos) (tP X.K C (.var i)) := by
  refine PE.of fun σ H Q ⟨env, P, j, ks, x0, d, hE, hp, hx, hg, h⟩ => ⟨_, pe_var hN hv hd hcd, ?_⟩
  simp only [evP, Option.some.injEq, Prod.mk.injEq] at hp
  obtain ⟨rfl, rfl⟩ := hp
  obtain rfl : x0 = d := Option.some.inj hg
  obtain ⟨v, P1, P2, e, s, r, rs⟩ := hE.get hx
  exact ⟨v, e, h v H Ev.refl (foc_var hE hx e) fun _ => e⟩
theorem p_idx (hr : Room k X.A) (ha : PE X ea (tP X.K C a)) (hb : PE X eb (tE X.K rx W C kE)) (hs : PlainIx eb) : PE X (.Subscript ea eb pos) (tP X.K C (.pidx a kE)) := by
  -- the step's rule is chosen at the values
  have hix : IxR X (fun x y H Q => ∃ rd, IxR X rd ∧ rd x y H Q) := IxR.of fun x y H Q h => h
  refine PE.of fun σ H Q ⟨env, P, j, ks, x0, d, hE, hp, hx, hg, h⟩ => ⟨_, pe_ix hix ha hb hs, ?_⟩
  simp only [evP] at hp
  split at hp
  · rename_i hpu
    cases q1 : evP C a env with
    | none => rw [q1] at hp; cases hp
    | some ik =>
      obtain ⟨i0, ks0⟩ := ik
      rw [q1] at hp
      simp only at hp
      cases q2 : evE C kE env with
      | bad => rw [q2] at hp; cases hp
      | exc x e => rw [q2] at hp; cases hp
      | ok dk ek =>
        rw [q2] at hp
        simp only [Option.some.injEq, Prod.mk.injEq] at hp
        obtain ⟨rfl, rfl⟩ := hp
        rw [getK_snoc] at hg
        obtain ⟨y, hy, hst⟩ := Option.bind_eq_some_iff.mp hg
        refine ⟨env, P, i0, ks0, x0, y, hE, q1, hx, hy, fun v1 H1 ev1 foc1 _ => ?_⟩
        refine ⟨env, P, hE.ev ev1, ?_⟩
        rw [q2]
        intro vk H2 P1 P2 _ rk _ _ ev2
        rw [hpu] at ev2
        have ev2 : Ev No H1 H2 := ev2.mono fun _ z => nomatch z.1
        have foc2 := foc1.ev ev2
        obtain ⟨Pd, Pr, s, r, w⟩ := foc2
        obtain ⟨v, Pd2, Pr2, rd, hrd, hq, s2, r2, w2⟩ := step_lens hr r rk hst
        refine ⟨rd, hrd, hq Q ?_⟩
        refine h v H2 (ev1.trans ev2 fun _ z => z.elim) ⟨Pd2, Uni Pr2 Pr, ⟨fun b z => s.1 b (s2.1 b z), fun b z => z.elim (fun z => s.1 b (s2.2.1 b z)) (s.2.1 b), fun b z y => y.elim (s2.2.2 b z) (s.2.2 b (s2.1 b z))⟩, r2, fun H3 d' P' x' h1 h2 h3 h4 => ?_⟩ (fun z => by simp at z)
        obtain ⟨y1, y', e1, e2, e3⟩ := putKs_snoc h1
        obtain rfl : y1 = y := by rw [hy] at e1; exact (Option.some.inj e1).symm
        have z1 := w2 H3 d' P' y' h2 (fun b z y => h3 b z (.inl y)) h4 e2
        have z2 := w H3 y' _ x' e3 z1 (fun b z y => z.elim (fun z => h3 b z (.inr y)) fun z => s.2.2 b (s2.2.1 b z) y) (h4.mono s2.1)
        exact z2.mono fun b z => z.elim (fun z => z.elim .inl fun z => .inr (.inl z)) fun z => .inr (.inr z)
  · cases hp
end
end Z

namespace Z
open PySem PySem.Spec L2
variable [TabList]

/-! ### a part that is read where it stands -/
section
variable {X : Cx} {rx : XR} {W : WX} {C : Ctx} {a b : E} {ea eb : Expr} {pos : Pos} {k : Nat}
theorem tE_pidx {K : PySem.W.Frag} {σ : L2.St} {H : Hp} {Q : VK} (h : tE K rx W C (.pidx a b) σ H Q) : tE K rx W C a σ H fun x H1 => tE K rx W C b σ H1 fun y H2 => rStep K x y H2 Q := by
  obtain ⟨env, P, hE, h⟩ := h
  refine ⟨env, P, hE, ?_⟩
  simp only [evE] at h
  cases q : evE C a env with
  | bad => rw [q] at h; exact h.elim
  | exc x e1 => rw [q] at h; exact h
  | ok d e1 =>
    rw [q] at h
    simp only [Res.bind] at h
    intro v H1 P1 P2 r1 rd hd hn ev
    split at h
    · exact h.elim
    rename_i hc
    refine ⟨e1, P1, r1, ?_⟩
    cases q2 : evE C b e1 with
    | bad => rw [q2] at h; exact h.elim
    | exc x e2 => rw [q2] at h; exact exc_on h hn ev.eo
    | ok kd e2 =>
      rw [q2] at h
      intro u H2 P3 P4 r3 rk hd3 hn3 ev3
      cases q3 : stepD d kd with
      | none => simp only [q3] at h; exact h.elim
      | some r =>
        simp only [q3] at h
        have evv := ev_and ev ev3 hn
        have nn := hn.trans ev.eo hn3
        cases hp : a.pth with
        | true =>
          obtain ⟨P5, rd5⟩ : ∃ P5, Rel K H2 d v P5 := by
            cases hb : b.pu with
            | true =>
              have ev4 : Ev No H1 H2 := ev3.mono fun _ z => by have := z.1; rw [hb] at this; cases this
              exact ⟨P2, rd.ev ev4⟩
            | false =>
              have hi : imm d = true := by rw [hp, hb] at hc; simpa using hc
              exact ⟨No, (Rel.imm hi rd).frame ev3 fun _ z => z.elim⟩
          refine ⟨d, kd, r, P5, P4, rd5, rk, q3, fun w P' sb rw' => h w H2 P3 P' r3 rw' (fun z => ?_) nn evv⟩
          have z : a.pth = false := z
          rw [hp] at z; cases z
        | false =>
          obtain ⟨dj, n2⟩ := hd hp
          refine ⟨d, kd, r, Tt H1 P2, P4, rd.tight.frame ev3 fun x z y => dj x y.2 z.1, rk, q3, fun w P' sb rw' => h w H2 P3 P' r3 rw' (fun _ => ⟨fun x z y => ?_, fun x y => (n2 x (sb x y).1).imp (eO_l x) id⟩) nn evv⟩
          exact (hn3 x z).elim (fun z => dj x z (sb x y).1) (sb x y).2
theorem s_pidx (hr : Room k X.A) (ha : PE X ea (tE X.K rx W C a)) (hb : PE X eb (tE X.K rx W C b)) (hs : PlainIx eb) : PE X (.Subscript ea eb pos) (tE X.K rx W C (.pidx a b)) :=
  PE.of fun σ H Q h => ⟨_, pe_ix (ix_step hr) ha hb hs, tE_pidx h⟩
end

/-! ### locking for good -/
section
variable {X : Cx} {pins : List (Addr × Obj)} {σ : L2.St} {s : Shared}
theorem lock_one {H : Hp} {a : Addr} {u : HO} {P : Own} (I : Inv X pins σ H s) (h : H a = some u) (mu : Mut (some u)) (hp : P a) : ∃ od, Inv X pins σ (upd H a (.frz od u)) s ∧ Ev P H (upd H a (.frz od u)) := by
  obtain ⟨od, I'⟩ := I.lock h mu
  refine ⟨od, I', fun b o e _ m => ?_, fun b e => ?_, fun _ t => t.mut h mu⟩
  · by_cases hb : b = a
    · subst hb
      rw [h] at e
      cases e
      exact absurd mu (m hp)
    · rw [upd_ne hb]; exact e
  · by_cases hb : b = a
    · rw [hb, upd_same]; exact fun z => nomatch z
    · rw [upd_ne hb]; exact e
mutual
theorem freeze : ∀ {d : D} {v : V} {P : Own} {H : Hp}, Inv X pins σ H s → Rel X.K H d v P → ∃ H', Inv X pins σ H' s ∧ Rel X.K H' (fz d) v No ∧ Ev P H H'
  | .non, _, _, H, I, r => ⟨H, I, r, Ev.refl⟩
  | .bl _, _, _, H, I, r => ⟨H, I, r, Ev.refl⟩
  | .int _, _, _, H, I, r => ⟨H, I, r, Ev.refl⟩
  | .str _, _, _, H, I, r => ⟨H, I, r, Ev.refl⟩
  | .tup ds, _, _, H, I, r => by
    obtain ⟨a, vs, rfl, s1, r1⟩ := r
    obtain ⟨H', I', r', e⟩ := freezes I r1
    exact ⟨H', I', ⟨a, vs, rfl, sqT_frame s1 e, r'⟩, e⟩
  | .lst m ds, _, P, H, I, r => by
    obtain ⟨a, vs, Q, rfl, s1, r1⟩ := r
    obtain ⟨H1, I1, r', e⟩ := freezes I r1
    cases m with
    | false => exact ⟨H1, I1, ⟨a, vs, No, rfl, ⟨s1.1.imp fun o z => e.keep a _ z (fun _ q => nomatch q) fun _ m => m, fun _ z => z⟩, r'⟩, e.mono s1.2⟩
    | true =>
      obtain ⟨od, I2, e2⟩ := lock_one (P := P) I1 (e.keep a _ s1.1 (fun _ q => nomatch q) fun y => ((s1.2.2 a y).2 rfl).elim) trivial s1.2.1
      exact ⟨_, I2, ⟨a, vs, No, rfl, ⟨⟨od, upd_same⟩, fun _ z => z⟩, r'.frame e2 fun _ z => z.elim⟩, (e.mono fun x z => (s1.2.2 x z).1).trans e2 New.refl⟩
  | .dic m ks ds, _, P, H, I, r => by
    obtain ⟨a, vs, Q, rfl, s1, k, r1⟩ := r
    obtain ⟨H1, I1, r', e⟩ := freezes I r1
    cases m with
    | false => exact ⟨H1, I1, ⟨a, vs, No, rfl, ⟨s1.1.imp fun o z => e.keep a _ z (fun _ q => nomatch q) fun _ m => m, fun _ z => z⟩, k, r'⟩, e.mono s1.2⟩
    | true =>
      obtain ⟨od, I2, e2⟩ := lock_one (P := P) I1 (e.keep a _ s1.1 (fun _ q => nomatch q) fun y => ((s1.2.2 a y).2 rfl).elim) trivial s1.2.1
      exact ⟨_, I2, ⟨a, vs, No, rfl, ⟨⟨od, upd_same⟩, fun _ z => z⟩, k, r'.frame e2 fun _ z => z.elim⟩, (e.mono fun x z => (s1.2.2 x z).1).trans e2 New.refl⟩
  | .dit m ks ds, _, P, H, I, r => by
    obtain ⟨a, vs, Q, rfl, s1, k, r1⟩ := r
    obtain ⟨H1, I1, r', e⟩ := freezes I r1
    cases m with
    | false => exact ⟨H1, I1, ⟨a, vs, No, rfl, ⟨s1.1.imp fun o z => e.keep a _ z (fun _ q => nomatch q) fun _ m => m, fun _ z => z⟩, k, r'⟩, e.mono s1.2⟩
    | true =>
      obtain ⟨od, I2, e2⟩ := lock_one (P := P) I1 (e.keep a _ s1.1 (fun _ q => nomatch q) fun y => ((s1.2.2 a y).2 rfl).elim) trivial s1.2.1
      exact ⟨_, I2, ⟨a, vs, No, rfl, ⟨⟨od, upd_same⟩, fun _ z => z⟩, k, r'.frame e2 fun _ z => z.elim⟩, (e.mono fun x z => (s1.2.2 x z).1).trans e2 New.refl⟩
  | .set m ks, _, P, H, I, r => by
    obtain ⟨a, vs, Q, rfl, s1, k⟩ := r
    cases m with
    | false => exact ⟨H, I, ⟨a, vs, No, rfl, ⟨s1.1, fun _ z => z⟩, k⟩, Ev.refl⟩
    | true =>
      obtain ⟨od, I2, e2⟩ := lock_one (P := P) I s1.1 trivial s1.2.1
      exact ⟨_, I2, ⟨a, vs, No, rfl, ⟨⟨od, upd_same⟩, fun _ z => z⟩, k⟩, e2⟩
  | .scr _, _, _, H, I, r => ⟨H, I, r, Ev.refl⟩
theorem freezes : ∀ {ds : List D} {vs : List V} {P : Own} {H : Hp}, Inv X pins σ H s → Rels X.K H ds vs P → ∃ H', Inv X pins σ H' s ∧ Rels X.K H' (fzs ds) vs No ∧ Ev P H H'
  | [], _, _, H, I, r => ⟨H, I, r, Ev.refl⟩
  | d :: ds, _, P, H, I, r => by
    obtain ⟨v, vs', P1, P2, rfl, s1, r1, rs⟩ := r
    obtain ⟨H1, I1, r2, e1⟩ := freeze I r1
    obtain ⟨H2, I2, r3, e2⟩ := freezes I1 (rs.frame e1 fun a z y => s1.2.2 a y z)
    refine ⟨H2, I2, Rels.cons Sep.nl (r2.frame e2 fun _ z => z.elim) r3, (e1.mono s1.1).trans (e2.mono s1.2.1) New.refl⟩
end
end
section
variable {X : Cx} {rx : XR} {W : WX} {C : Ctx}
theorem s_frz {i : Nat} {x : Str} {pos : Pos} (hN : X.N[i]? = some x) (hv : Vis X.env.scope x) (hd : (x == ("__debug__" : Str)) = false) (hcd : (x == ("__classdict__" : Str)) = false) : PE X (.Name x pos) (tE X.K rx W C (.frz i)) := by
  refine ⟨fun pins s σ H Q I ⟨env, P, hE, h⟩ => ?_⟩
  simp only [evE] at h
  cases q : env[i]? with
  | none => rw [q] at h; exact h.elim
  | some od =>
    cases od with
    | none => rw [q] at h; exact h.elim
    | some d =>
      rw [q] at h
      obtain ⟨v, P1, P2, e, s1, r, rs⟩ := hE.get q
      obtain ⟨H', I', r', ev⟩ := freeze I r
      refine (pe_var hN hv hd hcd).run pins s σ H' Q I' ⟨v, e, ?_⟩
      exact h v H' P2 No ((rs.frame ev fun a z y => s1.2.2 a y z).put Sep.nl r' e) r' (fun _ => ⟨fun _ _ z => z, fun _ z => z.elim⟩) (fun a z => .inl (s1.2.1 a z)) (ev.mono fun a z => ⟨rfl, s1.1 a z⟩)
end

/-! ### methods that change their object -/
def mmId : MM → String
  | .append => "list.append" | .pop => "list.pop" | .popAt => "list.pop" | .extend => "list.extend" | .insert => "list.insert" | .clear => "list.clear" | .reverse => "list.reverse" | .sort => "list.sort" | .add => "set.add"
def mmName : MM → Str
  | .append => "append" | .pop => "pop" | .popAt => "pop" | .extend => "extend" | .insert => "insert" | .clear => "clear" | .reverse => "reverse" | .sort => "sort" | .add => "add"
/-- what is wanted behind the method: its answer r, the thing y' in the place of the old one -/
def MmQ (K : PySem.W.Frag) (H : Hp) (Pd P2 : Own) (r y' : D) (v : V) (Q : VK) : Prop :=
  ∀ vr H2 P3 P4, Rel K H2 r vr P3 → Rel K H2 y' v P4 → (∀ a, P3 a → ¬ P4 a) → (∀ a, P3 a → Pd a ∨ P2 a) → (∀ a, P4 a → Pd a ∨ P2 a) → Ev Pd H H2 → Q vr H2
theorem Ev.wrote {H : Hp} {a : Addr} {o u : HO} {P : Own} (h : H a = some o) (mu : Mut (some o)) (hp : P a) : Ev P H (upd H a u) :=
  ⟨fun b w e _ m => by
    by_cases hb : b = a
    · subst hb
      rw [h] at e
      cases e
      exact absurd mu (m hp)
    · rw [upd_ne hb]; exact e, fun b e => by
    by_cases hb : b = a
    · rw [hb, upd_same]; exact fun z => nomatch z
    · rw [upd_ne hb]; exact e, fun _ t => t.mut h mu⟩
section
variable {X : Cx}
theorem mt_extendR : MtR X "list.extend" (fun x vs H Q => ∃ l b xs zs, x = .ref l ∧ vs = [.ref b] ∧ H l = some (.lst xs) ∧ H b = some (.lst zs) ∧ xs.length + zs.length ≤ sizeLine ∧ Q .non (upd H l (.lst (xs ++ zs)))) := mt_extend
/-- a list at a, alone owned with its parts, gets other items -/
theorem lst_new {K : PySem.W.Frag} {H : Hp} {a : Addr} {xs ys : List V} {ds : List D} {P Q1 : Own} (h : H a = some (.lst xs)) (r : Rels K H ds ys Q1) (na : ¬ Q1 a) (hp : P a) (hs : ∀ b, Q1 b → P b) : Rel K (upd H a (.lst ys)) (.lst true ds) (.ref a) P :=
  ⟨a, ys, Q1, rfl, ⟨upd_same, hp, fun b z => ⟨hs b z, fun e => na (by rw [← e]; exact z)⟩⟩, r.frame (Ev.wrote (P := fun b => b = a) h trivial rfl) fun b z e => na (by rw [← e]; exact z)⟩
theorem mm_ok {H : Hp} {m : MM} {y r y' : D} {ds : List D} {v : V} {vs : List V} {Pd P2 : Own} {Q : VK} (ry : Rel X.K H y v Pd) (rs : Rels X.K H ds vs P2) (dj : ∀ a, Pd a → ¬ P2 a) (h : mmAp m y ds = some (r, y')) (hq : MmQ X.K H Pd P2 r y' v Q) :
    ∃ rd, MtR X (mmId m) rd ∧ rd v vs H Q := by
  unfold mmAp at h
  split at h
  · -- append
    rename_i ds0 d
    split at h
    · rename_i hl
      cases h
      obtain ⟨a, xs, Q1, rfl, s1, r1⟩ := ry
      obtain ⟨u, us, P3, P4, rfl, s2, r2, r3⟩ := rs
      obtain rfl : us = [] := r3
      have e1 := r1.length
      refine ⟨_, mt_append, a, xs, u, rfl, rfl, s1.1, by rw [← lim_eq, ← e1]; exact hl, ?_⟩
      have sub : ∀ b, Q1 b → ¬ P3 b := fun b z w => dj b (s1.2.2 b z).1 (s2.1 b w)
      refine hq _ _ No (fun b => Pd b ∨ P2 b) rfl ?_ (fun _ z => z.elim) (fun _ z => z.elim) (fun _ z => z) (Ev.wrote s1.1 trivial s1.2.1)
      refine lst_new (Q1 := Uni Q1 P3) s1.1 (Rels.append (Sep.uni sub) r1 (Rels.cons (Sep.nr) r2 (show Rels X.K H [] [] No from rfl))) (fun z => z.elim (fun z => (s1.2.2 a z).2 rfl) fun z => dj a s1.2.1 (s2.1 a z)) (.inl s1.2.1) fun b z => z.elim (fun z => .inl (s1.2.2 b z).1) fun z => .inr (s2.1 b z)
    · cases h
  · -- pop
    rename_i ds0
    obtain ⟨d, hd, e⟩ := Option.map_eq_some_iff.mp h
    cases e
    obtain ⟨a, xs, Q1, rfl, s1, r1⟩ := ry
    obtain rfl : vs = [] := rs
    obtain ⟨ds1, rfl⟩ : ∃ ds1, ds0 = ds1 ++ [r] := by
      have := List.getLast?_eq_some_iff.mp hd
      exact this
    obtain ⟨us, ws, P3, P4, rfl, s2, r2, r3⟩ := r1.split
    obtain ⟨u, us', P5, P6, rfl, s3, r4, r5⟩ := r3
    obtain rfl : us' = [] := r5
    refine ⟨_, mt_pop, a, us ++ [u], u, rfl, rfl, s1.1, by simp, ?_⟩
    rw [List.dropLast_concat]
    have ne : ∀ b, Q1 b → b ≠ a := fun b z => (s1.2.2 b z).2
    refine hq u _ P5 (fun b => Pd b ∧ ¬ P5 b) (r4.frame (Ev.wrote (P := fun b => b = a) s1.1 trivial rfl) fun b z e => ne b (s2.2.1 b (s3.1 b z)) e) ?_ (fun b z y => y.2 z) (fun b z => .inl (s1.2.2 b (s2.2.1 b (s3.1 b z))).1) (fun b z => .inl z.1) (Ev.wrote s1.1 trivial s1.2.1)
    rw [List.dropLast_concat]
    exact lst_new (Q1 := P3) s1.1 r2 (fun z => ne a (s2.1 a z) rfl) ⟨s1.2.1, fun z => ne a (s2.2.1 a (s3.1 a z)) rfl⟩ fun b z => ⟨(s1.2.2 b (s2.1 b z)).1, fun y => s2.2.2 b z (s3.1 b y)⟩
  · -- extend
    rename_i ds0 es
    split at h
    · rename_i hl
      cases h
      obtain ⟨a, xs, Q1, rfl, s1, r1⟩ := ry
      obtain ⟨u, us, P3, P4, rfl, s2, r2, r3⟩ := rs
      obtain rfl : us = [] := r3
      obtain ⟨b, zs, Q2, rfl, s3, r4⟩ := r2
      have e1 := r1.length
      have e2 := r4.length
      refine ⟨_, mt_extend, a, b, xs, zs, rfl, rfl, s1.1, s3.1, by rw [← lim_eq]; omega, ?_⟩
      have sub : ∀ c, Q1 c → ¬ Q2 c := fun c z w => dj c (s1.2.2 c z).1 (s2.1 c (s3.2.2 c w).1)
      refine hq _ _ No (fun b => Pd b ∨ P2 b) rfl ?_ (fun _ z => z.elim) (fun _ z => z.elim) (fun _ z => z) (Ev.wrote s1.1 trivial s1.2.1)
      exact lst_new (Q1 := Uni Q1 Q2) s1.1 (Rels.append (Sep.uni sub) r1 r4) (fun z => z.elim (fun z => (s1.2.2 a z).2 rfl) fun z => dj a s1.2.1 (s2.1 a (s3.2.2 a z).1)) (.inl s1.2.1) fun c z => z.elim (fun z => .inl (s1.2.2 c z).1) fun z => .inr (s2.1 c (s3.2.2 c z).1)
    · cases h
  · -- clear
    cases h
    obtain ⟨a, xs, Q1, rfl, s1, r1⟩ := ry
    obtain rfl : vs = [] := rs
    refine ⟨_, mt_clear, a, xs, rfl, rfl, s1.1, ?_⟩
    exact hq _ _ No Pd rfl (lst_new (Q1 := No) s1.1 (show Rels X.K H [] [] No from rfl) (fun z => z) s1.2.1 fun _ z => z.elim) (fun _ z => z.elim) (fun _ z => z.elim) (fun _ z => .inl z) (Ev.wrote s1.1 trivial s1.2.1)
  · cases h
end
end Z

namespace Z
open PySem PySem.Spec L2
variable [TabList]

/-! ### what changes nothing leaves the slots -/
mutual
theorem evE_pu {C : Ctx} : ∀ {e : E} {env e1 : Env} {d : D}, e.pu = true → evE C e env = .ok d e1 → e1 = env
  | .var i, env, e1, d, _, h => by
    simp only [evE] at h
    split at h <;> simp only [Res.ok.injEq, reduceCtorEq] at h
    exact h.2.symm
  | .mov _, _, _, _, p, _ => by simp [E.pu] at p
  | .frz _, _, _, _, p, _ => by simp [E.pu] at p
  | .cst _, _, _, _, _, h => by simp only [evE, Res.ok.injEq] at h; exact h.2.symm
  | .fze a, env, e1, d, p, h => by
    simp only [E.pu] at p
    simp only [evE] at h
    cases q : evE C a env with
    | bad => rw [q] at h; simp at h
    | exc x e => rw [q] at h; simp at h
    | ok x e2 =>
      rw [q] at h
      simp only [Res.bind] at h
      split at h
      · cases h
      simp only [Res.ok.injEq] at h
      rw [← h.2, evE_pu p q]
  | .pidx a k, env, e1, d, p, h => by
    simp only [E.pu, Bool.and_eq_true] at p
    simp only [evE] at h
    cases q : evE C a env with
    | bad => rw [q] at h; simp at h
    | exc x e => rw [q] at h; simp at h
    | ok x e2 =>
      rw [q] at h
      simp only [Res.bind] at h
      split at h
      · cases h
      cases q2 : evE C k e2 with
      | bad => rw [q2] at h; simp at h
      | exc x e => rw [q2] at h; simp at h
      | ok y e3 =>
        rw [q2] at h
        simp only at h
        split at h <;> simp only [Res.ok.injEq, reduceCtorEq] at h
        rw [← h.2, evE_pu p.2 q2, evE_pu p.1 q]
  | .ap pf es, env, e1, d, p, h => by
    simp only [E.pu] at p
    simp only [evE] at h
    cases q : evEs C es env with
    | bad => rw [q] at h; simp at h
    | exc x e => rw [q] at h; simp at h
    | ok x e2 =>
      rw [q] at h
      simp only [Res.bind] at h
      split at h <;> simp only [Res.ok.injEq, reduceCtorEq] at h
      rw [← h.2, evEs_pu p q]
  | .and a b, env, e1, d, p, h => by
    simp only [E.pu, Bool.and_eq_true] at p
    simp only [evE] at h
    cases q : evE C a env with
    | bad => rw [q] at h; simp at h
    | exc x e => rw [q] at h; simp at h
    | ok x e2 =>
      rw [q] at h
      simp only [Res.bind] at h
      split at h
      · rw [evE_pu p.2 h, evE_pu p.1 q]
      · simp only [Res.ok.injEq] at h
        rw [← h.2, evE_pu p.1 q]
      · cases h
  | .or a b, env, e1, d, p, h => by
    simp only [E.pu, Bool.and_eq_true] at p
    simp only [evE] at h
    cases q : evE C a env with
    | bad => rw [q] at h; simp at h
    | exc x e => rw [q] at h; simp at h
    | ok x e2 =>
      rw [q] at h
      simp only [Res.bind] at h
      split at h
      · simp only [Res.ok.injEq] at h
        rw [← h.2, evE_pu p.1 q]
      · rw [evE_pu p.2 h, evE_pu p.1 q]
      · cases h
  | .not a, env, e1, d, p, h => by
    simp only [E.pu] at p
    simp only [evE] at h
    cases q : evE C a env with
    | bad => rw [q] at h; simp at h
    | exc x e => rw [q] at h; simp at h
    | ok x e2 =>
      rw [q] at h
      simp only [Res.bind] at h
      split at h <;> simp only [Res.ok.injEq, reduceCtorEq] at h
      rw [← h.2, evE_pu p q]
  | .ife c a b, env, e1, d, p, h => by
    simp only [E.pu, Bool.and_eq_true] at p
    simp only [evE] at h
    cases q : evE C c env with
    | bad => rw [q] at h; simp at h
    | exc x e => rw [q] at h; simp at h
    | ok x e2 =>
      rw [q] at h
      simp only [Res.bind] at h
      split at h
      · rw [evE_pu p.1.2 h, evE_pu p.1.1 q]
      · rw [evE_pu p.2 h, evE_pu p.1.1 q]
      · cases h
  | .chn _ _ a b c, env, e1, d, p, h => by
    simp only [E.pu, Bool.and_eq_true] at p
    simp only [evE] at h
    cases q : evE C a env with
    | bad => rw [q] at h; simp at h
    | exc x e => rw [q] at h; simp at h
    | ok x e2 =>
      rw [q] at h
      simp only [Res.bind] at h
      split at h
      · cases h
      cases q2 : evE C b e2 with
      | bad => rw [q2] at h; simp at h
      | exc x e => rw [q2] at h; simp at h
      | ok y e3 =>
        rw [q2] at h
        simp only at h
        split at h
        · simp only [Res.ok.injEq] at h
          rw [← h.2, evE_pu p.1.2 q2, evE_pu p.1.1 q]
        · split at h
          · cases h
          cases q3 : evE C c e3 with
          | bad => rw [q3] at h; simp at h
          | exc x e => rw [q3] at h; simp at h
          | ok z e4 =>
            rw [q3] at h
            simp only at h
            split at h <;> simp only [Res.ok.injEq, reduceCtorEq] at h
            rw [← h.2, evE_pu p.2 q3, evE_pu p.1.2 q2, evE_pu p.1.1 q]
        · cases h
  | .tup es, env, e1, d, p, h => by
    simp only [E.pu] at p
    simp only [evE] at h
    cases q : evOs C es env with
    | bad => rw [q] at h; simp at h
    | exc x e => rw [q] at h; simp at h
    | ok x e2 =>
      rw [q] at h
      simp only [Res.bind] at h
      split at h <;> simp only [Res.ok.injEq, reduceCtorEq] at h
      rw [← h.2, evOs_pu p q]
  | .lst es, env, e1, d, p, h => by
    simp only [E.pu] at p
    simp only [evE] at h
    cases q : evOs C es env with
    | bad => rw [q] at h; simp at h
    | exc x e => rw [q] at h; simp at h
    | ok x e2 =>
      rw [q] at h
      simp only [Res.bind] at h
      split at h <;> simp only [Res.ok.injEq, reduceCtorEq] at h
      rw [← h.2, evOs_pu p q]
  | .dic es, env, e1, d, p, h => by
    simp only [E.pu] at p
    simp only [evE] at h
    cases q : evOs C es env with
    | bad => rw [q] at h; simp at h
    | exc x e => rw [q] at h; simp at h
    | ok x e2 =>
      rw [q] at h
      simp only [Res.bind] at h
      split at h <;> simp only [Res.ok.injEq, reduceCtorEq] at h
      rw [← h.2, evOs_pu p q]
  | .call _ _, _, _, _, p, _ => by simp [E.pu] at p
  | .kcall _ _ _, _, _, _, p, _ => by simp [E.pu] at p
  | .dup _ _ _, _, _, _, p, _ => by simp [E.pu] at p
  | .gen _ _ _ _, _, _, _, p, _ => by simp [E.pu] at p
  | .mm _ _ _, _, _, _, p, _ => by simp [E.pu] at p
  | .lc _ _ _ _ _, _, _, _, p, _ => by simp [E.pu] at p
  | .sc2 _ _ _ _ _ _ _ _, _, _, _, p, _ => by simp [E.pu] at p
theorem evEs_pu {C : Ctx} : ∀ {es : Es} {env e1 : Env} {ds : List D}, es.pu = true → evEs C es env = .ok ds e1 → e1 = env
  | .nil, env, e1, d, _, h => by simp only [evEs, Res.ok.injEq] at h; exact h.2.symm
  | .cons e r, env, e1, d, p, h => by
    simp only [Es.pu, Bool.and_eq_true] at p
    simp only [evEs] at h
    cases q : evE C e env with
    | bad => rw [q] at h; simp at h
    | exc x e => rw [q] at h; simp at h
    | ok x e2 =>
      rw [q] at h
      simp only [Res.bind] at h
      split at h
      · cases h
      cases q2 : evEs C r e2 with
      | bad => rw [q2] at h; simp at h
      | exc x e => rw [q2] at h; simp at h
      | ok y e3 =>
        rw [q2] at h
        simp only [Res.ok.injEq] at h
        rw [← h.2, evEs_pu p.2 q2, evE_pu p.1 q]
theorem evOs_pu {C : Ctx} : ∀ {es : Es} {env e1 : Env} {ds : List D}, es.pu = true → evOs C es env = .ok ds e1 → e1 = env
  | .nil, env, e1, d, _, h => by simp only [evOs, Res.ok.injEq] at h; exact h.2.symm
  | .cons e r, env, e1, d, p, h => by
    simp only [Es.pu, Bool.and_eq_true] at p
    simp only [evOs] at h
    cases q : evE C e env with
    | bad => rw [q] at h; simp at h
    | exc x e => rw [q] at h; simp at h
    | ok x e2 =>
      rw [q] at h
      simp only [Res.bind] at h
      split at h
      · cases h
      cases q2 : evOs C r e2 with
      | bad => rw [q2] at h; simp at h
      | exc x e => rw [q2] at h; simp at h
      | ok y e3 =>
        rw [q2] at h
        simp only [Res.ok.injEq] at h
        rw [← h.2, evOs_pu p.2 q2, evE_pu p.1 q]
end

section
variable {X : Cx} {rx : XR} {W : WX} {C : Ctx} {σ : L2.St} {H : Hp} {Q : VK}
theorem tE_mm {m : MM} {o : E} {es : Es} (h : tE X.K rx W C (.mm m o es) σ H Q) : tP X.K C o σ H fun x H1 => tyV X.K "list" x H1 ∧ tO X.K rx W C es σ H1 fun xs H2 => ∃ rd, MtR X (mmId m) rd ∧ rd x xs H2 Q := by
  obtain ⟨env, P, hE, h⟩ := h
  simp only [evE] at h
  cases q : evP C o env with
  | none => rw [q] at h; exact h.elim
  | some ik =>
    obtain ⟨i, ks⟩ := ik
    rw [q] at h
    simp only at h
    split at h
    · rename_i hc
      simp only [Bool.and_eq_true, Bool.or_eq_true] at hc
      obtain ⟨hc1, hc2⟩ := hc
      -- the thing as it stands ahead
      obtain ⟨x0, ds0, hx0, hg0⟩ : ∃ x0 ds0, env[i]? = some (some x0) ∧ getK x0 ks = some (.lst true ds0) := by
        unfold nodeAt at hc2
        cases q2 : env[i]? with
        | none => rw [q2] at hc2; simp [mmTy] at hc2
        | some ox =>
          cases ox with
          | none => rw [q2] at hc2; simp [mmTy] at hc2
          | some x0 =>
            rw [q2] at hc2
            simp only at hc2
            cases q3 : getK x0 ks with
            | none => rw [q3] at hc2; simp [mmTy] at hc2
            | some d0 =>
              rw [q3] at hc2
              cases d0 <;> simp only [mmTy, Bool.false_eq_true] at hc2
              rename_i m0 ds0
              cases m0 <;> simp only [Bool.false_eq_true] at hc2
              exact ⟨x0, ds0, rfl, q3⟩
      refine ⟨env, Tt H P, i, ks, x0, _, hE.tight, q, hx0, hg0, fun v H1 ev1 foc hv => ⟨?_, ?_⟩⟩
      · obtain ⟨Pd, Pr, s, ⟨a, xs, Q1, rfl, s1, r1⟩, w⟩ := foc
        exact .inl ⟨rfl, xs, .inl s1.rd⟩
      · refine ⟨env, Tt H P, hE.tight.ev ev1, ?_⟩
        cases q2 : evOs C es env with
        | bad => rw [q2] at h; exact h.elim
        | exc x e1 =>
          rw [q2] at h
          exact exc_on (P1 := Tt H P) h (fun a z => .inl z.1) ev1.of_no
        | ok ds e1 =>
          rw [q2] at h
          simp only [Res.bind] at h
          intro vs H2 P1 P2 r1 rs dj n2 hn ev2
          cases q3 : e1[i]? with
          | none => rw [q3] at h; exact h.elim
          | some ox =>
            cases ox with
            | none => rw [q3] at h; exact h.elim
            | some x =>
              rw [q3] at h
              simp only at h
              cases q4 : getK x ks with
              | none => rw [q4] at h; exact h.elim
              | some y =>
                rw [q4] at h
                simp only at h
                cases q5 : mmAp m y ds with
                | none => rw [q5] at h; exact h.elim
                | some ry =>
                  obtain ⟨r, y'⟩ := ry
                  rw [q5] at h
                  simp only at h
                  cases q6 : putKs x ks y' with
                  | none => rw [q6] at h; exact h.elim
                  | some x' =>
                    rw [q6] at h
                    simp only at h
                    -- where the thing stands now
                    obtain ⟨PA, foc2, djA, nA⟩ : ∃ PA, Foc X.K H2 σ e1 PA i ks x y v ∧ (∀ a, PA a → ¬ P2 a) ∧ New P H PA := by
                      cases ks with
                      | nil =>
                        cases q4
                        exact ⟨P1, foc_var r1 q3 (hv rfl), dj, fun a z => (hn a z).elim (fun z => .inl z.1) fun z => by
                          right
                          cases qq : H a with
                          | none => rfl
                          | some o => exact absurd z (ev1.dom a (by rw [qq]; exact fun z => nomatch z))⟩
                      | cons k0 ks0 =>
                        have hp : es.pu = true := by simpa using hc1
                        obtain rfl := evOs_pu hp q2
                        rw [hx0] at q3
                        cases q3
                        rw [hg0] at q4
                        cases q4
                        have ev3 : Ev No H1 H2 := ev2.mono fun _ z => by have := z.1; rw [hp] at this; cases this
                        refine ⟨Tt H P, foc.ev ev3, fun a z y => ?_, fun a z => .inl z.1⟩
                        rcases n2 a y with u | u
                        · have := u.1; rw [hp] at this; cases this
                        · exact (ev1.dom a z.2) u
                    obtain ⟨Pd, Pr, s, ry, w⟩ := foc2
                    have dd : ∀ a, Pd a → ¬ P2 a := fun a z => djA a (s.1 a z)
                    refine mm_ok ry rs dd q5 fun vr H3 P3 P4 r3 r4 d34 n3 n4 ev3 => ?_
                    have nH : New P H P2 := fun a z => by
                      rcases n2 a z with u | u
                      · exact .inl u.2.1
                      · right
                        cases qq : H a with
                        | none => rfl
                        | some o => exact absurd u (ev1.dom a (by rw [qq]; exact fun z => nomatch z))
                    have d2r : ∀ a, Pr a → ¬ P2 a := fun a z => djA a (s.2.1 a z)
                    have dsj : ∀ (P5 : Own), (∀ a, P5 a → Pd a ∨ P2 a) → ∀ a, P5 a → ¬ Pr a := fun P5 hs a z y => (hs a z).elim (fun z => s.2.2 a z y) fun z => d2r a y z
                    have rE := w H3 y' P4 x' q6 r4 (dsj P4 n4) ev3
                    have nd : New P H Pd := nA.sub s.1
                    refine h vr H3 (Uni P4 Pr) P3 rE r3 (fun _ => ⟨fun a z y => z.elim (d34 a y) fun z => dsj P3 n3 a y z, fun a z => ((n3 a z).elim (nd a) (nH a)).imp (fun z => ⟨rfl, z⟩) id⟩)
                      (fun a z => z.elim (fun z => (n4 a z).elim (nd a) (nH a)) fun z => nA a (s.2.1 a z)) ?_
                    have e12 : Ev P H H2 := ev1.of_no.trans (ev2.eo.mono fun _ z => z.1) New.refl
                    refine (e12.trans ev3 ?_).mono fun _ z => ⟨rfl, z⟩
                    exact nd
    · exact h.elim
end
section
variable {X : Cx} {rx : XR} {W : WX} {C : Ctx} {o : E} {eo e : Expr} {el : List Expr} {es : Es} {pos apos cpos : Pos} {m : MM} {name : Str}
theorem mt_some {id : String} : MtR X id (fun x xs H Q => ∃ rd, MtR X id rd ∧ rd x xs H Q) := fun pins s σ H x xs v us Q I rx rs h => let ⟨_, a, b⟩ := h; a pins s σ H x xs v us Q I rx rs b
theorem s_mm (slot : Slot "list" name (mmId m)) (hty : typeOf (.builtin (mmId m)) = pure (.type "method_descriptor")) (ho : PE X eo (tP X.K C o)) (ha : PA X (e :: el) (tO X.K rx W C es))
    (hbase : attributeBase eo name X.env (eval eo X.env) = eval eo X.env)
    (hfew : ((backTo cpos (starEach (e :: el) X.env)).all (fun x => !x.1) && (backToKw cpos (keywordEach [] X.env)).all (fun x => x.1.isSome) && decide ((e :: el).length + ([] : List Keyword).length + (if ([] : List Keyword).isEmpty then 0 else 1) < 30)) = true)
    (hline : (apos.endLine == cpos.line) = true) (hs : starEach (e :: el) X.env = (false, eval e X.env) :: starEach el X.env) (hplain : (backTo cpos (starEach el X.env)).any (·.1) = false) :
    PE X (.Call (.Attribute eo name apos) (e :: el) [] cpos) (tE X.K rx W C (.mm m o es)) :=
  PE.of fun σ H Q h => ⟨_, pe_bm PySem.F.plainAttrs_list slot hty mt_some ho ha hbase hfew hline hs hplain, tE_mm h⟩
theorem s_mm0 (slot : Slot "list" name (mmId m)) (hty : typeOf (.builtin (mmId m)) = pure (.type "method_descriptor")) (ho : PE X eo (tP X.K C o)) (hbase : attributeBase eo name X.env (eval eo X.env) = eval eo X.env) (hline : (apos.endLine == cpos.line) = true) :
    PE X (.Call (.Attribute eo name apos) [] [] cpos) (tE X.K rx W C (.mm m o .nil)) :=
  PE.of fun σ H Q h => ⟨_, pe_bm0 PySem.F.plainAttrs_list slot hty mt_some ho hbase hline, by
    have h2 := tE_mm h
    obtain ⟨env, P, i, ks, x, d, h1, h3, h4, h5, h6⟩ := h2
    exact ⟨env, P, i, ks, x, d, h1, h3, h4, h5, fun v H' ev fc hv => let z := h6 v H' ev fc hv; ⟨z.1, o_nil z.2⟩⟩⟩
end
end Z

namespace Z
open PySem PySem.Spec L2
variable [TabList]

theorem passAtN {X : Cx} {W : WX} (tk : L2N.Takes X W) (σ : L2.St) : PassesAt (L2N.CX X.prog X.w) X σ (WE W σ) := fun _ _ _ e s' I c => tk e s' (L2N.XE.of_call I (fun _ _ _ h => h) c)
/-- what a def keeps, by a total function of value trees -/
def spF (K : PySem.W.Frag) (rx : XR) (sem : List D → CRes) : Sp := fun vs H Q E => Tabs H ∧ ∃ ds P, Rels K H ds vs P ∧ match sem ds with
  | .ok d fin => ∀ v H' P1 P2, RelE K H' fin (vs.map some) P1 → Rel K H' d v P2 → (∀ a, P1 a → ¬ P2 a) → New P H P1 → New P H P2 → Ev P H H' → Q v H'
  | .exc x fin => ∀ c dd H' P1, RelE K H' fin (vs.map some) P1 → rx x c dd H' → New P H P1 → Ev P H H' → E c dd H'
  | .bad => False
/-- what was lent, and from where -/
def Bk (σ : L2.St) : List (Option Nat) → List V → Prop
  | [], _ => True
  | some i :: bs, v :: vs => σ[i]? = some (some v) ∧ Bk σ bs vs
  | none :: bs, _ :: vs => Bk σ bs vs
  | _ :: _, [] => False
def PostC (K : PySem.W.Frag) (rx : XR) (W : WX) (P : Own) (σ : L2.St) (H : Hp) (r : Res (List D × List (Option Nat))) (Q : List V → Hp → Prop) : Prop :=
  match r with
  | .ok db env' => ∀ vs H' P1 P2, RelE K H' env' σ P1 → Rels K H' db.1 vs P2 → (∀ a, P1 a → ¬ P2 a) → New P H P2 → New P H P1 → Ev P H H' → Bk σ db.2 vs → Q vs H'
  | .exc x env' => ∀ c dd H' P1, RelE K H' env' σ P1 → rx x c dd H' → New P H P1 → Ev P H H' → W c dd σ H'
  | .bad => False
def tCs (K : PySem.W.Frag) (rx : XR) (W : WX) (C : Ctx) (es : Es) : TA := fun σ H Q => ∃ env P, RelE K H env σ P ∧ PostC K rx W P σ H (evCs C es env) Q
def E.isVar : E → Bool
  | .var _ => true
  | _ => false

section
variable {K : PySem.W.Frag} {rx : XR} {W : WX} {C : Ctx} {σ : L2.St} {H : Hp} {R : List V → Hp → Prop}
theorem giveBack_rel : ∀ {bs : List (Option Nat)} {vs : List V} {fin env : Env} {P1 P3 : Own}, Bk σ bs vs → RelE K H env σ P1 → RelE K H fin (vs.map some) P3 → (∀ a, P1 a → ¬ P3 a) → RelE K H (giveBack bs fin env) σ (Uni P1 P3)
  | [], vs, fin, env, P1, P3, _, h, _, _ => by
    cases fin <;> exact h.mono fun _ z => .inl z
  | b :: bs, [], fin, env, P1, P3, hb, h, _, _ => by
    cases b <;> exact hb.elim
  | b :: bs, v :: vs, [], env, P1, P3, hb, h, _, _ => by
    cases b <;> exact h.mono fun _ z => .inl z
  | none :: bs, v :: vs, od :: fin, env, P1, P3, hb, h, hf, dj => by
    obtain ⟨ov, σ', Pa, Pb, e, s, r, rs⟩ := hf
    obtain ⟨rfl, rfl⟩ := List.cons.inj e
    exact (giveBack_rel (bs := bs) (vs := vs) (fin := fin) hb h rs fun a z y => dj a z (s.2.1 a y)).mono fun a z => z.imp id (s.2.1 a)
  | some i :: bs, v :: vs, od :: fin, env, P1, P3, hb, h, hf, dj => by
    obtain ⟨ov, σ', Pa, Pb, e, s, r, rs⟩ := hf
    obtain ⟨rfl, rfl⟩ := List.cons.inj e
    have h2 : RelE K H (env.set i od) σ (Uni P1 Pa) := by
      cases od with
      | none => exact h.drop'.mono fun _ z => .inl z
      | some d =>
        obtain ⟨v', e2, r⟩ := r
        obtain rfl := Option.some.inj e2
        exact h.drop'.put ⟨fun a z => .inr z, fun a z => .inl z, fun a z y => dj a y (s.1 a z)⟩ r hb.1
    exact (giveBack_rel (bs := bs) (vs := vs) (fin := fin) hb.2 h2 rs fun a z y => z.elim (fun z => dj a z (s.2.1 a y)) fun z => s.2.2 a z y).mono fun a z => z.elim (fun z => z.imp id (s.1 a)) fun z => .inr (s.2.1 a z)
theorem c_nil (h : tCs K rx W C .nil σ H R) : R [] H := by
  obtain ⟨env, P, hE, h⟩ := h
  exact h [] H P No hE rfl (fun _ _ z => z) (fun _ z => z.elim) New.refl Ev.refl trivial
theorem c_cons {e : E} {r : Es} (hv : e.isVar = false) (h : tCs K rx W C (.cons e r) σ H R) : tE K rx W C e σ H fun v H1 => tCs K rx W C r σ H1 fun vs H2 => R (v :: vs) H2 := by
  obtain ⟨env, P, hE, h⟩ := h
  refine ⟨env, P, hE, ?_⟩
  have h : PostC K rx W P σ H ((evE C e env).bind fun d e1 => if (e.pth && !imm d) = true then .bad else (evCs C r e1).bind fun p e2 => .ok (d :: p.1, none :: p.2) e2) R := by
    cases e <;> first | exact h | exact nomatch hv
  cases q : evE C e env with
  | bad => rw [q] at h; exact h.elim
  | exc x e1 => rw [q] at h; exact h
  | ok d e1 =>
    rw [q] at h
    simp only [Res.bind] at h
    intro v H1 P1 P2 r1 rd hd hn ev
    split at h
    · exact h.elim
    rename_i hc
    obtain ⟨P5, rd5, dj5, n5⟩ : ∃ P5, Rel K H1 d v P5 ∧ (∀ a, P1 a → ¬ P5 a) ∧ New P H P5 := by
      cases hp : e.pth with
      | false => exact ⟨P2, rd, (hd hp).1, fun a z => ((hd hp).2 a z).imp (fun y => y.2) id⟩
      | true =>
        have hi : imm d = true := by simpa [hp] using hc
        exact ⟨No, Rel.imm hi rd, fun _ _ z => z, fun _ z => z.elim⟩
    refine ⟨e1, P1, r1, ?_⟩
    cases q2 : evCs C r e1 with
    | bad => rw [q2] at h; exact h.elim
    | exc x e2 =>
      rw [q2] at h
      exact exc_on h hn ev.eo
    | ok db e2 =>
      rw [q2] at h
      intro vs H2 P3 P4 r3 rs dj4 n4 hn3 ev3 bk
      have rd6 := (rd5.tight).frame ev3 fun a z y => dj5 a y z.1
      have ap : ∀ a, Tt H1 P5 a → ¬ P4 a := fun a z y => (n4 a y).elim (fun y => dj5 a y z.1) z.2
      have ap3 : ∀ a, P3 a → ¬ Tt H1 P5 a := fun a z y => (hn3 a z).elim (fun z => dj5 a z y.1) y.2
      exact h (v :: vs) H2 P3 (Uni (Tt H1 P5) P4) r3 (Rels.cons (Sep.uni ap) rd6 rs) (fun a z y => y.elim (ap3 a z) (dj4 a z)) (fun a z => z.elim (fun z => n5 a z.1) (hn.trans ev.eo n4 a)) (hn.trans ev.eo hn3) (ev.eo.trans ev3 hn) bk
theorem c_var {i : Nat} {r : Es} (h : tCs K rx W C (.cons (.var i) r) σ H R) : tVar i σ H fun v H1 => tCs K rx W C r σ H1 fun vs H2 => R (v :: vs) H2 := by
  obtain ⟨env, P, hE, h⟩ := h
  simp only [evCs, evE] at h
  cases q : env[i]? with
  | none => rw [q] at h; exact h.elim
  | some od =>
    cases od with
    | none => rw [q] at h; exact h.elim
    | some d =>
      rw [q] at h
      simp only [Res.bind] at h
      obtain ⟨v, P1, P2, e, s, r1, rs⟩ := hE.get q
      refine ⟨v, e, ?_⟩
      split at h
      · rename_i hi
        refine ⟨env, P, hE, ?_⟩
        cases q2 : evCs C r env with
        | bad => rw [q2] at h; exact h.elim
        | exc x e2 => rw [q2] at h; exact h
        | ok db e2 =>
          rw [q2] at h
          intro vs H2 P3 P4 r3 rs4 dj4 n4 hn3 ev3 bk
          exact h (v :: vs) H2 P3 P4 r3 (Rels.cons Sep.nl ((Rel.imm hi r1).frame ev3 fun _ z => z.elim) rs4) dj4 n4 hn3 ev3 bk
      · refine ⟨env, P, hE, ?_⟩
        cases q2 : evCs C r env with
        | bad => rw [q2] at h; exact h.elim
        | exc x e2 => rw [q2] at h; exact h
        | ok db e2 =>
          rw [q2] at h
          simp only at h
          intro vs H2 P3 P4 r3 rs4 dj4 n4 hn3 ev3 bk
          split at h
          rotate_left
          · exact h.elim
          rename_i d' hd'
          obtain ⟨v', P5, P6, e', s', r5, r6⟩ := r3.get hd'
          obtain rfl : v' = v := by rw [e] at e'; injection e' with e'; injection e' with e'; exact e'.symm
          exact h (v' :: vs) H2 P6 (Uni P5 P4) r6 (Rels.cons (Sep.uni fun a z y => dj4 a (s'.1 a z) y) r5 rs4) (fun a z y => y.elim (fun y => s'.2.2 a y z) (dj4 a (s'.2.1 a z))) (fun a z => z.elim (fun z => hn3 a (s'.1 a z)) (n4 a)) (fun a z => hn3 a (s'.2.1 a z)) ev3 ⟨e, bk⟩
theorem tE_call {f : Nat} {es : Es} {Q : VK} (h : tE K rx W C (.call f es) σ H Q) : tCs K rx W C es σ H fun vs H1 => spF K rx (C.call f) vs H1 Q fun c dd H' => W c dd σ H' := by
  obtain ⟨env, P, hE, h⟩ := h
  refine ⟨env, P, hE, ?_⟩
  simp only [evE] at h
  cases q : evCs C es env with
  | bad => rw [q] at h; exact h.elim
  | exc x e1 => rw [q] at h; exact h
  | ok db e1 =>
    obtain ⟨ds, bs⟩ := db
    rw [q] at h
    simp only [Res.bind] at h
    intro vs H1 P1 P2 r1 rs dj n2 hn ev bk
    refine ⟨r1.tabs, ds, Tt H1 P2, rs.tight, ?_⟩
    have dj1 : ∀ a, Tt H1 P1 a → ¬ Tt H1 P2 a := fun a z y => dj a z.1 y.1
    cases q2 : C.call f ds with
    | bad => rw [q2] at h; exact h.elim
    | ok d fin =>
      rw [q2] at h
      intro v H2 P3 P4 rf rd d34 n3 n4 ev2
      have a3 : ∀ a, Tt H1 P1 a → ¬ P3 a := fun a z y => (n3 a y).elim (dj1 a z) z.2
      have a4 : ∀ a, Tt H1 P1 a → ¬ P4 a := fun a z y => (n4 a y).elim (dj1 a z) z.2
      have rE := giveBack_rel bk (r1.tight.frame ev2 dj1) rf a3
      have up : ∀ P5 : Own, New (Tt H1 P2) H1 P5 → New P H P5 := fun P5 n => fun a y => (n a y).elim (fun y => n2 a y.1) fun y => by
        right
        cases qq : H a with
        | none => rfl
        | some o => exact absurd y (ev.dom a (by rw [qq]; exact fun z => nomatch z))
      refine h v H2 (Uni (Tt H1 P1) P3) P4 rE rd (fun _ => ⟨fun a z y => z.elim (fun z => a4 a z y) fun z => d34 a z y, fun a z => (up P4 n4 a z).imp (fun y => ⟨rfl, y⟩) id⟩) (fun a z => z.elim (fun z => hn a z.1) (up P3 n3 a)) ((ev.trans ev2 fun a z => n2 a z.1).mono fun _ z => ⟨rfl, z⟩)
    | exc x fin =>
      rw [q2] at h
      intro c dd H2 P3 rf hx n3 ev2
      have a3 : ∀ a, Tt H1 P1 a → ¬ P3 a := fun a z y => (n3 a y).elim (dj1 a z) z.2
      have rE := giveBack_rel bk (r1.tight.frame ev2 dj1) rf a3
      refine h c dd H2 _ rE hx (fun a z => z.elim (fun z => hn a z.1) fun z => (n3 a z).elim (fun y => n2 a y.1) fun y => ?_) (ev.trans ev2 fun a z => n2 a z.1)
      right
      cases qq : H a with
      | none => rfl
      | some o => exact absurd y (ev.dom a (by rw [qq]; exact fun z => nomatch z))
end

/-- a def of the program, as it is called here -/
def FnAt (X : Cx) (rx : XR) (k : Nat) (x : Str) (sem : List D → CRes) : Prop :=
  ∃ f fd ps, FnOk X.prog X.w X.K X.mg X.base (L2N.CX X.prog X.w) k f fd ps (spF X.K rx sem) ∧ X.mg x = some (.ref f) ∧ PySem.W.keepIn X.K (.ref f) = true ∧ L2.Binds X.K fd ps []
section
variable {X : Cx} {rx : XR} {W : WX} {C : Ctx} {a : E} {ea e : Expr} {es r : Es} {el : List Expr} {pos p : Pos} {x : Str} {k f : Nat}
theorem sc_nil : PA X [] (tCs X.K rx W C .nil) := PA.of fun σ H Q h => ⟨_, pa_nil, c_nil h⟩
theorem sc_cons (hv : a.isVar = false) (ha : PE X ea (tE X.K rx W C a)) (hr : PA X el (tCs X.K rx W C r)) (hs : starEach (ea :: el) X.env = (false, eval ea X.env) :: starEach el X.env) : PA X (ea :: el) (tCs X.K rx W C (.cons a r)) :=
  PA.of fun σ H Q h => ⟨_, pa_cons ha hr hs, c_cons hv h⟩
theorem sc_var {i : Nat} {y : Str} {yp : Pos} (hN : X.N[i]? = some y) (hv : Vis X.env.scope y) (hd : (y == ("__debug__" : Str)) = false) (hcd : (y == ("__classdict__" : Str)) = false) (hr : PA X el (tCs X.K rx W C r)) (hs : starEach (.Name y yp :: el) X.env = (false, eval (.Name y yp) X.env) :: starEach el X.env) : PA X (.Name y yp :: el) (tCs X.K rx W C (.cons (.var i) r)) :=
  PA.of fun σ H Q h => ⟨_, pa_cons (pe_var hN hv hd hcd) hr hs, c_var h⟩
theorem s_call (F : FnAt X rx k x (C.call f)) (hr : Room k X.A) (tk : L2N.Takes X W) (hg : Gl X x) (ha : PA X (e :: el) (tCs X.K rx W C es)) (hdb : (x == ("__debug__" : Str)) = false)
    (he : starEach (e :: el) X.env = (false, eval e X.env) :: starEach el X.env) (hpl : (backTo pos (starEach el X.env)).any (·.1) = false) : PE X (.Call (.Name x p) (e :: el) [] pos) (tE X.K rx W C (.call f es)) := by
  obtain ⟨fa, fd, ps, F, hm, hk, hb⟩ := F
  refine PE.of fun σ H Q h => ⟨_, pe_callSD F hr hg hm hk hb .nil (E := fun σ => WE W σ) (fun σ => passAtN tk σ) ha hdb he hpl, ?_⟩
  have h2 := tE_call h
  unfold tCallSD
  simp only [List.append_nil]
  exact h2
theorem s_call0 (F : FnAt X rx k x (C.call f)) (hr : Room k X.A) (tk : L2N.Takes X W) (hg : Gl X x) (hdb : (x == ("__debug__" : Str)) = false) : PE X (.Call (.Name x p) [] [] pos) (tE X.K rx W C (.call f .nil)) := by
  obtain ⟨fa, fd, ps, F, hm, hk, hb⟩ := F
  refine ⟨fun pins s σ H Q I h => ?_⟩
  have h2 := c_nil (tE_call h)
  refine wpAny_Call_Name_kw (ld_glob I hg hm ?_ hdb)
  exact PySem.W.callWith_K0 I.kIn hk (run_fnSD (us := []) (vs := []) (dvs := []) (E := fun σ => WE W σ) F hr hb .nil (passAtN tk σ) I .nil h2)
end
end Z

namespace Z
open PySem PySem.Spec L2
variable [TabList]

/-- slots that stay -/
def Kp (kp : Nat → Bool) (σ σ' : L2.St) : Prop := ∀ i, kp i = true → σ'[i]? = σ[i]?
theorem Kp.refl {kp : Nat → Bool} {σ : L2.St} : Kp kp σ σ := fun _ _ => rfl
theorem Kp.trans {kp : Nat → Bool} {σ σ' σ2 : L2.St} (a : Kp kp σ σ') (b : Kp kp σ' σ2) : Kp kp σ σ2 := fun i h => (b i h).trans (a i h)
theorem Kp.set {kp : Nat → Bool} {σ : L2.St} {i : Nat} {v : Option V} (h : kp i = false) : Kp kp σ (σ.set i v) := fun j hj => by
  have : i ≠ j := fun e => by rw [e, hj] at h; cases h
  rw [List.getElem?_set_ne this]

theorem bindTs_len : ∀ {ts : List Tg} {ds : List D} {env env' : Env}, bindTs ts ds env = some env' → ts.length = ds.length
  | [], [], _, _, _ => rfl
  | [], _ :: _, _, _, h => by simp [bindTs] at h
  | _ :: _, [], _, _, h => by simp [bindTs] at h
  | t :: ts, d :: ds, _, _, h => by
    simp only [bindTs, Option.bind_eq_some_iff] at h
    obtain ⟨e2, _, h2⟩ := h
    simp [bindTs_len h2]
/-! ### targets -/
def tG (K : PySem.W.Frag) (kp : Nat → Bool) (t : Tg) : TG := fun v σ H Q => t.free kp = true ∧ ∃ d env P1 P2 env', RelE K H env σ P1 ∧ Rel K H d v P2 ∧ (∀ a, P1 a → ¬ P2 a) ∧ bindT t d env = some env' ∧ ∀ σ', RelE K H env' σ' (Uni P1 P2) → Kp kp σ σ' → Q σ' H
def tGs (K : PySem.W.Frag) (kp : Nat → Bool) (ts : List Tg) : TGs := fun vs σ H Q => Tg.frees kp ts = true ∧ ∃ ds env P1 P2 env', RelE K H env σ P1 ∧ Rels K H ds vs P2 ∧ (∀ a, P1 a → ¬ P2 a) ∧ bindTs ts ds env = some env' ∧ ∀ σ', RelE K H env' σ' (Uni P1 P2) → Kp kp σ σ' → Q σ' H
theorem PG.of {X : Cx} {e : Expr} {t' : TG} (h : ∀ v σ H Q, t' v σ H Q → ∃ t, PG X e t ∧ t v σ H Q) : PG X e t' := ⟨fun pins s σ H v u Q I r hw => let ⟨_, a, b⟩ := h v σ H Q hw; a.run pins s σ H v u Q I r b⟩
theorem PGs.of {X : Cx} {e : List Expr} {t' : TGs} (h : ∀ v σ H Q, t' v σ H Q → ∃ t, PGs X e t ∧ t v σ H Q) : PGs X e t' := ⟨fun pins s σ H v u Q I r hw => let ⟨_, a, b⟩ := h v σ H Q hw; a.run pins s σ H v u Q I r b⟩
section
variable {X : Cx} {kp : Nat → Bool}
theorem g_name {i : Nat} {x : Str} {pos : Pos} (hN : X.N.Nodup) (hi : X.N[i]? = some x) (hx : Loc X.env.scope x) (hf : X.fn x = true ∨ X.env.scope.names.lookup x = some .local) : PG X (.Name x pos) (tG X.K kp (.one i)) :=
  PG.of fun v σ H Q ⟨hk, d, env, P1, P2, env', hE, r, dj, hb, h⟩ => ⟨_, pg_name hN hi hx hf, by
    simp only [bindT, Option.ite_none_right_eq_some, Option.some.injEq] at hb
    obtain ⟨hl, rfl⟩ := hb
    refine h _ ((hE.store (P := Uni P1 P2) hl ⟨fun _ z => .inr z, fun _ z => .inl z, fun a z y => dj a y z⟩ r)) (Kp.set ?_)
    simpa [Tg.free] using hk⟩
theorem g_tup {es : List Expr} {ts : List Tg} {k : Nat} {pos : Pos} (hc : X.calm = true) (h : PGs X es (tGs X.K kp ts)) (hn : (assignEach es X.env).length = ts.length) (hst : (assignEach es X.env).findIdx? (·.1) = none) : PG X (.Tuple es k pos) (tG X.K kp (.tup ts)) :=
  PG.of fun v σ H Q ⟨hk, d, env, P1, P2, env', hE, r, dj, hb, hq⟩ => by
    cases d <;> simp only [bindT, reduceCtorEq] at hb
    rename_i ds
    obtain ⟨a, vs, rfl, s, r⟩ := r
    refine ⟨_, pg_tup hc h hn hst, a, vs, rfl, s, ?_, by simpa [Tg.free] using hk, ds, env, P1, P2, env', hE, r, dj, hb, hq⟩
    have e1 : ts.length = ds.length := by
      clear hq h hn hst hk r hE
      exact bindTs_len hb
    rw [e1, r.length]
theorem g_nil : PGs X [] (tGs X.K kp []) := PGs.of fun vs σ H Q ⟨hk, ds, env, P1, P2, env', hE, r, dj, hb, h⟩ => ⟨_, pgs_nil, by
  cases ds with
  | nil =>
    simp only [bindTs, Option.some.injEq] at hb
    subst hb
    exact ⟨r, h σ (hE.mono fun _ z => .inl z) Kp.refl⟩
  | cons d ds => simp [bindTs] at hb⟩
theorem g_cons {e : Expr} {es : List Expr} {t : Tg} {ts : List Tg} (h1 : PG X e (tG X.K kp t)) (h2 : PGs X es (tGs X.K kp ts)) (hs : (assignEach (e :: es) X.env).map (·.2) = assign e X.env :: (assignEach es X.env).map (·.2)) : PGs X (e :: es) (tGs X.K kp (t :: ts)) :=
  PGs.of fun vs σ H Q ⟨hk, ds, env, P1, P2, env', hE, r, dj, hb, h⟩ => ⟨_, pgs_cons h1 h2 hs, by
    cases ds with
    | nil => simp [bindTs] at hb
    | cons d ds =>
      simp only [bindTs, Option.bind_eq_some_iff] at hb
      obtain ⟨e1, b1, b2⟩ := hb
      simp only [Tg.frees, Bool.and_eq_true] at hk
      obtain ⟨v, vs', Pa, Pb, rfl, s, ra, rb⟩ := r
      refine ⟨v, vs', rfl, hk.1, d, env, P1, Pa, e1, hE, ra, fun a z y => dj a z (s.1 a y), b1, fun σ1 hE1 k1 => ?_⟩
      exact ⟨hk.2, ds, e1, Uni P1 Pa, Pb, env', hE1, rb, fun a z y => z.elim (fun z => dj a z (s.2.1 a y)) fun z => s.2.2 a z y, b2, fun σ2 hE2 k2 => h σ2 (hE2.mono fun a z => z.elim (fun z => z.imp id (s.1 a)) fun z => .inr (s.2.1 a z)) (k1.trans k2)⟩⟩
end

/-! ### statements -/
def PostS (K : PySem.W.Frag) (rx : XR) (W : WX) (kp : Nat → Bool) (P : Own) (σ : L2.St) (H : Hp) (r : SRes) (D : Ends) : Prop :=
  match r with
  | .next env' => ∀ σ' H' P1, RelE K H' env' σ' P1 → New P H P1 → Ev P H H' → Kp kp σ σ' → D.nx σ' H'
  | .brk env' => ∀ σ' H' P1, RelE K H' env' σ' P1 → New P H P1 → Ev P H H' → Kp kp σ σ' → D.bk σ' H'
  | .cnt env' => ∀ σ' H' P1, RelE K H' env' σ' P1 → New P H P1 → Ev P H H' → Kp kp σ σ' → D.ct σ' H'
  | .ret d env' => ∀ v σ' H' P1 P2, RelE K H' env' σ' P1 → Rel K H' d v P2 → (∀ a, P1 a → ¬ P2 a) → New P H P2 → New P H P1 → Ev P H H' → Kp kp σ σ' → D.rt v H'
  | .exc x env' => ∀ c dd σ' H' P1, RelE K H' env' σ' P1 → rx x c dd H' → New P H P1 → Ev P H H' → Kp kp σ σ' → W c dd σ' H'
  | .bad => False
def tS (K : PySem.W.Frag) (rx : XR) (W : WX) (C : Ctx) (s : S) : TS := fun D σ H => ∃ env P, RelE K H env σ P ∧ PostS K rx W C.kp P σ H (evS C s env) D
def tSs (K : PySem.W.Frag) (rx : XR) (W : WX) (C : Ctx) (s : Ss) : TS := fun D σ H => ∃ env P, RelE K H env σ P ∧ PostS K rx W C.kp P σ H (evSs C s env) D
section
variable {K : PySem.W.Frag} {rx : XR} {W : WX} {kp : Nat → Bool} {P P1 : Own} {σ σ1 : L2.St} {H H1 : Hp} {r : SRes} {F : Ends}
theorem PostS.on (h : PostS K rx W kp P σ H r F) (n : New P H P1) (e : Ev P H H1) (k : Kp kp σ σ1) : PostS K rx W kp P1 σ1 H1 r F := by
  cases r with
  | next env => exact fun σ' H' P2 r2 n2 e2 k2 => h σ' H' P2 r2 (n.trans e n2) (e.trans e2 n) (k.trans k2)
  | brk env => exact fun σ' H' P2 r2 n2 e2 k2 => h σ' H' P2 r2 (n.trans e n2) (e.trans e2 n) (k.trans k2)
  | cnt env => exact fun σ' H' P2 r2 n2 e2 k2 => h σ' H' P2 r2 (n.trans e n2) (e.trans e2 n) (k.trans k2)
  | ret d env => exact fun v σ' H' P2 P3 r2 rd dj n3 n2 e2 k2 => h v σ' H' P2 P3 r2 rd dj (n.trans e n3) (n.trans e n2) (e.trans e2 n) (k.trans k2)
  | exc x env => exact fun c dd σ' H' P2 r2 rr n2 e2 k2 => h c dd σ' H' P2 r2 rr (n.trans e n2) (e.trans e2 n) (k.trans k2)
  | bad => exact h
/-- an expression first -/
theorem tS_thn {C : Ctx} {e : E} {f : D → Env → SRes} {env : Env} (hE : RelE K H env σ P) (h : PostS K rx W kp P σ H ((evE C e env).thn f) F) :
    tE K rx W C e σ H fun v H1 => ∃ d e1 P1 P2, RelE K H1 e1 σ P1 ∧ Rel K H1 d v P2 ∧ (e.pth = false → ∀ a, P1 a → ¬ P2 a) ∧ New P H P1 ∧ (e.pth = false → New P H P2) ∧ Ev P H H1 ∧ PostS K rx W kp P σ H (f d e1) F := by
  refine ⟨env, P, hE, ?_⟩
  cases q : evE C e env with
  | bad => rw [q] at h; exact h.elim
  | exc x e1 =>
    rw [q] at h
    exact fun c dd H' P1 r rr n e => h c dd σ H' P1 r rr n e Kp.refl
  | ok d e1 =>
    rw [q] at h
    intro v H1 P1 P2 r rd hd hn ev
    exact ⟨d, e1, P1, P2, r, rd, fun z => (hd z).1, hn, fun z a y => ((hd z).2 a y).imp (fun y => y.2) id, ev.eo, h⟩
end

section
variable {X : Cx} {rx : XR} {W : WX} {C : Ctx} {e : E} {ee : Expr} {st : Stmt} {sts : List Stmt} {pos : Pos} {tg : Expr} {t : Tg}
theorem q_nil : PSs X [] (tSs X.K rx W C .nil) := PSs.of fun D σ H ⟨env, P, hE, h⟩ => ⟨_, pss_nil, h σ H P hE New.refl Ev.refl Kp.refl⟩
theorem q_cons {s : S} {r : Ss} (h1 : PS X st (tS X.K rx W C s)) (h2 : PSs X sts (tSs X.K rx W C r)) : PSs X (st :: sts) (tSs X.K rx W C (.cons s r)) :=
  PSs.of fun D σ H ⟨env, P, hE, h⟩ => ⟨_, pss_cons h1 h2, by
    simp only [evSs] at h
    refine ⟨env, P, hE, ?_⟩
    cases q : evS C s env with
    | next e1 =>
      rw [q] at h
      exact fun σ' H' P1 r n ev k => ⟨e1, P1, r, PostS.on h n ev k⟩
    | brk e1 => rw [q] at h; exact h
    | cnt e1 => rw [q] at h; exact h
    | ret d e1 => rw [q] at h; exact h
    | exc x e1 => rw [q] at h; exact h
    | bad => rw [q] at h; exact h.elim⟩
theorem q_pass : PS X (.Pass pos) (tS X.K rx W C .nop) := PS.of fun D σ H ⟨env, P, hE, h⟩ => ⟨_, ps_pass, h σ H P hE New.refl Ev.refl Kp.refl⟩
theorem q_doc {x j pos'} : PS X (.Expr (.Constant (.str x) j pos) pos') (tS X.K rx W C .nop) := PS.of fun D σ H ⟨env, P, hE, h⟩ => ⟨_, ps_doc, h σ H P hE New.refl Ev.refl Kp.refl⟩
theorem q_brk : PS X (.Break pos) (tS X.K rx W C .brk) := PS.of fun D σ H ⟨env, P, hE, h⟩ => ⟨_, ps_break, h σ H P hE New.refl Ev.refl Kp.refl⟩
theorem q_cnt : PS X (.Continue pos) (tS X.K rx W C .cnt) := PS.of fun D σ H ⟨env, P, hE, h⟩ => ⟨_, ps_continue, h σ H P hE New.refl Ev.refl Kp.refl⟩
theorem q_ret0 : PS X (.Return none pos) (tS X.K rx W C .ret0) := PS.of fun D σ H ⟨env, P, hE, h⟩ => ⟨_, ps_retN, h .non σ H P No hE rfl (fun _ _ z => z) (fun _ z => z.elim) New.refl Ev.refl Kp.refl⟩
theorem q_exp (he : PE X ee (tE X.K rx W C e)) (hs : swapsWith ee none pos.line X.env = pure false) : PS X (.Expr ee pos) (tS X.K rx W C (.exp e)) :=
  PS.of fun D σ H ⟨env, P, hE, h⟩ => ⟨_, ps_expr he hs, tE_mono (tS_thn hE h) fun v H1 ⟨d, e1, P1, P2, r, rd, dj, n1, n2, ev, h⟩ => h σ H1 P1 r n1 ev Kp.refl⟩
theorem q_ret (he : PE X ee (tE X.K rx W C e)) : PS X (.Return (some ee) pos) (tS X.K rx W C (.ret e)) :=
  PS.of fun D σ H ⟨env, P, hE, h⟩ => ⟨_, ps_ret he, tE_mono (tS_thn hE h) fun v H1 ⟨d, e1, P1, P2, r, rd, dj, n1, n2, ev, h⟩ => by
    split at h
    · exact h.elim
    rename_i hc
    cases hp : e.pth with
    | false =>
      exact h v σ H1 P1 P2 r rd (dj hp) (n2 hp) n1 ev Kp.refl
    | true =>
      have hi : imm d = true := by simpa [hp] using hc
      exact h v σ H1 P1 No r (Rel.imm hi rd) (fun _ _ z => z) (fun _ z => z.elim) n1 ev Kp.refl⟩
end
end Z

namespace Z
open PySem PySem.Spec L2
variable [TabList]

/-- what a for walks: these things, whatever the body does -/
def Walk (K : PySem.W.Frag) (J : L2.It) (ds : List D) (P : Own) (H : Hp) : Prop := ∀ H2, Ev P H H2 → (∀ i, ds.length ≤ i → J.stop i H2) ∧ ∀ i d, ds[i]? = some d → J.go i H2 ∧ ∀ x H3, J.yld i H2 x H3 → Ev No H2 H3 ∧ Rel K H3 d x No
def PostI (K : PySem.W.Frag) (rx : XR) (W : WX) (pur : Bool) (P : Own) (σ : L2.St) (H : Hp) (r : Res (List D)) (R : L2.It → Hp → Prop) : Prop :=
  match r with
  | .ok ds e1 => ∀ J H' P1, RelE K H' e1 σ P1 → Walk K J ds (eO pur P1) H' → New P H P1 → Ev P H H' → R J H'
  | .exc x env' => ∀ c dd H' P1, RelE K H' env' σ P1 → rx x c dd H' → New P H P1 → Ev P H H' → W c dd σ H'
  | .bad => False
def tI (K : PySem.W.Frag) (rx : XR) (W : WX) (C : Ctx) (pur : Bool) (it : It) : TI := fun σ H R => ∃ env P, RelE K H env σ P ∧ PostI K rx W pur P σ H (evI C pur it env) R
theorem PI.of {X : Cx} {tg e : Expr} {t' : TI} (h : ∀ σ H R, t' σ H R → ∃ t, PI X tg e t ∧ t σ H R) : PI X tg e t' := ⟨fun pins s σ H R I hw => let ⟨_, a, b⟩ := h σ H R hw; a.run pins s σ H R I b⟩

section
variable {K : PySem.W.Frag} {ds : List D} {P P2 : Own} {H : Hp} {a : Addr} {vs : List V}
theorem Rels.at : ∀ {ds : List D} {vs : List V} {P : Own} {i : Nat} {d : D} {v : V}, Rels K H ds vs P → ds[i]? = some d → vs[i]? = some v → ∃ P1, Rel K H d v P1
  | ds, vs, P, i, d, v, h, e, e2 => by
    obtain ⟨v', P1, e3, _, r⟩ := h.get e
    rw [e2] at e3; cases e3
    exact ⟨P1, r⟩
/-- a list, owned by none that may write -/
theorem walk_lst {m : Bool} {v : V} (r : Rel K H (.lst m ds) v P2) (hi : imms ds = true) (hm : m = true → ∀ a, P2 a → ¬ P a) : ∃ a, v = .ref a ∧ (∃ xs, SqL K H a xs) ∧ Walk K (Itl K a) ds P H := by
  obtain ⟨a, vs, Q, rfl, h, rs⟩ := r
  have rs := rs.imm hi
  have hs : ∀ H2, Ev P H H2 → H2 a = some (.lst vs) ∨ ∃ o, H2 a = some (.frz o (.lst vs)) := fun H2 ev => by
    cases m with
    | true => exact .inl (ev.keep a _ h.1 (fun _ z => nomatch z) fun z => (hm rfl a h.2.1 z).elim)
    | false => exact .inr (h.1.imp fun o z => ev.keep a _ z (fun _ z => nomatch z) fun _ m => m)
  have inj : ∀ H2, Ev P H H2 → ∀ {xs}, SqL K H2 a xs → True := fun _ _ _ _ => trivial
  refine ⟨a, rfl, ⟨vs, .inl (h.rd)⟩, fun H2 ev => ⟨fun i hl => ⟨vs, .inl (hs H2 ev), by rw [← rs.length]; exact hl⟩, fun i d hd => ?_⟩⟩
  obtain ⟨x, P1, e1, _, r1⟩ := rs.get hd
  refine ⟨⟨vs, x, .inl (hs H2 ev), e1⟩, fun y H3 hy => ?_⟩
  obtain ⟨rfl, hy⟩ := hy
  have e2 := hy vs (.inl (hs H3 ev))
  rw [e1] at e2; cases e2
  refine ⟨Ev.refl, ?_⟩
  have := (Rel.imm (imms_of_get hi hd) r1)
  exact this.frame ev fun _ z => z.elim
theorem walk_scr {ns : List Int} {v : V} (r : Rel K H (.scr ns) v P2) : ∃ a, v = .ref a ∧ (∃ xs, SqL K H a xs) ∧ Walk K (Itl K a) (ns.map .int) P H := by
  obtain ⟨a, rfl, h⟩ := r
  have hs : ∀ H2, Ev P H H2 → Scr K H2 a ns := fun H2 ev => h.imp (fun ⟨o, z⟩ => ⟨o, ev.keep a _ z (fun _ q => nomatch q) fun _ m => m⟩) id
  refine ⟨a, rfl, ⟨_, h.sq⟩, fun H2 ev => ⟨fun i hl => ⟨_, (hs H2 ev).sq, by simpa using hl⟩, fun i d hd => ?_⟩⟩
  simp only [List.getElem?_map, Option.map_eq_some_iff] at hd
  obtain ⟨n, hn, rfl⟩ := hd
  have e1 : (ns.map V.int)[i]? = some (.int n) := by rw [List.getElem?_map, hn]; rfl
  refine ⟨⟨_, _, (hs H2 ev).sq, e1⟩, fun y H3 hy => ?_⟩
  obtain ⟨rfl, hy⟩ := hy
  have e2 := hy _ (hs H3 ev).sq
  rw [e1] at e2; cases e2
  exact ⟨Ev.refl, rfl⟩
theorem walk_tup {v : V} (r : Rel K H (.tup ds) v P2) (hi : imms ds = true) : ∃ a, v = .ref a ∧ (∃ xs, SqT K H a xs) ∧ Walk K (Itt K a) ds P H := by
  obtain ⟨a, vs, rfl, h, rs⟩ := r
  have rs := rs.imm hi
  refine ⟨a, rfl, ⟨vs, h⟩, fun H2 ev => ⟨fun i hl => ⟨vs, sqT_frame h ev, by rw [← rs.length]; exact hl⟩, fun i d hd => ?_⟩⟩
  obtain ⟨x, P1, e1, _, r1⟩ := rs.get hd
  refine ⟨⟨vs, x, sqT_frame h ev, e1⟩, fun y H3 hy => ?_⟩
  obtain ⟨rfl, hy⟩ := hy
  have e2 := hy vs (sqT_frame h ev)
  rw [e1] at e2; cases e2
  exact ⟨Ev.refl, (Rel.imm (imms_of_get hi hd) r1).frame ev fun _ z => z.elim⟩
theorem walk_rng {lo hi : Int} : Walk K (Itr lo (hi - lo).toNat) (rng lo hi) P H := fun H2 ev => ⟨fun i hl => by simpa [rng, Itr] using hl, fun i d hd => by
  simp only [rng, List.getElem?_map, Option.map_eq_some_iff] at hd
  obtain ⟨j, hj, rfl⟩ := hd
  have hl := List.getElem?_eq_some_iff.mp hj
  obtain ⟨h1, h2⟩ := hl
  simp only [List.length_range] at h1
  simp only [List.getElem_range] at h2
  subst h2
  exact ⟨h1, fun x H3 ⟨e1, e2⟩ => by subst e1; exact ⟨Ev.refl, e2⟩⟩⟩
end

section
variable {X : Cx} {rx : XR} {W : WX} {C : Ctx} {e a b : E} {ee : Expr} {ea eb : Expr} {tg : Expr} {p pos : Pos} {k : Nat} {pur : Bool}
/-- a walk over what an expression gives: the rule is chosen at the value -/
theorem i_seq (he : PE X ee (tE X.K rx W C e)) : PI X tg ee (tI X.K rx W C pur (.seq e)) := PI.of fun σ H R ⟨env, P, hE, h⟩ => by
  simp only [evI] at h
  cases q : evE C e env with
  | bad => rw [q] at h; exact h.elim
  | exc x e1 =>
    rw [q] at h
    exact ⟨_, pi_list he, env, P, hE, by rw [q]; exact h⟩
  | ok d e1 =>
    rw [q] at h
    simp only [Res.bind] at h
    cases d <;> simp only [seqOf] at h
    case lst m ds =>
      refine ⟨_, pi_list he, env, P, hE, ?_⟩
      rw [q]
      intro v H1 P1 P2 r rd hd hn ev
      by_cases hc : imms ds = true ∧ (m = true → (e.pth && !pur) = false)
      · rw [if_pos hc] at h
        obtain ⟨a, rfl, hs, w⟩ := walk_lst (P := eO pur P1) rd hc.1 fun z a y1 y2 => (hd (by have := hc.2 z; rw [y2.1] at this; simpa using this)).1 a y2.2 y1
        exact ⟨a, rfl, hs, h _ H1 P1 r w hn ev.eo⟩
      · rw [if_neg hc] at h; exact h.elim
    case scr ns =>
      refine ⟨_, pi_list he, env, P, hE, ?_⟩
      rw [q]
      intro v H1 P1 P2 r rd hd hn ev
      obtain ⟨a, rfl, hs, w⟩ := walk_scr (P := eO pur P1) rd
      exact ⟨a, rfl, hs, h _ H1 P1 r w hn ev.eo⟩
    case tup ds =>
      refine ⟨_, pi_tup he, env, P, hE, ?_⟩
      rw [q]
      intro v H1 P1 P2 r rd hd hn ev
      by_cases hc : imms ds = true
      · rw [if_pos hc] at h
        obtain ⟨a, rfl, hs, w⟩ := walk_tup (P := eO pur P1) rd hc
        exact ⟨a, rfl, hs, h _ H1 P1 r w hn ev.eo⟩
      · rw [if_neg hc] at h; exact h.elim
    case str s =>
      refine ⟨_, pi_str he, env, P, hE, ?_⟩
      rw [q]
      intro v H1 P1 P2 r rd hd hn ev
      refine ⟨s, rd, h _ H1 P1 r (fun H2 _ => ⟨fun i hl => ?_, fun i d hd => ?_⟩) hn ev.eo⟩
      · simpa [chars, Its] using hl
      · simp only [chars, List.getElem?_map, Option.map_eq_some_iff] at hd
        obtain ⟨c, hc, rfl⟩ := hd
        have hl : i < s.cps.size := by
          have := (List.getElem?_eq_some_iff.mp hc).1
          simpa using this
        refine ⟨hl, fun y H3 hy => ?_⟩
        obtain ⟨rfl, c', hc', rfl⟩ := hy
        refine ⟨Ev.refl, ?_⟩
        rw [← Array.getElem?_toList] at hc'
        rw [hc] at hc'
        cases hc'
        rfl
    all_goals exact h.elim
theorem i_rng1 (hg : Gl X "range") (hm : X.mg "range" = none) (ha : PA X [ea] (tB' X.K rx W C (.cons a .nil))) (hs : starEach [ea] X.env = [(false, eval ea X.env)]) : PI X tg (.Call (.Name "range" p) [ea] [] pos) (tI X.K rx W C pur (.rng1 a)) :=
  PI.of fun σ H R ⟨env, P, hE, h⟩ => by
    refine ⟨_, pi_range1 hg hm ha hs, env, P, hE, ?_⟩
    simp only [evI] at h
    simp only [evEs]
    cases q : evE C a env with
    | bad => rw [q] at h; exact h.elim
    | exc x e1 => rw [q] at h; exact h
    | ok d e1 =>
      rw [q] at h
      simp only [Res.bind] at h ⊢
      cases d <;> simp only [PostI] at h
      rename_i j
      by_cases hc : small62 j = true
      · rw [if_pos hc] at h
        have hi : (a.pth && !Es.pu .nil && !imm (D.int j)) = false := by simp [Es.pu]
        rw [hi]
        intro vs H1 P1 r rb hn ev
        obtain ⟨v, vs', P2, rfl, rd, rb⟩ := rb
        obtain rfl : vs' = [] := rb
        obtain rfl : v = .int j := rd
        have hj : -(2 ^ 62) ≤ j ∧ j < 2 ^ 62 := by have hc' := hc; simp only [small62, decide_eq_true_eq] at hc'; omega
        refine ⟨j, rfl, hj.1, hj.2, h _ H1 P1 r ?_ hn ev.eo⟩
        have := walk_rng (K := X.K) (lo := 0) (hi := j) (P := eO pur P1) (H := H1)
        rwa [Int.sub_zero] at this
      · rw [if_neg hc] at h; exact h.elim
theorem i_rng2 (hg : Gl X "range") (hm : X.mg "range" = none) (ha : PA X [ea, eb] (tB' X.K rx W C (.cons a (.cons b .nil)))) (hs : starEach [ea, eb] X.env = [(false, eval ea X.env), (false, eval eb X.env)]) (hs2 : starEach [eb] X.env = [(false, eval eb X.env)]) : PI X tg (.Call (.Name "range" p) [ea, eb] [] pos) (tI X.K rx W C pur (.rng2 a b)) :=
  PI.of fun σ H R ⟨env, P, hE, h⟩ => by
    refine ⟨_, pi_range2 hg hm ha hs hs2, env, P, hE, ?_⟩
    simp only [evI] at h
    simp only [evEs]
    cases q : evE C a env with
    | bad => rw [q] at h; exact h.elim
    | exc x e1 => rw [q] at h; exact h
    | ok d e1 =>
      rw [q] at h
      simp only [Res.bind, Es.pu, Bool.and_true] at h ⊢
      split at h
      · exact h.elim
      rename_i hc
      rw [if_neg hc]
      cases q2 : evE C b e1 with
      | bad => rw [q2] at h; exact h.elim
      | exc x e2 => rw [q2] at h; exact h
      | ok d2 e2 =>
        rw [q2] at h
        simp only [Bool.not_true, Bool.and_false, Bool.false_and, Bool.false_eq_true, if_false] at h ⊢
        cases d <;> (try exact h.elim)
        cases d2 <;> (try exact h.elim)
        rename_i i j
        dsimp only at h
        by_cases hc : small62 i = true ∧ small62 j = true
        · rw [if_pos hc] at h
          intro vs H1 P1 r rb hn ev
          obtain ⟨v, vs', P2, rfl, rd, rb⟩ := rb
          obtain ⟨v2, vs2, P3, rfl, rd2, rb⟩ := rb
          obtain rfl : vs2 = [] := rb
          obtain rfl : v = .int i := rd
          obtain rfl : v2 = .int j := rd2
          have hi : -(2 ^ 62) ≤ i ∧ i < 2 ^ 62 := by have hc' := hc; simp only [small62, decide_eq_true_eq] at hc'; omega
          have hj : -(2 ^ 62) ≤ j ∧ j < 2 ^ 62 := by have hc' := hc; simp only [small62, decide_eq_true_eq] at hc'; omega
          exact ⟨i, j, rfl, ⟨hi.1, hi.2, hj.1, hj.2⟩, h _ H1 P1 r walk_rng hn ev.eo⟩
        · rw [if_neg hc] at h; exact h.elim
end

section
variable {X : Cx} {rx : XR} {W : WX} {C : Ctx} {e c : E} {ee ec : Expr} {st : Stmt} {sa sb : List Stmt} {pos pos' : Pos} {tg : Expr} {t : Tg}
theorem q_asg (he : PE X ee (tE X.K rx W C e)) (hg : PG X tg (tG X.K C.kp t)) (hs : swapsWithSole [tg] ee pos.line X.env = pure false) (hw : swappedStores [tg] ee X.env = pure none) (h1 : (assignEach [tg] X.env).map (·.2) = [assign tg X.env]) : PS X (.Assign [tg] ee pos) (tS X.K rx W C (.asg t e)) :=
  PS.of fun D σ H ⟨env, P, hE, h⟩ => ⟨_, ps_asg he hg hs hw h1, tE_mono (tS_thn hE h) fun v H1 ⟨d, e1, P1, P2, r, rd, dj, n1, n2, ev, h⟩ => by
    split at h
    · exact h.elim
    rename_i hc
    simp only [Bool.or_eq_true, Bool.not_eq_true', not_or, Bool.not_eq_false, Bool.and_eq_true, not_and] at hc
    obtain ⟨P3, rd, dj, n2⟩ : ∃ P3, Rel X.K H1 d v P3 ∧ (∀ a, P1 a → ¬ P3 a) ∧ New P H P3 := by
      cases hp : e.pth with
      | false => exact ⟨P2, rd, dj hp, n2 hp⟩
      | true => exact ⟨No, Rel.imm (hc.1 hp) rd, fun _ _ z => z, fun _ z => z.elim⟩
    cases q : bindT t d e1 with
    | none => rw [q] at h; exact h.elim
    | some e2 =>
      rw [q] at h
      exact ⟨hc.2, d, e1, P1, P3, e2, r, rd, dj, q, fun σ' hE' k => h σ' H1 _ hE' (fun a z => z.elim (n1 a) (n2 a)) ev k⟩⟩
theorem q_ite {a b : Ss} (hc : PT X ec (tT X.K rx W C c)) (ha : PSs X sa (tSs X.K rx W C a)) (hb : PSs X sb (tSs X.K rx W C b)) : PS X (.If ec sa sb pos) (tS X.K rx W C (.ite c a b)) :=
  PS.of fun D σ H ⟨env, P, hE, h⟩ => ⟨_, ps_if hc ha hb, by
    simp only [evS] at h
    refine ⟨env, P, hE, ?_⟩
    cases q : evT C c env with
    | bad => rw [q] at h; exact h.elim
    | exc x e1 => rw [q] at h; exact fun c dd H' P1 r rr n e => h c dd σ H' P1 r rr n e Kp.refl
    | ok b e1 =>
      rw [q] at h
      intro H1 P1 r n ev
      cases b with
      | true => exact ⟨e1, P1, r, PostS.on h n ev.eo Kp.refl⟩
      | false => exact ⟨e1, P1, r, PostS.on h n ev.eo Kp.refl⟩⟩
theorem q_whl {b : Ss} (hp : PassesOwn (model X.prog X.w) X.A X.env X.xe) (hc : PT X ec (tT X.K rx W C c)) (hb : PSs X sb (tSs X.K rx W C b)) : PS X (.While ec sb [] pos) (tS X.K rx W C (.whl c b)) :=
  PS.of fun D σ H ⟨env, P, hE, h⟩ => ⟨_, ps_while hp hc hb, by
    simp only [evS] at h
    refine ⟨fun m σ' H' => ∃ env' P', RelE X.K H' env' σ' P' ∧ PostS X.K rx W C.kp P' σ' H' (whlLoop (evT C c) (evSs C b) m env') D, ⟨turns, env, P, hE, h⟩, fun m σ1 H1 ⟨env1, P1, r1, h1⟩ => ?_⟩
    cases m with
    | zero => exact h1.elim
    | succ m =>
      simp only [whlLoop] at h1
      refine ⟨env1, P1, r1, ?_⟩
      cases q : evT C c env1 with
      | bad => rw [q] at h1; exact h1.elim
      | exc x e1 => rw [q] at h1; exact fun c dd H' P1 r rr n e => h1 c dd σ1 H' P1 r rr n e Kp.refl
      | ok t e1 =>
        rw [q] at h1
        intro H2 P2 r2 n2 ev2
        have h2 := PostS.on h1 n2 ev2.eo (Kp.refl (σ := σ1))
        cases t with
        | false => exact h2 σ1 H2 P2 r2 New.refl Ev.refl Kp.refl
        | true =>
          rw [if_pos rfl]
          refine ⟨fun σ' H' => ∃ env' P', RelE X.K H' env' σ' P' ∧ PostS X.K rx W C.kp P' σ' H' (whlLoop (evT C c) (evSs C b) m env') D, fun σ' H' z => ⟨m, Nat.lt_succ_self m, z⟩, e1, P2, r2, ?_⟩
          simp only at h2
          cases q2 : evSs C b e1 with
          | next e2 => rw [q2] at h2; exact fun σ' H' P' r n ev k => ⟨e2, P', r, PostS.on h2 n ev k⟩
          | cnt e2 => rw [q2] at h2; exact fun σ' H' P' r n ev k => ⟨e2, P', r, PostS.on h2 n ev k⟩
          | brk e2 => rw [q2] at h2; exact h2
          | ret d e2 => rw [q2] at h2; exact h2
          | exc x e2 => rw [q2] at h2; exact h2
          | bad => rw [q2] at h2; exact h2.elim⟩
theorem q_for {it : It} {ie : Expr} {b : Ss} (hp : PassesOwn (model X.prog X.w) X.A X.env X.xe) (hc : X.calm = true) (hi : PI X tg ie (tI X.K rx W C false it)) (hg : PG X tg (tG X.K C.kp t)) (hb : PSs X sb (tSs X.K rx W C b)) (hs : ∀ x, foldedSetIterable ie X.env x = pure x) : PS X (.For tg ie sb [] pos) (tS X.K rx W C (.for t it b)) :=
  PS.of fun D σ H ⟨env, P, hE, h⟩ => ⟨_, ps_for hp hc hi hg hb hs, by
    simp only [evS] at h
    refine ⟨env, P, hE, ?_⟩
    cases q : evI C false it env with
    | bad => rw [q] at h; exact h.elim
    | exc x e1 => rw [q] at h; exact fun c dd H' P1 r rr n e => h c dd σ H' P1 r rr n e Kp.refl
    | ok ds e1 =>
      rw [q] at h
      simp only [Res.thn] at h
      intro J H1 P1 r1 w n1 ev1
      have w : Walk X.K J ds P1 H1 := fun H2 e => w H2 (e.mono fun _ z => ⟨rfl, z⟩)
      split at h
      rotate_left
      · exact h.elim
      rename_i hfree
      have h1 := PostS.on h n1 ev1 (Kp.refl (σ := σ))
      refine ⟨fun i m σ' H' => m = ds.length - i ∧ ∃ env' P', RelE X.K H' env' σ' P' ∧ Ev P1 H1 H' ∧ New P1 H1 P' ∧ PostS X.K rx W C.kp P' σ' H' (forLoop t (evSs C b) (ds.drop i) env') D, ⟨ds.length, by simp, e1, P1, r1, Ev.refl, New.refl, by simpa using h1⟩, fun i m σ2 H2 ⟨hm, env2, P2, r2, ev2, n2, h2⟩ => ?_⟩
      obtain ⟨w1, w2⟩ := w H2 ev2
      by_cases hl : i < ds.length
      · obtain ⟨d, hd⟩ : ∃ d, ds[i]? = some d := ⟨ds[i], List.getElem?_eq_getElem hl⟩
        obtain ⟨go, yl⟩ := w2 i d hd
        have e3 : ds.drop i = d :: ds.drop (i + 1) := by
          obtain ⟨h3, rfl⟩ := List.getElem?_eq_some_iff.mp hd
          exact List.drop_eq_getElem_cons h3
        rw [e3] at h2
        simp only [forLoop] at h2
        refine .inr ⟨go, fun σ' H' => ∃ env' P', RelE X.K H' env' σ' P' ∧ Ev P1 H1 H' ∧ New P1 H1 P' ∧ PostS X.K rx W C.kp P' σ' H' (forLoop t (evSs C b) (ds.drop (i + 1)) env') D, fun σ' H' z => ⟨ds.length - (i + 1), by omega, rfl, z⟩, fun x H3 hy => ?_⟩
        obtain ⟨ev3, rd⟩ := yl x H3 hy
        cases q2 : bindT t d env2 with
        | none => rw [q2] at h2; exact h2.elim
        | some e4 =>
          rw [q2] at h2
          have ev3' : Ev P2 H2 H3 := ev3.of_no
          refine ⟨hfree, d, env2, P2, No, e4, r2.ev ev3, rd, fun _ _ z => z, q2, fun σ4 r4 k4 => ?_⟩
          have n4 : New P2 H2 (Uni P2 No) := fun a z => z.elim .inl fun z => z.elim
          have h4 := PostS.on h2 n4 ev3' k4
          refine ⟨e4, _, r4, ?_⟩
          simp only at h4
          have on : ∀ {H' : Hp} {P' : Own}, Ev (Uni P2 No) H3 H' → New (Uni P2 No) H3 P' → Ev P1 H1 H' ∧ New P1 H1 P' := fun {H' P'} ev n => by
            have a1 := ev2.trans ev3' n2
            have a2 : New P1 H1 (Uni P2 No) := n2.trans ev2 n4
            exact ⟨a1.trans ev a2, a2.trans a1 n⟩
          cases q5 : evSs C b e4 with
          | next e5 => rw [q5] at h4; exact fun σ' H' P' r n ev k => ⟨e5, P', r, (on ev n).1, (on ev n).2, PostS.on h4 n ev k⟩
          | cnt e5 => rw [q5] at h4; exact fun σ' H' P' r n ev k => ⟨e5, P', r, (on ev n).1, (on ev n).2, PostS.on h4 n ev k⟩
          | brk e5 => rw [q5] at h4; exact h4
          | ret d e5 => rw [q5] at h4; exact h4
          | exc x e5 => rw [q5] at h4; exact h4
          | bad => rw [q5] at h4; exact h4.elim
      · have e3 : ds.drop i = [] := List.drop_eq_nil_iff.mpr (by omega)
        rw [e3] at h2
        exact .inl ⟨w1 i (by omega), h2 σ2 H2 P2 r2 New.refl Ev.refl Kp.refl⟩⟩
end
end Z

namespace Z
open PySem PySem.Spec L2
variable [TabList]

section
variable {κ : Type} [DecidableEq κ]
theorem kIx_none {k : κ} : ∀ {ks : List κ}, kIx ks k = none ↔ k ∉ ks
  | [] => by simp [kIx]
  | x :: ks => by
    simp only [kIx, List.mem_cons, not_or]
    by_cases h : x = k
    · simp [h]
    · rw [if_neg h, Option.map_eq_none_iff, kIx_none (ks := ks)]; exact ⟨fun z => ⟨fun e => h e.symm, z⟩, fun z => z.2⟩
theorem map_same {q : κ} {w : V} : ∀ {kvs : List (κ × V)}, q ∉ kvs.map (·.1) → kvs.map (fun kv => if kv.1 = q then (kv.1, w) else kv) = kvs
  | [], _ => rfl
  | kv :: kvs, h => by
    simp only [List.map_cons, List.mem_cons, not_or] at h
    simp only [List.map_cons]
    rw [if_neg (fun e => h.1 e.symm), map_same h.2]
theorem map_at {q : κ} {w : V} : ∀ {kvs : List (κ × V)} {j : Nat}, (kvs.map (·.1)).Nodup → kIx (kvs.map (·.1)) q = some j →
    (kvs.map fun kv => if kv.1 = q then (kv.1, w) else kv).map (·.1) = kvs.map (·.1) ∧ (kvs.map fun kv => if kv.1 = q then (kv.1, w) else kv).map (·.2) = (kvs.map (·.2)).set j w
  | [], j, _, h => by simp [kIx] at h
  | kv :: kvs, j, nd, h => by
    simp only [List.map_cons, kIx] at h
    simp only [List.map_cons, List.nodup_cons] at nd
    by_cases e : kv.1 = q
    · rw [if_pos e] at h
      obtain rfl : 0 = j := Option.some.inj h
      simp only [List.map_cons, List.set_cons_zero]
      rw [if_pos e, map_same (by rw [← e]; exact nd.1)]
      exact ⟨rfl, rfl⟩
    · rw [if_neg e] at h
      obtain ⟨i, hi, rfl⟩ := Option.map_eq_some_iff.mp h
      have := map_at (w := w) nd.2 hi
      simp only [List.map_cons, List.set_cons_succ]
      rw [if_neg e, this.1, this.2]
      exact ⟨rfl, rfl⟩
theorem putK_at {q : κ} {w : V} {kvs : List (κ × V)} {j : Nat} (nd : (kvs.map (·.1)).Nodup) (h : kIx (kvs.map (·.1)) q = some j) :
    (L2.putK kvs q w).map (·.1) = kvs.map (·.1) ∧ (L2.putK kvs q w).map (·.2) = (kvs.map (·.2)).set j w := by
  unfold L2.putK
  have : (kvs.any fun kv => decide (kv.1 = q)) = true := by
    have h2 : ¬ q ∉ kvs.map (·.1) := fun z => by rw [kIx_none.mpr z] at h; cases h
    simp only [Classical.not_not, List.mem_map] at h2
    obtain ⟨kv, h3, h4⟩ := h2
    exact List.any_eq_true.mpr ⟨kv, h3, by simpa using h4⟩
  rw [if_pos this]
  exact map_at nd h
theorem putK_new {q : κ} {w : V} {kvs : List (κ × V)} (h : kIx (kvs.map (·.1)) q = none) : L2.putK kvs q w = kvs ++ [(q, w)] := by
  unfold L2.putK
  have h2 := kIx_none.mp h
  rw [if_neg]
  intro z
  obtain ⟨kv, h3, h4⟩ := List.any_eq_true.mp z
  exact h2 (List.mem_map.mpr ⟨kv, h3, by simpa using h4⟩)
theorem kIx_lt {q : κ} : ∀ {ks : List κ} {j : Nat}, kIx ks q = some j → j < ks.length
  | [], _, h => by simp [kIx] at h
  | x :: ks, j, h => by
    simp only [kIx] at h
    split at h
    · cases h; simp
    · obtain ⟨i, hi, rfl⟩ := Option.map_eq_some_iff.mp h
      have := kIx_lt hi
      simp; omega
end

section
variable {X : Cx} {k : Nat}
/-- the dict's own object, changed -/
theorem upd_hold {H : Hp} {a : Addr} {u u' : HO} {Pd Q1 P2 : Own} (h : Hold H true a u Pd Q1) (dj : ∀ b, Pd b → ¬ P2 b) : Hold (upd H a u') true a u' (Uni Pd P2) (Uni Q1 P2) :=
  ⟨upd_same, .inl h.2.1, fun b z => ⟨z.imp (fun z => (h.2.2 b z).1) id, fun e => z.elim (fun z => (h.2.2 b z).2 e) fun z => dj a h.2.1 (by rw [← e]; exact z)⟩⟩
theorem set_ok (hr : Room k X.A) {H : Hp} {y kd d y' : D} {v vk w : V} {Pd Pk P2 : Own} {Q : Hp → Prop} (ry : Rel X.K H y v Pd) (rk : Rel X.K H kd vk Pk) (rd : Rel X.K H d w P2) (dj : ∀ a, Pd a → ¬ P2 a) (h : setD y kd d = some y')
    (hq : ∀ H', Rel X.K H' y' v (Uni Pd P2) → Ev Pd H H' → Q H') : ∃ t, PSet X t ∧ t v vk w H Q := by
  unfold setD at h
  split at h
  · rename_i ds
    cases kd <;> simp only [reduceCtorEq, Option.map_eq_some_iff] at h
    rename_i i
    obtain ⟨j, hj, rfl⟩ := h
    obtain ⟨a, xs, Q1, rfl, s1, r1⟩ := ry
    obtain rfl : vk = .int i := rk
    refine ⟨_, set_list, a, xs, i, j, rfl, rfl, s1.1, by rw [← r1.length]; exact hj, hq _ ?_ (Ev.wrote s1.1 trivial s1.2.1)⟩
    have ev : Ev (fun b => b = a) H (upd H a (.lst (xs.set j w))) := Ev.wrote s1.1 trivial rfl
    have r2 := r1.frame ev fun b z e => (s1.2.2 b z).2 e
    have rd2 := rd.frame ev fun b z e => dj a s1.2.1 (by rw [← e]; exact z)
    have hl : j < ds.length := by
      exact (ixN_seq hj).2.1
    obtain ⟨u, Pd1, Pr, e1, s, r3, lens⟩ := r2.lens (List.getElem?_eq_getElem hl)
    have r4 := lens _ d w P2 rd2 (fun b z z' => dj b (s1.2.2 b (s.2.1 b z')).1 z) Ev.refl
    exact ⟨a, xs.set j w, Uni Q1 P2, rfl, upd_hold s1 dj, r4.mono fun b z => z.elim .inr fun z => .inl (s.2.1 b z)⟩
  · rename_i ks ds
    obtain ⟨q, hk, h⟩ := Option.bind_eq_some_iff.mp h
    split at h
    rotate_left
    · cases h
    rename_i hlim
    cases h
    obtain ⟨a, kvs, Q1, rfl, s1, ⟨rfl, nd⟩, r1⟩ := ry
    refine ⟨_, set_dict (by have := hr.un; omega), a, _, rfl, .inl ⟨kvs, q, s1.1, ?_, ?_, rfl⟩, hq _ ?_ (Ev.wrote s1.1 trivial s1.2.1)⟩
    · exact key_val rk hk
    · rw [← lim_eq]; simpa using hlim
    have ev : Ev (fun b => b = a) H (upd H a (.dK (L2.putK kvs q w))) := Ev.wrote s1.1 trivial rfl
    have r2 := r1.frame ev fun b z e => (s1.2.2 b z).2 e
    have rd2 := rd.frame ev fun b z e => dj a s1.2.1 (by rw [← e]; exact z)
    refine ⟨a, L2.putK kvs q w, Uni Q1 P2, rfl, upd_hold s1 dj, ?_⟩
    unfold Z.putK
    cases hj : kIx (kvs.map (·.1)) q with
    | some j =>
      simp only
      obtain ⟨e1, e2⟩ := putK_at (w := w) nd hj
      rw [e1, e2]
      have hl : j < ds.length := by
        have := kIx_lt hj
        have l := r1.length
        simp at this l
        omega
      obtain ⟨u, Pd1, Pr, e1, s, r3, lens⟩ := r2.lens (List.getElem?_eq_getElem hl)
      have r4 := lens _ d w P2 rd2 (fun b z z' => dj b (s1.2.2 b (s.2.1 b z')).1 z) Ev.refl
      exact ⟨⟨rfl, nd⟩, r4.mono fun b z => z.elim .inr fun z => .inl (s.2.1 b z)⟩
    | none =>
      simp only
      rw [putK_new hj] at r2 rd2 ⊢
      rw [List.map_append, List.map_append]
      refine ⟨⟨rfl, ?_⟩, Rels.append (Sep.uni fun b z y => dj b (s1.2.2 b z).1 y) r2 (Rels.cons Sep.nr rd2 (show Rels X.K _ [] [] No from rfl))⟩
      rw [List.nodup_append]
      refine ⟨nd, by simp, fun b hb c hc e => ?_⟩
      simp at hc
      subst e; subst hc
      exact kIx_none.mp hj hb
  · cases h
theorem PSet.of {t' : TSet} (h : ∀ o i v H Q, t' o i v H Q → ∃ t, PSet X t ∧ t o i v H Q) : PSet X t' := fun pins s σ H o i v ov iv u Q I r1 r2 r3 hw => let ⟨_, a, b⟩ := h o i v H Q hw; a pins s σ H o i v ov iv u Q I r1 r2 r3 b
end
section
variable {X : Cx} {rx : XR} {W : WX} {C : Ctx} {o i e : E} {eo ei ee : Expr} {pos pos' : Pos} {k : Nat}
theorem q_sto (hr : Room k X.A) (he : PE X ee (tE X.K rx W C e)) (ho : PE X eo (tP X.K C o)) (hi : PE X ei (tE X.K rx W C i)) (hs : swapsWithSole [.Subscript eo ei pos'] ee pos.line X.env = pure false) (hw : swappedStores [.Subscript eo ei pos'] ee X.env = pure none) (h1 : (assignEach [.Subscript eo ei pos'] X.env).map (·.2) = [assign (.Subscript eo ei pos') X.env])
    (ha : ∀ v, assign (.Subscript eo ei pos') X.env v = (do
      let ov ← holding [v] (eval eo X.env)
      let iv ← holding [v, ov] (eval ei X.env)
      standAt pos'
      holding [v, ov, iv] (setItem ov iv v)
      release [v, ov, iv] [])) : PS X (.Assign [.Subscript eo ei pos'] ee pos) (tS X.K rx W C (.sto o i e)) :=
  PS.of fun D σ H ⟨env, P, hE, h⟩ => by
    have hset : PSet X (fun o i v H Q => ∃ t, PSet X t ∧ t o i v H Q) := PSet.of fun _ _ _ _ _ z => z
    refine ⟨_, ps_asg he (pg_sub ho hi hset ha) hs hw h1, tE_mono (tS_thn hE h) fun v H1 ⟨d, e1, P1, P2, r, rd, dj, n1, n2, ev, h⟩ => ?_⟩
    split at h
    · exact h.elim
    rename_i hc
    simp only [Bool.or_eq_true, Bool.not_eq_true', not_or, Bool.not_eq_false, Bool.and_eq_true, not_and] at hc
    obtain ⟨P3, rd, dj, n2⟩ : ∃ P3, Rel X.K H1 d v P3 ∧ (∀ a, P1 a → ¬ P3 a) ∧ New P H P3 := by
      cases hp : e.pth with
      | false => exact ⟨P2, rd, dj hp, n2 hp⟩
      | true => exact ⟨No, Rel.imm (hc.1 hp) rd, fun _ _ z => z, fun _ z => z.elim⟩
    cases q1 : evP C o e1 with
    | none => rw [q1] at h; exact h.elim
    | some rk =>
      obtain ⟨ri, ks⟩ := rk
      cases q2 : evE C i e1 with
      | bad => rw [q1, q2] at h; exact h.elim
      | exc x e => rw [q1, q2] at h; exact h.elim
      | ok kd ek =>
        rw [q1, q2] at h
        simp only at h
        cases q3 : e1[ri]? with
        | none => rw [q3] at h; exact h.elim
        | some ox =>
          cases ox with
          | none => rw [q3] at h; exact h.elim
          | some x =>
            rw [q3] at h
            simp only at h
            cases q4 : getK x ks with
            | none => rw [q4] at h; exact h.elim
            | some y =>
              rw [q4] at h
              simp only at h
              cases q5 : setD y kd d with
              | none => rw [q5] at h; exact h.elim
              | some y' =>
                rw [q5] at h
                simp only at h
                cases q6 : putKs x ks y' with
                | none => rw [q6] at h; exact h.elim
                | some x' =>
                  rw [q6] at h
                  simp only at h
                  refine ⟨e1, P1, ri, ks, x, y, r, q1, q3, q4, fun ov H2 ev2 foc _ => ?_⟩
                  refine ⟨e1, P1, r.ev ev2, ?_⟩
                  rw [q2]
                  intro vk H3 P5 P6 _ rk _ _ ev3
                  rw [hc.2] at ev3
                  have ev3 : Ev No H2 H3 := ev3.mono fun _ z => nomatch z.1
                  obtain ⟨Pd, Pr, s, ry, w⟩ := foc.ev ev3
                  have ev13 : Ev No H1 H3 := ev2.trans ev3 fun _ z => z.elim
                  have rd3 := rd.ev ev13
                  refine set_ok hr ry rk rd3 (fun a z => dj a (s.1 a z)) q5 fun H4 ry4 ev4 => ?_
                  have rE := w H4 y' (Uni Pd P3) x' q6 ry4 (fun a z y => z.elim (fun z => s.2.2 a z y) fun z => dj a (s.2.1 a y) z) ev4
                  have up : Ev P1 H1 H4 := (ev13.of_no).trans (ev4.mono s.1) New.refl
                  have nn : New P H (Uni (Uni Pd P3) Pr) := fun a z => z.elim (fun z => z.elim (fun z => n1 a (s.1 a z)) (n2 a)) fun z => n1 a (s.2.1 a z)
                  exact h σ H4 _ rE nn (ev.trans up n1) Kp.refl
theorem q_stc {r : Nat} (hr : Room k X.A) (he : PE X ee (tE X.K rx W C e)) (ho : PE X eo (tP X.K C (.var r))) (hi : PE X ei (tE X.K rx W C i)) (hs : swapsWithSole [.Subscript eo ei pos'] ee pos.line X.env = pure false) (hw : swappedStores [.Subscript eo ei pos'] ee X.env = pure none) (h1 : (assignEach [.Subscript eo ei pos'] X.env).map (·.2) = [assign (.Subscript eo ei pos') X.env])
    (ha : ∀ v, assign (.Subscript eo ei pos') X.env v = (do
      let ov ← holding [v] (eval eo X.env)
      let iv ← holding [v, ov] (eval ei X.env)
      standAt pos'
      holding [v, ov, iv] (setItem ov iv v)
      release [v, ov, iv] [])) : PS X (.Assign [.Subscript eo ei pos'] ee pos) (tS X.K rx W C (.stc r i e)) :=
  PS.of fun D σ H ⟨env, P, hE, h⟩ => by
    have hset : PSet X (fun o i v H Q => ∃ t, PSet X t ∧ t o i v H Q) := PSet.of fun _ _ _ _ _ z => z
    refine ⟨_, ps_asg he (pg_sub ho hi hset ha) hs hw h1, tE_mono (tS_thn hE h) fun v H1 ⟨d, e1, P1, P2, re, rd, dj, n1, n2, ev, h⟩ => ?_⟩
    split at h
    · exact h.elim
    rename_i hc
    simp only [Bool.and_eq_true, Bool.not_eq_true', not_and, Bool.not_eq_false] at hc
    obtain ⟨P3, rd, dj, n2⟩ : ∃ P3, Rel X.K H1 d v P3 ∧ (∀ a, P1 a → ¬ P3 a) ∧ New P H P3 := by
      cases hp : e.pth with
      | false => exact ⟨P2, rd, dj hp, n2 hp⟩
      | true => exact ⟨No, Rel.imm (hc hp) rd, fun _ _ z => z, fun _ z => z.elim⟩
    cases q1 : e1[r]? with
    | none => rw [q1] at h; exact h.elim
    | some o0 => cases o0 with
      | none => rw [q1] at h; exact h.elim
      | some x0 =>
        refine ⟨e1, P1, r, [], x0, x0, re, by simp only [evP], q1, rfl, fun ov H2 ev2 foc hov => ?_⟩
        refine ⟨e1, P1, re.ev ev2, ?_⟩
        cases q2 : evE C i e1 with
        | bad => rw [q1, q2] at h; exact h.elim
        | exc x e => rw [q1, q2] at h; exact h.elim
        | ok kd e2 =>
          rw [q1, q2] at h
          simp only at h
          intro vk H3 P5 P6 re2 rk _ n5 ev3
          cases q3 : e2[r]? with
          | none => rw [q3] at h; exact h.elim
          | some o1 => cases o1 with
            | none => rw [q3] at h; exact h.elim
            | some x =>
              rw [q3] at h
              simp only at h
              cases q4 : setD x kd d with
              | none => rw [q4] at h; exact h.elim
              | some x' =>
                rw [q4] at h
                simp only at h
                have up2 : ∀ a, H2 a = none → H1 a = none := fun a z => by
                  cases qq : H1 a with
                  | none => rfl
                  | some o => exact absurd z (ev2.dom a (by rw [qq]; exact fun z => nomatch z))
                have up1 : ∀ a, H1 a = none → H a = none := fun a z => by
                  cases qq : H a with
                  | none => rfl
                  | some o => exact absurd z (ev.dom a (by rw [qq]; exact fun z => nomatch z))
                obtain ⟨Pd, Pr, s, ry, w⟩ := foc_var re2 q3 (hov rfl)
                have n51 : New P1 H1 P5 := fun a z => (n5 a z).imp id (up2 a)
                have d5 : ∀ a, P5 a → ¬ Tt H1 P3 a := fun a z y => (n51 a z).elim (fun q => dj a q y.1) fun q => y.2 q
                have rd3 : Rel X.K H3 d v (Tt H1 P3) := ((rd.tight).ev ev2).frame ev3 fun a z q => dj a q.2 z.1
                refine set_ok hr ry rk rd3 (fun a z => d5 a (s.1 a z)) q4 fun H4 ry4 ev4 => ?_
                have rE := w H4 x' (Uni Pd (Tt H1 P3)) x' rfl ry4 (fun a z y => z.elim (fun z => s.2.2 a z y) fun z => d5 a (s.2.1 a y) z) ev4
                have e13 : Ev P1 H1 H3 := (ev2.of_no (O := P1)).trans (ev3.mono fun _ z => z.2) New.refl
                have e14 : Ev P1 H1 H4 := e13.trans ev4 fun a z => n51 a (s.1 a z)
                have n5P : New P H P5 := fun a z => (n51 a z).elim (n1 a) fun q => .inr (up1 a q)
                exact h σ H4 _ rE (fun a z => z.elim (fun z => z.elim (fun z => n5P a (s.1 a z)) fun z => n2 a z.1) fun z => n5P a (s.2.1 a z)) (ev.trans e14 n1) Kp.refl
end
end Z

namespace Z
open PySem PySem.Spec L2
variable [TabList]

theorem takes_no {X : Cx} : L2N.Takes X (fun _ _ _ _ => False) := fun u s' ⟨a, B, sI, pins, σ, H, cls, d, e, I, nb, up, sky, na, os, ag, w⟩ => w.elim
abbrev W0 : WX := fun _ _ _ _ => False

section
variable {K : PySem.W.Frag} {H H0 : Hp} {P P0 : Own}
theorem RelE.wipe : ∀ {vs : List Nat} {env : Env} {σ : L2.St}, RelE K H env σ P → RelE K H (wipeE vs env) (L2.wipe σ vs) P
  | [], _, _, h => h
  | v :: vs, _, _, h => RelE.drop (RelE.wipe (vs := vs) h)
theorem wipe_get {i : Nat} : ∀ {vs : List Nat} {σ : L2.St}, i ∉ vs → (L2.wipe σ vs)[i]? = σ[i]?
  | [], _, _ => rfl
  | v :: vs, σ, h => by
    simp only [List.mem_cons, not_or] at h
    simp only [L2.wipe]
    rw [List.getElem?_set_ne (fun e => h.1 e.symm), wipe_get h.2]
theorem wipe_at {i : Nat} : ∀ {vs : List Nat} {σ : L2.St}, i ∈ vs → (L2.wipe σ vs)[i]? = if i < σ.length then some none else none
  | [], _, h => by cases h
  | v :: vs, σ, h => by
    simp only [L2.wipe]
    by_cases e : v = i
    · subst e
      have hl : (L2.wipe σ vs).length = σ.length := wipe_length σ vs
      by_cases hv : v < σ.length
      · rw [if_pos hv, List.getElem?_set_self (by omega)]
      · rw [if_neg hv, List.getElem?_eq_none (by simp; omega)]
    · rw [List.getElem?_set_ne e]
      exact wipe_at ((List.mem_cons.mp h).resolve_left fun z => e z.symm)
/-- which slots a comprehension's turn leaves alone -/
def notIn (own : List Nat) : Nat → Bool := fun i => !own.contains i
theorem wipe_kp {vs : List Nat} {σ σ' : L2.St} (k : Kp (notIn vs) (L2.wipe σ vs) σ') (hl : σ'.length = σ.length) : L2.wipe σ' vs = L2.wipe σ vs := by
  refine List.ext_getElem? fun i => ?_
  by_cases h : i ∈ vs
  · rw [wipe_at h, wipe_at h, hl]
  · rw [wipe_get h, k i (by simpa [notIn] using h)]
theorem RelE.back : ∀ {vs : List Nat} {env old : Env} {σ σ0 : L2.St}, vs.Nodup → RelE K H env (L2.wipe σ vs) P → RelE K H0 old σ0 P0 → (∀ i ∈ vs, σ0[i]? = σ[i]?) → Ev P0 H0 H → RelE K H (backE vs old env) σ P
  | [], _, _, _, _, _, h, _, _, _ => h
  | v :: vs, env, old, σ, σ0, nd, h, ho, hs, ev => by
    obtain ⟨n1, n2⟩ := List.nodup_cons.mp nd
    simp only [L2.wipe] at h
    have e1 : ((L2.wipe σ vs).set v none).set v ((L2.wipe σ vs)[v]?.getD none) = L2.wipe σ vs := by
      rw [List.set_set]
      refine List.ext_getElem? fun i => ?_
      by_cases e : v = i
      · subst e
        by_cases hv : v < (L2.wipe σ vs).length
        · rw [List.getElem?_set_self hv, List.getElem?_eq_getElem hv]; rfl
        · rw [List.getElem?_eq_none (by simp; omega), List.getElem?_eq_none (by omega)]
      · rw [List.getElem?_set_ne e]
    have h1 : RelE K H (env.set v none) (L2.wipe σ vs) P := by
      have := RelE.drop (i := v) (ov := (L2.wipe σ vs)[v]?.getD none) h
      rwa [e1] at this
    simp only [backE]
    refine RelE.back n2 ?_ ho (fun i hi => hs i (List.mem_cons_of_mem _ hi)) ev
    split
    · rename_i d hd
      split
      · rename_i hi
        obtain ⟨u, P1, P2, e, s, r, rs⟩ := ho.get hd
        refine RelE.put h1 Sep.nl ((Rel.imm hi r).frame ev fun _ z => z.elim) ?_
        rw [wipe_get n1, ← hs v (List.mem_cons_self ..)]
        exact e
      · exact h1
    · exact h1
end

/-- the tests of a comprehension -/
def tTs (K : PySem.W.Frag) (rx : XR) (C : Ctx) (ifs : Es) : TT := fun σ H Q => ∃ env P b env', RelE K H env σ P ∧ evIf C ifs env = .ok b env' ∧ ∀ H' P1, RelE K H' env' σ P1 → New P H P1 → Ev (eO ifs.pu P) H H' → Q b H'
theorem PTs.of {X : Cx} {e : List Expr} {t' : TT} (h : ∀ σ H Q, t' σ H Q → ∃ t, PTs X e t ∧ t σ H Q) : PTs X e t' := ⟨fun pins s σ H Q I hw => let ⟨_, a, b⟩ := h σ H Q hw; a.run pins s σ H Q I b⟩
section
variable {X : Cx} {rx : XR} {C : Ctx} {c : E} {ec : Expr}
theorem if_nil : PTs X [] (tTs X.K rx C .nil) := PTs.of fun σ H Q ⟨env, P, b, env', hE, h, q⟩ => ⟨_, pts_nil, by
  cases h
  exact q H P hE New.refl Ev.refl⟩
theorem if_one (h : PT X ec (tT X.K rx W0 C c)) : PTs X [ec] (tTs X.K rx C (.cons c .nil)) := PTs.of fun σ H Q ⟨env, P, b, env', hE, hv, q⟩ => ⟨_, pts_one h, env, P, hE, by
  simp only [evIf] at hv
  unfold evT
  cases q1 : evE C c env with
  | bad => rw [q1] at hv; cases hv
  | exc x e1 => rw [q1] at hv; cases hv
  | ok d e1 =>
    rw [q1] at hv
    simp only [Res.bind] at hv ⊢
    cases q2 : truth d with
    | none => rw [q2] at hv; cases hv
    | some t =>
      rw [q2] at hv
      intro H' P1 r n ev
      cases t with
      | true => cases hv; exact q H' P1 r n (ev.mono fun a z => ⟨by simp [Es.pu, z.1], z.2⟩)
      | false => cases hv; exact q H' P1 r n (ev.mono fun a z => ⟨by simp [Es.pu, z.1], z.2⟩)⟩
end

section
variable {X : Cx} {rx : XR} {W : WX} {C : Ctx}
mutual
theorem bindT_len : ∀ {t : Tg} {d : D} {env env' : Env}, bindT t d env = some env' → env'.length = env.length
  | .one i, d, env, env', h => by
    simp only [bindT, Option.ite_none_right_eq_some, Option.some.injEq] at h
    rw [← h.2, List.length_set]
  | .tup ts, d, env, env', h => by
    cases d <;> simp only [bindT, reduceCtorEq] at h
    exact bindTs_length h
theorem bindTs_length : ∀ {ts : List Tg} {ds : List D} {env env' : Env}, bindTs ts ds env = some env' → env'.length = env.length
  | [], [], _, _, h => by simp only [bindTs, Option.some.injEq] at h; rw [h]
  | [], _ :: _, _, _, h => by simp [bindTs] at h
  | _ :: _, [], _, _, h => by simp [bindTs] at h
  | t :: ts, d :: ds, _, _, h => by
    simp only [bindTs, Option.bind_eq_some_iff] at h
    obtain ⟨e2, h1, h2⟩ := h
    rw [bindTs_length h2, bindT_len h1]
end
theorem new_eo {p q : Bool} {P1 P2 : Own} {H1 : Hp} (n : New P1 H1 P2) (h : q = false → p = false) : New (eO p P1) H1 (eO q P2) := fun a z => (n a z.2).imp (fun y => ⟨h z.1, y⟩) id
theorem lc_read {vs : List Nat} {t : Tg} {it : It} {is : Es} {e : E} {σ : L2.St} {H : Hp} {Q : VK} (nd : vs.Nodup) (hf : t.free (notIn vs) = true) (h : tE X.K rx W C (.lc vs t it is e) σ H Q) : tLc (tI X.K rx W C (is.pu && e.pu) it) (tG X.K (notIn vs) t) (tTs X.K rx C is) (tE X.K rx W0 C e) vs σ H Q := by
    obtain ⟨env, P, hE, h⟩ := h
    simp only [evE] at h
    refine ⟨env, P, hE, ?_⟩
    cases q : evI C (is.pu && e.pu) it env with
    | bad => rw [q] at h; exact h.elim
    | exc x e1 => rw [q] at h; exact h
    | ok ds e1 =>
      rw [q] at h
      simp only [Res.bind] at h
      intro J H1 P1 r1 w n1 ev1 D hD
      split at h
      rotate_left
      · exact h.elim
      rename_i hlim
      cases q2 : lcLoop vs t (evIf C is) (evE C e) e.pth ds (wipeE vs e1) with
      | bad => rw [q2] at h; exact h.elim
      | exc x e2 => rw [q2] at h; exact h.elim
      | ok all e2 =>
        rw [q2] at h
        simp only at h
        let Inv' : Nat → Hp → Prop := fun i H' => ∃ env' P' acc rs Pa rs2, RelE X.K H' env' (L2.wipe σ vs) P' ∧ New P1 H1 P' ∧ ¬ P' D ∧ Ev (eO (is.pu && e.pu) P1) H1 H' ∧ H' D = some (.lst acc) ∧ Rels X.K H' rs acc Pa ∧ ¬ Pa D ∧ (∀ a, P' a → ¬ Pa a) ∧ New P1 H1 Pa ∧ rs ++ rs2 = all ∧ rs.length ≤ i ∧ lcLoop vs t (evIf C is) (evE C e) e.pth (ds.drop i) env' = .ok rs2 e2
        have dne : H1 D ≠ none → False := fun z => z hD
        have evD : Ev (eO (is.pu && e.pu) P1) H1 (upd H1 D (.lst [])) := Ev.laid hD
        refine ⟨fun i m H' => m = ds.length - i ∧ i ≤ ds.length ∧ Inv' i H', ⟨ds.length, by simp, Nat.zero_le _, ?_⟩, ?_⟩
        · have r2 := r1.tight.wipe (vs := vs)
          refine ⟨wipeE vs e1, Tt H1 P1, [], [], No, all, ?_, fun a z => .inl z.1, fun z => z.2 hD, evD, upd_same, rfl, fun z => z, fun _ _ z => z, fun _ z => z.elim, rfl, Nat.zero_le _, by simpa using q2⟩
          exact r2.ev (Ev.laid hD)
        · rintro i m H2 ⟨rfl, hil, env2, P2, acc, rs, Pa, rs2, r2, n2, hPD, ev2', hHD, ra, hPaD, dja, na, hall, hlen, hloop⟩
          have ev2 : Ev P1 H1 H2 := ev2'.eo
          obtain ⟨w1, w2⟩ := w H2 ev2'
          by_cases hl : i < ds.length
          · obtain ⟨d, hd⟩ : ∃ d, ds[i]? = some d := ⟨ds[i], List.getElem?_eq_getElem hl⟩
            obtain ⟨go, yl⟩ := w2 i d hd
            have e3 : ds.drop i = d :: ds.drop (i + 1) := by
              obtain ⟨h3, rfl⟩ := List.getElem?_eq_some_iff.mp hd
              exact List.drop_eq_getElem_cons h3
            rw [e3] at hloop
            simp only [lcLoop] at hloop
            refine .inr ⟨go, fun H' => i + 1 ≤ ds.length ∧ Inv' (i + 1) H', fun H' z => ⟨ds.length - (i + 1), by omega, rfl, z⟩, fun x H3 hy => ?_⟩
            obtain ⟨ev3, rd⟩ := yl x H3 hy
            cases q3 : bindT t d env2 with
            | none => rw [q3] at hloop; cases hloop
            | some e4 =>
              rw [q3] at hloop
              simp only at hloop
              refine ⟨hf, d, env2, P2, No, e4, r2.ev ev3, rd, fun _ _ z => z, q3, fun σ4 r4 k4 => ?_⟩
              have hl4 : σ4.length = σ.length := by
                have a1 := r4.length
                have a2 := r2.length
                have a3 := bindT_len q3
                rw [wipe_length] at a2
                omega
              have hw : L2.wipe σ4 vs = L2.wipe σ vs := wipe_kp k4 hl4
              refine ⟨hw, ?_⟩
              have n4 : New P2 H2 (Uni P2 No) := fun a z => z.elim .inl fun z => z.elim
              have ev3' : Ev P2 H2 H3 := ev3.of_no
              have hU : ∀ {a}, Uni P2 No a → P2 a := fun z => z.elim id fun z => z.elim
              cases q4 : evIf C is e4 with
              | bad => rw [q4] at hloop; cases hloop
              | exc x e5 => rw [q4] at hloop; cases hloop
              | ok b e5 =>
                rw [q4] at hloop
                refine ⟨e4, Uni P2 No, b, e5, r4, q4, fun H5 P5 r5 n5 ev5 => ?_⟩
                have ev25' : Ev (eO is.pu P2) H2 H5 := (ev3.of_no).trans (ev5.mono fun _ z => ⟨z.1, hU z.2⟩) New.refl
                have ev25 : Ev P2 H2 H5 := ev25'.eo
                have ev15 : Ev (eO (is.pu && e.pu) P1) H1 H5 := ev2'.trans ev25' (new_eo n2 fun z => by rw [z, Bool.false_and])
                have n25 : New P2 H2 P5 := n4.trans ev3' n5
                have d2 : ∀ {a}, P2 a → a ≠ D := fun z e => hPD (by rw [← e]; exact z)
                have hD2 : H2 D ≠ none := by rw [hHD]; exact fun z => nomatch z
                have hPD5 : ¬ P5 D := fun z => (n25 D z).elim hPD fun z => hD2 z
                have hHD5 : H5 D = some (.lst acc) := ev25.keep D _ hHD (fun _ z => nomatch z) fun z => (hPD z).elim
                have ra5 := (ra.tight).frame ev25 fun a z y => dja a y z.1
                have dja5 : ∀ a, P5 a → ¬ Tt H2 Pa a := fun a z y => (n25 a z).elim (fun z => dja a z y.1) y.2
                cases b with
                | false =>
                  dsimp only
                  rw [if_neg Bool.false_ne_true]
                  simp only at hloop
                  refine ⟨by omega, wipeE vs e5, P5, acc, rs, Tt H2 Pa, rs2, by rw [← hw]; exact r5.wipe, n2.trans ev2 n25, hPD5, ev15, hHD5, ra5, fun z => hPaD z.1, dja5, fun a z => na a z.1, hall, by omega, hloop⟩
                | true =>
                  dsimp only
                  rw [if_pos rfl]
                  simp only at hloop
                  refine ⟨e5, P5, r5, ?_⟩
                  cases q5 : evE C e e5 with
                  | bad => rw [q5] at hloop; cases hloop
                  | exc x e6 => rw [q5] at hloop; cases hloop
                  | ok r e6 =>
                    rw [q5] at hloop
                    simp only at hloop
                    split at hloop
                    · cases hloop
                    rename_i hp
                    cases q6 : lcLoop vs t (evIf C is) (evE C e) e.pth (ds.drop (i + 1)) (wipeE vs e6) with
                    | bad => rw [q6] at hloop; cases hloop
                    | exc x e7 => rw [q6] at hloop; cases hloop
                    | ok rs7 e7 =>
                      rw [q6] at hloop
                      cases hloop
                      intro y H6 P6 P7 r6 rd6 hd6 n6 ev6
                      obtain ⟨P8, rd8, dj8, n8⟩ : ∃ P8, Rel X.K H6 r y P8 ∧ (∀ a, P6 a → ¬ P8 a) ∧ New P5 H5 P8 := by
                        cases hp2 : e.pth with
                        | false => exact ⟨P7, rd6, (hd6 hp2).1, fun a z => ((hd6 hp2).2 a z).imp (fun z => z.2) id⟩
                        | true => exact ⟨No, Rel.imm (by simpa [hp2] using hp) rd6, fun _ _ z => z, fun _ z => z.elim⟩
                      have ev56 : Ev P5 H5 H6 := ev6.eo
                      have ev16 : Ev (eO (is.pu && e.pu) P1) H1 H6 := ev15.trans ev6 (new_eo (n2.trans ev2 n25) fun z => by rw [z, Bool.and_false])
                      have ev26 : Ev P2 H2 H6 := ev25.trans ev56 n25
                      have n26 : New P2 H2 P6 := n25.trans ev25 n6
                      have n28 : New P2 H2 P8 := n25.trans ev25 n8
                      have hHD6 : H6 D = some (.lst acc) := ev26.keep D _ hHD (fun _ z => nomatch z) fun z => (hPD z).elim
                      have hPD6 : ¬ P6 D := fun z => (n26 D z).elim hPD fun z => hD2 z
                      have hPD8 : ¬ P8 D := fun z => (n28 D z).elim hPD fun z => hD2 z
                      have evu : Ev (fun a => a = D) H6 (upd H6 D (.lst (acc ++ [y]))) := Ev.wrote hHD6 trivial rfl
                      have ra6 := ((ra.tight).frame ev26 fun a z y => dja a y z.1).frame evu fun a z e => hPaD (by rw [← e]; exact z.1)
                      have rd9 := rd8.frame evu fun a z e => hPD8 (by rw [← e]; exact z)
                      have dj9 : ∀ a, Tt H2 Pa a → ¬ P8 a := fun a z y => (n28 a y).elim (fun y => dja a y z.1) z.2
                      have dj6 : ∀ a, P6 a → ¬ Tt H2 Pa a := fun a z y => (n26 a z).elim (fun z => dja a z y.1) y.2
                      refine ⟨acc, hHD6, ?_, by omega, wipeE vs e6, P6, acc ++ [y], rs ++ [r], Uni (Tt H2 Pa) P8, rs7, ?_, n2.trans ev2 n26, hPD6, ?_, upd_same, Rels.append (Sep.uni dj9) ra6 (Rels.cons Sep.nr rd9 (show Rels X.K _ [] [] No from rfl)), fun z => z.elim (fun z => hPaD z.1) hPD8, fun a z y => y.elim (dj6 a z) (dj8 a z), fun a z => z.elim (fun z => na a z.1) fun z => (n2.trans ev2 n28) a z, by rw [List.append_assoc]; exact hall, ?_, q6⟩
                      · have := ra.length
                        rw [← lim_eq]; omega
                      · rw [← hw]
                        exact (r6.frame evu fun a z e => hPD6 (by rw [← e]; exact z)).wipe
                      · refine ev16.trans (evu.mono (O1 := fun a => a = D) fun _ z => z) fun a z => ?_
                        subst z
                        exact .inr hD
                      · simp; omega
          · have e3 : ds.drop i = [] := List.drop_eq_nil_iff.mpr (by omega)
            rw [e3] at hloop
            cases hloop
            refine .inl ⟨w1 i (by omega), ?_⟩
            rw [List.append_nil] at hall
            subst hall
            have rb := RelE.back nd r2 r1 (fun _ _ => rfl) ev2
            refine h (.ref D) H2 P2 (Uni (fun a => a = D) Pa) rb ⟨D, acc, Pa, rfl, ⟨hHD, .inl rfl, fun b z => ⟨.inr z, fun e => hPaD (by rw [← e]; exact z)⟩⟩, ra⟩ (fun _ => ⟨fun a z y => y.elim (fun y => hPD (by rw [← y]; exact z)) (dja a z), fun a z => ?_⟩) (n1.trans ev1 n2) ((ev1.trans ev2 n1).mono fun a z => ⟨rfl, z⟩)
            rcases z with z | z
            · subst z
              refine .inr ?_
              cases qq : H a with
              | none => rfl
              | some o => exact absurd hD (ev1.dom a (by rw [qq]; exact fun z => nomatch z))
            · exact ((n1.trans ev1 na) a z).imp (fun z => ⟨rfl, z⟩) id
theorem s_lc {elt tg iter : Expr} {ifs : List Expr} {scope : Scope} {own : List (Str × Nat)} {pos : Pos} {t : Tg} {it : It} {is : Es} {e : E} (hc : X.calm = true) (hN : X.N.Nodup) (hi : PI X tg iter (tI X.K rx W C (is.pu && e.pu) it)) (ok : blkC X.N X.env.scope scope own = true) (nd : (own.map (·.2)).Nodup) (hf : t.free (notIn (own.map (·.2))) = true)
    (hg : ∀ (s : Shared) (H : Hp) (A : Addr) (cl : List (Str × Addr)) (fp : List Addr), PG (X.blk s H scope (compEnvC scope cl A X.env) fp) tg (tG X.K (notIn (own.map (·.2))) t)) (ht : ∀ (s : Shared) (H : Hp) (A : Addr) (cl : List (Str × Addr)) (fp : List Addr), PTs (X.blk s H scope (compEnvC scope cl A X.env) fp) ifs (tTs X.K rx C is))
    (he : ∀ (s : Shared) (H : Hp) (A : Addr) (cl : List (Str × Addr)) (fp : List Addr), PE (X.blk s H scope (compEnvC scope cl A X.env) fp) elt (tE X.K rx W0 C e)) (hs : ∀ x, foldedSetIterable iter X.env x = pure x) :
    PE X (.ListComp elt [⟨tg, iter, ifs, 0⟩] scope pos) (tE X.K rx W C (.lc (own.map (·.2)) t it is e)) :=
  PE.of fun σ H Q h => by
    exact ⟨_, pe_lc hc hN hi (blkOk_by ok) hg ht he hs, lc_read nd hf h⟩
theorem q_setLc {i : Nat} {y : Str} {py : Pos} {elt tg iter : Expr} {ifs : List Expr} {scope : Scope} {own : List (Str × Nat)} {pos spos : Pos} {t : Tg} {it : It} {is : Es} {e : E} (hc : X.calm = true) (hN : X.N.Nodup) (hy : X.N[i]? = some y) (hyl : X.env.scope.names.lookup y = some .local) (hk : X.env.scope.kind = .function) (hl : (py.line == pos.line) = true)
    (hna : (scope.names.any fun (n, k) => n == y && (k == .local || k == .cell)) = false)
    (hi : PI X tg iter (tI X.K rx W C (is.pu && e.pu) it)) (ok : blkC X.N X.env.scope scope own = true) (nd : (own.map (·.2)).Nodup) (hf : t.free (notIn (own.map (·.2))) = true)
    (hg : ∀ (s : Shared) (H : Hp) (A : Addr) (cl : List (Str × Addr)) (fp : List Addr), PG (X.blk s H scope (compEnvC scope cl A X.env) fp) tg (tG X.K (notIn (own.map (·.2))) t)) (ht : ∀ (s : Shared) (H : Hp) (A : Addr) (cl : List (Str × Addr)) (fp : List Addr), PTs (X.blk s H scope (compEnvC scope cl A X.env) fp) ifs (tTs X.K rx C is))
    (he : ∀ (s : Shared) (H : Hp) (A : Addr) (cl : List (Str × Addr)) (fp : List Addr), PE (X.blk s H scope (compEnvC scope cl A X.env) fp) elt (tE X.K rx W0 C e)) (hs : ∀ x, foldedSetIterable iter X.env x = pure x) :
    PS X (.Assign [.Name y py] (.ListComp elt [⟨tg, iter, ifs, 0⟩] scope pos) spos) (tS X.K rx W C (.asg (.one i) (.lc (own.map (·.2)) t it is e))) :=
  PS.of fun D σ H ⟨env, P, hE, h⟩ => ⟨_, ps_setLc hc hN hy hyl (sw_true hk hyl hl hna) hi (blkOk_by ok) hg ht he hs, lc_read nd hf (tE_mono (tS_thn hE h) fun v H1 ⟨d, e1, P1, P2, r, rd, dj, n1, n2, ev, h⟩ => by
    split at h
    · exact h.elim
    rename_i hc
    simp only [Bool.or_eq_true, Bool.not_eq_true', not_or, Bool.not_eq_false, Bool.and_eq_true, not_and] at hc
    simp only [bindT] at h
    split at h
    rotate_left
    · exact h.elim
    rename_i e2 he2
    simp only [Option.ite_none_right_eq_some, Option.some.injEq] at he2
    obtain ⟨hl, rfl⟩ := he2
    have hk2 : C.kp i = false := by simpa [Tg.free] using hc.2
    exact h _ H1 (Uni P1 P2) (r.store (P := Uni P1 P2) hl ⟨fun _ z => .inr z, fun _ z => .inl z, fun a z y => dj rfl a y z⟩ rd) (fun a z => z.elim (n1 a) (n2 rfl a)) ev (Kp.set hk2))⟩
end
end Z

namespace Z
open PySem PySem.Spec L2 
open PyProof.Rows (envOfC)
variable [TabList]

/-- a def: its parameters, its slots, the parameters that are bound anew, its body -/
structure Fd where
  np : Nat
  n : Nat
  re : List Nat
  body : Ss
def Fd.kp (f : Fd) : Nat → Bool := fun i => decide (i < f.np) && !f.re.contains i
def finE : Nat → List Nat → Nat → Env → Env
  | 0, _, _, _ => []
  | n + 1, re, i, [] => none :: finE n re (i + 1) []
  | n + 1, re, i, d :: env => (if re.contains i then none else d) :: finE n re (i + 1) env
def Fd.fin (f : Fd) (env : Env) : Env := finE f.np f.re 0 env
def Fd.out (f : Fd) : SRes → CRes
  | .next e => .ok .non (f.fin e)
  | .ret d e => .ok d (f.fin e)
  | .exc x e => .exc x (f.fin e)
  | _ => .bad
def Fd.run (f : Fd) (call : Nat → List D → CRes) (ds : List D) : CRes :=
  if ds.length = f.np then f.out (evSs { call := call, kp := f.kp } f.body (ds.map some ++ List.replicate (f.n - f.np) none)) else .bad
/-- the program's defs, to a depth -/
def callN (fs : List Fd) : Nat → Nat → List D → CRes
  | 0, _, _ => .bad
  | k + 1, i, ds => match fs[i]? with
    | some f => f.run (callN fs k) ds
    | none => .bad

section
variable {K : PySem.W.Frag} {H : Hp}
theorem rele_none (hT : Tabs H) : ∀ {n : Nat} {P : Own}, RelE K H (List.replicate n none) (List.replicate n none) P
  | 0, _ => ⟨rfl, hT⟩
  | n + 1, P => ⟨none, _, No, P, rfl, Sep.nl, trivial, rele_none hT⟩
theorem rele_start (hT : Tabs H) : ∀ {ds : List D} {vs : List V} {P : Own} {n : Nat}, Rels K H ds vs P → RelE K H (ds.map some ++ List.replicate n none) (vs.map some ++ List.replicate n none) P
  | [], vs, P, n, h => by
    obtain rfl : vs = [] := h
    exact rele_none hT
  | d :: ds, vs, P, n, h => by
    obtain ⟨v, vs', P1, P2, rfl, s, r, rs⟩ := h
    exact ⟨some v, _, P1, P2, rfl, s, ⟨v, rfl, r⟩, rele_start hT rs⟩
theorem fin_none (hT : Tabs H) {re : List Nat} : ∀ {vs : List V} {i : Nat} {P : Own}, RelE K H (finE vs.length re i []) (vs.map some) P
  | [], _, _ => ⟨rfl, hT⟩
  | v :: vs, i, P => ⟨some v, _, No, P, rfl, Sep.nl, trivial, fin_none hT⟩
theorem fin_rel {re : List Nat} : ∀ {vs : List V} {i : Nat} {env : Env} {σ : L2.St} {P : Own}, RelE K H env σ P → (∀ j, j < vs.length → re.contains (i + j) = false → σ[j]? = (vs.map some)[j]?) → RelE K H (finE vs.length re i env) (vs.map some) P
  | [], i, env, σ, P, h, hk => by cases env <;> exact ⟨rfl, h.tabs⟩
  | v :: vs, i, [], σ, P, h, hk => by
    simp only [List.length_cons, finE, List.map_cons]
    exact ⟨some v, _, No, P, rfl, Sep.nl, trivial, fin_none h.tabs⟩
  | v :: vs, i, od :: env, σ, P, h, hk => by
    obtain ⟨ov, σ', P1, P2, rfl, s, r, rs⟩ := h
    simp only [List.length_cons, finE, List.map_cons]
    refine ⟨some v, _, P1, P2, rfl, s, ?_, fin_rel (i := i + 1) rs (fun j hj hr => ?_)⟩
    · cases hc : re.contains i with
      | true => rw [if_pos rfl]; trivial
      | false =>
        rw [if_neg Bool.false_ne_true]
        have := hk 0 (by simp) (by simpa using hc)
        simp at this
        subst this
        exact r
    · have := hk (j + 1) (by simp; omega) (by rw [← hr]; congr 1; omega)
      simpa using this
end

theorem fd_start {P : Program} {w : World} {K : PySem.W.Frag} {rx : XR} {N ps : List Str} {call : Nat → List D → CRes} {vs : List V} {H : Hp} {Q : VK} {E : XK} (I : Fd) (hp : ps.length = I.np) (hn : N.length = I.n) (hl : vs.length = ps.length) (hsp : spF K rx (I.run call) vs H Q E) :
    tSs K rx (fun c d _ H' => E c d H') { call := call, kp := I.kp } I.body { nx := fun _ H' => Q .non H', rt := Q } (L2.start N vs) H := by
  obtain ⟨hT, ds, P1, r, h⟩ := hsp
  have hd : ds.length = I.np := by rw [r.length, hl, hp]
  unfold Fd.run at h
  rw [if_pos hd] at h
  have hst : L2.start N vs = vs.map some ++ List.replicate (I.n - I.np) none := by
    unfold L2.start
    rw [hn, hl, hp]
  refine ⟨ds.map some ++ List.replicate (I.n - I.np) none, P1, by rw [hst]; exact rele_start hT r, ?_⟩
  have fin : ∀ {σ' H' env' P2}, RelE K H' env' σ' P2 → Kp I.kp (L2.start N vs) σ' → RelE K H' (I.fin env') (vs.map some) P2 := fun {σ' H' env' P2} rE hk => by
    unfold Fd.fin
    rw [← hd, r.length]
    refine fin_rel rE (fun j hj hr => ?_)
    · have := hk j (by
        unfold Fd.kp
        rw [Nat.zero_add] at hr
        rw [hr, ← hp, ← hl]
        simpa using hj)
      rw [this, hst, List.getElem?_append_left (by simpa using hj)]
  cases q : evSs { call := call, kp := I.kp } I.body (ds.map some ++ List.replicate (I.n - I.np) none) with
  | next e =>
    rw [q] at h
    exact fun σ' H' P2 rE n ev hk => h .non H' P2 No (fin rE hk) rfl (fun _ _ z => z) n (fun _ z => z.elim) ev
  | ret d e =>
    rw [q] at h
    exact fun v σ' H' P2 P3 rE rd dj n3 n2 ev hk => h v H' P2 P3 (fin rE hk) rd dj n2 n3 ev
  | exc x e =>
    rw [q] at h
    exact fun c dd σ' H' P2 rE hx n ev hk => h c dd H' P2 (fin rE hk) hx n ev
  | brk e => rw [q] at h; exact h.elim
  | cnt e => rw [q] at h; exact h.elim
  | bad => rw [q] at h; exact h.elim

theorem fd_ok {P : Program} {w : World} {K : PySem.W.Frag} {mg : Str → Option Value} {base : Heap} {rx : XR} {x qual : Str} {params : Arguments} {body : List Stmt} {scope : Scope} {dvs : List V} {kws : List (Str × V)} {f : Addr} {fd : FuncData} {N ps : List Str} {k : Nat} {call : Nat → List D → CRes}
    (F : FunD K x qual params body scope dvs kws f fd) (S : FnScope N ps scope) (I : Fd) (hp : ps.length = I.np) (hn : N.length = I.n)
    (hb : ∀ (cdv : Value) (A : Around) (outer : List PySem.Env) (s : Shared) (H : Hp) (E : XK), Room k (A.deeper (envOfC qual scope s.heap.objs.size f cdv)) → PSs (cxOf (L2N.CX P w) P w K mg base N qual scope f cdv A outer s H E) body (tSs K rx (fun c d _ H' => E c d H') { call := call, kp := I.kp } I.body)) :
    FnOk P w K mg base (L2N.CX P w) (k + 1) f fd ps (spF K rx (I.run call)) := by
  have hlen : ∀ vs H Q E, spF K rx (I.run call) vs H Q E → vs.length = ps.length := fun vs H Q E ⟨_, ds, P, r, h⟩ => by
    rw [← r.length, hp]
    unfold Fd.run at h
    split at h
    · rename_i d fin q
      split at q
      · assumption
      · cases q
    · rename_i d fin q
      split at q
      · assumption
      · cases q
    · exact h.elim
  exact F.ok S hlen fun cdv A outer s H vs Q E hr hsp => ⟨_, hb cdv A outer s H E hr, fd_start (P := P) (w := w) (ps := ps) (N := N) I hp hn (hlen _ _ _ _ hsp) hsp⟩
end Z

namespace Z
open PySem PySem.Spec L2
variable [TabList]

/-! ### names, checked at once -/
def visB (sc : Scope) (x : Str) : Bool := match sc.names.lookup x with
  | some .local => true
  | some .cell => true
  | some .free => true
  | _ => false
theorem vis_by {sc : Scope} {x : Str} (h : visB sc x = true) : Vis sc x := by
  unfold visB at h
  unfold Vis
  split at h
  · exact .inl (by assumption)
  · exact .inr (.inl (by assumption))
  · exact .inr (.inr (by assumption))
  · cases h
def locB (sc : Scope) (x : Str) : Bool := match sc.names.lookup x with
  | some .local => true
  | some .cell => true
  | _ => false
theorem loc_by {sc : Scope} {x : Str} (h : locB sc x = true) : L2.Loc sc x := by
  unfold locB at h
  unfold L2.Loc
  split at h
  · exact .inl (by assumption)
  · exact .inr (by assumption)
  · cases h

/-! ### freezing a value just made -/
section
variable {X : Cx} {rx : XR} {W : WX} {C : Ctx} {e : E} {ee : Expr} {pos : Pos}
theorem s_fze (he : PE X ee (tE X.K rx W C e)) : PE X ee (tE X.K rx W C (.fze e)) := by
  refine ⟨fun pins s σ H Q I ⟨env, P, hE, h⟩ => ?_⟩
  refine thn (he.run pins s σ H (fun v H1 => ∀ s1, Inv X pins σ H1 s1 → ∃ H2, Inv X pins σ H2 s1 ∧ Q v H2) I ⟨env, P, hE, ?_⟩) fun v s1 ⟨x, H1, I1, r1, q⟩ => by
    obtain ⟨H2, I2, q⟩ := q s1 I1
    exact ⟨x, H2, I2, r1, q⟩
  simp only [evE] at h
  cases q : evE C e env with
  | bad => rw [q] at h; exact h.elim
  | exc x e1 => rw [q] at h; exact h
  | ok d e1 =>
    rw [q] at h
    simp only [Res.bind] at h
    intro v H1 P1 P2 r rd hd hn ev s1 I1
    split at h
    · exact h.elim
    rename_i hc
    cases hp : e.pth with
    | true =>
      have hi : imm d = true := by simpa [hp] using hc
      rw [fz_of_imm d hi] at h
      exact ⟨H1, I1, h v H1 P1 No r (Rel.imm hi rd) (fun _ => ⟨fun _ _ z => z, fun _ z => z.elim⟩) hn ev⟩
    | false =>
      obtain ⟨H2, I2, r2, ev2⟩ := freeze I1 rd
      exact ⟨H2, I2, h v H2 P1 No (r.frame ev2 (hd hp).1) r2 (fun _ => ⟨fun _ _ z => z, fun _ z => z.elim⟩) hn (ev.trans ev2 (hd hp).2)⟩
theorem kit_isi (a b : Ty) : kitB a.nm b.nm = some (isiT a b) := by
  cases a <;> cases b <;> decide +kernel
end
section
variable {K : PySem.W.Frag} {H : Hp}
theorem tyX_of {d : D} {v : V} {P : Own} {t : Ty} (r : Rel K H d v P) (h : tyD d = some t) : TyX K H v (.type t.nm) := by
  cases d
  case non => cases h; obtain rfl : v = .non := r; exact .base .non
  case bl => cases h; obtain rfl : v = .bl _ := r; exact .base (.bl _)
  case int => cases h; obtain rfl : v = .int _ := r; exact .base (.int _)
  case str => cases h; obtain rfl : v = .str _ := r; exact .base (.str _)
  case tup =>
    cases h
    obtain ⟨a, vs, rfl, s, _⟩ := r
    rcases s with (s | ⟨o, s⟩) | ⟨o, its, n, s, c, _⟩
    · exact .base (.tup s)
    · exact .fTuple s
    · exact .kTuple s c
  case lst m ds =>
    cases h
    obtain ⟨a, vs, Q, rfl, s, _⟩ := r
    cases m with
    | true => exact .base (.lst s.1)
    | false => obtain ⟨o, s⟩ := s.1; exact .base (.frz s)
  case scr =>
    cases h
    obtain ⟨a, rfl, s⟩ := r
    rcases s with ⟨o, s⟩ | ⟨o, its, n, s, c, _⟩
    · exact .base (.frz s)
    · exact .kList s c
  case dic m ks ds =>
    cases h
    obtain ⟨a, vs, Q, rfl, s, _⟩ := r
    cases m with
    | true => exact .base (.dK s.1)
    | false => obtain ⟨o, s⟩ := s.1; exact .fDict s
  case dit m ks ds =>
    cases m with
    | true => cases h; obtain ⟨a, vs, Q, rfl, s, _⟩ := r; exact .base (.dT s.1)
    | false => cases h
  case set => cases h
end
section
variable {X : Cx} {rx : XR} {W : WX} {C : Ctx} {a : E} {ea : Expr} {pos p p2 : Pos}
theorem boot_isi : bootBuiltins ("isinstance" : Str) = some (.builtin "isinstance") := by rfl
theorem s_isi (t : Ty) {y : Str} (hg : Gl X "isinstance") (hm : X.mg "isinstance" = none) (ha : PE X ea (tE X.K rx W C a)) (hgy : Gl X y) (hmy : X.mg y = none) (hy : bootBuiltins y = some (.type t.nm)) (hn : y ≠ "__name__") (hd : (y == ("__debug__" : Str)) = false)
    (hs : starEach [ea, .Name y p2] X.env = (false, eval ea X.env) :: starEach [.Name y p2] X.env) (hs2 : starEach [.Name y p2] X.env = (false, eval (.Name y p2) X.env) :: starEach [] X.env) (hpl : (backTo pos (starEach [.Name y p2] X.env)).any (·.1) = false) :
    PE X (.Call (.Name "isinstance" p) [ea, .Name y p2] [] pos) (tE X.K rx W C (.ap (.isi t) (.cons a .nil))) :=
  PE.of fun σ H Q h => by
    refine ⟨_, pe_callB call_isi hg hm boot_isi (pa_cons ha (pa_cons (pe_bltn hgy hmy hy (v := .ty t.nm) rfl hn hd) pa_nil hs2) hs) (by decide) (by decide) hs hpl, ?_⟩
    refine tE_mono (ap_one h) fun x H1 ⟨d, r, P2, rd, hp, hf⟩ => ?_
    simp only [PF.ap, Option.map_eq_some_iff] at hp
    obtain ⟨n, hn, rfl⟩ := hp
    exact ⟨x, .ty t.nm, .type n.nm, .type t.nm, isiT n t, rfl, .ty _, tyX_of rd hn, kit_ty (kit_isi n t), hf.bl⟩
end
end Z

namespace Z
open PySem PySem.Spec L2
variable [TabList]

section
variable {K : PySem.W.Frag} {rx : XR} {W : WX} {C : Ctx} {σ : L2.St} {H : Hp} {Q : VK}
theorem ap_three {p : PF} {a b c : E} (h : tE K rx W C (.ap p (.cons a (.cons b (.cons c .nil)))) σ H Q) : tE K rx W C a σ H fun x H1 => tE K rx W C b σ H1 fun y H2 => tE K rx W C c σ H2 fun z H3 => ∃ d e f r P2 P4 P6, Rel K H3 d x P2 ∧ Rel K H3 e y P4 ∧ Rel K H3 f z P6 ∧ p.ap [d, e, f] = some r ∧ Fin K r H3 Q := by
  refine tE_mono (b_cons (ap_b h)) fun x H1 h1 => tE_mono (b_cons h1) fun y H2 h2 => tE_mono (b_cons h2) fun z H3 h3 => ?_
  obtain ⟨ds, r, rb, ha, hf⟩ := b_nil h3
  rcases ds with _ | ⟨d, _ | ⟨e, _ | ⟨f, _ | ⟨g, ds⟩⟩⟩⟩
  · cases (show [x, y, z] = [] from rb)
  · obtain ⟨v, vs', P2, e1, r1, rb⟩ := rb
    obtain ⟨rfl, rfl⟩ := List.cons.inj e1
    cases (show [y, z] = [] from rb)
  · obtain ⟨v, vs', P2, e1, r1, rb⟩ := rb
    obtain ⟨rfl, rfl⟩ := List.cons.inj e1
    obtain ⟨v, vs', P4, e2, r2, rb⟩ := rb
    obtain ⟨rfl, rfl⟩ := List.cons.inj e2
    cases (show [z] = [] from rb)
  · obtain ⟨v, vs', P2, e1, r1, rb⟩ := rb
    obtain ⟨rfl, rfl⟩ := List.cons.inj e1
    obtain ⟨v, vs', P4, e2, r2, rb⟩ := rb
    obtain ⟨rfl, rfl⟩ := List.cons.inj e2
    obtain ⟨v, vs', P6, e3, r3, rb⟩ := rb
    obtain ⟨rfl, rfl⟩ := List.cons.inj e3
    exact ⟨d, e, f, r, P2, P4, P6, r1, r2, r3, ha, hf⟩
  · obtain ⟨v, vs', P2, e1, r1, rb⟩ := rb
    obtain ⟨rfl, rfl⟩ := List.cons.inj e1
    obtain ⟨v, vs', P4, e2, r2, rb⟩ := rb
    obtain ⟨rfl, rfl⟩ := List.cons.inj e2
    obtain ⟨v, vs', P6, e3, r3, rb⟩ := rb
    obtain ⟨rfl, rfl⟩ := List.cons.inj e3
    obtain ⟨v, vs', P8, e4, _⟩ := rb
    cases e4
end
section
variable {X : Cx} {rx : XR} {W : WX} {C : Ctx} {a b c : E} {ea eb ec : Expr} {pos p2 : Pos}
theorem s_cut0 (ha : PE X ea (tE X.K rx W C a)) : PE X (.Subscript ea (.Slice none none none p2) pos) (tE X.K rx W C (.ap (.slc false false) (.cons a .nil))) :=
  PE.of fun σ H Q h => ⟨_, pe_slice sl_cut ha po_none po_none, tE_mono (ap_one h) fun x H1 ⟨d, r, P2, rd, hp, hf⟩ => ⟨d, r, P2, rd, hp, hf⟩⟩
theorem s_cutL (ha : PE X ea (tE X.K rx W C a)) (hb : PE X eb (tE X.K rx W C b)) : PE X (.Subscript ea (.Slice (some eb) none none p2) pos) (tE X.K rx W C (.ap (.slc true false) (.cons a (.cons b .nil)))) :=
  PE.of fun σ H Q h => ⟨_, pe_slice sl_cut ha (po_some hb) po_none, tE_mono (ap_two h) fun x H1 h1 => tE_mono h1 fun y H2 ⟨d, e, r, P2, P4, rd, re, hp, hf⟩ => by
    cases e <;> simp only [PF.ap, reduceCtorEq] at hp
    obtain rfl : y = .int _ := re
    exact ⟨_, rfl, d, r, P2, rd, hp, hf⟩⟩
theorem s_cutH (ha : PE X ea (tE X.K rx W C a)) (hb : PE X eb (tE X.K rx W C b)) : PE X (.Subscript ea (.Slice none (some eb) none p2) pos) (tE X.K rx W C (.ap (.slc false true) (.cons a (.cons b .nil)))) :=
  PE.of fun σ H Q h => ⟨_, pe_slice sl_cut ha po_none (po_some hb), tE_mono (ap_two h) fun x H1 h1 => tE_mono h1 fun y H2 ⟨d, e, r, P2, P4, rd, re, hp, hf⟩ => by
    cases e <;> simp only [PF.ap, reduceCtorEq] at hp
    obtain rfl : y = .int _ := re
    exact ⟨_, rfl, d, r, P2, rd, hp, hf⟩⟩
end
end Z

namespace Z
open PySem PySem.Spec L2
open PyProof.Rows (envOfC)
variable [TabList]

def fnlB (X : Cx) (x : Str) : Bool := X.fn x || (match X.env.scope.names.lookup x with | some .local => true | _ => false)
theorem fnl_by {X : Cx} {x : Str} (h : fnlB X x = true) : X.fn x = true ∨ X.env.scope.names.lookup x = some .local := by
  unfold fnlB at h
  rcases Bool.or_eq_true _ _ ▸ h with h | h
  · exact .inl h
  · right
    split at h
    · assumption
    · cases h
section
variable {P : Program} {w : World} {K : PySem.W.Frag} {mg : Str → Option Value} {base : Heap} {N : List Str} {qual : Str} {scope : Scope} {f : Addr} {cd : Value} {A : Around} {outer : List PySem.Env} {s : Shared} {H : Hp} {E : XK}
theorem takes_cx : L2N.Takes (cxOf (L2N.CX P w) P w K mg base N qual scope f cd A outer s H E) (fun cls d _ H' => E cls d H') := L2N.takes_of rfl rfl rfl rfl
theorem owns_cx : PassesOwn (model P w) (cxOf (L2N.CX P w) P w K mg base N qual scope f cd A outer s H E).A (cxOf (L2N.CX P w) P w K mg base N qual scope f cd A outer s H E).env (cxOf (L2N.CX P w) P w K mg base N qual scope f cd A outer s H E).xe :=
  passes_of (X := cxOf (L2N.CX P w) P w K mg base N qual scope f cd A outer s H E) (K := fun e s'' => L2N.CX P w outer H s E e s'') (E₁ := fun e s'' => L2N.CX P w outer H s E e s'') rfl
end
/-- a def of the program, at a level -/
def FnG (P : Program) (w : World) (K : PySem.W.Frag) (mg : Str → Option Value) (base : Heap) (rx : XR) (k : Nat) (x : Str) (sem : List D → CRes) : Prop :=
  ∃ f fd ps, FnOk P w K mg base (L2N.CX P w) k f fd ps (spF K rx sem) ∧ mg x = some (.ref f) ∧ PySem.W.keepIn K (.ref f) = true ∧ L2.Binds K fd ps []
section
variable {X : Cx} {rx : XR} {W : WX} {C : Ctx} {a b : E} {ea eb : Expr} {pos p2 : Pos} {rest : List Expr}
theorem s_and1 (ha : PE X ea (tE X.K rx W C a)) : PE X (.BoolOp .And [ea] pos) (tE X.K rx W C a) := pe_one ha
theorem s_or1 (ha : PE X ea (tE X.K rx W C a)) : PE X (.BoolOp .Or [ea] pos) (tE X.K rx W C a) := pe_one ha
theorem w_and1 (ha : PT X ea (tT X.K rx W C a)) : PW X (.BoolOp .And [ea] pos) (tT X.K rx W C a) := pw_and1 ha
theorem w_or1 (ha : PT X ea (tT X.K rx W C a)) : PW X (.BoolOp .Or [ea] pos) (tT X.K rx W C a) := pw_or1 ha
theorem s_dic0 : PE X (.Dict [] [] pos) (tE X.K rx W C (.dic .nil)) :=
  PE.of fun σ H Q ⟨env, P, hE, h⟩ => ⟨_, pe_dnewK, fun p hp => by
    have evp : Ev (eO true P) H (upd H p (.dK [])) := Ev.laid hp
    have evn : Ev No H (upd H p (.dK [])) := Ev.laid hp
    refine h (.ref p) _ (Tt H P) (fun a => a = p) (hE.tight.ev evn) ⟨p, [], No, rfl, ⟨upd_same, rfl, fun _ z => z.elim⟩, ⟨rfl, List.nodup_nil⟩, rfl⟩ (fun _ => ⟨fun a z y => z.2 (by rw [y]; exact hp), fun a z => .inr (by rw [z]; exact hp)⟩) (fun a z => .inl z.1) evp⟩
end
theorem slot_append : Slot "list" "append" (mmId .append) := PySem.F.slot_list_append
theorem slot_pop : Slot "list" "pop" (mmId .pop) := PySem.F.slot_list_pop
theorem slot_extend : Slot "list" "extend" (mmId .extend) := PySem.F.slot_list_extend
theorem slot_clear : Slot "list" "clear" (mmId .clear) := PySem.F.slot_list_clear
end Z

namespace PySem
open Sem (wp)
theorem meets_enum1 {v : Value} {o : Obj} {H : Heap → Prop} (B : Begins v o H) :
    Meets (Builtin.«enumerate.__new__» ⟨[.type "enumerate", v], []⟩) (fun _ R s => H s.heap ∧
      R (.ok (.ret (.ref (s.heap.push o).objs.size))) { s with heap := (s.heap.push o).push { cls := .type "enumerate", data := .fields #[.none, .bool false, .ref s.heap.objs.size, rawInt 0, .none, .none] } }) :=
  .of_wp fun prog w A R s h => by
    obtain ⟨hp, g, d, tk, os⟩ := s; obtain ⟨h1, h⟩ := h
    have hsub := sub_enumerate
    have q1 : ∀ {A' : Around} {E : Value → Shared → Prop} {Q : Value → Shared → Prop}, Q (.ref hp.objs.size) ⟨hp.push o, g, d, tk, os⟩ → wpAny (model prog w) A' (pyIter v) Q E ⟨hp, g, d, tk, os⟩ :=
      fun q => B.iter prog w _ _ ⟨hp, g, d, tk, os⟩ _ h1 q
    wp_walk using q1
    refine wpAny_stack_any fun st => wpAny_pure ?_
    split
    · rename_i c _ _ _ _ _
      cases (c == Value.type "enumerate")
      · wp_walk using q1
        exact ⟨_, rfl, h⟩
      · wp_walk using q1
        exact ⟨_, rfl, h⟩
    · wp_walk using q1
      exact ⟨_, rfl, h⟩
section
variable {prog : Program} {w : World} {A : Around} {E : Value → Shared → Prop} {s : Shared}
theorem enum_begins1 {v : Value} {o : Obj} {H : Heap → Prop} {Q : Value → Shared → Prop} (B : Begins v o H) (h1 : H s.heap)
    (h : ∀ h', IsEnum h' (s.heap.objs.size + 1) s.heap.objs.size 0 .none → h'.get? s.heap.objs.size = some o → h'.objs.size = s.heap.objs.size + 2 →
      (∀ b o, s.heap.get? b = some o → h'.get? b = some o) → Q (.ref (s.heap.objs.size + 1)) { s with heap := h' }) :
    wpAny (model prog w) A (call (.type "enumerate") [v]) Q E s := by
  refine callType_new F.called_enumerate (by decide) (F.typeCall_enumerate_1 _) (F.newCall_enumerate_1 _) (fun obj => F.args_object_init_2 obj _) F.entry_enumerate_new
    (meets_enum1 B) ⟨h1, ?_⟩
  have hz : (s.heap.push o).objs.size = s.heap.objs.size + 1 := Heap.size_push ..
  show _ ∧ _
  show _ ∧ _
  rw [hz]
  have he : IsEnum ((s.heap.push o).push { cls := .type "enumerate", data := .fields #[.none, .bool false, .ref s.heap.objs.size, rawInt 0, .none, .none] }) (s.heap.objs.size + 1) s.heap.objs.size 0 .none := by
    have := Heap.get?_push_size (s.heap.push o) (o := { cls := .type "enumerate", data := .fields #[.none, .bool false, .ref s.heap.objs.size, rawInt 0, .none, .none] }) rfl
    rw [hz] at this; exact this
  refine ⟨⟨_, he, rfl⟩, h _ he (Heap.get?_push_of_some _ (Heap.get?_push_size _ B.free)) (by rw [Heap.size_push, hz]) fun b o x => Heap.get?_push_of_some _ (Heap.get?_push_of_some _ x)⟩
theorem enum_endT {e it a : Addr} {items : Array Value} {i : Nat} {c : Int} {old : Value} {Q : Option Value → Shared → Prop} (hh : A.handled = none)
    (he : IsEnum s.heap e it c old) (hit : s.heap.IsTupleIter it a i) (ht : s.heap.IsTuple a items) (hx : items[i]? = none)
    (hQ : ∀ h', Heap.ExtBut it s.heap h' → Q none { s with heap := h' }) : wpAny (model prog w) A (pyNext (.ref e)) Q E s := by
  have hT : s.TypeIs (.ref e) "enumerate" := ⟨_, he, rfl⟩
  unfold pyNext
  refine wpAny_bind (wpAny_attempt (wpAny_callSpecial?_slot (name := Str.ofString "__next__") hT F.slot_enumerate_next
    (wpAny_call_entry F.slot_enumerate_next hT F.entry_enumerate_next ?_ (F.args_enumerate_next_1 _))))
  show wpAny _ _ (field (.ref e) 2 >>= _) _ _ _
  refine wpAny_bind (wpAny_field he rfl (x := .ref it) rfl ?_)
  refine wpAny_bind (wpAny_nextOf_tuple_end hh hit ht hx fun h' x he' hx' => ?_)
  obtain ⟨o, ho, hc⟩ := hx'
  refine wpAny_bind (wpAny_isInstance (T := "StopIteration") (b := true) ⟨o, ho, hc⟩ isSubtype_stop ?_)
  exact wpAny_pure (hQ _ he')
end
end PySem
namespace Z
open PySem PySem.Spec L2
variable [TabList]
/-- a tuple's things, each with its number, in new pairs -/
def IteT (K : PySem.W.Frag) (a : Addr) : L2.It :=
  ⟨fun i H => ∃ (xs : List V) (x : V), SqT K H a xs ∧ xs[i]? = some x, fun i H v H' => ∃ T x, v = .ref T ∧ H T = none ∧ H' = upd H T (.tup [.int (i : Nat), x]) ∧ ∀ xs, SqT K H a xs → xs[i]? = some x, fun i H => ∃ xs : List V, SqT K H a xs ∧ xs.length ≤ i⟩
theorem turn_enumT {P : Program} {w : World} {K : PySem.W.Frag} {elts : List Expr} {kk : Nat} {tpos : Pos} (a e it : Addr) :
    Turn P w K (.Tuple elts kk tpos) (IteT K a) [e, it] e (fun i h => (∃ old, IsEnum h e it ((i : Nat) : Int) old) ∧ h.IsTupleIter it a i ∧ e ≠ it) where
  mem := by simp
  obj := fun i h st b hb => by
    obtain ⟨⟨old, he⟩, ⟨o, ho, hc, hd⟩, _⟩ := st
    have e' : b = e ∨ b = it := by simpa using hb
    rcases e' with z | z
    · rw [z]; exact ⟨_, he, fun v q => nomatch q⟩
    · rw [z]; exact ⟨o, ho, fun v q => by rw [hd] at q; cases q⟩
  keep := fun i h h' st k => let ⟨⟨old, he⟩, hi, hne⟩ := st; ⟨⟨old, k e (by simp) _ he⟩, hi.at fun o q => k it (by simp) o q, hne⟩
  item := by
    intro X hP hw hK hc i pins s σ H E I hf st hg
    subst hP hw hK
    obtain ⟨⟨old, he⟩, hit, hne⟩ := st
    obtain ⟨xs, x, hq, hx⟩ := hg
    obtain ⟨its, rv, p, hz⟩ := I.tuple hq
    obtain ⟨u, hu, ru⟩ := rv.get hx
    have hel : e < s.heap.objs.size := Heap.lt_size he
    have hil : it < s.heap.objs.size := by obtain ⟨_, q, _⟩ := hit; exact Heap.lt_size q
    have ht : s.heap.IsTuple a its.toArray := p
    have nit : a ≠ it := fun z => by
      obtain ⟨o1, q1, c1, _⟩ := hit
      obtain ⟨o2, q2, c2, _⟩ := ht
      rw [z, q1] at q2
      cases q2
      rw [c1] at c2
      exact absurd (Value.type.inj c2) (by decide)
    have nae : a ≠ e := fun z => by
      obtain ⟨o2, q2, c2, _⟩ := ht
      rw [z] at q2
      have q3 := he
      unfold IsEnum at q3
      rw [q3] at q2
      cases q2
      exact absurd (Value.type.inj c2) (by decide)
    have D := Draws.tuple (prog := X.prog) (w := X.w) (A := X.A.in1) (I.ok.hd hc) it a nit its.toArray
    have hlt : i < its.toArray.size := by
      have := (List.getElem?_eq_some_iff.mp hu).1
      simpa using this
    refine wpAny_pyNext_enum_itemD D he ⟨hit, ht⟩ hlt hne (by simp [hne, Ne.symm nae]) fun y h' tk hy ho hst' hT hsz hk => ?_
    have ey : y = u := by
      have h1 : its.toArray[i]? = some y := hy
      rw [List.getElem?_toArray, hu] at h1
      cases h1; rfl
    subst ey
    refine ⟨_, rfl, wpAny_letOwnedTupleGo_enum (s := { s with heap := h', toks := tk + 1 }) ho fun h'' he' sb => ?_⟩
    have hT2 : h''.get? s.heap.objs.size = some { cls := .type "tuple", data := .seq #[.int i tk, y] } := (sb.2 _ (Nat.ne_of_gt hel)).trans hT
    have new : ObjOk X.prog X.w (upd H s.heap.objs.size (.tup [.int (i : Nat), x])) h'' s.heap.objs.size (.tup [.int (i : Nat), x]) :=
      ⟨by show 2 ≤ sizeLine; decide, [.int i tk, y], .cons ⟨_, rfl⟩ (.cons ru .nil), ⟨_, hT2, rfl, _, rfl⟩⟩
    have I1 : Inv X pins σ (upd H s.heap.objs.size (.tup [.int (i : Nat), x])) { s with heap := h'', toks := tk + 1 } :=
      I.turnedNew (ch := [e, it]) (fun b ob hb q => (sb.2 b (fun z => hb (by simp [z]))).trans (hk b ob (fun z => hb (by simp [z])) (fun z => hb (by simp [z])) q)) hf (Nat.le_refl _) new
    refine ⟨.ref s.heap.objs.size, _, I1, rfl, ⟨_, x, rfl, I.hok.fresh (Nat.le_refl _), rfl, fun ys hy => by rw [I.tuple_inj hy hq]; exact hx⟩, ⟨⟨y, ?_⟩, hst'.1.at fun o q => (sb.2 it (Ne.symm hne)).trans q, hne⟩, fun b hb => ?_⟩
    · have e1 : ((i + 1 : Nat) : Int) = (i : Int) + 1 := by omega
      rw [e1]; exact he'
    · have hb' : b < s.heap.objs.size := by
        have e' : b = e ∨ b = it := by simpa using hb
        rcases e' with z | z
        · rw [z]; exact hel
        · rw [z]; exact hil
      rw [upd_ne (Nat.ne_of_lt hb')]
      exact (hf b hb).1
  done := by
    intro X hP hw hK hc i pins s σ H E I hf st hg
    subst hP hw hK
    obtain ⟨⟨old, he⟩, hit, hne⟩ := st
    obtain ⟨xs, hq, hx⟩ := hg
    obtain ⟨its, rv, p, hz⟩ := I.tuple hq
    obtain ⟨f0, f1, f2, f3, f4, f5⟩ := hf it (by simp)
    have hl := rv.length
    exact enum_endT (I.ok.hd hc) he hit (show s.heap.IsTuple a its.toArray from p) (by simp; omega) fun h' eb => ⟨rfl, I.turned (t' := s.toks) (fun b o hb q => eb b o hb q) f0 f1 f3 f4 f5⟩
  self := fun A i s Q E st h => let ⟨⟨_, he⟩, _⟩ := st; wpAny_pyIter_enum he h
def iEnumT (K : PySem.W.Frag) (ta : TA) : TI := fun σ H R => ta σ H fun vs H1 => ∃ a xs, vs = [.ref a] ∧ SqT K H1 a xs ∧ R (IteT K a) H1
theorem pi_enumT {X : Cx} {e : Expr} {ta : TA} {p pos tpos : Pos} {elts : List Expr} {kk : Nat} (hg : Gl X "enumerate") (hm : X.mg "enumerate" = none) (ha : PA X [e] ta) (hs : starEach [e] X.env = [(false, eval e X.env)]) :
    PI X (.Tuple elts kk tpos) (.Call (.Name "enumerate" p) [e] [] pos) (iEnumT X.K ta) := by
  refine ⟨fun pins s σ H R I h => ?_⟩
  refine PyProof.Rows.Call_ (ld_blt I hg hm PyProof.Rows.boot_enumerate (PyProof.Rows.callWith_type1 (thn (ha.run pos pins s σ H _ I h) fun us s1 ⟨vs, H1, I1, r1, q1⟩ => ?_) hs rfl))
  obtain ⟨a, xs, ex, hq, q⟩ := q1
  subst ex
  cases r1 with
  | cons r rr =>
    cases rr
    cases r
    obtain ⟨its, rv, p', hz⟩ := I1.tuple hq
    refine enum_begins1 (begins_tuple a its.toArray) p' fun h' he hit hsz hk => wpAny_pyIter_enum he ?_
    have I2 : Inv X pins σ H1 { s1 with heap := h' } := I1.kept (t' := s1.toks) hk
    refine ⟨s1.heap.objs.size + 1, [s1.heap.objs.size + 1, s1.heap.objs.size], _, _, H1, rfl, I2, turn_enumT a (s1.heap.objs.size + 1) s1.heap.objs.size, ⟨⟨.none, he⟩, ⟨_, hit, rfl, rfl⟩, Nat.succ_ne_self _⟩, fun b hb => ?_, q⟩
    have e' : b = s1.heap.objs.size + 1 ∨ b = s1.heap.objs.size := by simpa using hb
    have hle : s1.heap.objs.size ≤ b := by
      rcases e' with z | z
      · rw [z]; exact Nat.le_add_right _ _
      · rw [z]; exact Nat.le_refl _
    exact I1.fpOk hle (I1.hok.fresh hle)
section
variable {K : PySem.W.Frag} {ds : List D} {P P2 : Own} {H : Hp} {a : Addr} {vs : List V}
theorem enumD_get {ds : List D} {i : Nat} {d : D} (h : (enumD ds 0)[i]? = some d) : ∃ d', ds[i]? = some d' ∧ d = .tup [.int (i : Int), d'] := by
  simp only [enumD, List.getElem?_mapIdx, Option.map_eq_some_iff, Nat.zero_add] at h
  obtain ⟨d', h1, rfl⟩ := h
  exact ⟨d', h1, rfl⟩
/-- the new pair -/
theorem pair_rel {H3 : Hp} {i : Nat} {x : V} {d : D} {T : Addr} (hT : H3 T = none) (r : Rel K H3 d x No) : Ev No H3 (upd H3 T (.tup [.int (i : Nat), x])) ∧ Rel K (upd H3 T (.tup [.int (i : Nat), x])) (.tup [.int (i : Int), d]) (.ref T) No := by
  have ev : Ev No H3 (upd H3 T (.tup [.int (i : Nat), x])) := Ev.laid hT
  exact ⟨ev, T, _, rfl, .inl (.inl upd_same), Rels.cons Sep.nl (show Rel K _ (.int _) (.int _) No from rfl) (Rels.cons Sep.nl (r.ev ev) (show Rels K _ [] [] No from rfl))⟩
theorem walk_enumT {v : V} (r : Rel K H (.tup ds) v P2) (hi : imms ds = true) : ∃ a xs, [v] = [.ref a] ∧ SqT K H a xs ∧ Walk K (IteT K a) (enumD ds 0) P H := by
  obtain ⟨a, vs, rfl, h, rs⟩ := r
  have rs := rs.imm hi
  refine ⟨a, vs, rfl, h, fun H2 ev => ⟨fun i hl => ⟨vs, sqT_frame h ev, by rw [← rs.length]; simpa [enumD] using hl⟩, fun i d hd => ?_⟩⟩
  obtain ⟨d', hd2, rfl⟩ := enumD_get hd
  obtain ⟨x, P1, e1, _, r1⟩ := rs.get hd2
  refine ⟨⟨vs, x, sqT_frame h ev, e1⟩, fun y H3 hy => ?_⟩
  obtain ⟨T, y, rfl, hT, rfl, hy⟩ := hy
  have e2 := hy vs (sqT_frame h ev)
  rw [e1] at e2; cases e2
  exact pair_rel hT ((Rel.imm (imms_of_get hi hd2) r1).frame ev fun _ z => z.elim)
theorem walk_enumL {m : Bool} {v : V} (r : Rel K H (.lst m ds) v P2) (hi : imms ds = true) (hm : m = true → ∀ a, P2 a → ¬ P a) : ∃ a xs, [v] = [.ref a] ∧ SqL K H a xs ∧ Walk K (Ite K a) (enumD ds 0) P H := by
  obtain ⟨a, vs, Q, rfl, h, rs⟩ := r
  have rs := rs.imm hi
  have hs : ∀ H2, Ev P H H2 → H2 a = some (.lst vs) ∨ ∃ o, H2 a = some (.frz o (.lst vs)) := fun H2 ev => by
    cases m with
    | true => exact .inl (ev.keep a _ h.1 (fun _ z => nomatch z) fun z => (hm rfl a h.2.1 z).elim)
    | false => exact .inr (h.1.imp fun o z => ev.keep a _ z (fun _ z => nomatch z) fun _ m => m)
  refine ⟨a, vs, rfl, .inl h.rd, fun H2 ev => ⟨fun i hl => ⟨vs, .inl (hs H2 ev), by rw [← rs.length]; simpa [enumD] using hl⟩, fun i d hd => ?_⟩⟩
  obtain ⟨d', hd2, rfl⟩ := enumD_get hd
  obtain ⟨x, P1, e1, _, r1⟩ := rs.get hd2
  refine ⟨⟨vs, x, .inl (hs H2 ev), e1⟩, fun y H3 hy => ?_⟩
  obtain ⟨T, y, rfl, hT, rfl, hy⟩ := hy
  have e2 := hy vs (.inl (hs H2 ev))
  rw [e1] at e2; cases e2
  exact pair_rel hT ((Rel.imm (imms_of_get hi hd2) r1).frame ev fun _ z => z.elim)
theorem walk_enumS {ns : List Int} {v : V} (r : Rel K H (.scr ns) v P2) : ∃ a xs, [v] = [.ref a] ∧ SqL K H a xs ∧ Walk K (Ite K a) (enumD (ns.map .int) 0) P H := by
  obtain ⟨a, rfl, h⟩ := r
  have hs : ∀ H2, Ev P H H2 → Scr K H2 a ns := fun H2 ev => h.imp (fun ⟨o, z⟩ => ⟨o, ev.keep a _ z (fun _ q => nomatch q) fun _ m => m⟩) id
  refine ⟨a, _, rfl, h.sq, fun H2 ev => ⟨fun i hl => ⟨_, (hs H2 ev).sq, by simpa [enumD] using hl⟩, fun i d hd => ?_⟩⟩
  obtain ⟨d', hd2, rfl⟩ := enumD_get hd
  simp only [List.getElem?_map, Option.map_eq_some_iff] at hd2
  obtain ⟨n, hn, rfl⟩ := hd2
  have e1 : (ns.map V.int)[i]? = some (.int n) := by rw [List.getElem?_map, hn]; rfl
  refine ⟨⟨_, _, (hs H2 ev).sq, e1⟩, fun y H3 hy => ?_⟩
  obtain ⟨T, y, rfl, hT, rfl, hy⟩ := hy
  have e2 := hy _ (hs H2 ev).sq
  rw [e1] at e2; cases e2
  exact pair_rel hT rfl
end
section
variable {X : Cx} {rx : XR} {W : WX} {C : Ctx} {a : E} {ea : Expr} {p pos tpos : Pos} {elts : List Expr} {kk : Nat} {pur : Bool}
theorem i_enum (hg : Gl X "enumerate") (hm : X.mg "enumerate" = none) (ha : PE X ea (tE X.K rx W C a)) (hs : starEach [ea] X.env = [(false, eval ea X.env)]) : PI X (.Tuple elts kk tpos) (.Call (.Name "enumerate" p) [ea] [] pos) (tI X.K rx W C pur (.enum a)) :=
  PI.of fun σ H R ⟨env, P, hE, h⟩ => by
    have hs2 : starEach [ea] X.env = (false, eval ea X.env) :: starEach [] X.env := hs
    have hpa := pa_cons ha pa_nil hs2
    simp only [evI] at h
    cases q : evE C a env with
    | bad => rw [q] at h; exact h.elim
    | exc x e1 =>
      rw [q] at h
      exact ⟨_, pi_enum hg hm hpa hs, env, P, hE, by rw [q]; exact h⟩
    | ok d e1 =>
      rw [q] at h
      simp only [Res.bind] at h
      cases d <;> simp only [enumOf] at h
      case lst m ds =>
        refine ⟨_, pi_enum hg hm hpa hs, env, P, hE, ?_⟩
        rw [q]
        intro v H1 P1 P2 r rd hd hn ev
        by_cases hc : imms ds = true ∧ (m = true → (a.pth && !pur) = false)
        · rw [if_pos hc] at h
          obtain ⟨b, xs, e, hs, w⟩ := walk_enumL (P := eO pur P1) rd hc.1 fun z a y1 y2 => (hd (by have := hc.2 z; rw [y2.1] at this; simpa using this)).1 a y2.2 y1
          exact ⟨b, xs, e, hs, h _ H1 P1 r w hn ev.eo⟩
        · rw [if_neg hc] at h; exact h.elim
      case scr ns =>
        refine ⟨_, pi_enum hg hm hpa hs, env, P, hE, ?_⟩
        rw [q]
        intro v H1 P1 P2 r rd hd hn ev
        obtain ⟨b, xs, e, hs, w⟩ := walk_enumS (P := eO pur P1) rd
        exact ⟨b, xs, e, hs, h _ H1 P1 r w hn ev.eo⟩
      case tup ds =>
        refine ⟨_, pi_enumT hg hm hpa hs, env, P, hE, ?_⟩
        rw [q]
        intro v H1 P1 P2 r rd hd hn ev
        by_cases hc : imms ds = true
        · rw [if_pos hc] at h
          obtain ⟨b, xs, e, hs, w⟩ := walk_enumT (P := eO pur P1) rd hc
          exact ⟨b, xs, e, hs, h _ H1 P1 r w hn ev.eo⟩
        · rw [if_neg hc] at h; exact h.elim
      all_goals exact h.elim
end
end Z

namespace Z
open PySem PySem.Spec L2
variable [TabList]
section
variable {X : Cx} {rx : XR} {W : WX} {C : Ctx}
theorem q_setLcF {i : Nat} {y : Str} {py : Pos} {elt tg iter : Expr} {ifs : List Expr} {scope : Scope} {own : List (Str × Nat)} {pos spos : Pos} {t : Tg} {it : It} {is : Es} {e : E} (hc : X.calm = true) (hN : X.N.Nodup) (hy : X.N[i]? = some y) (hyl : X.env.scope.names.lookup y = some .local) (hk : X.env.scope.kind = .function) (hl : (py.line == pos.line) = true)
    (hna : (scope.names.any fun (n, k) => n == y && (k == .local || k == .cell)) = false)
    (hi : PI X tg iter (tI X.K rx W C (is.pu && e.pu) it)) (ok : blkC X.N X.env.scope scope own = true) (nd : (own.map (·.2)).Nodup) (hf : t.free (notIn (own.map (·.2))) = true)
    (hg : ∀ (s : Shared) (H : Hp) (A : Addr) (cl : List (Str × Addr)) (fp : List Addr), PG (X.blk s H scope (compEnvC scope cl A X.env) fp) tg (tG X.K (notIn (own.map (·.2))) t)) (ht : ∀ (s : Shared) (H : Hp) (A : Addr) (cl : List (Str × Addr)) (fp : List Addr), PTs (X.blk s H scope (compEnvC scope cl A X.env) fp) ifs (tTs X.K rx C is))
    (he : ∀ (s : Shared) (H : Hp) (A : Addr) (cl : List (Str × Addr)) (fp : List Addr), PE (X.blk s H scope (compEnvC scope cl A X.env) fp) elt (tE X.K rx W0 C e)) (hs : ∀ x, foldedSetIterable iter X.env x = pure x) :
    PS X (.Assign [.Name y py] (.ListComp elt [⟨tg, iter, ifs, 0⟩] scope pos) spos) (tS X.K rx W C (.asg (.one i) (.fze (.lc (own.map (·.2)) t it is e)))) := by
  refine ⟨fun pins s σ H D I ⟨env, P, hE, h⟩ => ?_⟩
  refine thn ((ps_setLc hc hN hy hyl (sw_true hk hyl hl hna) hi (blkOk_by ok) hg ht he hs).run pins s σ H { D with nx := fun σ' H' => ∀ s', Inv X pins σ' H' s' → ∃ H2, Inv X pins σ' H2 s' ∧ D.nx σ' H2 } I (lc_read nd hf ?_)) fun f s' q => ?_
  · have h' : PostS X.K rx W C.kp P σ H ((evE C (.lc (own.map (·.2)) t it is e) env).thn fun d e1 => if C.kp i = true then .bad else if i < e1.length then .next (e1.set i (some (fz d))) else .bad) D := by
      simp only [evS, evE] at h
      simp only [evE]
      revert h
      generalize (evI C (is.pu && e.pu) it env).bind _ = r
      intro h
      cases r with
      | bad => exact h
      | exc x e1 => exact h
      | ok d e1 =>
        simp only [Res.bind, Res.thn] at h ⊢
        have e0 : ((E.lc (own.map (·.2)) t it is e).pth && !imm d) = false := rfl
        rw [e0] at h
        simp only [Bool.false_eq_true, if_false] at h
        have e1 : ((E.fze (.lc (own.map (·.2)) t it is e)).pth && !imm (fz d)) = false := rfl
        rw [e1] at h
        simp only [Bool.false_or, Tg.free, Bool.not_not, bindT] at h
        cases hk : C.kp i with
        | true => rw [hk] at h; simpa using h
        | false =>
          rw [hk] at h
          simp only [Bool.false_eq_true, if_false] at h ⊢
          split at h
          · rename_i e2 he2
            simp only [Option.ite_none_right_eq_some, Option.some.injEq] at he2
            rw [if_pos he2.1, he2.2]
            exact h
          · exact h.elim
    refine tE_mono (tS_thn hE h') fun v H1 ⟨d, e1, P1, P2, r, rd, dj, n1, n2, ev, h⟩ => ?_
    intro s' I'
    split at h
    · exact h.elim
    rename_i hk
    split at h
    rotate_left
    · exact h.elim
    rename_i hl
    obtain ⟨H2, I2, r2, ev2⟩ := freeze I' rd
    refine ⟨H2, I2, ?_⟩
    have r3 := r.frame ev2 (dj rfl)
    have hk2 : C.kp i = false := by simpa using hk
    exact h _ H2 (Uni P1 No) (r3.store (P := Uni P1 No) hl ⟨fun _ z => z.elim, fun _ z => .inl z, fun _ z => z.elim⟩ r2) (fun a z => z.elim (n1 a) fun z => z.elim) (ev.trans ev2 (n2 rfl)) (Kp.set hk2)
  · cases f with
    | next =>
      obtain ⟨σ', H', I', q⟩ := q
      obtain ⟨H2, I2, q⟩ := q s' I'
      exact ⟨σ', H2, I2, q⟩
    | ret v => exact q
    | brk => exact q
    | cont => exact q
end
end Z

namespace Z
open PySem PySem.Spec L2
variable [TabList]

theorem permL_map {α β : Type} (f : α → β) (perm : List Nat) (l : List α) : permL perm (l.map f) = (permL perm l).map f := by
  unfold permL
  rw [List.map_filterMap]
  congr 1
  funext j
  rw [List.getElem?_map]
theorem permL_range {α : Type} : ∀ (l : List α), permL (List.range l.length) l = l := fun l => by
  unfold permL
  refine List.ext_getElem? fun i => ?_
  have h : ∀ (n : Nat), n ≤ l.length → (List.range n).filterMap (fun j => l[j]?) = l.take n := fun n hn => by
    induction n with
    | zero => simp
    | succ n ih =>
      rw [List.range_succ, List.filterMap_append, ih (by omega)]
      have e : l[n]? = some l[n] := List.getElem?_eq_getElem (by omega)
      simp only [List.filterMap_cons, e, List.filterMap_nil]
      exact (List.take_append_getElem (by omega))
  rw [h l.length (Nat.le_refl _), List.take_length]
theorem permL_perm {α : Type} {perm : List Nat} {l : List α} (h : perm.Perm (List.range l.length)) : (permL perm l).Perm l := by
  have := h.filterMap (fun j => l[j]?)
  have e := permL_range l
  unfold permL at e ⊢
  rwa [e] at this
section
variable {K : PySem.W.Frag} {H : Hp}
theorem rels_perm {t t' : List (D × Option Nat × V)} (h : t.Perm t') : ∀ {P : Own}, Rels K H (t.map (·.1)) (t.map (·.2.2)) P → Rels K H (t'.map (·.1)) (t'.map (·.2.2)) P := by
  induction h with
  | nil => exact fun h => h
  | cons x _ ih =>
    intro P h
    obtain ⟨v, vs', P1, P2, e, s, r, rs⟩ := h
    obtain ⟨rfl, rfl⟩ := List.cons.inj e
    exact Rels.cons s r (ih rs)
  | swap x y l =>
    intro P h
    obtain ⟨v, vs', P1, P2, e, s, r, rs⟩ := h
    obtain ⟨rfl, rfl⟩ := List.cons.inj e
    obtain ⟨v, vs', P3, P4, e, s2, r2, rs2⟩ := rs
    obtain ⟨rfl, rfl⟩ := List.cons.inj e
    refine Rels.cons (P1 := P3) (P2 := Uni P1 P4) ⟨fun a z => s.2.1 a (s2.1 a z), fun a z => z.elim (s.1 a) fun z => s.2.1 a (s2.2.1 a z), fun a z y => y.elim (fun y => s.2.2 a y (s2.1 a z)) (s2.2.2 a z)⟩ r2 (Rels.cons (Sep.uni fun a z y => s.2.2 a z (s2.2.1 a y)) r rs2)
  | trans _ _ ih1 ih2 => exact fun h => ih2 (ih1 h)
theorem bk_iff {σ : L2.St} : ∀ {t : List (D × Option Nat × V)}, Bk σ (t.map (·.2.1)) (t.map (·.2.2)) ↔ ∀ q ∈ t, ∀ i, q.2.1 = some i → σ[i]? = some (some q.2.2)
  | [] => by simp [Bk]
  | (d, none, v) :: t => by
    simp only [List.map_cons, Bk]
    rw [bk_iff (t := t)]
    simp
  | (d, some i, v) :: t => by
    simp only [List.map_cons, Bk]
    rw [bk_iff (t := t)]
    simp
end
theorem evCs_len {C : Ctx} : ∀ {es : Es} {env e1 : Env} {p : List D × List (Option Nat)}, evCs C es env = .ok p e1 → p.1.length = p.2.length
  | .nil, env, e1, p, h => by
    simp only [evCs, Res.ok.injEq] at h
    rw [← h.1]; rfl
  | .cons e r, env, e1, p, h => by
    have go : ∀ {env2 : Env} {d : D} {b : Option Nat}, ((evCs C r env2).bind fun p e2 => Res.ok (d :: p.1, b :: p.2) e2) = .ok p e1 → p.1.length = p.2.length := fun {env2 d b} h => by
      cases q : evCs C r env2 with
      | bad => rw [q] at h; cases h
      | exc x e => rw [q] at h; cases h
      | ok p2 e2 =>
        rw [q] at h
        simp only [Res.bind, Res.ok.injEq] at h
        rw [← h.1]
        simp [evCs_len q]
    have go2 : ∀ {env2 : Env} {i : Nat}, ((evCs C r env2).bind fun p e2 => match e2[i]? with
      | some (some d') => Res.ok (d' :: p.1, some i :: p.2) (e2.set i none)
      | _ => .bad) = .ok p e1 → p.1.length = p.2.length := fun {env2 i} h => by
      cases q : evCs C r env2 with
      | bad => rw [q] at h; cases h
      | exc x e => rw [q] at h; cases h
      | ok p2 e2 =>
        rw [q] at h
        simp only [Res.bind] at h
        split at h
        · simp only [Res.ok.injEq] at h
          rw [← h.1]
          simp [evCs_len q]
        · cases h
    simp only [evCs] at h
    cases q : evE C e env with
    | bad => rw [q] at h; cases h
    | exc x e => rw [q] at h; cases h
    | ok d e2 =>
      rw [q] at h
      simp only [Res.bind] at h
      split at h
      · split at h
        · exact go h
        · exact go2 h
      · split at h
        · cases h
        · exact go h
section
variable {K : PySem.W.Frag} {rx : XR} {W : WX} {C : Ctx} {σ : L2.St} {H : Hp}
theorem zip3 {α β γ : Type} : ∀ {as : List α} {bs : List β} {cs : List γ}, as.length = bs.length → as.length = cs.length → ∃ t : List (α × β × γ), as = t.map (·.1) ∧ bs = t.map (·.2.1) ∧ cs = t.map (·.2.2)
  | [], [], [], _, _ => ⟨[], rfl, rfl, rfl⟩
  | a :: as, b :: bs, c :: cs, h1, h2 => by
    obtain ⟨t, e1, e2, e3⟩ := zip3 (as := as) (bs := bs) (cs := cs) (by simpa using h1) (by simpa using h2)
    exact ⟨(a, b, c) :: t, by simp [e1], by simp [e2], by simp [e3]⟩
def Es.len : Es → Nat
  | .nil => 0
  | .cons _ r => r.len + 1
theorem evCs_len2 : ∀ {es : Es} {env e1 : Env} {p : List D × List (Option Nat)}, evCs C es env = .ok p e1 → p.1.length = es.len
  | .nil, env, e1, p, h => by
    simp only [evCs, Res.ok.injEq] at h
    rw [← h.1]; rfl
  | .cons e r, env, e1, p, h => by
    have go : ∀ {env2 : Env} {d : D} {b : Option Nat}, ((evCs C r env2).bind fun p e2 => Res.ok (d :: p.1, b :: p.2) e2) = .ok p e1 → p.1.length = (Es.cons e r).len := fun {env2 d b} h => by
      cases q : evCs C r env2 with
      | bad => rw [q] at h; cases h
      | exc x e => rw [q] at h; cases h
      | ok p2 e2 =>
        rw [q] at h
        simp only [Res.bind, Res.ok.injEq] at h
        rw [← h.1]
        simp [evCs_len2 q, Es.len]
    have go2 : ∀ {env2 : Env} {i : Nat}, ((evCs C r env2).bind fun p e2 => match e2[i]? with
      | some (some d') => Res.ok (d' :: p.1, some i :: p.2) (e2.set i none)
      | _ => .bad) = .ok p e1 → p.1.length = (Es.cons e r).len := fun {env2 i} h => by
      cases q : evCs C r env2 with
      | bad => rw [q] at h; cases h
      | exc x e => rw [q] at h; cases h
      | ok p2 e2 =>
        rw [q] at h
        simp only [Res.bind] at h
        split at h
        · simp only [Res.ok.injEq] at h
          rw [← h.1]
          simp [evCs_len2 q, Es.len]
        · cases h
    simp only [evCs] at h
    cases q : evE C e env with
    | bad => rw [q] at h; cases h
    | exc x e => rw [q] at h; cases h
    | ok d e2 =>
      rw [q] at h
      simp only [Res.bind] at h
      split at h
      · split at h
        · exact go h
        · exact go2 h
      · split at h
        · cases h
        · exact go h
theorem tE_kcall {f : Nat} {perm : List Nat} {es : Es} {Q : VK} (hp : perm.Perm (List.range es.len)) (h : tE K rx W C (.kcall f perm es) σ H Q) : tCs K rx W C es σ H fun vs H1 => vs.length = es.len ∧ spF K rx (C.call f) (permL perm vs) H1 Q fun c dd H' => W c dd σ H' := by
  obtain ⟨env, P, hE, h⟩ := h
  refine ⟨env, P, hE, ?_⟩
  simp only [evE] at h
  cases q : evCs C es env with
  | bad => rw [q] at h; exact h.elim
  | exc x e1 => rw [q] at h; exact h
  | ok db e1 =>
    have hl1 := evCs_len q
    have hl2 := evCs_len2 q
    obtain ⟨ds, bs⟩ := db
    rw [q] at h
    simp only [Res.bind] at h
    intro vs H1 P1 P2 r1 rs dj n2 hn ev bk
    have hl3 := rs.length
    refine ⟨by rw [← hl3]; exact hl2, ?_⟩
    obtain ⟨t, e1, e2, e3⟩ := zip3 (as := ds) (bs := bs) (cs := vs) hl1 hl3
    subst e1 e2 e3
    have hpt : (permL perm t).Perm t := permL_perm (by
      have : (t.map (·.1)).length = es.len := hl2
      rw [List.length_map] at this
      rw [this]; exact hp)
    simp only [permL_map] at h
    have rs := rels_perm hpt.symm rs
    have bk : Bk σ ((permL perm t).map (·.2.1)) ((permL perm t).map (·.2.2)) := bk_iff.mpr fun q hq => bk_iff.mp bk q (hpt.mem_iff.mp hq)
    rw [permL_map]
    refine ⟨r1.tabs, (permL perm t).map (·.1), Tt H1 P2, rs.tight, ?_⟩
    have dj1 : ∀ a, Tt H1 P1 a → ¬ Tt H1 P2 a := fun a z y => dj a z.1 y.1
    have up : ∀ {H2 : Hp} {P5 : Own}, New (Tt H1 P2) H1 P5 → New P H P5 := fun {H2 P5} n a y => (n a y).elim (fun y => n2 a y.1) fun y => by
      right
      cases qq : H a with
      | none => rfl
      | some o => exact absurd y (ev.dom a (by rw [qq]; exact fun z => nomatch z))
    cases q2 : C.call f ((permL perm t).map (·.1)) with
    | bad => rw [q2] at h; exact h.elim
    | ok d fin =>
      rw [q2] at h
      intro v H2 P3 P4 rf rd d34 n3 n4 ev2
      have a3 : ∀ a, Tt H1 P1 a → ¬ P3 a := fun a z y => (n3 a y).elim (dj1 a z) z.2
      have a4 : ∀ a, Tt H1 P1 a → ¬ P4 a := fun a z y => (n4 a y).elim (dj1 a z) z.2
      have rE := giveBack_rel bk (r1.tight.frame ev2 dj1) rf a3
      exact h v H2 (Uni (Tt H1 P1) P3) P4 rE rd (fun _ => ⟨fun a z y => z.elim (fun z => a4 a z y) fun z => d34 a z y, fun a z => (up (H2 := H2) n4 a z).imp (fun y => ⟨rfl, y⟩) id⟩) (fun a z => z.elim (fun z => hn a z.1) (up (H2 := H2) n3 a)) ((ev.trans ev2 fun a z => n2 a z.1).mono fun _ z => ⟨rfl, z⟩)
    | exc x fin =>
      rw [q2] at h
      intro c dd H2 P3 rf hx n3 ev2
      have a3 : ∀ a, Tt H1 P1 a → ¬ P3 a := fun a z y => (n3 a y).elim (dj1 a z) z.2
      have rE := giveBack_rel bk (r1.tight.frame ev2 dj1) rf a3
      exact h c dd H2 _ rE hx (fun a z => z.elim (fun z => hn a z.1) (up (H2 := H2) n3 a)) (ev.trans ev2 fun a z => n2 a z.1)
end
/-- a call's keywords, bound -/
def KwB (K : PySem.W.Frag) (fd : FuncData) (ps : List Str) (ks : List Str) (perm : List Nat) : Prop := ∀ (s : Shared) (ws : List Value), K.In s.heap → ws.length = ks.length → BindsTo s fd ⟨[], ks.zip ws⟩ (ps.zip (permL perm ws))
def FnAtK (X : Cx) (rx : XR) (k : Nat) (x : Str) (sem : List D → CRes) (ks : List Str) (perm : List Nat) : Prop :=
  ∃ f fd ps, FnOk X.prog X.w X.K X.mg X.base (L2N.CX X.prog X.w) k f fd ps (spF X.K rx sem) ∧ X.mg x = some (.ref f) ∧ PySem.W.keepIn X.K (.ref f) = true ∧ KwB X.K fd ps ks perm
theorem PK.of {X : Cx} {e : List Keyword} {t' : TA} (h : ∀ σ H Q, t' σ H Q → ∃ t, PK X e t ∧ t σ H Q) : PK X e t' := ⟨fun pos pins s σ H Q I hw => let ⟨_, a, b⟩ := h σ H Q hw; a.run pos pins s σ H Q I b⟩
section
variable {X : Cx} {rx : XR} {W : WX} {C : Ctx} {a : E} {ea e : Expr} {es r : Es} {kws : List Keyword} {pos p kpos : Pos} {x : Str} {k f : Nat} {nm : Option Str} {ks : List Str} {perm : List Nat}
theorem sk_nil : PK X [] (tCs X.K rx W C .nil) := PK.of fun σ H Q h => ⟨_, pk_nil, c_nil h⟩
theorem sk_cons (hv : a.isVar = false) (ha : PE X ea (tE X.K rx W C a)) (hr : PK X kws (tCs X.K rx W C r)) : PK X (⟨nm, ea, kpos⟩ :: kws) (tCs X.K rx W C (.cons a r)) :=
  PK.of fun σ H Q h => ⟨_, pk_cons ha hr, c_cons hv h⟩
theorem sk_var {i : Nat} {y : Str} {yp : Pos} (hN : X.N[i]? = some y) (hv : Vis X.env.scope y) (hd : (y == ("__debug__" : Str)) = false) (hcd : (y == ("__classdict__" : Str)) = false) (hr : PK X kws (tCs X.K rx W C r)) : PK X (⟨nm, .Name y yp, kpos⟩ :: kws) (tCs X.K rx W C (.cons (.var i) r)) :=
  PK.of fun σ H Q h => ⟨_, pk_cons (pe_var hN hv hd hcd) hr, c_var h⟩
theorem vals_perm {vs : List V} {us : List Value} (r : Vals vs us) : ∀ (perm : List Nat), Vals (permL perm vs) (permL perm us)
  | [] => .nil
  | j :: perm => by
    unfold permL
    simp only [List.filterMap_cons]
    cases q : vs[j]? with
    | none =>
      have : us[j]? = none := by
        rw [List.getElem?_eq_none_iff] at q ⊢
        rw [← r.length]; exact q
      rw [this]
      exact vals_perm r perm
    | some v =>
      obtain ⟨u, hu, rv⟩ := r.get q
      rw [hu]
      exact .cons rv (vals_perm r perm)
theorem s_callK (F : FnAtK X rx k x (C.call f) ks perm) (hr : Room k X.A) (tk : L2N.Takes X W) (hg : Gl X x) (hkw : PK X kws (tCs X.K rx W C es)) (hp : perm.Perm (List.range es.len)) (hkl : ks.length = es.len) (hdb : (x == ("__debug__" : Str)) = false)
    (hall : (backToKw pos (keywordEach kws X.env)).all (·.1.isSome) = true) (hks : (backToKw pos (keywordEach kws X.env)).filterMap (·.1) = ks)
    (hpl : ((backTo pos (starEach [] X.env)).any (·.1) || (backToKw pos (keywordEach kws X.env)).any (·.1.isNone)) = false) : PE X (.Call (.Name x p) [] kws pos) (tE X.K rx W C (.kcall f perm es)) := by
  obtain ⟨fa, fd, ps, F, hm, hk, hb⟩ := F
  refine ⟨fun pins s σ H Q I h => ?_⟩
  have h2 := tE_kcall hp h
  refine wpAny_Call_Name_kw (ld_glob I hg hm ?_ hdb)
  refine PySem.W.callWith_KW0 (h₀ := X.base) I.ok.mod.kin hk hall (thn (hkw.run pos pins s σ H _ I h2) fun ws s2 ⟨zs, H2, I2, rz, hzl, q2⟩ => ⟨I2.kIn, ?_⟩) hpl
  rw [hks, List.append_nil]
  have r2 := vals_perm rz perm
  refine wpAny_call (codeAny_mono (F.run X.A X.stack s2 H2 ⟨[], ks.zip ws⟩ (permL perm ws) (permL perm zs) Q (WE W σ) hr I2.env0 (hb s2 ws I2.kIn (by rw [← rz.length, hzl, hkl])) r2 q2) fun r s' hq => ?_)
  cases r with
  | error e => exact passAtN tk σ pins H2 s2 e s' I2 hq
  | ok fl =>
    cases fl with
    | ret u => exact I2.after hq
    | next => exact False.elim hq
    | brk => exact False.elim hq
    | cont => exact False.elim hq
end
end Z

namespace Z
open PySem PySem.Spec L2
open PyProof.Rows (envOfC)
variable [TabList]

/-- a def of the program, at a level; how it may be called by keywords -/
def FnW (P : Program) (w : World) (K : PySem.W.Frag) (mg : Str → Option Value) (base : Heap) (rx : XR) (k : Nat) (x : Str) (kw : List (List Str × List Nat)) (sem : List D → CRes) : Prop :=
  ∃ f fd ps, FnOk P w K mg base (L2N.CX P w) k f fd ps (spF K rx sem) ∧ mg x = some (.ref f) ∧ PySem.W.keepIn K (.ref f) = true ∧ L2.Binds K fd ps [] ∧ ∀ (j : Nat) ks perm, kw[j]? = some (ks, perm) → KwB K fd ps ks perm
theorem FnW.at {X : Cx} {rx : XR} {k : Nat} {x : Str} {kw : List (List Str × List Nat)} {sem : List D → CRes} (h : FnW X.prog X.w X.K X.mg X.base rx k x kw sem) : FnAt X rx k x sem :=
  let ⟨f, fd, ps, a, b, c, d, _⟩ := h; ⟨f, fd, ps, a, b, c, d⟩
theorem FnW.atK {X : Cx} {rx : XR} {k : Nat} {x : Str} {kw : List (List Str × List Nat)} {sem : List D → CRes} (h : FnW X.prog X.w X.K X.mg X.base rx k x kw sem) (j : Nat) {ks : List Str} {perm : List Nat} (hj : kw[j]? = some (ks, perm)) : FnAtK X rx k x sem ks perm :=
  let ⟨f, fd, ps, a, b, c, _, e⟩ := h; ⟨f, fd, ps, a, b, c, e j ks perm hj⟩
section
variable {P : Program} {w : World} {K : PySem.W.Frag} {mg : Str → Option Value} {base : Heap} {rx : XR} {x qual : Str} {params : Arguments} {body : List Stmt} {scope : Scope} {dvs : List V} {kws : List (Str × V)} {f : Addr} {fd : FuncData} {N ps ks : List Str} {k : Nat} {perm : List Nat}
theorem kwN (F : FunD K x qual params body scope [] kws f fd)
    (h : ∀ (kV doc pm : Value) (an : Option Addr) (cdv ct : Value) (ws : List Value), ws.length = ks.length → bindArgs (PySem.W.fnOf x qual params body scope .none kV doc pm an cdv ct) ⟨[], ks.zip ws⟩ = pure (ps.zip (permL perm ws))) : KwB K fd ps ks perm := by
  obtain ⟨oc, od, dV, kV, doc, pm, an, cdv, ct, osl, rfl, lk, hcd, hD, hK⟩ := F.ex
  rcases hD with ⟨_, rfl⟩ | ⟨e, _⟩
  · exact fun s ws _ hl => .of_eq (h kV doc pm an cdv ct ws hl)
  · exact absurd rfl e
theorem fn_zero {sem : List D → CRes} (h : ∀ ds, sem ds = .bad) : FnOk P w K mg base (L2N.CX P w) k f fd ps (spF K rx sem) :=
  ⟨fun vs H Q E ⟨_, ds, P, r, q⟩ => by rw [h] at q; exact q.elim, fun A outer s H args us vs Q E _ _ _ _ ⟨_, ds, P, r, q⟩ => by rw [h] at q; exact q.elim⟩
/-- the script, at the law's start -/
theorem law_start {sem : List D → CRes} {H : Hp} {a : Addr} {ns : List Int} {fin : Z.Env} (hO : Only H) (hT : Tabs H) (hS : SqL K H a (ns.map V.int)) (h : sem [.scr ns] = .ok (.bl true) fin) :
    spF K rx sem [.ref a] H (fun v _ => v = .bl true) fun _ _ _ => False := by
  refine ⟨hT, [.scr ns], No, Rels.cons Sep.nl ⟨a, rfl, ?_⟩ (show Rels K H [] [] No from rfl), ?_⟩
  · refine hS.imp (fun z => ?_) id
    rcases z with z | z
    · rcases hO a with q | ⟨o, xs, q⟩
      · rw [z] at q; cases q
      · rw [z] at q; cases q
    · exact z
  · rw [h]
    exact fun v H' P1 P2 _ r _ _ _ _ => r
end
end Z
namespace L2
open PySem PySem.Spec PyProof.Rows
theorem walk_ofX {l : PySem.W.OpenLaw} {n k : Nat} {q : Program} {loose : List Str} {XP : (Str → Option Value) → Heap → Prop} {YP : World → Heap → Prop} {d : DefRec} {x : Str}
    (hn : l.most = some n) (hn2 : n ≤ sizeLine) (hdf : d.params.defaults = []) (hr : Room k callerA)
    (F : ∀ (w : World) (mg : Str → Option Value) (fa : Addr) (h : Heap), YP w h → h.Ns mainGlobals mg → mg d.name = some (.ref fa) →
      ∃ (K : PySem.W.Frag) (fd : FuncData) (sp : Sp), K.In h ∧ (∀ (s : Shared) (u : Value), BindsTo s fd ⟨[u], []⟩ [(x, u)]) ∧
        (∀ (H : Hp) (a : Addr) (ns : List Int), ns.length ≤ n → Only H → SqL K H a (ns.map V.int) → sp [.ref a] H (fun v _ => v = .bl true) fun _ _ _ => False) ∧
        ∀ base : Heap, K.In base → base.Ns mainGlobals mg → FnOk l.prog w K mg base (L2N.CX l.prog w) k fa fd [x] sp) :
    PySem.W.WalkO q loose XP YP l.row.toRowW d [] (fun f vs => PySem.call f vs) := by
  refine Att.attach_call hn hdf fun w s₀ s₁ mg mb fa o pm cd doc a vs ns G Y ho hd hcd hmg hobj hints hlen hg => ?_
  obtain ⟨K, fd, sp, KX, hb, hsp, hF⟩ := F w mg fa _ Y G.T.g hmg
  refine law_call KX G.T.g G.T.b G.T.builtins G.T.nolimit hg hobj hints (Nat.le_trans hlen hn2) hr hF hb (fun H hO hS => hsp H a ns hlen hO hS) fun H e s' h => ?_
  obtain ⟨_, _, _, _, _, _, _, _, _, _, _, _, h⟩ := h
  exact h
end L2

namespace PySem
open Sem (wp)
section
variable {prog : Program} {w : World} {K : Type} [DecidableEq K] {knd : KeyKind prog w K} {A : Around} {E : Value → Shared → Prop} {s : Shared}
theorem wpAny_dictPut_pairs {d : Addr} {kvs : List (K × Value)} {k : K} {key v : Value} {Q : Unit → Shared → Prop} (hkey : knd.is k key = true) (hm : s.heap.DictOf knd d kvs)
    (hQ : ∀ h', h'.DictOf knd d (stored kvs k v) → Heap.SameBut d s.heap h' → Q () { s with heap := h' })
    (hsz : kvs.length ≤ sizeLine) :
    wpAny (model prog w) A (dictPut d (knd.hash k) key v) Q E s := by
  obtain ⟨o, es, ep, ho, hc, hd, hk, hp, hn⟩ := hm
  have hes : es.size ≤ sizeLine := by have e1 := hp.length; have e2 : es.toList.length = es.size := by simp
                                      omega
  unfold dictPut
  refine wpAny_bind (wpAny_dictFind_of hkey ho hd hk ?_)
  have hidx : (es.findIdx? fun e => knd.is k e.key) = kvs.findIdx? fun kv => decide (kv.1 = k) := by
    rw [← hp.findIdx k]; obtain ⟨l⟩ := es; simp
  cases hi : es.findIdx? fun e => knd.is k e.key with
  | some i =>
    refine wpAny_updateDict ho hd (hQ _ ⟨_, _, ep, Heap.get?_update_self _ ho (Obj.isFreed_of_dict (Obj.data_mapDict hd _)),
      hc.mapDict _, Obj.data_mapDict hd _, hk.modify _ _, ?_, ?_⟩ (Heap.SameBut.update ..))
    · rw [stored, if_pos (any_of_findIdx_some (hidx ▸ hi))]
      have hl : (es.toList.findIdx? fun e => knd.is k e.key) = some i := by rw [← hi]; obtain ⟨l⟩ := es; simp
      have := hp.modify hn hl v
      obtain ⟨l⟩ := es
      simpa using this
    · rw [stored, if_pos (any_of_findIdx_some (hidx ▸ hi)), keys_map_store]; exact hn
  | none =>
    have hnot : k ∉ kvs.map (·.1) := not_mem_of_findIdx_none (hidx ▸ hi)
    have hany : ¬ (kvs.any fun kv => decide (kv.1 = k)) = true := by
      rw [List.any_eq_true]; rintro ⟨kv, hkv, he⟩
      exact hnot (List.mem_map.mpr ⟨kv, hkv, of_decide_eq_true he⟩)
    refine wpAny_updateDictKeys (hz := hes) ho hd (hQ _ ⟨_, _, ep + 1, Heap.get?_update_self _ ho (Obj.isFreed_of_dict (Obj.data_mapDictKeys hd _)),
      hc.mapDictKeys _, Obj.data_mapDictKeys hd _, hk.push hkey _, ?_, ?_⟩ (Heap.SameBut.update ..))
    · rw [stored, if_neg hany]
      have := hp.append hkey (knd.hash k) v
      obtain ⟨l⟩ := es
      simpa using this
    · rw [stored, if_neg hany, List.map_append, List.nodup_append]
      refine ⟨hn, by simp, ?_⟩
      intro a ha b hb
      simp only [List.map_cons, List.map_nil, List.mem_singleton] at hb
      subst hb
      exact fun e => hnot (e ▸ ha)
theorem wpAny_mergeMapping {d o : Addr} {kvs more : List (K × Value)} {Q : Unit → Shared → Prop} (hdo : d ≠ o) (hoS : (o == sysModules) = false) (hnr : ∀ k a, knd.is k (.ref a) = false)
    (hd : s.heap.DictOf knd d kvs) (ho : s.heap.DictOf knd o more)
    (hQ : ∀ h', h'.DictOf knd d (merged kvs more) → h'.DictOf knd o more → Heap.SameBut d s.heap h' → Q () { s with heap := h' })
    (hsz : kvs.length + more.length ≤ sizeLine) :
    wpAny (model prog w) A (mergeMapping d (.ref o) false) Q E s := by
  obtain ⟨od, esd, epd, hod, hcd, hdd, hkd, hpd, hnd⟩ := id hd
  obtain ⟨oo, eso, epo, hoo, hco, hdo', hko, hpo, hno⟩ := id ho
  have hlen : more.length = eso.size := by rw [← hpo.length]; simp
  have hT : s.TypeIs (.ref o) "dict" := ho.typeIs
  unfold mergeMapping
  refine wpAny_bind (wpAny_isInstance hT F.sub_dict_dict ?_)
  rw [if_pos rfl]
  refine wpAny_bind (wpAny_specialOf hT F.slot_dict_iter.lookup ?_)
  have e1 : ((some (Value.builtin "dict.__iter__") == some (Value.builtin "dict.__iter__")) : Bool) = true := by decide +kernel
  rw [e1]
  refine wpAny_bind (wpAny_pure ?_)
  dsimp only
  rw [hoS]
  rw [if_neg Bool.false_ne_true]
  refine wpAny_bind (wpAny_dictEntries hod hdd ?_)
  have loop : wpAny (model prog w) A (do
      let l ← dictEntries o
      let epoch ← dictEpoch o
      forIn (List.range l.size) PUnit.unit fun i (_ : PUnit) => (do
          let l' ← dictEntries o
          match l'[i]? with
            | some e => do
              holding [e.key, e.val] (dictPut d e.hash e.key e.val)
              let ep' ← dictEpoch o
              if (ep' != epoch) = true then do
                  (unsupported "dict.changed-during-merge" : Sem PUnit)
                  pure (ForInStep.yield PUnit.unit)
                else pure (ForInStep.yield PUnit.unit)
            | _ => do
              (unsupported "dict.changed-during-merge" : Sem PUnit)
              pure (ForInStep.yield PUnit.unit) : Sem (ForInStep PUnit))
      pure ()) Q E s := by
    refine wpAny_bind (wpAny_dictEntries hoo hdo' ?_)
    refine wpAny_bind (wpAny_dictEpoch hoo hdo' ?_)
    refine wpAny_bind ?_
    rw [List.range_eq_range']
    refine wpAny_forIn_list _
      (fun rest _ s' => ∃ h' i, s' = { s with heap := h' } ∧ rest = List.range' i (eso.size - i) ∧ i ≤ eso.size ∧ h'.DictOf knd d (merged kvs (more.take i)) ∧ h'.get? o = some oo ∧ Heap.SameBut d s.heap h')
      _ ?_ ?_ _ _ ⟨s.heap, 0, rfl, by simp, Nat.zero_le _, by simpa [merged] using hd, hoo, Heap.SameBut.refl _ _⟩
    · rintro x rest b s' ⟨h', i, rfl, hr, hi, hd', hoo', hs'⟩
      have hlt : i < eso.size := by
        rcases Nat.lt_or_ge i eso.size with h | h
        · exact h
        · rw [Nat.sub_eq_zero_of_le h] at hr; simp at hr
      obtain ⟨rfl, hrest⟩ : x = i ∧ rest = List.range' (i + 1) (eso.size - (i + 1)) := by
        have e : eso.size - i = (eso.size - (i + 1)) + 1 := by omega
        rw [e, List.range'_succ] at hr
        injection hr with h1 h2
        exact ⟨h1, h2⟩
      refine wpAny_bind (wpAny_dictEntries hoo' hdo' ?_)
      rw [Array.getElem?_eq_getElem hlt]
      obtain ⟨kv, hkv⟩ : ∃ kv, more[x]? = some kv := ⟨more[x]'(by rw [hlen]; exact hlt), List.getElem?_eq_getElem _⟩
      obtain ⟨k, v⟩ := kv
      obtain ⟨hkey, hval⟩ := hpo.get? (e := eso[x]) (by simp [hlt]) hkv
      obtain ⟨k', hkey', hhash⟩ := hko eso[x] (Array.getElem_mem hlt)
      obtain rfl : k' = k := knd.inj _ _ _ hkey' hkey
      show wpAny _ _ (holding [eso[x].key, eso[x].val] (dictPut d eso[x].hash eso[x].key eso[x].val) >>= _) _ _ _
      rw [hhash, hval]
      have hmx : (merged kvs (more.take x)).length ≤ sizeLine := by
        have e1 := merged_length_le kvs (more.take x)
        have e2 : (more.take x).length ≤ more.length := by rw [List.length_take]; omega
        omega
      refine wpAny_bind (wpAny_holding (wpAny_dictPut_pairs (hsz := hmx) hkey hd' fun h'' hd'' hs'' => ?_))
      have hoo'' : h''.get? o = some oo := (hs''.2 o (Ne.symm hdo)).trans hoo'
      refine wpAny_bind (wpAny_dictEpoch hoo'' hdo' ?_)
      rw [if_neg (by simp)]
      exact wpAny_pure ⟨h'', x + 1, rfl, hrest, hlt, by rw [merged_take_succ kvs more x (k', v) hkv]; exact hd'', hoo'', hs'.trans hs''⟩
    · rintro b s' ⟨h', i, rfl, hr, hi, hd', hoo', hs'⟩
      have hin : i = eso.size := by
        rcases Nat.lt_or_ge i eso.size with h | h
        · have e : eso.size - i = (eso.size - (i + 1)) + 1 := by omega
          rw [e, List.range'_succ] at hr; exact nomatch hr
        · exact Nat.le_antisymm hi h
      refine wpAny_pure (hQ h' ?_ ⟨oo, eso, epo, hoo', hco, hdo', hko, hpo, hno⟩ hs')
      rw [hin, ← hlen, List.take_length] at hd'; exact hd'
  split
  · refine wpAny_bind (wpAny_dictEntries hoo hdo' ?_)
    refine wpAny_bind ?_
    refine wpAny_forIn_array' _ (fun rest _ s' => s' = s ∧ ∀ e ∈ rest, ∃ k, knd.is k e.key = true) _ ?_ ?_ _ _ ⟨rfl, fun e he => ?_⟩
    · rintro x rest b s' ⟨rfl, hr⟩
      obtain ⟨k, hk⟩ := hr x (List.mem_cons_self ..)
      have key : ∀ a, x.key ≠ .ref a := fun a e => by rw [e, hnr] at hk; cases hk
      split
      · rename_i a e
        exact absurd e (key a)
      · exact wpAny_pure ⟨rfl, fun e he => hr e (List.mem_cons_of_mem _ he)⟩
    · rintro b s' ⟨rfl, _⟩
      exact loop
    · obtain ⟨k, hk, _⟩ := hko e (by simpa using he)
      exact ⟨k, hk⟩
  · exact loop
theorem wpAny_mergeSelf {d : Addr} {Q : Unit → Shared → Prop} (hoS : (d == sysModules) = false)
    (hd : s.heap.DictOf knd d []) (hQ : Q () s) : wpAny (model prog w) A (mergeMapping d (.ref d) false) Q E s := by
  obtain ⟨od, esd, epd, hod, hcd, hdd, hkd, hpd, hnd⟩ := id hd
  have h0 : esd = #[] := by
    have := hpd.length
    simp only [List.length_nil, Array.length_toList] at this
    exact Array.eq_empty_of_size_eq_zero this
  subst h0
  have hT : s.TypeIs (.ref d) "dict" := hd.typeIs
  unfold mergeMapping
  refine wpAny_bind (wpAny_isInstance hT F.sub_dict_dict ?_)
  rw [if_pos rfl]
  refine wpAny_bind (wpAny_specialOf hT F.slot_dict_iter.lookup ?_)
  have e1 : ((some (Value.builtin "dict.__iter__") == some (Value.builtin "dict.__iter__")) : Bool) = true := by decide +kernel
  rw [e1]
  refine wpAny_bind (wpAny_pure ?_)
  dsimp only
  rw [hoS]
  rw [if_neg Bool.false_ne_true]
  refine wpAny_bind (wpAny_dictEntries hod hdd ?_)
  rw [if_pos (show (#[] : Array DictEntry).isEmpty = true from rfl)]
  refine wpAny_bind (wpAny_dictEntries hod hdd (wpAny_bind ?_))
  rw [← Array.forIn_toList]
  refine wpAny_pure ?_
  refine wpAny_bind (wpAny_dictEntries hod hdd ?_)
  refine wpAny_bind (wpAny_dictEpoch hod hdd (wpAny_bind ?_))
  exact wpAny_pure (wpAny_pure hQ)
end
end PySem

namespace PySem
open Sem (wp)
section
variable {prog : Program} {w : World} {A : Around} {E : Value → Shared → Prop} {s : Shared}
theorem wpAny_display_dup {tO tK tV : Sem Value} {Q : Value → Shared → Prop}
    (h : wpAny (model prog w) A tO (fun m s1 => ∀ E', wpAny (model prog w) A (mergeMapping s.heap.objs.size m false) (fun _ s2 =>
      wpAny (model prog w) A (subDict [(tK, tV)]) (fun sub s3 => ∀ E', wpAny (model prog w) A (mergeMapping s.heap.objs.size (.ref sub) false) (fun _ s4 => Q (.ref s.heap.objs.size) s4) E' s3) E s2) E' s1) E { s with heap := s.heap.push { cls := .type "dict", data := .dict #[] } }) :
    wpAny (model prog w) A (dictDisplay [(none, tO), (some tK, tV)]) Q E s := by
  unfold dictDisplay
  dsimp only
  simp only [List.forIn_cons, List.forIn_nil, pure_bind, bind_assoc, List.isEmpty_nil, if_true, List.nil_append, List.length_singleton]
  refine wpAny_bind (wpAny_alloc ?_)
  refine wpAny_bind (wpAny_holding (wpAny_mono h (fun m s1 h1 => ?_) fun _ _ e => e))
  refine wpAny_bind (wpAny_onRaise (wpAny_tryCatch (wpAny_onRaise (wpAny_holding (wpAny_mono (h1 _) (fun _ s2 h2 => ?_) fun _ _ e => e)))))
  rw [if_neg (by decide)]
  refine wpAny_bind (wpAny_pure (wpAny_bind (wpAny_pure ?_)))
  dsimp only
  rw [if_neg (by simp)]
  refine wpAny_bind (wpAny_bind (wpAny_holding (wpAny_mono h2 (fun sub s3 h3 => ?_) fun _ _ e => e)))
  refine wpAny_bind (wpAny_onRaise (wpAny_holding (wpAny_mono (h3 _) (fun _ s4 h4 => wpAny_pure (wpAny_pure h4)) fun _ _ e => e)))
end
end PySem
namespace L2
open PySem PySem.Spec PyProof.Rows
/-- {**o, k: v} -/
def tDup (to tk tv : TE) : TE := fun σ H Q => ∀ D, H D = none → to σ (upd H D (.dK [])) fun x H1 => ∃ a kvs, x = .ref a ∧ Rd H1 a (.dK kvs) ∧ (kvs.map (·.1)).Nodup ∧ H1 D = some (.dK []) ∧ ∀ S, (upd H1 D (.dK kvs)) S = none →
  tk σ (upd (upd H1 D (.dK kvs)) S (.dK [])) fun y H2 => tv σ H2 fun z H3 => ∃ q, y = kV q ∧ H3 D = some (.dK kvs) ∧ H3 S = some (.dK []) ∧ S ≠ D ∧ kvs.length < sizeLine ∧ Q (.ref D) (upd (upd H3 S (.dK [(q, z)])) D (.dK (putK kvs q z)))
section
variable {X : Cx} {o k v : Expr} {to tk tv : TE} {pos : Pos}
theorem merged_kv {vs : List (Key × Value)} (nd : (vs.map (·.1)).Nodup) : merged [] vs = vs := merged_nil_of_nodup vs nd
theorem pe_dup (ho : PE X o to) (hk : PE X k tk) (hv : PE X v tv) : PE X (.Dict [none, some k] [o, v] pos) (tDup to tk tv) := by
  refine ⟨fun pins s σ H Q I h => ?_⟩
  rw [arm_eval_Dict]
  refine wpAny_bind (wpAny_standAt ?_)
  show wpAny _ _ (dictDisplay [(none, do let x ← eval o X.env; standAt pos; pure x), (some (eval k X.env), do let x ← eval v X.env; standAt pos; pure x)]) _ _ _
  have hD0 := I.hok.fresh (Nat.le_refl s.heap.objs.size)
  have I0 : Inv X pins σ (upd H s.heap.objs.size (.dK [])) { s with heap := s.heap.push { cls := .type "dict", data := .dict #[] } } := I.laid (a := s.heap.objs.size) (o := .dK []) (t' := s.toks) (fun _ _ q => Heap.get?_push_of_some _ q) (Nat.le_refl _) (dk_empty s.heap I.big)
  refine wpAny_display_dup (wpAny_bind (thn (ho.run pins _ σ _ _ I0 (h s.heap.objs.size hD0)) fun m s1 ⟨x, H1, I1, rx, a, kvs, ex, hrd, nd, hH1, h1⟩ => wpAny_bind (wpAny_standAt (wpAny_pure fun E' => ?_))))
  subst ex
  obtain rfl : m = Value.ref a := rx
  obtain ⟨z1, ha, vs, rel, dd⟩ := dk_rd I1.hok hrd
  obtain ⟨z2, hd, vs0, rel0, dd0⟩ := dk_of I1.hok hH1
  cases rel0
  have nr : ∀ (k : Key) (a : Addr), (mixKind X.prog X.w).is k (.ref a) = false := fun k a => by cases k <;> rfl
  have hl : kvs.length = vs.length := Paired.length rel
  have ndv : (vs.map (·.1)).Nodup := by rw [← KV.keys rel]; exact nd
  have merge : ∀ (Q' : Unit → Shared → Prop), (∀ h', h'.DictOf (mixKind X.prog X.w) s.heap.objs.size vs → Heap.SameBut s.heap.objs.size s1.heap h' → Q' () { s1 with heap := h' }) → wpAny (model X.prog X.w) X.A (mergeMapping s.heap.objs.size (.ref a) false) Q' E' s1 := fun Q' hQ => by
    by_cases e : s.heap.objs.size = a
    · have ek : kvs = [] := by
        rcases hrd with z | ⟨o, z⟩
        · rw [← e, hH1] at z; cases z; rfl
        · rw [← e, hH1] at z; cases z
      subst ek
      cases rel
      rw [← e]
      exact wpAny_mergeSelf hd dd0 (hQ _ dd0 (Heap.SameBut.refl _ _))
    · refine wpAny_mergeMapping e ha nr dd0 dd (fun h' dd' _ hs => ?_) (by rw [List.length_nil]; omega)
      rw [merged_kv ndv] at dd'
      exact hQ h' dd' hs
  refine merge _ fun h' dd' hs => ?_
  have I2 : Inv X pins σ (upd H1 s.heap.objs.size (.dK kvs)) { s1 with heap := h' } := d_write (t' := s1.toks) I1 (by rw [hH1]; exact True.intro) hs (let ⟨q, _, _, hq, _⟩ := dd'; ⟨q, hq⟩) (dk_new z1 hd rel dd')
  -- the second dict
  have hS0 := I2.hok.fresh (Nat.le_refl h'.objs.size)
  unfold subDict
  have I3 : Inv X pins σ (upd (upd H1 s.heap.objs.size (.dK kvs)) h'.objs.size (.dK [])) { s1 with heap := h'.push { cls := .type "dict", data := .dict #[] } } := I2.laid (a := h'.objs.size) (o := .dK []) (t' := s1.toks) (fun _ _ q => Heap.get?_push_of_some _ q) (Nat.le_refl _) (dk_empty h' I2.big)
  refine wpAny_bind (wpAny_alloc (wpAny_bind (wpAny_holding ?_)))
  rw [if_pos (by simp)]
  refine wpAny_bind ?_
  refine evalPairs_cons (thn (hk.run pins _ σ _ _ I3 (h1 _ hS0)) fun kv s3 ⟨y, H2, I4, ry, h2⟩ => wpAny_bind (thn (hv.run pins _ σ _ _ I4 h2) fun vv s4 ⟨zz, H3, I5, rz, q, ey, hD3, hS3, nSD, zl, hq⟩ => wpAny_bind (wpAny_standAt (wpAny_pure (evalPairs_nil ?_)))))
  subst ey
  refine wpAny_holding ?_
  simp only [List.forIn_cons, List.forIn_nil]
  refine wpAny_bind (wpAny_bind (wpAny_bind (d_dictSet I5 hS3 (Nat.zero_lt_succ _) ry rz fun s6 I6 => ?_)))
  refine wpAny_pure (wpAny_pure (wpAny_pure (wpAny_pure fun E' => ?_)))
  have hS6 : upd H3 h'.objs.size (.dK (putK [] q zz)) h'.objs.size = some (.dK (putK [] q zz)) := upd_same
  have hD6 : upd H3 h'.objs.size (.dK (putK [] q zz)) s.heap.objs.size = some (.dK kvs) := by rw [upd_ne (Ne.symm nSD)]; exact hD3
  obtain ⟨z6, hd6, vs6, rel6, dd6⟩ := dk_of I6.hok hD6
  obtain ⟨z7, hd7, vs7, rel7, dd7⟩ := dk_of I6.hok hS6
  have rel7' : KV [(q, zz)] vs7 := rel7
  cases rel7' with
  | cons hp tl =>
    cases tl
    rename_i p
    obtain ⟨e1, e2⟩ := hp
    obtain ⟨p1, p2⟩ := p
    dsimp only at e1 e2
    subst e1
    refine wpAny_mergeMapping (fun e => nSD e.symm) hd7 nr dd6 dd7 (fun h7 dd8 _ hs7 => ?_) (by have := Paired.length rel6; simp; omega)
    have hl7 : (putK kvs q zz).length ≤ sizeLine := by have := length_putK kvs q zz; omega
    have new : ObjOk X.prog X.w (upd (upd H3 h'.objs.size (.dK (putK [] q zz))) s.heap.objs.size (.dK (putK kvs q zz))) h7 s.heap.objs.size (.dK (putK kvs q zz)) := dk_new hl7 hd6 (rel6.put q e2) dd8
    exact ⟨.ref s.heap.objs.size, _, d_write (t' := s6.toks) I6 (by rw [hD6]; exact True.intro) hs7 (let ⟨q, _, _, hq, _⟩ := dd8; ⟨q, hq⟩) new, rfl, hq⟩
end
end L2
namespace Z
open PySem PySem.Spec L2
variable [TabList]
section
theorem Rels.ev {K : PySem.W.Frag} {H H' : Hp} {P : Own} {ds : List D} {vs : List V} (h : Rels K H ds vs P) (e : Ev No H H') : Rels K H' ds vs P := h.frame e fun _ _ z => z
variable {X : Cx} {rx : XR} {W : WX} {C : Ctx} {a k v : E} {ea ek ev : Expr} {pos : Pos} {lv : Nat}
theorem s_dup (hr : Room lv X.A) (ha : PE X ea (tE X.K rx W C a)) (hk : PE X ek (tE X.K rx W C k)) (hv : PE X ev (tE X.K rx W C v)) : PE X (.Dict [none, some ek] [ea, ev] pos) (tE X.K rx W C (.dup a k v)) :=
  PE.of fun σ H Q ⟨env, P, hE, h⟩ => ⟨_, pe_dup ha hk hv, fun D hD => by
    simp only [evE] at h
    have fresh : ∀ {H : Hp} {D : Addr} {u : HO}, H D = none → Ev No H (upd H D u) := fun {H D u} hD => Ev.laid hD
    have evD : Ev No H (upd H D (.dK [])) := fresh hD
    have nt : New P H (Tt H P) := fun x z => .inl z.1
    refine ⟨env, Tt H P, hE.tight.ev evD, ?_⟩
    cases q : evE C a env with
    | bad => rw [q] at h; exact h.elim
    | exc x e1 => rw [q] at h; exact exc_on h nt evD.of_no
    | ok d e1 =>
      rw [q] at h
      simp only [Res.bind] at h
      intro x H1 P1 P2 r1 rd hd hn ev1
      cases d <;> (try exact h.elim)
      rename_i m ks ds
      dsimp only at h
      split at h
      rotate_left
      · exact h.elim
      rename_i hc
      obtain ⟨hi, hlim, hpu⟩ := hc
      simp only [Bool.and_eq_true] at hpu
      obtain ⟨pa, pk, pv⟩ := hpu
      obtain ⟨b, kvs, Q1, rfl, hh, ⟨rfl, nd⟩, rs⟩ := rd
      have ev1' : Ev No (upd H D (.dK [])) H1 := ev1.mono fun _ z => by have := z.1; rw [pa] at this; cases this
      have evH1 : Ev No H H1 := evD.trans ev1' fun _ z => z.elim
      have nP1 : New P H P1 := fun x z => (hn x z).elim (fun z => .inl z.1) fun z => .inr (by
        cases qq : H x with
        | none => rfl
        | some o => exact absurd z (evD.dom x (by rw [qq]; exact fun z => nomatch z)))
      have hD1 : H1 D = some (.dK []) := ev1'.keep D _ upd_same (fun _ z => nomatch z) fun z => z.elim
      have dP1 : ¬ P1 D := fun z => (hn D z).elim (fun z => z.2 hD) fun z => by rw [upd_same] at z; cases z
      have rs0 := rs.imm hi
      refine ⟨b, kvs, rfl, hh.rd, nd, hD1, fun S hS => ?_⟩
      -- the first dict holds what the other one holds; the second one lies beside it
      have nSD : S ≠ D := fun e => by rw [e, upd_same] at hS; cases hS
      have hS1 : H1 S = none := by rwa [upd_ne nSD] at hS
      have evD2 : Ev (fun x => x = D) H1 (upd H1 D (.dK kvs)) := Ev.wrote hD1 trivial rfl
      have evS : Ev No (upd H1 D (.dK kvs)) (upd (upd H1 D (.dK kvs)) S (.dK [])) := fresh hS
      have r2 : RelE X.K (upd (upd H1 D (.dK kvs)) S (.dK [])) e1 σ (Tt H1 P1) := (r1.tight.frame evD2 fun x z e => dP1 (by rw [← e]; exact z.1)).ev evS
      have rsD : Rels X.K (upd (upd H1 D (.dK kvs)) S (.dK [])) ds (kvs.map (·.2)) No := (rs0.frame evD2 fun _ z => z.elim).ev evS
      have up : ∀ {P5 : Own}, New (Tt H1 P1) (upd (upd H1 D (.dK kvs)) S (.dK [])) P5 → New P H P5 := fun {P5} n x z => (n x z).elim (fun z => nP1 x z.1) fun z => .inr (by
        cases qq : H x with
        | none => rfl
        | some o =>
          refine absurd z ?_
          have h1 := evH1.dom x (by rw [qq]; exact fun z => nomatch z)
          have h2 := evD2.dom x h1
          exact evS.dom x h2)
      have evOn : ∀ {O : Own} {H5 : Hp}, (∀ x, O x → P x ∨ H x = none) → Ev O (upd (upd H1 D (.dK kvs)) S (.dK [])) H5 → Ev P H H5 := fun {O H5} ho e => by
        refine ⟨fun x o ex t m => ?_, fun x ex => e.dom x (evS.dom x (evD2.dom x (evH1.dom x ex))), fun q t => e.tbl q (evS.tbl q (evD2.tbl q (evH1.tbl q t)))⟩
        have nD : x ≠ D := fun z => by rw [z, hD] at ex; cases ex
        have h1 := evH1.keep x o ex t fun z => z.elim
        exact e.keep x o (evS.keep x o (evD2.keep x o h1 t fun z => (nD z).elim) t fun z => z.elim) t fun z => (ho x z).elim m fun q => by rw [ex] at q; cases q
      refine ⟨e1, Tt H1 P1, r2, ?_⟩
      cases q2 : evE C k e1 with
      | bad => rw [q2] at h; exact h.elim
      | exc x e2 =>
        rw [q2] at h
        intro c dd H' P5 r5 hx n5 ev5
        exact h c dd H' P5 r5 hx (up n5) (evOn (fun x z => nP1 x z.1) ev5)
      | ok y e2 =>
        rw [q2] at h
        simp only at h
        intro yv H2 P3 P4 r3 ry hd3 hn3 ev3
        have ev3' : Ev No (upd (upd H1 D (.dK kvs)) S (.dK [])) H2 := ev3.mono fun _ z => by have := z.1; rw [pk] at this; cases this
        refine ⟨e2, P3, r3, ?_⟩
        cases q3 : evE C v e2 with
        | bad => rw [q3] at h; exact h.elim
        | exc x e3 =>
          rw [q3] at h
          intro c dd H' P5 r5 hx n5 ev5
          have n3 : New (Tt H1 P1) (upd (upd H1 D (.dK kvs)) S (.dK [])) P5 := hn3.trans ev3' n5
          exact h c dd H' P5 r5 hx (up n3) (evOn (O := P3) (fun x z => (up hn3) x z) (ev3'.of_no.trans ev5 New.refl))
        | ok z e3 =>
          rw [q3] at h
          simp only at h
          intro zv H3 P5 P6 r5 rz hd5 hn5 ev5
          have ev5' : Ev No H2 H3 := ev5.mono fun _ z => by have := z.1; rw [pv] at this; cases this
          have evS3 : Ev No (upd (upd H1 D (.dK kvs)) S (.dK [])) H3 := ev3'.trans ev5' fun _ z => z.elim
          cases q4 : dKey y with
          | none => rw [q4] at h; exact h.elim
          | some kq =>
            rw [q4] at h
            simp only at h
            split at h
            rotate_left
            · exact h.elim
            rename_i hzi
            have hD3 : H3 D = some (.dK kvs) := evS3.keep D _ (by rw [upd_ne (Ne.symm nSD), upd_same]) (fun _ z => nomatch z) fun z => z.elim
            have hS3 : H3 S = some (.dK []) := evS3.keep S _ upd_same (fun _ z => nomatch z) fun z => z.elim
            have nP5 : New P H P5 := up (fun x z => (hn3.trans ev3' hn5) x z)
            have dP5 : ¬ P5 D := fun z => by
              have h1 : New (Tt H1 P1) (upd (upd H1 D (.dK kvs)) S (.dK [])) P5 := hn3.trans ev3' hn5
              rcases h1 D z with z | z
              · exact dP1 z.1
              · rw [upd_ne (Ne.symm nSD), upd_same] at z; cases z
            have sP5 : ¬ P5 S := fun z => by
              have h1 : New (Tt H1 P1) (upd (upd H1 D (.dK kvs)) S (.dK [])) P5 := hn3.trans ev3' hn5
              rcases h1 S z with z | z
              · exact z.2 hS1
              · rw [upd_same] at z; cases z
            have evW : Ev (fun x => x = S) H3 (upd H3 S (.dK [(kq, zv)])) := Ev.wrote hS3 trivial rfl
            have hDW : upd H3 S (.dK [(kq, zv)]) D = some (.dK kvs) := by rw [upd_ne (Ne.symm nSD)]; exact hD3
            have evX : Ev (fun x => x = D) (upd H3 S (.dK [(kq, zv)])) (upd (upd H3 S (.dK [(kq, zv)])) D (.dK (L2.putK kvs kq zv))) := Ev.wrote hDW trivial rfl
            have rE := (r5.frame evW fun x z e => sP5 (by rw [← e]; exact z)).frame evX fun x z e => dP5 (by rw [← e]; exact z)
            have rv := ((Rel.imm hzi rz).frame evW fun _ z => z.elim).frame evX fun _ z => z.elim
            have rr := ((rsD.ev evS3).frame evW fun _ z => z.elim).frame evX fun _ z => z.elim
            refine ⟨kq, key_val (ry.frame ev5'.of_no fun _ _ z => z) q4, hD3, hS3, nSD, by rw [← lim_eq]; simpa using hlim, ?_⟩
            have evAll : Ev No H (upd (upd H3 S (.dK [(kq, zv)])) D (.dK (L2.putK kvs kq zv))) := by
              have h1 : Ev No H H3 := by
                refine ⟨fun x o ex t _ => ?_, fun x ex => evS3.dom x (evS.dom x (evD2.dom x (evH1.dom x ex))), fun q t => evS3.tbl q (evS.tbl q (evD2.tbl q (evH1.tbl q t)))⟩
                have nD : x ≠ D := fun z => by rw [z, hD] at ex; cases ex
                exact evS3.keep x o (evS.keep x o (evD2.keep x o (evH1.keep x o ex t fun z => z.elim) t fun z => (nD z).elim) t fun z => z.elim) t fun z => z.elim
              refine ⟨fun x o ex t _ => ?_, fun x ex => evX.dom x (evW.dom x (h1.dom x ex)), fun q t => evX.tbl q (evW.tbl q (h1.tbl q t))⟩
              have nD : x ≠ D := fun z => by rw [z, hD] at ex; cases ex
              have nS : x ≠ S := fun z => by
                have := evH1.dom x (by rw [ex]; exact fun z => nomatch z)
                rw [z, hS1] at this
                exact this rfl
              exact evX.keep x o (evW.keep x o (h1.keep x o ex t fun z => z.elim) t fun z => (nS z).elim) t fun z => (nD z).elim
            refine h (.ref D) _ P5 (fun x => x = D) rE ?_ (fun _ => ⟨fun x z e => dP5 (by rw [← e]; exact z), fun x z => .inr (by rw [z]; exact hD)⟩) nP5 (evAll.mono fun _ z => z.elim)
            refine ⟨D, L2.putK kvs kq zv, No, rfl, ⟨upd_same, rfl, fun _ z => z.elim⟩, ?_⟩
            unfold Z.putK
            cases hj : kIx (kvs.map (·.1)) kq with
            | some j =>
              simp only
              obtain ⟨e1, e2⟩ := putK_at (w := zv) nd hj
              rw [e1, e2]
              have hl : j < ds.length := by
                have := kIx_lt hj
                have l := rs.length
                simp at this l
                omega
              obtain ⟨u, Pd1, Pr, e1, s, r3, lens⟩ := rr.lens (List.getElem?_eq_getElem hl)
              have r4 := lens _ z zv No rv (fun _ z => z.elim) Ev.refl
              exact ⟨⟨rfl, nd⟩, r4.mono fun b z => z.elim id fun z => s.2.1 b z⟩
            | none =>
              simp only
              rw [putK_new hj] at rr rv ⊢
              rw [List.map_append, List.map_append]
              refine ⟨⟨rfl, ?_⟩, Rels.append (Sep.nl) rr (Rels.cons Sep.nr rv (show Rels X.K _ [] [] No from rfl))⟩
              rw [List.nodup_append]
              refine ⟨nd, by simp, fun b hb c hc e => ?_⟩
              simp at hc
              subst e; subst hc
              exact kIx_none.mp hj hb⟩
end
end Z

namespace Z
open PySem PySem.Spec L2
variable [TabList]

/-! ### what a generator expression's element reads: no frame's invariant, the heap alone -/
/-- the names that the element sees, at G -/
structure QAt (X : Cx) (H : Hp) (σ : L2.St) (G : PySem.Env) (A : Around) (s : Shared) : Prop where
  hok : HOk X.prog X.w H s.heap
  kin : X.K.In s.heap
  hd : A.handled = none
  kind : G.scope.kind = .function
  loc : ∃ m, s.heap.Ns G.locals m ∧ ∀ (i : Nat) (y : Str) (v : V), X.N[i]? = some y → σ[i]? = some (some v) → G.scope.names.lookup y = some .local → ∃ u, RelV v u ∧ m y = some u
  cell : ∀ (i : Nat) (y : Str) (v : V), X.N[i]? = some y → σ[i]? = some (some v) → G.scope.names.lookup y = some .free → ∃ c u, G.cells.lookup y = some c ∧ s.heap.IsCell c (some u) ∧ RelV v u
theorem QAt.keeps {X : Cx} {H : Hp} {σ : L2.St} {G : PySem.Env} {A : Around} {s s' : Shared} (h : QAt X H σ G A s) (k : Keeps s s') : QAt X H σ G A s' := by
  obtain ⟨h', tk, rfl, k⟩ := k
  refine ⟨h.hok.kept k, fun b o e => k b o (h.kin b o e), h.hd, h.kind, ?_, fun i y v e1 e2 e3 => ?_⟩
  · obtain ⟨m, hn, r⟩ := h.loc
    obtain ⟨o, es, ep, ho, q⟩ := hn
    exact ⟨m, ⟨o, es, ep, k _ o ho, q⟩, r⟩
  · obtain ⟨c, u, h1, h2, h3⟩ := h.cell i y v e1 e2 e3
    exact ⟨c, u, h1, h2.keeps k, h3⟩
theorem Keeps.refl {s : Shared} : Keeps s s := ⟨s.heap, s.toks, rfl, fun _ _ e => e⟩
theorem Keeps.trans {s s1 s2 : Shared} (a : Keeps s s1) (b : Keeps s1 s2) : Keeps s s2 := by
  obtain ⟨h1, t1, rfl, k1⟩ := a
  obtain ⟨h2, t2, rfl, k2⟩ := b
  exact ⟨h2, t2, rfl, fun b o e => k2 b o (k1 b o e)⟩
theorem Keeps.tok {s : Shared} {t : Nat} : Keeps s { s with toks := t } := ⟨s.heap, t, rfl, fun _ _ e => e⟩
/-- an element, read quietly; lo: how much room it wants -/
def QE (X : Cx) (G : PySem.Env) (e : Expr) (t : L2.St → Hp → (V → Prop) → Prop) : Prop :=
  ∀ (A : Around) (E : Value → Shared → Prop) (s : Shared) (σ : L2.St) (H : Hp) (R : V → Prop), QAt X H σ G A s → A.units + 65 < cLine → t σ H R → wpAny (model X.prog X.w) A (eval e G) (fun y s' => (∃ v, RelV v y ∧ R v) ∧ Keeps s s') E s
def tQ (K : PySem.W.Frag) (e : E) : L2.St → Hp → (V → Prop) → Prop := fun σ H R => ∃ env P d, RelE K H env σ P ∧ evQ e env = some d ∧ ∀ v P2, Rel K H d v P2 → R v
section
variable {K : PySem.W.Frag} {H : Hp} {h : Heap} {P : Program} {w : World} {a : Addr} {xs : List V}
theorem hok_list (hok : HOk P w H h) (kin : K.In h) (q : SqL K H a xs) : ∃ its : List Value, Vals xs its ∧ PlainL h a its.toArray ∧ xs.length ≤ sizeLine := by
  rcases q with q | ⟨o, its, n, hk, hc, hd, hs, hz, r⟩
  · obtain ⟨z, its, n, r, e⟩ := q.ok hok
    exact ⟨its, r, ⟨_, n, e, rfl, rfl, rfl⟩, z⟩
  · refine ⟨its.toList, r, ⟨o, n, kin a o hk, hc, hd, by simpa using hs⟩, ?_⟩
    have e := r.length
    simp only [Array.length_toList] at e
    omega
theorem hok_tuple (hok : HOk P w H h) (kin : K.In h) (q : SqT K H a xs) : ∃ its : List Value, Vals xs its ∧ h.IsTuple a its.toArray ∧ xs.length ≤ sizeLine := by
  rcases q with q | ⟨o, its, n, hk, hc, hs, hz, r⟩
  · obtain ⟨z, its, r, p⟩ := q.ok hok
    exact ⟨its, r, p, z⟩
  · refine ⟨its.toList, r, ⟨o, kin a o hk, hc, n, by simpa using hs⟩, ?_⟩
    have e := r.length
    simp only [Array.length_toList] at e
    omega
end
section
variable {X : Cx} {G : PySem.Env} {a b : E} {ea eb : Expr} {pos : Pos}
theorem qe_loc {i : Nat} {x : Str} {p : Pos} (hN : X.N[i]? = some x) (hv : G.scope.names.lookup x = some .local) (hd : (x == ("__debug__" : Str)) = false) : QE X G (.Name x p) (tQ X.K (.var i)) := by
  intro A Ex s σ H R q hu ⟨env, P, d, hE, hv1, hR⟩
  simp only [evQ] at hv1
  split at hv1
  · rename_i d' hd'
    cases hv1
    obtain ⟨v, P1, P2, e, _, r, _⟩ := hE.get hd'
    obtain ⟨m, hn, h⟩ := q.loc
    obtain ⟨u, ru, hm⟩ := h i x v hN e hv
    exact wpAny_Name (wpAny_loadName_local q.kind hv hn hm ⟨⟨v, ru, hR v _ r⟩, Keeps.refl⟩) hd
  · cases hv1
theorem qe_free {i : Nat} {x : Str} {p : Pos} (hN : X.N[i]? = some x) (hv : G.scope.names.lookup x = some .free) (hd : (x == ("__debug__" : Str)) = false) (hcd : (x == ("__classdict__" : Str)) = false) : QE X G (.Name x p) (tQ X.K (.var i)) := by
  intro A Ex s σ H R q hu ⟨env, P, d, hE, hv1, hR⟩
  simp only [evQ] at hv1
  split at hv1
  · rename_i d' hd'
    cases hv1
    obtain ⟨v, P1, P2, e, _, r, _⟩ := hE.get hd'
    obtain ⟨c, u, h1, h2, ru⟩ := q.cell i x v hN e hv
    exact wpAny_Name (wpAny_loadName_free q.kind hv h1 h2 ⟨⟨v, ru, hR v _ r⟩, Keeps.refl⟩ hcd) hd
  · cases hv1
theorem qe_int {i : Int} {j} : QE X G (.Constant (.int i) j pos) (tQ X.K (.cst (.int i))) := by
  intro A Ex s σ H R q hu ⟨env, P, d, hE, hv1, hR⟩
  cases hv1
  exact wpAny_Constant_int ⟨⟨.int i, ⟨_, rfl⟩, hR (.int i) No rfl⟩, Keeps.tok⟩
/-- two of them -/
theorem qe_two {f : Value → Value → Sem Value} {A : Around} {Ex : Value → Shared → Prop} {s : Shared} {σ : L2.St} {H : Hp}
    (ha : QE X G ea (tQ X.K a)) (hb : QE X G eb (tQ X.K b)) (q : QAt X H σ G A s) (hu : A.units + 65 < cLine) {env : Z.Env} {P : Own} {x y : D} (hE : RelE X.K H env σ P) (h1 : evQ a env = some x) (h2 : evQ b env = some y) {Q : Value → Shared → Prop}
    (hf : ∀ v u rv ru s2 P2 P4, RelV rv v → RelV ru u → Rel X.K H x rv P2 → Rel X.K H y ru P4 → QAt X H σ G A s2 → Keeps s s2 → wpAny (model X.prog X.w) A (f v u) Q Ex s2) :
    wpAny (model X.prog X.w) A (eval ea G) (fun v s1 => wpAny (model X.prog X.w) A (eval eb G) (fun u s2 => wpAny (model X.prog X.w) A (f v u) Q Ex s2) Ex s1) Ex s := by
  refine wpAny_mono (ha A Ex s σ H (fun v => ∃ P2, Rel X.K H x v P2) q hu ⟨_, P, x, hE, h1, fun v P2 r => ⟨P2, r⟩⟩) (fun v s1 ⟨⟨rv, r1, P2, rx⟩, k1⟩ => ?_) fun _ _ e => e
  refine wpAny_mono (hb A Ex s1 σ H (fun v => ∃ P2, Rel X.K H y v P2) (q.keeps k1) hu ⟨_, P, y, hE, h2, fun v P2 r => ⟨P2, r⟩⟩) (fun u s2 ⟨⟨ru, r2, P4, ry⟩, k2⟩ => ?_) fun _ _ e => e
  exact hf v u rv ru s2 P2 P4 r1 r2 rx ry ((q.keeps k1).keeps k2) (Z.Keeps.trans k1 k2)
/-- a part that is read: a list's or a tuple's -/
theorem qe_pidx (ha : QE X G ea (tQ X.K a)) (hb : QE X G eb (tQ X.K b)) (hs : PlainIx eb) : QE X G (.Subscript ea eb pos) (tQ X.K (.pidx a b)) := by
  intro A Ex s σ H R q hu ⟨env, P, d, hE, hv1, hR⟩
  simp only [evQ, Option.bind_eq_some_iff] at hv1
  obtain ⟨x, q1, y, q2, q3⟩ := hv1
  refine PyProof.Rows.Subscript_ (qe_two (f := fun v u => PyProof.Rows.subscriptTail ea eb v u) ha hb q hu hE q1 q2 fun v u rv ru s2 P2 P4 r1 r2 rx ry q' k => ?_)
  have hline := line63
  unfold idxQ at q3
  split at q3
  · rename_i ds i0
    obtain ⟨p, xs, rfl, st, rs⟩ := rx
    obtain rfl : ru = .int _ := ry
    obtain rfl : v = Value.ref p := r1
    obtain ⟨t, rfl⟩ := r2
    unfold atI at q3
    obtain ⟨j, hj, hd⟩ := Option.bind_eq_some_iff.mp q3
    obtain ⟨z, Pz, hz, _, rz⟩ := rs.get hd
    obtain ⟨its, rvs, pl, hzl⟩ := hok_tuple q'.hok q'.kin st
    have e5 : atI xs i0 = some z := by
      unfold atI
      rw [← rs.length, hj]
      exact hz
    obtain ⟨j', h1, h2, h3, h4, h5⟩ := atI_get e5
    obtain ⟨w', ew, rw'⟩ := rvs.get h2
    have hl := rvs.length
    exact PyProof.Rows.subscriptTail_builtinR (x := w') (Heap.IsTuple.typeIs pl) PySem.F.slot_tuple_getitem.lookup
      (PyProof.Rows.getItem_tuple (k := i0) (j := j') (Q := fun r s' => r = w' ∧ ((∃ v, RelV v r ∧ R v) ∧ Keeps s s')) pl (by omega) (by omega) (by rw [List.size_toArray, ← hl]; exact h1) (by simpa using ew) ⟨rfl, ⟨z, rw', hR z _ rz⟩, k⟩) (hs _ _)
  · rename_i m ds i0
    obtain ⟨p, xs, Q1, rfl, st, rs⟩ := rx
    obtain rfl : ru = .int _ := ry
    obtain rfl : v = Value.ref p := r1
    obtain ⟨t, rfl⟩ := r2
    unfold atI at q3
    obtain ⟨j, hj, hd⟩ := Option.bind_eq_some_iff.mp q3
    obtain ⟨z, Pz, hz, _, rz⟩ := rs.get hd
    obtain ⟨its, rvs, pl, hzl⟩ := hok_list q'.hok q'.kin (.inl st.rd)
    have e5 : atI xs i0 = some z := by
      unfold atI
      rw [← rs.length, hj]
      exact hz
    obtain ⟨j', h1, h2, h3, h4, h5⟩ := atI_get e5
    obtain ⟨w', ew, rw'⟩ := rvs.get h2
    have hl := rvs.length
    have hsz : its.toArray.size = its.length := by simp
    have fin : (∃ v, RelV v w' ∧ R v) ∧ Keeps s s2 := ⟨⟨z, rw', hR z _ rz⟩, k⟩
    by_cases h0 : 0 ≤ i0
    · have hj : i0.toNat = j' := by
        rw [seqIndex_of h0 h5] at h1
        exact Option.some.inj h1
      exact PyProof.Rows.item_listR pl.isList h0 (by omega) (by rw [hj]; simpa using ew) fin (hs _ _)
    · have hj : (i0 + (its.toArray.size : Int)).toNat = j' := by
        rw [seqIndex_neg (by omega) h4] at h1
        rw [hsz, ← hl]
        exact Option.some.inj h1
      exact PyProof.Rows.subscriptTail_builtinR (x := w') pl.isList.typeIs PySem.F.slot_list_getitem.lookup
        (wpAny_getItem_list_neg (k := i0) (Q := fun r s' => r = w' ∧ ((∃ v, RelV v r ∧ R v) ∧ Keeps s s')) pl.isList (by omega) (by omega) (by omega) (by rw [hj]; simpa using ew) ⟨rfl, fin⟩) (hs _ _)
  · cases q3
end
end Z

namespace Z
open PySem PySem.Spec L2
variable [TabList]
section
variable {K : PySem.W.Frag} {H : Hp} {P : Program} {w : World} {h : Heap}
mutual
theorem dp_reads (hok : HOk P w H h) (kin : K.In h) : ∀ (d : PyData) (v : V) (u : Value), Dp K H v d → RelV v u → ∃ as, Reads h u d as
  | .none, _, _, q, r => by cases q; cases r; exact ⟨_, Reads.none⟩
  | .bool b, _, _, q, r => by cases q; cases r; exact ⟨_, Reads.bool b⟩
  | .int i, _, _, q, r => by cases q; obtain ⟨t, rfl⟩ := r; exact ⟨_, Reads.int i t⟩
  | .str x, _, _, q, r => by cases q; obtain ⟨t, rfl⟩ := r; exact ⟨_, Reads.str x t⟩
  | .list ds, _, _, q, r => by
    cases q with
    | lst hs ha =>
      cases r
      obtain ⟨its, rv, ⟨o, n, ho, hc, _, hd⟩, _⟩ := hok_list hok kin hs
      obtain ⟨as, hr⟩ := dp_readsAll hok kin ds _ its ha rv
      exact ⟨_, Reads.list ho hc hd hr⟩
  | .tuple ds, _, _, q, r => by
    cases q with
    | tup hs ha =>
      cases r
      obtain ⟨its, rv, ⟨o, ho, hc, n, hd⟩, _⟩ := hok_tuple hok kin hs
      obtain ⟨as, hr⟩ := dp_readsAll hok kin ds _ its ha rv
      exact ⟨_, Reads.tuple ho hc hd hr⟩
  | .dict _, _, _, q, _ => by cases q
theorem dp_readsAll (hok : HOk P w H h) (kin : K.In h) : ∀ (ds : List PyData) (vs : List V) (us : List Value), DpAll K H vs ds → Vals vs us → ∃ as, ReadsAll h us ds as
  | [], _, _, q, r => by cases q; cases r; exact ⟨_, ReadsAll.nil⟩
  | d :: ds, _, _, q, r => by
    cases q with
    | cons h1 h2 =>
      cases r with
      | cons r1 r2 =>
        obtain ⟨as, q1⟩ := dp_reads hok kin d _ _ h1 r1
        obtain ⟨bs, q2⟩ := dp_readsAll hok kin ds _ _ h2 r2
        exact ⟨_, ReadsAll.cons q1 q2⟩
end
end
section
variable {X : Cx} {G : PySem.Env} {a b : E} {ea eb : Expr} {pos : Pos}
theorem qe_in (ha : QE X G ea (tQ X.K a)) (hb : QE X G eb (tQ X.K b)) (hm : behindInMarks .In eb = false) : QE X G (.Compare ea [.In] [eb] pos) (tQ X.K (.ap .inn (.cons a (.cons b .nil)))) := by
  intro A Ex s σ H R q hu ⟨env, P, d, hE, hv1, hR⟩
  simp only [evQ] at hv1
  obtain ⟨ds, hds, hp⟩ := Option.bind_eq_some_iff.mp hv1
  simp only [evQs, Option.bind_eq_some_iff, Option.map_eq_some_iff] at hds
  obtain ⟨x, q1, l1, ⟨y, q2, l2, h0, rfl⟩, rfl⟩ := hds
  cases h0
  obtain ⟨c, q3, rfl, hy⟩ : ∃ c, opIn x y = some c ∧ d = .bl c ∧ ∀ m ks ds, y ≠ .dic m ks ds := by
    unfold apQ at hp
    split at hp <;> (try (simp only [reduceCtorEq] at *; done)) <;> (try (rename_i h1 h2; simp only [List.cons.injEq, and_true] at h2; obtain ⟨rfl, rfl⟩ := h2; simp only [Option.map_eq_some_iff] at hp; obtain ⟨c, hc, rfl⟩ := hp; exact ⟨c, hc, rfl, fun _ _ _ z => nomatch z⟩))
    all_goals (first | (cases hp; done) | skip)
  refine wpAny_Compare1 (qe_two (f := fun v u => compareOp .In v u) ha hb q hu hE q1 q2 fun v u rv ru s2 P2 P4 r1 r2 rx ry q' k => ?_) hm
  have fin : (∃ v, RelV v (Value.bool c) ∧ R v) ∧ Keeps s s2 := ⟨⟨.bl c, rfl, hR (.bl c) No rfl⟩, k⟩
  cases y <;> simp only [opIn, reduceCtorEq, Option.some.injEq, Option.map_eq_some_iff, Option.bind_eq_some_iff, Option.ite_none_right_eq_some, Bool.and_eq_true] at q3
  · cases x <;> simp only [reduceCtorEq, Option.some.injEq] at q3
    obtain rfl : rv = .str _ := rx
    obtain rfl : ru = .str _ := ry
    obtain ⟨t, rfl⟩ := r1
    obtain ⟨t', rfl⟩ := r2
    subst q3
    exact PyProof.Rows.in_str fin
  · obtain ⟨x1, h1, ys, h2, ⟨h3, h4⟩, rfl⟩ := q3
    obtain ⟨as, e1⟩ := dp_reads q'.hok q'.kin x1 rv v (dp_of rx h1) r1
    obtain ⟨bs, e2⟩ := dp_reads q'.hok q'.kin (.tuple ys) ru u (dp_of ry (by simp [toPy, h2])) r2
    exact SeqAt.in_tuple_reads e2 e1 (SeqAt.canLay_of_shaped h4) (SeqAt.canLay_of_shaped h3) (PyProof.Rows.room_in_shaped h3 hu) fin
  · obtain ⟨x1, h1, ys, h2, ⟨h3, h4⟩, rfl⟩ := q3
    obtain ⟨as, e1⟩ := dp_reads q'.hok q'.kin x1 rv v (dp_of rx h1) r1
    obtain ⟨bs, e2⟩ := dp_reads q'.hok q'.kin (.list ys) ru u (dp_of ry (by simp [toPy, h2])) r2
    exact SeqAt.in_list_reads e2 e1 (SeqAt.canLay_of_shaped h4) (SeqAt.canLay_of_shaped h3) (PyProof.Rows.room_in_shaped h3 hu) fin
  · exact absurd rfl (hy _ _ _)
theorem qe_nin (ha : QE X G ea (tQ X.K a)) (hb : QE X G eb (tQ X.K b)) (hm : behindInMarks .NotIn eb = false) : QE X G (.Compare ea [.NotIn] [eb] pos) (tQ X.K (.ap .nin (.cons a (.cons b .nil)))) := by
  intro A Ex s σ H R q hu ⟨env, P, d, hE, hv1, hR⟩
  simp only [evQ] at hv1
  obtain ⟨ds, hds, hp⟩ := Option.bind_eq_some_iff.mp hv1
  simp only [evQs, Option.bind_eq_some_iff, Option.map_eq_some_iff] at hds
  obtain ⟨x, q1, l1, ⟨y, q2, l2, h0, rfl⟩, rfl⟩ := hds
  cases h0
  obtain ⟨c, q3, rfl, hy⟩ : ∃ c, opIn x y = some c ∧ d = .bl (!c) ∧ ∀ m ks ds, y ≠ .dic m ks ds := by
    unfold apQ at hp
    split at hp <;> (try (simp only [reduceCtorEq] at *; done)) <;> (try (rename_i h1 h2; simp only [List.cons.injEq, and_true] at h2; obtain ⟨rfl, rfl⟩ := h2; simp only [Option.map_eq_some_iff] at hp; obtain ⟨c, hc, rfl⟩ := hp; exact ⟨c, hc, rfl, fun _ _ _ z => nomatch z⟩))
    all_goals (first | (cases hp; done) | skip)
  refine wpAny_Compare1 (qe_two (f := fun v u => compareOp .NotIn v u) ha hb q hu hE q1 q2 fun v u rv ru s2 P2 P4 r1 r2 rx ry q' k => ?_) hm
  have fin : (∃ v, RelV v (Value.bool (!c)) ∧ R v) ∧ Keeps s s2 := ⟨⟨.bl (!c), rfl, hR (.bl (!c)) No rfl⟩, k⟩
  cases y <;> simp only [opIn, reduceCtorEq, Option.some.injEq, Option.map_eq_some_iff, Option.bind_eq_some_iff, Option.ite_none_right_eq_some, Bool.and_eq_true] at q3
  · cases x <;> simp only [reduceCtorEq, Option.some.injEq] at q3
    obtain rfl : rv = .str _ := rx
    obtain rfl : ru = .str _ := ry
    obtain ⟨t, rfl⟩ := r1
    obtain ⟨t', rfl⟩ := r2
    subst q3
    exact PyProof.Rows.notIn_str fin
  · obtain ⟨x1, h1, ys, h2, ⟨h3, h4⟩, rfl⟩ := q3
    obtain ⟨as, e1⟩ := dp_reads q'.hok q'.kin x1 rv v (dp_of rx h1) r1
    obtain ⟨bs, e2⟩ := dp_reads q'.hok q'.kin (.tuple ys) ru u (dp_of ry (by simp [toPy, h2])) r2
    exact SeqAt.notIn_tuple_reads e2 e1 (SeqAt.canLay_of_shaped h4) (SeqAt.canLay_of_shaped h3) (PyProof.Rows.room_in_shaped h3 hu) fin
  · obtain ⟨x1, h1, ys, h2, ⟨h3, h4⟩, rfl⟩ := q3
    obtain ⟨as, e1⟩ := dp_reads q'.hok q'.kin x1 rv v (dp_of rx h1) r1
    obtain ⟨bs, e2⟩ := dp_reads q'.hok q'.kin (.list ys) ru u (dp_of ry (by simp [toPy, h2])) r2
    exact SeqAt.notIn_list_reads e2 e1 (SeqAt.canLay_of_shaped h4) (SeqAt.canLay_of_shaped h3) (PyProof.Rows.room_in_shaped h3 hu) fin
  · exact absurd rfl (hy _ _ _)
end
end Z

namespace Z
open PySem PySem.Spec PyProof.Rows L2
variable [TabList]
/-- the state of the heap that an element may count on -/
structure ElS (X : Cx) (H1 : Hp) (h1 : Heap) (P : Addr) (A : Around) (s : Shared) : Prop where
  keep : ∀ b o, b ≠ P → h1.get? b = some o → s.heap.get? b = some o
  hok : ∃ H2, Ev No H1 H2 ∧ HOk X.prog X.w H2 s.heap
  hd : A.handled = none
  un : A.units ≤ X.A.units + 8
def ElB (X : Cx) (H1 : Hp) (h1 : Heap) (P : Addr) (scope : Scope) (x : Str) (elt : Expr) (xs : List V) (bs : List Bool) : Prop :=
  ∀ (G : PySem.Env), G.scope = scope → G.cells = cloFrom X.env.cells scope.names [] → ∀ (i : Nat) (v : V) (b : Bool), xs[i]? = some v → bs[i]? = some b → ∀ (A : Around) (Ex : Value → Shared → Prop) (s : Shared) (m : Str → Option Value) (u : Value), ElS X H1 h1 P A s → s.heap.Ns G.locals m → RelV v u → m x = some u →
    wpAny (model X.prog X.w) A (eval elt G) (fun y s3 => y = .bool b ∧ Keeps s s3) Ex s
section
variable {X : Cx} {pins : List (Addr × Obj)} {σ : L2.St} {H : Hp} {s : Shared}
def ReadyB (X : Cx) (pins : List (Addr × Obj)) (σ : L2.St) (H1 : Hp) (P : Addr) (bs : List Bool) (g : Addr) (s5 : Shared) : Prop :=
  ∃ (fp wr : List Addr) (Gn : Array GenState → Array GenState → Prop) (F : Nat → Value → Prop) (St : Nat → Shared → Prop),
    WalksS X.prog X.w X.A.in1 g fp wr Gn bs.length F St ∧ St 0 s5 ∧ (∀ j v, F j v → ∃ b, bs[j]? = some b ∧ v = .bool b) ∧
    ∀ s', Moved wr Gn s5 s' → ∃ H2, Ev No H1 H2 ∧ Inv X pins σ H2 s'
theorem ev_tab {H : Hp} {P : Addr} {ps more : Array Value} (h : H P = some (.tbl ps)) (ok : TriplesOk (ps ++ more).toList) : Ev No H (upd H P (.tbl (ps ++ more))) := by
  refine ⟨fun a o e t _ => ?_, fun a e => ?_, fun q t => ?_⟩
  · rw [upd_ne (fun z => by rw [z, h] at e; cases e; exact t ps rfl)]; exact e
  · by_cases z : a = P
    · rw [z, upd_same]; exact fun z => nomatch z
    · rw [upd_ne z]; exact e
  · by_cases z : q = P
    · exact ⟨ps ++ more, by rw [z, upd_same], ok⟩
    · obtain ⟨ps', e, ok'⟩ := t
      exact ⟨ps', by rw [upd_ne z]; exact e, ok'⟩
theorem gen_seq {c P : Addr} {elt iter : Expr} {x : Str} {px gpos : Pos} {scope : Scope} {te : TE} {k : Nat} {Q' : Value → Shared → Prop} {R : List Bool → Hp → Prop}
    (hr : Room k X.A) (TB : GxR.TabB X.base X.mg c P) (hcode : X.env.code = .ref c) (S : GxR.GenS X.env scope x) (hi : PE X iter te)
    (hs : ∀ v, genFold iter X.env v = pure v) (I : Inv X pins σ H s) (h : te σ H fun v H1 => ∃ (yl : Addr) (xs : List V) (bs : List Bool), v = .ref yl ∧ (SqL X.K H1 yl xs ∨ SqT X.K H1 yl xs) ∧ bs.length = xs.length ∧ TabG' H1 P ∧ (∀ s1, Inv X pins σ H1 s1 → ElB X H1 s1.heap P scope x elt xs bs) ∧ R bs H1)
    (hQ : ∀ bs H1 g s5, R bs H1 → ReadyB X pins σ H1 P bs g s5 → Q' (.ref g) s5) :
    wpAny (model X.prog X.w) X.A (eval (.GeneratorExp elt [⟨.Name x px, iter, [], 0⟩] scope gpos) X.env) Q' X.xe s := by
  refine wpAny_GeneratorExp_walksQD hr.hd S.co (closure_ok S.free) S.cell S.dot S.loc S.kind (by have := hr.dp; omega) ?_ hs
  refine thn (hi.run pins s σ H _ I h) fun xv s1 ⟨v, H1, I1, r1, q1⟩ => ?_
  obtain ⟨yl, xs, bs, rfl, hyl, hbs, ⟨ps, hP, ht⟩, hel, q1⟩ := q1
  have hel := hel s1 I1
  obtain rfl : xv = Value.ref yl := r1
  have hPs : s1.heap.get? P = some { cls := .none, data := .fields ps } := I1.hok P _ hP
  have hPlt : P < s1.heap.objs.size := Heap.lt_size hPs
  -- the two kinds of sequences: the iterator, what it yields
  obtain ⟨its, rv, o, St, hylt, hylP, W, hst0, hiter⟩ : ∃ (its : List Value) (rv : Vals xs its) (o : Obj) (St : Nat → Heap → Prop), yl < s1.heap.objs.size ∧ yl ≠ P ∧
      (∀ A' : Around, A'.handled = none → Walks X.prog X.w A' s1.heap.objs.size [s1.heap.objs.size, yl] [s1.heap.objs.size] its.toArray.size (fun i v => its.toArray[i]? = some v) St) ∧
      St 0 (s1.heap.push o) ∧ ∀ (Q : Value → Shared → Prop), Q (.ref s1.heap.objs.size) { s1 with heap := s1.heap.push o } → wpAny (model X.prog X.w) X.A (pyIter (.ref yl)) Q X.xe s1 := by
    rcases hyl with hyl | hyl
    · obtain ⟨its, rv, hl, hz⟩ := I1.list hyl
      have hIL := hl.isList
      have hylt : yl < s1.heap.objs.size := by
        obtain ⟨_, e, _⟩ := _root_.id hIL
        exact Heap.lt_size e
      refine ⟨its, rv, { cls := .type "list_iterator", data := .fields #[.ref yl, .int 0 0] }, _, hylt, fun z => ?_, fun A' hA => Walks.list hA _ _ (Nat.ne_of_lt hylt) _, ⟨⟨_, Heap.get?_push_size _ rfl, rfl, rfl⟩, ?_⟩, fun Q hq => wpAny_pyIter_list hIL hq⟩
      · obtain ⟨_, e, hc1, _, hd1⟩ := _root_.id hIL
        rw [z, hPs] at e
        cases e
        cases hd1
      · obtain ⟨ob, e, r⟩ := _root_.id hIL
        exact ⟨ob, Heap.get?_push_of_some _ e, r⟩
    · obtain ⟨its, rv, hl, hz⟩ := I1.tuple hyl
      have hIT : s1.heap.IsTuple yl its.toArray := hl
      have hylt : yl < s1.heap.objs.size := by
        obtain ⟨_, e, _⟩ := _root_.id hIT
        exact Heap.lt_size e
      refine ⟨its, rv, { cls := .type "tuple_iterator", data := .fields #[.ref yl, .int 0 0] }, _, hylt, fun z => ?_, fun A' hA => Walks.tuple hA _ _ (Nat.ne_of_lt hylt) _, ⟨⟨_, Heap.get?_push_size _ rfl, rfl, rfl⟩, ?_⟩, fun Q hq => wpAny_pyIter_tuple hIT hq⟩
      · obtain ⟨_, e, hc1, _, hd1⟩ := _root_.id hIT
        rw [z, hPs] at e
        cases e
        cases hd1
      · obtain ⟨ob, e, r⟩ := _root_.id hIT
        exact ⟨ob, Heap.get?_push_of_some _ e, r⟩
  have hlen : its.length = bs.length := by rw [← rv.length, hbs]
  refine hiter _ ?_
  have hP2 : (s1.heap.push o).get? P = some { cls := .none, data := .fields ps } := Heap.get?_push_of_some _ hPs
  have cd : PySem.W.CodeHd (s1.heap.push o) c P := TB.code.keeps fun b u e => Heap.get?_push_of_some _ (I1.bk b u e)
  have lim2 : (s1.heap.push o).NoLimit := I1.nolimit.push o
  have cont : ∀ (code : Value) (h3 : Heap) (tk : Nat) (ps' : Array Value), Heap.ExtBut P (s1.heap.push o) h3 → (s1.heap.push o).objs.size ≤ h3.objs.size → h3.get? P = some { cls := .none, data := .fields ps' } → (∃ more, ps' = ps ++ more) → TriplesOk ps'.toList →
      wpAny (model X.prog X.w) X.A (builtinsFor X.env.globals X.env.builtins) (fun bi s₄ =>
        ∃ Ia fp wr n₀ Pf St₀ pz F, Value.ref s1.heap.objs.size = .ref Ia ∧ (∀ A' : Around, A'.handled = none → Walks X.prog X.w A' Ia fp wr n₀ Pf St₀) ∧ St₀ 0 s₄.heap ∧ (∀ b ∈ fp, b < s₄.heap.objs.size) ∧ s₄.heap.NoLimit ∧ cStatics ∉ wr ∧
          (∀ href : Heap, (∀ b o, s₄.heap.get? b = some o → href.get? b = some o) →
            QuietGenD X.prog X.w (genEnv scope (cloFrom X.env.cells scope.names []) s₄.heap.objs.size code bi X.env) x [] elt (List.range s₄.heap.objs.size) wr Pf pz F href (X.A.depth + 1) (X.A.units + 8)) ∧
          (∀ a h₅ tk gs, gs.bare = true → s₄.heap.objs.size < a → h₅.objs.size = a + 1 → (∀ b o, s₄.heap.get? b = some o → h₅.get? b = some o) →
            WalksS X.prog X.w X.A.in4 a (a :: s₄.heap.objs.size :: List.range s₄.heap.objs.size) (s₄.heap.objs.size :: wr) (GenOnlyQ s₄.gens.size) (passing pz n₀ 0).length
              (fun j y => ∃ i, (passing pz n₀ 0)[j]? = some i ∧ F i y) (GenAt X.prog X.w X.A.in4 a s₄.gens.size s₄.heap.objs.size (List.range s₄.heap.objs.size) wr pz n₀ F) →
            GenAt X.prog X.w X.A.in4 a s₄.gens.size s₄.heap.objs.size (List.range s₄.heap.objs.size) wr pz n₀ F 0 { s₄ with gens := s₄.gens.push gs, toks := tk, heap := h₅ } →
            Q' (.ref a) { s₄ with gens := s₄.gens.push gs, toks := tk, heap := h₅ })) X.xe { s1 with heap := h3, toks := tk } := by
    intro code h3 tk ps' hx hsz hP3 hmore ht3
    obtain ⟨more, em⟩ := hmore
    subst em
    obtain ⟨bm, ob, e1, e2, e3, e4, e5, e6, e7, e8⟩ := TB.bm
    have hcP : cStatics ≠ P := fun e => by
      obtain ⟨_, hns, _⟩ := I1.nolimit
      obtain ⟨o', es, ep, ho, hd, _⟩ := hns
      rw [e, hPs] at ho
      cases ho
      cases hd
    have hcl : cStatics < s1.heap.objs.size := let ⟨_, hns, _⟩ := I1.nolimit; hns.lt
    have sz2 : (s1.heap.push o).objs.size = s1.heap.objs.size + 1 := Heap.size_push ..
    have keep3 : ∀ b u, b ≠ P → s1.heap.get? b = some u → h3.get? b = some u := fun b u hb e => hx b u hb (Heap.get?_push_of_some _ e)
    refine wpAny_builtinsFor (m := X.mg) (by rw [I1.ok.glob]; exact ((I1.mod.glob.keeps I1.bk).push o).extBut hx TB.gP) e1 e2 (keep3 _ _ e4 (I1.bk _ _ e5)) e6 e7 e8 ?_
    have hst3 : St 0 h3 := (W X.A hr.hd).frame _ _ _ hst0 fun b hb u e => hx b u (fun z => by
      rcases List.mem_cons.mp hb with z2 | z2
      · exact Nat.ne_of_lt hPlt (z.symm.trans z2)
      · rcases List.mem_cons.mp z2 with z2 | z2
        · exact hylP (z2.symm.trans z)
        · cases z2) e
    have evT := ev_tab (more := more) hP ht3
    refine ⟨s1.heap.objs.size, [s1.heap.objs.size, yl], [s1.heap.objs.size], its.toArray.size, (fun i v => its.toArray[i]? = some v), St, (fun _ => true),
      (fun i y => ∃ b, bs[i]? = some b ∧ y = .bool b), rfl, W, hst3, ?_, lim2.extBut hx hcP, ?_, ?_, ?_⟩
    · intro b hb
      rcases List.mem_cons.mp hb with z | z
      · rw [z]
        show s1.heap.objs.size < h3.objs.size
        omega
      · rcases List.mem_cons.mp z with z | z
        · rw [z]
          have e9 : s1.heap.objs.size ≤ h3.objs.size := by omega
          exact Nat.lt_of_lt_of_le hylt e9
        · cases z
    · intro z
      rcases List.mem_cons.mp z with z | z
      · exact Nat.ne_of_lt hcl z
      · cases z
    · intro href hhref
      refine ⟨fun A' E' i v s₂ m₂ hA hdp hun hPv hn hm hk => ?_, fun A' E' i v s₂ m₂ hA hdp hun hPv hp hn hm hk => ?_⟩
      · simp only [List.forIn_nil]
        exact wpAny_pure ⟨rfl, GxR.keeps_refl _⟩
      · have hPv2 : its[i]? = some v := by simpa using hPv
        have hi2 : i < its.length := (List.getElem?_eq_some_iff.mp hPv2).1
        obtain ⟨b, hb⟩ : ∃ b, bs[i]? = some b := ⟨bs[i]'(by omega), List.getElem?_eq_getElem _⟩
        obtain ⟨xv, hxv⟩ : ∃ xv, xs[i]? = some xv := ⟨xs[i]'(by rw [rv.length]; exact hi2), List.getElem?_eq_getElem _⟩
        obtain ⟨u, hu, ru⟩ := rv.get hxv
        rw [hPv2] at hu
        cases hu
        have kp : ∀ b o, b ≠ P → s1.heap.get? b = some o → s₂.heap.get? b = some o := fun b o hb e => by
          have hl := Heap.lt_size e
          have h9 : b < h3.objs.size := by
            have e9 : s1.heap.objs.size ≤ h3.objs.size := by omega
            exact Nat.lt_of_lt_of_le hl e9
          exact hk b (List.mem_range.mpr h9) (fun z => by
            rcases List.mem_cons.mp z with z | z
            · exact Nat.ne_of_lt hl z
            · cases z) o (hhref b o (keep3 b o hb e))
        have hP4 : s₂.heap.get? P = some { cls := .none, data := .fields (ps ++ more) } := by
          have h9 : P < h3.objs.size := by
            have e9 : s1.heap.objs.size ≤ h3.objs.size := by omega
            exact Nat.lt_of_lt_of_le hPlt e9
          exact hk P (List.mem_range.mpr h9) (fun z => by
            rcases List.mem_cons.mp z with z | z
            · exact Nat.ne_of_lt hPlt z
            · cases z) _ (hhref P _ hP3)
        have J := GxR.inv_tab (more := more) (h' := s₂.heap) (g' := s1.gens) (d' := s1.drawn) (t' := s1.toks) I1 hP kp hP4 I1.bare
        refine wpAny_mono (hel _ rfl rfl i xv b hxv hb A' E' s₂ m₂ v ⟨kp, ⟨_, evT, J.hok⟩, hA, hun⟩ hn ru hm) (fun y s3 r => ⟨⟨b, hb, r.1⟩, r.2⟩) fun _ _ e => e
    · intro g h5 tk5 gs hgb hag hsz5 hk5 W5 hgat
      simp only [GxR.passing_true, List.length_range] at W5
      have hn5 : its.toArray.size = bs.length := by rw [List.size_toArray, hlen]
      rw [hn5] at W5 hgat
      refine hQ bs H1 g _ q1 ⟨_, _, _, _, _, W5.in4_1, hgat, ?_, fun s' hm => ?_⟩
      · intro j v hv
        obtain ⟨i, hij, b, hb, e⟩ := hv
        obtain ⟨hj, ej⟩ := List.getElem?_eq_some_iff.mp hij
        rw [List.getElem_range] at ej
        subst ej
        exact ⟨b, hb, e⟩
      · have nwr : ∀ b u, s1.heap.get? b = some u → b ∉ h3.objs.size :: [s1.heap.objs.size] := fun b u e hb => by
          have hl := Heap.lt_size e
          rcases List.mem_cons.mp hb with z | z
          · rw [z] at hl
            have h9 : (h3.objs.size : Nat) < s1.heap.objs.size := hl
            omega
          · rcases List.mem_cons.mp z with z | z
            · rw [z] at hl
              exact Nat.lt_irrefl _ hl
            · cases z
        have J := GxR.inv_tab (more := more) (h' := s'.heap) (g' := s'.gens) (d' := s'.drawn) (t' := s'.toks) I1 hP (fun b u hb e => hm.heap b u (nwr b u e) (hk5 b u (keep3 b u hb e)))
          (hm.heap P _ (nwr P _ hPs) (hk5 P _ hP3)) (AllBare.movedS (I1.bare.push hgb) hm)
        rw [GxR.sh_eta s1 s' hm.os] at J
        exact ⟨_, evT, J⟩
  refine ⟨lim2, ?_⟩
  cases hf : codeAmong gpos ps.toList with
  | none =>
    refine wpAny_genexprCodeX hcode (cd.code hP2 ht) (cd.tab hP2) hf fun c' h' tk hx hge hlt hco' _ htab' _ => ?_
    obtain ⟨o1, vs, f1, tf, fl, tg, inF, tx, tt, op, _, _, _, _, _, _, _, _, _, htr, _⟩ := hco'
    exact cont _ h' tk _ hx (Nat.le_trans hge (Nat.le_of_lt hlt)) htab'.2 ⟨_, rfl⟩ htr
  | some cv =>
    refine wpAny_genexprCode_hit hcode (cd.code hP2 ht) hf ?_
    exact cont cv (s1.heap.push o) s1.toks ps (Heap.ExtBut.refl _ _) (Nat.le_refl _) hP2 ⟨#[], by simp⟩ ht
end
end Z

namespace Z
open PySem PySem.Spec PyProof.Rows L2
variable [TabList]
/-- a generator expression's scope: its one name x, names of the def that it captures -/
def genB (N : List Str) (sc scope : Scope) (x : Str) : Bool :=
  (match scope.kind with | .function => true | _ => false) && !scope.isCoroutine && (scope.names.all fun y => decide (scope.names.lookup y.1 = some y.2)) &&
    decide (scope.names.lookup (".0" : Str) = some NameKind.local) && decide (scope.names.lookup x = some NameKind.local) &&
    (scope.names.all fun y => match y.2 with
      | .free => (match sc.names.lookup y.1 with | some .cell => true | some .free => true | _ => false)
      | .local => decide (y.1 = x) || decide (y.1 ∉ N)
      | .cell => false
      | _ => true)
structure GenF (N : List Str) (sc scope : Scope) (x : Str) : Prop where
  kind : scope.kind = .function
  co : scope.isCoroutine = false
  uniq : ∀ y ∈ scope.names, scope.names.lookup y.1 = some y.2
  dot : scope.names.lookup (".0" : Str) = some NameKind.local
  loc : scope.names.lookup x = some .local
  cell : ∀ y ∈ scope.names, y.2 ≠ .cell
  free : ∀ y ∈ scope.names, y.2 = .free → sc.names.lookup y.1 = some .cell ∨ sc.names.lookup y.1 = some .free
  own : ∀ y ∈ scope.names, y.2 = .local → y.1 = x ∨ y.1 ∉ N
theorem genF {N : List Str} {sc scope : Scope} {x : Str} (h : genB N sc scope x = true) : GenF N sc scope x := by
  unfold genB at h
  simp only [Bool.and_eq_true, List.all_eq_true, decide_eq_true_eq, Bool.not_eq_true'] at h
  obtain ⟨⟨⟨⟨⟨h1, h2⟩, h3⟩, h4⟩, h5⟩, h6⟩ := h
  refine ⟨?_, h2, h3, h4, h5, fun y hy e => ?_, fun y hy e => ?_, fun y hy e => ?_⟩
  · split at h1
    · assumption
    · cases h1
  · have q := h6 y hy
    rw [e] at q
    cases q
  · have q := h6 y hy
    simp only [e] at q
    split at q <;> first | exact .inl (by assumption) | exact .inr (by assumption) | cases q
  · have q := h6 y hy
    simp only [e, Bool.or_eq_true, decide_eq_true_eq] at q
    exact q
theorem genAll_get {ix : Nat} {e : E} {env : Z.Env} : ∀ {ds : List D} {bs : List Bool}, genAll (.one ix) e env ds = some bs → bs.length = ds.length ∧ ∀ (i : Nat) (d : D) (b : Bool), ds[i]? = some d → bs[i]? = some b → ix < env.length ∧ evQ e (env.set ix (some d)) = some (.bl b)
  | [], bs, h => by
    simp only [genAll, Option.some.injEq] at h
    subst h
    exact ⟨rfl, fun i d b e => by simp at e⟩
  | d :: ds, bs, h => by
    simp only [genAll, bindT, Option.bind_eq_some_iff, Option.ite_none_right_eq_some, Option.some.injEq] at h
    obtain ⟨env1, ⟨hl, rfl⟩, h⟩ := h
    split at h
    · rename_i b hb
      obtain ⟨bs', hbs, rfl⟩ := Option.map_eq_some_iff.mp h
      obtain ⟨h1, h2⟩ := genAll_get hbs
      refine ⟨by simp [h1], fun i d' b' e1 e2 => ?_⟩
      cases i with
      | zero =>
        simp at e1 e2
        subst e1 e2
        exact ⟨hl, hb⟩
      | succ i => exact h2 i d' b' (by simpa using e1) (by simpa using e2)
    · cases h
section
variable {X : Cx} {pins : List (Addr × Obj)} {σ : L2.St} {H1 : Hp} {s1 : Shared}
/-- the element's reading, from the quiet layer's -/
theorem el_of {k : Nat} {P : Addr} {scope : Scope} {x : Str} {elt : Expr} {e : E} {ix : Nat} {xs : List V} {bs : List Bool} {ds : List D} {e1 : Z.Env} {P1 : Own} (hr : Room k X.A) (hN : X.N.Nodup) (hx : X.N[ix]? = some x) (hgen : GenF X.N X.env.scope scope x)
    (hel : ∀ G : PySem.Env, G.scope = scope → QE X G elt (tQ X.K e)) (hT : TabG' H1 P) (r : RelE X.K H1 e1 σ P1) (rs : Rels X.K H1 ds xs No) (hg : genAll (.one ix) e (wipeE [ix] e1) ds = some bs) (I1 : Inv X pins σ H1 s1) : ElB X H1 s1.heap P scope x elt xs bs := by
  intro G hG hcells i v b hxv hbs A Ex s m u els hn ru hm
  obtain ⟨g1, g2⟩ := genAll_get hg
  obtain ⟨H2, ev, hok⟩ := els.hok
  obtain ⟨ps, hP, ht⟩ := hT
  have hPs : s1.heap.get? P = some { cls := .none, data := .fields ps } := I1.hok P _ hP
  have hi : i < ds.length := by rw [rs.length]; exact (List.getElem?_eq_some_iff.mp hxv).1
  obtain ⟨d, hd⟩ : ∃ d, ds[i]? = some d := ⟨ds[i], List.getElem?_eq_getElem hi⟩
  obtain ⟨v', Pv, hv', sub, rv⟩ := rs.get hd
  obtain rfl : v' = v := by rw [hxv] at hv'; exact (Option.some.inj hv').symm
  obtain ⟨hl, he⟩ := g2 i d b hd hbs
  have rv0 : Rel X.K H1 d v' No := rv.mono sub
  have rE : RelE X.K H2 ((wipeE [ix] e1).set ix (some d)) ((L2.wipe σ [ix]).set ix (some v')) P1 := ((r.wipe (vs := [ix])).store (P := P1) hl ⟨fun _ z => z.elim, fun _ z => z, fun _ z => z.elim⟩ rv0).ev ev
  have hsl : (L2.wipe σ [ix]).set ix (some v') = σ.set ix (some v') := by
    show (σ.set ix none).set ix (some v') = _
    rw [List.set_set]
  rw [hsl] at rE
  have nK : ∀ b o, X.base.get? b = some o → b ≠ P := fun b o e z => by
    have := (I1.bs b o e).2
    rw [z, hP] at this
    cases this
  have q : QAt X H2 (σ.set ix (some v')) G A s := by
    refine ⟨hok, fun b o e => els.keep b o (nK b o (I1.ok.mod.kin b o e)) (I1.kIn b o e), els.hd, by rw [hG]; exact hgen.kind, ⟨m, hn, fun j y w e1 e2 e3 => ?_⟩, fun j y w e1 e2 e3 => ?_⟩
    · rw [hG] at e3
      have hy := hgen.own _ (PySem.mem_of_lookup e3) rfl
      rcases hy with hy | hy
      · have hy : y = x := hy
        subst hy
        have hj : j = ix := by
          have a1 := (List.getElem?_eq_some_iff.mp e1)
          have a2 := (List.getElem?_eq_some_iff.mp hx)
          obtain ⟨l1, a1⟩ := a1
          obtain ⟨l2, a2⟩ := a2
          exact (List.getElem_inj hN).mp (a1.trans a2.symm)
        subst hj
        rw [List.getElem?_set_self (by
          have := (List.getElem?_eq_some_iff.mp e2).1
          simpa using this)] at e2
        cases e2
        exact ⟨u, ru, hm⟩
      · exact absurd (List.mem_of_getElem? e1) hy
    · rw [hG] at e3
      have hmem := PySem.mem_of_lookup e3
      have hvis := hgen.free _ hmem rfl
      have hj : ix ≠ j := fun z => by
        subst z
        rw [hx] at e1
        cases e1
        rw [hgen.loc] at e3
        cases e3
      rw [List.getElem?_set_ne hj] at e2
      obtain ⟨m1, hn1, hl1⟩ := I1.loc
      obtain ⟨u1, ru1, lk⟩ := hl1 j y w e1 e2 (.inr hvis)
      rcases lk with ⟨hk, _⟩ | ⟨_, c, hc, hcell⟩
      · have hk : X.env.scope.names.lookup y = some .local := hk
        rcases hvis with z | z
        · rw [hk] at z; cases z
        · rw [hk] at z; cases z
      · have hcP : c ≠ P := fun z => by
          obtain ⟨o, ho, hd2⟩ := hcell
          rw [z, hPs] at ho
          cases ho
          cases hd2
        refine ⟨c, u1, ?_, ?_, ru1⟩
        · rw [hcells]
          exact NdefX.clo_has (fun y hy e => by
            rcases hgen.free y hy e with k | k
            · exact I1.ok.has _ (.inl k)
            · exact I1.ok.has _ (.inr k)) hmem hc
        · obtain ⟨o, ho, hd2⟩ := hcell
          exact ⟨o, els.keep c o hcP ho, hd2⟩
  have hun : A.units + 65 < cLine := by have := hr.un; have := els.un; omega
  refine wpAny_mono (hel G hG A Ex s _ H2 (fun w => w = .bl b) q hun ⟨_, P1, _, rE, he, fun w P2 rw' => rw'⟩) (fun y s3 ⟨⟨w, rw', ew⟩, k⟩ => ⟨?_, k⟩) fun _ _ e => e
  subst ew
  exact rw'
end
section
variable {X : Cx} {rx : XR} {W : WX} {C : Ctx} {a e : E} {ea elt : Expr} {p pos gpos px : Pos}
theorem all_range (bs : List Bool) : (List.range bs.length).all (fun j => bs.getD j false) = bs.all id := by
  rw [Bool.eq_iff_iff]
  simp only [List.all_eq_true, List.mem_range, id]
  constructor
  · intro h b hb
    obtain ⟨j, hj, rfl⟩ := List.mem_iff_getElem.mp hb
    simpa [List.getD, List.getElem?_eq_getElem hj] using h j hj
  · intro h j hj
    simpa [List.getD, List.getElem?_eq_getElem hj] using h _ (List.getElem_mem hj)
theorem any_range (bs : List Bool) : (List.range bs.length).any (fun j => bs.getD j false) = bs.any id := by
  rw [Bool.eq_iff_iff]
  simp only [List.any_eq_true, List.mem_range, id]
  constructor
  · rintro ⟨j, hj, h⟩
    exact ⟨bs[j], List.getElem_mem hj, by simpa [List.getD, List.getElem?_eq_getElem hj] using h⟩
  · rintro ⟨b, hb, h⟩
    obtain ⟨j, hj, rfl⟩ := List.mem_iff_getElem.mp hb
    exact ⟨j, hj, by simpa [List.getD, List.getElem?_eq_getElem hj] using h⟩
theorem boot_all' : bootBuiltins ("all" : Str) = some (.builtin "all") := by rfl
theorem boot_any' : bootBuiltins ("any" : Str) = some (.builtin "any") := by rfl
/-- what the maker of the generator wants, from the evaluator -/
theorem gen_read {all : Bool} {ix k : Nat} {P : Addr} {scope : Scope} {x : Str} {pins : List (Addr × Obj)} {σ : L2.St} {H : Hp} {Q : VK} (hr : Room k X.A) (hN : X.N.Nodup) (hx : X.N[ix]? = some x) (hgen : genB X.N X.env.scope scope x = true) (hP : P ∈ TabList.tabs)
    (hel : ∀ G : PySem.Env, G.scope = scope → QE X G elt (tQ X.K e)) (h : tE X.K rx W C (.gen all ix a e) σ H Q) :
    tE X.K rx W C a σ H fun v H1 => ∃ (yl : Addr) (xs : List V) (bs : List Bool), v = .ref yl ∧ (SqL X.K H1 yl xs ∨ SqT X.K H1 yl xs) ∧ bs.length = xs.length ∧ TabG' H1 P ∧ (∀ s1, Inv X pins σ H1 s1 → ElB X H1 s1.heap P scope x elt xs bs) ∧
      (fun (bs : List Bool) H1 => ∀ H2, Ev No H1 H2 → Q (.bl (if all then bs.all id else bs.any id)) H2) bs H1 := by
  obtain ⟨env, P0, hE, h⟩ := h
  refine ⟨env, P0, hE, ?_⟩
  simp only [evE] at h
  cases q : evE C a env with
  | bad => rw [q] at h; exact h.elim
  | exc y e1 => rw [q] at h; exact h
  | ok d e1 =>
    rw [q] at h
    simp only [Res.bind] at h
    intro v H1 P1 P2 r rd hd hn ev
    have go : ∀ {ds : List D} {yl : Addr} {xs : List V}, seqG d = some ds → (SqL X.K H1 yl xs ∨ SqT X.K H1 yl xs) → Rels X.K H1 ds xs No → v = .ref yl → ∃ (yl : Addr) (xs : List V) (bs : List Bool), v = .ref yl ∧ (SqL X.K H1 yl xs ∨ SqT X.K H1 yl xs) ∧ bs.length = xs.length ∧ TabG' H1 P ∧ (∀ s1, Inv X pins σ H1 s1 → ElB X H1 s1.heap P scope x elt xs bs) ∧
      (fun (bs : List Bool) H1 => ∀ H2, Ev No H1 H2 → Q (.bl (if all then bs.all id else bs.any id)) H2) bs H1 := fun {ds yl xs} hds hq rs hv => by
      rw [hds] at h
      simp only at h
      cases q2 : genAll (.one ix) e (wipeE [ix] e1) ds with
      | none => rw [q2] at h; exact h.elim
      | some bs =>
        rw [q2] at h
        refine ⟨yl, xs, bs, hv, hq, by rw [(genAll_get q2).1, rs.length], r.tabs P hP, fun s1 I1 => el_of hr hN hx (genF hgen) hel (r.tabs P hP) r rs q2 I1, fun H2 ev2 => ?_⟩
        exact h (.bl _) H2 P1 No (r.ev ev2) rfl (fun _ => ⟨fun _ _ z => z, fun _ z => z.elim⟩) hn ((ev.eo.trans ev2 fun _ z => z.elim).mono fun _ z => ⟨rfl, z⟩)
    cases d <;> (try exact h.elim)
    case tup ds =>
      by_cases hi : imms ds = true
      · obtain ⟨b, vs, rfl, st, rs⟩ := rd
        exact go (by simp [seqG, hi]) (.inr st) (rs.imm hi) rfl
      · have : seqG (.tup ds) = none := by simp [seqG, hi]
        rw [this] at h; exact h.elim
    case lst m ds =>
      by_cases hi : imms ds = true
      · obtain ⟨b, vs, Q1, rfl, st, rs⟩ := rd
        exact go (by simp [seqG, hi]) (.inl (.inl st.rd)) (rs.imm hi) rfl
      · have : seqG (.lst m ds) = none := by simp [seqG, hi]
        rw [this] at h; exact h.elim
theorem s_all {ix k : Nat} {P c : Addr} {scope : Scope} {x : Str} (hr : Room k X.A) (hN : X.N.Nodup) (hx : X.N[ix]? = some x) (hgen : genB X.N X.env.scope scope x = true) (hP : P ∈ TabList.tabs) (TB : GxR.TabB X.base X.mg c P) (hcode : X.env.code = .ref c)
    (hg : Gl X "all") (hm : X.mg "all" = none) (ha : PE X ea (tE X.K rx W C a)) (hel : ∀ G : PySem.Env, G.scope = scope → QE X G elt (tQ X.K e)) (hs : ∀ v, genFold ea X.env v = pure v)
    (he : starEach [.GeneratorExp elt [⟨.Name x px, ea, [], 0⟩] scope gpos] X.env = (false, eval (.GeneratorExp elt [⟨.Name x px, ea, [], 0⟩] scope gpos) X.env) :: starEach [] X.env) :
    PE X (.Call (.Name "all" p) [.GeneratorExp elt [⟨.Name x px, ea, [], 0⟩] scope gpos] [] pos) (tE X.K rx W C (.gen true ix a e)) := by
  refine ⟨fun pins s σ H Q I h => ?_⟩
  have gf := genF hgen
  have S : GxR.GenS X.env scope x := ⟨gf.kind, gf.co, gf.cell, gf.dot, gf.loc, fun y hy e => by
    rcases gf.free y hy e with k | k
    · exact I.ok.has _ (.inl k)
    · exact I.ok.has _ (.inr k)⟩
  refine wpAny_Call_Name_kw (ld_blt I hg hm boot_all' ?_)
  refine PyProof.Rows.callWith_builtin1 ?_ he (by rfl)
  rw [he]
  show wpAny _ _ (spliced ((false, eval (.GeneratorExp elt [⟨.Name x px, ea, [], 0⟩] scope gpos) X.env) :: backTo pos (starEach [] X.env))) _ _ s
  refine Calls.spliced_cons (gen_seq hr TB hcode S ha hs I (gen_read (pins := pins) hr hN hx hgen hP hel h) fun bs H1 g s5 hR hG => ?_)
  obtain ⟨fp, wr, Gn, F, St, W, hst, hF, hI⟩ := hG
  refine Calls.spliced_nil ?_
  refine call_all_walkS (W.self 0 _ _ _ hst ⟨g, fp, wr, Gn, _, F, St, fun j => bs.getD j false, rfl, W, hst, fun j v sj Qj Ej hv hQj => ?_, fun s' hmv => ?_⟩)
  · obtain ⟨b, hb, rfl⟩ := hF j v hv
    refine wpAny_truthy_bool ?_
    simpa [List.getD, hb] using hQj
  · obtain ⟨H2, hT, J⟩ := hI s' hmv
    refine ⟨.bl _, H2, J, rfl, ?_⟩
    rw [all_range]
    exact hR H2 hT
theorem s_any {ix k : Nat} {P c : Addr} {scope : Scope} {x : Str} (hr : Room k X.A) (hN : X.N.Nodup) (hx : X.N[ix]? = some x) (hgen : genB X.N X.env.scope scope x = true) (hP : P ∈ TabList.tabs) (TB : GxR.TabB X.base X.mg c P) (hcode : X.env.code = .ref c)
    (hg : Gl X "any") (hm : X.mg "any" = none) (ha : PE X ea (tE X.K rx W C a)) (hel : ∀ G : PySem.Env, G.scope = scope → QE X G elt (tQ X.K e)) (hs : ∀ v, genFold ea X.env v = pure v)
    (he : starEach [.GeneratorExp elt [⟨.Name x px, ea, [], 0⟩] scope gpos] X.env = (false, eval (.GeneratorExp elt [⟨.Name x px, ea, [], 0⟩] scope gpos) X.env) :: starEach [] X.env) :
    PE X (.Call (.Name "any" p) [.GeneratorExp elt [⟨.Name x px, ea, [], 0⟩] scope gpos] [] pos) (tE X.K rx W C (.gen false ix a e)) := by
  refine ⟨fun pins s σ H Q I h => ?_⟩
  have gf := genF hgen
  have S : GxR.GenS X.env scope x := ⟨gf.kind, gf.co, gf.cell, gf.dot, gf.loc, fun y hy e => by
    rcases gf.free y hy e with k | k
    · exact I.ok.has _ (.inl k)
    · exact I.ok.has _ (.inr k)⟩
  refine wpAny_Call_Name_kw (ld_blt I hg hm boot_any' ?_)
  refine PyProof.Rows.callWith_builtin1 ?_ he (by rfl)
  rw [he]
  show wpAny _ _ (spliced ((false, eval (.GeneratorExp elt [⟨.Name x px, ea, [], 0⟩] scope gpos) X.env) :: backTo pos (starEach [] X.env))) _ _ s
  refine Calls.spliced_cons (gen_seq hr TB hcode S ha hs I (gen_read (pins := pins) hr hN hx hgen hP hel h) fun bs H1 g s5 hR hG => ?_)
  obtain ⟨fp, wr, Gn, F, St, W, hst, hF, hI⟩ := hG
  refine Calls.spliced_nil ?_
  refine call_any_walkS (W.self 0 _ _ _ hst ⟨g, fp, wr, Gn, _, F, St, fun j => bs.getD j false, rfl, W, hst, fun j v sj Qj Ej hv hQj => ?_, fun s' hmv => ?_⟩)
  · obtain ⟨b, hb, rfl⟩ := hF j v hv
    refine wpAny_truthy_bool ?_
    simpa [List.getD, hb] using hQj
  · obtain ⟨H2, hT, J⟩ := hI s' hmv
    refine ⟨.bl _, H2, J, rfl, ?_⟩
    rw [any_range]
    exact hR H2 hT
end
end Z

namespace Z
open PySem PySem.Spec L2
open PyProof.Rows (envOfC)
variable [TabList]
section
variable {P : Program} {w : World} {K : PySem.W.Frag} {mg : Str → Option Value} {base : Heap} {rx : XR} {x qual : Str} {params : Arguments} {body : List Stmt} {scope : Scope} {dvs : List V} {kws : List (Str × V)} {f : Addr} {fd : FuncData} {N ps : List Str} {k : Nat} {call : Nat → List D → CRes} {p : He.Defn}
/-- the code object of a def, as its frames have it -/
theorem okC {CX : CXT} {sp : Sp} (hf : f = He.fAd K p) (F : FunD K x qual params body scope dvs kws f fd) (S : FnScope N ps scope) (len : ∀ vs H Q E, sp vs H Q E → vs.length = ps.length)
    (hbody : ∀ (cdv : Value) (A : Around) (outer : List PySem.Env) (s : Shared) (H : Hp) (vs : List V) (Q : VK) (E : XK), cdv = .ref (He.codeOf K p) → Room k (A.deeper (envOfC qual scope s.heap.objs.size f cdv)) → sp vs H Q E →
      ∃ t, PSs (cxOf CX P w K mg base N qual scope f cdv A outer s H E) body t ∧ t { nx := fun _ H' => Q .non H', rt := Q } (L2.start N vs) H) : FnOk P w K mg base CX (k + 1) f fd ps sp := by
  obtain ⟨oc, od, dV, kV, doc, pm, an, cdv, ct, osl, rfl, lk, hcd, _, _⟩ := F.ex
  refine fn_of lk hcd S len fun A outer s H vs Q E hr hsp => hbody cdv A outer s H vs Q E ?_ hr hsp
  obtain ⟨c, rfl⟩ := He.codeIn_ref hcd
  subst hf
  rw [He.codeOf_eq lk rfl]
theorem fd_okC (hf : f = He.fAd K p) (F : FunD K x qual params body scope dvs kws f fd) (S : FnScope N ps scope) (I : Fd) (hp : ps.length = I.np) (hn : N.length = I.n)
    (hb : ∀ (cdv : Value) (A : Around) (outer : List PySem.Env) (s : Shared) (H : Hp) (E : XK), cdv = .ref (He.codeOf K p) → Room k (A.deeper (envOfC qual scope s.heap.objs.size f cdv)) → PSs (cxOf (L2N.CX P w) P w K mg base N qual scope f cdv A outer s H E) body (tSs K rx (fun c d _ H' => E c d H') { call := call, kp := I.kp } I.body)) :
    FnOk P w K mg base (L2N.CX P w) (k + 1) f fd ps (spF K rx (I.run call)) := by
  have hlen : ∀ vs H Q E, spF K rx (I.run call) vs H Q E → vs.length = ps.length := fun vs H Q E ⟨_, ds, P, r, h⟩ => by
    rw [← r.length, hp]
    unfold Fd.run at h
    split at h
    · rename_i d fin q
      split at q
      · assumption
      · cases q
    · rename_i d fin q
      split at q
      · assumption
      · cases q
    · exact h.elim
  exact okC hf F S hlen fun cdv A outer s H vs Q E hc hr hsp => ⟨_, hb cdv A outer s H E hc hr, fd_start (P := P) (w := w) (ps := ps) (N := N) I hp hn (hlen _ _ _ _ hsp) hsp⟩
/-- the law: its script may not be locked yet -/
def spLaw (K : PySem.W.Frag) (rx : XR) (sem : List D → CRes) : Sp := fun vs H Q E => Tabs H ∧ ∃ (a : Addr) (ns : List Int), vs = [.ref a] ∧ SqL K H a (ns.map V.int) ∧ (∃ fin, sem [.scr ns] = .ok (.bl true) fin) ∧ ∀ H', Q (.bl true) H'
theorem pss_lock {X : Cx} {st : List Stmt} {t : TS} (h : PSs X st t) : PSs X st (fun D σ H => t D σ H ∨ ∃ a u, H a = some u ∧ Mut (some u) ∧ ∀ od, t D σ (upd H a (.frz od u))) := by
  refine ⟨fun pins s σ H D I hw => ?_⟩
  rcases hw with hw | ⟨a, u, ha, mu, hw⟩
  · exact h.run pins s σ H D I hw
  · obtain ⟨od, I1⟩ := I.lock ha mu
    exact h.run pins s σ _ D I1 (hw od)
theorem law_ok (hf : f = He.fAd K p) (F : FunD K x qual params body scope dvs kws f fd) (S : FnScope N ["script"] scope) (I : Fd) (hp : 1 = I.np) (hn : N.length = I.n)
    (hb : ∀ (cdv : Value) (A : Around) (outer : List PySem.Env) (s : Shared) (H : Hp) (E : XK), cdv = .ref (He.codeOf K p) → Room k (A.deeper (envOfC qual scope s.heap.objs.size f cdv)) → PSs (cxOf (L2N.CX P w) P w K mg base N qual scope f cdv A outer s H E) body (tSs K rx (fun c d _ H' => E c d H') { call := call, kp := I.kp } I.body)) :
    FnOk P w K mg base (L2N.CX P w) (k + 1) f fd ["script"] (spLaw K rx (I.run call)) := by
  refine okC hf F S (fun vs H Q E ⟨_, a, ns, e, _⟩ => by rw [e]; rfl) fun cdv A outer s H vs Q E hc hr ⟨hT, a, ns, e, hS, ⟨fin, hq⟩, hQ⟩ => ⟨_, pss_lock (hb cdv A outer s H E hc hr), ?_⟩
  subst e
  have go : ∀ H0, Tabs H0 → Scr K H0 a ns → tSs K rx (fun c d _ H' => E c d H') { call := call, kp := I.kp } I.body { nx := fun _ H' => Q .non H', rt := Q } (L2.start N [.ref a]) H0 := fun H0 hT0 hS0 => by
    refine fd_start (P := P) (w := w) (ps := ["script"]) (N := N) (H := H0) (vs := [.ref a]) (E := E) I hp hn rfl ⟨hT0, [.scr ns], No, Rels.cons Sep.nl ⟨a, rfl, hS0⟩ (show Rels K H0 [] [] No from rfl), ?_⟩
    rw [hq]
    exact fun v H' P1 P2 _ r _ _ _ _ => by obtain rfl : v = .bl true := r; exact hQ H'
  rcases hS with (z | ⟨o, z⟩) | z
  · refine .inr ⟨a, _, z, trivial, fun od => go _ (fun q hq => (hT q hq).mut z trivial) (.inl ⟨od, upd_same⟩)⟩
  · exact .inl (go H hT (.inl ⟨o, z⟩))
  · exact .inl (go H hT (.inr z))
end
end Z

/-! own exceptions over ValueError: __init__ with super().__init__ and fields -/
namespace Z
open PySem PySem.W PySem.Calls PyProof.Rows L2
/-- what the written part tells of such a class -/
structure ExcK (K : PySem.W.Frag) (C : Addr) : Prop where
  cls : ∃ nm q N bs bm sn sub ab col dd k0 k1 k2 k3 k5, K.lookup C = some (excClassObj nm q C N bs bm true sn sub ab col dd k0 k1 k2 k3 k5 "ValueError.__new__") ∧ PySem.HandSPX.refsVE bm = true ∧
    alongIn K "__init__" bm = some (some (.builtin "ValueError.__init__"))
  sa : PySem.W.findIn K (.ref C) "__setattr__" = some (some (.builtin "object.__setattr__"))
  self : PySem.W.mroIn K C (.ref C) = some true
  ve : PySem.W.subIn K (.ref C) (.type "ValueError") = some true
  op : PySem.W.nsIn K PySem.cStatics "thirdparty.any" = some none
section
variable {prog : Program} {w : World} {A : Around} {E : Value → Shared → Prop}
/-- the bound __init__ is called -/
theorem call_mw {nm q : Str} {C N u e t0 : Addr} {bs bm : List Value} {hdct : Bool} {sn : List Str} {sub : List Value} {ab : Bool} {col : Option Bool} {dd : Option Addr} {k0 k1 k2 k3 k5 : Option Value} {rest : List Value} {Q : Value → Shared → Prop} {s : Shared}
    (hC : s.heap.get? C = some (excClassObj nm q C N bs bm hdct sn sub ab col dd k0 k1 k2 k3 k5 "ValueError.__new__")) (he : s.heap.get? e = some (excRec (.ref C) t0 none .none .none (.bool false)))
    (hu : s.heap.get? u = some (kxs_mw "ValueError.__init__" e)) (hz : rest.length ≤ sizeLine)
    (hq : ∀ h' t1, (∀ b o, b ≠ e → s.heap.get? b = some o → h'.get? b = some o) → h'.get? e = some (excRec (.ref C) t1 none .none .none (.bool false)) → Q .none { s with heap := h' }) :
    wpAny (model prog w) A (call (.ref u) rest) Q E s := by
  obtain ⟨hp, g, d, t, os⟩ := s
  have F := PySem.F.excBase_ValueError
  refine wpAny_call (codeAny_of_tree ?_)
  show wpAny _ _ (callAny (.ref u) ⟨rest, []⟩) _ _ _
  unfold callAny
  refine wpAny_bind (wpAny_load hu ?_)
  have e1 : (Value.type "method-wrapper" == Value.type "method" || Value.type "method-wrapper" == Value.type "builtin_function_or_method" || Value.type "method-wrapper" == Value.type "method-wrapper") = true := by decide
  simp only [kxs_mw, e1, if_true]
  refine KFB.if_so (by decide) (wpAny_bind (check_bound_init F.toExcCallFacts hC he rfl (wpAny_bind (wpAny_pure (wpAny_pure ⟨plainId_quiet F.init.plain _, codeAny_builtin F.initEntry ?_⟩)))))
  exact exc_init_tree he hz fun h' k e' _ => hq h' _ k e'
end
section
variable {prog : Program} {w : World} {A : Around} {E : Value → Shared → Prop} {K : PySem.W.Frag} {C a L f cc cda : Addr} {qual : Str} {scope : Scope} {body : List Stmt} {m : Str → Option Value} {mg : Str → Option Value} {base : Heap}
/-- super().__init__(..): the exception keeps its place -/
theorem super_init {s : Shared} {t0 : Addr} {args : List Expr} {us : List Value} {p0 p1 p2 p3 p4 : Pos} {Q : Flow → Shared → Prop} {fd : FuncData} {oc cl ccl : Value} {od cdd cld : Option Addr} {osl ccs csl : Array (Option Value)} {vs : Array Value} {file : Str} {tf : Tok} {ar : Arg}
    (T : ExcK K C) (M : Mod K mg base) (kb : ∀ b o, base.get? b = some o → s.heap.get? b = some o)
    (ns : s.heap.Ns L m) (ha : s.heap.get? a = some (excRec (.ref C) t0 none .none .none (.bool false))) (ms : m ar.arg = some (.ref a))
    (hf : K.lookup f = some ⟨oc, od, .func fd, osl⟩) (hp : (fd.params.posonlyargs ++ fd.params.args).head? = some ar)
    (hcode : K.lookup cda = some ⟨ccl, cdd, .fields vs, ccs⟩) (hvs : vs[2]? = some (.str file tf)) (hfile : ((prog.main.file : Str) == file) = true)
    (hcell : K.lookup cc = some ⟨cl, cld, .cell (some (.ref C)), csl⟩) (hsup : mg "super" = none)
    (hks : scope.names.lookup ("super" : Str) = some .globalImplicit) (hkc : scope.names.lookup ("__class__" : Str) = some .free) (hka : scope.names.lookup ar.arg = some .local) (hk : scope.kind = .function)
    (htop : (prog.main.scope.names.lookup ("super" : Str)).isSome = false) (hz : us.length ≤ sizeLine)
    (hargs : ∀ (s1 : Shared) (Q : List Value → Shared → Prop) (E : Value → Shared → Prop), s1.heap.Ns L m → Q us s1 → wpAny (model prog w) A (spliced (backTo p3 (starEach args (ksEnv qual scope L f (.ref cda) cc)))) Q E s1)
    (hst : (backTo p3 (starEach args (ksEnv qual scope L f (.ref cda) cc))).any (·.1) = false)
    (hsw : swapsWith (.Call (.Attribute (.Call (.Name "super" p0) [] [] p1) "__init__" p2) args [] p3) none p4.line (ksEnv qual scope L f (.ref cda) cc) = pure false)
    {pl : Sem Bool} (he : eval (.Call (.Attribute (.Call (.Name "super" p0) [] [] p1) "__init__" p2) args [] p3) (ksEnv qual scope L f (.ref cda) cc) = (do
      let ov ← attributeBase (.Call (.Name "super" p0) [] [] p1) "__init__" (ksEnv qual scope L f (.ref cda) cc) (eval (.Call (.Name "super" p0) [] [] p1) (ksEnv qual scope L f (.ref cda) cc))
      standAt p2.atName
      let (fx, first) ← holding [ov] (getMethod ov "__init__" pl)
      callWith p3 fx first (backTo p3 (starEach args (ksEnv qual scope L f (.ref cda) cc))) []))
    (hin : interactive (ksEnv qual scope L f (.ref cda) cc) = false)
    (h : ∀ s1 : Shared, s1.os = s.os → s1.gens = s.gens → (∀ b o, b ≠ a → s.heap.get? b = some o → s1.heap.get? b = some o) → (∃ t1, s1.heap.get? a = some (excRec (.ref C) t1 none .none .none (.bool false))) → Q .next s1) :
    _root_.PySem.wpAt (model prog w) A (.func body (ksEnv qual scope L f (.ref cda) cc)) (exec (.Expr (.Call (.Attribute (.Call (.Name "super" p0) [] [] p1) "__init__" p2) args [] p3) p4) (ksEnv qual scope L f (.ref cda) cc)) Q E s := by
  obtain ⟨nm, q, N, bs, bm, sn, sub, ab, col, dd, k0, k1, k2, k3, k5, hC, hbm, hal⟩ := T.cls
  have X : K.In s.heap := M.kin.keeps kb
  have hcl : clsIn K C = some { name := nm, bases := bs, mro := .ref C :: bm, ns := N, qualname := q, hasDict := true, slotNames := sn, subclasses := sub, abstract := ab, collection := col } := by unfold clsIn; rw [hC]
  obtain ⟨mb, hmb, hboot⟩ := M.blt
  have D1 := X _ _ hC
  refine ks_wpAt_Expr_any (ks_wpAt_MethodCall (pl := pl) ?_ he) hin hsw
  refine ks_wpAt_super_base (env := ksEnv qual scope L f (.ref cda) cc) hks hkc (by decide) rfl (X _ _ hf) rfl hp rfl (X _ _ hcode) rfl hvs hfile htop ?_
  refine ks_loadName_global hk hks (loadGlobal_builtin (env := ksEnv qual scope L f (.ref cda) cc) (M.glob.keeps kb) hsup (hmb.keeps kb) ((hboot _ (by decide)).trans (by decide)) ⟨rfl, ?_⟩)
  refine wpAny_loadName_free hk hkc rfl ⟨_, X _ _ hcell, rfl⟩ ?_
  refine wpAny_loadName_local hk hka ns ms ?_
  obtain ⟨hp, g, d, t, os⟩ := s
  refine ks_wpAny_isType_cls D1 rfl ⟨rfl, ?_⟩
  refine ks_wpAny_call_super D1 rfl ha rfl (fun c e => by cases e) (looks_mroIn X T.self) (fun h1 e1 k1 => ?_)
  have X1 : K.In h1 := X.keeps k1
  have ha1 := k1 _ _ ha
  have hxC : a ≠ C := fun z => by
    have := X _ _ hC
    rw [← z, ha] at this
    cases this
  have I1 : InstAt h1 a (excRec (.ref C) t0 none .none .none (.bool false)) C none := ⟨ha1, rfl, rfl, trivial⟩
  refine kxs_getMethod kxs_ValueError e1 (looks_opaque X1 T.op) (l₀ := .ref C :: bm) (fun A Q E s k q => wpAny_bind ((looks_clsIn X1 hcl) A _ E s k (wpAny_pure q))) (by simp [List.dropWhile_cons]) X1 hal (I1.type.andThen (looks_subIn X1 T.ve)) hxC (by decide) ?_
  refine kxs_callWith (x := a) (i := "ValueError.__init__") hst ?_
  refine L2.FK.evalArgs_any hst ?_
  have k2 : ∀ b o, hp.get? b = some o → (h1.push (kxs_mw "ValueError.__init__" a)).get? b = some o := fun b o e => Heap.get?_push_of_some _ (k1 b o e)
  refine hargs _ _ _ (ns.keeps k2) ⟨Heap.get?_push_size _ rfl, ?_⟩
  refine call_mw (k2 _ _ D1) (k2 _ _ ha) (Heap.get?_push_size _ rfl) hz fun h' t1 k e' => ?_
  exact h _ rfl rfl (fun b o hb e => k b o hb (k2 b o e)) ⟨t1, e'⟩
/-- self.f = v, the first field -/
theorem store_first {s : Shared} {t1 : Addr} {v : Value} {self fld : Str} {pS pA pV pos : Pos} {Q : Flow → Shared → Prop}
    (T : ExcK K C) (X : K.In s.heap) (ns : s.heap.Ns L m) (ha : s.heap.get? a = some (excRec (.ref C) t1 none .none .none (.bool false))) (ms : m self = some (.ref a)) (mf : m fld = some v)
    (hno : PySem.W.findIn K (.ref C) fld = some none) (hks : scope.names.lookup self = some .local) (hkf : scope.names.lookup fld = some .local) (hk : scope.kind = .function)
    (hd1 : (self == ("__debug__" : Str)) = false) (hd2 : (fld == ("__debug__" : Str)) = false)
    (hsw : swapsWith (.Name fld pV) (some (.Attribute (.Name self pS) fld pA)) pos.line (ksEnv qual scope L f (.ref cda) cc) = pure false)
    (h : ∀ (s1 : Shared) (dx : Addr), s1.os = s.os → s1.gens = s.gens → (∀ b o, b ≠ a → s.heap.get? b = some o → s1.heap.get? b = some o) → s.heap.objs.size ≤ dx → dx ≠ a →
      s1.heap.get? a = some (excRec (.ref C) t1 (some dx) .none .none (.bool false)) → s1.heap.Ns1 dx (fun y => if y = fld then some v else none) → Q .next s1) :
    _root_.PySem.wpAt (model prog w) A (.func body (ksEnv qual scope L f (.ref cda) cc)) (exec (.Assign [.Attribute (.Name self pS) fld pA] (.Name fld pV) pos) (ksEnv qual scope L f (.ref cda) cc)) Q E s := by
  obtain ⟨nm, q, N, bs, bm, sn, sub, ab, col, dd, k0, k1, k2, k3, k5, hC, hbm, hal⟩ := T.cls
  have hcl : clsIn K C = some { name := nm, bases := bs, mro := .ref C :: bm, ns := N, qualname := q, hasDict := true, slotNames := sn, subclasses := sub, abstract := ab, collection := col } := by unfold clsIn; rw [hC]
  refine ks_wpAt_Assign_Attr (wpAt_of_wpAny (wpAny_Name (wpAny_loadName_local hk hkf ns mf ?_) hd2)) hsw
  refine wpAny_Name (wpAny_loadName_local hk hks ns ms ?_) hd1
  obtain ⟨hp, g, d, t, os⟩ := s
  refine set_plain X (ox := excRec (.ref C) t1 none .none .none (.bool false)) (od := none) ⟨ha, rfl, rfl, trivial⟩ T.sa ?_
  exact PySem.HandSPX.exc_osa X ha hcl (show PySem.HandSPX.refsVE (.ref C :: bm) = true from hbm) rfl hno fun h' tk' dx k dn dne hx hn => h _ dx rfl rfl k dn dne hx hn
/-- a further field -/
theorem store_more {s : Shared} {t1 dx : Addr} {v : Value} {self fld : Str} {pS pA pV pos : Pos} {m0 : Str → Option Value} {nl : List Str} {Q : Flow → Shared → Prop}
    (T : ExcK K C) (X : K.In s.heap) (ns : s.heap.Ns L m) (ha : s.heap.get? a = some (excRec (.ref C) t1 (some dx) .none .none (.bool false))) (hns : s.heap.Ns1 dx m0) (hw : PySem.Within m0 nl) (hz : nl.length ≤ 1000) (ms : m self = some (.ref a)) (mf : m fld = some v)
    (hno : PySem.W.findIn K (.ref C) fld = some none) (hks : scope.names.lookup self = some .local) (hkf : scope.names.lookup fld = some .local) (hk : scope.kind = .function)
    (hd1 : (self == ("__debug__" : Str)) = false) (hd2 : (fld == ("__debug__" : Str)) = false)
    (hsw : swapsWith (.Name fld pV) (some (.Attribute (.Name self pS) fld pA)) pos.line (ksEnv qual scope L f (.ref cda) cc) = pure false)
    (h : ∀ (s1 : Shared), s1.os = s.os → s1.gens = s.gens → (∀ b o, b ≠ dx → s.heap.get? b = some o → s1.heap.get? b = some o) → s1.heap.Ns1 dx (fun y => if y = fld then some v else m0 y) → Q .next s1) :
    _root_.PySem.wpAt (model prog w) A (.func body (ksEnv qual scope L f (.ref cda) cc)) (exec (.Assign [.Attribute (.Name self pS) fld pA] (.Name fld pV) pos) (ksEnv qual scope L f (.ref cda) cc)) Q E s := by
  obtain ⟨nm, q, N, bs, bm, sn, sub, ab, col, dd, k0, k1, k2, k3, k5, hC, hbm, hal⟩ := T.cls
  have hcl : clsIn K C = some { name := nm, bases := bs, mro := .ref C :: bm, ns := N, qualname := q, hasDict := true, slotNames := sn, subclasses := sub, abstract := ab, collection := col } := by unfold clsIn; rw [hC]
  obtain ⟨oD, _, _, hoD, _, _⟩ := hns.count hw
  refine ks_wpAt_Assign_Attr (wpAt_of_wpAny (wpAny_Name (wpAny_loadName_local hk hkf ns mf ?_) hd2)) hsw
  refine wpAny_Name (wpAny_loadName_local hk hks ns ms ?_) hd1
  obtain ⟨hp, g, d, t, os⟩ := s
  refine set_plain X (ox := excRec (.ref C) t1 (some dx) .none .none (.bool false)) (od := some oD) ⟨ha, rfl, rfl, hoD⟩ T.sa ?_
  exact PySem.OEX.osa_old X ha hns hw hz hcl (show PySem.HandSPX.refsVE (.ref C :: bm) = true from hbm) rfl hno fun h' tk' k hn => h _ rfl rfl k hn
end
end Z

namespace Z
open PySem PySem.W PySem.Calls PyProof.Rows L2
/-- the class's own __init__ keeps its arguments as fields -/
def InitRuns (prog : Program) (w : World) (base : Heap) (C fI : Addr) (fl : List Str) : Prop :=
  ∀ (A : Around) (s : Shared) (a t0 : Addr) (us : List Value) (R : Result → Shared → Prop), A.depth < recursionLimit → (∀ b o, base.get? b = some o → s.heap.get? b = some o) → us.length = fl.length → base.get? a = none →
    s.heap.get? a = some (excRec (.ref C) t0 none .none .none (.bool false)) →
    (∀ (s1 : Shared) (dx : Addr), s1.os = s.os → s1.gens = s.gens → (∀ b o, b ≠ a → s.heap.get? b = some o → s1.heap.get? b = some o) → s.heap.objs.size ≤ dx → dx ≠ a →
      (∃ t1, s1.heap.get? a = some (excRec (.ref C) t1 (some dx) .none .none (.bool false))) → s1.heap.Ns1 dx (fun y => (fl.zip us).reverse.lookup y) → R (.ok (.ret .none)) s1) →
    codeAny (model prog w) A (.call (.ref fI) ⟨.ref a :: us, []⟩) R s
section
variable {prog : Program} {w : World} {K : PySem.W.Frag} {C fI cc cda : Addr} {qual : Str} {scope : Scope} {mg : Str → Option Value} {base : Heap} {params : Arguments} {dV kV doc pm ct oc cl ccl : Value} {an od cdd cld : Option Addr} {osl ccs csl : Array (Option Value)} {vs : Array Value} {file : Str} {tf : Tok}
theorem lookup1 {a v : Value} {self f1 : Str} (h : (f1 == self) = false) : [(self, a), (f1, v)].reverse.lookup self = some a ∧ [(self, a), (f1, v)].reverse.lookup f1 = some v := by
  have h2 : (self == f1) = false := by
    rw [beq_eq_false_iff_ne] at h ⊢
    exact fun z => h z.symm
  constructor
  · simp [List.lookup, h2]
  · simp [List.lookup]
theorem init_one {f1 : Str} {self : Arg} {p0 p1 p2 p3 p4 pA1 pS1 pB1 pV1 pC1 : Pos} {pl : Sem Bool}
    (T : ExcK K C) (M : Mod K mg base)
    (lk : K.lookup fI = some ⟨oc, od, .func (ksFn "__init__" qual params [.Expr (.Call (.Attribute (.Call (.Name "super" p0) [] [] p1) "__init__" p2) [.Name f1 pA1] [] p3) p4, .Assign [.Attribute (.Name self.arg pS1) f1 pB1] (.Name f1 pV1) pC1] scope dV kV doc pm an (.ref cda) ct cc), osl⟩)
    (hp : (params.posonlyargs ++ params.args).head? = some self) (hcd : codeIn K (.ref cda) qual = true)
    (hb : L2.Binds K (ksFn "__init__" qual params [.Expr (.Call (.Attribute (.Call (.Name "super" p0) [] [] p1) "__init__" p2) [.Name f1 pA1] [] p3) p4, .Assign [.Attribute (.Name self.arg pS1) f1 pB1] (.Name f1 pV1) pC1] scope dV kV doc pm an (.ref cda) ct cc) [self.arg, f1] [])
    (hcode : K.lookup cda = some ⟨ccl, cdd, .fields vs, ccs⟩) (hvs : vs[2]? = some (.str file tf)) (hfile : ((prog.main.file : Str) == file) = true)
    (hcell : K.lookup cc = some ⟨cl, cld, .cell (some (.ref C)), csl⟩) (hsup : mg "super" = none)
    (hks : scope.names.lookup ("super" : Str) = some .globalImplicit) (hkc : scope.names.lookup ("__class__" : Str) = some .free) (hka : scope.names.lookup self.arg = some .local) (hkf : scope.names.lookup f1 = some .local) (hk : scope.kind = .function)
    (hnc : ∀ x ∈ scope.names, x.2 ≠ .cell) (hco : scope.isCoroutine = false) (hgen : scope.isGenerator = false)
    (hd0 : (self.arg == ("__debug__" : Str)) = false) (hd1 : (f1 == ("__debug__" : Str)) = false) (hne : (f1 == self.arg) = false)
    (htop : (prog.main.scope.names.lookup ("super" : Str)).isSome = false)
    (hno : PySem.W.findIn K (.ref C) f1 = some none)
    (hsw : ∀ L, swapsWith (.Call (.Attribute (.Call (.Name "super" p0) [] [] p1) "__init__" p2) [.Name f1 pA1] [] p3) none p4.line (ksEnv qual scope L fI (.ref cda) cc) = pure false)
    (hsw1 : ∀ L, swapsWith (.Name f1 pV1) (some (.Attribute (.Name self.arg pS1) f1 pB1)) pC1.line (ksEnv qual scope L fI (.ref cda) cc) = pure false)
    (he : ∀ L, eval (.Call (.Attribute (.Call (.Name "super" p0) [] [] p1) "__init__" p2) [.Name f1 pA1] [] p3) (ksEnv qual scope L fI (.ref cda) cc) = (do
      let ov ← attributeBase (.Call (.Name "super" p0) [] [] p1) "__init__" (ksEnv qual scope L fI (.ref cda) cc) (eval (.Call (.Name "super" p0) [] [] p1) (ksEnv qual scope L fI (.ref cda) cc))
      standAt p2.atName
      let (fx, first) ← holding [ov] (getMethod ov "__init__" pl)
      callWith p3 fx first (backTo p3 (starEach [.Name f1 pA1] (ksEnv qual scope L fI (.ref cda) cc))) []))
    (hin : ∀ L, interactive (ksEnv qual scope L fI (.ref cda) cc) = false) : InitRuns prog w base C fI [f1] := by
  intro A s a t0 us R hroom kb hl na ha h
  obtain ⟨v1, rfl⟩ : ∃ v1, us = [v1] := by
    match us, hl with
    | [v1], _ => exact ⟨v1, rfl⟩
  have X : K.In s.heap := M.kin.keeps kb
  have hbind := hb s [.ref a, v1] X rfl
  rw [List.append_nil] at hbind
  refine ks_codeAny_call_defAt hroom (X _ _ lk) rfl (M.nolimit.keeps kb) (codeRec_of X hcd) rfl hbind hnc (fun x hx => ?_) (fun h0 hns k0 => ?_) hco hgen hk
  · simp only [List.zip_cons_cons, List.mem_cons] at hx
    rcases hx with rfl | rfl | hx
    · exact hka
    · exact hkf
    · simp at hx
  obtain ⟨m1, m2⟩ := lookup1 (a := .ref a) (v := v1) hne
  refine ks_wpAt_execs_cons (super_init (us := [v1]) (m := fun x => ([self.arg, f1].zip [Value.ref a, v1]).reverse.lookup x) T M (fun b o e => k0 b o (kb b o e)) hns (k0 _ _ ha) m1 lk hp hcode hvs hfile hcell hsup hks hkc hka hk htop (by rw [sizeLine_eq]; simp)
    (fun s1 Q E hn hQ => spliced_more (wpAny_Name (wpAny_loadName_local hk hkf hn m2 (spliced_none hQ)) hd1)) (by rfl) (hsw _) (he _) (hin _) (fun s1 os1 g1 kk e1 => ?_))
  obtain ⟨t1, e1⟩ := e1
  have xL : s.heap.objs.size ≠ a := Nat.ne_of_gt (Heap.lt_size ha)
  have ns1 : s1.heap.Ns s.heap.objs.size (fun x => ([self.arg, f1].zip [Value.ref a, v1]).reverse.lookup x) := by
    obtain ⟨oL, es, ep, hL, r⟩ := hns
    exact ⟨oL, es, ep, kk _ _ xL hL, r⟩
  have X1 : K.In s1.heap := fun b o e => kk b o (fun z => by
    have e2 := M.kin _ _ e
    rw [z, na] at e2
    cases e2) (k0 _ _ (X b o e))
  refine ks_wpAt_execs_cons (store_first T X1 ns1 e1 m1 m2 hno hka hkf hk hd0 hd1 (hsw1 _) (fun s2 dx os2 g2 kk2 dn dne hx hn => ?_))
  refine wpAt_of_wpAny (wpAny_execs_nil ?_)
  have sz : s.heap.objs.size ≤ s1.heap.objs.size := by
    obtain ⟨oL, es, ep, hL, r⟩ := ns1
    exact Nat.le_of_lt (Heap.lt_size hL)
  refine h s2 dx (os2.trans os1) (g2.trans g1) (fun b o hb e => kk2 b o hb (kk b o hb (k0 b o e))) (Nat.le_trans sz dn) dne ⟨t1, hx⟩ ?_
  have e : (fun y => ([f1].zip [v1]).reverse.lookup y) = fun y => if y = f1 then some v1 else none := by
    funext y
    by_cases q : y = f1
    · simp [q, List.lookup]
    · have q2 : (y == f1) = false := by rw [beq_eq_false_iff_ne]; exact q
      simp [q, q2, List.lookup]
  rw [e]
  exact hn
theorem lookup2 {a v u : Value} {self f1 f2 : Str} (h : (f1 == self) = false) (h2 : (f2 == self) = false) (h3 : (f2 == f1) = false) :
    [(self, a), (f1, v), (f2, u)].reverse.lookup self = some a ∧ [(self, a), (f1, v), (f2, u)].reverse.lookup f1 = some v ∧ [(self, a), (f1, v), (f2, u)].reverse.lookup f2 = some u := by
  have sw : ∀ {x y : Str}, (x == y) = false → (y == x) = false := fun {x y} h => by
    rw [beq_eq_false_iff_ne] at h ⊢
    exact fun z => h z.symm
  have g := sw h
  have g2 := sw h2
  have g3 := sw h3
  refine ⟨?_, ?_, ?_⟩ <;> simp [List.lookup, g, g2, g3]
theorem init_two {f1 f2 : Str} {self : Arg} {p0 p1 p2 p3 p4 pA1 pS1 pB1 pV1 pC1 pA2 pS2 pB2 pV2 pC2 : Pos} {pl : Sem Bool}
    (T : ExcK K C) (M : Mod K mg base)
    (lk : K.lookup fI = some ⟨oc, od, .func (ksFn "__init__" qual params [.Expr (.Call (.Attribute (.Call (.Name "super" p0) [] [] p1) "__init__" p2) [.Name f1 pA1, .Name f2 pA2] [] p3) p4, .Assign [.Attribute (.Name self.arg pS1) f1 pB1] (.Name f1 pV1) pC1, .Assign [.Attribute (.Name self.arg pS2) f2 pB2] (.Name f2 pV2) pC2] scope dV kV doc pm an (.ref cda) ct cc), osl⟩)
    (hp : (params.posonlyargs ++ params.args).head? = some self) (hcd : codeIn K (.ref cda) qual = true)
    (hb : L2.Binds K (ksFn "__init__" qual params [.Expr (.Call (.Attribute (.Call (.Name "super" p0) [] [] p1) "__init__" p2) [.Name f1 pA1, .Name f2 pA2] [] p3) p4, .Assign [.Attribute (.Name self.arg pS1) f1 pB1] (.Name f1 pV1) pC1, .Assign [.Attribute (.Name self.arg pS2) f2 pB2] (.Name f2 pV2) pC2] scope dV kV doc pm an (.ref cda) ct cc) [self.arg, f1, f2] [])
    (hcode : K.lookup cda = some ⟨ccl, cdd, .fields vs, ccs⟩) (hvs : vs[2]? = some (.str file tf)) (hfile : ((prog.main.file : Str) == file) = true)
    (hcell : K.lookup cc = some ⟨cl, cld, .cell (some (.ref C)), csl⟩) (hsup : mg "super" = none)
    (hks : scope.names.lookup ("super" : Str) = some .globalImplicit) (hkc : scope.names.lookup ("__class__" : Str) = some .free) (hka : scope.names.lookup self.arg = some .local) (hkf : scope.names.lookup f1 = some .local) (hkg : scope.names.lookup f2 = some .local) (hk : scope.kind = .function)
    (hnc : ∀ x ∈ scope.names, x.2 ≠ .cell) (hco : scope.isCoroutine = false) (hgen : scope.isGenerator = false)
    (hd0 : (self.arg == ("__debug__" : Str)) = false) (hd1 : (f1 == ("__debug__" : Str)) = false) (hd2 : (f2 == ("__debug__" : Str)) = false) (hne : (f1 == self.arg) = false) (hne2 : (f2 == self.arg) = false) (hne3 : (f2 == f1) = false)
    (htop : (prog.main.scope.names.lookup ("super" : Str)).isSome = false)
    (hno : PySem.W.findIn K (.ref C) f1 = some none) (hno2 : PySem.W.findIn K (.ref C) f2 = some none)
    (hsw : ∀ L, swapsWith (.Call (.Attribute (.Call (.Name "super" p0) [] [] p1) "__init__" p2) [.Name f1 pA1, .Name f2 pA2] [] p3) none p4.line (ksEnv qual scope L fI (.ref cda) cc) = pure false)
    (hsw1 : ∀ L, swapsWith (.Name f1 pV1) (some (.Attribute (.Name self.arg pS1) f1 pB1)) pC1.line (ksEnv qual scope L fI (.ref cda) cc) = pure false)
    (hsw2 : ∀ L, swapsWith (.Name f2 pV2) (some (.Attribute (.Name self.arg pS2) f2 pB2)) pC2.line (ksEnv qual scope L fI (.ref cda) cc) = pure false)
    (he : ∀ L, eval (.Call (.Attribute (.Call (.Name "super" p0) [] [] p1) "__init__" p2) [.Name f1 pA1, .Name f2 pA2] [] p3) (ksEnv qual scope L fI (.ref cda) cc) = (do
      let ov ← attributeBase (.Call (.Name "super" p0) [] [] p1) "__init__" (ksEnv qual scope L fI (.ref cda) cc) (eval (.Call (.Name "super" p0) [] [] p1) (ksEnv qual scope L fI (.ref cda) cc))
      standAt p2.atName
      let (fx, first) ← holding [ov] (getMethod ov "__init__" pl)
      callWith p3 fx first (backTo p3 (starEach [.Name f1 pA1, .Name f2 pA2] (ksEnv qual scope L fI (.ref cda) cc))) []))
    (hin : ∀ L, interactive (ksEnv qual scope L fI (.ref cda) cc) = false) : InitRuns prog w base C fI [f1, f2] := by
  intro A s a t0 us R hroom kb hl na ha h
  obtain ⟨v1, v2, rfl⟩ : ∃ v1 v2, us = [v1, v2] := by
    match us, hl with
    | [v1, v2], _ => exact ⟨v1, v2, rfl⟩
  have X : K.In s.heap := M.kin.keeps kb
  have hbind := hb s [.ref a, v1, v2] X rfl
  rw [List.append_nil] at hbind
  refine ks_codeAny_call_defAt hroom (X _ _ lk) rfl (M.nolimit.keeps kb) (codeRec_of X hcd) rfl hbind hnc (fun x hx => ?_) (fun h0 hns k0 => ?_) hco hgen hk
  · simp only [List.zip_cons_cons, List.mem_cons] at hx
    rcases hx with rfl | rfl | rfl | hx
    · exact hka
    · exact hkf
    · exact hkg
    · simp at hx
  obtain ⟨m1, m2, m3⟩ := lookup2 (a := .ref a) (v := v1) (u := v2) hne hne2 hne3
  refine ks_wpAt_execs_cons (super_init (us := [v1, v2]) (m := fun x => ([self.arg, f1, f2].zip [Value.ref a, v1, v2]).reverse.lookup x) T M (fun b o e => k0 b o (kb b o e)) hns (k0 _ _ ha) m1 lk hp hcode hvs hfile hcell hsup hks hkc hka hk htop (by rw [sizeLine_eq]; simp)
    (fun s1 Q E hn hQ => spliced_more (wpAny_Name (wpAny_loadName_local hk hkf hn m2 (spliced_more (wpAny_Name (wpAny_loadName_local hk hkg hn m3 (spliced_none hQ)) hd2))) hd1)) (by rfl) (hsw _) (he _) (hin _) (fun s1 os1 g1 kk e1 => ?_))
  obtain ⟨t1, e1⟩ := e1
  have xL : s.heap.objs.size ≠ a := Nat.ne_of_gt (Heap.lt_size ha)
  have ns1 : s1.heap.Ns s.heap.objs.size (fun x => ([self.arg, f1, f2].zip [Value.ref a, v1, v2]).reverse.lookup x) := by
    obtain ⟨oL, es, ep, hL, r⟩ := hns
    exact ⟨oL, es, ep, kk _ _ xL hL, r⟩
  have X1 : K.In s1.heap := fun b o e => kk b o (fun z => by
    have e2 := M.kin _ _ e
    rw [z, na] at e2
    cases e2) (k0 _ _ (X b o e))
  refine ks_wpAt_execs_cons (store_first T X1 ns1 e1 m1 m2 hno hka hkf hk hd0 hd1 (hsw1 _) (fun s2 dx os2 g2 kk2 dn dne hx hn => ?_))
  have sz : s.heap.objs.size ≤ s1.heap.objs.size := by
    obtain ⟨oL, es, ep, hL, r⟩ := ns1
    exact Nat.le_of_lt (Heap.lt_size hL)
  have Ldx : s.heap.objs.size ≠ dx := fun z => by
    obtain ⟨oL, es, ep, hL, r⟩ := ns1
    have q := Nat.lt_of_lt_of_le (Heap.lt_size hL) dn
    rw [z] at q
    exact Nat.lt_irrefl _ q
  have ns2 : s2.heap.Ns s.heap.objs.size (fun x => ([self.arg, f1, f2].zip [Value.ref a, v1, v2]).reverse.lookup x) := by
    obtain ⟨oL, es, ep, hL, r⟩ := ns1
    exact ⟨oL, es, ep, kk2 _ _ xL hL, r⟩
  have X2 : K.In s2.heap := fun b o e => kk2 b o (fun z => by
    have e2 := M.kin _ _ e
    rw [z, na] at e2
    cases e2) (X1 b o e)
  refine ks_wpAt_execs_cons (store_more T X2 ns2 hx hn (nl := [f1]) (fun y hy => by
    by_cases q : y = f1
    · simp [q]
    · exact absurd (if_neg q) hy) (by simp) m1 m3 hno2 hka hkg hk hd0 hd2 (hsw2 _) (fun s3 os3 g3 kk3 hn3 => ?_))
  refine wpAt_of_wpAny (wpAny_execs_nil ?_)
  refine h s3 dx (os3.trans (os2.trans os1)) (g3.trans (g2.trans g1)) (fun b o hb e => kk3 b o (fun z => ?_) (kk2 b o hb (kk b o hb (k0 b o e)))) (Nat.le_trans sz dn) dne ⟨t1, kk3 _ _ (Ne.symm dne) hx⟩ ?_
  · have q := Nat.lt_of_lt_of_le (Heap.lt_size e) (Nat.le_trans sz dn)
    rw [z] at q
    exact Nat.lt_irrefl _ q
  have e : (fun y => ([f1, f2].zip [v1, v2]).reverse.lookup y) = fun y => if y = f2 then some v2 else if y = f1 then some v1 else none := by
    funext y
    by_cases q : y = f2
    · simp [q, List.lookup]
    · have q2 : (y == f2) = false := by rw [beq_eq_false_iff_ne]; exact q
      by_cases q3 : y = f1
      · have q4 : (f1 == f2) = false := by rw [← q3]; exact q2
        have q5 : ¬ f1 = f2 := fun z => q (q3.trans z)
        simp [q3, q4, q5, List.lookup]
      · have q4 : (y == f1) = false := by rw [beq_eq_false_iff_ne]; exact q3
        simp [q, q2, q3, q4, List.lookup]
  rw [e]
  exact hn3
end
end Z

namespace Z
open PySem PySem.W PySem.Calls PyProof.Rows L2
structure ExcD (P : Program) (w : World) (K : PySem.W.Frag) (mg : Str → Option Value) (C fI : Addr) (fl : List Str) : Prop where
  k : ExcK K C
  ex : PySem.W.subIn K (.ref C) (.type "BaseException") = some true
  ty : PySem.W.typeIn K (.ref C) = some (.type "type")
  kp : PySem.W.keepIn K (.ref C) = true
  ini : PySem.W.findIn K (.ref C) "__init__" = some (some (.ref fI))
  fn : PySem.W.typeIn K (.ref fI) = some (.type "function")
  run : ∀ base, Mod K mg base → InitRuns P w base C fI fl
abbrev ExcC (X : Cx) (C fI : Addr) (fl : List Str) : Prop := ExcD X.prog X.w X.K X.mg C fI fl
/-- C(e, ..) -/
def tMkX (C : Addr) (fl : List Str) (ta : TA) : L2.St → Hp → XK → Prop := fun σ H Q => ta σ H fun vs H1 => vs.length = fl.length ∧ ∀ d, H1 d = none → Q (.ref C) (some d) (upd H1 d (.xd (fl.zip vs).reverse))
theorem relO_pair : ∀ (fl : List Str) {vs : List V} {us : List Value}, Vals vs us → KV (fl.zip vs) (fl.zip us)
  | [], _, _, _ => .nil
  | f :: fl, _, _, .nil => by simp; exact .nil
  | f :: fl, _, _, .cons r t => .cons ⟨rfl, r⟩ (relO_pair fl t)
theorem kv_rev {l1 : List (Str × V)} {l2 : List (Str × Value)} (r : KV l1 l2) : KV l1.reverse l2.reverse := by
  induction r with
  | nil => exact .nil
  | cons h t ih =>
    rw [List.reverse_cons, List.reverse_cons]
    exact Paired.snoc ih h
theorem kv_look {l1 : List (Str × V)} {l2 : List (Str × Value)} (r : KV l1 l2) (f : Str) : RelO (l1.lookup f) (l2.lookup f) := by
  induction r with
  | nil => exact True.intro
  | @cons p q _ _ h t ih =>
    obtain ⟨p1, p2⟩ := p
    obtain ⟨q1, q2⟩ := q
    obtain ⟨rfl, h2⟩ := h
    simp only [List.lookup]
    cases f == p1 with
    | true => exact h2
    | false => exact ih
theorem relO_rev {l1 : List (Str × V)} {l2 : List (Str × Value)} (r : KV l1 l2) (f : Str) : RelO (l1.reverse.lookup f) (l2.reverse.lookup f) := kv_look (kv_rev r) f
theorem relO_zip : ∀ {fl : List Str} {vs : List V} {us : List Value}, Vals vs us → ∀ f, RelO ((fl.zip vs).reverse.lookup f) ((fl.zip us).reverse.lookup f) := fun {fl vs us} r f => relO_rev (relO_pair fl r) f
theorem pmk_exc {X : Cx} {k : Nat} {C fI : Addr} {fl : List Str} {x : Str} {p pos : Pos} {e : Expr} {es : List Expr} {ta : TA} (T : ExcC X C fI fl) (hr : Room k X.A) (hg : Gl X x) (hm : X.mg x = some (.ref C)) (ha : PA X (e :: es) ta) (hfl : fl.length ≤ 100)
    (hdb : (x == ("__debug__" : Str)) = false := by decide) (he : starEach (e :: es) X.env = (false, eval e X.env) :: starEach es X.env := by rfl) (hpl : (backTo pos (starEach es X.env)).any (·.1) = false := by rfl) :
    L2N.PMk X (.Call (.Name x p) (e :: es) [] pos) (tMkX C fl ta) := by
  intro pins s σ H Q I h
  obtain ⟨nm, q, N, bs, bm, sn, sub, ab, col, dd, k0, k1, k2, k3, k5, hC, hbm, hal⟩ := T.k.cls
  refine wpAny_Call_Name_kw (ld_glob I hg hm ?_ hdb)
  refine PySem.W.callWith_K (h₀ := X.base) I.ok.mod.kin T.kp (thn (ha.run pos pins s σ H _ I h) fun us s1 ⟨vs, H1, I1, r1, hz, q1⟩ => ⟨I1.kIn, ?_⟩) he hpl
  show wpAny _ _ (call (.ref C) us) _ _ _
  have hl : us.length = fl.length := by rw [← r1.length]; exact hz
  have bsz : X.base.objs.size ≤ s1.heap.objs.size := Nat.le_trans I1.ok.bsz I1.sz
  have kb : ∀ b o, X.base.get? b = some o → s1.heap.get? b = some o := fun b o z => (I1.bs b o z).1
  obtain ⟨hp, g, dr, tk, os⟩ := s1
  have kk : ∀ b o, hp.get? b = some o → ((hp.push (PySem.W.kdv_tup us)).push (PySem.HandSPX.excO C hp.objs.size)).get? b = some o := fun b o e => Heap.get?_push_of_some _ (Heap.get?_push_of_some _ e)
  have hget : ((hp.push (PySem.W.kdv_tup us)).push (PySem.HandSPX.excO C hp.objs.size)).get? (hp.objs.size + 1) = some (PySem.HandSPX.excO C hp.objs.size) := by heap_get
  have nb : X.base.get? (hp.objs.size + 1) = none := by
    cases z : X.base.get? (hp.objs.size + 1) with
    | none => rfl
    | some o => exact absurd (Heap.lt_size (kb _ _ z)) (by show ¬ hp.objs.size + 1 < hp.objs.size; omega)
  have hroom : (X.A.under (.builtin "type.__call__" ⟨.ref C :: us, []⟩)).depth < recursionLimit := by
    have := hr.dp
    rw [make_depth]
    omega
  refine wpAny_call (PySem.HandSPX.call_own PySem.F.excBase_ValueError (fun Y => PySem.HandSPX.refsVE_contains Y bm hbm) (I1.kIn _ _ hC) (PySem.W.looks_findIn I1.kIn T.ini) (fun self => PySem.W.bind_fn I1.kIn self T.fn) (by rw [hl, sizeLine_eq]; omega)
    (T.run _ I1.ok.mod _ _ (hp.objs.size + 1) hp.objs.size us _ hroom (fun b o z => kk b o (kb b o z)) hl nb hget (fun s2 dx os2 g2 k dn dne ⟨t1, hx⟩ hn => ?_)))
  have hsz : hp.objs.size ≤ dx := Nat.le_trans (by rw [Heap.size_push, Heap.size_push]; omega) dn
  have hnd : H1 dx = none := I1.hok.fresh hsz
  obtain ⟨G, g1', g2'⟩ := restrict s2.heap fun b => decide (b ≠ hp.objs.size + 1)
  have gk : ∀ b, b ≠ hp.objs.size + 1 → G.get? b = s2.heap.get? b := fun b hb => g1' b (decide_eq_true hb)
  have ge : G.get? (hp.objs.size + 1) = none := g2' _ (by simp)
  have ol : ∀ b o, hp.get? b = some o → b ≠ hp.objs.size + 1 := fun b o z => Nat.ne_of_lt (Nat.lt_succ_of_lt (Heap.lt_size z))
  have J : Inv X pins σ (upd H1 dx (.xd (fl.zip vs).reverse)) ⟨G, g, dr, tk, os⟩ := I1.laid (t' := tk) (h' := G) (a := dx) (o := .xd (fl.zip vs).reverse)
    (fun b o z => (gk b (ol b o z)).trans (k b o (ol b o z) (kk b o z))) hsz ⟨_, hn.at fun o z => (gk dx dne).trans z, relO_zip r1⟩
  obtain ⟨h2, gg2, d2, t2, os'⟩ := s2
  obtain rfl : os' = os := os2
  obtain rfl : gg2 = g := g2
  refine ⟨rfl, ⟨hp.objs.size + 1, _, _, ⟨G, gg2, dr, tk, os'⟩, _, .ref C, some dx, rfl, J, fun b o z => ?_, ge, hx, ⟨rfl, rfl, fun vs e => by cases e; rfl⟩, rfl, rfl, ?_, rfl, I1.bare, raises_own T.ex T.ty, q1 dx hnd⟩⟩
  · by_cases hb : b = hp.objs.size + 1
    · rw [hb, ge] at z; cases z
    · exact (gk b hb).symm.trans z
  · rw [upd_ne (Ne.symm dne)]
    exact I1.hok.fresh (Nat.le_succ _)
end Z

namespace Z
open PySem PySem.Spec L2
variable [TabList]
/-- how an own error lies: its class by number, its fields -/
def xrT (K : PySem.W.Frag) (tb : List (Addr × List Str)) : XR := fun x c d H => ∃ Ca fl dx vs, tb[x.cls]? = some (Ca, fl) ∧ c = .ref Ca ∧ d = some dx ∧ H dx = some (.xd (fl.zip vs).reverse) ∧ Rels K H x.args vs No ∧ imms x.args = true ∧ vs.length = fl.length
section
variable {X : Cx} {tb : List (Addr × List Str)} {W : WX} {C : Ctx}
theorem q_raise {c n k : Nat} {es : Es} {x : Str} {Ca fI : Addr} {fl : List Str} {e : Expr} {el : List Expr} {p pos pos2 : PySem.Pos} (hc : X.calm = true) (tk : L2N.Takes X W) (T : ExcC X Ca fI fl) (hr : Room k X.A) (hg : Gl X x) (hm : X.mg x = some (.ref Ca)) (ht : tb[c]? = some (Ca, fl)) (hn : fl.length = n) (h100 : fl.length ≤ 100)
    (ha : PA X (e :: el) (tO X.K (xrT X.K tb) W C es)) (hdb : (x == ("__debug__" : Str)) = false) (he : starEach (e :: el) X.env = (false, eval e X.env) :: starEach el X.env) (hpl : (backTo pos (starEach el X.env)).any (·.1) = false) :
    PS X (.Raise (some (.Call (.Name x p) (e :: el) [] pos)) none pos2) (tS X.K (xrT X.K tb) W C (.rse c n es)) :=
  PS.of fun D σ H ⟨env, P, hE, h⟩ => ⟨_, L2N.ps_raise hc tk (pmk_exc T hr hg hm ha h100 hdb he hpl), by
    simp only [evS] at h
    refine ⟨env, P, hE, ?_⟩
    cases q : evOs C es env with
    | bad => rw [q] at h; exact h.elim
    | exc y e1 =>
      rw [q] at h
      exact fun c dd H' P1 r rr n e => h c dd σ H' P1 r rr n e Kp.refl
    | ok ds e1 =>
      rw [q] at h
      intro vs H' P1 P2 rE rd dj n2 n1 ev
      simp only [Res.thn] at h
      split at h
      · rename_i hi
        have hl : vs.length = fl.length := by rw [← rd.length, hi.1, hn]
        refine ⟨hl, fun d hd => ?_⟩
        have rd0 : Rels X.K H' ds vs No := Rels.imm hi.2 rd
        have ev2 : Ev No H' (upd H' d (.xd (fl.zip vs).reverse)) := Ev.laid hd
        exact h (.ref Ca) (some d) σ _ P1 (rE.frame ev2 (fun _ _ z => z.elim)) ⟨Ca, fl, d, vs, ht, rfl, rfl, upd_same, rd0.frame ev2 (fun _ z => z.elim), hi.2, hl⟩ n1 (ev.eo.trans ev2.of_no n1) Kp.refl
      · exact h.elim⟩
end
end Z

namespace Z
open PySem PySem.Spec L2
variable [TabList]
/-- a constant as a value of the layer -/
def cV : D → Option V
  | .non => some .non
  | .bl b => some (.bl b)
  | .int i => some (.int i)
  | .str s => some (.str s)
  | _ => none
def HVl (vs : List V) : HE → V → Prop
  | .cst d, v => cV d = some v
  | .fld j, v => vs[j]? = some v
def HVs (vs : List V) : List HE → List V → Prop
  | [], us => us = []
  | p :: ps, us => ∃ v us', us = v :: us' ∧ HVl vs p v ∧ HVs vs ps us'
/-- the caught error in slot i, its fields in dd -/
def Fx (i : Nat) (a dd : Addr) (fl : List Str) (vs : List V) (σ : L2.St) (H : Hp) : Prop := σ[i]? = some (some (.ref a)) ∧ H dd = some (.xd (fl.zip vs).reverse) ∧ vs.length = fl.length
def tHp (i : Nat) (a dd : Addr) (fl : List Str) (vs : List V) (p : HE) : TE := fun σ H Q => Fx i a dd fl vs σ H ∧ ∀ v, HVl vs p v → Q v H
def tHps (i : Nat) (a dd : Addr) (fl : List Str) (vs : List V) (ps : List HE) : TA := fun σ H Q => Fx i a dd fl vs σ H ∧ ∀ us, HVs vs ps us → Q us H
theorem look_one {f : Str} {vs : List V} {v : V} (hl : vs.length = 1) (h : vs[0]? = some v) : ([f].zip vs).reverse.lookup f = some v := by
  match vs, hl with
  | [u], _ => simp at h; subst h; simp [List.lookup]
theorem look_two {f g : Str} {vs : List V} (hfg : (f == g) = false) (hl : vs.length = 2) : (∀ v, vs[0]? = some v → ([f, g].zip vs).reverse.lookup f = some v) ∧ ∀ v, vs[1]? = some v → ([f, g].zip vs).reverse.lookup g = some v := by
  match vs, hl with
  | [u, w], _ =>
    constructor
    · intro v h
      simp at h; subst h
      simp [List.lookup, hfg]
    · intro v h
      simp at h; subst h
      simp [List.lookup]
section
variable {X : Cx} {i : Nat} {a dd : Addr} {fl : List Str} {vs : List V} {e : Expr} {el : List Expr} {p : HE} {ps : List HE} {pos : PySem.Pos}
theorem hp_str {x : Str} {j} : PE X (.Constant (.str x) j pos) (tHp i a dd fl vs (.cst (.str x))) := PE.of fun σ H Q ⟨_, h⟩ => ⟨_, pe_str, h _ rfl⟩
theorem hp_int {x : Int} {j} : PE X (.Constant (.int x) j pos) (tHp i a dd fl vs (.cst (.int x))) := PE.of fun σ H Q ⟨_, h⟩ => ⟨_, pe_int, h _ rfl⟩
theorem hp_bl {x : Bool} {j} : PE X (.Constant (.bool x) j pos) (tHp i a dd fl vs (.cst (.bl x))) := PE.of fun σ H Q ⟨_, h⟩ => ⟨_, pe_bl, h _ rfl⟩
theorem hp_non {j} : PE X (.Constant .none j pos) (tHp i a dd fl vs (.cst .non)) := PE.of fun σ H Q ⟨_, h⟩ => ⟨_, pe_non, h _ rfl⟩
theorem hp_fld {Ca : Addr} {oe : Obj} {pn : List (Addr × Obj)} {n f : Str} {j : Nat} {np : PySem.Pos} (T : XfC X.K Ca) (hno : PySem.W.findIn X.K (.ref Ca) f = some none) (hz : L2N.Zn (.ref Ca) (some dd) oe) (hf : ∃ vs, oe.data = .fields vs)
    (hN : X.N[i]? = some n) (hv : Vis X.env.scope n) (hd : (n == ("__debug__" : Str)) = false) (hcd : (n == ("__classdict__" : Str)) = false) (hb : attributeBase (.Name n np) f X.env (eval (.Name n np) X.env) = eval (.Name n np) X.env)
    (hj : ∃ v, vs[j]? = some v) (hlk : ∀ v, vs[j]? = some v → (fl.zip vs).reverse.lookup f = some v) :
    PE (X.suite a ((a, oe) :: pn)) (.Attribute (.Name n np) f pos) (tHp i a dd fl vs (.fld j)) :=
  PE.of fun σ H Q ⟨⟨h1, h2, h3⟩, h⟩ => ⟨_, pe_xf T hno hz.zc hf (pe_var (X := X.suite a ((a, oe) :: pn)) hN hv hd hcd) hb, by
    obtain ⟨v, hj⟩ := hj
    exact ⟨.ref a, h1, rfl, rfl, dd, _, v, rfl, h2, hlk v hj, h v hj⟩⟩
theorem hps_nil : PA X [] (tHps i a dd fl vs []) := PA.of fun σ H Q ⟨_, h⟩ => ⟨_, pa_nil, h _ rfl⟩
theorem hps_cons (he : PE X e (tHp i a dd fl vs p)) (hr : PA X el (tHps i a dd fl vs ps)) (hs : starEach (e :: el) X.env = (false, eval e X.env) :: starEach el X.env) : PA X (e :: el) (tHps i a dd fl vs (p :: ps)) :=
  PA.of fun σ H Q ⟨fx, h⟩ => ⟨_, pa_cons he hr hs, fx, fun v hv => ⟨fx, fun us hu => h _ ⟨v, us, rfl, hv, hu⟩⟩⟩
def SlV (σ : L2.St) : List Nat → List V → Prop
  | [], ys => ys = []
  | w :: ws, ys => ∃ v ys', ys = v :: ys' ∧ σ[w]? = some (some v) ∧ SlV σ ws ys'
/-- the suite's reading -/
def tHR (cs : Nat → L2.Sp) (i : Nat) (a dd : Addr) (fl : List Str) (vs : List V) (r : HR) : TS := fun D σ H => Fx i a dd fl vs σ H ∧ match r with
  | .one p => ∀ v, HVl vs p v → D.rt v H
  | .tup ps => ps.length ≤ 1000 ∧ ∀ us q, HVs vs ps us → H q = none → D.rt (.ref q) (upd H q (.tup us))
  | .asg x p => ∀ v, HVl vs p v → D.nx (σ.set x (some v)) H
  | .call f ps ws => ps.length ≤ 1000 ∧ ∃ ys, SlV σ ws ys ∧ ∀ us q, HVs vs ps us → H q = none → cs f (.ref q :: ys) (upd H q (.tup us)) (fun v H2 => D.rt v H2) (fun _ _ _ => False)
theorem pvs_len : ∀ {ps : List HE} {us : List V}, HVs vs ps us → us.length = ps.length
  | [], us, h => by obtain rfl : us = [] := h; rfl
  | p :: ps, us, ⟨v, us', e, _, h⟩ => by subst e; simp [pvs_len h]
theorem h_asg {cs : Nat → L2.Sp} {x : Nat} {y : Str} {py spos : PySem.Pos} (he : PE X e (tHp i a dd fl vs p)) (hg : PG X (.Name y py) (gName x)) (hs : swapsWithSole [.Name y py] e spos.line X.env = pure false) (hw : swappedStores [.Name y py] e X.env = pure none) (h1 : (assignEach [.Name y py] X.env).map (·.2) = [assign (.Name y py) X.env]) :
    PSs X [.Assign [.Name y py] e spos] (tHR cs i a dd fl vs (.asg x p)) :=
  PSs.of fun D σ H ⟨fx, h⟩ => ⟨_, pss_cons (ps_asg he hg hs hw h1) pss_nil, fx, fun v hv => h v hv⟩
theorem h_one {cs : Nat → L2.Sp} {pos2 : PySem.Pos} (he : PE X e (tHp i a dd fl vs p)) : PSs X [.Return (some e) pos2] (tHR cs i a dd fl vs (.one p)) :=
  PSs.of fun D σ H ⟨fx, h⟩ => ⟨_, pss_cons (ps_ret he) pss_nil, fx, fun v hv => h v hv⟩
theorem h_tup {cs : Nat → L2.Sp} {x1} {pos2 : PySem.Pos} (ha : PA X el (tHps i a dd fl vs ps)) : PSs X [.Return (some (.Tuple el x1 pos)) pos2] (tHR cs i a dd fl vs (.tup ps)) :=
  PSs.of fun D σ H ⟨fx, hl, h⟩ => ⟨_, pss_cons (ps_ret (pe_tup ha)) pss_nil, fx, fun us hu => ⟨by rw [pvs_len hu, sizeLine_eq]; omega, fun q hq => h us q hu hq⟩⟩
end
end Z

namespace Z
open PySem PySem.Spec L2
variable [TabList]
def hrSmall : HR → Bool
  | .tup ps => decide (ps.length ≤ 1000)
  | .call _ ps _ => decide (ps.length ≤ 1000)
  | _ => true
section
variable {K : PySem.W.Frag} {H H' : Hp} {P : Own}
theorem rel_cV {d : D} {v : V} (h : cV d = some v) : Rel K H d v No := by
  cases d <;> simp only [cV, reduceCtorEq, Option.some.injEq] at h <;> (subst h; rfl)
theorem rel_he {p : HE} {xs : List D} {vs : List V} {d : D} {v : V} (r : Rels K H xs vs No) (h : heOut xs p = some d) (hv : HVl vs p v) : Rel K H d v No := by
  cases p with
  | cst d0 =>
    simp only [heOut, Option.some.injEq] at h
    subst h
    exact rel_cV hv
  | fld j =>
    obtain ⟨P1, q⟩ := Rels.at r h hv
    obtain ⟨v2, P2, e, s, q2⟩ := r.get h
    have e3 : vs[j]? = some v := hv
    rw [e] at e3
    cases e3
    exact q2.mono s
theorem rels_hes : ∀ {ps : List HE} {xs : List D} {vs us : List V} {ds : List D}, Rels K H xs vs No → hesOut xs ps = some ds → HVs vs ps us → Rels K H ds us No
  | [], _, _, us, ds, _, h, hv => by
    simp only [hesOut, Option.some.injEq] at h
    subst h
    exact hv
  | p :: ps, _, _, us, ds, r, h, ⟨v, us', e, hv, hs⟩ => by
    simp only [hesOut, Option.bind_eq_some_iff, Option.map_eq_some_iff] at h
    obtain ⟨d, h1, ds', h2, rfl⟩ := h
    subst e
    exact ⟨v, us', No, No, rfl, Sep.nl, rel_he r h1 hv, rels_hes r h2 hs⟩
end
theorem slots_rel {K : PySem.W.Frag} {H : Hp} {P : Own} {e : Env} {σ : L2.St} (rE : RelE K H e σ P) : ∀ {ws : List Nat} {ds : List Z.D}, slotsV e ws = some ds → imms ds = true → ∃ ys, SlV σ ws ys ∧ Rels K H ds ys No
  | [], ds, h, _ => by
    simp only [slotsV, Option.some.injEq] at h
    subst h
    exact ⟨[], rfl, rfl⟩
  | w :: ws, ds, h, hi => by
    simp only [slotsV] at h
    split at h
    rotate_left
    · cases h
    rename_i d hd
    simp only [Option.map_eq_some_iff] at h
    obtain ⟨ds', h1, rfl⟩ := h
    simp only [imms, Bool.and_eq_true] at hi
    obtain ⟨ys, s, r⟩ := slots_rel rE h1 hi.2
    obtain ⟨v, P1, P2, e1, _, rd, _⟩ := rE.get hd
    exact ⟨v :: ys, ⟨v, ys, rfl, e1, s⟩, Rels.cons Sep.nl (Rel.imm hi.1 rd) r⟩
theorem SlV.set {σ : L2.St} {i : Nat} {x} : ∀ {ws : List Nat} {ys : List V}, i ∉ ws → SlV σ ws ys → SlV (σ.set i x) ws ys
  | [], _, _, h => h
  | w :: ws, ys, hn, ⟨v, ys', e, h1, h2⟩ => by
    simp only [List.mem_cons, not_or] at hn
    exact ⟨v, ys', e, by rw [List.getElem?_set_ne hn.1]; exact h1, SlV.set hn.2 h2⟩
section
variable {X : Cx} {tb : List (Addr × List Str)} {W : WX} {C : Ctx} {D : Ends} {P P1 : Own} {σ σ' : L2.St} {H H' : Hp}
/-- the suite's wish, from what the evaluator tells -/
theorem tHR_of {i : Nat} {a dx : Addr} {fl : List Str} {vs : List V} {r : HR} {xs : List Z.D} {d : Z.D} {e1 : Env} {D' : Ends} (hrt : D'.rt = D.rt) (hnx : ∀ τ J, D'.nx τ J = D.nx (τ.set i none) J) (rE : RelE X.K H' e1 σ' P1) (n1 : New P H P1) (ev : Ev P H H') (k1 : Kp C.kp σ σ') (hi : i < e1.length)
    (hHd : H' dx = some (.xd (fl.zip vs).reverse)) (rds : Rels X.K H' xs vs No) (hl : vs.length = fl.length) (ho : hrOut xs r = some d) (h1000 : hrSmall r = true)
    (h : PostS X.K (xrT X.K tb) W C.kp P σ H (hrEnd C i d e1 r) D) : tHR (fun f => spF X.K (xrT X.K tb) (C.call f)) i a dx fl vs r D' (σ'.set i (some (.ref a))) H' := by
  have hl2 := rE.length
  refine ⟨⟨by rw [List.getElem?_set_self (by omega)], hHd, hl⟩, ?_⟩
  cases r with
  | one p =>
    intro v hv
    rw [hrt]
    exact h v σ' H' P1 No rE (rel_he rds ho hv) (fun _ _ z => z) (fun _ z => z.elim) n1 ev k1
  | tup ps =>
    refine ⟨of_decide_eq_true h1000, fun us q hu hq => ?_⟩
    simp only [hrOut, Option.map_eq_some_iff] at ho
    obtain ⟨ds, ho2, rfl⟩ := ho
    rw [hrt]
    have ev2 : Ev No H' (upd H' q (.tup us)) := Ev.laid hq
    exact h (.ref q) σ' _ P1 No (rE.frame ev2 (fun _ _ z => z.elim)) ⟨q, us, rfl, .inl (.inl upd_same), (rels_hes rds ho2 hu).frame ev2 (fun _ z => z.elim)⟩ (fun _ _ z => z) (fun _ z => z.elim) n1 (ev.trans ev2.of_no n1) k1
  | call f ps ws =>
    simp only [hrOut, Option.map_eq_some_iff] at ho
    obtain ⟨xd, ho2, rfl⟩ := ho
    simp only [hrEnd] at h
    split at h
    · exact h.elim
    rename_i hw
    cases hs : slotsV e1 ws with
    | none => rw [hs] at h; exact h.elim
    | some ds =>
      rw [hs] at h
      simp only [] at h
      split at h
      rotate_left
      · exact h.elim
      rename_i hi
      have hi2 : imms ds = true := by simp only [imms, Bool.and_eq_true] at hi; exact hi.2
      obtain ⟨ys, sl, rds2⟩ := slots_rel rE hs hi2
      refine ⟨of_decide_eq_true h1000, ys, sl.set (by simpa using hw), fun us q hu hq => ?_⟩
      have ev2 : Ev No H' (upd H' q (.tup us)) := Ev.laid hq
      have rE2 := rE.frame ev2 (fun _ _ z => z.elim)
      refine ⟨rE2.tabs, .tup xd :: ds, No, Rels.cons Sep.nl ⟨q, us, rfl, .inl (.inl upd_same), (rels_hes rds ho2 hu).frame ev2 (fun _ z => z.elim)⟩ (rds2.frame ev2 (fun _ z => z.elim)), ?_⟩
      cases hc : C.call f (.tup xd :: ds) with
      | bad => rw [hc] at h; exact h.elim
      | exc x fin => rw [hc] at h; exact h.elim
      | ok r2 fin =>
        rw [hc] at h
        intro v H2 P3 P4 rf rd d34 n3 n4 ev3
        rw [hrt]
        have ev4 : Ev No H' H2 := ev2.trans ev3 (fun _ z => z.elim)
        have none2 : ∀ x, P4 x → H' x = none := fun x z => (n4 x z).elim (fun y => y.elim) fun y => by
          cases qq : H' x with
          | none => rfl
          | some o => exact absurd y (ev2.dom x (by rw [qq]; exact fun z => nomatch z))
        refine h v σ' H2 (Tt H' P1) P4 (rE.tight.frame ev4 (fun _ _ z => z.elim)) rd (fun x z y => z.2 (none2 x y)) (fun x z => .inr ?_) (fun x z => n1 x z.1) (ev.trans ev4.of_no n1) k1
        cases qq : H x with
        | none => rfl
        | some o => exact absurd (none2 x z) (ev.dom x (by rw [qq]; exact fun z => nomatch z))
  | asg x p =>
    intro v hv
    rw [hnx]
    simp only [hrEnd] at h
    split at h
    · exact h.elim
    rename_i hk
    simp only [Bool.or_eq_true, Bool.not_eq_true', decide_eq_false_iff_not, not_or, Bool.not_eq_true, Decidable.not_not] at hk
    refine h _ H' P1 ?_ n1 ev ((k1.trans (Kp.set hk.1.2)).trans ((Kp.set hk.1.1).trans (Kp.set hk.1.2)))
    have r2 : RelE X.K H' (e1.set i none) (σ'.set i (some (.ref a))) P1 := rE.drop
    exact (r2.store (P := P1) (P1 := No) (by rw [List.length_set]; exact hk.2) Sep.nl (rel_he rds ho hv)).drop
end
end Z

namespace Z
open PySem PySem.W PySem.Calls PyProof.Rows L2
/-- an own error's class: its name, its fields, its __init__ -/
structure XcD where
  x : Str
  fl : List Str
  qual : Str
  params : Arguments
  body : List Stmt
  scope : Scope
abbrev IniV : Type := Option (Str × Str × Arguments × FuncBody × Scope × Addr × List Str × Addr)
def iniA (K : Frag) (x : Str) : Addr := He.ma K (He.ga K x) "__init__"
def iniV (K : Frag) (x : Str) : IniV := match K.lookup (iniA K x) with
  | some ⟨_, _, .func fd, _⟩ => some (fd.name, fd.qualname, fd.params, fd.body, fd.scope, fd.globals, fd.closure.map (·.1), fd.builtins)
  | _ => none
def XcD.val (d : XcD) : IniV := some ("__init__", d.qual, d.params, .stmts d.body, d.scope, mainGlobals, ["__class__"], builtinsNs)
def clsVE (K : Frag) (C : Addr) : Bool := match K.lookup C with
  | some ⟨.type t, _, .cls cd, sl⟩ => (match cd.mro, sl.toList with
    | .ref C' :: bm, [_, _, _, _, some (.builtin n), _] => decide (C' = C) && (decide (t = "type") && (decide (n = "ValueError.__new__") && (cd.hasDict && (!cd.hasDel && (PySem.HandSPX.refsVE bm && He.eqO (alongIn K "__init__" bm) (some (some (.builtin "ValueError.__init__"))))))))
    | _, _ => false)
  | _ => false
def cdB (K : Frag) (file : Str) : Value → Bool
  | .ref c => (match K.lookup c with
    | some ⟨_, _, .fields vs, _⟩ => (match (vs[2]? : Option Value) with
      | some (.str f _) => decide (f = file)
      | _ => false)
    | _ => false)
  | _ => false
def clB (K : Frag) (C : Addr) : List (Str × Addr) → Bool
  | [(_, cc)] => (match K.lookup cc with
    | some ⟨_, _, .cell (some (.ref D)), _⟩ => decide (D = C)
    | _ => false)
  | _ => false
def noB : Value → Bool
  | .none => true
  | _ => false
theorem noB_ok {v : Value} (h : noB v = true) : v = .none := by cases v <;> first | rfl | cases h
def iniB (K : Frag) (file : Str) (C f : Addr) (q : Str) : Bool := match K.lookup f with
  | some ⟨_, _, .func fd, _⟩ => noB fd.defaults && (codeIn K fd.code q && (cdB K file fd.code && clB K C fd.closure))
  | _ => false
def xcB (file : Str) (K : Frag) (d : XcD) : Bool := clsVE K (He.ga K d.x) && (iniB K file (He.ga K d.x) (iniA K d.x) d.qual && (He.eqO (findIn K (.ref (He.ga K d.x)) "__setattr__") (some (some (.builtin "object.__setattr__"))) &&
  (decide (mroIn K (He.ga K d.x) (.ref (He.ga K d.x)) = some true) && (decide (subIn K (.ref (He.ga K d.x)) (.type "ValueError") = some true) && (He.eqO (nsIn K PySem.cStatics "thirdparty.any") (some none) &&
  (decide (subIn K (.ref (He.ga K d.x)) (.type "BaseException") = some true) && (decide (typeIn K (.ref (He.ga K d.x)) = some (.type "type")) && (keepIn K (.ref (He.ga K d.x)) && (He.eqO (findIn K (.ref (He.ga K d.x)) "__init__") (some (some (.ref (iniA K d.x)))) &&
  (decide (typeIn K (.ref (iniA K d.x)) = some (.type "function")) && (L2.xfB K (He.ga K d.x) && d.fl.all fun f => He.eqO (findIn K (.ref (He.ga K d.x)) f) (some none))))))))))))
theorem clsVE_ok {K : Frag} {C : Addr} (h : clsVE K C = true) : ∃ nm q N bs bm sn sub ab col dd k0 k1 k2 k3 k5, K.lookup C = some (excClassObj nm q C N bs bm true sn sub ab col dd k0 k1 k2 k3 k5 "ValueError.__new__") ∧ PySem.HandSPX.refsVE bm = true ∧
    alongIn K "__init__" bm = some (some (.builtin "ValueError.__init__")) := by
  unfold clsVE at h
  split at h
  · rename_i t dd cd sl hl
    split at h
    · rename_i C' bm a0 a1 a2 a3 n a5 hm hs
      simp only [Bool.and_eq_true, decide_eq_true_eq, Bool.not_eq_true'] at h
      obtain ⟨rfl, rfl, rfl, h4, h5, h6, h7⟩ := h
      obtain ⟨nm, bs, mro, ns, qn, hd, sn, sb, ab, col, del⟩ := cd
      simp only at hm h4 h5
      subst hm h4 h5
      have hsl : sl = #[a0, a1, a2, a3, some (.builtin "ValueError.__new__"), a5] := by
        rw [← Array.toList_inj, hs]
      subst hsl
      exact ⟨nm, qn, ns, bs, bm, sn, sb, ab, col, dd, a0, a1, a2, a3, a5, hl, h6, He.eqO_ok h7⟩
    · cases h
  · cases h
structure XcOk (K : Frag) (file : Str) (d : XcD) : Prop where
  k : ExcK K (He.ga K d.x)
  ex : subIn K (.ref (He.ga K d.x)) (.type "BaseException") = some true
  ty : typeIn K (.ref (He.ga K d.x)) = some (.type "type")
  kp : keepIn K (.ref (He.ga K d.x)) = true
  ini : findIn K (.ref (He.ga K d.x)) "__init__" = some (some (.ref (iniA K d.x)))
  fn : typeIn K (.ref (iniA K d.x)) = some (.type "function")
  xf : L2.XfC K (He.ga K d.x)
  no : ∀ f ∈ d.fl, findIn K (.ref (He.ga K d.x)) f = some none
  at_ : ∃ oc od osl kV doc pm an cda ct cc ccl cdd vs ccs tf cl cld csl, K.lookup (iniA K d.x) = some ⟨oc, od, .func (ksFn "__init__" d.qual d.params d.body d.scope .none kV doc pm an (.ref cda) ct cc), osl⟩ ∧ codeIn K (.ref cda) d.qual = true ∧
    K.lookup cda = some ⟨ccl, cdd, .fields vs, ccs⟩ ∧ vs[2]? = some (.str file tf) ∧ K.lookup cc = some ⟨cl, cld, .cell (some (.ref (He.ga K d.x))), csl⟩
theorem xc_ok {K : Frag} {file : Str} {d : XcD} (hv : iniV K d.x = d.val) (h : xcB file K d = true) : XcOk K file d := by
  unfold xcB at h
  simp only [Bool.and_eq_true, decide_eq_true_eq] at h
  obtain ⟨h1, h2, h3, h4, h5, h6, h7, h8, h9, h10, h11, h12, h13⟩ := h
  refine ⟨⟨clsVE_ok h1, He.eqO_ok h3, h4, h5, He.eqO_ok h6⟩, h7, h8, h9, He.eqO_ok h10, h11, L2.xfB_ok h12, fun f hf => He.eqO_ok (List.all_eq_true.mp h13 f hf), ?_⟩
  unfold iniB at h2
  unfold iniV at hv
  split at h2
  · rename_i oc od fd osl hl
    rw [hl] at hv
    obtain ⟨n1, n2, n3, n4, n5, n6, n7, n8, n9, n10, n11, n12, n13, n14, n15⟩ := fd
    simp only [XcD.val, Option.some.injEq, Prod.mk.injEq] at hv
    obtain ⟨rfl, rfl, rfl, rfl, rfl, rfl, hcl, rfl⟩ := hv
    simp only [Bool.and_eq_true] at h2
    obtain ⟨g0, g1, g2, g3⟩ := h2
    obtain rfl := noB_ok g0
    unfold cdB at g2
    split at g2
    · rename_i cda
      split at g2
      · rename_i ccl cdd vs ccs hlc
        split at g2
        · rename_i f tf hvs
          obtain rfl := of_decide_eq_true g2
          unfold clB at g3
          split at g3
          · rename_i cn cc
            split at g3
            · rename_i cl cld D csl hlcc
              obtain rfl := of_decide_eq_true g3
              simp only [List.map_cons, List.map_nil, List.cons.injEq, and_true] at hcl
              subst hcl
              exact ⟨oc, od, osl, n9, n10, n11, n12, cda, n14, cc, ccl, cdd, vs, ccs, tf, cl, cld, csl, hl, g1, hlc, hvs, hlcc⟩
            · cases g3
          · cases g3
        · cases g2
      · cases g2
    · cases g2
  · cases h2
end Z

namespace Z
open PySem PySem.W PySem.Spec PyProof.Rows L2
/-- what is looked at: the module's names and the statics -/
def frY (n : Nat) (g : Addr → Option Obj) : Frag := He.frT g (PySem.cStatics :: He.asD g n)
abbrev AlY : Type := He.AlX × List IniV
def obsY (n : Nat) (fa : List He.Fa) (fn : List He.DefD) (tf : List He.Defn) (file : Str) (xs : List XcD) (g : Addr → Option Obj) : AlY :=
  ((He.obsT fa fn [] (frY n g), xs.all (xcB file (frY n g)) && He.tabsB g tf (frY n g)), xs.map fun d => iniV (frY n g) d.x)
def valY (fn : List He.DefD) (xs : List XcD) (w : World) : AlY := (He.valX fn [] w, xs.map XcD.val)
structure SaysY (fa : List He.Fa) (fn : List He.DefD) (tf : List He.Defn) (file : Str) (xs : List XcD) (w : World) (h : Heap) (K : Frag) : Prop where
  t : He.SaysT fa fn [] w K
  xc : ∀ d ∈ xs, XcOk K file d
  hd : ∀ p ∈ tf, codeHdIn K (He.cT K p).1 (He.cT K p).2 = true
  out : ∀ p ∈ tf, K.lookup (He.cT K p).2 = none
  empty : ∀ p ∈ tf, h.get? (He.cT K p).2 = some { cls := .none, data := .fields #[] }
theorem tabs_out {g : Addr → Option Obj} {tf : List He.Defn} {as : List Addr} (e : He.tabsB g tf (He.frT g as) = true) {p : He.Defn} (hp : p ∈ tf) :
    codeHdIn (He.frT g as) (He.cT (He.frT g as) p).1 (He.cT (He.frT g as) p).2 = true ∧ ∃ o, g (He.cT (He.frT g as) p).2 = some o ∧ He.emptyTab o = true := by
  have q := List.all_eq_true.mp e p hp
  rw [Bool.and_eq_true] at q
  refine ⟨q.1, ?_⟩
  have q2 := q.2
  cases z : g (He.cT (He.frT g as) p).2 with
  | none => rw [z] at q2; cases q2
  | some o => rw [z] at q2; exact ⟨o, rfl, q2⟩
theorem says_of {n : Nat} {fa : List He.Fa} {fn : List He.DefD} {tf : List He.Defn} {file : Str} {xs : List XcD} {w : World} {h : Heap} (e : obsY n fa fn tf file xs h.get? = valY fn xs w) : SaysY fa fn tf file xs w h (frY n h.get?) := by
  have e1 : He.obsT fa fn [] (frY n h.get?) = He.valT fn [] w := congrArg (fun z : AlY => z.1.1) e
  have e2 : (xs.all (xcB file (frY n h.get?)) && He.tabsB h.get? tf (frY n h.get?)) = true := congrArg (fun z : AlY => z.1.2) e
  have e3 : (xs.map fun d => iniV (frY n h.get?) d.x) = xs.map XcD.val := congrArg (fun z : AlY => z.2) e
  rw [Bool.and_eq_true] at e2
  have e4 := List.map_inj_left.mp e3
  refine ⟨e1, fun d hd => xc_ok (e4 d hd) (List.all_eq_true.mp e2.1 d hd), fun p hp => (tabs_out e2.2 hp).1, fun p hp => ?_, fun p hp => ?_⟩
  · obtain ⟨o, a, b⟩ := (tabs_out e2.2 hp).2
    exact He.frT_none a b
  · obtain ⟨o, a, b⟩ := (tabs_out e2.2 hp).2
    have c : h.get? (He.cT (frY n h.get?) p).2 = some o := a
    rw [c, He.emptyTab_eq b]
def hookY (n : Nat) (fa : List He.Fa) (fn : List He.DefD) (tf : List He.Defn) (file : Str) (xs : List XcD) : Hook where
  α := AlY
  obs := fun s => obsY n fa fn tf file xs s.heap.get?
  val := fun w => valY fn xs w
  says := fun w h => ∃ K : Frag, K.In h ∧ SaysY fa fn tf file xs w h K
  of := fun _ _ e => ⟨_, He.frT_in, says_of e⟩
  keeps := fun _ _ _ ⟨K, hK, c⟩ k => ⟨K, Frag.In.keeps hK k, c.t, c.xc, c.hd, c.out, fun p hp => k _ _ (c.empty p hp)⟩
theorem obsY_eq {n : Nat} {fa : List He.Fa} {fn : List He.DefD} {tf : List He.Defn} {file : Str} {xs : List XcD} {g : Addr → Option Obj} {s : Shared} (h : ∀ a, g a = s.heap.get? a) : obsY n fa fn tf file xs g = (hookY n fa fn tf file xs).obs s := by
  obtain rfl : g = s.heap.get? := funext h
  rfl
end Z

namespace Z
open PySem PySem.Spec L2
variable [TabList]
section
variable {K : PySem.W.Frag} {H : Hp}
theorem bls_of : ∀ {ds : List D} {vs : List V} {P : Own} {bs : List Bool}, Rels K H ds vs P → dBls ds = some bs → vs = bs.map V.bl
  | [], vs, P, bs, r, h => by
    simp only [dBls, Option.some.injEq] at h
    subst h
    exact r
  | d :: ds, vs, P, bs, ⟨v, vs', P1, P2, e, s, r, rs⟩, h => by
    cases d <;> simp only [dBls, reduceCtorEq, Option.map_eq_some_iff] at h
    obtain ⟨l, h1, rfl⟩ := h
    obtain rfl : v = _ := r
    rw [e, bls_of rs h1]
    rfl
end
section
variable {X : Cx}
theorem c_all (hc : X.calm = true) : CallR X (.builtin "all") (rNP X.K .allL) := by
  refine CallR.of fun xs H Q ⟨ds, r, rb, ha, hf⟩ => ?_
  rcases ds with _ | ⟨d, _ | ⟨e, ds⟩⟩
  · simp only [PF.ap, reduceCtorEq] at ha
  rotate_left
  · simp only [PF.ap, reduceCtorEq] at ha
  · obtain ⟨v, P, rfl, rd⟩ := rb1 rb
    cases d <;> simp only [PF.ap, reduceCtorEq, Option.map_eq_some_iff] at ha
    obtain ⟨bs, h1, rfl⟩ := ha
    obtain ⟨a, vs, Q1, rfl, s1, r1⟩ := rd
    have e := bls_of r1 h1
    subst e
    exact ⟨_, cr_all hc, a, bs, rfl, .inl s1.rd, hf.bl⟩
section
variable {rx : XR} {W : WX} {C : Ctx} {es : Es}
theorem s_gint {x : Str} {i : Int} {pos : PySem.Pos} (hg : Gl X x) (h : ∃ t, X.mg x = some (.int i t)) (hd : (x == ("__debug__" : Str)) = false) : PE X (.Name x pos) (tE X.K rx W C (.cst (.int i))) := by
  obtain ⟨t, hm⟩ := h
  exact PE.of fun σ H Q ⟨env, P, hE, h⟩ => ⟨_, pe_glob (v := .int i) hg hm ⟨_, rfl⟩ hd, h _ H P No hE rfl (fun _ => ⟨fun _ _ z => z, fun _ z => z.elim⟩) New.refl Ev.refl⟩
theorem q_par2 {i j : Nat} {x y : Str} {a b : Expr} {px py pt pos : PySem.Pos} {kt k2 pt2} (hc : X.calm = true) (hN : X.N.Nodup) (hi : X.N[i]? = some x) (hj : X.N[j]? = some y) (hij : i ≠ j)
    (hx : X.env.scope.names.lookup x = some .local) (hy : X.env.scope.names.lookup y = some .local) (ha : PA X [a, b] (tO X.K rx W C es))
    (hw : swappedStores [.Tuple [.Name x px, .Name y py] kt pt] (.Tuple [a, b] k2 pt2) X.env = pure (some [x, y]))
    (hs : swapsWithSole [.Tuple [.Name x px, .Name y py] kt pt] (.Tuple [a, b] k2 pt2) pos.line X.env = pure false) :
    PS X (.Assign [.Tuple [.Name x px, .Name y py] kt pt] (.Tuple [a, b] k2 pt2) pos) (tS X.K rx W C (.par [i, j] es)) :=
  PS.of fun D σ H ⟨env, P, hE, h⟩ => ⟨_, ps_par hc hN hi hj hij hx hy ha hw hs, by
    simp only [evS] at h
    refine ⟨env, P, hE, ?_⟩
    cases q : evOs C es env with
    | bad => rw [q] at h; exact h.elim
    | exc z e1 =>
      rw [q] at h
      exact fun c dd H' P1 r rr n e => h c dd σ H' P1 r rr n e Kp.refl
    | ok ds e1 =>
      rw [q] at h
      intro vs H' P1 P2 rE rd dj n2 n1 ev
      simp only [Res.thn] at h
      split at h
      · rename_i hi
        simp only [Bool.and_eq_true, List.all_cons, List.all_nil, Bool.not_eq_true', decide_eq_true_eq, and_true] at hi
        obtain ⟨⟨⟨k1, l1⟩, k2, l2⟩, hl⟩ := hi
        match ds, hl, rd, h with
        | [d1, d2], _, ⟨v1, vs1, Q1, Q2, e1', s1, r1, ⟨v2, vs2, Q3, Q4, e2', s2, r2, r3⟩⟩, h =>
          obtain rfl : vs2 = [] := r3
          subst e2' e1'
          refine ⟨v1, v2, rfl, ?_⟩
          have a1 := rE.store (P := Uni P1 Q1) (i := i) l1 ⟨fun _ z => .inr z, fun _ z => .inl z, fun a z y => dj a y (s1.1 a z)⟩ r1
          have a2 := a1.store (P := Uni (Uni P1 Q1) Q3) (i := j) (by simpa using l2) ⟨fun _ z => .inr z, fun _ z => .inl z, fun a z y => y.elim (fun y => dj a y (s1.2.1 a (s2.1 a z))) fun y => s1.2.2 a y (s2.1 a z)⟩ r2
          refine h _ H' _ a2 (fun a z => ?_) ev.eo ((Kp.set k1).trans (Kp.set k2))
          rcases z with (z | z) | z
          · exact n1 a z
          · exact (n2 a (s1.1 a z)).imp (fun y => y.2) id
          · exact (n2 a (s1.2.1 a (s2.1 a z))).imp (fun y => y.2) id
      · exact h.elim⟩
theorem q_par3 {i j l : Nat} {x y z : Str} {a b c : Expr} {px py pz pt pos : PySem.Pos} {kt k2 pt2} (hc : X.calm = true) (hN : X.N.Nodup) (hi : X.N[i]? = some x) (hj : X.N[j]? = some y) (hl : X.N[l]? = some z) (hij : i ≠ j) (hil : i ≠ l) (hjl : j ≠ l)
    (hx : X.env.scope.names.lookup x = some .local) (hy : X.env.scope.names.lookup y = some .local) (hz : X.env.scope.names.lookup z = some .local) (ha : PA X [a, b, c] (tO X.K rx W C es))
    (hw : swappedStores [.Tuple [.Name x px, .Name y py, .Name z pz] kt pt] (.Tuple [a, b, c] k2 pt2) X.env = pure (some [x, y, z]))
    (hs : swapsWithSole [.Tuple [.Name x px, .Name y py, .Name z pz] kt pt] (.Tuple [a, b, c] k2 pt2) pos.line X.env = pure false) :
    PS X (.Assign [.Tuple [.Name x px, .Name y py, .Name z pz] kt pt] (.Tuple [a, b, c] k2 pt2) pos) (tS X.K rx W C (.par [i, j, l] es)) :=
  PS.of fun D σ H ⟨env, P, hE, h⟩ => ⟨_, ps_par3 hc hN hi hj hl hij hil hjl hx hy hz ha hw hs, by
    simp only [evS] at h
    refine ⟨env, P, hE, ?_⟩
    cases q : evOs C es env with
    | bad => rw [q] at h; exact h.elim
    | exc zz e1 =>
      rw [q] at h
      exact fun c dd H' P1 r rr n e => h c dd σ H' P1 r rr n e Kp.refl
    | ok ds e1 =>
      rw [q] at h
      intro vs H' P1 P2 rE rd dj n2 n1 ev
      simp only [Res.thn] at h
      split at h
      · rename_i hi
        simp only [Bool.and_eq_true, List.all_cons, List.all_nil, Bool.not_eq_true', decide_eq_true_eq, and_true] at hi
        obtain ⟨⟨⟨k1, l1⟩, ⟨k2, l2⟩, k3, l3⟩, hlen⟩ := hi
        match ds, hlen, rd, h with
        | [d1, d2, d3], _, ⟨v1, vs1, Q1, Q2, e1', s1, r1, ⟨v2, vs2, Q3, Q4, e2', s2, r2, ⟨v3, vs3, Q5, Q6, e3', s3, r3, r4⟩⟩⟩, h =>
          obtain rfl : vs3 = [] := r4
          subst e3' e2' e1'
          refine ⟨v1, v2, v3, rfl, ?_⟩
          have a1 := rE.store (P := Uni P1 Q1) (i := i) l1 ⟨fun _ z => .inr z, fun _ z => .inl z, fun a z y => dj a y (s1.1 a z)⟩ r1
          have a2 := a1.store (P := Uni (Uni P1 Q1) Q3) (i := j) (by simpa using l2) ⟨fun _ z => .inr z, fun _ z => .inl z, fun a z y => y.elim (fun y => dj a y (s1.2.1 a (s2.1 a z))) fun y => s1.2.2 a y (s2.1 a z)⟩ r2
          have a3 := a2.store (P := Uni (Uni (Uni P1 Q1) Q3) Q5) (i := l) (by simpa using l3) ⟨fun _ z => .inr z, fun _ z => .inl z, fun a z y => y.elim (fun y => y.elim (fun y => dj a y (s1.2.1 a (s2.2.1 a (s3.1 a z)))) fun y => s1.2.2 a y (s2.2.1 a (s3.1 a z))) fun y => s2.2.2 a y (s3.1 a z)⟩ r3
          refine h _ H' _ a3 (fun a z => ?_) ev.eo (((Kp.set k1).trans (Kp.set k2)).trans (Kp.set k3))
          rcases z with ((z | z) | z) | z
          · exact n1 a z
          · exact (n2 a (s1.1 a z)).imp (fun y => y.2) id
          · exact (n2 a (s1.2.1 a (s2.1 a z))).imp (fun y => y.2) id
          · exact (n2 a (s1.2.1 a (s2.2.1 a (s3.1 a z)))).imp (fun y => y.2) id
      · exact h.elim⟩
end
end
end Z

namespace Z
open PySem PySem.Spec L2
variable [TabList]
/-- what a law's text knows of its errors and numbers -/
structure XA (P : Program) (w : World) (K : PySem.W.Frag) (mg : Str → Option Value) (file : Str) (xs : List XcD) (ems : List (Str × Str × Bool)) (gis : List (Str × Int)) (cgs : List Str) : Prop where
  xo : ∀ (j : Nat) (d : XcD), xs[j]? = some d → XcOk K file d
  xd : ∀ (j : Nat) (d : XcD), xs[j]? = some d → ExcD P w K mg (He.ga K d.x) (iniA K d.x) d.fl
  xg : ∀ (j : Nat) (d : XcD), xs[j]? = some d → mg d.x = some (.ref (He.ga K d.x))
  em : ∀ (j : Nat) (e : Str × Str × Bool), ems[j]? = some e → PySem.W.exmOne K (.ref (He.ga K e.1)) (.ref (He.ga K e.2.1)) = some e.2.2
  cg : ∀ (j : Nat) (y : Str), cgs[j]? = some y → mg y = some (.ref (He.ga K y))
  gi : ∀ (j : Nat) (e : Str × Int), gis[j]? = some e → ∃ t, mg e.1 = some (.int e.2 t)
def tbK (K : PySem.W.Frag) (xs : List XcD) : List (Addr × List Str) := xs.map fun d => (He.ga K d.x, d.fl)
/-- a class's i-th statement -/
def clsAt : Stmt → Nat → Stmt
  | .ClassDef _ _ _ b _ _ _ _ _ _ _, i => b.getD i (.Pass ⟨0, 0, 0, 0⟩)
  | _, _ => .Pass ⟨0, 0, 0, 0⟩
theorem fx1 {f : Str} {vs : List V} (hl : vs.length = 1) : (∃ v, vs[0]? = some v) ∧ ∀ v, vs[0]? = some v → ([f].zip vs).reverse.lookup f = some v := by
  refine ⟨?_, fun v h => look_one hl h⟩
  match vs, hl with
  | [v], _ => exact ⟨v, rfl⟩
theorem fx2 {f g : Str} {vs : List V} (hfg : (f == g) = false) (hl : vs.length = 2) : ((∃ v, vs[0]? = some v) ∧ ∀ v, vs[0]? = some v → ([f, g].zip vs).reverse.lookup f = some v) ∧
    ((∃ v, vs[1]? = some v) ∧ ∀ v, vs[1]? = some v → ([f, g].zip vs).reverse.lookup g = some v) := by
  obtain ⟨a, b⟩ := look_two (vs := vs) hfg hl
  match vs, hl with
  | [u, v], _ => exact ⟨⟨⟨u, rfl⟩, a⟩, ⟨⟨v, rfl⟩, b⟩⟩
end Z

/-! an except clause that names several classes -/
namespace Z
open PySem PySem.Spec L2 PyProof.Rows
section
variable {M : Model} {A : Around} {E : Value → Shared → Prop} {s : Shared}
theorem loop_any {τ : Type} {f : Value → τ → Sem (ForInStep τ)} {x y : τ} (b : Value → Bool) : ∀ {cs : List Value} {Q : τ → Shared → Prop}, (∀ c ∈ cs, ∀ R : ForInStep τ → Shared → Prop, R (if b c then .done y else .yield x) s → wpAny M A (f c x) R E s) →
    Q (if cs.any b then y else x) s → wpAny M A (forIn cs x f) Q E s
  | [], Q, _, q => by
    rw [List.forIn_nil]
    exact wpAny_pure q
  | c :: cs, Q, h, q => by
    rw [List.forIn_cons]
    refine wpAny_bind (h c (.head _) _ ?_)
    cases hb : b c with
    | true =>
      rw [List.any_cons, hb] at q
      exact wpAny_pure q
    | false =>
      rw [List.any_cons, hb] at q
      exact loop_any b (fun c hc => h c (.tail _ hc)) q
theorem any_of_exm {K : PySem.W.Frag} {cls : Value} : ∀ {cs : List Value} {b : Bool}, PySem.W.exmAny K cls cs = some b → ∃ f : Value → Bool, (∀ c ∈ cs, PySem.W.exmOne K cls c = some (f c)) ∧ cs.any f = b
  | [], b, h => ⟨fun _ => false, fun _ hc => (nomatch hc), Option.some.inj h⟩
  | c :: cs, b, h => by
    obtain ⟨b1, d1, h1, h2, rfl⟩ := PySem.W.exmAny_cons h
    obtain ⟨f, hf, ha⟩ := any_of_exm h2
    refine ⟨fun c => (PySem.W.exmOne K cls c).getD false, fun e he => ?_, ?_⟩
    · rcases List.mem_cons.mp he with rfl | he
      · simp [h1]
      · simp [hf e he]
    · have e : cs.any (fun c => (PySem.W.exmOne K cls c).getD false) = cs.any f := by
        rw [Bool.eq_iff_iff, List.any_eq_true, List.any_eq_true]
        constructor
        · rintro ⟨z, hz, q⟩
          refine ⟨z, hz, ?_⟩
          rwa [hf z hz] at q
        · rintro ⟨z, hz, q⟩
          refine ⟨z, hz, ?_⟩
          rwa [hf z hz]
      simp [h1, e, ha]
theorem exm_tupN {K : PySem.W.Frag} {cs : List Value} {cls : Value} {tp a : Addr} {b : Bool} {h : Heap} (X : K.In h) (LT : PySem.W.Looks M h (typeOf (.ref a)) cls) (hp : h.get? tp = some { cls := .type "tuple", data := .seq cs.toArray }) (hx : PySem.W.exmAny K cls cs = some b) :
    PySem.W.Looks M h (excMatches (.ref a) (.ref tp)) b := by
  intro A Q E s k₀ q
  obtain ⟨hh, g, d, tk, os⟩ := s
  have k : ∀ b o, h.get? b = some o → hh.get? b = some o := k₀
  have LT0 : PySem.W.Looks M h (isInstance (.ref tp) (.type "tuple")) true := ((PySem.W.Looks.ld hp).andThen .now).andThen (PySem.W.Looks.of_pure isSubtype_tuple_tuple)
  obtain ⟨f, hf, ha⟩ := any_of_exm hx
  unfold excMatches
  refine wpAny_bind ((LT0.keeps k).at ?_)
  dsimp only
  rw [if_pos rfl]
  first
    | refine wpAny_bind (wpAny_seqItems (k _ _ hp) rfl ?_)
    | refine wpAny_bind (wpAny_bind (wpAny_seqItems (k _ _ hp) rfl (wpAny_pure ?_)))
  dsimp only [Option.getD_some, Option.getD]
  refine wpAny_bind (wpAny_pure ?_)
  refine wpAny_bind (loop_any (y := PUnit.unit) (fun _ => false) (fun c hc R r => ?_) ?_)
  · refine wpAny_bind (((PySem.W.exm_cls (M := M) X (hf c hc)).1.keeps k).at ?_)
    rw [if_neg (by simp)]
    exact wpAny_pure r
  refine wpAny_bind ((LT.keeps k).at ?_)
  refine wpAny_bind (loop_any (y := (some true, ())) f (fun c hc R r => ?_) ?_)
  · refine wpAny_bind (((PySem.W.exm_cls (M := M) X (hf c hc)).2.keeps k).at ?_)
    cases hb : f c
    · rw [hb] at r
      rw [if_neg (by simp)]
      exact wpAny_pure r
    · rw [hb] at r
      rw [if_pos rfl]
      exact wpAny_pure r
  · rw [ha]
    cases b
    · exact wpAny_pure q
    · exact wpAny_pure q
end
end Z

/-! try with several except clauses, some of them named -/
namespace Z
open PySem PySem.Spec L2 PyProof.Rows
abbrev Sp := List Value × Option Nat × (Addr → Value → Option Addr → TS)
/-- the ends as a suite sees them whose own name stands in slot i -/
def inSuite (i : Nat) (D : Ends) : Ends where
  nx := fun τ J => D.nx (τ.set i none) J
  rt := D.rt
  bk := fun τ J => D.bk (τ.set i none) J
  ct := fun τ J => D.ct (τ.set i none) J
def wMix (K : PySem.W.Frag) (Wout : WX) (D : Ends) : List Sp → WX
  | [], cls, d, σ, H => Wout cls d σ H
  | (c, nm, ts) :: r, cls, d, σ, H => ∃ b, PySem.W.exmAny K cls c = some b ∧ (b = false → wMix K Wout D r cls d σ H) ∧
    (b = true → ∀ a, H a = none → match nm with
      | none => ts a cls d D σ H
      | some i => ts a cls d (inSuite i D) (σ.set i (some (.ref a))) H)
/-- names of classes, one after the other -/
inductive NmL (X : Cx) : List Expr → List Value → Prop
  | nil : NmL X [] []
  | cons {x : Str} {c : Value} {p : Pos} {es : List Expr} {cs : List Value} (hc : Names X x c) (r : NmL X es cs) : NmL X (.Name x p :: es) (c :: cs)
inductive HdMix (X : Cx) : List ExceptHandler → List Sp → Prop
  | nil : HdMix X [] []
  | un {x : Str} {c : Value} {ts : Addr → Value → Option Addr → TS} {s₀ : Stmt} {su : List Stmt} {p p' : Pos} {hl : List ExceptHandler} {l : List Sp} (hc : Names X x c)
      (hsu : ∀ (a : Addr) (oe : Obj) (cls : Value) (d : Option Addr) (q : List (Addr × Obj)), L2N.Zn cls d oe → (∃ vs, oe.data = .fields vs) → PSs (X.suite a ((a, oe) :: q)) (s₀ :: su) (ts a cls d)) (r : HdMix X hl l) :
      HdMix X (.ExceptHandler (some (.Name x p)) none (s₀ :: su) p' :: hl) (([c], none, ts) :: l)
  | tup {el : List Expr} {cs : List Value} {x1} {ts : Addr → Value → Option Addr → TS} {s₀ : Stmt} {su : List Stmt} {p p' : Pos} {hl : List ExceptHandler} {l : List Sp} (hc : NmL X el cs) (hz : cs.length ≤ 1000)
      (hsu : ∀ (a : Addr) (oe : Obj) (cls : Value) (d : Option Addr) (q : List (Addr × Obj)), L2N.Zn cls d oe → (∃ vs, oe.data = .fields vs) → PSs (X.suite a ((a, oe) :: q)) (s₀ :: su) (ts a cls d)) (r : HdMix X hl l) :
      HdMix X (.ExceptHandler (some (.Tuple el x1 p)) none (s₀ :: su) p' :: hl) ((cs, none, ts) :: l)
  | as {x n : Str} {i : Nat} {c : Value} {ts : Addr → Value → Option Addr → TS} {s₀ : Stmt} {su : List Stmt} {p p' : Pos} {hl : List ExceptHandler} {l : List Sp} (hc : Names X x c) (hi : X.N[i]? = some n) (hln : X.env.kindOf n = some .local)
      (hsu : ∀ (a : Addr) (oe : Obj) (cls : Value) (d : Option Addr) (q : List (Addr × Obj)), L2N.Zn cls d oe → (∃ vs, oe.data = .fields vs) → PSs (X.suite a ((a, oe) :: q)) (s₀ :: su) (ts a cls d)) (r : HdMix X hl l) :
      HdMix X (.ExceptHandler (some (.Name x p)) (some n) (s₀ :: su) p' :: hl) (([c], some i, ts) :: l)
section
variable {X : Cx} {Wout : WX} {pins : List (Addr × Obj)} {D : Ends} {a : Addr} {B : Heap} {sI s : Shared} {σ : L2.St} {H : Hp} {cls : Value} {d : Option Addr}
theorem Sp.end (ok : X.Ok) {oe : Obj} {s6 : Shared} {f : Flow} (h : SP (X.suite a ((a, oe) :: (X.pn ++ pins))) [] D f s6) : SP X pins D f s6 := by
  cases f with
  | ret u => exact let ⟨v, τ, J, S, r, q⟩ := h; ⟨v, τ, J, S.unsuite ok, r, q⟩
  | next => exact let ⟨τ, J, S, q⟩ := h; ⟨τ, J, S.unsuite ok, q⟩
  | brk => exact let ⟨τ, J, S, q⟩ := h; ⟨τ, J, S.unsuite ok, q⟩
  | cont => exact let ⟨τ, J, S, q⟩ := h; ⟨τ, J, S.unsuite ok, q⟩
theorem Sp.endAs (ok : X.Ok) (hN : X.N.Nodup) {i : Nat} {n : Str} (hi : X.N[i]? = some n) (hln : X.env.kindOf n = some .local) {oe : Obj} {s6 : Shared} {f : Flow} {p : Pos}
    (h : SP (X.suite a ((a, oe) :: (X.pn ++ pins))) [] (inSuite i D) f s6) : wpAny (model X.prog X.w) X.A (do bindName X.env n .none; unbindBehindTheSuite X.env n p) (fun _ s7 => SP X pins D f s7) X.xe s6 := by
  cases f with
  | ret u => exact let ⟨v, τ, J, S, r, q⟩ := h; gone_ok (S.unsuite ok) hN hi hln fun _ S7 => ⟨v, _, J, S7, r, q⟩
  | next => exact let ⟨τ, J, S, q⟩ := h; gone_ok (S.unsuite ok) hN hi hln fun _ S7 => ⟨_, J, S7, q⟩
  | brk => exact let ⟨τ, J, S, q⟩ := h; gone_ok (S.unsuite ok) hN hi hln fun _ S7 => ⟨_, J, S7, q⟩
  | cont => exact let ⟨τ, J, S, q⟩ := h; gone_ok (S.unsuite ok) hN hi hln fun _ S7 => ⟨_, J, S7, q⟩
theorem exm_any1 {K : PySem.W.Frag} {cls c : Value} {b : Bool} (h : PySem.W.exmAny K cls [c] = some b) : PySem.W.exmOne K cls c = some b := by
  obtain ⟨b1, d1, h1, h2, rfl⟩ := PySem.W.exmAny_cons h
  cases h2
  simpa using h1
theorem fly_grow {l : List PySem.Env} {Z : Obj → Prop} {h h' : Heap} (k : ∀ b o, h.get? b = some o → h'.get? b = some o) (x : HandSPX.FlyingZ B l a Z h) : HandSPX.FlyingZ B l a Z h' :=
  ⟨fun b o e => k _ _ (x.1 b o e), x.2.1, x.2.2.1.of_keeps fun b o e _ => ⟨o, k b o e, rfl⟩,
    let ⟨oe, vs, T, oT, ts, g1, g2, g3, g4, g5, g6, g7, g8⟩ := x.2.2.2
    ⟨oe, vs, T, oT, ts, k _ _ g1, g2, g3, g4, g5, g6, k _ _ g7, g8⟩⟩
theorem spl_names {A : Around} {E : Value → Shared → Prop} {env : PySem.Env} {pos : Pos} (look : ∀ {x : Str} {p : Pos} {c : Value} {Q E : Value → Shared → Prop}, Names X x c → Q c s → wpAny (model X.prog X.w) A (eval (.Name x p) env) Q E s) :
    ∀ {el : List Expr} {cs : List Value} {Q : List Value → Shared → Prop}, NmL X el cs → Q cs s → wpAny (model X.prog X.w) A (spliced (backTo pos (starEach el env))) Q E s := by
  intro el cs Q h
  induction h generalizing Q with
  | nil => exact fun q => Calls.spliced_nil q
  | cons hc _ ih => exact fun q => Calls.spliced_cons (look hc (ih q))
/-- what is known of a heap in which the error flies -/
structure Fly (X : Cx) (pins : List (Addr × Obj)) (a : Addr) (σ : L2.St) (H : Hp) (cls : Value) (s : Shared) : Prop where
  j : Inv X pins σ H s
  nL : a ≠ X.env.locals
  nF : a ∉ X.fs
  lt : PySem.W.Looks (model X.prog X.w) s.heap (typeOf (.ref a)) cls
  lk : ∀ {x : Str} {p : Pos} {c : Value} {Q E : Value → Shared → Prop}, Names X x c → Q c s → wpAny (model X.prog X.w) (X.A.mark (some (.ref a))) (eval (.Name x p) X.env) Q E s
theorem fly_of (hs : X.stack = X.env :: X.outer) (hf : X.env.frame = some X.env.locals) (J : Inv X pins σ H sI) (nb : ∀ b o, sI.heap.get? b = some o → b ∉ frs X.stack → B.get? b = some o)
    {h3 : Heap} (up : sI.heap.UpToSlots h3) (os : s.os = sI.os) (ag : AllBare s.gens) (na : H a = none) (fl : HandSPX.FlyingZ B (X.env :: X.outer) a (L2N.Zn cls d) h3) : Fly X pins a σ H cls { s with heap := h3 } := by
  have off : ∀ {h : Heap} {o : Obj} {vs : Array Value}, h.FunFrames B (X.env :: X.outer) → h.get? a = some o → o.data = .fields vs → a ∉ frs (X.env :: X.outer) := fun {h o vs} ff e dd hm => by
    obtain ⟨_, o2, e2, hnf⟩ := ff.mem hm
    exact hnf _ (by rw [e] at e2; cases e2; exact dd)
  have J3 : Inv X pins σ H { s with heap := h3 } := J.landed nb fl.1 up os ag
  obtain ⟨oe, vs, he, hz, hd⟩ := fl.there
  have nfr := off fl.2.2.1 he hd
  have nL : a ≠ X.env.locals := fun z => nfr (List.mem_filterMap.mpr ⟨X.env, .head _, by rw [hf, z]⟩)
  have nF : a ∉ X.fs := fun hm => let ⟨e, hq, q⟩ := List.mem_filterMap.mp hm; nfr (List.mem_filterMap.mpr ⟨e, .tail _ hq, q⟩)
  have S3 := J3.suite he hd na nL nF
  refine ⟨J3, nL, nF, fun _ _ _ _ k q => wpAny_typeOf_ref (k _ _ he) (by rw [hz.1]; exact q), ?_⟩
  rintro x p c Q E ⟨hg, hdbg, hm | ⟨hm, hv, hnn⟩⟩ q
  · exact ld_glob (X := X.suite a _) S3 hg hm q hdbg
  · exact ld_blt (X := X.suite a _) S3 hg hm hv q hnn hdbg
/-- the clauses looked through -/
theorem mix_go (hs : X.stack = X.env :: X.outer) (hf : X.env.frame = some X.env.locals) (ok : X.Ok) (hN : X.N.Nodup) (tk : L2N.Takes X Wout) (J : Inv X pins σ H sI) (nb : ∀ b o, sI.heap.get? b = some o → b ∉ frs X.stack → B.get? b = some o)
    (os : s.os = sI.os) (ag : AllBare s.gens) (na : H a = none) {hl : List ExceptHandler} {l : List Sp} (hk : HdMix X hl l) : ∀ {h3 : Heap}, sI.heap.UpToSlots h3 → HandSPX.FlyingZ B (X.env :: X.outer) a (L2N.Zn cls d) h3 → wMix X.K Wout D l cls d σ H →
    wpAny (model X.prog X.w) X.A (handleBy (.ref a) X.env hl) (SP X pins D) X.xe { s with heap := h3 } := by
  induction hk with
  | nil =>
    intro h3 up fl w
    obtain ⟨k1, k2, k3, o4, us, T, oT, t4, g1, g2, g3, g4, g5⟩ := id fl
    refine wpAny_handleBy_nil ?_
    unfold PySem.passOn
    refine wpAny_bind (wpAny_field g1 g3 g4 ?_)
    rw [if_neg (by simp : ¬ ((Value.ref T == Value.none) = true))]
    have out : wpAny (model X.prog X.w) X.A (setFlight (.ref a) X.env.frame) (fun _ s4 => wpAny (model X.prog X.w) X.A (throw (.ref a) : Sem Flow) (SP X pins D) X.xe s4) X.xe { s with heap := h3 } := by
      rw [hf]
      exact HandSPX.setFlight_upZ fl fun h4 q4 u4 => wpAny_throw (tk _ _ ⟨a, B, sI, pins, σ, H, cls, d, rfl, J, nb, up.trans u4, .inr (.inr (by rw [hs]; exact q4)), na, os, ag, w⟩)
    first
      | exact wpAny_bind out
      | exact wpAny_bind (wpAny_pure (wpAny_bind out))
  | un hc hsu _ ih =>
    intro h3 up fl ⟨b, hb, hno, hyes⟩
    have F := fly_of hs hf J nb up os ag na fl
    refine wpAny_handleBy_cons (codeAny_handlers_test (F.lk hc ((PySem.W.exm_one (F.j.kIn) F.lt (exm_any1 hb)).here ?_))) (fun q => nomatch q)
    cases b with
    | false => exact ih up fl (hno rfl)
    | true =>
      refine codeAny_handlers_suite (HandSPX.lands_againZ fl fun h4 f4 u4 => ?_)
      obtain ⟨o4, v4, e4, z4, d4⟩ := f4.there
      have S4 := (J.landed (s' := { s with heap := h4 }) nb f4.1 (up.trans u4) os ag).suite e4 d4 na F.nL F.nF
      exact wpAny_mono ((hsu a o4 cls d _ z4 ⟨_, d4⟩).run [] _ _ H _ S4 (hyes rfl a na)) (fun f s6 q => Sp.end ok q) fun _ _ z => z.elim
  | @tup el cs x1 ts s₀ su p p' hl l hc hz hsu _ ih =>
    intro h3 up fl ⟨b, hb, hno, hyes⟩
    have F := fly_of hs hf J nb up os ag na fl
    refine wpAny_handleBy_cons (codeAny_handlers_test (wpAny_Tuple_spliced (spl_names F.lk hc ⟨by rw [sizeLine_eq]; omega, ?_⟩))) (fun q => nomatch q)
    have kp : ∀ b o, h3.get? b = some o → (h3.push { cls := .type "tuple", data := .seq cs.toArray }).get? b = some o := fun b o e => Heap.get?_push_of_some _ e
    have fl' := fly_grow kp fl
    have up' := up.trans (Heap.UpToSlots.of_keeps kp)
    have F' := fly_of hs hf J nb up' os ag na fl'
    refine (exm_tupN (F'.j.kIn) F'.lt (Heap.get?_push_size _ rfl) hb).here ?_
    cases b with
    | false => exact ih up' fl' (hno rfl)
    | true =>
      refine codeAny_handlers_suite (HandSPX.lands_againZ fl' fun h4 f4 u4 => ?_)
      obtain ⟨o4, v4, e4, z4, d4⟩ := f4.there
      have S4 := (J.landed (s' := { s with heap := h4 }) nb f4.1 (up'.trans u4) os ag).suite e4 d4 na F.nL F.nF
      exact wpAny_mono ((hsu a o4 cls d _ z4 ⟨_, d4⟩).run [] _ _ H _ S4 (hyes rfl a na)) (fun f s6 q => Sp.end ok q) fun _ _ z => z.elim
  | as hc hi hln hsu _ ih =>
    intro h3 up fl ⟨b, hb, hno, hyes⟩
    have F := fly_of hs hf J nb up os ag na fl
    refine wpAny_handleBy_cons (codeAny_handlers_test (F.lk hc ((PySem.W.exm_one (F.j.kIn) F.lt (exm_any1 hb)).here ?_))) (fun q => nomatch q)
    cases b with
    | false => exact ih up fl (hno rfl)
    | true =>
      refine codeAny_handlers_suite_as (HandSPX.lands_againZ fl fun h4 f4 u4 => ?_)
      obtain ⟨o4, v4, e4, z4, d4⟩ := f4.there
      have S4 := (J.landed (s' := { s with heap := h4 }) nb f4.1 (up.trans u4) os ag).suite e4 d4 na F.nL F.nF
      refine store_ok (X := X.suite a ((a, o4) :: (X.pn ++ pins))) (v := .ref a) S4 hN hi (.inl hln) rfl (fun s5 S5 => ?_) (.inr hln)
      exact wpAny_mono ((hsu a o4 cls d _ z4 ⟨_, d4⟩).run [] s5 _ H _ S5 (hyes rfl a na)) (fun f s6 q => Sp.endAs ok hN hi hln q) fun _ _ z => z.elim
theorem ps_try_mix {body : List Stmt} {hd0 : ExceptHandler} {hl : List ExceptHandler} {l : List Sp} {pos : Pos} {tb : WX → TS} (hs : X.stack = X.env :: X.outer) (hf : X.env.frame = some X.env.locals) (hN : X.N.Nodup) (tk : L2N.Takes X Wout)
    (hb : ∀ (W : WX) (q : List (Addr × Obj)) (xe : Value → Shared → Prop), L2N.Takes (X.tr q xe) W → PassesOwn (model X.prog X.w) X.A X.env xe → PSs (X.tr q xe) body (tb W))
    (hh : HdMix X (hd0 :: hl) l) : PS X (.Try body (hd0 :: hl) [] [] pos) (fun D σ H => tb (wMix X.K Wout D l) D σ H) := by
  refine ⟨fun pins s σ H D I h => wpAny_Try_except ?_⟩
  have ok := I.ok
  have run := (hb (wMix X.K Wout D l) (X.pn ++ pins) (fun e s₁ => wpAny (model X.prog X.w) X.A (noteFrame e X.env) (fun _ s₂ => wpAny (model X.prog X.w) X.A (setFlight e none) (fun _ s₃ =>
    wpAny (model X.prog X.w) X.A (handleBy e X.env (hd0 :: hl)) (SP X pins D) X.xe s₃) X.xe s₂) X.xe s₁) (fun u s' xx => by
      obtain ⟨a, B, sI, pins', σ', H', cls, d, rfl, J', nb, up, sky, na, os, ag, w⟩ := xx
      have J : Inv X pins σ' H' sI := J'.ofTry ok
      have sky' : Sky B (X.env :: X.outer) a (L2N.Zn cls d) X.env.locals s'.heap := by rw [← hs]; exact sky
      exact L2N.Sky.land L2N.Zn.steady (by rw [ok.frames, hs]) hf sky' fun h3 fl3 up3 => mix_go hs hf ok hN tk J nb os ag na hh (up.trans up3) fl3 w) PassesOwn.looking).run [] s σ H D (I.toTry _) h
  refine wpAny_mono run (fun f s1 q => ?_) fun e s1 he => he
  cases f with
  | next => exact let ⟨τ, J, S, r⟩ := q; wpAny_execs_nil ⟨τ, J, S.ofTry ok, r⟩
  | brk => exact let ⟨τ, J, S, r⟩ := q; ⟨τ, J, S.ofTry ok, r⟩
  | cont => exact let ⟨τ, J, S, r⟩ := q; ⟨τ, J, S.ofTry ok, r⟩
  | ret u => exact let ⟨v, τ, J, S, r, e⟩ := q; ⟨v, τ, J, S.ofTry ok, r, e⟩
end
end Z

/-! try with several except clauses: the evaluator's -/
namespace Z
open PySem PySem.Spec L2
variable [TabList]
def tNp (p : HE) : TE := fun σ H Q => ∀ v, HVl [] p v → Q v H
def tNps (ps : List HE) : TA := fun σ H Q => ∀ us, HVs [] ps us → Q us H
/-- a suite that tells a constant -/
def tNR (r : HR) : TS := fun D σ H => match r with
  | .one p => ∀ v, HVl [] p v → D.rt v H
  | .tup ps => ps.length ≤ 1000 ∧ ∀ us q, HVs [] ps us → H q = none → D.rt (.ref q) (upd H q (.tup us))
  | .asg x p => ∀ v, HVl [] p v → D.nx (σ.set x (some v)) H
  | .call _ _ _ => True
section
variable {X : Cx} {e : Expr} {el : List Expr} {p : HE} {ps : List HE} {pos : PySem.Pos}
theorem n_str {x : Str} {j} : PE X (.Constant (.str x) j pos) (tNp (.cst (.str x))) := PE.of fun σ H Q h => ⟨_, pe_str, h _ rfl⟩
theorem n_int {x : Int} {j} : PE X (.Constant (.int x) j pos) (tNp (.cst (.int x))) := PE.of fun σ H Q h => ⟨_, pe_int, h _ rfl⟩
theorem n_bl {x : Bool} {j} : PE X (.Constant (.bool x) j pos) (tNp (.cst (.bl x))) := PE.of fun σ H Q h => ⟨_, pe_bl, h _ rfl⟩
theorem n_non {j} : PE X (.Constant .none j pos) (tNp (.cst .non)) := PE.of fun σ H Q h => ⟨_, pe_non, h _ rfl⟩
theorem ns_nil : PA X [] (tNps []) := PA.of fun σ H Q h => ⟨_, pa_nil, h _ rfl⟩
theorem ns_cons (he : PE X e (tNp p)) (hr : PA X el (tNps ps)) (hs : starEach (e :: el) X.env = (false, eval e X.env) :: starEach el X.env) : PA X (e :: el) (tNps (p :: ps)) :=
  PA.of fun σ H Q h => ⟨_, pa_cons he hr hs, fun v hv us hu => h _ ⟨v, us, rfl, hv, hu⟩⟩
theorem nr_one {pos2 : PySem.Pos} (he : PE X e (tNp p)) : PSs X [.Return (some e) pos2] (tNR (.one p)) :=
  PSs.of fun D σ H h => ⟨_, pss_cons (ps_ret he) pss_nil, fun v hv => h v hv⟩
theorem nr_tup {x1} {pos2 : PySem.Pos} (ha : PA X el (tNps ps)) : PSs X [.Return (some (.Tuple el x1 pos)) pos2] (tNR (.tup ps)) :=
  PSs.of fun D σ H ⟨hl, h⟩ => ⟨_, pss_cons (ps_ret (pe_tup ha)) pss_nil, fun us hu => ⟨by rw [pvs_len hu, sizeLine_eq]; omega, fun q hq => h us q hu hq⟩⟩
end
theorem hvl_no {p : HE} {v : V} (h : HVl [] p v) (vs : List V) : HVl vs p v := by
  cases p with
  | cst d => exact h
  | fld j => simp [HVl] at h
theorem hvs_no : ∀ {ps : List HE} {us : List V}, HVs [] ps us → ∀ vs : List V, HVs vs ps us
  | [], _, h, _ => h
  | p :: ps, _, ⟨v, us', e, h, hs⟩, vs => ⟨v, us', e, hvl_no h vs, hvs_no hs vs⟩
/-- what the clauses make of an error -/
def triR (C : Ctx) (cl : List (Nat × List Nat × HR)) (y : Exc) (e1 : Env) : SRes := match hFind cl y.cls with
  | some (i, r) => if i < e1.length then match hrOut y.args r with
    | some d => hrEnd C i d e1 r
    | none => .bad
    else .bad
  | none => .exc y e1
inductive TryR (X : Cx) (tb : List (Addr × List Str)) (C : Ctx) : List ExceptHandler → List (Nat × List Nat × HR) → List Sp → Prop
  | nil : TryR X tb C [] [] []
  | un {x : Str} {Ca : Addr} {cs : List Nat} {i : Nat} {r : HR} {s₀ : Stmt} {su : List Stmt} {p p' : PySem.Pos} {hl : List ExceptHandler} {cl : List (Nat × List Nat × HR)} {l : List Sp} (hg : Gl X x) (hm : X.mg x = some (.ref Ca)) (hdb : (x == ("__debug__" : Str)) = false)
      (hex : ∀ (j : Nat) (Cj : Addr) (flj : List Str), tb[j]? = some (Cj, flj) → PySem.W.exmOne X.K (.ref Cj) (.ref Ca) = some (cs.contains j)) (h1000 : hrSmall r = true)
      (hsu : ∀ (a : Addr) (oe : Obj) (pn : List (Addr × Obj)), PSs (X.suite a ((a, oe) :: pn)) (s₀ :: su) (tNR r)) (rest : TryR X tb C hl cl l) :
      TryR X tb C (.ExceptHandler (some (.Name x p)) none (s₀ :: su) p' :: hl) ((i, cs, r) :: cl) (([.ref Ca], none, fun _ _ _ => tNR r) :: l)
  | tup {el : List Expr} {vs : List Value} {x1} {cs : List Nat} {i : Nat} {r : HR} {s₀ : Stmt} {su : List Stmt} {p p' : PySem.Pos} {hl : List ExceptHandler} {cl : List (Nat × List Nat × HR)} {l : List Sp} (hn : NmL X el vs) (hz : vs.length ≤ 1000)
      (hex : ∀ (j : Nat) (Cj : Addr) (flj : List Str), tb[j]? = some (Cj, flj) → PySem.W.exmAny X.K (.ref Cj) vs = some (cs.contains j)) (h1000 : hrSmall r = true)
      (hsu : ∀ (a : Addr) (oe : Obj) (pn : List (Addr × Obj)), PSs (X.suite a ((a, oe) :: pn)) (s₀ :: su) (tNR r)) (rest : TryR X tb C hl cl l) :
      TryR X tb C (.ExceptHandler (some (.Tuple el x1 p)) none (s₀ :: su) p' :: hl) ((i, cs, r) :: cl) ((vs, none, fun _ _ _ => tNR r) :: l)
  | as {x n : Str} {Ca : Addr} {c i : Nat} {fl : List Str} {r : HR} {s₀ : Stmt} {su : List Stmt} {p p' : PySem.Pos} {hl : List ExceptHandler} {cl : List (Nat × List Nat × HR)} {l : List Sp} (hi : X.N[i]? = some n) (hln : X.env.kindOf n = some .local)
      (hg : Gl X x) (hm : X.mg x = some (.ref Ca)) (hdb : (x == ("__debug__" : Str)) = false) (ht : tb[c]? = some (Ca, fl))
      (hex : ∀ (j : Nat) (Cj : Addr) (flj : List Str), tb[j]? = some (Cj, flj) → PySem.W.exmOne X.K (.ref Cj) (.ref Ca) = some (decide (j = c))) (h1000 : hrSmall r = true)
      (hsu : ∀ (a : Addr) (oe : Obj) (pn : List (Addr × Obj)) (dd : Addr) (vs : List V), L2N.Zn (.ref Ca) (some dd) oe → (∃ vs, oe.data = .fields vs) → vs.length = fl.length → PSs (X.suite a ((a, oe) :: pn)) (s₀ :: su) (tHR (fun f => spF X.K (xrT X.K tb) (C.call f)) i a dd fl vs r)) (rest : TryR X tb C hl cl l) :
      TryR X tb C (.ExceptHandler (some (.Name x p)) (some n) (s₀ :: su) p' :: hl) ((i, [c], r) :: cl) (([.ref Ca], some i, fun a cls d D σ H => ∃ dd vs, cls = .ref Ca ∧ d = some dd ∧ tHR (fun f => spF X.K (xrT X.K tb) (C.call f)) i a dd fl vs r D σ H) :: l)
  /-- clauses that no error of this text meets -/
  | noU {x : Str} {Ca : Addr} {i : Nat} {r : HR} {s₀ : Stmt} {su : List Stmt} {p p' : PySem.Pos} {hl : List ExceptHandler} {cl : List (Nat × List Nat × HR)} {l : List Sp} (hg : Gl X x) (hm : X.mg x = some (.ref Ca)) (hdb : (x == ("__debug__" : Str)) = false)
      (hex : ∀ (j : Nat) (Cj : Addr) (flj : List Str), tb[j]? = some (Cj, flj) → PySem.W.exmOne X.K (.ref Cj) (.ref Ca) = some false) (rest : TryR X tb C hl cl l) :
      TryR X tb C (.ExceptHandler (some (.Name x p)) none (s₀ :: su) p' :: hl) ((i, [], r) :: cl) (([.ref Ca], none, fun _ _ _ _ _ _ => False) :: l)
  | noT {el : List Expr} {vs : List Value} {x1} {i : Nat} {r : HR} {s₀ : Stmt} {su : List Stmt} {p p' : PySem.Pos} {hl : List ExceptHandler} {cl : List (Nat × List Nat × HR)} {l : List Sp} (hn : NmL X el vs) (hz : vs.length ≤ 1000)
      (hex : ∀ (j : Nat) (Cj : Addr) (flj : List Str), tb[j]? = some (Cj, flj) → PySem.W.exmAny X.K (.ref Cj) vs = some false) (rest : TryR X tb C hl cl l) :
      TryR X tb C (.ExceptHandler (some (.Tuple el x1 p)) none (s₀ :: su) p' :: hl) ((i, [], r) :: cl) ((vs, none, fun _ _ _ _ _ _ => False) :: l)
  | noA {x n : Str} {Ca : Addr} {i j : Nat} {r : HR} {s₀ : Stmt} {su : List Stmt} {p p' : PySem.Pos} {hl : List ExceptHandler} {cl : List (Nat × List Nat × HR)} {l : List Sp} (hi : X.N[i]? = some n) (hln : X.env.kindOf n = some .local)
      (hg : Gl X x) (hm : X.mg x = some (.ref Ca)) (hdb : (x == ("__debug__" : Str)) = false)
      (hex : ∀ (j : Nat) (Cj : Addr) (flj : List Str), tb[j]? = some (Cj, flj) → PySem.W.exmOne X.K (.ref Cj) (.ref Ca) = some false) (rest : TryR X tb C hl cl l) :
      TryR X tb C (.ExceptHandler (some (.Name x p)) (some n) (s₀ :: su) p' :: hl) ((j, [], r) :: cl) (([.ref Ca], some i, fun _ _ _ _ _ _ => False) :: l)
theorem exm_nil {K : PySem.W.Frag} {cls : Value} : PySem.W.exmAny K cls [] = some false := rfl
theorem exm_cons {K : PySem.W.Frag} {cls c : Value} {r : List Value} {b d : Bool} (h1 : PySem.W.exmOne K cls c = some b) (h2 : PySem.W.exmAny K cls r = some d) : PySem.W.exmAny K cls (c :: r) = some (b || d) := by simp [PySem.W.exmAny, h1, h2]
section
variable {X : Cx} {tb : List (Addr × List Str)} {W : WX} {C : Ctx} {D : Ends} {P P1 : Own} {σ σ' : L2.St} {H H' : Hp}
theorem TryR.mix {hl : List ExceptHandler} {cl : List (Nat × List Nat × HR)} {l : List Sp} (h : TryR X tb C hl cl l) : HdMix X hl l := by
  induction h with
  | nil => exact .nil
  | un hg hm hdb hex h1000 hsu _ ih => exact .un ⟨hg, hdb, .inl hm⟩ (fun a oe cls d q _ _ => hsu a oe q) ih
  | tup hn hz hex h1000 hsu _ ih => exact .tup hn hz (fun a oe cls d q _ _ => hsu a oe q) ih
  | as hi hln hg hm hdb ht hex h1000 hsu _ ih =>
    refine .as ⟨hg, hdb, .inl hm⟩ hi hln (fun a oe cls d q hz hd => PSs.of fun D σ H ⟨dd, vs, e1, e2, h⟩ => ?_) ih
    subst e1 e2
    exact ⟨_, hsu a oe q dd vs hz hd h.1.2.2, h⟩
  | noU hg hm hdb hex _ ih => exact .un ⟨hg, hdb, .inl hm⟩ (fun a oe cls d q _ _ => PSs.of fun _ _ _ z => z.elim) ih
  | noT hn hz hex _ ih => exact .tup hn hz (fun a oe cls d q _ _ => PSs.of fun _ _ _ z => z.elim) ih
  | noA hi hln hg hm hdb hex _ ih => exact .as ⟨hg, hdb, .inl hm⟩ hi hln (fun a oe cls d q _ _ => PSs.of fun _ _ _ z => z.elim) ih
theorem exm_any_of {K : PySem.W.Frag} {cls c : Value} {b : Bool} (h : PySem.W.exmOne K cls c = some b) : PySem.W.exmAny K cls [c] = some b := by simp [PySem.W.exmAny, h]
theorem tNR_of {i : Nat} {r : HR} {xs : List Z.D} {vs : List V} {d : Z.D} {e1 : Env} (rE : RelE X.K H' e1 σ' P1) (n1 : New P H P1) (ev : Ev P H H') (k1 : Kp C.kp σ σ') (rds : Rels X.K H' xs vs No) (ho : hrOut xs r = some d) (h1000 : hrSmall r = true)
    (h : PostS X.K (xrT X.K tb) W C.kp P σ H (hrEnd C i d e1 r) D) : tNR r D σ' H' := by
  cases r with
  | one p => exact fun v hv => h v σ' H' P1 No rE (rel_he rds ho (hvl_no hv vs)) (fun _ _ z => z) (fun _ z => z.elim) n1 ev k1
  | call _ _ _ => trivial
  | asg x p =>
    intro v hv
    simp only [hrEnd] at h
    split at h
    · exact h.elim
    rename_i hk
    simp only [Bool.or_eq_true, Bool.not_eq_true', decide_eq_false_iff_not, not_or, Bool.not_eq_true, Decidable.not_not] at hk
    refine h _ H' P1 ?_ n1 ev (k1.trans (Kp.set hk.1.1))
    have r2 : RelE X.K H' (e1.set i none) σ' P1 := rE.drop'
    exact (r2.store (P := P1) (P1 := No) (by rw [List.length_set]; exact hk.2) Sep.nl (rel_he rds ho (hvl_no hv vs))).drop'
  | tup ps =>
    refine ⟨of_decide_eq_true h1000, fun us q hu hq => ?_⟩
    simp only [hrOut, Option.map_eq_some_iff] at ho
    obtain ⟨ds, ho2, rfl⟩ := ho
    have ev2 : Ev No H' (upd H' q (.tup us)) := Ev.laid hq
    exact h (.ref q) σ' _ P1 No (rE.frame ev2 (fun _ _ z => z.elim)) ⟨q, us, rfl, .inl (.inl upd_same), (rels_hes rds ho2 (hvs_no hu vs)).frame ev2 (fun _ z => z.elim)⟩ (fun _ _ z => z) (fun _ z => z.elim) n1 (ev.trans ev2.of_no n1) k1
theorem TryR.wish {y : Exc} {e1 : Env} {Cy dx : Addr} {fly : List Str} {vs : List V} (hty : tb[y.cls]? = some (Cy, fly)) (hHd : H' dx = some (.xd (fly.zip vs).reverse)) (rds : Rels X.K H' y.args vs No) (him : imms y.args = true) (hlen : vs.length = fly.length)
    (rE : RelE X.K H' e1 σ' P1) (n1 : New P H P1) (ev : Ev P H H') (k1 : Kp C.kp σ σ') {hl : List ExceptHandler} {cl : List (Nat × List Nat × HR)} {l : List Sp} (h : TryR X tb C hl cl l) :
    PostS X.K (xrT X.K tb) W C.kp P σ H (triR C cl y e1) D → wMix X.K W D l (.ref Cy) (some dx) σ' H' := by
  induction h with
  | nil => exact fun q => q _ _ σ' H' P1 rE ⟨Cy, fly, dx, vs, hty, rfl, rfl, hHd, rds, him, hlen⟩ n1 ev k1
  | @un x Ca cs i r s₀ su p p' hl cl l hg hm hdb hex h1000 hsu _ ih =>
    intro q
    refine ⟨_, exm_any_of (hex _ _ _ hty), fun hno => ih ?_, fun hyes a hna => ?_⟩
    · have hf : hFind ((i, cs, r) :: cl) y.cls = hFind cl y.cls := by simp only [hFind, hno, Bool.false_eq_true, if_false]
      unfold triR at q ⊢
      rw [hf] at q
      exact q
    · simp only [triR, hFind, hyes, if_true] at q
      split at q
      · cases ho : hrOut y.args r with
        | none => rw [ho] at q; exact q.elim
        | some d => rw [ho] at q; exact tNR_of (tb := tb) (W := W) rE n1 ev k1 rds ho h1000 q
      · exact q.elim
  | @tup el ws x1 cs i r s₀ su p p' hl cl l hn hz hex h1000 hsu _ ih =>
    intro q
    refine ⟨_, hex _ _ _ hty, fun hno => ih ?_, fun hyes a hna => ?_⟩
    · have hf : hFind ((i, cs, r) :: cl) y.cls = hFind cl y.cls := by simp only [hFind, hno, Bool.false_eq_true, if_false]
      unfold triR at q ⊢
      rw [hf] at q
      exact q
    · simp only [triR, hFind, hyes, if_true] at q
      split at q
      · cases ho : hrOut y.args r with
        | none => rw [ho] at q; exact q.elim
        | some d => rw [ho] at q; exact tNR_of (tb := tb) (W := W) rE n1 ev k1 rds ho h1000 q
      · exact q.elim
  | @as x n Ca c i fl r s₀ su p p' hl cl l hi hln hg hm hdb ht hex h1000 hsu _ ih =>
    intro q
    refine ⟨_, exm_any_of (hex _ _ _ hty), fun hno => ih ?_, fun hyes a hna => ?_⟩
    · have hyc : ¬ y.cls = c := of_decide_eq_false hno
      have hf : hFind ((i, [c], r) :: cl) y.cls = hFind cl y.cls := by simp [hFind, hyc]
      unfold triR at q ⊢
      rw [hf] at q
      exact q
    · have hyc : y.cls = c := of_decide_eq_true hyes
      rw [hyc, ht] at hty
      cases hty
      have hf : hFind ((i, [c], r) :: cl) y.cls = some (i, r) := by simp [hFind, hyc]
      simp only [triR, hf] at q
      split at q
      · rename_i hil
        cases ho : hrOut y.args r with
        | none => rw [ho] at q; exact q.elim
        | some d =>
          rw [ho] at q
          exact ⟨dx, vs, rfl, rfl, tHR_of (tb := tb) (W := W) (D := D) (D' := inSuite i D) rfl (fun _ _ => rfl) rE n1 ev k1 hil hHd rds hlen ho h1000 q⟩
      · exact q.elim
  | noU hg hm hdb hex _ ih => exact fun q => ⟨_, exm_any_of (hex _ _ _ hty), fun _ => ih (by unfold triR at q ⊢; simpa [hFind] using q), fun z => nomatch z⟩
  | noT hn hz hex _ ih => exact fun q => ⟨_, hex _ _ _ hty, fun _ => ih (by unfold triR at q ⊢; simpa [hFind] using q), fun z => nomatch z⟩
  | noA hi hln hg hm hdb hex _ ih => exact fun q => ⟨_, exm_any_of (hex _ _ _ hty), fun _ => ih (by unfold triR at q ⊢; simpa [hFind] using q), fun z => nomatch z⟩
theorem q_try_mix {body : List Stmt} {hd0 : ExceptHandler} {hl : List ExceptHandler} {cl : List (Nat × List Nat × HR)} {l : List Sp} {b : Ss} {pos : PySem.Pos} (hs : X.stack = X.env :: X.outer) (hf : X.env.frame = some X.env.locals) (hN : X.N.Nodup) (tk : L2N.Takes X W)
    (hb : ∀ (W : WX) (pn : List (Addr × Obj)) (xe : Value → Shared → Prop), L2N.Takes (X.tr pn xe) W → PassesOwn (model X.prog X.w) X.A X.env xe → PSs (X.tr pn xe) body (tSs X.K (xrT X.K tb) W C b))
    (hh : TryR X tb C (hd0 :: hl) cl l) : PS X (.Try body (hd0 :: hl) [] [] pos) (tS X.K (xrT X.K tb) W C (.tri b cl)) :=
  PS.of fun D σ H ⟨env, P, hE, h⟩ => ⟨_, ps_try_mix (tb := fun W => tSs X.K (xrT X.K tb) W C b) (Wout := W) hs hf hN tk hb hh.mix, by
    simp only [evS] at h
    refine ⟨env, P, hE, ?_⟩
    cases q : evSs C b env with
    | next e1 => rw [q] at h; exact h
    | brk e1 => rw [q] at h; exact h
    | cnt e1 => rw [q] at h; exact h
    | ret d e1 => rw [q] at h; exact h
    | bad => rw [q] at h; exact h.elim
    | exc y e1 =>
      rw [q] at h
      simp only [] at h
      intro cc dd σ' H' P1 rE ⟨Cy, fly, dx, vs, hty, e1', e2', hHd, rds, him, hlen⟩ n1 ev k1
      subst e1' e2'
      exact hh.wish (W := W) hty hHd rds him hlen rE n1 ev k1 h⟩
end
end Z

/-! a tuple turned about -/
namespace Z
open PySem PySem.Spec L2 PyProof.Rows
section
variable {prog : Program} {w : World} {A : Around} {E : Value → Shared → Prop} {s : Shared}
theorem adj_rev (n : Nat) : Builtin.Slice.sliceAdjust none none (-1) (n : Int) = ((n : Int) - 1, -1) := by simp [Builtin.Slice.sliceAdjust]
theorem plc_rev (n : Nat) : Builtin.Slice.slicePlaces ((n : Int) - 1) (-1) (-1) = n := by
  unfold Builtin.Slice.slicePlaces
  simp
  split <;> omega
theorem pick_rev (xs : Array Value) : ((List.range xs.size).filterMap fun (m : Nat) => xs[(((xs.size : Int) - 1) + (m : Int) * (-1)).toNat]?).toArray = xs.toList.reverse.toArray := by
  congr 1
  have e : ∀ l : List Nat, (∀ m ∈ l, m < xs.size) → (l.filterMap fun (m : Nat) => xs[(((xs.size : Int) - 1) + (m : Int) * (-1)).toNat]?) = l.map fun m => xs.toList.getD (xs.size - 1 - m) .none := by
    intro l
    induction l with
    | nil => intro _; rfl
    | cons m l ih =>
      intro h
      have hm := h m (.head _)
      have q : (((xs.size : Int) - 1) + (m : Int) * (-1)).toNat = xs.size - 1 - m := by omega
      have hlt : xs.size - 1 - m < xs.size := by omega
      rw [List.filterMap_cons, q, Array.getElem?_eq_getElem hlt]
      simp only [List.map_cons]
      rw [ih fun m hm => h m (.tail _ hm)]
      congr 1
      simp [List.getD, hlt]
  rw [e _ fun m hm => List.mem_range.mp hm]
  apply List.ext_getElem
  · simp
  · intro i h1 h2
    simp at h1
    have hlt : xs.size - 1 - i < xs.size := by omega
    simp [List.getD, hlt, List.getElem_reverse]
theorem item_rev {t sl : Addr} {items : Array Value} {u : Tok} {Q : Value → Shared → Prop} (ht : PyProof.Rows.IsTup s.heap t items) (hs : s.heap.IsSliceOf sl .none .none (.int (-1) u)) (hsz : items.size ≤ sizeLine)
    (q : Q (.ref s.heap.objs.size) { s with heap := s.heap.push { cls := .type "tuple", data := .seq items.toList.reverse.toArray } }) : wpAny (model prog w) A (getItem (.ref t) (.ref sl)) Q E s := by
  obtain ⟨os, hos, hcs, hds⟩ := id hs
  have ok : sizeOk (.seq items.toList.reverse.toArray) := by
    show items.toList.reverse.toArray.size ≤ _
    simpa using hsz
  unfold getItem
  try with_reducible refine wpAny_holding ?_
  first | refine wpAny_bind (wpAny_pure ?_) | skip
  refine wpAny_bind (wpAny_sequenceKey ht.typeIs (by decide) (wpAny_bind (wpAny_callSpecial?_slot (name := Str.ofString "__getitem__") ht.typeIs slot_tuple_getitem
    (wpAny_call_entry slot_tuple_getitem ht.typeIs entry_tuple_getitem (show wpAny _ _ (Builtin.Tuple.tupleItemsOf (.ref t) >>= _) _ _ s from ?_) (args_tuple_getitem _ _)))))
  refine wpAny_bind (tupleItemsOf_ ht (wpAny_bind (wpAny_typeOf (T := "slice") ⟨os, hos, hcs⟩ ?_)))
  rw [if_pos (by decide)]
  have app : ∀ {A' : Around} {R : Int × Int × Nat → Shared → Prop}, R ((items.size : Int) - 1, -1, items.size) s → wpAny (model prog w) A' (Builtin.Slice.sliceApplied (.ref sl) (pure (items.size : Int))) R E s := fun {A' R} r => by
    unfold Builtin.Slice.sliceApplied Builtin.Slice.sliceFields
    refine wpAny_bind (wpAny_bind (wpAny_field hos hds (x := .none) rfl (wpAny_bind (wpAny_field hos hds (x := .none) rfl (wpAny_bind (wpAny_field hos hds (x := .int (-1) u) rfl (wpAny_pure (wpAny_bind (slicePart_int ?_)))))))))
    show wpAny _ _ (if ((-1 : Int) == 0) = true then _ else _) _ _ s
    rw [if_neg (by decide)]
    refine wpAny_bind (slicePart_none (wpAny_bind (slicePart_none (wpAny_bind (wpAny_pure ?_)))))
    show wpAny _ _ (match Builtin.Slice.sliceAdjust none none (-1) (items.size : Int) with | (lo, hi) => pure (lo, (-1 : Int), Builtin.Slice.slicePlaces lo hi (-1))) _ _ s
    rw [adj_rev]
    show wpAny _ _ (pure ((items.size : Int) - 1, (-1 : Int), Builtin.Slice.slicePlaces ((items.size : Int) - 1) (-1) (-1))) _ _ s
    rw [plc_rev]
    exact wpAny_pure r
  refine wpAny_bind (app ?_)
  show wpAny _ _ (if (((items.size : Int) - 1 == 0) && ((-1 : Int) == 1) && (items.size == items.size)) = true then _ else _) _ _ s
  rw [if_neg (by simp), pick_rev]
  first
    | exact wpAny_bind (m := Builtin.Tuple.tupleExact _) (wpAny_newObj_type (wpAny_pure ⟨_, rfl, wpAny_pure q⟩) ok)
    | exact wpAny_bind (m := Builtin.Tuple.tupleExact _) (wpAny_newObj_type (wpAny_bind (wpAny_pure (wpAny_pure ⟨_, rfl, wpAny_pure q⟩))) ok)
    | exact wpAny_bind (wpAny_bind (m := Builtin.Tuple.tupleExact _) (wpAny_newObj_type (wpAny_pure (wpAny_pure ⟨_, rfl, wpAny_pure q⟩)) ok))
    | exact wpAny_bind (wpAny_bind (m := Builtin.Tuple.tupleExact _) (wpAny_newObj_type (wpAny_pure ⟨_, rfl, wpAny_pure q⟩) ok))
end
section
variable [TabList]
variable {X : Cx} {rx : XR} {W : WX} {C : Z.Ctx} {a : E} {ea es : Expr} {pos p2 : PySem.Pos}
theorem vals_rev : ∀ {xs : List V} {us : List Value}, Vals xs us → Vals xs.reverse us.reverse := by
  intro xs us r
  induction r with
  | nil => exact .nil
  | cons r1 _ ih =>
    rw [List.reverse_cons, List.reverse_cons]
    exact ih.append (.cons r1 .nil)
theorem s_m1 {j : Nat} {p : PySem.Pos} : PE X (.UnaryOp .USub (.Constant (.int 1) j p) pos) (fun σ H Q => Q (.int (-1)) H) :=
  PE.of fun σ H Q h => ⟨_, pe_un un_neg pe_int, 1, rfl, h⟩
theorem pe_rev {te : TE} (he : PE X ea te) (hm : PE X es (fun σ H Q => Q (.int (-1)) H)) : PE X (.Subscript ea (.Slice none none (some es) p2) pos) (fun σ H Q => te σ H fun x H1 => ∃ a xs, x = .ref a ∧ SqT X.K H1 a xs ∧ ∀ p, H1 p = none → Q (.ref p) (upd H1 p (.tup xs.reverse))) := by
  refine ⟨fun pins s σ H Q I h => Subscript_ (thn (he.run pins s σ H _ I h) fun v s1 ⟨x, H1, I1, r1, q1⟩ => wpAny_Slice ?_)⟩
  obtain ⟨a, xs, rfl, hx, q⟩ := q1
  cases r1
  rw [evalPart_none]
  refine wpAny_pure (wpAny_pure ?_)
  rw [evalPart_some]
  refine thn (hm.run pins s1 σ H1 (fun m H3 => m = .int (-1) ∧ H3 = H1) I1 ⟨rfl, rfl⟩) fun vm s3 ⟨m, H3, I3, rm, em, eH⟩ => ?_
  subst em eH
  obtain ⟨u, rfl⟩ := rm
  have I4 : Inv X pins σ H3 { s3 with heap := s3.heap.push { cls := .type "slice", data := .fields #[.none, .none, .int (-1) u] } } := I3.kept (t' := s3.toks) fun b ob q => Heap.get?_push_of_some _ q
  obtain ⟨its, r, ht, hz⟩ := I4.tuple hx
  show wpAny (model X.prog X.w) X.A (subscriptTail ea (.Slice none none (some es) p2) (.ref a) (.ref s3.heap.objs.size)) (EP X pins σ Q) X.xe { s3 with heap := s3.heap.push { cls := .type "slice", data := .fields #[.none, .none, .int (-1) u] } }
  refine tail_any (ops := [.ref a, .ref s3.heap.objs.size]) ht.typeIs slot_tuple_getitem.lookup (item_rev ht (Heap.IsSliceOf.new ..) (by rw [List.size_toArray, ← r.length]; exact hz) ?_) (by with_unfolding_all rfl)
  exact ⟨.ref _, _, I4.laid (t' := s3.toks) (o := .tup xs.reverse) (fun b ob q => Heap.get?_push_of_some _ q) (Nat.le_refl _) ⟨by rw [List.length_reverse]; exact hz, _, vals_rev r, PyProof.Rows.IsTup.new _ _⟩, rfl, q _ (I4.hok.fresh (Nat.le_refl _))⟩
theorem rels_rev {K : PySem.W.Frag} {H : Hp} : ∀ {ds : List D} {vs : List V} {P : Own}, imms ds = true → Rels K H ds vs P → Rels K H ds.reverse vs.reverse No
  | [], vs, _, _, r => by
    obtain rfl : vs = [] := r
    exact rfl
  | d :: ds, _, _, i, ⟨v, vs', P1, P2, rfl, s, r1, rs⟩ => by
    simp only [imms, Bool.and_eq_true] at i
    rw [List.reverse_cons, List.reverse_cons]
    exact Rels.append Sep.nl (rels_rev i.2 rs) (Rels.cons Sep.nl (Rel.imm i.1 r1) (show Rels K H [] [] No from rfl))
theorem s_rev (ha : PE X ea (tE X.K rx W C a)) (hs : PE X es (fun σ H Q => Q (.int (-1)) H)) : PE X (.Subscript ea (.Slice none none (some es) p2) pos) (tE X.K rx W C (.ap .rev (.cons a .nil))) :=
  PE.of fun σ H Q h => ⟨_, pe_rev ha hs, tE_mono (ap_one h) fun x H1 ⟨d, r, P2, rd, hp, hf⟩ => by
    cases d <;> simp only [PF.ap, reduceCtorEq, Option.ite_none_right_eq_some, Option.some.injEq] at hp
    obtain ⟨i1, rfl⟩ := hp
    obtain ⟨b, vs, rfl, s1, r1⟩ := rd
    exact ⟨b, vs, rfl, s1, fun p hn => hf.tup hn (rels_rev i1 r1)⟩⟩
end
end Z

/-! sorted(s), s a set of ints of any size -/
namespace Z
open PySem PySem.Spec PyProof.Rows L2
section
variable {P : Program} {w : World} {A : Around} {E : Value → Shared → Prop} {s : Shared}
theorem sorted_setN {a : Addr} {S : Int → Bool} {n : Nat} {Q : Value → Shared → Prop} (R : SetR w s.heap a S n) (hh : A.handled = none)
    (q : ∀ (s1 : Shared) (vs out : List Value), (∀ b o, s.heap.get? b = some o → s1.heap.get? b = some o) → s.heap.objs.size ≤ s1.heap.objs.size → s1.gens = s.gens → s1.os = s.os →
      SrtO.Srtd SrtO.ltIv out → SrtO.Stb SrtO.ltIv out vs → IntsAre vs (vs.map Builtin.Re.reRawOf) → (vs.map Builtin.Re.reRawOf).Nodup → (∀ k, k ∈ vs.map Builtin.Re.reRawOf ↔ S k = true) → vs.length ≤ sizeLine →
      Q (.ref s1.heap.objs.size) { s1 with heap := sortedHeap (s1.heap.push (seqObj "list" vs.toArray 0)) s1.heap.objs.size vs out.toArray }) :
    wpAny (model P w) A (call (.builtin "sorted") [.ref a]) Q E s := by
  obtain ⟨o, es, ep, t, ho, hex, hd, g, nd, hm, hb, hf, hn, hr, hl⟩ := R
  have hz : es.size ≤ sizeLine := fits_of_scanBound hb
  refine Calls.call_function_entry kind_sorted plain_sorted entry_sorted (args_sorted1 _) (show wpAny _ _ (Builtin.«sorted» ⟨[.ref a], []⟩) _ _ s from ?_)
  unfold Builtin.«sorted»
  refine wpAny_bind (m := checkCount "sorted" 1 1 _) (wpAny_pure (wpAny_bind (collect_set (A := A.in1) hh ⟨o, ho, hex.1, hd⟩ hf hb hr hl fun s1 vs k1 hz1 g1 o1 pm => ?_)))
  have hvl : vs.length ≤ sizeLine := by rw [pm.length_eq, List.length_map, Array.length_toList]; exact hz
  have hI : IntsAre vs (vs.map Builtin.Re.reRawOf) := L2.ints_of vs fun v hv => by
    obtain ⟨e, he, q⟩ := List.mem_map.mp (pm.mem_iff.mp hv)
    obtain ⟨k, tk, h1, _⟩ := g e he
    exact ⟨k, tk, q ▸ h1⟩
  have pk : (vs.map Builtin.Re.reRawOf).Perm (es.toList.map keyOf) := by
    have q := pm.map Builtin.Re.reRawOf
    rwa [List.map_map] at q
  have at2 : (s1.heap.push (seqObj "list" vs.toArray 0)).get? s1.heap.objs.size = some (seqObj "list" vs.toArray 0) := Heap.get?_push_size _ rfl
  exact wpAny_bind (wpAny_newList (wpAny_bind (wpAny_holding (wpAny_call_entry slot_list_sort ⟨_, at2, rfl⟩ entry_list_sort (SrtO.list_sort_ord SrtO.swo_int at2 hvl (SrtO.ints_sortable hI) fun out h1 h2 =>
    ⟨_, rfl, wpAny_pure ⟨_, rfl, q s1 vs out k1 hz1 g1 o1 h1 h2 hI (pk.nodup_iff.mpr nd) (fun k => by rw [pk.mem_iff, ← hm k]) hvl⟩⟩) (args_list_sort _)))) hvl)
end
/-- sorted(s), s a set of ints -/
def rSortedS (w : World) : List V → Hp → VK → Prop := fun vs H Q => ∃ (a : Addr) (S : Int → Bool) (n : Nat), vs = [V.ref a] ∧ H a = some (SetO w a S n) ∧
  ∀ (ms : List Int) (p : Addr), ms.Nodup → ms.Pairwise (· ≤ ·) → (∀ k, k ∈ ms ↔ S k = true) → H p = none → Q (.ref p) (upd H p (.lst (ms.map V.int)))
theorem cr_sortedS {X : Cx} (hc : X.calm = true) : CallR X (.builtin "sorted") (rSortedS X.w) := by
  rintro pins s σ H vs us Q I r ⟨a, S, n, rfl, hs, q⟩
  rw [Vals.ref1 r]
  refine sorted_setN (setO_get I hs) (I.ok.hd hc) fun s1 vs out k1 hz1 g1 o1 h1 h2 hI hnd hm hvl => ?_
  obtain ⟨k2, k3, k4⟩ := SrtO.ints_out hI h1 h2
  have hoL : (s1.heap.push (seqObj "list" vs.toArray 0)).get? s1.heap.objs.size = some (seqObj "list" vs.toArray 0) := Heap.get?_push_size _ rfl
  obtain ⟨ep, hp⟩ := sortedHeap_at (vs := vs) (out := out.toArray) hoL
  have I1 : Inv X pins σ H s1 := I.call' (ch := []) o1 (Un.kept k1) (I.hok.kept k1) (by rw [g1]; exact I.bare) (fun _ z => nomatch z)
  refine ⟨.ref _, upd H s1.heap.objs.size (.lst ((out.map SrtO.iv).map V.int)), I1.laid (t' := s1.toks) (fun b u e => ?_) (Nat.le_refl _) ⟨?_, out, ep, vals_of_ints k2, hp⟩, rfl, q _ _ (k3.nodup_iff.mpr hnd) k4 (fun k => by rw [k3.mem_iff, hm k]) (I1.hok.fresh (Nat.le_refl _))⟩
  · have hlt := Heap.lt_size e
    show (sortedHeap (s1.heap.push (seqObj "list" vs.toArray 0)) s1.heap.objs.size vs out.toArray).get? b = some u
    rw [sortedHeap_old (Nat.ne_of_lt hlt) (by rw [size_push']; exact Nat.lt_succ_of_lt hlt)]
    exact Heap.get?_push_of_some _ e
  · rw [List.length_map, k3.length_eq, List.length_map]
    exact hvl
end Z

/-! set comprehensions of ints over two walks: the model's loops -/
namespace Z
open PySem PySem.Spec PyProof.Rows L2
section
variable {prog : Program} {w : World} {A : Around} {s : Shared} {elt t0 i0 t1 i1 : Expr} {ifs1 : List Expr} {scope : Scope} {pos : Pos} {it acc : Value} {env : PySem.Env}
abbrev NoE : Value → Shared → Prop := fun _ _ => False
/-- {elt for t0 in i0 for t1 in i1 if ..} -/
abbrev sc2E (elt t0 i0 t1 i1 : Expr) (ifs1 : List Expr) (scope : Scope) (pos : Pos) : Expr := .SetComp elt [⟨t0, i0, [], 0⟩, ⟨t1, i1, ifs1, 0⟩] scope pos
/-- what a loop that raises nothing comes to -/
abbrev okR (R : Shared → Prop) : Result → Shared → Prop := fun r s => match r with
  | .ok _ => R s
  | .error _ => False
abbrev tests (ifs : List Expr) (env : PySem.Env) : Sem Bool := forIn ifs true fun c r => if r = true then do let ok ← isTrue c env (eval c env); pure (ForInStep.yield ok) else pure (ForInStep.yield r)
theorem noE {α : Type} {M : Model} {A : Around} {E : Value → Shared → Prop} {m : Sem α} {Q : α → Shared → Prop} {s : Shared} (h : wpAny M A m Q NoE s) : wpAny M A m Q E s := thnF h fun _ _ q => q
theorem sc2_inner (I : Nat → Shared → Prop) (R : Shared → Prop)
    (turn : ∀ n s, I n s → wpAny (model prog w) A (pyNext it) (fun r s1 => match r with
      | none => R s1
      | some v => wpAny (model prog w) A (letOwnedTupleGo t1 it v) (fun _ s2 => wpAny (model prog w) A (assign t1 env v) (fun _ s3 => wpAny (model prog w) A (tests ifs1 env) (fun ok s4 =>
          if ok = true then wpAny (model prog w) A (eval elt env) (fun x s5 => wpAny (model prog w) A (call (.builtin "set.add") [acc, x]) (fun _ s6 => ∃ m, m < n ∧ I m s6) NoE s5) NoE s4 else ∃ m, m < n ∧ I m s4) NoE s3) NoE s2) NoE s1) NoE s)
    (n : Nat) (h : I n s) : codeAny (model prog w) A (.compLoop (sc2E elt t0 i0 t1 i1 ifs1 scope pos) 1 it acc env) (okR R) s := by
  refine codeAny_loop rfl I (fun n s hI => ?_) n h
  refine wpAny_noted (m := compTurn (sc2E elt t0 i0 t1 i1 ifs1 scope pos) 1 it acc env) ?_
  unfold compTurn
  refine wpAny_bind (m := standAt i1.pos) (wpAny_standAt (wpAny_bind (m := pyNext it) (noE (wpAny_mono (turn n s hI) (fun r s1 q => ?_) fun _ _ z => z))))
  cases r with
  | none => exact wpAny_pure q
  | some v =>
    refine wpAny_bind (m := letOwnedTupleGo t1 it v) (noE (wpAny_mono q (fun _ s2 q => wpAny_bind (m := assign t1 env v) (noE (wpAny_mono q (fun _ s3 q => wpAny_bind (m := tests ifs1 env) (noE (wpAny_mono q (fun ok s4 q => ?_) fun _ _ z => z))) fun _ _ z => z))) fun _ _ z => z))
    cases ok with
    | false => exact wpAny_pure ⟨rfl, q⟩
    | true =>
      exact wpAny_bind (wpAny_bind (noE (wpAny_mono q (fun x s5 q => wpAny_bind (wpAny_standAt (wpAny_bind (noE (wpAny_mono q (fun _ s6 q => wpAny_pure (wpAny_pure ⟨rfl, q⟩)) fun _ _ z => z))))) fun _ _ z => z)))
theorem sc2_outer (hs : ∀ x, foldedSetIterable i1 env x = pure x) (I : Nat → Shared → Prop) (R : Shared → Prop)
    (turn : ∀ n s, I n s → wpAny (model prog w) A (pyNext it) (fun r s1 => match r with
      | none => R s1
      | some v => wpAny (model prog w) A (letOwnedTupleGo t0 it v) (fun _ s2 => wpAny (model prog w) A (assign t0 env v) (fun _ s3 => wpAny (model prog w) A (eval i1 env) (fun x s4 => wpAny (model prog w) A (pyIter x) (fun it1 s5 =>
          codeAny (model prog w) A (.compStart (sc2E elt t0 i0 t1 i1 ifs1 scope pos) 1 it1 acc env) (okR fun s6 => ∃ m, m < n ∧ I m s6) s5) NoE s4) NoE s3) NoE s2) NoE s1) NoE s)
    (n : Nat) (h : I n s) : codeAny (model prog w) A (.compLoop (sc2E elt t0 i0 t1 i1 ifs1 scope pos) 0 it acc env) (okR R) s := by
  refine codeAny_loop rfl I (fun n s hI => ?_) n h
  refine wpAny_noted (m := compTurn (sc2E elt t0 i0 t1 i1 ifs1 scope pos) 0 it acc env) ?_
  unfold compTurn
  refine wpAny_bind (m := standAt i0.pos) (wpAny_standAt (wpAny_bind (m := pyNext it) (noE (wpAny_mono (turn n s hI) (fun r s1 q => ?_) fun _ _ z => z))))
  cases r with
  | none => exact wpAny_pure q
  | some v =>
    refine wpAny_bind (m := letOwnedTupleGo t0 it v) (noE (wpAny_mono q (fun _ s2 q => wpAny_bind (m := assign t0 env v) (noE (wpAny_mono q (fun _ s3 q => ?_) fun _ _ z => z))) fun _ _ z => z))
    refine wpAny_bind (m := tests [] env) (wpAny_tests_nil ?_)
    refine wpAny_bind (m := eval i1 env) (noE (wpAny_mono q (fun x s4 q => ?_) fun _ _ z => z))
    refine wpAny_bind (m := standAt i1.pos) (wpAny_standAt ?_)
    refine wpAny_bind (m := foldedSetIterable i1 env x) (wpAny_of_eq (hs x) ?_)
    refine wpAny_bind (wpAny_holding (noE (wpAny_mono q (fun it1 s5 q => ?_) fun _ _ z => z)))
    refine wpAny_bind (wpAny_runOwn ?_)
    rw [Around.mark_none]
    refine codeAny_mono q fun r s6 q => ?_
    cases r with
    | ok f =>
      first
        | exact wpAny_pure ⟨rfl, q⟩
        | exact wpAny_bind (wpAny_pure (wpAny_pure ⟨rfl, q⟩))
    | error e => exact q.elim
/-- the second clause's start: the iterator is asked for once more, or it is not -/
theorem sc2_begin {d : Nat} {R : Result → Shared → Prop} (hd : d = 0 ∨ d = 1) (h0 : codeAny (model prog w) A (.compLoop (sc2E elt t0 i0 t1 i1 ifs1 scope pos) d it acc env) R s)
    (h : ∀ E, wpAny (model prog w) A (pyIter it) (fun it' s' => codeAny (model prog w) A (.compLoop (sc2E elt t0 i0 t1 i1 ifs1 scope pos) d it' acc env) R s') E s) :
    codeAny (model prog w) A (.compStart (sc2E elt t0 i0 t1 i1 ifs1 scope pos) d it acc env) R s := by
  refine codeAny_of_tree (wpAny_notedAt (m := compStart (sc2E elt t0 i0 t1 i1 ifs1 scope pos) d it acc env) ?_)
  unfold compStart
  rcases hd with rfl | rfl
  all_goals
    refine wpAny_bind (m := ask) (wpAny_askSetting (wpAny_ite ?_))
    split
    · first
        | exact wpAny_bind (wpAny_pure (wpAny_pure ⟨rfl, h0⟩))
        | exact wpAny_pure ⟨rfl, h0⟩
    · refine wpAny_bind (wpAny_rule ?_)
      first
        | exact wpAny_bind (m := standAt _) (wpAny_standAt (wpAny_bind (wpAny_mono (h _) (fun it' s' q => wpAny_pure ⟨rfl, q⟩) fun _ _ x => x)))
        | exact wpAny_bind (wpAny_standAt (wpAny_bind (wpAny_mono (h _) (fun it' s' q => wpAny_pure ⟨rfl, q⟩) fun _ _ x => x)))
end
end Z

/-! set comprehensions of ints over two walks: the layer's loop -/
namespace Z
open PySem PySem.Spec PyProof.Rows L2
variable [TabList]
/-- a walk whose making changes nothing -/
def tIp (K : PySem.W.Frag) (rx : XR) (C : Ctx) (it : It) : TI := fun σ H R => ∃ env P ds e1, RelE K H env σ P ∧ evI C true it env = .ok ds e1 ∧ ∀ J H' P1, RelE K H' e1 σ P1 → (∀ (D : Addr) (w : World) (S : Int → Bool) (n : Nat), H' D = some (SetO w D S n) → Walk K J ds (fun a => a = D) H') → New P H P1 → Ev No H H' → R J H'
theorem walk_lstD {K : PySem.W.Frag} {H : Hp} {m : Bool} {ds : List D} {v : V} {P2 : Own} (r : Rel K H (.lst m ds) v P2) (hi : imms ds = true) :
    ∃ a, v = .ref a ∧ (∃ xs, SqL K H a xs) ∧ ∀ (D : Addr) (w : World) (S : Int → Bool) (n : Nat), H D = some (SetO w D S n) → Walk K (Itl K a) ds (fun b => b = D) H := by
  obtain ⟨a, _, hs, _⟩ := walk_lst (P := No) r hi fun _ _ _ z => z
  subst_vars
  refine ⟨a, rfl, hs, fun D w S n hD => ?_⟩
  have r2 := r
  obtain ⟨a', vs, Q, e', h, rs⟩ := r2
  cases e'
  have hne : a ≠ D := fun z => by
    subst z
    cases m with
    | true => have := h.1; rw [hD] at this; cases this
    | false => obtain ⟨o, z⟩ := h.1; rw [hD] at z; cases z
  have r3 : Rel K H (.lst m ds) (.ref a) (fun b => P2 b ∧ b ≠ D) := ⟨a, vs, No, rfl, by
    cases m with
    | true => exact ⟨h.1, ⟨h.2.1, hne⟩, fun _ z => z.elim⟩
    | false => exact ⟨h.1, fun _ z => z.elim⟩, rs.imm hi⟩
  obtain ⟨a2, e2, _, w2⟩ := walk_lst (P := fun b => b = D) r3 hi fun _ b z y => z.2 y
  cases e2
  exact w2
theorem eo_true {P : Own} {a : Addr} (h : eO true P a) : False := by cases h.1
section
variable {X : Cx} {rx : XR} {C : Ctx} {e : E} {ee tg : Expr}
theorem i_seqP (hp : e.pu = true) (he : PE X ee (tE X.K rx W0 C e)) : PI X tg ee (tIp X.K rx C (.seq e)) := PI.of fun σ H R ⟨env, P, ds, e1, hE, h, hR⟩ => by
  simp only [evI] at h
  cases q : evE C e env with
  | bad => rw [q] at h; cases h
  | exc x e1 => rw [q] at h; cases h
  | ok d e2 =>
    rw [q] at h
    simp only [Res.bind, Bool.not_true, Bool.and_false] at h
    cases d <;> simp only [seqOf, reduceCtorEq] at h
    case lst m ds0 =>
      refine ⟨_, pi_list he, env, P, hE, ?_⟩
      rw [q]
      intro v H1 P1 P2 r rd hd hn ev
      by_cases hc : imms ds0 = true
      · rw [if_pos ⟨hc, fun _ => trivial⟩] at h
        cases h
        obtain ⟨a, rfl, hs, w⟩ := walk_lstD rd hc
        exact ⟨a, rfl, hs, hR _ H1 P1 r w hn (ev.mono fun _ z => (eo_true (hp ▸ z)).elim)⟩
      · rw [if_neg fun z => hc z.1] at h
        cases h
    case scr ns =>
      cases h
      refine ⟨_, pi_list he, env, P, hE, ?_⟩
      rw [q]
      intro v H1 P1 P2 r rd hd hn ev
      obtain ⟨a, rfl, hs, _⟩ := walk_scr (P := No) rd
      exact ⟨a, rfl, hs, hR _ H1 P1 r (fun D w S n _ => by
        obtain ⟨a', e', _, w'⟩ := walk_scr (P := fun a => a = D) rd
        cases e'
        exact w') hn (ev.mono fun _ z => (eo_true (hp ▸ z)).elim)⟩
    case tup ds0 =>
      refine ⟨_, pi_tup he, env, P, hE, ?_⟩
      rw [q]
      intro v H1 P1 P2 r rd hd hn ev
      by_cases hc : imms ds0 = true
      · rw [if_pos hc] at h
        cases h
        obtain ⟨a, rfl, hs, _⟩ := walk_tup (P := No) rd hc
        exact ⟨a, rfl, hs, hR _ H1 P1 r (fun D w S n _ => by
          obtain ⟨a', e', _, w'⟩ := walk_tup (P := fun a => a = D) rd hc
          cases e'
          exact w') hn (ev.mono fun _ z => (eo_true (hp ▸ z)).elim)⟩
      · rw [if_neg hc] at h
        cases h
    case str s =>
      cases h
      refine ⟨_, pi_str he, env, P, hE, ?_⟩
      rw [q]
      intro v H1 P1 P2 r rd hd hn ev
      refine ⟨s, rd, hR _ H1 P1 r (fun _ _ _ _ _ H2 _ => ⟨fun i hl => ?_, fun i d hd => ?_⟩) hn (ev.mono fun _ z => (eo_true (hp ▸ z)).elim)⟩
      · simpa [chars, Its] using hl
      · simp only [chars, List.getElem?_map, Option.map_eq_some_iff] at hd
        obtain ⟨c, hc, rfl⟩ := hd
        have hl : i < s.cps.size := by
          have := (List.getElem?_eq_some_iff.mp hc).1
          simpa using this
        refine ⟨hl, fun y H3 hy => ?_⟩
        obtain ⟨rfl, c', hc', rfl⟩ := hy
        rw [← Array.getElem?_toList, hc] at hc'
        cases hc'
        exact ⟨Ev.refl, rfl⟩
end
end Z

/-! set comprehensions of ints over two walks: the proof -/
namespace Z
open PySem PySem.Spec PyProof.Rows L2
variable [TabList]
def tSc2 (K : PySem.W.Frag) (w : World) (rx : XR) (W : WX) (C : Ctx) (own own1 : List Nat) (t0 : Tg) (i0 : It) (t1 : Tg) (i1 : It) (is : Es) (e : E) : TE := fun σ H Q => ∃ env P, RelE K H env σ P ∧ match evI C true i0 env with
  | .ok ds e1 => ∃ ns e2, sc2Loop own own1 t0 t1 (evI C true i1) (evIf C is) (evE C e) e.pth ds (wipeE own e1) = some (ns, e2) ∧ ns.length ≤ 4000 ∧
      ∀ D S n H' P1, RelE K H' (backE own e1 e2) σ P1 → ¬ P1 D → H' D = some (SetO w D S n) → (∀ k, S k = true ↔ k ∈ ns) → New P H P1 → Ev P H H' → H D = none → Q (.ref D) H'
  | .exc x e1 => ∀ c dd H' P1, RelE K H' e1 σ P1 → rx x c dd H' → New P H P1 → Ev P H H' → W c dd σ H'
  | .bad => False
theorem dInts_cons {d : D} {ds : List D} {ns : List Int} (h : dInts (d :: ds) = some ns) : ∃ i is, d = .int i ∧ dInts ds = some is ∧ ns = i :: is := by
  cases d <;> simp only [dInts, reduceCtorEq, Option.map_eq_some_iff] at h
  obtain ⟨is, h1, rfl⟩ := h
  exact ⟨_, is, rfl, h1, rfl⟩
theorem mem_sadd {S : Int → Bool} {acc : List Int} {i : Int} (h : ∀ k, S k = true ↔ k ∈ acc) : ∀ k, (S k || decide (k = i)) = true ↔ k ∈ acc ++ [i] := fun k => by
  rw [Bool.or_eq_true, h k, decide_eq_true_eq, List.mem_append, List.mem_singleton]
theorem wipe_wipe {σ : L2.St} {own own1 : List Nat} (h : ∀ i ∈ own1, i ∈ own) : L2.wipe (L2.wipe σ own1) own = L2.wipe σ own := by
  refine List.ext_getElem? fun i => ?_
  by_cases hi : i ∈ own
  · rw [wipe_at hi, wipe_at hi, wipe_length]
  · rw [wipe_get hi, wipe_get hi, wipe_get fun z => hi (h i z)]
theorem new_no {H : Hp} {P P' : Own} : New P H No := fun _ z => z.elim
theorem uni_no {P : Own} {a : Addr} (h : Uni P No a) : P a := h.elim id fun z => z.elim
section
variable {X : Cx} {rx : XR} {W : WX} {C : Ctx}
/-- what stays at a turn's end: the slots' values, the set so far -/
structure ScI (K : PySem.W.Frag) (w : World) (H1 : Hp) (P1 : Own) (D : Addr) (σ : L2.St) (env : Env) (acc : List Int) (H' : Hp) : Prop where
  ex : ∃ P' S n, RelE K H' env σ P' ∧ New P1 H1 P' ∧ ¬ P' D ∧ Ev No H1 H' ∧ H' D = some (SetO w D S n) ∧ (∀ k, S k = true ↔ k ∈ acc) ∧ n ≤ acc.length
theorem sc2_core {pins : List (Addr × Obj)} {s : Shared} {σ : L2.St} {H : Hp} {Q : VK} {elt tg0 it0 tg1 it1 : Expr} {ifs1 : List Expr} {scope : Scope} {own : List (PySem.Str × Nat)} {own1 : List Nat} {pos pos' : Pos} {use : Option (Value → Sem Unit)} {Qf : Value → Shared → Prop}
    {t0 t1 : Tg} {i0 i1 : It} {is : Es} {e : E} (hc : X.calm = true) (hN : X.N.Nodup) (I : Inv X pins σ H s) (hi0 : PI X tg0 it0 (tI X.K rx W C true i0)) (ok : BlkOk X.N X.env.scope scope own) (nd : (own.map (·.2)).Nodup) (hv : ∀ i ∈ own1, i ∈ own.map (·.2))
    (hf0 : t0.free (notIn (own.map (·.2))) = true) (hf1 : t1.free (notIn own1) = true)
    (hg0 : ∀ (s : Shared) (H : Hp) (A : Addr) (cl : List (Str × Addr)) (fp : List Addr), PG (X.blk s H scope (compEnvC scope cl A X.env) fp) tg0 (tG X.K (notIn (own.map (·.2))) t0))
    (hi1 : ∀ (s : Shared) (H : Hp) (A : Addr) (cl : List (Str × Addr)) (fp : List Addr), PI (X.blk s H scope (compEnvC scope cl A X.env) fp) tg1 it1 (tIp X.K rx C i1))
    (hg1 : ∀ (s : Shared) (H : Hp) (A : Addr) (cl : List (Str × Addr)) (fp : List Addr), PG (X.blk s H scope (compEnvC scope cl A X.env) fp) tg1 (tG X.K (notIn own1) t1))
    (ht1 : ∀ (s : Shared) (H : Hp) (A : Addr) (cl : List (Str × Addr)) (fp : List Addr), PTs (X.blk s H scope (compEnvC scope cl A X.env) fp) ifs1 (tTs X.K rx C is))
    (he : ∀ (s : Shared) (H : Hp) (A : Addr) (cl : List (Str × Addr)) (fp : List Addr), PE (X.blk s H scope (compEnvC scope cl A X.env) fp) elt (tE X.K rx W0 C e)) (hpi : is.pu = true) (hpe : e.pu = true)
    (hs0 : ∀ x, foldedSetIterable it0 X.env x = pure x) (hs1 : ∀ env x, foldedSetIterable it1 env x = pure x)
    (h : tSc2 X.K X.w rx W C (own.map (·.2)) own1 t0 i0 t1 i1 is e σ H Q)
    (fin : ∀ D A s' m H', Inv X pins σ H' s' → Q (.ref D) H' → s'.heap.Ns A m → FpOk X pins H' A → compPost (model X.prog X.w) X.A X.xe use Qf (.ref D) A (.ok .next) s') :
    wpAny (model X.prog X.w) X.A (comprehension (sc2E elt tg0 it0 tg1 it1 ifs1 scope pos) scope X.env pos' (newSet (.type "set")) false (eval it0 X.env) use) Qf X.xe s := by
  obtain ⟨env, P, hE, h⟩ := h
  have start : tI X.K rx W C true i0 σ H (fun J H1 => ∃ ds e1 P1 ns e2, RelE X.K H1 e1 σ P1 ∧ Walk X.K J ds No H1 ∧ New P H P1 ∧ Ev P H H1 ∧
      sc2Loop (own.map (·.2)) own1 t0 t1 (evI C true i1) (evIf C is) (evE C e) e.pth ds (wipeE (own.map (·.2)) e1) = some (ns, e2) ∧ ns.length ≤ 4000 ∧
      ∀ D S n H' P1, RelE X.K H' (backE (own.map (·.2)) e1 e2) σ P1 → ¬ P1 D → H' D = some (SetO X.w D S n) → (∀ k, S k = true ↔ k ∈ ns) → New P H P1 → Ev P H H' → H D = none → Q (.ref D) H') := by
    refine ⟨env, P, hE, ?_⟩
    cases q : evI C true i0 env with
    | bad => rw [q] at h; exact h
    | exc x e1 => rw [q] at h; exact h
    | ok ds e1 =>
      rw [q] at h
      obtain ⟨ns, e2, h1, h2, h3⟩ := h
      exact fun J H1 P1 r w n ev => ⟨ds, e1, P1, ns, e2, r, fun H2 e => w H2 (e.mono fun _ z => z.elim), n, ev, h1, h2, h3⟩
  have hfree : ∀ y ∈ scope.names, y.2 = .free → ∃ c, X.env.cells.lookup y.1 = some c := fun y hy e => (ok.free y hy e).elim (fun k => I.ok.has _ (.inl k)) fun k => I.ok.has _ (.inr k)
  refine wpAny_comprehension_free (use := use) rfl hs0 (closure_ok hfree) ok.kind (fun y hy e => by rw [ok.uniq y hy, e]) (thn (hi0.run pins s σ H _ I start) fun xv s1 hx => thn hx fun itv s2 h2 => ?_)
  obtain ⟨it, fp, tn, J, H1, rfl, I2, T, st2, f2, ds, e1, P1, ns, e2, r1, w, n1, ev1, hloop, hlen, hQ⟩ := h2
  refine PpSet.newSet_ok (newEnv_comp ?_)
  obtain ⟨D, hD⟩ : ∃ D, D = s2.heap.objs.size := ⟨_, rfl⟩
  obtain ⟨s3, hs3⟩ : ∃ s3 : Shared, s3 = { s2 with heap := s2.heap.push { cls := .type "set", dict := none, data := .set #[] 0 (.fresh 0 0 (!X.w.params.followText "set-order")) } } := ⟨_, rfl⟩
  obtain ⟨H3, hH3⟩ : ∃ H3, H3 = upd H1 D (SetO X.w D (fun _ => false) 0) := ⟨_, rfl⟩
  have hDn : H1 D = none := I2.hok.fresh (Nat.le_of_eq hD.symm)
  have I3 : Inv X pins σ H3 s3 := by
    rw [hH3, hs3, hD]
    exact I2.laid (t' := s2.toks) (fun b o e => Heap.get?_push_of_some _ e) (Nat.le_refl _) (setO_new (setR_fresh X.w))
  have up3 : ∀ b o, s2.heap.get? b = some o → s3.heap.get? b = some o := fun b o e => by rw [hs3]; exact Heap.get?_push_of_some _ e
  have f3 : ∀ b ∈ fp, FpOk X pins H3 b ∧ b < s3.heap.objs.size := fun b hb => by
    obtain ⟨o, e, _⟩ := T.obj _ _ st2 b hb
    have hlt := Heap.lt_size e
    refine ⟨⟨?_, (f2 b hb).2⟩, Heap.lt_size (up3 b o e)⟩
    rw [hH3, upd_ne (by rw [hD]; exact Nat.ne_of_lt hlt)]
    exact (f2 b hb).1
  have st3 : tn 0 s3.heap := T.keep _ _ _ st2 fun b _ o e => up3 b o e
  have I4 := block_start I3 ok hN f3
  have pg0 := hg0 s3 H3 s3.heap.objs.size (cellsFrom (s3.heap.objs.size + 1) scope.names (cloFrom X.env.cells scope.names [])) fp
  have pi1 := hi1 s3 H3 s3.heap.objs.size (cellsFrom (s3.heap.objs.size + 1) scope.names (cloFrom X.env.cells scope.names [])) fp
  have pg1 := hg1 s3 H3 s3.heap.objs.size (cellsFrom (s3.heap.objs.size + 1) scope.names (cloFrom X.env.cells scope.names [])) fp
  have pt1 := ht1 s3 H3 s3.heap.objs.size (cellsFrom (s3.heap.objs.size + 1) scope.names (cloFrom X.env.cells scope.names [])) fp
  have pe := he s3 H3 s3.heap.objs.size (cellsFrom (s3.heap.objs.size + 1) scope.names (cloFrom X.env.cells scope.names [])) fp
  rw [← hs3, ← hD]
  show codeAny _ _ (.compStart (sc2E elt tg0 it0 tg1 it1 ifs1 scope pos) 0 (.ref it) (.ref D) (compEnvC scope (cellsFrom (s3.heap.objs.size + 1) scope.names (cloFrom X.env.cells scope.names [])) s3.heap.objs.size X.env)) _ { s3 with heap := pushCells (s3.heap.push { cls := .type "dict", data := .dict #[] }) scope.names }
  obtain ⟨ce, hce⟩ : ∃ ce, ce = compEnvC scope (cellsFrom (s3.heap.objs.size + 1) scope.names (cloFrom X.env.cells scope.names [])) s3.heap.objs.size X.env := ⟨_, rfl⟩
  obtain ⟨s4, hs4⟩ : ∃ s4 : Shared, s4 = { s3 with heap := pushCells (s3.heap.push { cls := .type "dict", data := .dict #[] }) scope.names } := ⟨_, rfl⟩
  have cL : ce.locals = s3.heap.objs.size := by rw [hce]; rfl
  rw [← hce] at I4 pg0 pi1 pg1 pt1 pe ⊢
  rw [← hs4] at I4 ⊢
  have st4 : tn 0 s4.heap := T.keep _ _ _ st3 fun b _ o e => by rw [hs4]; exact pushCells_keeps _ _ _ _ (Heap.get?_push_of_some _ e)
  have stat : ∀ {σ' : L2.St} {H' : Hp} {s' : Shared}, Inv (X.blk s3 H3 scope ce fp) [] σ' H' s' → (∀ b ∈ fp, H' b = none) → ∀ b ∈ fp, FpOk (X.blk s3 H3 scope ce fp) [] H' b := fun {σ' H' s'} I' hn b hb =>
    ⟨hn b hb, (I'.ok.exf b hb).1, I'.ok.exfs b hb, .inl hb, fun x c e => (I'.ok.exf b hb).2 x c e, fun p hp => by cases hp⟩
  have evD : Ev No H1 H3 := by rw [hH3]; exact Ev.laid hDn
  -- the set's place is none that the walk's things knew
  have away : ∀ {P' : Own} {H' : Hp}, New P1 H1 P' → H1 D = none := fun _ => hDn
  -- one turn of the inner loop changes the set alone
  let Out : Nat → Hp → Prop := fun i H' => ∃ env' acc rest, ScI X.K X.w H1 P1 D (L2.wipe σ (own.map (·.2))) env' acc H' ∧ acc ++ rest = ns ∧ sc2Loop (own.map (·.2)) own1 t0 t1 (evI C true i1) (evIf C is) (evE C e) e.pth (ds.drop i) env' = some (rest, e2)
  have loop : codeAny (model X.prog X.w) X.A (.compLoop (sc2E elt tg0 it0 tg1 it1 ifs1 scope pos) 0 (.ref it) (.ref D) ce) (okR fun s' => compPost (model X.prog X.w) X.A X.xe use Qf (.ref D) s3.heap.objs.size (.ok .next) s') s4 := by
    refine sc2_outer (hs1 ce) (fun n s' => ∃ i H', n = ds.length - i ∧ i ≤ ds.length ∧ Inv (X.blk s3 H3 scope ce fp) [] (L2.wipe σ (own.map (·.2))) H' s' ∧ tn i s'.heap ∧ (∀ b ∈ fp, H' b = none) ∧ Out i H') _ ?_ ds.length ⟨0, H3, rfl, Nat.zero_le _, I4, st4, fun b hb => (f3 b hb).1.1, wipeE (own.map (·.2)) e1, [], ns, ⟨Tt H1 P1, fun _ => false, 0, r1.tight.wipe.ev evD, fun a z => .inl z.1, fun z => z.2 hDn, evD, by rw [hH3]; exact upd_same, fun k => by simp, Nat.le_refl _⟩, rfl, by rw [List.drop_zero]; exact hloop⟩
    rintro n s5 ⟨i, H5, rfl, hi, I5, st5, n5, env5, acc, rest, ⟨P5, S, sz, r5, nw5, dP5, ev5, hD5, hS, hsz⟩, hacc, hlp⟩
    obtain ⟨w1, w2⟩ := w H5 ev5
    by_cases hil : i < ds.length
    · obtain ⟨d, hd⟩ : ∃ d, ds[i]? = some d := ⟨ds[i], List.getElem?_eq_getElem hil⟩
      obtain ⟨go, yl⟩ := w2 i d hd
      have edr : ds.drop i = d :: ds.drop (i + 1) := by
        obtain ⟨h3, rfl⟩ := List.getElem?_eq_some_iff.mp hd
        exact List.drop_eq_getElem_cons h3
      rw [edr] at hlp
      simp only [sc2Loop] at hlp
      cases q3 : bindT t0 d env5 with
      | none => rw [q3] at hlp; cases hlp
      | some e4 =>
      rw [q3] at hlp
      simp only at hlp
      cases q4 : evI C true i1 e4 with
      | bad => rw [q4] at hlp; cases hlp
      | exc x e6 => rw [q4] at hlp; cases hlp
      | ok items e6 =>
      rw [q4] at hlp
      simp only at hlp
      cases q5 : lcLoop own1 t1 (evIf C is) (evE C e) e.pth items (wipeE own1 e6) with
      | bad => rw [q5] at hlp; cases hlp
      | exc x e7 => rw [q5] at hlp; cases hlp
      | ok rs e7 =>
      rw [q5] at hlp
      simp only at hlp
      cases q6 : dInts rs with
      | none => rw [q6] at hlp; cases hlp
      | some ns2 =>
      rw [q6] at hlp
      simp only [Option.map_eq_some_iff] at hlp
      obtain ⟨⟨rest2, e2'⟩, hlp2, hq⟩ := hlp
      cases hq
      refine thnF (T.item (X.blk s3 H3 scope ce fp) rfl rfl rfl hc i [] s5 _ H5 (fun _ _ => False) I5 (stat I5 n5) st5 go) fun r s6 ⟨u, hr, h6⟩ => ?_
      subst hr
      refine thnF h6 fun _ s7 ⟨x, H7, I7, r7, y7, st7, n7⟩ => ?_
      obtain ⟨ev7, rd7⟩ := yl x H7 y7
      have I7' := I7.pinned (stat I7 n7) (T.obj _ _ st7)
      refine thnF (pg0.run _ s7 _ H7 x u (fun σ8 H8 => H8 = H7 ∧ RelE X.K H7 e4 σ8 (Uni P5 No) ∧ Kp (notIn (own.map (·.2))) (L2.wipe σ (own.map (·.2))) σ8) I7' r7 ⟨hf0, d, env5, P5, No, e4, r5.ev ev7, rd7, fun _ _ z => z, q3, fun σ8 r8 k8 => ⟨rfl, r8, k8⟩⟩) fun _ s8 ⟨σ8, H8, I8, e8, r8, k8⟩ => ?_
      subst e8
      have hl8 : σ8.length = σ.length := by
        have a1 := r8.length
        have a2 := r5.length
        have a3 := bindT_len q3
        rw [wipe_length] at a2
        omega
      have hw8 : L2.wipe σ8 (own.map (·.2)) = L2.wipe σ (own.map (·.2)) := wipe_kp k8 hl8
      refine thnF (pi1.run _ s8 σ8 H8 (fun J1 H9 => ∃ P9, RelE X.K H9 e6 σ8 P9 ∧ (∀ (D : Addr) (w : World) (S : Int → Bool) (n : Nat), H9 D = some (SetO w D S n) → Walk X.K J1 items (fun a => a = D) H9) ∧ New (Uni P5 No) H8 P9 ∧ Ev No H8 H9) I8 ⟨e4, Uni P5 No, items, e6, r8, q4, fun J1 H9 P9 ra wa na ea => ⟨P9, ra, wa, na, ea⟩⟩) fun xv s10 hx => thnF hx fun itv s11 h11 => ?_
      obtain ⟨ita, fp1, tn1, J1, H9, rfl, I9, T1, st9, f9, P9, r9, wk9', nw9, ev9⟩ := h11
      have ev59 : Ev No H5 H9 := ev7.trans ev9 fun _ z => z.elim
      have ev19 : Ev No H1 H9 := ev5.trans ev59 fun _ z => z.elim
      have nw59 : New P5 H5 P9 := New.trans (O := No) (fun a z => .inl z) ev7 (fun a z => (nw9 a z).imp uni_no id)
      have hD9 : H9 D = some (SetO X.w D S sz) := ev59.keep D _ hD5 (fun _ z => nomatch z) fun z => z.elim
      have hD5n : H5 D ≠ none := by rw [hD5]; exact fun z => nomatch z
      have dP9 : ¬ P9 D := fun z => (nw59 D z).elim dP5 hD5n
      have wk9 := wk9' D X.w S sz hD9
      have stat1 : ∀ {H' : Hp}, (∀ b ∈ fp1, H' b = none) → ∀ b ∈ fp1, FpOk (X.blk s3 H3 scope ce fp) ([] ++ pinsAt fp s7.heap) H' b := fun hn b hb => ⟨hn b hb, (f9 b hb).2⟩
      let In : Nat → Hp → Prop := fun j H' => ∃ env' acc' rs2, ScI X.K X.w H1 P1 D (L2.wipe σ8 own1) env' acc' H' ∧ Ev (fun a => a = D) H9 H' ∧ lcLoop own1 t1 (evIf C is) (evE C e) e.pth (items.drop j) env' = .ok rs2 e7 ∧ ∃ ns3, dInts rs2 = some ns3 ∧ acc' ++ ns3 = acc ++ ns2
      have loop1 : codeAny (model X.prog X.w) X.A (.compLoop (sc2E elt tg0 it0 tg1 it1 ifs1 scope pos) 1 (.ref ita) (.ref D) ce) (okR fun s' => ∃ m, m < ds.length - i ∧ ∃ i H', m = ds.length - i ∧ i ≤ ds.length ∧ Inv (X.blk s3 H3 scope ce fp) [] (L2.wipe σ (own.map (·.2))) H' s' ∧ tn i s'.heap ∧ (∀ b ∈ fp, H' b = none) ∧ Out i H') s11 := by
        refine sc2_inner (fun k s' => ∃ j H', k = items.length - j ∧ j ≤ items.length ∧ Inv (X.blk s3 H3 scope ce fp) ([] ++ pinsAt fp s7.heap) (L2.wipe σ8 own1) H' s' ∧ tn1 j s'.heap ∧ (∀ b ∈ fp1, H' b = none) ∧ In j H') _ ?_ items.length ⟨0, H9, rfl, Nat.zero_le _, I9.weak (wipe_length _ _) (fun j v e => (wipe_some e).1), st9, fun b hb => (f9 b hb).1, wipeE own1 e6, acc, rs, ⟨P9, S, sz, r9.wipe, nw5.trans ev5 nw59, dP9, ev19, hD9, hS, hsz⟩, Ev.refl, by rw [List.drop_zero]; exact q5, ns2, q6, rfl⟩
        rintro k s12 ⟨j, H12, rfl, hj, I12, st12, n12, env12, acc12, rs2, ⟨P12, S12, sz12, r12, nw12, dP12, ev12, hD12, hS12, hsz12⟩, ev912, hl12, ns3, hd3, hacc3⟩
        obtain ⟨v1, v2⟩ := wk9 H12 ev912
        have hD12n : H12 D ≠ none := by rw [hD12]; exact fun z => nomatch z
        by_cases hjl : j < items.length
        · obtain ⟨d1, hd1⟩ : ∃ d, items[j]? = some d := ⟨items[j], List.getElem?_eq_getElem hjl⟩
          obtain ⟨go1, yl1⟩ := v2 j d1 hd1
          have edr1 : items.drop j = d1 :: items.drop (j + 1) := by
            obtain ⟨h3, rfl⟩ := List.getElem?_eq_some_iff.mp hd1
            exact List.drop_eq_getElem_cons h3
          rw [edr1] at hl12
          simp only [lcLoop] at hl12
          cases q7 : bindT t1 d1 env12 with
          | none => rw [q7] at hl12; cases hl12
          | some e13 =>
          rw [q7] at hl12
          simp only at hl12
          cases q8 : evIf C is e13 with
          | bad => rw [q8] at hl12; cases hl12
          | exc x e14 => rw [q8] at hl12; cases hl12
          | ok b e14 =>
          rw [q8] at hl12
          refine thnF (T1.item (X.blk s3 H3 scope ce fp) rfl rfl rfl hc j _ s12 _ H12 (fun _ _ => False) I12 (stat1 n12) st12 go1) fun r s13 ⟨u1, hr, h13⟩ => ?_
          subst hr
          refine thnF h13 fun _ s14 ⟨x1, H14, I14, r14, y14, st14, n14⟩ => ?_
          obtain ⟨ev14, rd14⟩ := yl1 x1 H14 y14
          have I14' := I14.pinned (stat1 n14) (T1.obj _ _ st14)
          refine thnF (pg1.run _ s14 _ H14 x1 u1 (fun σ15 H15 => H15 = H14 ∧ RelE X.K H14 e13 σ15 (Uni P12 No) ∧ Kp (notIn own1) (L2.wipe σ8 own1) σ15) I14' r14 ⟨hf1, d1, env12, P12, No, e13, r12.ev ev14, rd14, fun _ _ z => z, q7, fun σ15 r15 k15 => ⟨rfl, r15, k15⟩⟩) fun _ s15 ⟨σ15, H15, I15, e15, r15, k15⟩ => ?_
          subst e15
          have hl15 : σ15.length = σ8.length := by
            have a1 := r15.length
            have a2 := r12.length
            have a3 := bindT_len q7
            rw [wipe_length] at a2
            omega
          have hw15 : L2.wipe σ15 own1 = L2.wipe σ8 own1 := wipe_kp k15 hl15
          refine thnF (pt1.run _ s15 σ15 H15 (fun b1 H16 => b1 = b ∧ ∃ P16, RelE X.K H16 e14 σ15 P16 ∧ New (Uni P12 No) H15 P16 ∧ Ev No H15 H16) I15 ⟨e13, Uni P12 No, b, e14, r15, q8, fun H' P' ra na ea => ⟨rfl, P', ra, na, ea.mono fun _ z => (eo_true (hpi ▸ z)).elim⟩⟩) fun b1 s16 ⟨H16, I16, eb, P16, r16, nw16, ev16⟩ => ?_
          subst eb
          have ev216 : Ev No H12 H16 := ev14.trans ev16 fun _ z => z.elim
          have nw216 : New P12 H12 P16 := New.trans (O := No) (fun a z => .inl z) ev14 (fun a z => (nw16 a z).imp uni_no id)
          -- the turn's end
          have fin1 : ∀ {s' : Shared} {H' : Hp}, Inv (X.blk s3 H3 scope ce fp) (([] ++ pinsAt fp s7.heap) ++ pinsAt fp1 s14.heap) σ15 H' s' → In (j + 1) H' → ∃ m, m < items.length - j ∧ ∃ j H', m = items.length - j ∧ j ≤ items.length ∧ Inv (X.blk s3 H3 scope ce fp) ([] ++ pinsAt fp s7.heap) (L2.wipe σ8 own1) H' s' ∧ tn1 j s'.heap ∧ (∀ b ∈ fp1, H' b = none) ∧ In j H' := fun {s' H'} I' nx => by
            have pin' : ∀ b ∈ fp1, ∀ o, s14.heap.get? b = some o → s'.heap.get? b = some o ∧ H' b = none := fun b hb o e =>
              let z := I'.pin (b, o) (List.mem_append_right _ (List.mem_append_right _ (mem_pinsAt hb e)))
              ⟨z.1, z.2.1⟩
            refine ⟨items.length - (j + 1), by omega, j + 1, H', rfl, hjl, I'.unpinned.weak (by rw [← hw15, wipe_length]) (fun j v e => by rw [← hw15] at e; exact (wipe_some e).1), T1.keep _ _ _ st14 fun b hb o e => (pin' b hb o e).1, fun b hb => ?_, nx⟩
            obtain ⟨o, e, _⟩ := T1.obj _ _ st14 b hb
            exact (pin' b hb o e).2
          cases b1 with
          | false =>
            rw [if_neg Bool.false_ne_true]
            simp only at hl12
            refine fin1 I16 ⟨wipeE own1 e14, acc12, rs2, ⟨P16, S12, sz12, by rw [← hw15]; exact r16.wipe, nw12.trans ev12 nw216, fun z => (nw216 D z).elim dP12 hD12n, ev12.trans ev216 fun _ z => z.elim, ev216.keep D _ hD12 (fun _ z => nomatch z) fun z => z.elim, hS12, hsz12⟩, ev912.trans (ev216.mono (O1 := No) fun _ z => z) fun _ z => z.elim, hl12, ns3, hd3, hacc3⟩
          | true =>
            rw [if_pos rfl]
            simp only at hl12
            cases q9 : evE C e e14 with
            | bad => rw [q9] at hl12; cases hl12
            | exc x e17 => rw [q9] at hl12; cases hl12
            | ok r e17 =>
            rw [q9] at hl12
            simp only at hl12
            split at hl12
            · cases hl12
            cases q10 : lcLoop own1 t1 (evIf C is) (evE C e) e.pth (items.drop (j + 1)) (wipeE own1 e17) with
            | bad => rw [q10] at hl12; cases hl12
            | exc x e18 => rw [q10] at hl12; cases hl12
            | ok rs4 e18 =>
            rw [q10] at hl12
            cases hl12
            obtain ⟨kk, ns4, rfl, hd4, rfl⟩ := dInts_cons hd3
            refine thnF (pe.run _ s16 σ15 H16 (fun y H17 => ∃ P17, y = .int kk ∧ RelE X.K H17 e17 σ15 P17 ∧ New P16 H16 P17 ∧ Ev No H16 H17) I16 ⟨e14, P16, r16, by
              rw [q9]
              intro v H' Pa Pb ra rv _ na ea
              exact ⟨Pa, rv, ra, na, ea.mono fun _ z => (eo_true (hpe ▸ z)).elim⟩⟩) fun z s17 ⟨yv, H17, I17, r17, P17, ey, rr17, nw17, ev17⟩ => ?_
            subst ey
            have ev217 : Ev No H12 H17 := ev216.trans ev17 fun _ z => z.elim
            have nw217 : New P12 H12 P17 := nw216.trans ev216 nw17
            have hD17 : H17 D = some (SetO X.w D S12 sz12) := ev217.keep D _ hD12 (fun _ z => nomatch z) fun z => z.elim
            have dP17 : ¬ P17 D := fun z => (nw217 D z).elim dP12 hD12n
            have la : acc12.length + (ns4.length + 1) ≤ 4000 := by
              have a1 := congrArg List.length hacc3
              have a2 := congrArg List.length hacc
              simp only [List.length_append, List.length_cons] at a1 a2
              omega
            have evu : Ev (fun a => a = D) H17 (upd H17 D (SetO X.w D (fun j => S12 j || decide (j = kk)) (if S12 kk = true then sz12 else sz12 + 1))) := Ev.wrote hD17 trivial rfl
            refine thnF (mt_sadd (X := X.blk s3 H3 scope ce fp) _ s17 σ15 H17 (.ref D) [.int kk] (.ref D) [z] (fun _ H18 => H18 = upd H17 D (SetO X.w D (fun j => S12 j || decide (j = kk)) (if S12 kk = true then sz12 else sz12 + 1))) I17 rfl (.cons r17 .nil) ⟨D, kk, S12, sz12, rfl, rfl, hD17, by show sz12 + 1 < 4096; omega, rfl⟩) fun _ s18 ⟨_, H18, I18, _, e18⟩ => ?_
            subst e18
            refine fin1 I18 ⟨wipeE own1 e17, acc12 ++ [kk], rs4, ⟨P17, _, _, by rw [← hw15]; exact (rr17.frame evu fun a z y => dP17 (by rw [← y]; exact z)).wipe, nw12.trans ev12 nw217, dP17, ?_, upd_same, mem_sadd hS12, by rw [List.length_append, List.length_singleton]; split <;> omega⟩, ?_, q10, ns4, hd4, by rw [List.append_assoc]; exact hacc3⟩
            · refine (ev12.trans ev217 fun _ z => z.elim).trans (evu.mono (O1 := fun a => a = D) fun _ z => z) fun a z => ?_
              subst z
              exact .inr hDn
            · exact (ev912.trans (ev217.mono (O1 := No) fun _ z => z) fun _ z => z.elim).trans evu fun a z => .inl z
        · have hj2 : j = items.length := by omega
          subst hj2
          refine thnF (T1.done (X.blk s3 H3 scope ce fp) rfl rfl rfl hc _ _ s12 _ H12 (fun _ _ => False) I12 (stat1 n12) st12 (v1 _ (Nat.le_refl _))) fun r s13 ⟨hr, I13⟩ => ?_
          subst hr
          rw [List.drop_length] at hl12
          cases hl12
          cases hd3
          rw [List.append_nil] at hacc3
          have pin' : ∀ b ∈ fp, ∀ o, s7.heap.get? b = some o → s13.heap.get? b = some o ∧ H12 b = none := fun b hb o e =>
            let z := I13.pin (b, o) (List.mem_append_right _ (List.mem_append_right _ (mem_pinsAt hb e)))
            ⟨z.1, z.2.1⟩
          refine ⟨ds.length - (i + 1), by omega, i + 1, H12, rfl, hil, (I13.unpinned (pins := [])).weak (by rw [wipe_length, wipe_length, hl8]) (fun j v e => ?_), T.keep _ _ _ st7 fun b hb o e => (pin' b hb o e).1, fun b hb => ?_, wipeE (own.map (·.2)) e7, acc ++ ns2, rest2, ⟨P12, S12, sz12, ?_, nw12, dP12, ev12, hD12, by rw [← hacc3]; exact hS12, by rw [← hacc3]; exact hsz12⟩, by rw [List.append_assoc]; exact hacc, hlp2⟩
          · rw [← hw8] at e
            obtain ⟨a1, a2⟩ := wipe_some e
            rw [wipe_get fun z => a2 (hv j z)]
            exact a1
          · obtain ⟨o, e, _⟩ := T.obj _ _ st7 b hb
            exact (pin' b hb o e).2
          · have := r12.wipe (vs := own.map (·.2))
            rwa [wipe_wipe hv, hw8] at this
      exact sc2_begin (.inr rfl) loop1 fun E => T1.self X.A 0 _ _ _ st9 loop1
    · have hi2 : i = ds.length := by omega
      subst hi2
      refine thnF (T.done (X.blk s3 H3 scope ce fp) rfl rfl rfl hc _ [] s5 _ H5 (fun _ _ => False) I5 (stat I5 n5) st5 (w1 _ (Nat.le_refl _))) fun r s6 ⟨hr, I6⟩ => ?_
      subst hr
      rw [List.drop_length] at hlp
      cases hlp
      rw [List.append_nil] at hacc
      subst hacc
      have I7 : Inv X pins σ H5 s6 := I3.call' (ch := fp) I6.os I6.base I6.hok I6.bare fun b hb => ⟨(f3 b hb).1.2.2.2.1, (f3 b hb).1.2.1, (f3 b hb).1.2.2.2.2.1, (f3 b hb).1.2.2.2.2.2⟩
      have nC : H5 s3.heap.objs.size = none := cL ▸ (show H5 ce.locals = none from I6.free)
      obtain ⟨m, hn, _⟩ := I6.loc
      have hn : s6.heap.Ns s3.heap.objs.size m := cL ▸ (show s6.heap.Ns ce.locals m from hn)
      have rb := RelE.back nd r5 r1 (fun _ _ => rfl) (ev5.mono fun _ z => z.elim)
      have hDH : H D = none := by
        cases qq : H D with
        | none => rfl
        | some o => exact absurd hDn (ev1.dom D (by rw [qq]; exact fun z => nomatch z))
      exact fin D _ s6 m H5 I7 (hQ D S sz H5 P5 rb dP5 hD5 hS (n1.trans ev1 nw5) (ev1.trans (ev5.mono (O1 := No) fun _ z => z) fun _ z => z.elim) hDH) hn (I3.fpOk (Nat.le_refl _) nC)
  refine codeAny_mono (sc2_begin (.inl rfl) loop fun E => T.self X.A 0 _ _ _ st4 loop) fun r s' q => ?_
  cases r with
  | ok f => cases use <;> exact q
  | error e => exact q.elim
end
end Z

/-! sorted({..}) over two walks; list(range(..)) -/
namespace Z
open PySem PySem.Spec PyProof.Rows L2
variable [TabList]
section
variable {X : Cx} {rx : XR} {W : WX} {C : Ctx} {elt tg0 it0 tg1 it1 : Expr} {ifs1 : List Expr} {scope : Scope} {own : List (PySem.Str × Nat)} {own1 : List Nat} {pos spos : Pos} {t0 t1 : Tg} {i0 i1 : It} {is : Es} {e : E}
/-- all that is asked of such a comprehension -/
structure Sc2Ok (X : Cx) (rx : XR) (W : WX) (C : Ctx) (elt tg0 it0 tg1 it1 : Expr) (ifs1 : List Expr) (scope : Scope) (own : List (PySem.Str × Nat)) (own1 : List Nat) (t0 t1 : Tg) (i0 i1 : It) (is : Es) (e : E) : Prop where
  hc : X.calm = true
  hN : X.N.Nodup
  qi0 : PI X tg0 it0 (tI X.K rx W C true i0)
  ok : blkC X.N X.env.scope scope own = true
  nd : (own.map (·.2)).Nodup
  hv : (own1.all fun i => (own.map (·.2)).contains i) = true
  f0 : t0.free (notIn (own.map (·.2))) = true
  f1 : t1.free (notIn own1) = true
  qg0 : ∀ (s : Shared) (H : Hp) (A : Addr) (cl : List (Str × Addr)) (fp : List Addr), PG (X.blk s H scope (compEnvC scope cl A X.env) fp) tg0 (tG X.K (notIn (own.map (·.2))) t0)
  qi1 : ∀ (s : Shared) (H : Hp) (A : Addr) (cl : List (Str × Addr)) (fp : List Addr), PI (X.blk s H scope (compEnvC scope cl A X.env) fp) tg1 it1 (tIp X.K rx C i1)
  qg1 : ∀ (s : Shared) (H : Hp) (A : Addr) (cl : List (Str × Addr)) (fp : List Addr), PG (X.blk s H scope (compEnvC scope cl A X.env) fp) tg1 (tG X.K (notIn own1) t1)
  qt1 : ∀ (s : Shared) (H : Hp) (A : Addr) (cl : List (Str × Addr)) (fp : List Addr), PTs (X.blk s H scope (compEnvC scope cl A X.env) fp) ifs1 (tTs X.K rx C is)
  qe : ∀ (s : Shared) (H : Hp) (A : Addr) (cl : List (Str × Addr)) (fp : List Addr), PE (X.blk s H scope (compEnvC scope cl A X.env) fp) elt (tE X.K rx W0 C e)
  pi : is.pu = true
  pe : e.pu = true
  s0 : ∀ x, foldedSetIterable it0 X.env x = pure x
  s1 : ∀ env x, foldedSetIterable it1 env x = pure x
variable (O : Sc2Ok X rx W C elt tg0 it0 tg1 it1 ifs1 scope own own1 t0 t1 i0 i1 is e)
include O
theorem Sc2Ok.sub : ∀ i ∈ own1, i ∈ own.map (·.2) := fun i hi => by simpa using List.all_eq_true.mp O.hv i hi
theorem pe_sc2 : PE X (sc2E elt tg0 it0 tg1 it1 ifs1 scope pos) (tSc2 X.K X.w rx W C (own.map (·.2)) own1 t0 i0 t1 i1 is e) := ⟨fun pins s σ H Q I h => by
  rw [PpSet.eval_SetComp]
  refine sc2_core O.hc O.hN I O.qi0 (blkOk_by O.ok) O.nd O.sub O.f0 O.f1 O.qg0 O.qi1 O.qg1 O.qt1 O.qe O.pi O.pe O.s0 O.s1 h fun D A s' m H' I' q hn f => ⟨m, hn, fun h'' sb => ?_⟩
  obtain ⟨f0, f1, f2, f3, f4, f5⟩ := f
  exact ⟨.ref D, H', I'.turned (t' := s'.toks) (fun b o hb e => (sb.2 b hb).trans e) f0 f1 f3 f4 f5, rfl, q⟩⟩
theorem sw_set {y : Str} {py : Pos} {l : Nat} (hk : X.env.scope.kind = .function) (hy : X.env.scope.names.lookup y = some .local) (hl : (py.line == pos.line) = true)
    (ha : (scope.names.any fun (n, k) => n == y && (k == .local || k == .cell)) = false) : swapsWith (sc2E elt tg0 it0 tg1 it1 ifs1 scope pos) (some (.Name y py)) l X.env = pure true := by
  have ky : X.env.kindOf y = some .local := hy
  have hb : X.env.blockKind = .function := by unfold Env.blockKind; rw [hk]; rfl
  unfold swapsWith
  simp only [hb, ky, ha, Expr.pos, hl]
  rfl
theorem ps_setSc2 {i : Nat} {y : Str} {py : Pos} (hy : X.N[i]? = some y) (hyl : X.env.scope.names.lookup y = some .local) (hk : X.env.scope.kind = .function) (hl : (py.line == pos.line) = true)
    (hna : (scope.names.any fun (n, k) => n == y && (k == .local || k == .cell)) = false) :
    PS X (.Assign [.Name y py] (sc2E elt tg0 it0 tg1 it1 ifs1 scope pos) spos) (tAsg (tSc2 X.K X.w rx W C (own.map (·.2)) own1 t0 i0 t1 i1 is e) (gName i)) := ⟨fun pins s σ H D I h => by
  rw [exec_Assign_Name_used _ _ _ _ (sw_set O hk hyl hl hna)]
  refine wpAny_bind (m := standAt _) (wpAny_standAt (wpAny_bind ?_))
  show wpAny _ X.A (do let _ ← comprehension (sc2E elt tg0 it0 tg1 it1 ifs1 scope pos) scope X.env (firstIterPos [⟨tg0, it0, [], 0⟩, ⟨tg1, it1, ifs1, 0⟩] pos) (newSet (.type "set")) false (eval it0 X.env) (some (assign (.Name y py) X.env))) _ _ s
  have h' : tSc2 X.K X.w rx W C (own.map (·.2)) own1 t0 i0 t1 i1 is e σ H (fun x H1 => gName i x σ H1 D.nx) := h
  refine wpAny_bind (thn (sc2_core (Qf := fun _ s' => SP X pins D .next s') O.hc O.hN I O.qi0 (blkOk_by O.ok) O.nd O.sub O.f0 O.f1 O.qg0 O.qi1 O.qg1 O.qt1 O.qe O.pi O.pe O.s0 O.s1 h' fun S A s' m H' I' q hn f => ?_) fun _ s' hq => wpAny_pure (wpAny_pure hq))
  show wpAny _ _ (assign (.Name y py) X.env (.ref S)) _ _ _
  refine wpAny_assign_Name (store_ok2 (v := V.ref S) I' O.hN hy (.inl hyl) rfl (fun s2 I2 ⟨a, sb, ha⟩ => ?_) (.inr hyl))
  obtain ⟨f0, f1, f2, f3, f4, f5⟩ := f
  refine ⟨m, hn.sameBut sb (ha.elim (fun z => z ▸ f1) fun z e => f4 y a z e.symm), fun h3 sb3 => ⟨_, H', I2.turned (t' := s2.toks) (fun b o hb e => (sb3.2 b hb).trans e) f0 f1 f3 f4 f5, q⟩⟩⟩
end
theorem eraseDups_ok : ∀ l : List Int, l.eraseDups.Nodup ∧ ∀ x, x ∈ l.eraseDups ↔ x ∈ l := fun l => by
  refine ⟨?_, fun x => by simp⟩
  induction h : l.length using Nat.strongRecOn generalizing l with
  | ind n ih =>
    cases l with
    | nil => simp
    | cons a as =>
      rw [List.eraseDups_cons]
      refine List.nodup_cons.mpr ⟨by simp, ih _ ?_ _ rfl⟩
      have := List.length_filter_le (fun b => !b == a) as
      simp at h
      omega
theorem srtSet_uniq {ns ms : List Int} (nd : ms.Nodup) (hs : ms.Pairwise (· ≤ ·)) (hm : ∀ k, k ∈ ms ↔ k ∈ ns) : ms = srtSet ns := by
  obtain ⟨h1, h2⟩ := eraseDups_ok ns
  refine srt_uniq ((List.perm_ext_iff_of_nodup nd h1).mpr fun k => by rw [hm, h2]) hs
section
variable {X : Cx} {rx : XR} {W : WX} {C : Ctx} {own own1 : List Nat} {t0 t1 : Tg} {i0 i1 : It} {is : Es} {e : E} {σ : L2.St} {H : Hp} {Q : VK}
theorem sc2_read (h : tE X.K rx W C (.sc2 own own1 t0 i0 t1 i1 is e) σ H Q) : tSc2 X.K X.w rx W C own own1 t0 i0 t1 i1 is e σ H fun v H1 => rSortedS X.w [v] H1 Q := by
  obtain ⟨env, P, hE, h⟩ := h
  refine ⟨env, P, hE, ?_⟩
  simp only [evE] at h
  cases q : evI C true i0 env with
  | bad => rw [q] at h; exact h
  | exc x e1 => rw [q] at h; exact h
  | ok ds e1 =>
    rw [q] at h
    simp only [Res.bind] at h
    split at h
    rotate_left
    · exact h.elim
    split at h
    rotate_left
    · exact h.elim
    rename_i ns e2 hl
    split at h
    rotate_left
    · exact h.elim
    rename_i hlen
    refine ⟨ns, e2, hl, hlen, fun D S n H' P1 r1 _ hD hS nw ev _ => ⟨D, S, n, rfl, hD, fun ms p nd hs hm hp => ?_⟩⟩
    have em : ms = srtSet ns := srtSet_uniq nd hs fun k => (hm k).trans (hS k)
    subst em
    have hpH : H p = none := by
      cases qq : H p with
      | none => rfl
      | some o => exact absurd hp (ev.dom p (by rw [qq]; exact fun z => nomatch z))
    have evp : Ev No H' (upd H' p (.lst ((srtSet ns).map V.int))) := Ev.laid hp
    exact h (.ref p) _ (Tt H' P1) (fun a => a = p) (r1.tight.ev evp) ⟨p, _, No, rfl, ⟨upd_same, rfl, fun _ z => z.elim⟩, rels_ints⟩ (fun _ => ⟨fun a z y => z.2 (by rw [y]; exact hp), fun a z => .inr (by rw [z]; exact hpH)⟩) (fun a z => nw a z.1)
      ((ev.trans (evp.mono (O1 := No) fun _ z => z) fun _ z => z.elim).mono fun a z => ⟨rfl, z⟩)
theorem s_sort2 {elt tg0 it0 tg1 it1 : Expr} {ifs1 : List Expr} {scope : Scope} {own : List (PySem.Str × Nat)} {pos pos2 p : Pos} (O : Sc2Ok X rx W C elt tg0 it0 tg1 it1 ifs1 scope own own1 t0 t1 i0 i1 is e) (hg : Gl X "sorted") (hm : X.mg "sorted" = none)
    (he : starEach [sc2E elt tg0 it0 tg1 it1 ifs1 scope pos2] X.env = [(false, eval (sc2E elt tg0 it0 tg1 it1 ifs1 scope pos2) X.env)]) :
    PE X (.Call (.Name "sorted" p) [sc2E elt tg0 it0 tg1 it1 ifs1 scope pos2] [] pos) (tE X.K rx W C (.sc2 (own.map (·.2)) own1 t0 i0 t1 i1 is e)) :=
  PE.of fun σ H Q h => ⟨_, pe_callB (cr_sortedS O.hc) hg hm rfl (pa_cons (pe_sc2 O) pa_nil he) (by decide) rfl he rfl, sc2_read h⟩
/-- x = {..}; return tuple(sorted(x)) -/
theorem q_retSc2 {elt tg0 it0 tg1 it1 : Expr} {ifs1 : List Expr} {scope : Scope} {own : List (PySem.Str × Nat)} {pos spos p1 p2 p3 p4 p5 p6 py : Pos} {i : Nat} {y : Str} (O : Sc2Ok X rx W C elt tg0 it0 tg1 it1 ifs1 scope own own1 t0 t1 i0 i1 is e)
    (hy : X.N[i]? = some y) (hyl : X.env.scope.names.lookup y = some .local) (hk : X.env.scope.kind = .function) (hl : (py.line == pos.line) = true) (hna : (scope.names.any fun (n, k) => n == y && (k == .local || k == .cell)) = false)
    (hv : Vis X.env.scope y) (hd : (y == ("__debug__" : Str)) = false) (hcd : (y == ("__classdict__" : Str)) = false)
    (hg : Gl X "sorted") (hm : X.mg "sorted" = none) (hg2 : Gl X "tuple") (hm2 : X.mg "tuple" = none)
    (he : starEach [.Name y p3] X.env = [(false, eval (.Name y p3) X.env)]) (he2 : starEach [.Call (.Name "sorted" p2) [.Name y p3] [] p4] X.env = [(false, eval (.Call (.Name "sorted" p2) [.Name y p3] [] p4) X.env)]) :
    PSs X [.Assign [.Name y py] (sc2E elt tg0 it0 tg1 it1 ifs1 scope pos) spos, .Return (some (.Call (.Name "tuple" p1) [.Call (.Name "sorted" p2) [.Name y p3] [] p4] [] p5)) p6] (tSs X.K rx W C (.cons (.ret (.ap .tuple (.cons (.sc2 (own.map (·.2)) own1 t0 i0 t1 i1 is e) .nil))) .nil)) := ⟨fun pins s σ H D I ⟨env, P, hE, h⟩ => by
  have hil : i < σ.length := by rw [I.len]; exact (List.getElem?_eq_some_iff.mp hy).1
  refine (pss_cons (ps_setSc2 O hy hyl hk hl hna) (pss_cons (ps_ret (pe_callTy c_tuple hg2 hm2 rfl (pa_cons (pe_callB (cr_sortedS O.hc) hg hm rfl (pa_cons (pe_var hy hv hd hcd) pa_nil he) (by decide) rfl he rfl) pa_nil he2) (by decide) rfl he2 rfl)) pss_nil)).run pins s σ H D I ?_
  have h2 : PostS X.K rx W C.kp P σ H ((evE C (.ap .tuple (.cons (.sc2 (own.map (·.2)) own1 t0 i0 t1 i1 is e) .nil)) env).thn fun d e1 => .ret d e1) D := by
    have e0 : (fun (d : Z.D) (e1 : Env) => if (E.pth (.ap .tuple (.cons (.sc2 (own.map (·.2)) own1 t0 i0 t1 i1 is e) .nil)) && !imm d) = true then SRes.bad else .ret d e1) = fun d e1 => .ret d e1 := by
      funext d e1
      rw [show E.pth (.ap .tuple (.cons (.sc2 (own.map (·.2)) own1 t0 i0 t1 i1 is e) .nil)) = false from rfl, Bool.false_and]
      exact if_neg Bool.false_ne_true
    have e3 : evSs C (.cons (.ret (.ap .tuple (.cons (.sc2 (own.map (·.2)) own1 t0 i0 t1 i1 is e) .nil))) .nil) env = (evE C (.ap .tuple (.cons (.sc2 (own.map (·.2)) own1 t0 i0 t1 i1 is e) .nil)) env).thn fun d e1 => .ret d e1 := by
      simp only [evSs, evS, e0]
      cases evE C (.ap .tuple (.cons (.sc2 (own.map (·.2)) own1 t0 i0 t1 i1 is e) .nil)) env <;> rfl
    rw [← e3]
    exact h
  have t := ap_one (tE_mono (Q' := fun v H1 => D.rt v H1) (tS_thn hE h2) fun v H1 ⟨d, e1, P1, P2, r, rd, dj, n1, n2, ev, q⟩ => q v σ H1 P1 P2 r rd (dj rfl) (n2 rfl) n1 ev Kp.refl)
  obtain ⟨env', P', hE', t⟩ := sc2_read t
  refine ⟨env', P', hE', ?_⟩
  cases q : evI C true i0 env' with
  | bad => rw [q] at t; exact t
  | exc x e1 => rw [q] at t; exact t
  | ok ds e1 =>
    rw [q] at t
    obtain ⟨ns, e2, h3, h4, h5⟩ := t
    refine ⟨ns, e2, h3, h4, fun S f n H' P1 a1 a2 a3 a4 a5 a6 a7 => ?_⟩
    obtain ⟨a, S', n', ea, ha, hq⟩ := h5 S f n H' P1 a1 a2 a3 a4 a5 a6 a7
    cases ea
    refine ⟨.ref S, by rw [List.getElem?_set_self hil], S, S', n', rfl, ha, fun ms p nd hs hm hp => ?_⟩
    obtain ⟨d, r, P2, rd, hap, hf⟩ := hq ms p nd hs hm hp
    exact ⟨[d], r, ⟨_, _, _, rfl, rd, rfl⟩, hap, hf⟩⟩
end
end Z

/-! list(range(..)), tuple(range(..)) -/
namespace Z
open PySem PySem.Spec PyProof.Rows L2
variable [TabList]
section
variable {X : Cx} {rx : XR} {W : WX} {C : Ctx} {a b : E} {ea eb : Expr} {p p2 pos pos2 : Pos}
theorem small62_le {i : Int} (h : small62 i = true) : -(2 ^ 62) ≤ i ∧ i < 2 ^ 62 := by simp only [small62, decide_eq_true_eq] at h; omega
theorem rg_rels {K : PySem.W.Frag} {H : Hp} {i j : Int} : Rels K H (rng i j) (rgV i j) No := by
  have e1 : rng i j = ((List.range (j - i).toNat).map fun (k : Nat) => i + (k : Int)).map Z.D.int := by simp [rng]
  have e2 : rgV i j = ((List.range (j - i).toNat).map fun (k : Nat) => i + (k : Int)).map V.int := by simp [rgV]
  rw [e1, e2]
  exact rels_ints
theorem s_lrgL1 (hc : X.calm = true) (hg : Gl X "list") (hm : X.mg "list" = none) (hg2 : Gl X "range") (hm2 : X.mg "range" = none) (ha : PE X ea (tE X.K rx W C a)) (na : starEach [ea] X.env = (false, eval ea X.env) :: starEach [] X.env)
    (na2 : starEach [.Call (.Name "range" p2) [ea] [] pos2] X.env = (false, eval (.Call (.Name "range" p2) [ea] [] pos2) X.env) :: starEach [] X.env) :
    PE X (.Call (.Name "list" p) [.Call (.Name "range" p2) [ea] [] pos2] [] pos) (tE X.K rx W C (.ap (.lrg true) (.cons a .nil))) :=
  PE.of fun σ H Q h => ⟨_, pe_listRg hc hg hm (prg_1 hg2 hm2 ha na) na2, tE_mono (ap_one h) fun x H1 ⟨d, r, P2, rd, hp, hf⟩ => by
    cases d <;> simp only [PF.ap, reduceCtorEq, Option.ite_none_right_eq_some, Option.some.injEq, cond_true] at hp
    rename_i j
    obtain ⟨⟨h1, h2⟩, rfl⟩ := hp
    obtain rfl : x = .int j := rd
    have q1 := small62_le h1
    have q2 : j.toNat ≤ 16777216 := h2
    exact ⟨j, rfl, ⟨by omega, by omega, q1.1, q1.2, by omega⟩, fun q hq => hf.lst hq rg_rels⟩⟩
theorem s_lrgL2 (hc : X.calm = true) (hg : Gl X "list") (hm : X.mg "list" = none) (hg2 : Gl X "range") (hm2 : X.mg "range" = none) (ha : PE X ea (tE X.K rx W C a)) (hb : PE X eb (tE X.K rx W C b)) (na : starEach [ea, eb] X.env = (false, eval ea X.env) :: starEach [eb] X.env)
    (nb : starEach [eb] X.env = (false, eval eb X.env) :: starEach [] X.env) (hpl : (backTo pos2 (starEach [eb] X.env)).any (·.1) = false)
    (na2 : starEach [.Call (.Name "range" p2) [ea, eb] [] pos2] X.env = (false, eval (.Call (.Name "range" p2) [ea, eb] [] pos2) X.env) :: starEach [] X.env) :
    PE X (.Call (.Name "list" p) [.Call (.Name "range" p2) [ea, eb] [] pos2] [] pos) (tE X.K rx W C (.ap (.lrg true) (.cons a (.cons b .nil)))) :=
  PE.of fun σ H Q h => ⟨_, pe_listRg hc hg hm (prg_2 hg2 hm2 ha hb na nb hpl) na2, tE_mono (ap_two h) fun x H1 h => tE_mono h fun y H2 ⟨d, e, r, P2, P4, rd, re, hp, hf⟩ => by
    cases d <;> cases e <;> simp only [PF.ap, reduceCtorEq, Option.ite_none_right_eq_some, Option.some.injEq, cond_true] at hp
    rename_i i j
    obtain ⟨⟨h1, h2, h3⟩, rfl⟩ := hp
    obtain rfl : x = .int i := rd
    obtain rfl : y = .int j := re
    have q1 := small62_le h1
    have q2 := small62_le h2
    have q3 : (j - i).toNat ≤ 16777216 := h3
    exact ⟨i, j, rfl, rfl, ⟨q1.1, q1.2, q2.1, q2.2, by omega⟩, fun q hq => hf.lst hq rg_rels⟩⟩
theorem s_lrgT1 (hc : X.calm = true) (hg : Gl X "tuple") (hm : X.mg "tuple" = none) (hg2 : Gl X "range") (hm2 : X.mg "range" = none) (ha : PE X ea (tE X.K rx W C a)) (na : starEach [ea] X.env = (false, eval ea X.env) :: starEach [] X.env)
    (na2 : starEach [.Call (.Name "range" p2) [ea] [] pos2] X.env = (false, eval (.Call (.Name "range" p2) [ea] [] pos2) X.env) :: starEach [] X.env) :
    PE X (.Call (.Name "tuple" p) [.Call (.Name "range" p2) [ea] [] pos2] [] pos) (tE X.K rx W C (.ap (.lrg false) (.cons a .nil))) :=
  PE.of fun σ H Q h => ⟨_, pe_tupRg hc hg hm (prg_1 hg2 hm2 ha na) na2, tE_mono (ap_one h) fun x H1 ⟨d, r, P2, rd, hp, hf⟩ => by
    cases d <;> simp only [PF.ap, reduceCtorEq, Option.ite_none_right_eq_some, Option.some.injEq, cond_false] at hp
    rename_i j
    obtain ⟨⟨h1, h2⟩, rfl⟩ := hp
    obtain rfl : x = .int j := rd
    have q1 := small62_le h1
    have q2 : j.toNat ≤ 16777216 := h2
    exact ⟨j, rfl, ⟨by omega, by omega, q1.1, q1.2, by omega⟩, fun q hq => hf.tup hq rg_rels⟩⟩
theorem s_lrgT2 (hc : X.calm = true) (hg : Gl X "tuple") (hm : X.mg "tuple" = none) (hg2 : Gl X "range") (hm2 : X.mg "range" = none) (ha : PE X ea (tE X.K rx W C a)) (hb : PE X eb (tE X.K rx W C b)) (na : starEach [ea, eb] X.env = (false, eval ea X.env) :: starEach [eb] X.env)
    (nb : starEach [eb] X.env = (false, eval eb X.env) :: starEach [] X.env) (hpl : (backTo pos2 (starEach [eb] X.env)).any (·.1) = false)
    (na2 : starEach [.Call (.Name "range" p2) [ea, eb] [] pos2] X.env = (false, eval (.Call (.Name "range" p2) [ea, eb] [] pos2) X.env) :: starEach [] X.env) :
    PE X (.Call (.Name "tuple" p) [.Call (.Name "range" p2) [ea, eb] [] pos2] [] pos) (tE X.K rx W C (.ap (.lrg false) (.cons a (.cons b .nil)))) :=
  PE.of fun σ H Q h => ⟨_, pe_tupRg hc hg hm (prg_2 hg2 hm2 ha hb na nb hpl) na2, tE_mono (ap_two h) fun x H1 h => tE_mono h fun y H2 ⟨d, e, r, P2, P4, rd, re, hp, hf⟩ => by
    cases d <;> cases e <;> simp only [PF.ap, reduceCtorEq, Option.ite_none_right_eq_some, Option.some.injEq, cond_false] at hp
    rename_i i j
    obtain ⟨⟨h1, h2, h3⟩, rfl⟩ := hp
    obtain rfl : x = .int i := rd
    obtain rfl : y = .int j := re
    have q1 := small62_le h1
    have q2 := small62_le h2
    have q3 : (j - i).toNat ≤ 16777216 := h3
    exact ⟨i, j, rfl, rfl, ⟨q1.1, q1.2, q2.1, q2.2, by omega⟩, fun q hq => hf.tup hq rg_rels⟩⟩
end
end Z

/-! min, max of a list or tuple of ints -/
namespace Z
open PySem PySem.Spec PyProof.Rows L2
variable [TabList]
section
variable {X : Cx} {k : Nat}
theorem minOf_int (x : Int) (xs : List Int) : PySem.W.minOf x xs = xs.foldl (fun a y => if y < a then y else a) x := by
  unfold PySem.W.minOf
  congr 1
  funext a y
  show (if decide (y < a) = true then y else a) = _
  simp
theorem maxOf_int (x : Int) (xs : List Int) : PySem.W.maxOf x xs = xs.foldl (fun a y => if a < y then y else a) x := by
  unfold PySem.W.maxOf
  congr 1
  funext a y
  show (if decide (a < y) = true then y else a) = _
  simp
theorem holds_int {h : Heap} {v : Value} {i : Int} (H : PySem.W.Holds h v i) : RelV (.int i) v := by
  have := PySem.W.HoldAll.toInts (vs := [v]) (ns := [i]) (h := h) (by
    obtain ⟨as, r⟩ := H
    exact ⟨_, .cons r .nil⟩)
  cases this with
  | cons k t _ => exact ⟨t, rfl⟩
/-- the built-in's answer, on a list or a tuple -/
theorem best_ok {nm : String} {f : Int → List Int → Int} {a : Addr} {x : Int} {xs : List Int}
    (hl : ∀ {s : Shared} {l : Addr} {vs : Array Value} {Q E : Value → Shared → Prop}, s.heap.IsList l vs → PySem.W.HoldAll s.heap vs.toList (x :: xs) → (∀ v h' tk, PySem.W.Holds h' v (f x xs) → (∀ b o, s.heap.get? b = some o → h'.get? b = some o) → Q v { s with heap := h', toks := tk }) → wpAny (model X.prog X.w) X.A (call (.builtin nm) [.ref l]) Q E s)
    (ht : ∀ {s : Shared} {l : Addr} {vs : Array Value} {Q E : Value → Shared → Prop}, s.heap.IsTuple l vs → PySem.W.HoldAll s.heap vs.toList (x :: xs) → (∀ v h' tk, PySem.W.Holds h' v (f x xs) → (∀ b o, s.heap.get? b = some o → h'.get? b = some o) → Q v { s with heap := h', toks := tk }) → wpAny (model X.prog X.w) X.A (call (.builtin nm) [.ref l]) Q E s) :
    CallR X (.builtin nm) (fun vs H Q => vs = [V.ref a] ∧ (SqL X.K H a ((x :: xs).map V.int) ∨ SqT X.K H a ((x :: xs).map V.int)) ∧ Q (.int (f x xs)) H) := by
  rintro pins s σ H vs us Q I r ⟨rfl, hs, q⟩
  rw [Vals.ref1 r]
  rcases hs with hs | hs
  · obtain ⟨its, rv, hl', _⟩ := I.list hs
    exact hl hl'.isList (PySem.W.HoldAll.of_ints rv.ints) fun v h' tk hv hk => ⟨.int _, H, I.kept hk, holds_int hv, q⟩
  · obtain ⟨its, rv, hl', _⟩ := I.tuple hs
    exact ht hl' (PySem.W.HoldAll.of_ints rv.ints) fun v h' tk hv hk => ⟨.int _, H, I.kept hk, holds_int hv, q⟩
theorem rb_one {ds : List Z.D} {xs : List V} {K : PySem.W.Frag} {H : Hp} {p : PF} {r : Z.D} (hp : p.ap ds = some r) (h : p = .minI ∨ p = .maxI) (rb : RB K H ds xs) :
    ∃ a x ns, xs = [V.ref a] ∧ (SqL K H a ((x :: ns).map V.int) ∨ SqT K H a ((x :: ns).map V.int)) ∧ (p = .minI → r = .int (ns.foldl (fun a y => if y < a then y else a) x)) ∧ (p = .maxI → r = .int (ns.foldl (fun a y => if a < y then y else a) x)) := by
  rcases ds with _ | ⟨d, _ | ⟨e, ds⟩⟩
  · rcases h with rfl | rfl <;> simp [PF.ap] at hp
  rotate_left
  · rcases h with rfl | rfl <;> (cases d <;> simp [PF.ap] at hp)
  obtain ⟨v, P, rfl, rd⟩ := rb1 rb
  have key : ∀ {es : List Z.D} {m : Bool}, (d = .tup es ∨ d = .lst m es) → ∀ ns, dInts es = some ns → ∃ a, v = .ref a ∧ (SqL K H a (ns.map V.int) ∨ SqT K H a (ns.map V.int)) := by
    rintro es m (rfl | rfl) ns hn
    · obtain ⟨a, vs, rfl, s1, r1⟩ := rd
      obtain rfl := ints_of r1 hn
      exact ⟨a, rfl, .inr s1⟩
    · obtain ⟨a, vs, Q1, rfl, s1, r1⟩ := rd
      obtain rfl := ints_of r1 hn
      exact ⟨a, rfl, .inl (.inl s1.rd)⟩
  rcases h with rfl | rfl
  all_goals
    cases d <;> simp only [PF.ap, reduceCtorEq, Option.bind_eq_some_iff] at hp
    all_goals
      obtain ⟨ns, hn, hr⟩ := hp
      cases ns with
      | nil => simp [mnI, mxI] at hr
      | cons x ns =>
        simp only [mnI, mxI, Option.some.injEq] at hr
        first
          | (obtain ⟨a, rfl, hs⟩ := key (m := true) (.inl rfl) _ hn; exact ⟨a, x, ns, rfl, hs, (fun z => by first | exact hr.symm | cases z), (fun z => by first | exact hr.symm | cases z)⟩)
          | (obtain ⟨a, rfl, hs⟩ := key (.inr rfl) _ hn; exact ⟨a, x, ns, rfl, hs, (fun z => by first | exact hr.symm | cases z), (fun z => by first | exact hr.symm | cases z)⟩)
theorem c_minI (hc : X.calm = true) (hr : Room k X.A) : CallR X (.builtin "min") (rNP X.K .minI) := by
  refine CallR.of fun xs H Q ⟨ds, r, rb, ha, hf⟩ => ?_
  obtain ⟨a, x, ns, rfl, hs, h1, _⟩ := rb_one ha (.inl rfl) rb
  obtain rfl := h1 rfl
  have hu : X.A.units + 1 + PySem.W.Datum.depth Int < cLine := by have := hr.un; show X.A.units + 1 + 0 < cLine; omega
  refine ⟨_, best_ok (f := PySem.W.minOf) (a := a) (x := x) (xs := ns) (fun hl H h => PySem.W.min_list_datum hr.hd hl H hu fun _ v h' tk _ hv hk => h v h' tk hv hk) (fun hl H h => PySem.W.min_tuple_datum hr.hd hl H hu fun _ v h' tk _ hv hk => h v h' tk hv hk), rfl, hs, ?_⟩
  rw [minOf_int]
  exact hf.int
theorem c_maxI (hc : X.calm = true) (hr : Room k X.A) : CallR X (.builtin "max") (rNP X.K .maxI) := by
  refine CallR.of fun xs H Q ⟨ds, r, rb, ha, hf⟩ => ?_
  obtain ⟨a, x, ns, rfl, hs, _, h1⟩ := rb_one ha (.inr rfl) rb
  obtain rfl := h1 rfl
  have hu : X.A.units + 1 + PySem.W.Datum.depth Int < cLine := by have := hr.un; show X.A.units + 1 + 0 < cLine; omega
  refine ⟨_, best_ok (f := PySem.W.maxOf) (a := a) (x := x) (xs := ns) (fun hl H h => PySem.W.max_list_datum hr.hd hl H hu fun _ v h' tk _ hv hk => h v h' tk hv hk) (fun hl H h => PySem.W.max_tuple_datum hr.hd hl H hu fun _ v h' tk _ hv hk => h v h' tk hv hk), rfl, hs, ?_⟩
  rw [maxOf_int]
  exact hf.int
end
end Z

/-! defs that are called in an except suite -/
namespace Z
open PySem PySem.Spec L2
open PyProof.Rows (envOfC)
variable [TabList]
section
variable {X : Cx} {k : Nat}
theorem o_eqH (hr : L2H.RoomH k X.A) : OpR X (compareOp .Eq) (r2P X.K .eq) := by
  refine OpR.of fun x y H Q ⟨d, e, r, P2, P4, rd, re, ha, hf⟩ => ?_
  simp only [PF.ap, dEq, Option.map_eq_some_iff, Option.bind_eq_some_iff, Option.ite_none_right_eq_some, Option.some.injEq, Bool.and_eq_true] at ha
  obtain ⟨b, ⟨x1, h1, x2, h2, ⟨h3, h4⟩, rfl⟩, rfl⟩ := ha
  exact ⟨_, op_eqD (by have := hr.un; omega), x1, x2, dp_of rd h1, dp_of re h2, h3, h4, hf.bl⟩
theorem o_neH (hr : L2H.RoomH k X.A) : OpR X (compareOp .NotEq) (r2P X.K .ne) := by
  refine OpR.of fun x y H Q ⟨d, e, r, P2, P4, rd, re, ha, hf⟩ => ?_
  simp only [PF.ap, dEq, Option.map_eq_some_iff, Option.bind_eq_some_iff, Option.ite_none_right_eq_some, Option.some.injEq, Bool.and_eq_true] at ha
  obtain ⟨b, ⟨x1, h1, x2, h2, ⟨h3, h4⟩, rfl⟩, rfl⟩ := ha
  exact ⟨_, op_neD (by have := hr.un; omega), x1, x2, dp_of rd h1, dp_of re h2, h3, h4, hf.bl⟩
theorem ix_dictH (hr : L2H.RoomH k X.A) : IxR X (fun x y H Q => ∃ a v, x = .ref a ∧ DGet H a y (some v) ∧ Q v H) := by
  intro value slice pins s σ H x y v u Q I rx ry h hs
  obtain ⟨a, w, rfl, g, q⟩ := h
  obtain rfl : v = Value.ref a := rx
  have hT := dict_typeIs I g
  unfold PyProof.Rows.subscriptTail
  refine wpAny_bind ?_
  rw [getitemInPython_of_ne hT.not_modules]
  refine wpAny_bind (wpAny_specialOf hT PySem.F.slot_dict_getitem.lookup ?_)
  have fin : wpAny (model X.prog X.w) X.A (subscripted slice false (.ref a) u) (fun r s₃ => wpAny (model X.prog X.w) X.A (letTemporaryGo value (.ref a) r >>= fun _ => pure r) (EP X pins σ Q) X.xe s₃) X.xe s := by
    rw [hs]
    exact wpAny_operating (d_getItem (by have := hr.un; omega) I g ry fun w' s3 I3 rw' => wpAny_bind (wpAny_letTemporaryGo (wpAny_pure ⟨w, H, I3, rw', q⟩)))
  first
    | exact wpAny_pure (wpAny_bind fin)
    | exact wpAny_bind (wpAny_pure (wpAny_bind fin))
    | exact wpAny_bind fin
theorem ix_stepH (hr : L2H.RoomH k X.A) : IxR X (rStep X.K) := by
  refine IxR.of fun x y H Q ⟨d, e, r, P2, P4, rd, re, ha, hf⟩ => ?_
  cases d <;> simp only [opIdx, reduceCtorEq] at ha
  · cases e <;> simp only [reduceCtorEq, Option.ite_none_right_eq_some, Option.map_eq_some_iff] at ha
    obtain ⟨h1, c, hc, rfl⟩ := ha
    exact ⟨_, ix_str, _, _, c, rd, re, by rw [← lim_eq]; exact h1, hc, hf _ No (fun _ z => z.elim) rfl⟩
  · cases e <;> simp only [reduceCtorEq] at ha
    obtain ⟨a, vs, rfl, s1, r1⟩ := rd
    obtain ⟨v, P1, e1, sb, r2⟩ := r1.atI ha
    exact ⟨_, ix_tup, a, vs, _, v, rfl, re, s1, e1, hf v P1 sb r2⟩
  · cases e <;> simp only [reduceCtorEq] at ha
    obtain ⟨a, vs, Q1, rfl, s1, r1⟩ := rd
    obtain ⟨v, P1, e1, sb, r2⟩ := r1.atI ha
    exact ⟨_, ix_list, a, vs, _, v, rfl, re, .inl s1.rd, e1, hf v P1 (fun a z => s1.sub a (sb a z)) r2⟩
  · obtain ⟨q, hq, hl⟩ := Option.bind_eq_some_iff.mp ha
    obtain ⟨a, kvs, Q1, rfl, s1, ⟨rfl, nd⟩, r1⟩ := rd
    rcases look_val (k := q) r1 with ⟨h1, _⟩ | ⟨d', v', P1, h1, h2, h3, h4⟩
    · rw [h1] at hl; cases hl
    · rw [h1] at hl
      cases hl
      exact ⟨_, ix_dictH hr, a, v', rfl, .inl ⟨kvs, q, s1.rd, key_val re hq, h2.symm⟩, hf v' P1 (fun a z => s1.sub a (h3 a z)) h4⟩
end
section
variable {X : Cx} {rx : XR} {W : WX} {C : Ctx} {a b : E} {ea eb : Expr} {pos p : Pos} {k : Nat} {tg : Expr} {pur : Bool} {t : Tg} {sb : List Stmt}
theorem s_pidxH (hr : L2H.RoomH k X.A) (ha : PE X ea (tE X.K rx W C a)) (hb : PE X eb (tE X.K rx W C b)) (hs : PlainIx eb) : PE X (.Subscript ea eb pos) (tE X.K rx W C (.pidx a b)) :=
  PE.of fun σ H Q h => ⟨_, pe_ix (ix_stepH hr) ha hb hs, tE_pidx h⟩
theorem PIH.of {e : Expr} {t' : TI} (h : ∀ σ H R, t' σ H R → ∃ t, L2H.PIH X tg e t ∧ t σ H R) : L2H.PIH X tg e t' := ⟨fun pins s σ H R I hw => let ⟨_, a, b⟩ := h σ H R hw; a.run pins s σ H R I b⟩
theorem i_rng1H (hg : Gl X "range") (hm : X.mg "range" = none) (ha : PA X [ea] (tB' X.K rx W C (.cons a .nil))) (hs : starEach [ea] X.env = [(false, eval ea X.env)]) : L2H.PIH X tg (.Call (.Name "range" p) [ea] [] pos) (tI X.K rx W C pur (.rng1 a)) :=
  PIH.of fun σ H R ⟨env, P, hE, h⟩ => by
    refine ⟨_, L2H.pi_range1H hg hm ha hs, env, P, hE, ?_⟩
    simp only [evI] at h
    simp only [evEs]
    cases q : evE C a env with
    | bad => rw [q] at h; exact h.elim
    | exc x e1 => rw [q] at h; exact h
    | ok d e1 =>
      rw [q] at h
      simp only [Res.bind] at h ⊢
      cases d <;> simp only [PostI] at h
      rename_i j
      by_cases hc : small62 j = true
      · rw [if_pos hc] at h
        have hi : (a.pth && !Es.pu .nil && !imm (D.int j)) = false := by simp [Es.pu]
        rw [hi]
        intro vs H1 P1 r rb hn ev
        obtain ⟨v, vs', P2, rfl, rd, rb⟩ := rb
        obtain rfl : vs' = [] := rb
        obtain rfl : v = .int j := rd
        have hj : -(2 ^ 62) ≤ j ∧ j < 2 ^ 62 := by have hc' := hc; simp only [small62, decide_eq_true_eq] at hc'; omega
        refine ⟨j, rfl, hj.1, hj.2, h _ H1 P1 r ?_ hn ev.eo⟩
        have := walk_rng (K := X.K) (lo := 0) (hi := j) (P := eO pur P1) (H := H1)
        rwa [Int.sub_zero] at this
      · rw [if_neg hc] at h; exact h.elim
theorem q_forH {it : It} {ie : Expr} {b : Ss} (hp : PassesOwn (model X.prog X.w) X.A X.env X.xe) (hc : L2H.HotC X) (hi : L2H.PIH X tg ie (tI X.K rx W C false it)) (hg : PG X tg (tG X.K C.kp t)) (hb : PSs X sb (tSs X.K rx W C b)) (hs : ∀ x, foldedSetIterable ie X.env x = pure x) : PS X (.For tg ie sb [] pos) (tS X.K rx W C (.for t it b)) :=
  PS.of fun D σ H ⟨env, P, hE, h⟩ => ⟨_, L2H.ps_forH hp hc hi hg hb hs, by
    simp only [evS] at h
    refine ⟨env, P, hE, ?_⟩
    cases q : evI C false it env with
    | bad => rw [q] at h; exact h.elim
    | exc x e1 => rw [q] at h; exact fun c dd H' P1 r rr n e => h c dd σ H' P1 r rr n e Kp.refl
    | ok ds e1 =>
      rw [q] at h
      simp only [Res.thn] at h
      intro J H1 P1 r1 w n1 ev1
      have w : Walk X.K J ds P1 H1 := fun H2 e => w H2 (e.mono fun _ z => ⟨rfl, z⟩)
      split at h
      rotate_left
      · exact h.elim
      rename_i hfree
      have h1 := PostS.on h n1 ev1 (Kp.refl (σ := σ))
      refine ⟨fun i m σ' H' => m = ds.length - i ∧ ∃ env' P', RelE X.K H' env' σ' P' ∧ Ev P1 H1 H' ∧ New P1 H1 P' ∧ PostS X.K rx W C.kp P' σ' H' (forLoop t (evSs C b) (ds.drop i) env') D, ⟨ds.length, by simp, e1, P1, r1, Ev.refl, New.refl, by simpa using h1⟩, fun i m σ2 H2 ⟨hm, env2, P2, r2, ev2, n2, h2⟩ => ?_⟩
      obtain ⟨w1, w2⟩ := w H2 ev2
      by_cases hl : i < ds.length
      · obtain ⟨d, hd⟩ : ∃ d, ds[i]? = some d := ⟨ds[i], List.getElem?_eq_getElem hl⟩
        obtain ⟨go, yl⟩ := w2 i d hd
        have e3 : ds.drop i = d :: ds.drop (i + 1) := by
          obtain ⟨h3, rfl⟩ := List.getElem?_eq_some_iff.mp hd
          exact List.drop_eq_getElem_cons h3
        rw [e3] at h2
        simp only [forLoop] at h2
        refine .inr ⟨go, fun σ' H' => ∃ env' P', RelE X.K H' env' σ' P' ∧ Ev P1 H1 H' ∧ New P1 H1 P' ∧ PostS X.K rx W C.kp P' σ' H' (forLoop t (evSs C b) (ds.drop (i + 1)) env') D, fun σ' H' z => ⟨ds.length - (i + 1), by omega, rfl, z⟩, fun x H3 hy => ?_⟩
        obtain ⟨ev3, rd⟩ := yl x H3 hy
        cases q2 : bindT t d env2 with
        | none => rw [q2] at h2; exact h2.elim
        | some e4 =>
          rw [q2] at h2
          have ev3' : Ev P2 H2 H3 := ev3.of_no
          refine ⟨hfree, d, env2, P2, No, e4, r2.ev ev3, rd, fun _ _ z => z, q2, fun σ4 r4 k4 => ?_⟩
          have n4 : New P2 H2 (Uni P2 No) := fun a z => z.elim .inl fun z => z.elim
          have h4 := PostS.on h2 n4 ev3' k4
          refine ⟨e4, _, r4, ?_⟩
          simp only at h4
          have on : ∀ {H' : Hp} {P' : Own}, Ev (Uni P2 No) H3 H' → New (Uni P2 No) H3 P' → Ev P1 H1 H' ∧ New P1 H1 P' := fun {H' P'} ev n => by
            have a1 := ev2.trans ev3' n2
            have a2 : New P1 H1 (Uni P2 No) := n2.trans ev2 n4
            exact ⟨a1.trans ev a2, a2.trans a1 n⟩
          cases q5 : evSs C b e4 with
          | next e5 => rw [q5] at h4; exact fun σ' H' P' r n ev k => ⟨e5, P', r, (on ev n).1, (on ev n).2, PostS.on h4 n ev k⟩
          | cnt e5 => rw [q5] at h4; exact fun σ' H' P' r n ev k => ⟨e5, P', r, (on ev n).1, (on ev n).2, PostS.on h4 n ev k⟩
          | brk e5 => rw [q5] at h4; exact h4
          | ret d e5 => rw [q5] at h4; exact h4
          | exc x e5 => rw [q5] at h4; exact h4
          | bad => rw [q5] at h4; exact h4.elim
      · have e3 : ds.drop i = [] := List.drop_eq_nil_iff.mpr (by omega)
        rw [e3] at h2
        exact .inl ⟨w1 i (by omega), h2 σ2 H2 P2 r2 New.refl Ev.refl Kp.refl⟩⟩
end

def FnAtH (X : Cx) (rx : XR) (k : Nat) (x : Str) (sem : List D → CRes) : Prop :=
  ∃ f fd ps, L2H.FnH X.prog X.w X.K X.mg X.base (L2N.CX X.prog X.w) k f fd ps (spF X.K rx sem) ∧ X.mg x = some (.ref f) ∧ PySem.W.keepIn X.K (.ref f) = true ∧ L2.Binds X.K fd ps []
def FnWH (P : Program) (w : World) (K : PySem.W.Frag) (mg : Str → Option Value) (base : Heap) (rx : XR) (k : Nat) (x : Str) (sem : List D → CRes) : Prop :=
  ∃ f fd ps, L2H.FnH P w K mg base (L2N.CX P w) k f fd ps (spF K rx sem) ∧ mg x = some (.ref f) ∧ PySem.W.keepIn K (.ref f) = true ∧ L2.Binds K fd ps []
theorem FnWH.at {X : Cx} {rx : XR} {k : Nat} {x : Str} {sem : List D → CRes} (h : FnWH X.prog X.w X.K X.mg X.base rx k x sem) : FnAtH X rx k x sem := h
theorem fn_zeroH {P : Program} {w : World} {K : PySem.W.Frag} {mg : Str → Option Value} {base : Heap} {rx : XR} {k : Nat} {f : Addr} {fd : FuncData} {ps : List Str} {sem : List D → CRes} (h : ∀ ds, sem ds = .bad) : L2H.FnH P w K mg base (L2N.CX P w) k f fd ps (spF K rx sem) :=
  ⟨fun vs H Q E ⟨_, ds, P, r, q⟩ => by rw [h] at q; exact q.elim, fun A outer s H args us vs Q E p _ _ _ _ _ _ ⟨_, ds, P, r, q⟩ => by rw [h] at q; exact q.elim⟩
section
variable {X : Cx} {rx : XR} {W : WX} {C : Ctx} {es : Es} {e : Expr} {el nl : List Expr} {pos p tp pos2 : Pos} {x : Str} {k f : Nat}
theorem s_callH (F : FnAtH X rx k x (C.call f)) (hr : L2H.RoomH k X.A) (hc : L2H.HotC X) (tk : L2N.Takes X W) (hg : Gl X x) (ha : PA X (e :: el) (tCs X.K rx W C es)) (hdb : (x == ("__debug__" : Str)) = false)
    (he : starEach (e :: el) X.env = (false, eval e X.env) :: starEach el X.env) (hpl : (backTo pos (starEach el X.env)).any (·.1) = false) : PE X (.Call (.Name x p) (e :: el) [] pos) (tE X.K rx W C (.call f es)) := by
  obtain ⟨fa, fd, ps, F, hm, hk, hb⟩ := F
  exact PE.of fun σ H Q h => ⟨_, L2H.pe_callH F hr hc hg hm hk hb (E := fun σ => WE W σ) (fun σ => passAtN tk σ) ha hdb he hpl, tE_call h⟩
def tVs (ws : List Nat) : TA := fun σ H Q => ∃ ys, SlV σ ws ys ∧ Q ys H
theorem hv_nil : PA X [] (tVs []) := PA.of fun σ H Q ⟨ys, e, q⟩ => ⟨_, pa_nil, by obtain rfl : ys = [] := e; exact q⟩
theorem hv_cons {i : Nat} {y : Str} {yp : Pos} {ws : List Nat} (hN : X.N[i]? = some y) (hv : Vis X.env.scope y) (hd : (y == ("__debug__" : Str)) = false) (hcd : (y == ("__classdict__" : Str)) = false) (hr : PA X el (tVs ws))
    (hs : starEach (.Name y yp :: el) X.env = (false, eval (.Name y yp) X.env) :: starEach el X.env) : PA X (.Name y yp :: el) (tVs (i :: ws)) :=
  PA.of fun σ H Q ⟨ys, ⟨v, ys', e, h1, h2⟩, q⟩ => ⟨_, pa_cons (pe_var hN hv hd hcd) hr hs, v, h1, ys', h2, by subst e; exact q⟩
theorem hot_suite {a : Addr} {oe : Obj} {pn : List (Addr × Obj)} {cls : Value} {d : Option Addr} (hz : L2N.Zn cls d oe) (hf : ∃ vs, oe.data = .fields vs) : L2H.HotC (X.suite a ((a, oe) :: pn)) :=
  let ⟨vs, h⟩ := hf
  ⟨(a, oe), ⟨rfl, vs, h, hz.2.2 vs h⟩, .head _⟩
theorem h_call {a dd : Addr} {oe : Obj} {pn : List (Addr × Obj)} {cls : Value} {d : Option Addr} {i : Nat} {fl : List Str} {vs : List V} {ps : List HE} {ws : List Nat} {x1} (F : FnAtH X rx k x (C.call f)) (hr : Room k X.A) (hz : L2N.Zn cls d oe) (hf : ∃ vs, oe.data = .fields vs) (hg : Gl X x)
    (ha : PA (X.suite a ((a, oe) :: pn)) el (tHps i a dd fl vs ps)) (hw : PA (X.suite a ((a, oe) :: pn)) nl (tVs ws)) (hdb : (x == ("__debug__" : Str)) = false) (he : starEach (.Tuple el x1 tp :: nl) X.env = (false, eval (.Tuple el x1 tp) X.env) :: starEach nl X.env)
    (hpl : (backTo pos (starEach nl X.env)).any (·.1) = false) :
    PSs (X.suite a ((a, oe) :: pn)) [.Return (some (.Call (.Name x p) (.Tuple el x1 tp :: nl) [] pos)) pos2] (tHR (fun f => spF X.K rx (C.call f)) i a dd fl vs (.call f ps ws)) := by
  obtain ⟨fa, fd, pps, F, hm, hk, hb⟩ := F
  refine PSs.of fun D σ H ⟨fx, hl, ys, sl, h⟩ => ⟨_, pss_cons (ps_ret (L2H.pe_callH (X := X.suite a ((a, oe) :: pn)) (E := fun _ _ _ _ => False) F ⟨hr.dp, hr.un⟩ (hot_suite hz hf) hg hm hk hb (fun σ pins H s e s' I z => ?_) (pa_cons (pe_tup ha) hw he) hdb he hpl)) pss_nil, fx, fun us hu => ⟨by rw [pvs_len hu, sizeLine_eq]; omega, fun q hq => ⟨ys, sl, h us q hu hq⟩⟩⟩
  obtain ⟨_, _, _, _, _, _, _, _, _, _, _, _, z⟩ := z
  exact z.elim
end
section
variable {P : Program} {w : World} {K : PySem.W.Frag} {mg : Str → Option Value} {base : Heap} {rx : XR} {x qual : Str} {params : Arguments} {body : List Stmt} {scope : Scope} {dvs : List V} {kws : List (Str × V)} {f : Addr} {fd : FuncData} {N ps : List Str} {k : Nat} {call : Nat → List D → CRes} {p : He.Defn}
  {cd : Value} {A : Around} {outer : List PySem.Env} {s : Shared} {H : Hp} {E : XK} {q : Addr × Obj}
theorem takes_cxH : L2N.Takes (L2H.cxH (L2N.CX P w) P w K mg base N qual scope f cd A outer s H E q) (fun cls d _ H' => E cls d H') := L2N.takes_of rfl rfl rfl rfl
theorem owns_cxH : PassesOwn (model P w) (L2H.cxH (L2N.CX P w) P w K mg base N qual scope f cd A outer s H E q).A (L2H.cxH (L2N.CX P w) P w K mg base N qual scope f cd A outer s H E q).env (L2H.cxH (L2N.CX P w) P w K mg base N qual scope f cd A outer s H E q).xe :=
  passes_of (X := L2H.cxH (L2N.CX P w) P w K mg base N qual scope f cd A outer s H E q) (K := fun e s'' => L2N.CX P w outer H s E e s'') (E₁ := fun e s'' => L2N.CX P w outer H s E e s'') rfl
theorem hot_cxH (h : L2H.Hot1 A q) : L2H.HotC (L2H.cxH (L2N.CX P w) P w K mg base N qual scope f cd A outer s H E q) := ⟨q, ⟨h.1, h.2⟩, .head _⟩
theorem fd_okH (hf : f = He.fAd K p) (F : FunD K x qual params body scope dvs kws f fd) (S : FnScope N ps scope) (I : Fd) (hp : ps.length = I.np) (hn : N.length = I.n)
    (hb : ∀ (cdv : Value) (A : Around) (outer : List PySem.Env) (s : Shared) (H : Hp) (E : XK) (q : Addr × Obj), cdv = .ref (He.codeOf K p) → L2H.Hot1 A q → L2H.RoomH k (A.deeper (envOfC qual scope s.heap.objs.size f cdv)) → PSs (L2H.cxH (L2N.CX P w) P w K mg base N qual scope f cdv A outer s H E q) body (tSs K rx (fun c d _ H' => E c d H') { call := call, kp := I.kp } I.body)) :
    L2H.FnH P w K mg base (L2N.CX P w) (k + 1) f fd ps (spF K rx (I.run call)) := by
  have hlen : ∀ vs H Q E, spF K rx (I.run call) vs H Q E → vs.length = ps.length := fun vs H Q E ⟨_, ds, P, r, h⟩ => by
    rw [← r.length, hp]
    unfold Fd.run at h
    split at h
    · rename_i d fin q
      split at q
      · assumption
      · cases q
    · rename_i d fin q
      split at q
      · assumption
      · cases q
    · exact h.elim
  obtain ⟨oc, od, dV, kV, doc, pm, an, cdv, ct, osl, rfl, lk, hcd, _, _⟩ := F.ex
  refine L2H.fn_ofH lk hcd S hlen fun A outer s H vs Q E q hot hr hsp => ⟨_, hb cdv A outer s H E q ?_ hot hr, fd_start (P := P) (w := w) (ps := ps) (N := N) I hp hn (hlen _ _ _ _ hsp) hsp⟩
  obtain ⟨c, rfl⟩ := He.codeIn_ref hcd
  subst hf
  rw [He.codeOf_eq lk rfl]
end
end Z

/-! a walk over a list that its owner may change later; a cut with both ends -/
namespace Z
open PySem PySem.Spec L2
variable [TabList]
section
variable {X : Cx} {rx : XR} {W : WX} {C : Ctx} {a b c : E} {ea eb ec : Expr} {pos p2 : Pos} {t : Tg} {tg : Expr} {sb : List Stmt} {σ : L2.St} {H : Hp} {D : Ends}
open PyProof.Rows in
theorem pe_cut2 {r : V → Option Int → Option Int → Hp → VK → Prop} {ta tb tc : TE} (hr : SlR X r) (ha : PE X ea ta) (hb : PE X eb tb) (hc : PE X ec tc) :
    PE X (.Subscript ea (.Slice (some eb) (some ec) none p2) pos) (fun σ H Q => ta σ H fun x H1 => tb σ H1 fun y H2 => tc σ H2 fun z H3 => ∃ i j : Int, y = .int i ∧ z = .int j ∧ r x (some i) (some j) H3 Q) := by
  refine ⟨fun pins s σ H Q I h => Subscript_ (thn (ha.run pins s σ H _ I h) fun v s1 ⟨x, H1, I1, rx, h1⟩ => wpAny_Slice ?_)⟩
  rw [evalPart_some]
  refine thn (hb.run pins s1 σ H1 _ I1 h1) fun vl s2 ⟨y, H2, I2, ry, h2⟩ => ?_
  rw [evalPart_some]
  refine thn (hc.run pins s2 σ H2 _ I2 h2) fun vu s3 ⟨z, H3, I3, rz, i, j, ey, ez, h3⟩ => ?_
  subst ey ez
  obtain ⟨t1, rfl⟩ := ry
  obtain ⟨t2, rfl⟩ := rz
  rw [evalPart_none]
  refine wpAny_pure ?_
  obtain ⟨T, id, g1, g2, g3⟩ := hr pins _ σ H3 x v _ _ (some i) (some j) _ Q (I3.kept (t' := s3.toks) fun b ob q => Heap.get?_push_of_some _ q) rx (Heap.IsSliceOf.new ..) (.int i t1) (.int j t2) h3
  exact tail_any (ops := [.ref s3.heap.objs.size, v]) g2 g1 g3 (by with_unfolding_all rfl)
theorem s_cutLH (ha : PE X ea (tE X.K rx W C a)) (hb : PE X eb (tE X.K rx W C b)) (hc : PE X ec (tE X.K rx W C c)) (_h : True = True) : PE X (.Subscript ea (.Slice (some eb) (some ec) none p2) pos) (tE X.K rx W C (.ap (.slc true true) (.cons a (.cons b (.cons c .nil))))) :=
  PE.of fun σ H Q h => ⟨_, pe_cut2 sl_cut ha hb hc, tE_mono (ap_three h) fun x H1 h1 => tE_mono h1 fun y H2 h2 => tE_mono h2 fun z H3 ⟨d, e, f, r, P2, P4, P6, rd, re, rf, hp, hf⟩ => by
    cases e <;> cases f <;> simp only [PF.ap, reduceCtorEq] at hp
    obtain rfl : y = .int _ := re
    obtain rfl : z = .int _ := rf
    exact ⟨_, _, rfl, rfl, d, r, P2, rd, hp, hf⟩⟩
theorem for_wish {b : Ss} {ds : List Z.D} {e1 : Z.Env} {J : L2.It} {P1 : Own} {H1 : Hp} (r1 : RelE X.K H1 e1 σ P1) (w : Walk X.K J ds P1 H1) (hfree : t.free C.kp = true) (h1 : PostS X.K rx W C.kp P1 σ H1 (forLoop t (evSs C b) ds e1) D) :
    ∃ WW : Nat → Nat → L2.St → Hp → Prop, (∃ m, WW 0 m σ H1) ∧ ∀ i m σ H, WW i m σ H → (J.stop i H ∧ D.nx σ H) ∨ (J.go i H ∧ ∃ N : L2.St → Hp → Prop, (∀ σ' H', N σ' H' → ∃ m', m' < m ∧ WW (i + 1) m' σ' H') ∧ ∀ x H', J.yld i H x H' → tG X.K C.kp t x σ H' fun σ2 H2 => tSs X.K rx W C b { D with nx := N, ct := N, bk := D.nx } σ2 H2) := by
  refine ⟨fun i m σ' H' => m = ds.length - i ∧ ∃ env' P', RelE X.K H' env' σ' P' ∧ Ev P1 H1 H' ∧ New P1 H1 P' ∧ PostS X.K rx W C.kp P' σ' H' (forLoop t (evSs C b) (ds.drop i) env') D, ⟨ds.length, by simp, e1, P1, r1, Ev.refl, New.refl, by simpa using h1⟩, fun i m σ2 H2 ⟨hm, env2, P2, r2, ev2, n2, h2⟩ => ?_⟩
  obtain ⟨w1, w2⟩ := w H2 ev2
  by_cases hl : i < ds.length
  · obtain ⟨d, hd⟩ : ∃ d, ds[i]? = some d := ⟨ds[i], List.getElem?_eq_getElem hl⟩
    obtain ⟨go, yl⟩ := w2 i d hd
    have e3 : ds.drop i = d :: ds.drop (i + 1) := by
      obtain ⟨h3, rfl⟩ := List.getElem?_eq_some_iff.mp hd
      exact List.drop_eq_getElem_cons h3
    rw [e3] at h2
    simp only [forLoop] at h2
    refine .inr ⟨go, fun σ' H' => ∃ env' P', RelE X.K H' env' σ' P' ∧ Ev P1 H1 H' ∧ New P1 H1 P' ∧ PostS X.K rx W C.kp P' σ' H' (forLoop t (evSs C b) (ds.drop (i + 1)) env') D, fun σ' H' z => ⟨ds.length - (i + 1), by omega, rfl, z⟩, fun x H3 hy => ?_⟩
    obtain ⟨ev3, rd⟩ := yl x H3 hy
    cases q2 : bindT t d env2 with
    | none => rw [q2] at h2; exact h2.elim
    | some e4 =>
      rw [q2] at h2
      have ev3' : Ev P2 H2 H3 := ev3.of_no
      refine ⟨hfree, d, env2, P2, No, e4, r2.ev ev3, rd, fun _ _ z => z, q2, fun σ4 r4 k4 => ?_⟩
      have n4 : New P2 H2 (Uni P2 No) := fun a z => z.elim .inl fun z => z.elim
      have h4 := PostS.on h2 n4 ev3' k4
      refine ⟨e4, _, r4, ?_⟩
      simp only at h4
      have on : ∀ {H' : Hp} {P' : Own}, Ev (Uni P2 No) H3 H' → New (Uni P2 No) H3 P' → Ev P1 H1 H' ∧ New P1 H1 P' := fun {H' P'} ev n => by
        have a1 := ev2.trans ev3' n2
        have a2 : New P1 H1 (Uni P2 No) := n2.trans ev2 n4
        exact ⟨a1.trans ev a2, a2.trans a1 n⟩
      cases q5 : evSs C b e4 with
      | next e5 => rw [q5] at h4; exact fun σ' H' P' r n ev k => ⟨e5, P', r, (on ev n).1, (on ev n).2, PostS.on h4 n ev k⟩
      | cnt e5 => rw [q5] at h4; exact fun σ' H' P' r n ev k => ⟨e5, P', r, (on ev n).1, (on ev n).2, PostS.on h4 n ev k⟩
      | brk e5 => rw [q5] at h4; exact h4
      | ret d e5 => rw [q5] at h4; exact h4
      | exc x e5 => rw [q5] at h4; exact h4
      | bad => rw [q5] at h4; exact h4.elim
  · have e3 : ds.drop i = [] := List.drop_eq_nil_iff.mpr (by omega)
    rw [e3] at h2
    exact .inl ⟨w1 i (by omega), h2 σ2 H2 P2 r2 New.refl Ev.refl Kp.refl⟩
theorem putBack_post {i : Nat} {d : Z.D} {v : V} {P P1 P2 : Own} {r : SRes} {kp : Nat → Bool} (sp : Sep P P1 P2) (rd : Rel X.K H d v P1) (hv : σ[i]? = some (some v)) (hk : kp i = true) (h : PostS X.K rx W kp P σ H (putBack i d r) D) : PostS X.K rx W kp P2 σ H r D := by
  have main : ∀ {H' : Hp} {σ' : L2.St} {e : Z.Env} {P' : Own}, RelE X.K H' e σ' P' → New P2 H P' → Ev P2 H H' → Kp kp σ σ' → RelE X.K H' (e.set i (some d)) σ' (Uni (Tt H P1) P') ∧ New P H (Uni (Tt H P1) P') := fun {H' σ' e P'} rE n ev k => by
    refine ⟨RelE.put (P1 := Tt H P1) rE.drop' (Sep.uni fun a z y => (n a y).elim (fun y => sp.2.2 a z.1 y) fun y => z.2 y) (rd.tight.frame ev fun a z => sp.2.2 a z.1) (by rw [k i hk]; exact hv), fun a z => z.elim (fun z => .inl (sp.1 a z.1)) fun z => (n a z).imp (sp.2.1 a) id⟩
  cases r with
  | next e => exact fun σ' H' P' rE n ev k => h σ' H' _ (main rE n ev k).1 (main rE n ev k).2 (ev.mono sp.2.1) k
  | ret x e =>
    exact fun v2 σ' H' P' P3 rE rd3 dj n3 n ev k => h v2 σ' H' _ P3 (main rE n ev k).1 rd3 (fun a z y => z.elim (fun z => (n3 a y).elim (fun y => sp.2.2 a z.1 y) fun y => z.2 y) fun z => dj a z y) (fun a z => (n3 a z).imp (sp.2.1 a) id) (main rE n ev k).2 (ev.mono sp.2.1) k
  | exc x e => exact fun c dd σ' H' P' rE hx n ev k => h c dd σ' H' _ (main rE n ev k).1 hx (main rE n ev k).2 (ev.mono sp.2.1) k
  | brk e => exact h.elim
  | cnt e => exact h.elim
  | bad => exact h.elim
theorem q_forL {i : Nat} {y : Str} {yp : Pos} {b : Ss} (hp : PassesOwn (model X.prog X.w) X.A X.env X.xe) (hc : X.calm = true) (hN : X.N[i]? = some y) (hv : Vis X.env.scope y) (hd : (y == ("__debug__" : Str)) = false) (hcd : (y == ("__classdict__" : Str)) = false) (hg : PG X tg (tG X.K C.kp t)) (hb : PSs X sb (tSs X.K rx W C b)) (hs : ∀ x, foldedSetIterable (.Name y yp) X.env x = pure x) :
    PS X (.For tg (.Name y yp) sb [] pos) (tS X.K rx W C (.forL t i b)) :=
  PS.of fun D σ H ⟨env, P, hE, h⟩ => ⟨_, ps_for hp hc (pi_list (pe_var hN hv hd hcd)) hg hb hs, by
    simp only [evS] at h
    split at h
    rotate_left
    · exact h.elim
    rename_i m ds he
    split at h
    rotate_left
    · exact h.elim
    rename_i hk
    obtain ⟨v, P1, P2, e1, sp, rd, rE⟩ := hE.get he
    obtain ⟨a, rfl, hx, w⟩ := walk_lst (P := P2) rd hk.2.1 fun _ a z y => sp.2.2 a z y
    exact ⟨_, e1, a, rfl, hx, for_wish rE w hk.2.2 (putBack_post sp rd e1 hk.1 h)⟩⟩
end
end Z

/-! plain evaluation of layer Z's terms: what simp needs, and loops -/
namespace Z
open PySem PySem.Spec L2
variable [TabList]
theorem atI_nat {α : Type} {xs : List α} {i : Int} (h0 : 0 ≤ i) (h : i < xs.length) : atI xs i = xs[i.toNat]? := by simp [atI, ixN, h0, h]
theorem ix0 {α : Type} {a : α} {r : List α} : atI (a :: r) 0 = some a := by rw [atI_nat (by omega) (by simp)]; rfl
theorem ix1 {α : Type} {a b : α} {r : List α} : atI (a :: b :: r) 1 = some b := by rw [atI_nat (by omega) (by simp; omega)]; rfl
theorem ix2 {α : Type} {a b c : α} {r : List α} : atI (a :: b :: c :: r) 2 = some c := by rw [atI_nat (by omega) (by simp; omega)]; rfl
theorem ix3 {α : Type} {a b c d : α} {r : List α} : atI (a :: b :: c :: d :: r) 3 = some d := by rw [atI_nat (by omega) (by simp; omega)]; rfl
theorem in0 {n : Nat} : ixN (n + 1) 0 = some 0 := by simp [ixN]; try omega
theorem in1 {n : Nat} : ixN (n + 1 + 1) 1 = some 1 := by simp [ixN]; try omega
theorem in2 {n : Nat} : ixN (n + 1 + 1 + 1) 2 = some 2 := by simp [ixN]; try omega
theorem atI_ints {ps : List Int} {i : Int} (h0 : 0 ≤ i) (h : i < ps.length) : ∃ p, p ∈ ps ∧ atI (ps.map D.int) i = some (.int p) := by
  rw [atI_nat h0 (by simpa using h)]
  have hj : i.toNat < ps.length := by omega
  exact ⟨ps[i.toNat], List.getElem_mem hj, by simp [List.getElem?_map, List.getElem?_eq_getElem hj]⟩
/-- a loop that keeps P, whatever it has walked -/
theorem for_ind {t : Tg} {body : Env → SRes} (P : List D → Env → Prop) : ∀ (ds done : List D) (e : Env),
    (∀ pre d post e, done ++ ds = pre ++ d :: post → P pre e → ∃ e1 e2, bindT t d e = some e1 ∧ (body e1 = .next e2 ∨ body e1 = .cnt e2) ∧ P (pre ++ [d]) e2) →
    P done e → ∃ e', forLoop t body ds e = .next e' ∧ P (done ++ ds) e'
  | [], done, e, _, h => ⟨e, rfl, by simpa using h⟩
  | d :: ds, done, e, step, h => by
    obtain ⟨e1, e2, hb, h1, h2⟩ := step done d ds e rfl h
    obtain ⟨e', hf, hp⟩ := for_ind P ds (done ++ [d]) e2 (fun pre d' post e0 hs h0 => step pre d' post e0 (by simpa using hs) h0) h2
    refine ⟨e', ?_, by simpa using hp⟩
    rcases h1 with h1 | h1 <;> simp [forLoop, hb, h1, hf]
theorem for_inv {t : Tg} {body : Env → SRes} (P : Env → Prop) {ds : List D} {e : Env}
    (step : ∀ d ∈ ds, ∀ e, P e → ∃ e1 e2, bindT t d e = some e1 ∧ (body e1 = .next e2 ∨ body e1 = .cnt e2) ∧ P e2) (h : P e) :
    ∃ e', forLoop t body ds e = .next e' ∧ P e' :=
  for_ind (fun _ => P) ds [] e (fun pre d post e0 hs h0 => step d (by rw [show ds = pre ++ d :: post from by simpa using hs]; simp) e0 h0) h
/-- a list comprehension whose parts may change the slots: P of what is done, what came of it, the slots -/
theorem lc_ind {own : List Nat} {t : Tg} {ifs : Env → Res Bool} {el : Env → Res D} {pth : Bool} (P : List D → List D → Env → Prop) : ∀ (ds done out : List D) (e : Env),
    (∀ pre d post out e, done ++ ds = pre ++ d :: post → P pre out e → ∃ e1 b e2, bindT t d e = some e1 ∧ ifs e1 = .ok b e2 ∧
      (b = true → ∃ r e3, el e2 = .ok r e3 ∧ (pth && !imm r) = false ∧ P (pre ++ [d]) (out ++ [r]) (wipeE own e3)) ∧
      (b = false → P (pre ++ [d]) out (wipeE own e2))) →
    P done out e → ∃ rs e', lcLoop own t ifs el pth ds e = .ok rs e' ∧ P (done ++ ds) (out ++ rs) e'
  | [], done, out, e, _, h => ⟨[], e, rfl, by simpa using h⟩
  | d :: ds, done, out, e, step, h => by
    obtain ⟨e1, b, e2, hb, hi, ht, hf⟩ := step done d ds out e rfl h
    have nx : ∀ pre d' post out e, (done ++ [d]) ++ ds = pre ++ d' :: post → _ := fun pre d' post out e hs => step pre d' post out e (by simpa using hs)
    cases b with
    | true =>
      obtain ⟨r, e3, he, hp, h3⟩ := ht rfl
      obtain ⟨rs, e', hl, hq⟩ := lc_ind P ds (done ++ [d]) (out ++ [r]) _ nx h3
      exact ⟨r :: rs, e', by simp [lcLoop, hb, hi, he, hp, hl], by simpa using hq⟩
    | false =>
      obtain ⟨rs, e', hl, hq⟩ := lc_ind P ds (done ++ [d]) out _ nx (hf rfl)
      exact ⟨rs, e', by simp [lcLoop, hb, hi, hl], by simpa using hq⟩
/-- a list comprehension that leaves the slots alone -/
theorem lc_map {own : List Nat} {t : Tg} {ifs : Env → Res Bool} {el : Env → Res D} {pth : Bool} {e : Env} (c : D → Bool) (g : D → D) : ∀ (ds : List D),
    (∀ d ∈ ds, ∃ e1 e2, bindT t d e = some e1 ∧ ifs e1 = .ok (c d) e2 ∧
      (c d = true → ∃ e3, el e2 = .ok (g d) e3 ∧ (pth && !imm (g d)) = false ∧ wipeE own e3 = e) ∧ (c d = false → wipeE own e2 = e)) →
    lcLoop own t ifs el pth ds e = .ok ((ds.filter c).map g) e
  | [], _ => rfl
  | d :: ds, step => by
    obtain ⟨e1, e2, hb, hi, ht, hf⟩ := step d (by simp)
    have ih := lc_map c g ds fun d' hd => step d' (by simp [hd])
    cases hc : c d with
    | true =>
      obtain ⟨e3, he, hp, hw⟩ := ht hc
      simp [lcLoop, hb, hi, he, hp, hc, hw, ih]
    | false => simp [lcLoop, hb, hi, hc, hf hc, ih]
/-- the same, of things of one kind -/
theorem lc_mapT {α : Type} {own : List Nat} {t : Tg} {ifs : Env → Res Bool} {el : Env → Res D} {pth : Bool} {e : Env} (f : α → D) (c : α → Bool) (g : α → D) : ∀ (xs : List α),
    (∀ d ∈ xs, ∃ e1 e2, bindT t (f d) e = some e1 ∧ ifs e1 = .ok (c d) e2 ∧
      (c d = true → ∃ e3, el e2 = .ok (g d) e3 ∧ (pth && !imm (g d)) = false ∧ wipeE own e3 = e) ∧ (c d = false → wipeE own e2 = e)) →
    lcLoop own t ifs el pth (xs.map f) e = .ok ((xs.filter c).map g) e
  | [], _ => rfl
  | d :: ds, step => by
    obtain ⟨e1, e2, hb, hi, ht, hf⟩ := step d (by simp)
    have ih := lc_mapT f c g ds fun d' hd => step d' (by simp [hd])
    cases hc : c d with
    | true =>
      obtain ⟨e3, he, hp, hw⟩ := ht hc
      simp [lcLoop, hb, hi, he, hp, hc, hw, ih]
    | false => simp [lcLoop, hb, hi, hc, hf hc, ih]
theorem lc_mapA {α : Type} {own : List Nat} {t : Tg} {ifs : Env → Res Bool} {el : Env → Res D} {pth : Bool} {e : Env} (f : α → D) (g : α → D) (xs : List α)
    (h : ∀ d ∈ xs, ∃ e1 e2 e3, bindT t (f d) e = some e1 ∧ ifs e1 = .ok true e2 ∧ el e2 = .ok (g d) e3 ∧ (pth && !imm (g d)) = false ∧ wipeE own e3 = e) :
    lcLoop own t ifs el pth (xs.map f) e = .ok (xs.map g) e := by
  have := lc_mapT (own := own) (t := t) (ifs := ifs) (el := el) (pth := pth) (e := e) f (fun _ => true) g xs fun d hd => by
    obtain ⟨e1, e2, e3, a, b, c, d', w⟩ := h d hd
    exact ⟨e1, e2, a, b, fun _ => ⟨e3, c, d', w⟩, fun h => by cases h⟩
  rwa [List.filter_eq_self.mpr (by simp)] at this
end Z

/-! plain layer: lists of numbers, membership, equality, loops over a prefix -/
namespace Z
open PySem PySem.Spec L2
variable [TabList]
def oD : Option Int → D
  | none => .non
  | some i => .int i
theorem imms_bls (ps : List Bool) : imms (ps.map .bl) = true := by induction ps with
  | nil => rfl
  | cons p ps ih => simpa [imms, imm] using ih
theorem imms_os (ps : List (Option Int)) : imms (ps.map oD) = true := by induction ps with
  | nil => rfl
  | cons p ps ih => cases p <;> simpa [imms, imm, oD] using ih
theorem imms_pairs (ps : List (Int × Int)) : imms (ps.map pairD) = true := by induction ps with
  | nil => rfl
  | cons p ps ih => simpa [imms, imm, pairD] using ih
theorem fzs_of_imms : ∀ {ds : List D}, (∀ d ∈ ds, fz d = d) → fzs ds = ds
  | [], _ => rfl
  | d :: ds, h => by simp [fzs, h d (by simp), fzs_of_imms (ds := ds) fun d hd => h d (by simp [hd])]
theorem fzs_ints (ps : List Int) : fzs (ps.map .int) = ps.map .int := fzs_of_imms (by simp [fz])
theorem fzs_bls (ps : List Bool) : fzs (ps.map .bl) = ps.map .bl := fzs_of_imms fun d hd => by obtain ⟨b, _, rfl⟩ := List.mem_map.mp hd; rfl
theorem fzs_pairs (ps : List (Int × Int)) : fzs (ps.map pairD) = ps.map pairD := fzs_of_imms fun d hd => by obtain ⟨b, _, rfl⟩ := List.mem_map.mp hd; rfl
theorem fzs_app : ∀ (a b : List D), fzs (a ++ b) = fzs a ++ fzs b
  | [], _ => rfl
  | d :: a, b => by simp [fzs, fzs_app a b]
theorem imms_app : ∀ (a b : List D), imms (a ++ b) = (imms a && imms b)
  | [], _ => by simp [imms]
  | d :: a, b => by simp [imms, imms_app a b, Bool.and_assoc]
theorem dInts_ints (ps : List Int) : dInts (ps.map .int) = some ps := by induction ps with
  | nil => rfl
  | cons p ps ih => simp [dInts, ih]
theorem toPys_ints (ps : List Int) : toPys (ps.map .int) = some (ps.map .int) := by induction ps with
  | nil => rfl
  | cons p ps ih => simp [toPys, toPy, ih]
def oP : Option Int → PyData
  | none => .none
  | some i => .int i
theorem toPys_os (ps : List (Option Int)) : toPys (ps.map oD) = some (ps.map oP) := by induction ps with
  | nil => rfl
  | cons p ps ih => cases p <;> simp [toPys, toPy, ih, oD, oP]
theorem lay_ints (ps : List Int) : PyData.canLayAll0 (ps.map .int) = true ∧ PyData.depthAll (ps.map .int) = 0 := by induction ps with
  | nil => exact ⟨rfl, rfl⟩
  | cons p ps ih => simp [PyData.canLayAll0, PyData.canLay0, PyData.depthAll, PyData.depth, ih]
theorem lay_os (ps : List (Option Int)) : PyData.canLayAll0 (ps.map oP) = true ∧ PyData.depthAll (ps.map oP) = 0 := by induction ps with
  | nil => exact ⟨rfl, rfl⟩
  | cons p ps ih => cases p <;> simp [PyData.canLayAll0, PyData.canLay0, PyData.depthAll, PyData.depth, oP, ih]
theorem eqv_os (ps : List (Option Int)) : PyData.eqvAll (ps.map oP) (ps.map oP) = true := by induction ps with
  | nil => rfl
  | cons p ps ih => cases p <;> simp [PyData.eqvAll, PyData.eqv, oP, ih]
theorem any_ints (i : Int) (ps : List Int) : ((ps.map PyData.int).any fun y => PyData.eqv y (.int i)) = decide (i ∈ ps) := by induction ps with
  | nil => rfl
  | cons p ps ih =>
    simp only [List.map_cons, List.any_cons, ih, PyData.eqv, List.mem_cons, Bool.decide_or]
    congr 1
    by_cases hh : i = p
    · subst hh; simp
    · first | (simp [hh, Ne.symm hh]; done) | (simp [hh, Ne.symm hh]; exact fun z => hh z.symm)
theorem in_lst {m : Bool} {i : Int} {ps : List Int} : opIn (.int i) (.lst m (ps.map .int)) = some (decide (i ∈ ps)) := by
  simp only [opIn, toPy, toPys_ints, Option.bind_some, SeqAt.shaped, PyData.canLay0, PyData.depth, lay_ints, any_ints]
  rfl
theorem in_tup {i : Int} {ps : List Int} : opIn (.int i) (.tup (ps.map .int)) = some (decide (i ∈ ps)) := by
  simp only [opIn, toPy, toPys_ints, Option.bind_some, SeqAt.shaped, PyData.canLay0, PyData.depth, lay_ints, any_ints]
  rfl
theorem dEq_os (ps : List (Option Int)) : dEq (.tup (ps.map oD)) (.tup (ps.map oD)) = some true := by
  simp only [dEq, toPy, toPys_os, Option.bind_some, Option.map_some, SeqAt.shaped, PyData.canLay0, PyData.depth, lay_os, PyData.eqv, eqv_os]
  rfl
theorem dEq_int {i j : Int} : dEq (.int i) (.int j) = some (decide (i = j)) := by
  simp only [dEq, toPy, Option.bind_some, SeqAt.shaped, PyData.canLay0, PyData.depth, PyData.eqv]
  by_cases hh : i = j
  · subst hh; simp
  · simp [hh]
/-! ### loops over a prefix -/
theorem for_pre {α : Type} {t : Tg} {body : Env → SRes} (f : α → D) (P : List α → Env → Prop) (xs : List α) (e : Env)
    (step : ∀ pre x post e, xs = pre ++ x :: post → P pre e → ∃ e1 e2, bindT t (f x) e = some e1 ∧ (body e1 = .next e2 ∨ body e1 = .cnt e2) ∧ P (pre ++ [x]) e2)
    (h : P [] e) : ∃ e', forLoop t body (xs.map f) e = .next e' ∧ P xs e' := by
  suffices g : ∀ (ys done : List α) (e : Env), done ++ ys = xs → P done e → ∃ e', forLoop t body (ys.map f) e = .next e' ∧ P xs e' from g xs [] e rfl h
  intro ys
  induction ys with
  | nil => intro done e hd hp; exact ⟨e, rfl, by simpa [← hd] using hp⟩
  | cons y ys ih =>
    intro done e hd hp
    obtain ⟨e1, e2, hb, h1, h2⟩ := step done y ys e hd.symm hp
    obtain ⟨e', hf, hp'⟩ := ih (done ++ [y]) e2 (by simpa using hd) h2
    refine ⟨e', ?_, hp'⟩
    rcases h1 with h1 | h1 <;> simp [forLoop, hb, h1, hf]
/-- a loop that may end early: by break, by return -/
theorem for_pre3 {α : Type} {t : Tg} {body : Env → SRes} (f : α → D) (P : List α → Env → Prop) (B : Env → Prop) (Q : D → Env → Prop) (xs : List α) (e : Env)
    (step : ∀ pre x post e, xs = pre ++ x :: post → P pre e → ∃ e1 e2, bindT t (f x) e = some e1 ∧
      ((body e1 = .next e2 ∧ P (pre ++ [x]) e2) ∨ (body e1 = .brk e2 ∧ B e2) ∨ ∃ r, body e1 = .ret r e2 ∧ Q r e2))
    (h : P [] e) : (∃ e', forLoop t body (xs.map f) e = .next e' ∧ (P xs e' ∨ B e')) ∨ ∃ r e', forLoop t body (xs.map f) e = .ret r e' ∧ Q r e' := by
  suffices g : ∀ (ys done : List α) (e : Env), done ++ ys = xs → P done e → (∃ e', forLoop t body (ys.map f) e = .next e' ∧ (P xs e' ∨ B e')) ∨ ∃ r e', forLoop t body (ys.map f) e = .ret r e' ∧ Q r e' from g xs [] e rfl h
  intro ys
  induction ys with
  | nil => intro done e hd hp; exact .inl ⟨e, rfl, .inl (by simpa [← hd] using hp)⟩
  | cons y ys ih =>
    intro done e hd hp
    obtain ⟨e1, e2, hb, h1 | h1 | ⟨r, h1, h2⟩⟩ := step done y ys e hd.symm hp
    · rcases ih (done ++ [y]) e2 (by simpa using hd) h1.2 with ⟨e', hf, hp'⟩ | ⟨r, e', hf, hp'⟩
      · exact .inl ⟨e', by simp [forLoop, hb, h1.1, hf], hp'⟩
      · exact .inr ⟨r, e', by simp [forLoop, hb, h1.1, hf], hp'⟩
    · exact .inl ⟨e2, by simp [forLoop, hb, h1.1], .inr h1.2⟩
    · exact .inr ⟨r, e2, by simp [forLoop, hb, h1], h2⟩
theorem enumD_len (ds : List D) (k : Nat) : (enumD ds k).length = ds.length := by simp [enumD]
theorem enumD_cons (d : D) (ds : List D) (k : Nat) : enumD (d :: ds) k = .tup [.int (k : Int), d] :: enumD ds (k + 1) := by
  simp only [enumD, List.mapIdx_cons]
  congr 1
  apply List.mapIdx_eq_mapIdx_iff.mpr
  intro i hi
  simp; omega
theorem for_preE {α : Type} {t : Tg} {body : Env → SRes} (f : α → D) (P : List α → Env → Prop) (xs : List α) (e : Env)
    (step : ∀ pre x post e, xs = pre ++ x :: post → P pre e → ∃ e1 e2, bindT t (.tup [.int (pre.length : Int), f x]) e = some e1 ∧ (body e1 = .next e2 ∨ body e1 = .cnt e2) ∧ P (pre ++ [x]) e2)
    (h : P [] e) : ∃ e', forLoop t body (enumD (xs.map f) 0) e = .next e' ∧ P xs e' := by
  suffices g : ∀ (ys done : List α) (e : Env), done ++ ys = xs → P done e → ∃ e', forLoop t body (enumD (ys.map f) done.length) e = .next e' ∧ P xs e' from g xs [] e rfl h
  intro ys
  induction ys with
  | nil => intro done e hd hp; exact ⟨e, by simp [enumD, forLoop], by simpa [← hd] using hp⟩
  | cons y ys ih =>
    intro done e hd hp
    obtain ⟨e1, e2, hb, h1, h2⟩ := step done y ys e hd.symm hp
    obtain ⟨e', hf, hp'⟩ := ih (done ++ [y]) e2 (by simpa using hd) h2
    refine ⟨e', ?_, hp'⟩
    simp only [List.length_append, List.length_cons, List.length_nil, Nat.zero_add] at hf
    rcases h1 with h1 | h1 <;> simp [enumD_cons, forLoop, hb, h1, hf]
theorem lc_pre {α : Type} {own : List Nat} {t : Tg} {ifs : Env → Res Bool} {el : Env → Res D} {pth : Bool} (f : α → D) (P : List α → List D → Env → Prop) (xs : List α) (e : Env)
    (step : ∀ pre x post out e, xs = pre ++ x :: post → P pre out e → ∃ e1 b e2, bindT t (f x) e = some e1 ∧ ifs e1 = .ok b e2 ∧
      (b = true → ∃ r e3, el e2 = .ok r e3 ∧ (pth && !imm r) = false ∧ P (pre ++ [x]) (out ++ [r]) (wipeE own e3)) ∧
      (b = false → P (pre ++ [x]) out (wipeE own e2)))
    (h : P [] [] e) : ∃ rs e', lcLoop own t ifs el pth (xs.map f) e = .ok rs e' ∧ P xs rs e' := by
  suffices g : ∀ (ys done : List α) (out : List D) (e : Env), done ++ ys = xs → P done out e → ∃ rs e', lcLoop own t ifs el pth (ys.map f) e = .ok rs e' ∧ P xs (out ++ rs) e' by simpa using g xs [] [] e rfl h
  intro ys
  induction ys with
  | nil => intro done out e hd hp; exact ⟨[], e, rfl, by simpa [← hd] using hp⟩
  | cons y ys ih =>
    intro done out e hd hp
    obtain ⟨e1, b, e2, hb, hi, ht, hf⟩ := step done y ys out e hd.symm hp
    cases b with
    | true =>
      obtain ⟨r, e3, he, hp3, h3⟩ := ht rfl
      obtain ⟨rs, e', hl, hq⟩ := ih (done ++ [y]) (out ++ [r]) _ (by simpa using hd) h3
      exact ⟨r :: rs, e', by simp [lcLoop, hb, hi, he, hp3, hl], by simpa using hq⟩
    | false =>
      obtain ⟨rs, e', hl, hq⟩ := ih (done ++ [y]) out _ (by simpa using hd) (hf rfl)
      exact ⟨rs, e', by simp [lcLoop, hb, hi, hl], hq⟩
theorem lc_preE {α : Type} {own : List Nat} {t : Tg} {ifs : Env → Res Bool} {el : Env → Res D} {pth : Bool} (f : α → D) (P : List α → List D → Env → Prop) (xs : List α) (e : Env)
    (step : ∀ pre x post out e, xs = pre ++ x :: post → P pre out e → ∃ e1 b e2, bindT t (.tup [.int (pre.length : Int), f x]) e = some e1 ∧ ifs e1 = .ok b e2 ∧
      (b = true → ∃ r e3, el e2 = .ok r e3 ∧ (pth && !imm r) = false ∧ P (pre ++ [x]) (out ++ [r]) (wipeE own e3)) ∧
      (b = false → P (pre ++ [x]) out (wipeE own e2)))
    (h : P [] [] e) : ∃ rs e', lcLoop own t ifs el pth (enumD (xs.map f) 0) e = .ok rs e' ∧ P xs rs e' := by
  suffices g : ∀ (ys done : List α) (out : List D) (e : Env), done ++ ys = xs → P done out e → ∃ rs e', lcLoop own t ifs el pth (enumD (ys.map f) done.length) e = .ok rs e' ∧ P xs (out ++ rs) e' by simpa using g xs [] [] e rfl h
  intro ys
  induction ys with
  | nil => intro done out e hd hp; exact ⟨[], e, by simp [enumD, lcLoop], by simpa [← hd] using hp⟩
  | cons y ys ih =>
    intro done out e hd hp
    obtain ⟨e1, b, e2, hb, hi, ht, hf⟩ := step done y ys out e hd.symm hp
    cases b with
    | true =>
      obtain ⟨r, e3, he, hp3, h3⟩ := ht rfl
      obtain ⟨rs, e', hl, hq⟩ := ih (done ++ [y]) (out ++ [r]) _ (by simpa using hd) h3
      simp only [List.length_append, List.length_cons, List.length_nil, Nat.zero_add] at hl
      exact ⟨r :: rs, e', by simp [enumD_cons, lcLoop, hb, hi, he, hp3, hl], by simpa using hq⟩
    | false =>
      obtain ⟨rs, e', hl, hq⟩ := ih (done ++ [y]) out _ (by simpa using hd) (hf rfl)
      simp only [List.length_append, List.length_cons, List.length_nil, Nat.zero_add] at hl
      exact ⟨rs, e', by simp [enumD_cons, lcLoop, hb, hi, hl], hq⟩
theorem lc_len {own : List Nat} {t : Tg} {ifs : Env → Res Bool} {el : Env → Res D} {pth : Bool} : ∀ {ds rs : List D} {e e' : Env}, lcLoop own t ifs el pth ds e = .ok rs e' → rs.length ≤ ds.length
  | [], rs, e, e', h => by simp only [lcLoop, Res.ok.injEq] at h; simp [← h.1]
  | d :: ds, rs, e, e', h => by
    simp only [lcLoop] at h
    split at h
    · cases h
    · split at h
      · split at h
        · split at h
          · cases h
          · split at h
            · rename_i q
              simp only [Res.ok.injEq] at h
              have := lc_len q
              simp [← h.1]; omega
            · cases h
        · cases h
      · have := lc_len h; simp; omega
      · cases h
theorem cut_app {α : Type} {a b : List α} {n : Nat} (h : n = a.length) : cutL (a ++ b) (some (n : Int)) none = b := by
  subst h
  have h1 : ¬ ((a.length : Int) < 0) := by omega
  simp [cutL, HT.sIx, h1]
theorem mul_non {n : Nat} (h : n ≤ 100000) : opMul (.lst true [.non]) (.int (n : Int)) = some (.lst true (List.replicate n .non)) := by
  have h1 : n < 4294967296 := by omega
  have h3 : n ≤ 16777216 := by omega
  simp [opMul, h1, h3, imms, imm, lim]
def takeS : Nat → Ss → Ss
  | 0, _ => .nil
  | _ + 1, .nil => .nil
  | n + 1, .cons s r => .cons s (takeS n r)
def dropS : Nat → Ss → Ss
  | 0, r => r
  | _ + 1, .nil => .nil
  | n + 1, .cons _ r => dropS n r
theorem evSs_split (C : Z.Ctx) : ∀ (n : Nat) (s : Ss) (env : Env), evSs C s env = (evSs C (takeS n s) env).thn fun e => evSs C (dropS n s) e
  | 0, s, env => by simp [takeS, dropS, evSs]
  | n + 1, .nil, env => by simp [takeS, dropS, evSs]
  | n + 1, .cons s r, env => by
    simp only [takeS, dropS, evSs]
    cases evS C s env with
    | next e => simp only [SRes.thn]; exact evSs_split C n r e
    | _ => rfl
theorem bind_one {i : Nat} {d : D} {env : Env} : bindT (.one i) d env = if i < env.length then some (env.set i (some d)) else none := by simp only [bindT]
theorem bind_tup2 {a b : Tg} {x y : D} {env : Env} : bindT (.tup [a, b]) (.tup [x, y]) env = (bindT a x env).bind fun e => bindT b y e := by
  simp only [bindT, bindTs]
  cases bindT a x env with
  | none => rfl
  | some e => simp only [Option.bind_some]; cases bindT b y e <;> rfl
theorem bind_tup3 {a b c : Tg} {x y z : D} {env : Env} : bindT (.tup [a, b, c]) (.tup [x, y, z]) env = (bindT a x env).bind fun e => (bindT b y e).bind fun e => bindT c z e := by
  simp only [bindT, bindTs]
  cases bindT a x env with
  | none => rfl
  | some e =>
    simp only [Option.bind_some]
    cases bindT b y e with
    | none => rfl
    | some e => simp only [Option.bind_some]; cases bindT c z e <;> rfl
theorem bind_tup4 {a b c d : Tg} {x y z w : D} {env : Env} : bindT (.tup [a, b, c, d]) (.tup [x, y, z, w]) env = (bindT a x env).bind fun e => (bindT b y e).bind fun e => (bindT c z e).bind fun e => bindT d w e := by
  simp only [bindT, bindTs]
  cases bindT a x env with
  | none => rfl
  | some e =>
    simp only [Option.bind_some]
    cases bindT b y e with
    | none => rfl
    | some e =>
      simp only [Option.bind_some]
      cases bindT c z e with
      | none => rfl
      | some e => simp only [Option.bind_some]; cases bindT d w e <;> rfl
/-- the first loop's body -/
def bodyFor : Ss → Ss
  | .cons (.for _ _ b) _ => b
  | .cons _ r => bodyFor r
  | .nil => .nil
theorem enter {fs : List Fd} {f : Fd} {k i : Nat} {ds : List D} (h : fs[i]? = some f) (hl : ds.length = f.np) : ∃ C : Z.Ctx, C.call = callN fs k ∧ C.kp = f.kp ∧
    callN fs (k + 1) i ds = f.out (evSs C f.body (ds.map some ++ List.replicate (f.n - f.np) none)) :=
  ⟨{ call := callN fs k, kp := f.kp }, rfl, rfl, by simp [callN, h, Fd.run, hl]⟩
/-- a walk over range(n) -/
theorem rng0 (n : Nat) : rng 0 (n : Int) = (List.range n).map fun (i : Nat) => D.int (i : Int) := by simp [rng]
theorem mem_pre {α : Type} {xs pre post : List α} {x : α} (h : xs = pre ++ x :: post) : x ∈ xs := by simp [h]
end Z

/-! houses and walks, plain -/
namespace Z
open PySem PySem.Spec L2
variable [TabList]
structure Hs where
  ks : List Int
  ps : List (Int × Int)
  hs : List Int
def Hs.D (h : Hs) : Z.D := .tup [.tup (h.ks.map .int), .tup (h.ps.map pairD), .tup (h.hs.map .int)]
structure Hs.Ok (h : Hs) : Prop where
  pr : ∀ p ∈ h.ps, 0 ≤ p.1 ∧ p.1 < p.2 ∧ p.2 < h.ks.length
  k0 : 0 < h.ks.length
  kl : h.ks.length ≤ 100
  pl : h.ps.length ≤ 200
  hr : ∀ x ∈ h.hs, 0 ≤ x ∧ x < h.ks.length
def Hs.key (h : Hs) (r : Int) : Int := (h.ks[r.toNat]?).getD 0
def Hs.pair (h : Hs) (d : Int) : Int × Int := (h.ps[d.toNat]?).getD (0, 0)
def Hs.dr (h : Hs) (d : Int) : Prop := 0 ≤ d ∧ d < h.ps.length
theorem imm_hs (h : Hs) : imm h.D = true := by simp [Hs.D, imm, imms, imms_ints, imms_pairs]
theorem at_key {h : Hs} {r : Int} (h0 : 0 ≤ r) (h1 : r < h.ks.length) : atI (h.ks.map Z.D.int) r = some (.int (h.key r)) := by
  rw [atI_nat h0 (by simpa using h1)]
  have hj : r.toNat < h.ks.length := by omega
  simp [Hs.key, List.getElem?_eq_getElem hj]
theorem at_pair {h : Hs} {d : Int} (hd : h.dr d) : atI (h.ps.map pairD) d = some (pairD (h.pair d)) := by
  have h1 := hd.2
  have h0 := hd.1
  rw [atI_nat hd.1 (by simpa using h1)]
  have hj : d.toNat < h.ps.length := by omega
  simp [Hs.pair, List.getElem?_eq_getElem hj]
theorem Hs.Ok.pair {h : Hs} (ok : h.Ok) {d : Int} (hd : h.dr d) : 0 ≤ (h.pair d).1 ∧ (h.pair d).1 < (h.pair d).2 ∧ (h.pair d).2 < h.ks.length := by
  have h1 := hd.2
  have h0 := hd.1
  have hj : d.toNat < h.ps.length := by omega
  have : h.pair d = h.ps[d.toNat] := by simp [Hs.pair, List.getElem?_eq_getElem hj]
  rw [this]
  exact ok.pr _ (List.getElem_mem hj)
/-- the rooms of a door that are not reached -/
def fr (R : List Int) (p : Int × Int) : List Int := (if p.1 ∈ R then [] else [p.1]) ++ (if p.2 ∈ R then [] else [p.2])
structure F where
  R : List Int
  hd : Int
  hands : List Int
  wa : List Int
  ways : List (Option Int)
  dk : List Key
  dd : List Z.D
def setW (d : Int) (ways : List (Option Int)) (f : List Int) : List (Option Int) := f.foldl (fun w r => w.set r.toNat (some d)) ways
theorem setW_snoc (d : Int) (w : List (Option Int)) (f : List Int) (r : Int) : setW d w (f ++ [r]) = (setW d w f).set r.toNat (some d) := by simp [setW]
def Hs.gain (h : Hs) (f : List Int) : Int := (f.map h.key).sum
def Hs.st (h : Hs) (s : F) (d : Int) : F where
  R := s.R ++ fr s.R (h.pair d)
  hd := s.hd - 1 + h.gain (fr s.R (h.pair d))
  hands := s.hands ++ [s.hd - 1 + h.gain (fr s.R (h.pair d))]
  wa := if fr s.R (h.pair d) = [] then s.wa ++ [d] else s.wa
  ways := setW d s.ways (fr s.R (h.pair d))
  dk := (putK s.dk s.dd (.inl d) (.bl true)).1
  dd := (putK s.dk s.dd (.inl d) (.bl true)).2
def Hs.f0 (h : Hs) : F := { R := [0], hd := h.key 0, hands := [h.key 0], wa := [], ways := List.replicate h.ks.length none, dk := [], dd := [] }
def Hs.run (h : Hs) (W : List Int) : F := W.foldl h.st h.f0
theorem run_snoc (h : Hs) (W : List Int) (d : Int) : h.run (W ++ [d]) = h.st (h.run W) d := by simp [Hs.run]
theorem run_nil (h : Hs) : h.run [] = h.f0 := rfl
/-- snoc induction -/
theorem snoc_ind {α : Type} {P : List α → Prop} (h0 : P []) (h1 : ∀ W d, P W → P (W ++ [d])) (W : List α) : P W := by
  suffices g : ∀ V : List α, P V.reverse by simpa using g W.reverse
  intro V
  induction V with
  | nil => exact h0
  | cons v V ih => simpa using h1 _ v ih
theorem fr_len (R : List Int) (p : Int × Int) : (fr R p).length ≤ 2 := by unfold fr; split <;> split <;> simp
theorem R_len (h : Hs) (W : List Int) : (h.run W).R.length ≤ 1 + 2 * W.length := by
  refine snoc_ind (P := fun W => (h.run W).R.length ≤ 1 + 2 * W.length) (by simp [run_nil, Hs.f0]) (fun W d ih => ?_) W
  rw [run_snoc]
  have := fr_len (h.run W).R (h.pair d)
  simp [Hs.st]; omega
theorem putK_len {κ : Type} [DecidableEq κ] (ks : List κ) (ds : List Z.D) (k : κ) (d : Z.D) : (putK ks ds k d).1.length ≤ ks.length + 1 := by
  unfold putK; split <;> simp
theorem dk_len (h : Hs) (W : List Int) : (h.run W).dk.length ≤ W.length := by
  refine snoc_ind (P := fun W => (h.run W).dk.length ≤ W.length) (by simp [run_nil, Hs.f0]) (fun W d ih => ?_) W
  rw [run_snoc]
  have := putK_len (h.run W).dk (h.run W).dd (.inl d) (.bl true)
  simp [Hs.st]; omega
theorem dd_all (h : Hs) (W : List Int) : ∀ x ∈ (h.run W).dd, x = .bl true := by
  refine snoc_ind (P := fun W => ∀ x ∈ (h.run W).dd, x = .bl true) (by simp [run_nil, Hs.f0]) (fun W d ih => ?_) W
  rw [run_snoc]
  intro x hx
  simp only [Hs.st] at hx
  unfold putK at hx
  split at hx
  · rcases List.mem_or_eq_of_mem_set hx with hx | hx
    · exact ih _ hx
    · exact hx
  · rcases List.mem_append.mp hx with hx | hx
    · exact ih _ hx
    · simpa using hx
theorem imms_of : ∀ {ds : List Z.D}, (∀ d ∈ ds, imm d = true) → imms ds = true
  | [], _ => rfl
  | d :: ds, h => by simp [imms, h d (by simp), imms_of (ds := ds) fun d hd => h d (by simp [hd])]
theorem dd_imm (h : Hs) (W : List Int) : imms (h.run W).dd = true := imms_of fun d hd => by rw [dd_all h W d hd]; rfl
theorem dd_fz (h : Hs) (W : List Int) : fzs (h.run W).dd = (h.run W).dd := fzs_of_imms fun d hd => by rw [dd_all h W d hd]; rfl
theorem setW_len (d : Int) : ∀ (f : List Int) (w : List (Option Int)), (setW d w f).length = w.length
  | [], _ => rfl
  | r :: f, w => by
    have := setW_len d f (w.set r.toNat (some d))
    simpa [setW] using this
theorem ways_len (h : Hs) (W : List Int) : (h.run W).ways.length = h.ks.length := by
  refine snoc_ind (P := fun W => (h.run W).ways.length = h.ks.length) (by simp [run_nil, Hs.f0]) (fun W d ih => ?_) W
  rw [run_snoc]
  simp [Hs.st, setW_len, ih]
/-- a step as the program has it -/
def Hs.SD (h : Hs) (W : List Int) : Z.D := .tup [.lst false ((h.run W).R.map .int), .dic false (h.run W).dk (h.run W).dd, .int (h.run W).hd]
theorem imm_SD (h : Hs) (W : List Int) : imm (h.SD W) = true := by simp [Hs.SD, imm, imms, imms_ints, dd_imm]
theorem fz_SD (h : Hs) (W : List Int) : fz (h.SD W) = h.SD W := by simp [Hs.SD, fz, fzs, fzs_ints, dd_fz]
def Hs.SDs (h : Hs) (W : List Int) : List Z.D := (List.range (W.length + 1)).map fun i => h.SD (W.take i)
theorem SDs_nil (h : Hs) : h.SDs [] = [h.SD []] := rfl
theorem SDs_snoc (h : Hs) (W : List Int) (d : Int) : h.SDs (W ++ [d]) = h.SDs W ++ [h.SD (W ++ [d])] := by
  unfold Hs.SDs
  rw [show (W ++ [d]).length + 1 = (W.length + 1) + 1 by simp, List.range_succ, List.map_append]
  congr 1
  · apply List.map_congr_left
    intro i hi
    rw [List.take_append_of_le_length (by simpa using Nat.lt_succ_iff.mp (List.mem_range.mp hi))]
  · simp [List.take_of_length_le]
theorem SDs_len (h : Hs) (W : List Int) : (h.SDs W).length = W.length + 1 := by simp [Hs.SDs]
theorem SDs_imm (h : Hs) (W : List Int) : imms (h.SDs W) = true := imms_of fun d hd => by
  obtain ⟨i, _, rfl⟩ := List.mem_map.mp hd
  exact imm_SD h _
theorem SDs_fz (h : Hs) (W : List Int) : fzs (h.SDs W) = h.SDs W := fzs_of_imms fun d hd => by
  obtain ⟨i, _, rfl⟩ := List.mem_map.mp hd
  exact fz_SD h _
theorem SDs_at (h : Hs) {W : List Int} {i : Int} (h0 : 0 ≤ i) (h1 : i ≤ W.length) : atI (h.SDs W) i = some (h.SD (W.take i.toNat)) := by
  rw [atI_nat h0 (by rw [SDs_len]; omega)]
  simp only [Hs.SDs, List.getElem?_map]
  rw [List.getElem?_range (by omega)]
  rfl
theorem SDs_last (h : Hs) (W : List Int) : atI (h.SDs W) (-1) = some (h.SD W) := by
  have : ixN (h.SDs W).length (-1) = some W.length := by simp [ixN, SDs_len]; omega
  simp only [atI, this, Option.bind_some]
  simp [Hs.SDs]
theorem hands_eq (h : Hs) (W : List Int) : (h.run W).hands = (List.range (W.length + 1)).map fun i => (h.run (W.take i)).hd := by
  refine snoc_ind (P := fun W => (h.run W).hands = (List.range (W.length + 1)).map fun i => (h.run (W.take i)).hd) (by simp [run_nil, Hs.f0]) (fun W d ih => ?_) W
  rw [show (W ++ [d]).length + 1 = (W.length + 1) + 1 by simp, List.range_succ, List.map_append, run_snoc]
  simp only [Hs.st, ih]
  congr 1
  · apply List.map_congr_left
    intro i hi
    rw [List.take_append_of_le_length (by simpa using Nat.lt_succ_iff.mp (List.mem_range.mp hi))]
  · simp [List.take_of_length_le, run_snoc, Hs.st]
/-- a state as the law has it -/
def Hs.LS (h : Hs) (W : List Int) : Z.D := .lst true [.lst true ((h.run W).R.map .int), .lst true (W.map .int), .int (h.run W).hd]
theorem imm_LS (h : Hs) (W : List Int) : imm (h.LS W) = false := by simp [Hs.LS, imm]
/-- a walk: doors of the house, none twice, each with an end that is reached -/
inductive Wk (h : Hs) : List Int → Prop
  | nil : Wk h []
  | snoc {W : List Int} {d : Int} : Wk h W → h.dr d → d ∉ W → ((h.pair d).1 ∈ (h.run W).R ∨ (h.pair d).2 ∈ (h.run W).R) → Wk h (W ++ [d])
theorem Wk.dr {h : Hs} {W : List Int} (w : Wk h W) : ∀ d ∈ W, h.dr d := by
  induction w with
  | nil => simp
  | snoc w hd _ _ ih =>
    intro d hm
    rcases List.mem_append.mp hm with hm | hm
    · exact ih d hm
    · simp at hm; subst hm; exact hd
/-- the walk without the doors that reach nothing -/
def Hs.plain (h : Hs) (W : List Int) : List Int := W.filter fun d => decide (d ∉ (h.run W).wa)
theorem wa_sub (h : Hs) (W : List Int) : ∀ d ∈ (h.run W).wa, d ∈ W := by
  refine snoc_ind (P := fun W => ∀ d ∈ (h.run W).wa, d ∈ W) (by simp [run_nil, Hs.f0]) (fun W d ih => ?_) W
  rw [run_snoc]
  intro x hx
  simp only [Hs.st] at hx
  split at hx
  · rcases List.mem_append.mp hx with hx | hx
    · exact List.mem_append_left _ (ih _ hx)
    · exact List.mem_append_right _ hx
  · exact List.mem_append_left _ (ih _ hx)
theorem plain_wa {h : Hs} {W : List Int} {d : Int} (hd : d ∉ W) (hf : fr (h.run W).R (h.pair d) = []) : h.plain (W ++ [d]) = h.plain W := by
  unfold Hs.plain
  rw [run_snoc]
  simp only [Hs.st, hf, if_pos, List.filter_append]
  have : List.filter (fun d_1 => decide (d_1 ∉ (h.run W).wa ++ [d])) [d] = [] := by simp
  rw [this, List.append_nil]
  apply List.filter_congr
  intro x hx
  have : x ≠ d := fun e => hd (e ▸ hx)
  simp [this]
theorem plain_fr {h : Hs} {W : List Int} {d : Int} (hd : d ∉ W) (hf : fr (h.run W).R (h.pair d) ≠ []) : h.plain (W ++ [d]) = h.plain W ++ [d] := by
  unfold Hs.plain
  rw [run_snoc]
  simp only [Hs.st, hf, if_false, List.filter_append]
  have : d ∉ (h.run W).wa := fun z => hd (wa_sub h W d z)
  simp [this]
/-- what the walk without the wasted doors comes to -/
theorem plain_run {h : Hs} {W : List Int} (w : Wk h W) : (h.run (h.plain W)).R = (h.run W).R ∧ (h.run (h.plain W)).hd = (h.run W).hd + (h.run W).wa.length ∧
    (h.run (h.plain W)).ways = (h.run W).ways ∧ (h.run (h.plain W)).wa = [] := by
  induction w with
  | nil => simp [Hs.plain, Hs.run, Hs.f0]
  | @snoc W d w hd hn ho ih =>
    obtain ⟨i1, i2, i3, i4⟩ := ih
    by_cases hf : fr (h.run W).R (h.pair d) = []
    · rw [plain_wa hn hf, run_snoc]
      simp [Hs.st, hf, i1, i2, i3, i4, setW, Hs.gain]
      omega
    · rw [plain_fr hn hf, run_snoc, run_snoc]
      simp [Hs.st, hf, i1, i2, i3, i4]
      omega
theorem hands_len (h : Hs) (W : List Int) : (h.run W).hands.length = W.length + 1 := by
  refine snoc_ind (P := fun W => (h.run W).hands.length = W.length + 1) (by simp [run_nil, Hs.f0]) (fun W d ih => ?_) W
  rw [run_snoc]
  simp [Hs.st, ih]
theorem hands_last (h : Hs) (W : List Int) : (h.run W).hands[W.length]? = some (h.run W).hd := by
  refine snoc_ind (P := fun W => (h.run W).hands[W.length]? = some (h.run W).hd) (by simp [run_nil, Hs.f0]) (fun W d ih => ?_) W
  rw [run_snoc]
  simp [Hs.st, List.getElem?_append, hands_len]
theorem Wk.plain_dr {h : Hs} {W : List Int} (w : Wk h W) : ∀ d ∈ h.plain W, h.dr d := fun d hd => w.dr d (List.mem_filter.mp hd).1
theorem Wk.at {h : Hs} {W : List Int} (w : Wk h W) : ∀ {pre post : List Int} {x : Int}, W = pre ++ x :: post → (h.pair x).1 ∈ (h.run pre).R ∨ (h.pair x).2 ∈ (h.run pre).R := by
  induction w with
  | nil => intro pre post x h; simp at h
  | @snoc W d w hd hn ho ih =>
    intro pre post x he
    rcases List.eq_nil_or_concat post with rfl | ⟨post', y, rfl⟩
    · have := List.append_inj' he (by simp)
      obtain ⟨rfl, h2⟩ := this
      simp at h2; subst h2; exact ho
    · have he' : W ++ [d] = (pre ++ x :: post') ++ [y] := by simpa using he
      have := List.append_inj' he' (by simp)
      exact ih this.1
theorem wa_len (h : Hs) (W : List Int) : (h.run W).wa.length ≤ W.length := by
  refine snoc_ind (P := fun W => (h.run W).wa.length ≤ W.length) (by simp [run_nil, Hs.f0]) (fun W d ih => ?_) W
  rw [run_snoc]
  simp only [Hs.st]
  split <;> simp <;> omega
theorem Wk.plain {h : Hs} {W : List Int} (w : Wk h W) : Wk h (h.plain W) := by
  induction w with
  | nil => exact .nil
  | @snoc W d w hd hn ho ih =>
    by_cases hf : fr (h.run W).R (h.pair d) = []
    · rw [plain_wa hn hf]; exact ih
    · rw [plain_fr hn hf]
      refine .snoc ih hd (fun z => hn (List.mem_filter.mp z).1) ?_
      rw [(plain_run w).1]; exact ho
end Z

/-! plain layer: sorting, ranges, more look-ups -/
namespace Z
open PySem PySem.Spec L2
variable [TabList]
theorem rngZ' (m : Int) : rng 0 m = (List.range m.toNat).map fun (i : Nat) => Z.D.int (i : Int) := by simp [rng]
theorem rng1Z (m : Int) : rng 1 m = (List.range (m - 1).toNat).map fun (i : Nat) => Z.D.int (1 + (i : Int)) := by simp [rng]
theorem dPairs_all (ps : List (Int × Int)) : dPairs (ps.map pairD) = some ps := by induction ps with
  | nil => rfl
  | cons p ps ih =>
    show (dPairs (ps.map pairD)).map _ = _
    rw [ih]; rfl
theorem sort_pairs (m : Bool) (ps : List (Int × Int)) : opSorted (.lst m (ps.map pairD)) = some (.lst true ((ps.mergeSort leP).map pairD)) := by
  cases ps with
  | nil => simp [opSorted, dInts]
  | cons p ps =>
    have h1 : dInts ((p :: ps).map pairD) = none := by simp [pairD, dInts]
    simp only [opSorted, h1, dPairs_all]
    rfl
theorem imm_pairD (p : Int × Int) : imm (pairD p) = true := by simp [pairD, imm, imms]
abbrev leI : Int → Int → Bool := fun a b => decide (a ≤ b)
theorem sort_ints (m : Bool) (ns : List Int) : opSorted (.lst m (ns.map .int)) = some (.lst true ((ns.mergeSort leI).map .int)) := by simp only [opSorted, dInts_ints]
theorem sort_intsT (ns : List Int) : opSorted (.tup (ns.map .int)) = some (.lst true ((ns.mergeSort leI).map .int)) := by simp only [opSorted, dInts_ints]; rfl
theorem sorted_same {ns : List Int} (h : ns.Pairwise (· ≤ ·)) : ns.mergeSort leI = ns :=
  List.mergeSort_of_pairwise (h.imp fun h => by simpa using h)
theorem mergeSort_le {ns : List Int} : (ns.mergeSort leI).Pairwise (· ≤ ·) :=
  (List.pairwise_mergeSort (le := leI) (fun a b c h1 h2 => by simp only [decide_eq_true_eq] at h1 h2 ⊢; omega) (fun a b => by simp only [Bool.or_eq_true, decide_eq_true_eq]; omega) ns).imp fun h => by simpa using h
theorem atI_bl {ps : List Bool} {i : Int} (h0 : 0 ≤ i) (h : i < ps.length) : atI (ps.map Z.D.bl) i = some (.bl (ps[i.toNat]?.getD false)) := by
  rw [atI_nat h0 (by simpa using h)]
  have hj : i.toNat < ps.length := by omega
  simp [List.getElem?_map, List.getElem?_eq_getElem hj]
theorem dBls_bls (ps : List Bool) : dBls (ps.map .bl) = some ps := by induction ps with
  | nil => rfl
  | cons p ps ih => simp [dBls, ih]
theorem idx_tup {ds : List Z.D} {i : Int} : opIdx (.tup ds) (.int i) = atI ds i := rfl
theorem idx_lst {m : Bool} {ds : List Z.D} {i : Int} : opIdx (.lst m ds) (.int i) = atI ds i := rfl
theorem hD0 (h : Hs) : opIdx h.D (.int 0) = some (.tup (h.ks.map .int)) := by simp [Hs.D, opIdx, ix0]
theorem hD1 (h : Hs) : opIdx h.D (.int 1) = some (.tup (h.ps.map pairD)) := by simp [Hs.D, opIdx, ix1]
theorem hD2 (h : Hs) : opIdx h.D (.int 2) = some (.tup (h.hs.map .int)) := by simp [Hs.D, opIdx, ix2]
end Z

namespace Gk04
open PySem PySem.Spec L2 Z
open PyProof.Rows (envOfC)
def top (i : Nat) : Stmt := PySem.Challenge.pw_anydoornext_k04_check_walk.main.body.getD i (.Pass ⟨0, 0, 0, 0⟩)
def names : List Str := ["first_step", "is_ended", "step_word", "next_step", "is_integer", "is_number", "is_below", "check_walk", "is_walk", "_law_purse", "_law_one", "_law_like", "_law_house", "_law_next", "_law_walk", "_law_due", "_law_spoilt", "_law_asked", "_law_hand", "law"]
def blts : List Str := ["any", "bool", "enumerate", "int", "isinstance", "len", "list", "max", "min", "range", "sorted", "str", "sum", "super", "tuple"]
def kws : List (List (List Str × List Nat)) := [[], [], [], [], [], [], [], [], [], [], [], [], [], [], [], [], [], [], [], []]
def kw (i : Nat) : List (List Str × List Nat) := kws.getD i []
def b0 : Ss := (.cons (.ret (.fze (.tup (.cons (.lst (.cons (.cst (.int 0)) .nil)) (.cons (.dic .nil) (.cons (.pidx (.pidx (.var 0) (.cst (.int 0))) (.cst (.int 0))) .nil)))))) .nil)
def f0 : Fd := ⟨1, 1, [], b0⟩
def b1 : Ss := (.cons (.ret (.gen false 2 (.pidx (.var 1) (.cst (.int 0))) (.ap .inn (.cons (.var 2) (.cons (.pidx (.var 0) (.cst (.int 2))) .nil))))) .nil)
def f1 : Fd := ⟨2, 3, [], b1⟩
def b2 : Ss := (.cons (.asg (.tup [(.one 3), (.one 4), (.one 5)]) (.var 1)) (.cons (.ite (.ap .inn (.cons (.var 2) (.cons (.var 4) .nil))) (.cons (.ret (.cst (.str "again"))) .nil) .nil) (.cons (.ite (.call 1 (.cons (.var 0) (.cons (.var 1) .nil))) (.cons (.ret (.cst (.str "ended"))) .nil) .nil) (.cons (.ite (.not (.gen false 6 (.pidx (.pidx (.var 0) (.cst (.int 1))) (.var 2)) (.ap .inn (.cons (.var 6) (.cons (.var 3) .nil))))) (.cons (.ret (.cst (.str "far"))) .nil) .nil) (.cons (.ret (.ife (.ap .eq (.cons (.var 5) (.cons (.cst (.int 0)) .nil))) (.cst (.str "key")) (.cst .non))) .nil)))))
def f2 : Fd := ⟨3, 7, [], b2⟩
def b3 : Ss := (.cons (.asg (.tup [(.one 3), (.one 4), (.one 5)]) (.var 1)) (.cons (.asg (.one 6) (.fze (.lc [8] (.one 8) (.seq (.pidx (.pidx (.var 0) (.cst (.int 1))) (.var 2))) (.cons (.ap .nin (.cons (.var 8) (.cons (.var 3) .nil))) .nil) (.var 8)))) (.cons (.asg (.one 7) (.ap .sum (.cons (.lc [8] (.one 8) (.seq (.var 6)) .nil (.pidx (.pidx (.var 0) (.cst (.int 0))) (.var 8))) .nil))) (.cons (.ret (.fze (.tup (.cons (.ap .add (.cons (.var 3) (.cons (.var 6) .nil))) (.cons (.dup (.var 4) (.var 2) (.cst (.bl true))) (.cons (.ap .add (.cons (.ap .sub (.cons (.var 5) (.cons (.cst (.int 1)) .nil))) (.cons (.var 7) .nil))) .nil)))))) .nil))))
def f3 : Fd := ⟨3, 9, [], b3⟩
def b4 : Ss := (.cons (.ret (.and (.ap (.isi .int) (.cons (.var 0) .nil)) (.not (.ap (.isi .bool) (.cons (.var 0) .nil))))) .nil)
def f4 : Fd := ⟨1, 1, [], b4⟩
def b5 : Ss := (.cons (.ret (.and (.call 4 (.cons (.var 0) .nil)) (.ap .ge (.cons (.var 0) (.cons (.cst (.int 0)) .nil))))) .nil)
def f5 : Fd := ⟨1, 1, [], b5⟩
def b6 : Ss := (.cons (.ret (.and (.call 5 (.cons (.var 0) .nil)) (.ap .lt (.cons (.var 0) (.cons (.var 1) .nil))))) .nil)
def f6 : Fd := ⟨2, 2, [], b6⟩
def b7 : Ss := (.cons (.ite (.not (.ap (.isi .tup) (.cons (.var 1) .nil))) (.cons (.rse 0 2 (.cons (.ap .neg (.cons (.cst (.int 1)) .nil)) (.cons (.cst (.str "shape")) .nil))) .nil) .nil) (.cons (.asg (.one 2) (.call 0 (.cons (.var 0) .nil))) (.cons (.for (.tup [(.one 3), (.one 4)]) (.enum (.var 1)) (.cons (.ite (.not (.call 6 (.cons (.var 4) (.cons (.ap .len (.cons (.pidx (.var 0) (.cst (.int 1))) .nil)) .nil)))) (.cons (.rse 0 2 (.cons (.var 3) (.cons (.cst (.str "door")) .nil))) .nil) .nil) (.cons (.asg (.one 5) (.call 2 (.cons (.var 0) (.cons (.var 2) (.cons (.var 4) .nil))))) (.cons (.ite (.ap .notN (.cons (.var 5) .nil)) (.cons (.rse 0 2 (.cons (.var 3) (.cons (.var 5) .nil))) .nil) .nil) (.cons (.asg (.one 2) (.call 3 (.cons (.var 0) (.cons (.var 2) (.cons (.var 4) .nil))))) .nil))))) (.cons (.ret (.pidx (.var 2) (.cst (.int 2)))) .nil))))
def f7 : Fd := ⟨2, 6, [], b7⟩
def b8 : Ss := (.cons (.tri (.cons (.exp (.call 7 (.cons (.var 0) (.cons (.var 1) .nil)))) .nil) [(0, [0], (.one (.cst (.bl false))))]) (.cons (.ret (.cst (.bl true))) .nil))
def f8 : Fd := ⟨2, 2, [], b8⟩
def b9 : Ss := (.cons (.asg (.one 1) (.fze (.ap .add (.cons (.lc [3] (.one 3) (.seq (.ap (.slc false true) (.cons (.var 0) (.cons (.cst (.int 50)) .nil)))) .nil (.ap .mod (.cons (.ap .int (.cons (.var 3) .nil)) (.cons (.cst (.int 100207)) .nil)))) (.cons (.lst (.cons (.cst (.int 61)) .nil)) .nil))))) (.cons (.asg (.one 2) (.cst (.int 83))) (.cons (.for (.one 3) (.seq (.var 1)) (.cons (.asg (.one 2) (.ap .mod (.cons (.ap .add (.cons (.ap .add (.cons (.ap .mul (.cons (.ap .int (.cons (.var 2) .nil)) (.cons (.cst (.int 5849)) .nil))) (.cons (.ap .mul (.cons (.ap .int (.cons (.var 3) .nil)) (.cons (.cst (.int 1511)) .nil))) .nil))) (.cons (.cst (.int 47)) .nil))) (.cons (.cst (.int 100207)) .nil)))) .nil)) (.cons (.ret (.lst (.cons (.cst (.int 0)) (.cons (.var 2) (.cons (.fze (.mov 1)) .nil))))) .nil))))
def f9 : Fd := ⟨1, 4, [], b9⟩
def b10 : Ss := (.cons (.sto (.var 0) (.cst (.int 0)) (.ap .add (.cons (.pidx (.var 0) (.cst (.int 0))) (.cons (.cst (.int 1)) .nil)))) (.cons (.asg (.one 2) (.pidx (.pidx (.var 0) (.cst (.int 2))) (.ap .mod (.cons (.ap .int (.cons (.pidx (.var 0) (.cst (.int 0))) .nil)) (.cons (.ap .len (.cons (.pidx (.var 0) (.cst (.int 2))) .nil)) .nil))))) (.cons (.sto (.var 0) (.cst (.int 1)) (.ap .mod (.cons (.ap .add (.cons (.ap .add (.cons (.ap .add (.cons (.ap .mul (.cons (.ap .int (.cons (.pidx (.var 0) (.cst (.int 1))) .nil)) (.cons (.cst (.int 4243)) .nil))) (.cons (.ap .mul (.cons (.ap .int (.cons (.var 2) .nil)) (.cons (.cst (.int 131)) .nil))) .nil))) (.cons (.ap .mul (.cons (.ap .int (.cons (.pidx (.var 0) (.cst (.int 0))) .nil)) (.cons (.cst (.int 73)) .nil))) .nil))) (.cons (.cst (.int 75)) .nil))) (.cons (.cst (.int 100207)) .nil)))) (.cons (.ret (.ap .mod (.cons (.ap .fdiv (.cons (.ap .int (.cons (.pidx (.var 0) (.cst (.int 1))) .nil)) (.cons (.cst (.int 15)) .nil))) (.cons (.ap .max2 (.cons (.cst (.int 1)) (.cons (.ap .int (.cons (.var 1) .nil)) .nil))) .nil)))) .nil))))
def f10 : Fd := ⟨2, 3, [], b10⟩
def b11 : Ss := (.cons (.ite (.or (.ap (.isi .bool) (.cons (.var 1) .nil)) (.ap (.isi .bool) (.cons (.var 0) .nil))) (.cons (.ret (.and (.ap (.isi .bool) (.cons (.var 1) .nil)) (.and (.ap (.isi .bool) (.cons (.var 0) .nil)) (.ap .eq (.cons (.var 0) (.cons (.var 1) .nil)))))) .nil) .nil) (.cons (.ite (.ap (.isi .str) (.cons (.var 1) .nil)) (.cons (.ret (.and (.ap (.isi .str) (.cons (.var 0) .nil)) (.ap .eq (.cons (.var 0) (.cons (.var 1) .nil))))) .nil) .nil) (.cons (.ite (.ap (.isi .tup) (.cons (.var 1) .nil)) (.cons (.ite (.or (.not (.ap (.isi .tup) (.cons (.var 0) .nil))) (.ap .ne (.cons (.ap .len (.cons (.var 0) .nil)) (.cons (.ap .len (.cons (.var 1) .nil)) .nil)))) (.cons (.ret (.cst (.bl false))) .nil) .nil) (.cons (.for (.one 2) (.rng1 (.ap .len (.cons (.var 1) .nil))) (.cons (.ite (.not (.call 11 (.cons (.pidx (.var 0) (.var 2)) (.cons (.pidx (.var 1) (.var 2)) .nil)))) (.cons (.ret (.cst (.bl false))) .nil) .nil) .nil)) (.cons (.ret (.cst (.bl true))) .nil))) .nil) (.cons (.ret (.and (.ap (.isi .int) (.cons (.var 0) .nil)) (.ap .eq (.cons (.var 0) (.cons (.var 1) .nil))))) .nil))))
def f11 : Fd := ⟨2, 3, [], b11⟩
def b12 : Ss := (.cons (.asg (.one 2) (.ap .add (.cons (.cst (.int 2)) (.cons (.call 10 (.cons (.var 0) (.cons (.ap .idx (.cons (.tup (.cons (.cst (.int 6)) (.cons (.cst (.int 59)) .nil))) (.cons (.ap .int (.cons (.var 1) .nil)) .nil))) .nil))) .nil)))) (.cons (.asg (.one 3) (.fze (.lst .nil))) (.cons (.for (.one 4) (.rng1 (.ap .idx (.cons (.tup (.cons (.call 10 (.cons (.var 0) (.cons (.cst (.int 10)) .nil))) (.cons (.ap .add (.cons (.cst (.int 60)) (.cons (.call 10 (.cons (.var 0) (.cons (.cst (.int 91)) .nil))) .nil))) .nil))) (.cons (.ap .int (.cons (.var 1) .nil)) .nil)))) (.cons (.asg (.one 5) (.call 10 (.cons (.var 0) (.cons (.ap .sub (.cons (.var 2) (.cons (.cst (.int 1)) .nil))) .nil)))) (.cons (.asg (.one 6) (.ap .add (.cons (.ap .add (.cons (.var 5) (.cons (.cst (.int 1)) .nil))) (.cons (.call 10 (.cons (.var 0) (.cons (.ap .idx (.cons (.tup (.cons (.ap .sub (.cons (.ap .sub (.cons (.var 2) (.cons (.var 5) .nil))) (.cons (.cst (.int 1)) .nil))) (.cons (.ap .min2 (.cons (.cst (.int 3)) (.cons (.ap .sub (.cons (.ap .sub (.cons (.var 2) (.cons (.var 5) .nil))) (.cons (.cst (.int 1)) .nil))) .nil))) .nil))) (.cons (.call 10 (.cons (.var 0) (.cons (.cst (.int 2)) .nil))) .nil))) .nil))) .nil)))) (.cons (.ite (.ap .lt (.cons (.ap .len (.cons (.var 3) .nil)) (.cons (.cst (.int 149)) .nil))) (.cons (.asg (.one 3) (.fze (.ap .add (.cons (.var 3) (.cons (.ap .mul (.cons (.lst (.cons (.tup (.cons (.var 5) (.cons (.var 6) .nil))) .nil)) (.cons (.ap .add (.cons (.cst (.int 1)) (.cons (.ap .int (.cons (.ap .eq (.cons (.call 10 (.cons (.var 0) (.cons (.cst (.int 6)) .nil))) (.cons (.cst (.int 0)) .nil))) .nil)) .nil))) .nil))) .nil))))) .nil) .nil) .nil)))) (.cons (.asg (.one 7) (.fze (.lc [9] (.one 9) (.rng2 (.cst (.int 1)) (.var 2)) (.cons (.ap .eq (.cons (.call 10 (.cons (.var 0) (.cons (.ap .idx (.cons (.tup (.cons (.cst (.int 5)) (.cons (.cst (.int 25)) .nil))) (.cons (.ap .int (.cons (.var 1) .nil)) .nil))) .nil))) (.cons (.cst (.int 0)) .nil))) .nil) (.var 9)))) (.cons (.ite (.ap .eq (.cons (.var 7) (.cons (.lst .nil) .nil))) (.cons (.asg (.one 7) (.fze (.lst (.cons (.ap .add (.cons (.cst (.int 1)) (.cons (.call 10 (.cons (.var 0) (.cons (.ap .sub (.cons (.var 2) (.cons (.cst (.int 1)) .nil))) .nil))) .nil))) .nil)))) .nil) .nil) (.cons (.asg (.one 8) (.lc [9] (.one 9) (.rng1 (.var 2)) .nil (.call 10 (.cons (.var 0) (.cons (.ap .idx (.cons (.tup (.cons (.cst (.int 3)) (.cons (.cst (.int 2)) (.cons (.cst (.int 5)) .nil)))) (.cons (.call 10 (.cons (.var 0) (.cons (.cst (.int 3)) .nil))) .nil))) .nil))))) (.cons (.sto (.var 8) (.cst (.int 0)) (.ap .idx (.cons (.tup (.cons (.call 10 (.cons (.var 0) (.cons (.cst (.int 4)) .nil))) (.cons (.ap .add (.cons (.var 2) (.cons (.call 10 (.cons (.var 0) (.cons (.cst (.int 30)) .nil))) .nil))) (.cons (.cst (.int 99)) .nil)))) (.cons (.ap .max2 (.cons (.call 10 (.cons (.var 0) (.cons (.cst (.int 3)) .nil))) (.cons (.ap .mul (.cons (.cst (.int 2)) (.cons (.ap .int (.cons (.var 1) .nil)) .nil))) .nil))) .nil)))) (.cons (.for (.one 9) (.seq (.var 7)) (.cons (.sto (.var 8) (.var 9) (.cst (.int 0))) .nil)) (.cons (.ret (.tup (.cons (.ap .tuple (.cons (.var 8) .nil)) (.cons (.ap .tuple (.cons (.ap .sorted (.cons (.var 3) .nil)) .nil)) (.cons (.ap .tuple (.cons (.var 7) .nil)) .nil))))) .nil)))))))))
def f12 : Fd := ⟨2, 10, [], b12⟩
def b13 : Ss := (.cons (.asg (.tup [(.one 2), (.one 3), (.one 4)]) (.var 0)) (.cons (.asg (.one 5) (.lst (.cons (.cst (.int 0)) .nil))) (.cons (.asg (.one 6) (.pidx (.var 2) (.cst (.int 0)))) (.cons (.forL (.one 7) 1 (.cons (.asg (.one 6) (.ap .sub (.cons (.var 6) (.cons (.cst (.int 1)) .nil)))) (.cons (.for (.one 8) (.seq (.pidx (.var 3) (.var 7))) (.cons (.ite (.ap .nin (.cons (.var 8) (.cons (.var 5) .nil))) (.cons (.exp (.mm .append (.var 5) (.cons (.var 8) .nil))) (.cons (.asg (.one 6) (.ap .add (.cons (.var 6) (.cons (.pidx (.var 2) (.var 8)) .nil)))) .nil)) .nil) .nil)) .nil))) (.cons (.ite (.or (.ap .lt (.cons (.var 6) (.cons (.cst (.int 1)) .nil))) (.ap .ne (.cons (.lc [8] (.one 8) (.seq (.frz 5)) (.cons (.ap .inn (.cons (.var 8) (.cons (.var 4) .nil))) .nil) (.var 8)) (.cons (.lst .nil) .nil)))) (.cons (.ret (.fze (.lst .nil))) .nil) .nil) (.cons (.ret (.fze (.lc [7] (.one 7) (.rng1 (.ap .len (.cons (.var 3) .nil))) (.cons (.and (.ap .nin (.cons (.var 7) (.cons (.var 1) .nil))) (.or (.ap .inn (.cons (.pidx (.pidx (.var 3) (.var 7)) (.cst (.int 0))) (.cons (.var 5) .nil))) (.ap .inn (.cons (.pidx (.pidx (.var 3) (.var 7)) (.cst (.int 1))) (.cons (.var 5) .nil))))) .nil) (.var 7)))) .nil))))))
def f13 : Fd := ⟨2, 9, [], b13⟩
def b14 : Ss := (.cons (.asg (.one 4) (.lst .nil)) (.cons (.for (.one 5) (.rng1 (.var 2)) (.cons (.asg (.one 6) (.call 13 (.cons (.var 1) (.cons (.var 4) .nil)))) (.cons (.ite (.ap .eq (.cons (.var 6) (.cons (.lst .nil) .nil))) (.cons .brk .nil) .nil) (.cons (.asg (.one 7) (.fze (.lc [8] (.one 8) (.seq (.var 6)) (.cons (.and (.ap .nin (.cons (.pidx (.pidx (.pidx (.var 1) (.cst (.int 1))) (.var 8)) (.cst (.int 0))) (.cons (.pidx (.var 1) (.cst (.int 2))) .nil))) (.ap .nin (.cons (.pidx (.pidx (.pidx (.var 1) (.cst (.int 1))) (.var 8)) (.cst (.int 1))) (.cons (.pidx (.var 1) (.cst (.int 2))) .nil)))) .nil) (.var 8)))) (.cons (.ite (.and (.var 3) (.ap .ne (.cons (.var 7) (.cons (.lst .nil) .nil)))) (.cons (.asg (.one 6) (.fze (.mov 7))) .nil) .nil) (.cons (.exp (.mm .append (.var 4) (.cons (.pidx (.var 6) (.call 10 (.cons (.var 0) (.cons (.ap .len (.cons (.var 6) .nil)) .nil)))) .nil))) .nil)))))) (.cons (.ret (.ap .tuple (.cons (.var 4) .nil))) .nil)))
def f14 : Fd := ⟨4, 9, [], b14⟩
def b15 : Ss := (.cons (.asg (.tup [(.one 2), (.one 3), (.one 4)]) (.var 0)) (.cons (.ite (.not (.ap (.isi .tup) (.cons (.var 1) .nil))) (.cons (.ret (.tup (.cons (.cst (.str "raised")) (.cons (.ap .neg (.cons (.cst (.int 1)) .nil)) (.cons (.cst (.str "shape")) .nil))))) .nil) .nil) (.cons (.asg (.one 5) (.lst (.cons (.cst (.int 0)) .nil))) (.cons (.asg (.one 6) (.pidx (.var 2) (.cst (.int 0)))) (.cons (.asg (.one 7) (.cst (.bl false))) (.cons (.for (.one 8) (.rng1 (.ap .len (.cons (.var 1) .nil))) (.cons (.asg (.one 9) (.pidx (.var 1) (.var 8))) (.cons (.ite (.or (.ap (.isi .bool) (.cons (.var 9) .nil)) (.or (.not (.ap (.isi .int) (.cons (.var 9) .nil))) (.or (.ap .lt (.cons (.var 9) (.cons (.cst (.int 0)) .nil))) (.ap .ge (.cons (.var 9) (.cons (.ap .len (.cons (.var 3) .nil)) .nil)))))) (.cons (.ret (.tup (.cons (.cst (.str "raised")) (.cons (.var 8) (.cons (.cst (.str "door")) .nil))))) .nil) .nil) (.cons (.ite (.ap .inn (.cons (.var 9) (.cons (.ap (.slc false true) (.cons (.var 1) (.cons (.var 8) .nil))) .nil))) (.cons (.ret (.tup (.cons (.cst (.str "raised")) (.cons (.var 8) (.cons (.cst (.str "again")) .nil))))) .nil) .nil) (.cons (.ite (.var 7) (.cons (.ret (.tup (.cons (.cst (.str "raised")) (.cons (.var 8) (.cons (.cst (.str "ended")) .nil))))) .nil) .nil) (.cons (.asg (.tup [(.one 10), (.one 11)]) (.pidx (.var 3) (.var 9))) (.cons (.ite (.and (.ap .nin (.cons (.var 10) (.cons (.var 5) .nil))) (.ap .nin (.cons (.var 11) (.cons (.var 5) .nil)))) (.cons (.ret (.tup (.cons (.cst (.str "raised")) (.cons (.var 8) (.cons (.cst (.str "far")) .nil))))) .nil) .nil) (.cons (.ite (.ap .lt (.cons (.var 6) (.cons (.cst (.int 1)) .nil))) (.cons (.ret (.tup (.cons (.cst (.str "raised")) (.cons (.var 8) (.cons (.cst (.str "key")) .nil))))) .nil) .nil) (.cons (.asg (.one 6) (.ap .sub (.cons (.var 6) (.cons (.cst (.int 1)) .nil)))) (.cons (.for (.one 12) (.seq (.tup (.cons (.var 10) (.cons (.var 11) .nil)))) (.cons (.ite (.ap .nin (.cons (.var 12) (.cons (.var 5) .nil))) (.cons (.exp (.mm .append (.var 5) (.cons (.var 12) .nil))) (.cons (.asg (.one 6) (.ap .add (.cons (.var 6) (.cons (.pidx (.var 2) (.var 12)) .nil)))) (.cons (.asg (.one 7) (.or (.var 7) (.ap .inn (.cons (.var 12) (.cons (.var 4) .nil))))) .nil))) .nil) .nil)) .nil)))))))))) (.cons (.ret (.tup (.cons (.cst (.str "told")) (.cons (.var 6) .nil)))) .nil)))))))
def f15 : Fd := ⟨2, 13, [], b15⟩
def b16 : Ss := (.cons (.asg (.one 3) (.ap .len (.cons (.pidx (.var 1) (.cst (.int 1))) .nil))) (.cons (.asg (.one 4) (.call 10 (.cons (.var 0) (.cons (.ap .len (.cons (.var 2) .nil)) .nil)))) (.cons (.asg (.one 5) (.call 10 (.cons (.var 0) (.cons (.cst (.int 9)) .nil)))) (.cons (.ite (.and (.ap .lt (.cons (.var 5) (.cons (.cst (.int 2)) .nil))) (.ap .ne (.cons (.var 2) (.cons (.tup .nil) .nil)))) (.cons (.asg (.one 6) (.tup (.cons (.var 3) (.cons (.ap .neg (.cons (.cst (.int 1)) .nil)) (.cons (.ap .eq (.cons (.pidx (.var 2) (.var 4)) (.cons (.cst (.int 1)) .nil))) (.cons (.cst .non) (.cons (.ap .str (.cons (.pidx (.var 2) (.var 4)) .nil)) (.cons (.tup (.cons (.pidx (.var 2) (.var 4)) .nil)) (.cons (.ap .pow (.cons (.cst (.int 10)) (.cons (.cst (.int 40)) .nil))) (.cons (.ap .sub (.cons (.pidx (.var 2) (.var 4)) (.cons (.var 3) .nil))) (.cons (.cst (.bl true)) .nil))))))))))) (.cons (.ret (.ap .add (.cons (.ap .add (.cons (.ap (.slc false true) (.cons (.var 2) (.cons (.var 4) .nil))) (.cons (.tup (.cons (.pidx (.var 6) (.call 10 (.cons (.var 0) (.cons (.cst (.int 9)) .nil)))) .nil)) .nil))) (.cons (.ap (.slc true false) (.cons (.var 2) (.cons (.ap .add (.cons (.var 4) (.cons (.cst (.int 1)) .nil))) .nil))) .nil)))) .nil)) .nil) (.cons (.ite (.ap .eq (.cons (.var 5) (.cons (.cst (.int 2)) .nil))) (.cons (.ret (.ap .add (.cons (.ap .add (.cons (.ap (.slc false true) (.cons (.var 2) (.cons (.var 4) .nil))) (.cons (.tup (.cons (.call 10 (.cons (.var 0) (.cons (.ap .add (.cons (.var 3) (.cons (.cst (.int 1)) .nil))) .nil))) .nil)) .nil))) (.cons (.ap (.slc true false) (.cons (.var 2) (.cons (.var 4) .nil))) .nil)))) .nil) .nil) (.cons (.ite (.and (.ap .eq (.cons (.var 5) (.cons (.cst (.int 3)) .nil))) (.ap .ne (.cons (.var 2) (.cons (.tup .nil) .nil)))) (.cons (.ret (.ap .add (.cons (.ap .add (.cons (.ap (.slc false true) (.cons (.var 2) (.cons (.var 4) .nil))) (.cons (.tup (.cons (.call 10 (.cons (.var 0) (.cons (.ap .add (.cons (.var 3) (.cons (.cst (.int 1)) .nil))) .nil))) .nil)) .nil))) (.cons (.ap (.slc true false) (.cons (.var 2) (.cons (.ap .add (.cons (.var 4) (.cons (.cst (.int 1)) .nil))) .nil))) .nil)))) .nil) .nil) (.cons (.ite (.ap .eq (.cons (.var 5) (.cons (.cst (.int 4)) .nil))) (.cons (.ret (.ap .add (.cons (.ap .add (.cons (.var 2) (.cons (.ap (.slc true true) (.cons (.var 2) (.cons (.var 4) (.cons (.ap .add (.cons (.var 4) (.cons (.cst (.int 1)) .nil))) .nil)))) .nil))) (.cons (.tup (.cons (.call 10 (.cons (.var 0) (.cons (.ap .add (.cons (.var 3) (.cons (.cst (.int 1)) .nil))) .nil))) .nil)) .nil)))) .nil) .nil) (.cons (.ite (.ap .eq (.cons (.var 5) (.cons (.cst (.int 5)) .nil))) (.cons (.ret (.ap .add (.cons (.ap (.slc false true) (.cons (.var 2) (.cons (.var 4) .nil))) (.cons (.ap (.slc true false) (.cons (.var 2) (.cons (.ap .add (.cons (.var 4) (.cons (.cst (.int 1)) .nil))) .nil))) .nil)))) .nil) .nil) (.cons (.ite (.ap .eq (.cons (.var 5) (.cons (.cst (.int 6)) .nil))) (.cons (.ret (.ap .rev (.cons (.var 2) .nil))) .nil) .nil) (.cons (.ite (.ap .eq (.cons (.var 5) (.cons (.cst (.int 7)) .nil))) (.cons (.ret (.ap .idx (.cons (.fze (.tup (.cons (.fze (.ap .list (.cons (.var 2) .nil))) (.cons (.cst .non) (.cons (.cst (.int 0)) (.cons (.cst (.str "")) (.cons (.fze (.lst .nil)) (.cons (.tup .nil) (.cons (.tup (.cons (.var 2) .nil)) (.cons (.cst (.str "walk")) (.cons (.cst (.bl true)) .nil))))))))))) (.cons (.call 10 (.cons (.var 0) (.cons (.cst (.int 9)) .nil))) .nil)))) .nil) .nil) (.cons (.ret (.ap .add (.cons (.var 2) (.cons (.ap .tuple (.cons (.lc [7] (.one 7) (.rng1 (.cst (.int 3))) .nil (.call 10 (.cons (.var 0) (.cons (.ap .add (.cons (.var 3) (.cons (.cst (.int 1)) .nil))) .nil)))) .nil)) .nil)))) .nil)))))))))))
def f16 : Fd := ⟨3, 8, [], b16⟩
def b17 : Ss := (.cons (.asg (.one 2) (.call 15 (.cons (.var 0) (.cons (.var 1) .nil)))) (.cons (.ite (.not (.call 11 (.cons (.call 8 (.cons (.var 0) (.cons (.var 1) .nil))) (.cons (.ap .eq (.cons (.pidx (.var 2) (.cst (.int 0))) (.cons (.cst (.str "told")) .nil))) .nil)))) (.cons (.ret (.cst (.bl false))) .nil) .nil) (.cons (.tri (.cons (.ret (.call 11 (.cons (.tup (.cons (.cst (.str "told")) (.cons (.call 7 (.cons (.var 0) (.cons (.var 1) .nil))) .nil))) (.cons (.var 2) .nil)))) .nil) [(3, [0], (.call 11 [(.cst (.str "raised")), (.fld 0), (.fld 1)] [2])), (0, [0], (.one (.cst (.bl false))))]) .nil)))
def f17 : Fd := ⟨2, 4, [], b17⟩
def b18 : Ss := (.cons (.asg (.one 1) (.call 10 (.cons (.var 0) (.cons (.cst (.int 90)) .nil)))) (.cons (.asg (.one 2) (.tup (.cons (.tup (.cons (.ap .add (.cons (.cst (.int 2)) (.cons (.var 1) .nil))) (.cons (.cst (.int 0)) (.cons (.cst (.int 1)) (.cons (.cst (.int 0)) (.cons (.cst (.int 5)) (.cons (.cst (.int 0)) .nil))))))) (.cons (.tup (.cons (.tup (.cons (.cst (.int 0)) (.cons (.cst (.int 1)) .nil))) (.cons (.tup (.cons (.cst (.int 0)) (.cons (.cst (.int 2)) .nil))) (.cons (.tup (.cons (.cst (.int 1)) (.cons (.cst (.int 2)) .nil))) (.cons (.tup (.cons (.cst (.int 2)) (.cons (.cst (.int 3)) .nil))) (.cons (.tup (.cons (.cst (.int 2)) (.cons (.cst (.int 3)) .nil))) (.cons (.tup (.cons (.cst (.int 4)) (.cons (.cst (.int 5)) .nil))) .nil))))))) (.cons (.tup (.cons (.cst (.int 3)) .nil)) .nil))))) (.cons (.asg (.one 3) (.tup (.cons (.tup (.cons (.cst (.int 1)) (.cons (.cst (.int 0)) (.cons (.cst (.int 0)) (.cons (.cst (.int 0)) .nil))))) (.cons (.tup (.cons (.tup (.cons (.cst (.int 0)) (.cons (.cst (.int 1)) .nil))) (.cons (.tup (.cons (.cst (.int 0)) (.cons (.cst (.int 1)) .nil))) (.cons (.tup (.cons (.cst (.int 1)) (.cons (.cst (.int 2)) .nil))) (.cons (.tup (.cons (.cst (.int 2)) (.cons (.cst (.int 3)) .nil))) .nil))))) (.cons (.tup (.cons (.cst (.int 3)) .nil)) .nil))))) (.cons (.asg (.one 4) (.fze (.lst (.cons (.tup (.cons (.var 2) (.cons (.tup (.cons (.cst (.int 0)) (.cons (.cst (.int 1)) (.cons (.cst (.int 2)) .nil)))) (.cons (.var 1) .nil)))) (.cons (.tup (.cons (.var 2) (.cons (.tup (.cons (.cst (.int 1)) (.cons (.cst (.int 4)) .nil))) (.cons (.ap .add (.cons (.cst (.int 1)) (.cons (.var 1) .nil))) .nil)))) (.cons (.tup (.cons (.var 2) (.cons (.tup (.cons (.cst (.int 1)) (.cons (.cst (.int 3)) (.cons (.cst (.int 2)) .nil)))) (.cons (.tup (.cons (.cst (.str "ended")) (.cons (.cst (.int 2)) .nil))) .nil)))) (.cons (.tup (.cons (.var 2) (.cons (.tup (.cons (.cst (.int 1)) (.cons (.cst (.int 3)) (.cons (.cst (.int 1)) .nil)))) (.cons (.tup (.cons (.cst (.str "again")) (.cons (.cst (.int 2)) .nil))) .nil)))) (.cons (.tup (.cons (.var 2) (.cons (.tup (.cons (.cst (.int 1)) (.cons (.cst (.int 3)) (.cons (.cst (.int 5)) .nil)))) (.cons (.tup (.cons (.cst (.str "ended")) (.cons (.cst (.int 2)) .nil))) .nil)))) .nil)))))))) (.cons (.asg (.one 4) (.fze (.ap .add (.cons (.var 4) (.cons (.lst (.cons (.tup (.cons (.var 2) (.cons (.tup (.cons (.cst (.int 5)) .nil)) (.cons (.tup (.cons (.cst (.str "far")) (.cons (.cst (.int 0)) .nil))) .nil)))) (.cons (.tup (.cons (.var 2) (.cons (.tup (.cons (.cst (.int 0)) (.cons (.cst (.int 1)) (.cons (.cst (.int 2)) (.cons (.cst (.int 0)) .nil))))) (.cons (.tup (.cons (.cst (.str "again")) (.cons (.cst (.int 3)) .nil))) .nil)))) (.cons (.tup (.cons (.var 2) (.cons (.tup (.cons (.cst (.int 0)) (.cons (.cst (.int 6)) .nil))) (.cons (.tup (.cons (.cst (.str "door")) (.cons (.cst (.int 1)) .nil))) .nil)))) (.cons (.tup (.cons (.var 2) (.cons (.tup (.cons (.cst (.int 1)) (.cons (.cst (.int 3)) (.cons (.cst (.int 6)) .nil)))) (.cons (.tup (.cons (.cst (.str "door")) (.cons (.cst (.int 2)) .nil))) .nil)))) (.cons (.tup (.cons (.var 2) (.cons (.tup (.cons (.cst (.int 0)) (.cons (.cst (.int 0)) (.cons (.cst (.bl true)) .nil)))) (.cons (.tup (.cons (.cst (.str "again")) (.cons (.cst (.int 1)) .nil))) .nil)))) .nil)))))) .nil))))) (.cons (.asg (.one 4) (.fze (.ap .add (.cons (.var 4) (.cons (.lst (.cons (.tup (.cons (.var 2) (.cons (.tup (.cons (.cst (.int 0)) (.cons (.cst (.bl true)) .nil))) (.cons (.tup (.cons (.cst (.str "door")) (.cons (.cst (.int 1)) .nil))) .nil)))) (.cons (.tup (.cons (.var 2) (.cons (.tup (.cons (.cst (.bl false)) .nil)) (.cons (.tup (.cons (.cst (.str "door")) (.cons (.cst (.int 0)) .nil))) .nil)))) (.cons (.tup (.cons (.var 3) (.cons (.tup (.cons (.cst (.int 0)) (.cons (.cst (.int 1)) .nil))) (.cons (.tup (.cons (.cst (.str "key")) (.cons (.cst (.int 1)) .nil))) .nil)))) (.cons (.tup (.cons (.var 3) (.cons (.tup (.cons (.cst (.int 0)) (.cons (.cst (.int 3)) .nil))) (.cons (.tup (.cons (.cst (.str "far")) (.cons (.cst (.int 1)) .nil))) .nil)))) (.cons (.tup (.cons (.var 3) (.cons (.tup (.cons (.cst (.int 0)) (.cons (.cst (.int 0)) .nil))) (.cons (.tup (.cons (.cst (.str "again")) (.cons (.cst (.int 1)) .nil))) .nil)))) .nil)))))) .nil))))) (.cons (.asg (.one 4) (.fze (.ap .add (.cons (.var 4) (.cons (.fze (.lst (.cons (.tup (.cons (.var 3) (.cons (.tup (.cons (.cst (.int 1)) .nil)) (.cons (.cst (.int 0)) .nil)))) (.cons (.tup (.cons (.var 3) (.cons (.tup .nil) (.cons (.cst (.int 1)) .nil)))) (.cons (.tup (.cons (.var 3) (.cons (.tup (.cons (.cst (.int 0)) (.cons (.cst (.int 2)) .nil))) (.cons (.tup (.cons (.cst (.str "key")) (.cons (.cst (.int 1)) .nil))) .nil)))) (.cons (.tup (.cons (.var 3) (.cons (.tup (.cons (.cst (.int 2)) .nil)) (.cons (.tup (.cons (.cst (.str "far")) (.cons (.cst (.int 0)) .nil))) .nil)))) (.cons (.tup (.cons (.var 3) (.cons (.lst (.cons (.cst (.int 0)) .nil)) (.cons (.tup (.cons (.cst (.str "shape")) (.cons (.ap .neg (.cons (.cst (.int 1)) .nil)) .nil))) .nil)))) (.cons (.tup (.cons (.var 3) (.cons (.tup (.cons (.cst (.int 0)) (.cons (.ap .neg (.cons (.cst (.int 1)) .nil)) .nil))) (.cons (.tup (.cons (.cst (.str "door")) (.cons (.cst (.int 1)) .nil))) .nil)))) .nil)))))))) .nil))))) (.cons (.for (.tup [(.one 5), (.one 6), (.one 7)]) (.seq (.var 4)) (.cons (.ite (.ap (.isi .tup) (.cons (.var 7) .nil)) (.cons (.asg (.one 7) (.tup (.cons (.cst (.str "raised")) (.cons (.pidx (.var 7) (.cst (.int 1))) (.cons (.pidx (.var 7) (.cst (.int 0))) .nil))))) .nil) (.cons (.asg (.one 7) (.tup (.cons (.cst (.str "told")) (.cons (.var 7) .nil)))) .nil)) (.cons (.ite (.or (.not (.call 11 (.cons (.call 15 (.cons (.var 5) (.cons (.var 6) .nil))) (.cons (.var 7) .nil)))) (.not (.call 17 (.cons (.var 5) (.cons (.var 6) .nil))))) (.cons (.ret (.cst (.bl false))) .nil) .nil) .nil))) (.cons (.ret (.cst (.bl true))) .nil)))))))))
def f18 : Fd := ⟨1, 8, [], b18⟩
def b19 : Ss := (.cons (.asg (.one 1) (.call 9 (.cons (.var 0) .nil))) (.cons (.ite (.not (.call 18 (.cons (.var 1) .nil))) (.cons (.ret (.cst (.bl false))) .nil) .nil) (.cons (.for (.one 2) (.rng1 (.cst (.int 4))) (.cons (.asg (.one 3) (.and (.ap .eq (.cons (.var 2) (.cons (.cst (.int 0)) .nil))) (.ap .eq (.cons (.call 10 (.cons (.var 1) (.cons (.cst (.int 7)) .nil))) (.cons (.cst (.int 3)) .nil))))) (.cons (.asg (.one 4) (.call 12 (.cons (.var 1) (.cons (.var 3) .nil)))) (.cons (.asg (.one 5) (.call 14 (.cons (.var 1) (.cons (.var 4) (.cons (.ap .idx (.cons (.tup (.cons (.cst (.int 3)) (.cons (.cst (.int 150)) .nil))) (.cons (.ap .max2 (.cons (.call 10 (.cons (.var 1) (.cons (.cst (.int 2)) .nil))) (.cons (.ap .int (.cons (.var 3) .nil)) .nil))) .nil))) (.cons (.var 3) .nil)))))) (.cons (.ite (.or (.not (.call 17 (.cons (.var 4) (.cons (.var 5) .nil)))) (.or (.not (.call 17 (.cons (.var 4) (.cons (.ap .list (.cons (.var 5) .nil)) .nil)))) (.not (.call 17 (.cons (.var 4) (.cons (.ap .add (.cons (.var 5) (.cons (.tup (.cons (.ap .len (.cons (.pidx (.var 4) (.cst (.int 1))) .nil)) .nil)) .nil))) .nil)))))) (.cons (.ret (.cst (.bl false))) .nil) .nil) (.cons (.for (.one 6) (.seq (.tup (.cons (.ap .fdiv (.cons (.ap .len (.cons (.var 5) .nil)) (.cons (.cst (.int 2)) .nil))) (.cons (.ap .len (.cons (.var 5) .nil)) .nil)))) (.cons (.asg (.one 7) (.ap .add (.cons (.ap (.slc false true) (.cons (.var 5) (.cons (.var 6) .nil))) (.cons (.ap .tuple (.cons (.ap (.slc false true) (.cons (.lc [9] (.one 9) (.rng1 (.ap .len (.cons (.pidx (.var 4) (.cst (.int 1))) .nil))) (.cons (.ap .nin (.cons (.var 9) (.cons (.ap (.slc false true) (.cons (.var 5) (.cons (.var 6) .nil))) .nil))) .nil) (.var 9)) (.cons (.cst (.int 1)) .nil))) .nil)) .nil)))) (.cons (.ite (.or (.not (.call 17 (.cons (.var 4) (.cons (.ap (.slc false true) (.cons (.var 5) (.cons (.var 6) .nil))) .nil)))) (.or (.not (.call 17 (.cons (.var 4) (.cons (.var 7) .nil)))) (.not (.call 17 (.cons (.var 4) (.cons (.ap .add (.cons (.var 7) (.cons (.ap (.slc false true) (.cons (.var 5) (.cons (.cst (.int 1)) .nil))) .nil))) .nil)))))) (.cons (.ret (.cst (.bl false))) .nil) .nil) .nil))) (.cons (.for (.one 8) (.rng1 (.cst (.int 4))) (.cons (.ite (.not (.call 17 (.cons (.var 4) (.cons (.call 16 (.cons (.var 1) (.cons (.var 4) (.cons (.var 5) .nil)))) .nil)))) (.cons (.ret (.cst (.bl false))) .nil) .nil) .nil)) .nil))))))) (.cons (.ret (.cst (.bl true))) .nil))))
def f19 : Fd := ⟨1, 10, [], b19⟩
def fs : List Fd := [f0, f1, f2, f3, f4, f5, f6, f7, f8, f9, f10, f11, f12, f13, f14, f15, f16, f17, f18, f19]
def tf : List He.Defn := [("is_ended", none), ("step_word", none)]
def file : Str := "/claim/cut.py"
def x0 : XcD := ⟨"BadWalk", ["at", "word"], "BadWalk.__init__", defArgs (clsAt (top 2) 0), defBody (clsAt (top 2) 0), defScope (clsAt (top 2) 0)⟩
def xs : List XcD := [x0]
def ems : List (Str × Str × Bool) := [("BadWalk", "BadWalk", true), ("BadWalk", "HouseError", true)]
def cgs : List Str := ["BadWalk", "HouseError"]
def gis : List (Str × Int) := []
section
variable [TabList] {P : Program} {w : World} {K : PySem.W.Frag} {mg : Str → Option Value} {base : Heap} {k : Nat} {call : Nat → List D → CRes}
def hotB (i : Nat) : Bool := [11].contains i
theorem sc0 : FnScope ["house"] ["house"] (defScope (top 4)) := ⟨rfl, rfl, rfl, by decide +kernel, rfl, by decide +kernel, by decide +kernel⟩
theorem t0 (IH : ∀ i x, names[i]? = some x → FnW P w K mg base (xrT K (tbK K xs)) k x (kw i) (call i)) (free : ∀ x, blts.contains x = true → mg x = none) (TT : ∀ q ∈ tf, (He.cT K q).2 ∈ TabList.tabs ∧ GxR.TabB base mg (He.cT K q).1 (He.cT K q).2) (XX : XA P w K mg file xs ems gis cgs) (IHH : ∀ i x, names[i]? = some x → hotB i = true → FnWH P w K mg base (xrT K (tbK K xs)) k x (call i)) {f : Addr} {cdv : Value} {A : Around} {outer : List PySem.Env} {s : Shared} {H : Hp} {E : XK} (hcode : cdv = .ref (He.codeOf K ("first_step", none))) (hr : Room k (A.deeper (envOfC "first_step" (defScope (top 4)) s.heap.objs.size f cdv))) : PSs (cxOf (L2N.CX P w) P w K mg base ["house"] "first_step" (defScope (top 4)) f cdv A outer s H E) (defBody (top 4)) (tSs K (xrT K (tbK K xs)) (fun c d _ H' => E c d H') { call := call, kp := Fd.kp f0 } b0) := by
  subst hcode
  have hN := sc0.nd
  have tk := takes_cx (P := P) (w := w) (K := K) (mg := mg) (base := base) (N := ["house"]) (qual := "first_step") (scope := defScope (top 4)) (f := f) (cd := .ref (He.codeOf K ("first_step", none))) (A := A) (outer := outer) (s := s) (H := H) (E := E)
  have hp := owns_cx (P := P) (w := w) (K := K) (mg := mg) (base := base) (N := ["house"]) (qual := "first_step") (scope := defScope (top 4)) (f := f) (cd := .ref (He.codeOf K ("first_step", none))) (A := A) (outer := outer) (s := s) (H := H) (E := E)
  exact (q_cons (q_ret (s_fze (s_tup (so_cons (s_lst (so_cons s_cint so_nil rfl)) (so_cons s_dic0 (so_cons (s_pidx hr (s_pidx hr (s_var rfl (vis_by rfl) rfl rfl) s_cint (fun _ _ => rfl)) s_cint (fun _ _ => rfl)) so_nil rfl) rfl) rfl)))) q_nil)
theorem g0 (IH : ∀ i x, names[i]? = some x → FnW P w K mg base (xrT K (tbK K xs)) k x (kw i) (callN fs k i)) (free : ∀ x, blts.contains x = true → mg x = none) (TT : ∀ q ∈ tf, (He.cT K q).2 ∈ TabList.tabs ∧ GxR.TabB base mg (He.cT K q).1 (He.cT K q).2) (XX : XA P w K mg file xs ems gis cgs) (IHH : ∀ i x, names[i]? = some x → hotB i = true → FnWH P w K mg base (xrT K (tbK K xs)) k x (callN fs k i)) {f : Addr} {fd : FuncData} (hf : f = He.fAd K ("first_step", none)) (F : FunD K "first_step" "first_step" (defArgs (top 4)) (defBody (top 4)) (defScope (top 4)) [] [] f fd) (hm : mg "first_step" = some (.ref f)) : FnW P w K mg base (xrT K (tbK K xs)) (k + 1) "first_step" (kw 0) (callN fs (k + 1) 0) :=
  ⟨f, fd, ["house"], fd_okC hf F sc0 f0 rfl rfl (fun cdv A outer s H E hc hr => t0 IH free TT XX IHH hc hr), hm, F.kp, F.bindsN (fun _ _ _ _ _ _ us hl => match us, hl with | [_], _ => rfl), fun j _ _ hj => by cases hj⟩
theorem sc1 : FnScope ["house", "step", "room"] ["house", "step"] (defScope (top 5)) := ⟨rfl, rfl, rfl, by decide +kernel, rfl, by decide +kernel, by decide +kernel⟩
theorem t1 (IH : ∀ i x, names[i]? = some x → FnW P w K mg base (xrT K (tbK K xs)) k x (kw i) (call i)) (free : ∀ x, blts.contains x = true → mg x = none) (TT : ∀ q ∈ tf, (He.cT K q).2 ∈ TabList.tabs ∧ GxR.TabB base mg (He.cT K q).1 (He.cT K q).2) (XX : XA P w K mg file xs ems gis cgs) (IHH : ∀ i x, names[i]? = some x → hotB i = true → FnWH P w K mg base (xrT K (tbK K xs)) k x (call i)) {f : Addr} {cdv : Value} {A : Around} {outer : List PySem.Env} {s : Shared} {H : Hp} {E : XK} (hcode : cdv = .ref (He.codeOf K ("is_ended", none))) (hr : Room k (A.deeper (envOfC "is_ended" (defScope (top 5)) s.heap.objs.size f cdv))) : PSs (cxOf (L2N.CX P w) P w K mg base ["house", "step", "room"] "is_ended" (defScope (top 5)) f cdv A outer s H E) (defBody (top 5)) (tSs K (xrT K (tbK K xs)) (fun c d _ H' => E c d H') { call := call, kp := Fd.kp f1 } b1) := by
  subst hcode
  have hN := sc1.nd
  have tt := TT ("is_ended", none) (by decide)
  have tk := takes_cx (P := P) (w := w) (K := K) (mg := mg) (base := base) (N := ["house", "step", "room"]) (qual := "is_ended") (scope := defScope (top 5)) (f := f) (cd := .ref (He.codeOf K ("is_ended", none))) (A := A) (outer := outer) (s := s) (H := H) (E := E)
  have hp := owns_cx (P := P) (w := w) (K := K) (mg := mg) (base := base) (N := ["house", "step", "room"]) (qual := "is_ended") (scope := defScope (top 5)) (f := f) (cd := .ref (He.codeOf K ("is_ended", none))) (A := A) (outer := outer) (s := s) (H := H) (E := E)
  exact (q_cons (q_ret (s_any hr hN rfl rfl tt.1 tt.2 rfl rfl (free "any" rfl) (s_pidx hr (s_var rfl (vis_by rfl) rfl rfl) s_cint (fun _ _ => rfl)) (fun G hG => (qe_in (qe_loc rfl (by rw [hG]; rfl) rfl) (qe_pidx (qe_free rfl (by rw [hG]; rfl) rfl rfl) qe_int (fun _ _ => rfl)) rfl)) (fun _ => rfl) rfl)) q_nil)
theorem g1 (IH : ∀ i x, names[i]? = some x → FnW P w K mg base (xrT K (tbK K xs)) k x (kw i) (callN fs k i)) (free : ∀ x, blts.contains x = true → mg x = none) (TT : ∀ q ∈ tf, (He.cT K q).2 ∈ TabList.tabs ∧ GxR.TabB base mg (He.cT K q).1 (He.cT K q).2) (XX : XA P w K mg file xs ems gis cgs) (IHH : ∀ i x, names[i]? = some x → hotB i = true → FnWH P w K mg base (xrT K (tbK K xs)) k x (callN fs k i)) {f : Addr} {fd : FuncData} (hf : f = He.fAd K ("is_ended", none)) (F : FunD K "is_ended" "is_ended" (defArgs (top 5)) (defBody (top 5)) (defScope (top 5)) [] [] f fd) (hm : mg "is_ended" = some (.ref f)) : FnW P w K mg base (xrT K (tbK K xs)) (k + 1) "is_ended" (kw 1) (callN fs (k + 1) 1) :=
  ⟨f, fd, ["house", "step"], fd_okC hf F sc1 f1 rfl rfl (fun cdv A outer s H E hc hr => t1 IH free TT XX IHH hc hr), hm, F.kp, F.bindsN (fun _ _ _ _ _ _ us hl => match us, hl with | [_, _], _ => rfl), fun j _ _ hj => by cases hj⟩
theorem sc2 : FnScope ["house", "step", "door", "rooms", "opened", "hand", "room"] ["house", "step", "door"] (defScope (top 6)) := ⟨rfl, rfl, rfl, by decide +kernel, rfl, by decide +kernel, by decide +kernel⟩
theorem t2 (IH : ∀ i x, names[i]? = some x → FnW P w K mg base (xrT K (tbK K xs)) k x (kw i) (call i)) (free : ∀ x, blts.contains x = true → mg x = none) (TT : ∀ q ∈ tf, (He.cT K q).2 ∈ TabList.tabs ∧ GxR.TabB base mg (He.cT K q).1 (He.cT K q).2) (XX : XA P w K mg file xs ems gis cgs) (IHH : ∀ i x, names[i]? = some x → hotB i = true → FnWH P w K mg base (xrT K (tbK K xs)) k x (call i)) {f : Addr} {cdv : Value} {A : Around} {outer : List PySem.Env} {s : Shared} {H : Hp} {E : XK} (hcode : cdv = .ref (He.codeOf K ("step_word", none))) (hr : Room k (A.deeper (envOfC "step_word" (defScope (top 6)) s.heap.objs.size f cdv))) : PSs (cxOf (L2N.CX P w) P w K mg base ["house", "step", "door", "rooms", "opened", "hand", "room"] "step_word" (defScope (top 6)) f cdv A outer s H E) (defBody (top 6)) (tSs K (xrT K (tbK K xs)) (fun c d _ H' => E c d H') { call := call, kp := Fd.kp f2 } b2) := by
  subst hcode
  have hN := sc2.nd
  have tt := TT ("step_word", none) (by decide)
  have tk := takes_cx (P := P) (w := w) (K := K) (mg := mg) (base := base) (N := ["house", "step", "door", "rooms", "opened", "hand", "room"]) (qual := "step_word") (scope := defScope (top 6)) (f := f) (cd := .ref (He.codeOf K ("step_word", none))) (A := A) (outer := outer) (s := s) (H := H) (E := E)
  have hp := owns_cx (P := P) (w := w) (K := K) (mg := mg) (base := base) (N := ["house", "step", "door", "rooms", "opened", "hand", "room"]) (qual := "step_word") (scope := defScope (top 6)) (f := f) (cd := .ref (He.codeOf K ("step_word", none))) (A := A) (outer := outer) (s := s) (H := H) (E := E)
  exact (q_cons (q_asg (s_var rfl (vis_by rfl) rfl rfl) (g_tup rfl (g_cons (g_name hN rfl (loc_by rfl) (fnl_by rfl)) (g_cons (g_name hN rfl (loc_by rfl) (fnl_by rfl)) (g_cons (g_name hN rfl (loc_by rfl) (fnl_by rfl)) g_nil rfl) rfl) rfl) rfl rfl) rfl rfl rfl) (q_cons (q_ite (t_cmp rfl (o_in hr) (s_var rfl (vis_by rfl) rfl rfl) (s_var rfl (vis_by rfl) rfl rfl) rfl) (q_cons (q_ret s_cstr) q_nil) q_nil) (q_cons (q_ite (t_plain (s_call ((IH 1 "is_ended" rfl).at) hr tk rfl (sc_var rfl (vis_by rfl) rfl rfl (sc_var rfl (vis_by rfl) rfl rfl sc_nil rfl) rfl) rfl rfl rfl) (fun _ => rfl)) (q_cons (q_ret s_cstr) q_nil) q_nil) (q_cons (q_ite (t_not (t_plain (s_any hr hN rfl rfl tt.1 tt.2 rfl rfl (free "any" rfl) (s_pidx hr (s_pidx hr (s_var rfl (vis_by rfl) rfl rfl) s_cint (fun _ _ => rfl)) (s_var rfl (vis_by rfl) rfl rfl) (fun _ _ => rfl)) (fun G hG => (qe_in (qe_loc rfl (by rw [hG]; rfl) rfl) (qe_free rfl (by rw [hG]; rfl) rfl rfl) rfl)) (fun _ => rfl) rfl) (fun _ => rfl))) (q_cons (q_ret s_cstr) q_nil) q_nil) (q_cons (q_ret (s_ife (t_cmp rfl (o_eq hr) (s_var rfl (vis_by rfl) rfl rfl) s_cint rfl) s_cstr s_cnon)) q_nil)))))
theorem g2 (IH : ∀ i x, names[i]? = some x → FnW P w K mg base (xrT K (tbK K xs)) k x (kw i) (callN fs k i)) (free : ∀ x, blts.contains x = true → mg x = none) (TT : ∀ q ∈ tf, (He.cT K q).2 ∈ TabList.tabs ∧ GxR.TabB base mg (He.cT K q).1 (He.cT K q).2) (XX : XA P w K mg file xs ems gis cgs) (IHH : ∀ i x, names[i]? = some x → hotB i = true → FnWH P w K mg base (xrT K (tbK K xs)) k x (callN fs k i)) {f : Addr} {fd : FuncData} (hf : f = He.fAd K ("step_word", none)) (F : FunD K "step_word" "step_word" (defArgs (top 6)) (defBody (top 6)) (defScope (top 6)) [] [] f fd) (hm : mg "step_word" = some (.ref f)) : FnW P w K mg base (xrT K (tbK K xs)) (k + 1) "step_word" (kw 2) (callN fs (k + 1) 2) :=
  ⟨f, fd, ["house", "step", "door"], fd_okC hf F sc2 f2 rfl rfl (fun cdv A outer s H E hc hr => t2 IH free TT XX IHH hc hr), hm, F.kp, F.bindsN (fun _ _ _ _ _ _ us hl => match us, hl with | [_, _, _], _ => rfl), fun j _ _ hj => by cases hj⟩
theorem sc3 : FnScope ["house", "step", "door", "rooms", "opened", "hand", "fresh", "gained", "room"] ["house", "step", "door"] (defScope (top 7)) := ⟨rfl, rfl, rfl, by decide +kernel, rfl, by decide +kernel, by decide +kernel⟩
theorem t3 (IH : ∀ i x, names[i]? = some x → FnW P w K mg base (xrT K (tbK K xs)) k x (kw i) (call i)) (free : ∀ x, blts.contains x = true → mg x = none) (TT : ∀ q ∈ tf, (He.cT K q).2 ∈ TabList.tabs ∧ GxR.TabB base mg (He.cT K q).1 (He.cT K q).2) (XX : XA P w K mg file xs ems gis cgs) (IHH : ∀ i x, names[i]? = some x → hotB i = true → FnWH P w K mg base (xrT K (tbK K xs)) k x (call i)) {f : Addr} {cdv : Value} {A : Around} {outer : List PySem.Env} {s : Shared} {H : Hp} {E : XK} (hcode : cdv = .ref (He.codeOf K ("next_step", none))) (hr : Room k (A.deeper (envOfC "next_step" (defScope (top 7)) s.heap.objs.size f cdv))) : PSs (cxOf (L2N.CX P w) P w K mg base ["house", "step", "door", "rooms", "opened", "hand", "fresh", "gained", "room"] "next_step" (defScope (top 7)) f cdv A outer s H E) (defBody (top 7)) (tSs K (xrT K (tbK K xs)) (fun c d _ H' => E c d H') { call := call, kp := Fd.kp f3 } b3) := by
  subst hcode
  have hN := sc3.nd
  have tk := takes_cx (P := P) (w := w) (K := K) (mg := mg) (base := base) (N := ["house", "step", "door", "rooms", "opened", "hand", "fresh", "gained", "room"]) (qual := "next_step") (scope := defScope (top 7)) (f := f) (cd := .ref (He.codeOf K ("next_step", none))) (A := A) (outer := outer) (s := s) (H := H) (E := E)
  have hp := owns_cx (P := P) (w := w) (K := K) (mg := mg) (base := base) (N := ["house", "step", "door", "rooms", "opened", "hand", "fresh", "gained", "room"]) (qual := "next_step") (scope := defScope (top 7)) (f := f) (cd := .ref (He.codeOf K ("next_step", none))) (A := A) (outer := outer) (s := s) (H := H) (E := E)
  exact (q_cons (q_asg (s_var rfl (vis_by rfl) rfl rfl) (g_tup rfl (g_cons (g_name hN rfl (loc_by rfl) (fnl_by rfl)) (g_cons (g_name hN rfl (loc_by rfl) (fnl_by rfl)) (g_cons (g_name hN rfl (loc_by rfl) (fnl_by rfl)) g_nil rfl) rfl) rfl) rfl rfl) rfl rfl rfl) (q_cons (q_setLcF (own := [("room", 8)]) rfl hN rfl rfl rfl rfl rfl (i_seq (s_pidx hr (s_pidx hr (s_var rfl (vis_by rfl) rfl rfl) s_cint (fun _ _ => rfl)) (s_var rfl (vis_by rfl) rfl rfl) (fun _ _ => rfl))) rfl (by decide) rfl (fun _ _ _ _ _ => (g_name hN rfl (loc_by rfl) (fnl_by rfl))) (fun _ _ _ _ _ => (if_one (t_cmp rfl (o_nin hr) (s_var rfl (vis_by rfl) rfl rfl) (s_var rfl (vis_by rfl) rfl rfl) rfl))) (fun _ _ _ _ _ => (s_var rfl (vis_by rfl) rfl rfl)) (fun _ => rfl)) (q_cons (q_asg (s_callB (c_sum rfl) rfl (free "sum" rfl) rfl (s_cons (s_lc (own := [("room", 8)]) rfl hN (i_seq (s_var rfl (vis_by rfl) rfl rfl)) rfl (by decide) rfl (fun _ _ _ _ _ => (g_name hN rfl (loc_by rfl) (fnl_by rfl))) (fun _ _ _ _ _ => if_nil) (fun _ _ _ _ _ => (s_pidx hr (s_pidx hr (s_var rfl (vis_by rfl) rfl rfl) s_cint (fun _ _ => rfl)) (s_var rfl (vis_by rfl) rfl rfl) (fun _ _ => rfl))) (fun _ => rfl)) s_nil rfl) (by decide) rfl rfl rfl) (g_name hN rfl (loc_by rfl) (fnl_by rfl)) rfl rfl rfl) (q_cons (q_ret (s_fze (s_tup (so_cons (s_bin o_add (s_var rfl (vis_by rfl) rfl rfl) (s_var rfl (vis_by rfl) rfl rfl)) (so_cons (s_dup hr (s_var rfl (vis_by rfl) rfl rfl) (s_var rfl (vis_by rfl) rfl rfl) s_cbl) (so_cons (s_bin o_add (s_bin o_sub (s_var rfl (vis_by rfl) rfl rfl) s_cint) (s_var rfl (vis_by rfl) rfl rfl)) so_nil rfl) rfl) rfl)))) q_nil))))
theorem g3 (IH : ∀ i x, names[i]? = some x → FnW P w K mg base (xrT K (tbK K xs)) k x (kw i) (callN fs k i)) (free : ∀ x, blts.contains x = true → mg x = none) (TT : ∀ q ∈ tf, (He.cT K q).2 ∈ TabList.tabs ∧ GxR.TabB base mg (He.cT K q).1 (He.cT K q).2) (XX : XA P w K mg file xs ems gis cgs) (IHH : ∀ i x, names[i]? = some x → hotB i = true → FnWH P w K mg base (xrT K (tbK K xs)) k x (callN fs k i)) {f : Addr} {fd : FuncData} (hf : f = He.fAd K ("next_step", none)) (F : FunD K "next_step" "next_step" (defArgs (top 7)) (defBody (top 7)) (defScope (top 7)) [] [] f fd) (hm : mg "next_step" = some (.ref f)) : FnW P w K mg base (xrT K (tbK K xs)) (k + 1) "next_step" (kw 3) (callN fs (k + 1) 3) :=
  ⟨f, fd, ["house", "step", "door"], fd_okC hf F sc3 f3 rfl rfl (fun cdv A outer s H E hc hr => t3 IH free TT XX IHH hc hr), hm, F.kp, F.bindsN (fun _ _ _ _ _ _ us hl => match us, hl with | [_, _, _], _ => rfl), fun j _ _ hj => by cases hj⟩
theorem sc4 : FnScope ["thing"] ["thing"] (defScope (top 9)) := ⟨rfl, rfl, rfl, by decide +kernel, rfl, by decide +kernel, by decide +kernel⟩
theorem t4 (IH : ∀ i x, names[i]? = some x → FnW P w K mg base (xrT K (tbK K xs)) k x (kw i) (call i)) (free : ∀ x, blts.contains x = true → mg x = none) (TT : ∀ q ∈ tf, (He.cT K q).2 ∈ TabList.tabs ∧ GxR.TabB base mg (He.cT K q).1 (He.cT K q).2) (XX : XA P w K mg file xs ems gis cgs) (IHH : ∀ i x, names[i]? = some x → hotB i = true → FnWH P w K mg base (xrT K (tbK K xs)) k x (call i)) {f : Addr} {cdv : Value} {A : Around} {outer : List PySem.Env} {s : Shared} {H : Hp} {E : XK} (hcode : cdv = .ref (He.codeOf K ("is_integer", none))) (hr : Room k (A.deeper (envOfC "is_integer" (defScope (top 9)) s.heap.objs.size f cdv))) : PSs (cxOf (L2N.CX P w) P w K mg base ["thing"] "is_integer" (defScope (top 9)) f cdv A outer s H E) (defBody (top 9)) (tSs K (xrT K (tbK K xs)) (fun c d _ H' => E c d H') { call := call, kp := Fd.kp f4 } b4) := by
  subst hcode
  have hN := sc4.nd
  have tk := takes_cx (P := P) (w := w) (K := K) (mg := mg) (base := base) (N := ["thing"]) (qual := "is_integer") (scope := defScope (top 9)) (f := f) (cd := .ref (He.codeOf K ("is_integer", none))) (A := A) (outer := outer) (s := s) (H := H) (E := E)
  have hp := owns_cx (P := P) (w := w) (K := K) (mg := mg) (base := base) (N := ["thing"]) (qual := "is_integer") (scope := defScope (top 9)) (f := f) (cd := .ref (He.codeOf K ("is_integer", none))) (A := A) (outer := outer) (s := s) (H := H) (E := E)
  exact (q_cons (q_ret (s_and (s_isi .int rfl (free "isinstance" rfl) (s_var rfl (vis_by rfl) rfl rfl) rfl (free "int" rfl) rfl (by decide) rfl rfl rfl rfl) (s_and1 (s_not (s_isi .bool rfl (free "isinstance" rfl) (s_var rfl (vis_by rfl) rfl rfl) rfl (free "bool" rfl) rfl (by decide) rfl rfl rfl rfl))))) q_nil)
theorem g4 (IH : ∀ i x, names[i]? = some x → FnW P w K mg base (xrT K (tbK K xs)) k x (kw i) (callN fs k i)) (free : ∀ x, blts.contains x = true → mg x = none) (TT : ∀ q ∈ tf, (He.cT K q).2 ∈ TabList.tabs ∧ GxR.TabB base mg (He.cT K q).1 (He.cT K q).2) (XX : XA P w K mg file xs ems gis cgs) (IHH : ∀ i x, names[i]? = some x → hotB i = true → FnWH P w K mg base (xrT K (tbK K xs)) k x (callN fs k i)) {f : Addr} {fd : FuncData} (hf : f = He.fAd K ("is_integer", none)) (F : FunD K "is_integer" "is_integer" (defArgs (top 9)) (defBody (top 9)) (defScope (top 9)) [] [] f fd) (hm : mg "is_integer" = some (.ref f)) : FnW P w K mg base (xrT K (tbK K xs)) (k + 1) "is_integer" (kw 4) (callN fs (k + 1) 4) :=
  ⟨f, fd, ["thing"], fd_okC hf F sc4 f4 rfl rfl (fun cdv A outer s H E hc hr => t4 IH free TT XX IHH hc hr), hm, F.kp, F.bindsN (fun _ _ _ _ _ _ us hl => match us, hl with | [_], _ => rfl), fun j _ _ hj => by cases hj⟩
theorem sc5 : FnScope ["thing"] ["thing"] (defScope (top 10)) := ⟨rfl, rfl, rfl, by decide +kernel, rfl, by decide +kernel, by decide +kernel⟩
theorem t5 (IH : ∀ i x, names[i]? = some x → FnW P w K mg base (xrT K (tbK K xs)) k x (kw i) (call i)) (free : ∀ x, blts.contains x = true → mg x = none) (TT : ∀ q ∈ tf, (He.cT K q).2 ∈ TabList.tabs ∧ GxR.TabB base mg (He.cT K q).1 (He.cT K q).2) (XX : XA P w K mg file xs ems gis cgs) (IHH : ∀ i x, names[i]? = some x → hotB i = true → FnWH P w K mg base (xrT K (tbK K xs)) k x (call i)) {f : Addr} {cdv : Value} {A : Around} {outer : List PySem.Env} {s : Shared} {H : Hp} {E : XK} (hcode : cdv = .ref (He.codeOf K ("is_number", none))) (hr : Room k (A.deeper (envOfC "is_number" (defScope (top 10)) s.heap.objs.size f cdv))) : PSs (cxOf (L2N.CX P w) P w K mg base ["thing"] "is_number" (defScope (top 10)) f cdv A outer s H E) (defBody (top 10)) (tSs K (xrT K (tbK K xs)) (fun c d _ H' => E c d H') { call := call, kp := Fd.kp f5 } b5) := by
  subst hcode
  have hN := sc5.nd
  have tk := takes_cx (P := P) (w := w) (K := K) (mg := mg) (base := base) (N := ["thing"]) (qual := "is_number") (scope := defScope (top 10)) (f := f) (cd := .ref (He.codeOf K ("is_number", none))) (A := A) (outer := outer) (s := s) (H := H) (E := E)
  have hp := owns_cx (P := P) (w := w) (K := K) (mg := mg) (base := base) (N := ["thing"]) (qual := "is_number") (scope := defScope (top 10)) (f := f) (cd := .ref (He.codeOf K ("is_number", none))) (A := A) (outer := outer) (s := s) (H := H) (E := E)
  exact (q_cons (q_ret (s_and (s_call ((IH 4 "is_integer" rfl).at) hr tk rfl (sc_var rfl (vis_by rfl) rfl rfl sc_nil rfl) rfl rfl rfl) (s_and1 (s_cmp (o_ge hr) (s_var rfl (vis_by rfl) rfl rfl) s_cint rfl)))) q_nil)
theorem g5 (IH : ∀ i x, names[i]? = some x → FnW P w K mg base (xrT K (tbK K xs)) k x (kw i) (callN fs k i)) (free : ∀ x, blts.contains x = true → mg x = none) (TT : ∀ q ∈ tf, (He.cT K q).2 ∈ TabList.tabs ∧ GxR.TabB base mg (He.cT K q).1 (He.cT K q).2) (XX : XA P w K mg file xs ems gis cgs) (IHH : ∀ i x, names[i]? = some x → hotB i = true → FnWH P w K mg base (xrT K (tbK K xs)) k x (callN fs k i)) {f : Addr} {fd : FuncData} (hf : f = He.fAd K ("is_number", none)) (F : FunD K "is_number" "is_number" (defArgs (top 10)) (defBody (top 10)) (defScope (top 10)) [] [] f fd) (hm : mg "is_number" = some (.ref f)) : FnW P w K mg base (xrT K (tbK K xs)) (k + 1) "is_number" (kw 5) (callN fs (k + 1) 5) :=
  ⟨f, fd, ["thing"], fd_okC hf F sc5 f5 rfl rfl (fun cdv A outer s H E hc hr => t5 IH free TT XX IHH hc hr), hm, F.kp, F.bindsN (fun _ _ _ _ _ _ us hl => match us, hl with | [_], _ => rfl), fun j _ _ hj => by cases hj⟩
theorem sc6 : FnScope ["thing", "bound"] ["thing", "bound"] (defScope (top 11)) := ⟨rfl, rfl, rfl, by decide +kernel, rfl, by decide +kernel, by decide +kernel⟩
theorem t6 (IH : ∀ i x, names[i]? = some x → FnW P w K mg base (xrT K (tbK K xs)) k x (kw i) (call i)) (free : ∀ x, blts.contains x = true → mg x = none) (TT : ∀ q ∈ tf, (He.cT K q).2 ∈ TabList.tabs ∧ GxR.TabB base mg (He.cT K q).1 (He.cT K q).2) (XX : XA P w K mg file xs ems gis cgs) (IHH : ∀ i x, names[i]? = some x → hotB i = true → FnWH P w K mg base (xrT K (tbK K xs)) k x (call i)) {f : Addr} {cdv : Value} {A : Around} {outer : List PySem.Env} {s : Shared} {H : Hp} {E : XK} (hcode : cdv = .ref (He.codeOf K ("is_below", none))) (hr : Room k (A.deeper (envOfC "is_below" (defScope (top 11)) s.heap.objs.size f cdv))) : PSs (cxOf (L2N.CX P w) P w K mg base ["thing", "bound"] "is_below" (defScope (top 11)) f cdv A outer s H E) (defBody (top 11)) (tSs K (xrT K (tbK K xs)) (fun c d _ H' => E c d H') { call := call, kp := Fd.kp f6 } b6) := by
  subst hcode
  have hN := sc6.nd
  have tk := takes_cx (P := P) (w := w) (K := K) (mg := mg) (base := base) (N := ["thing", "bound"]) (qual := "is_below") (scope := defScope (top 11)) (f := f) (cd := .ref (He.codeOf K ("is_below", none))) (A := A) (outer := outer) (s := s) (H := H) (E := E)
  have hp := owns_cx (P := P) (w := w) (K := K) (mg := mg) (base := base) (N := ["thing", "bound"]) (qual := "is_below") (scope := defScope (top 11)) (f := f) (cd := .ref (He.codeOf K ("is_below", none))) (A := A) (outer := outer) (s := s) (H := H) (E := E)
  exact (q_cons (q_ret (s_and (s_call ((IH 5 "is_number" rfl).at) hr tk rfl (sc_var rfl (vis_by rfl) rfl rfl sc_nil rfl) rfl rfl rfl) (s_and1 (s_cmp (o_lt hr) (s_var rfl (vis_by rfl) rfl rfl) (s_var rfl (vis_by rfl) rfl rfl) rfl)))) q_nil)
theorem g6 (IH : ∀ i x, names[i]? = some x → FnW P w K mg base (xrT K (tbK K xs)) k x (kw i) (callN fs k i)) (free : ∀ x, blts.contains x = true → mg x = none) (TT : ∀ q ∈ tf, (He.cT K q).2 ∈ TabList.tabs ∧ GxR.TabB base mg (He.cT K q).1 (He.cT K q).2) (XX : XA P w K mg file xs ems gis cgs) (IHH : ∀ i x, names[i]? = some x → hotB i = true → FnWH P w K mg base (xrT K (tbK K xs)) k x (callN fs k i)) {f : Addr} {fd : FuncData} (hf : f = He.fAd K ("is_below", none)) (F : FunD K "is_below" "is_below" (defArgs (top 11)) (defBody (top 11)) (defScope (top 11)) [] [] f fd) (hm : mg "is_below" = some (.ref f)) : FnW P w K mg base (xrT K (tbK K xs)) (k + 1) "is_below" (kw 6) (callN fs (k + 1) 6) :=
  ⟨f, fd, ["thing", "bound"], fd_okC hf F sc6 f6 rfl rfl (fun cdv A outer s H E hc hr => t6 IH free TT XX IHH hc hr), hm, F.kp, F.bindsN (fun _ _ _ _ _ _ us hl => match us, hl with | [_, _], _ => rfl), fun j _ _ hj => by cases hj⟩
theorem sc7 : FnScope ["house", "thing", "step", "at", "door", "word"] ["house", "thing"] (defScope (top 13)) := ⟨rfl, rfl, rfl, by decide +kernel, rfl, by decide +kernel, by decide +kernel⟩
theorem t7 (IH : ∀ i x, names[i]? = some x → FnW P w K mg base (xrT K (tbK K xs)) k x (kw i) (call i)) (free : ∀ x, blts.contains x = true → mg x = none) (TT : ∀ q ∈ tf, (He.cT K q).2 ∈ TabList.tabs ∧ GxR.TabB base mg (He.cT K q).1 (He.cT K q).2) (XX : XA P w K mg file xs ems gis cgs) (IHH : ∀ i x, names[i]? = some x → hotB i = true → FnWH P w K mg base (xrT K (tbK K xs)) k x (call i)) {f : Addr} {cdv : Value} {A : Around} {outer : List PySem.Env} {s : Shared} {H : Hp} {E : XK} (hcode : cdv = .ref (He.codeOf K ("check_walk", none))) (hr : Room k (A.deeper (envOfC "check_walk" (defScope (top 13)) s.heap.objs.size f cdv))) : PSs (cxOf (L2N.CX P w) P w K mg base ["house", "thing", "step", "at", "door", "word"] "check_walk" (defScope (top 13)) f cdv A outer s H E) (defBody (top 13)) (tSs K (xrT K (tbK K xs)) (fun c d _ H' => E c d H') { call := call, kp := Fd.kp f7 } b7) := by
  subst hcode
  have hN := sc7.nd
  have tk := takes_cx (P := P) (w := w) (K := K) (mg := mg) (base := base) (N := ["house", "thing", "step", "at", "door", "word"]) (qual := "check_walk") (scope := defScope (top 13)) (f := f) (cd := .ref (He.codeOf K ("check_walk", none))) (A := A) (outer := outer) (s := s) (H := H) (E := E)
  have hp := owns_cx (P := P) (w := w) (K := K) (mg := mg) (base := base) (N := ["house", "thing", "step", "at", "door", "word"]) (qual := "check_walk") (scope := defScope (top 13)) (f := f) (cd := .ref (He.codeOf K ("check_walk", none))) (A := A) (outer := outer) (s := s) (H := H) (E := E)
  exact (q_cons (q_ite (t_not (t_plain (s_isi .tup rfl (free "isinstance" rfl) (s_var rfl (vis_by rfl) rfl rfl) rfl (free "tuple" rfl) rfl (by decide) rfl rfl rfl rfl) (fun _ => rfl))) (q_cons (q_raise rfl tk (XX.xd 0 _ rfl) hr rfl (XX.xg 0 _ rfl) rfl rfl (by decide) (so_cons (s_un o_neg s_cint) (so_cons s_cstr so_nil rfl) rfl) rfl rfl rfl) q_nil) q_nil) (q_cons (q_asg (s_call ((IH 0 "first_step" rfl).at) hr tk rfl (sc_var rfl (vis_by rfl) rfl rfl sc_nil rfl) rfl rfl rfl) (g_name hN rfl (loc_by rfl) (fnl_by rfl)) rfl rfl rfl) (q_cons (q_for hp rfl (i_enum rfl (free "enumerate" rfl) (s_var rfl (vis_by rfl) rfl rfl) rfl) (g_tup rfl (g_cons (g_name hN rfl (loc_by rfl) (fnl_by rfl)) (g_cons (g_name hN rfl (loc_by rfl) (fnl_by rfl)) g_nil rfl) rfl) rfl rfl) (q_cons (q_ite (t_not (t_plain (s_call ((IH 6 "is_below" rfl).at) hr tk rfl (sc_var rfl (vis_by rfl) rfl rfl (sc_cons rfl (s_callB c_len rfl (free "len" rfl) rfl (s_cons (s_pidx hr (s_var rfl (vis_by rfl) rfl rfl) s_cint (fun _ _ => rfl)) s_nil rfl) (by decide) rfl rfl rfl) sc_nil rfl) rfl) rfl rfl rfl) (fun _ => rfl))) (q_cons (q_raise rfl tk (XX.xd 0 _ rfl) hr rfl (XX.xg 0 _ rfl) rfl rfl (by decide) (so_cons (s_var rfl (vis_by rfl) rfl rfl) (so_cons s_cstr so_nil rfl) rfl) rfl rfl rfl) q_nil) q_nil) (q_cons (q_asg (s_call ((IH 2 "step_word" rfl).at) hr tk rfl (sc_var rfl (vis_by rfl) rfl rfl (sc_var rfl (vis_by rfl) rfl rfl (sc_var rfl (vis_by rfl) rfl rfl sc_nil rfl) rfl) rfl) rfl rfl rfl) (g_name hN rfl (loc_by rfl) (fnl_by rfl)) rfl rfl rfl) (q_cons (q_ite (t_notN (s_var rfl (vis_by rfl) rfl rfl)) (q_cons (q_raise rfl tk (XX.xd 0 _ rfl) hr rfl (XX.xg 0 _ rfl) rfl rfl (by decide) (so_cons (s_var rfl (vis_by rfl) rfl rfl) (so_cons (s_var rfl (vis_by rfl) rfl rfl) so_nil rfl) rfl) rfl rfl rfl) q_nil) q_nil) (q_cons (q_asg (s_call ((IH 3 "next_step" rfl).at) hr tk rfl (sc_var rfl (vis_by rfl) rfl rfl (sc_var rfl (vis_by rfl) rfl rfl (sc_var rfl (vis_by rfl) rfl rfl sc_nil rfl) rfl) rfl) rfl rfl rfl) (g_name hN rfl (loc_by rfl) (fnl_by rfl)) rfl rfl rfl) q_nil)))) (fun _ => rfl)) (q_cons (q_ret (s_pidx hr (s_var rfl (vis_by rfl) rfl rfl) s_cint (fun _ _ => rfl))) q_nil))))
theorem g7 (IH : ∀ i x, names[i]? = some x → FnW P w K mg base (xrT K (tbK K xs)) k x (kw i) (callN fs k i)) (free : ∀ x, blts.contains x = true → mg x = none) (TT : ∀ q ∈ tf, (He.cT K q).2 ∈ TabList.tabs ∧ GxR.TabB base mg (He.cT K q).1 (He.cT K q).2) (XX : XA P w K mg file xs ems gis cgs) (IHH : ∀ i x, names[i]? = some x → hotB i = true → FnWH P w K mg base (xrT K (tbK K xs)) k x (callN fs k i)) {f : Addr} {fd : FuncData} (hf : f = He.fAd K ("check_walk", none)) (F : FunD K "check_walk" "check_walk" (defArgs (top 13)) (defBody (top 13)) (defScope (top 13)) [] [] f fd) (hm : mg "check_walk" = some (.ref f)) : FnW P w K mg base (xrT K (tbK K xs)) (k + 1) "check_walk" (kw 7) (callN fs (k + 1) 7) :=
  ⟨f, fd, ["house", "thing"], fd_okC hf F sc7 f7 rfl rfl (fun cdv A outer s H E hc hr => t7 IH free TT XX IHH hc hr), hm, F.kp, F.bindsN (fun _ _ _ _ _ _ us hl => match us, hl with | [_, _], _ => rfl), fun j _ _ hj => by cases hj⟩
theorem sc8 : FnScope ["house", "thing"] ["house", "thing"] (defScope (top 14)) := ⟨rfl, rfl, rfl, by decide +kernel, rfl, by decide +kernel, by decide +kernel⟩
theorem t8 (IH : ∀ i x, names[i]? = some x → FnW P w K mg base (xrT K (tbK K xs)) k x (kw i) (call i)) (free : ∀ x, blts.contains x = true → mg x = none) (TT : ∀ q ∈ tf, (He.cT K q).2 ∈ TabList.tabs ∧ GxR.TabB base mg (He.cT K q).1 (He.cT K q).2) (XX : XA P w K mg file xs ems gis cgs) (IHH : ∀ i x, names[i]? = some x → hotB i = true → FnWH P w K mg base (xrT K (tbK K xs)) k x (call i)) {f : Addr} {cdv : Value} {A : Around} {outer : List PySem.Env} {s : Shared} {H : Hp} {E : XK} (hcode : cdv = .ref (He.codeOf K ("is_walk", none))) (hr : Room k (A.deeper (envOfC "is_walk" (defScope (top 14)) s.heap.objs.size f cdv))) : PSs (cxOf (L2N.CX P w) P w K mg base ["house", "thing"] "is_walk" (defScope (top 14)) f cdv A outer s H E) (defBody (top 14)) (tSs K (xrT K (tbK K xs)) (fun c d _ H' => E c d H') { call := call, kp := Fd.kp f8 } b8) := by
  subst hcode
  have hN := sc8.nd
  have tk := takes_cx (P := P) (w := w) (K := K) (mg := mg) (base := base) (N := ["house", "thing"]) (qual := "is_walk") (scope := defScope (top 14)) (f := f) (cd := .ref (He.codeOf K ("is_walk", none))) (A := A) (outer := outer) (s := s) (H := H) (E := E)
  have hp := owns_cx (P := P) (w := w) (K := K) (mg := mg) (base := base) (N := ["house", "thing"]) (qual := "is_walk") (scope := defScope (top 14)) (f := f) (cd := .ref (He.codeOf K ("is_walk", none))) (A := A) (outer := outer) (s := s) (H := H) (E := E)
  exact (q_cons (q_try_mix rfl rfl hN tk (fun W pn xe tk hp => (q_cons (q_exp (s_call ((IH 7 "check_walk" rfl).at) hr tk rfl (sc_var rfl (vis_by rfl) rfl rfl (sc_var rfl (vis_by rfl) rfl rfl sc_nil rfl) rfl) rfl rfl rfl) rfl) q_nil)) (.un rfl (XX.cg 0 _ rfl) rfl (fun j Cj flj hh => match j, hh with | 0, hh => by cases hh; exact XX.em 0 _ rfl | j + 1, hh => by cases hh) rfl (fun a oe pn => (nr_one n_bl)) .nil)) (q_cons (q_ret s_cbl) q_nil))
theorem g8 (IH : ∀ i x, names[i]? = some x → FnW P w K mg base (xrT K (tbK K xs)) k x (kw i) (callN fs k i)) (free : ∀ x, blts.contains x = true → mg x = none) (TT : ∀ q ∈ tf, (He.cT K q).2 ∈ TabList.tabs ∧ GxR.TabB base mg (He.cT K q).1 (He.cT K q).2) (XX : XA P w K mg file xs ems gis cgs) (IHH : ∀ i x, names[i]? = some x → hotB i = true → FnWH P w K mg base (xrT K (tbK K xs)) k x (callN fs k i)) {f : Addr} {fd : FuncData} (hf : f = He.fAd K ("is_walk", none)) (F : FunD K "is_walk" "is_walk" (defArgs (top 14)) (defBody (top 14)) (defScope (top 14)) [] [] f fd) (hm : mg "is_walk" = some (.ref f)) : FnW P w K mg base (xrT K (tbK K xs)) (k + 1) "is_walk" (kw 8) (callN fs (k + 1) 8) :=
  ⟨f, fd, ["house", "thing"], fd_okC hf F sc8 f8 rfl rfl (fun cdv A outer s H E hc hr => t8 IH free TT XX IHH hc hr), hm, F.kp, F.bindsN (fun _ _ _ _ _ _ us hl => match us, hl with | [_, _], _ => rfl), fun j _ _ hj => by cases hj⟩
theorem sc9 : FnScope ["script", "cells", "state", "cell"] ["script"] (defScope (top 16)) := ⟨rfl, rfl, rfl, by decide +kernel, rfl, by decide +kernel, by decide +kernel⟩
theorem t9 (IH : ∀ i x, names[i]? = some x → FnW P w K mg base (xrT K (tbK K xs)) k x (kw i) (call i)) (free : ∀ x, blts.contains x = true → mg x = none) (TT : ∀ q ∈ tf, (He.cT K q).2 ∈ TabList.tabs ∧ GxR.TabB base mg (He.cT K q).1 (He.cT K q).2) (XX : XA P w K mg file xs ems gis cgs) (IHH : ∀ i x, names[i]? = some x → hotB i = true → FnWH P w K mg base (xrT K (tbK K xs)) k x (call i)) {f : Addr} {cdv : Value} {A : Around} {outer : List PySem.Env} {s : Shared} {H : Hp} {E : XK} (hcode : cdv = .ref (He.codeOf K ("_law_purse", none))) (hr : Room k (A.deeper (envOfC "_law_purse" (defScope (top 16)) s.heap.objs.size f cdv))) : PSs (cxOf (L2N.CX P w) P w K mg base ["script", "cells", "state", "cell"] "_law_purse" (defScope (top 16)) f cdv A outer s H E) (defBody (top 16)) (tSs K (xrT K (tbK K xs)) (fun c d _ H' => E c d H') { call := call, kp := Fd.kp f9 } b9) := by
  subst hcode
  have hN := sc9.nd
  have tk := takes_cx (P := P) (w := w) (K := K) (mg := mg) (base := base) (N := ["script", "cells", "state", "cell"]) (qual := "_law_purse") (scope := defScope (top 16)) (f := f) (cd := .ref (He.codeOf K ("_law_purse", none))) (A := A) (outer := outer) (s := s) (H := H) (E := E)
  have hp := owns_cx (P := P) (w := w) (K := K) (mg := mg) (base := base) (N := ["script", "cells", "state", "cell"]) (qual := "_law_purse") (scope := defScope (top 16)) (f := f) (cd := .ref (He.codeOf K ("_law_purse", none))) (A := A) (outer := outer) (s := s) (H := H) (E := E)
  exact (q_cons (q_asg (s_fze (s_bin o_add (s_lc (own := [("cell", 3)]) rfl hN (i_seq (s_cutH (s_var rfl (vis_by rfl) rfl rfl) s_cint)) rfl (by decide) rfl (fun _ _ _ _ _ => (g_name hN rfl (loc_by rfl) (fnl_by rfl))) (fun _ _ _ _ _ => if_nil) (fun _ _ _ _ _ => (s_bin o_mod (s_callTy c_int rfl (free "int" rfl) rfl (s_cons (s_var rfl (vis_by rfl) rfl rfl) s_nil rfl) (by decide) rfl rfl rfl) s_cint)) (fun _ => rfl)) (s_lst (so_cons s_cint so_nil rfl)))) (g_name hN rfl (loc_by rfl) (fnl_by rfl)) rfl rfl rfl) (q_cons (q_asg s_cint (g_name hN rfl (loc_by rfl) (fnl_by rfl)) rfl rfl rfl) (q_cons (q_for hp rfl (i_seq (s_var rfl (vis_by rfl) rfl rfl)) (g_name hN rfl (loc_by rfl) (fnl_by rfl)) (q_cons (q_asg (s_bin o_mod (s_bin o_add (s_bin o_add (s_bin o_mul (s_callTy c_int rfl (free "int" rfl) rfl (s_cons (s_var rfl (vis_by rfl) rfl rfl) s_nil rfl) (by decide) rfl rfl rfl) s_cint) (s_bin o_mul (s_callTy c_int rfl (free "int" rfl) rfl (s_cons (s_var rfl (vis_by rfl) rfl rfl) s_nil rfl) (by decide) rfl rfl rfl) s_cint)) s_cint) s_cint) (g_name hN rfl (loc_by rfl) (fnl_by rfl)) rfl rfl rfl) q_nil) (fun _ => rfl)) (q_cons (q_ret (s_lst (so_cons s_cint (so_cons (s_var rfl (vis_by rfl) rfl rfl) (so_cons (s_fze (s_mov rfl (vis_by rfl) rfl rfl)) so_nil rfl) rfl) rfl))) q_nil))))
theorem g9 (IH : ∀ i x, names[i]? = some x → FnW P w K mg base (xrT K (tbK K xs)) k x (kw i) (callN fs k i)) (free : ∀ x, blts.contains x = true → mg x = none) (TT : ∀ q ∈ tf, (He.cT K q).2 ∈ TabList.tabs ∧ GxR.TabB base mg (He.cT K q).1 (He.cT K q).2) (XX : XA P w K mg file xs ems gis cgs) (IHH : ∀ i x, names[i]? = some x → hotB i = true → FnWH P w K mg base (xrT K (tbK K xs)) k x (callN fs k i)) {f : Addr} {fd : FuncData} (hf : f = He.fAd K ("_law_purse", none)) (F : FunD K "_law_purse" "_law_purse" (defArgs (top 16)) (defBody (top 16)) (defScope (top 16)) [] [] f fd) (hm : mg "_law_purse" = some (.ref f)) : FnW P w K mg base (xrT K (tbK K xs)) (k + 1) "_law_purse" (kw 9) (callN fs (k + 1) 9) :=
  ⟨f, fd, ["script"], fd_okC hf F sc9 f9 rfl rfl (fun cdv A outer s H E hc hr => t9 IH free TT XX IHH hc hr), hm, F.kp, F.bindsN (fun _ _ _ _ _ _ us hl => match us, hl with | [_], _ => rfl), fun j _ _ hj => by cases hj⟩
theorem sc10 : FnScope ["purse", "many", "cell"] ["purse", "many"] (defScope (top 17)) := ⟨rfl, rfl, rfl, by decide +kernel, rfl, by decide +kernel, by decide +kernel⟩
theorem t10 (IH : ∀ i x, names[i]? = some x → FnW P w K mg base (xrT K (tbK K xs)) k x (kw i) (call i)) (free : ∀ x, blts.contains x = true → mg x = none) (TT : ∀ q ∈ tf, (He.cT K q).2 ∈ TabList.tabs ∧ GxR.TabB base mg (He.cT K q).1 (He.cT K q).2) (XX : XA P w K mg file xs ems gis cgs) (IHH : ∀ i x, names[i]? = some x → hotB i = true → FnWH P w K mg base (xrT K (tbK K xs)) k x (call i)) {f : Addr} {cdv : Value} {A : Around} {outer : List PySem.Env} {s : Shared} {H : Hp} {E : XK} (hcode : cdv = .ref (He.codeOf K ("_law_one", none))) (hr : Room k (A.deeper (envOfC "_law_one" (defScope (top 17)) s.heap.objs.size f cdv))) : PSs (cxOf (L2N.CX P w) P w K mg base ["purse", "many", "cell"] "_law_one" (defScope (top 17)) f cdv A outer s H E) (defBody (top 17)) (tSs K (xrT K (tbK K xs)) (fun c d _ H' => E c d H') { call := call, kp := Fd.kp f10 } b10) := by
  subst hcode
  have hN := sc10.nd
  have tk := takes_cx (P := P) (w := w) (K := K) (mg := mg) (base := base) (N := ["purse", "many", "cell"]) (qual := "_law_one") (scope := defScope (top 17)) (f := f) (cd := .ref (He.codeOf K ("_law_one", none))) (A := A) (outer := outer) (s := s) (H := H) (E := E)
  have hp := owns_cx (P := P) (w := w) (K := K) (mg := mg) (base := base) (N := ["purse", "many", "cell"]) (qual := "_law_one") (scope := defScope (top 17)) (f := f) (cd := .ref (He.codeOf K ("_law_one", none))) (A := A) (outer := outer) (s := s) (H := H) (E := E)
  exact (q_cons (q_sto hr (s_bin o_add (s_pidx hr (s_var rfl (vis_by rfl) rfl rfl) s_cint (fun _ _ => rfl)) s_cint) (p_var rfl (vis_by rfl) rfl rfl) s_cint rfl rfl rfl (fun _ => rfl)) (q_cons (q_asg (s_pidx hr (s_pidx hr (s_var rfl (vis_by rfl) rfl rfl) s_cint (fun _ _ => rfl)) (s_bin o_mod (s_callTy c_int rfl (free "int" rfl) rfl (s_cons (s_pidx hr (s_var rfl (vis_by rfl) rfl rfl) s_cint (fun _ _ => rfl)) s_nil rfl) (by decide) rfl rfl rfl) (s_callB c_len rfl (free "len" rfl) rfl (s_cons (s_pidx hr (s_var rfl (vis_by rfl) rfl rfl) s_cint (fun _ _ => rfl)) s_nil rfl) (by decide) rfl rfl rfl)) (fun _ _ => rfl)) (g_name hN rfl (loc_by rfl) (fnl_by rfl)) rfl rfl rfl) (q_cons (q_sto hr (s_bin o_mod (s_bin o_add (s_bin o_add (s_bin o_add (s_bin o_mul (s_callTy c_int rfl (free "int" rfl) rfl (s_cons (s_pidx hr (s_var rfl (vis_by rfl) rfl rfl) s_cint (fun _ _ => rfl)) s_nil rfl) (by decide) rfl rfl rfl) s_cint) (s_bin o_mul (s_callTy c_int rfl (free "int" rfl) rfl (s_cons (s_var rfl (vis_by rfl) rfl rfl) s_nil rfl) (by decide) rfl rfl rfl) s_cint)) (s_bin o_mul (s_callTy c_int rfl (free "int" rfl) rfl (s_cons (s_pidx hr (s_var rfl (vis_by rfl) rfl rfl) s_cint (fun _ _ => rfl)) s_nil rfl) (by decide) rfl rfl rfl) s_cint)) s_cint) s_cint) (p_var rfl (vis_by rfl) rfl rfl) s_cint rfl rfl rfl (fun _ => rfl)) (q_cons (q_ret (s_bin o_mod (s_bin o_fdiv (s_callTy c_int rfl (free "int" rfl) rfl (s_cons (s_pidx hr (s_var rfl (vis_by rfl) rfl rfl) s_cint (fun _ _ => rfl)) s_nil rfl) (by decide) rfl rfl rfl) s_cint) (s_callB (c_max2 rfl) rfl (free "max" rfl) rfl (s_cons s_cint (s_cons (s_callTy c_int rfl (free "int" rfl) rfl (s_cons (s_var rfl (vis_by rfl) rfl rfl) s_nil rfl) (by decide) rfl rfl rfl) s_nil rfl) rfl) (by decide) rfl rfl rfl))) q_nil))))
theorem g10 (IH : ∀ i x, names[i]? = some x → FnW P w K mg base (xrT K (tbK K xs)) k x (kw i) (callN fs k i)) (free : ∀ x, blts.contains x = true → mg x = none) (TT : ∀ q ∈ tf, (He.cT K q).2 ∈ TabList.tabs ∧ GxR.TabB base mg (He.cT K q).1 (He.cT K q).2) (XX : XA P w K mg file xs ems gis cgs) (IHH : ∀ i x, names[i]? = some x → hotB i = true → FnWH P w K mg base (xrT K (tbK K xs)) k x (callN fs k i)) {f : Addr} {fd : FuncData} (hf : f = He.fAd K ("_law_one", none)) (F : FunD K "_law_one" "_law_one" (defArgs (top 17)) (defBody (top 17)) (defScope (top 17)) [] [] f fd) (hm : mg "_law_one" = some (.ref f)) : FnW P w K mg base (xrT K (tbK K xs)) (k + 1) "_law_one" (kw 10) (callN fs (k + 1) 10) :=
  ⟨f, fd, ["purse", "many"], fd_okC hf F sc10 f10 rfl rfl (fun cdv A outer s H E hc hr => t10 IH free TT XX IHH hc hr), hm, F.kp, F.bindsN (fun _ _ _ _ _ _ us hl => match us, hl with | [_, _], _ => rfl), fun j _ _ hj => by cases hj⟩
theorem sc11 : FnScope ["told", "due", "k"] ["told", "due"] (defScope (top 18)) := ⟨rfl, rfl, rfl, by decide +kernel, rfl, by decide +kernel, by decide +kernel⟩
theorem t11 (IH : ∀ i x, names[i]? = some x → FnW P w K mg base (xrT K (tbK K xs)) k x (kw i) (call i)) (free : ∀ x, blts.contains x = true → mg x = none) (TT : ∀ q ∈ tf, (He.cT K q).2 ∈ TabList.tabs ∧ GxR.TabB base mg (He.cT K q).1 (He.cT K q).2) (XX : XA P w K mg file xs ems gis cgs) (IHH : ∀ i x, names[i]? = some x → hotB i = true → FnWH P w K mg base (xrT K (tbK K xs)) k x (call i)) {f : Addr} {cdv : Value} {A : Around} {outer : List PySem.Env} {s : Shared} {H : Hp} {E : XK} (hcode : cdv = .ref (He.codeOf K ("_law_like", none))) (hr : Room k (A.deeper (envOfC "_law_like" (defScope (top 18)) s.heap.objs.size f cdv))) : PSs (cxOf (L2N.CX P w) P w K mg base ["told", "due", "k"] "_law_like" (defScope (top 18)) f cdv A outer s H E) (defBody (top 18)) (tSs K (xrT K (tbK K xs)) (fun c d _ H' => E c d H') { call := call, kp := Fd.kp f11 } b11) := by
  subst hcode
  have hN := sc11.nd
  have tk := takes_cx (P := P) (w := w) (K := K) (mg := mg) (base := base) (N := ["told", "due", "k"]) (qual := "_law_like") (scope := defScope (top 18)) (f := f) (cd := .ref (He.codeOf K ("_law_like", none))) (A := A) (outer := outer) (s := s) (H := H) (E := E)
  have hp := owns_cx (P := P) (w := w) (K := K) (mg := mg) (base := base) (N := ["told", "due", "k"]) (qual := "_law_like") (scope := defScope (top 18)) (f := f) (cd := .ref (He.codeOf K ("_law_like", none))) (A := A) (outer := outer) (s := s) (H := H) (E := E)
  exact (q_cons (q_ite (PW.pt (w_or (t_plain (s_isi .bool rfl (free "isinstance" rfl) (s_var rfl (vis_by rfl) rfl rfl) rfl (free "bool" rfl) rfl (by decide) rfl rfl rfl rfl) (fun _ => rfl)) (w_or1 (t_plain (s_isi .bool rfl (free "isinstance" rfl) (s_var rfl (vis_by rfl) rfl rfl) rfl (free "bool" rfl) rfl (by decide) rfl rfl rfl rfl) (fun _ => rfl))))) (q_cons (q_ret (s_and (s_isi .bool rfl (free "isinstance" rfl) (s_var rfl (vis_by rfl) rfl rfl) rfl (free "bool" rfl) rfl (by decide) rfl rfl rfl rfl) (s_and (s_isi .bool rfl (free "isinstance" rfl) (s_var rfl (vis_by rfl) rfl rfl) rfl (free "bool" rfl) rfl (by decide) rfl rfl rfl rfl) (s_and1 (s_cmp (o_eq hr) (s_var rfl (vis_by rfl) rfl rfl) (s_var rfl (vis_by rfl) rfl rfl) rfl))))) q_nil) q_nil) (q_cons (q_ite (t_plain (s_isi .str rfl (free "isinstance" rfl) (s_var rfl (vis_by rfl) rfl rfl) rfl (free "str" rfl) rfl (by decide) rfl rfl rfl rfl) (fun _ => rfl)) (q_cons (q_ret (s_and (s_isi .str rfl (free "isinstance" rfl) (s_var rfl (vis_by rfl) rfl rfl) rfl (free "str" rfl) rfl (by decide) rfl rfl rfl rfl) (s_and1 (s_cmp (o_eq hr) (s_var rfl (vis_by rfl) rfl rfl) (s_var rfl (vis_by rfl) rfl rfl) rfl)))) q_nil) q_nil) (q_cons (q_ite (t_plain (s_isi .tup rfl (free "isinstance" rfl) (s_var rfl (vis_by rfl) rfl rfl) rfl (free "tuple" rfl) rfl (by decide) rfl rfl rfl rfl) (fun _ => rfl)) (q_cons (q_ite (PW.pt (w_or (t_not (t_plain (s_isi .tup rfl (free "isinstance" rfl) (s_var rfl (vis_by rfl) rfl rfl) rfl (free "tuple" rfl) rfl (by decide) rfl rfl rfl rfl) (fun _ => rfl))) (w_or1 (t_cmp rfl (o_ne hr) (s_callB c_len rfl (free "len" rfl) rfl (s_cons (s_var rfl (vis_by rfl) rfl rfl) s_nil rfl) (by decide) rfl rfl rfl) (s_callB c_len rfl (free "len" rfl) rfl (s_cons (s_var rfl (vis_by rfl) rfl rfl) s_nil rfl) (by decide) rfl rfl rfl) rfl)))) (q_cons (q_ret s_cbl) q_nil) q_nil) (q_cons (q_for hp rfl (i_rng1 rfl (free "range" rfl) (s_cons (s_callB c_len rfl (free "len" rfl) rfl (s_cons (s_var rfl (vis_by rfl) rfl rfl) s_nil rfl) (by decide) rfl rfl rfl) s_nil rfl) rfl) (g_name hN rfl (loc_by rfl) (fnl_by rfl)) (q_cons (q_ite (t_not (t_plain (s_call ((IH 11 "_law_like" rfl).at) hr tk rfl (sc_cons rfl (s_pidx hr (s_var rfl (vis_by rfl) rfl rfl) (s_var rfl (vis_by rfl) rfl rfl) (fun _ _ => rfl)) (sc_cons rfl (s_pidx hr (s_var rfl (vis_by rfl) rfl rfl) (s_var rfl (vis_by rfl) rfl rfl) (fun _ _ => rfl)) sc_nil rfl) rfl) rfl rfl rfl) (fun _ => rfl))) (q_cons (q_ret s_cbl) q_nil) q_nil) q_nil) (fun _ => rfl)) (q_cons (q_ret s_cbl) q_nil))) q_nil) (q_cons (q_ret (s_and (s_isi .int rfl (free "isinstance" rfl) (s_var rfl (vis_by rfl) rfl rfl) rfl (free "int" rfl) rfl (by decide) rfl rfl rfl rfl) (s_and1 (s_cmp (o_eq hr) (s_var rfl (vis_by rfl) rfl rfl) (s_var rfl (vis_by rfl) rfl rfl) rfl)))) q_nil))))
theorem g11 (IH : ∀ i x, names[i]? = some x → FnW P w K mg base (xrT K (tbK K xs)) k x (kw i) (callN fs k i)) (free : ∀ x, blts.contains x = true → mg x = none) (TT : ∀ q ∈ tf, (He.cT K q).2 ∈ TabList.tabs ∧ GxR.TabB base mg (He.cT K q).1 (He.cT K q).2) (XX : XA P w K mg file xs ems gis cgs) (IHH : ∀ i x, names[i]? = some x → hotB i = true → FnWH P w K mg base (xrT K (tbK K xs)) k x (callN fs k i)) {f : Addr} {fd : FuncData} (hf : f = He.fAd K ("_law_like", none)) (F : FunD K "_law_like" "_law_like" (defArgs (top 18)) (defBody (top 18)) (defScope (top 18)) [] [] f fd) (hm : mg "_law_like" = some (.ref f)) : FnW P w K mg base (xrT K (tbK K xs)) (k + 1) "_law_like" (kw 11) (callN fs (k + 1) 11) :=
  ⟨f, fd, ["told", "due"], fd_okC hf F sc11 f11 rfl rfl (fun cdv A outer s H E hc hr => t11 IH free TT XX IHH hc hr), hm, F.kp, F.bindsN (fun _ _ _ _ _ _ us hl => match us, hl with | [_, _], _ => rfl), fun j _ _ hj => by cases hj⟩
theorem sc12 : FnScope ["purse", "wide", "many", "doors", "turn", "one", "other", "halls", "keys", "room"] ["purse", "wide"] (defScope (top 19)) := ⟨rfl, rfl, rfl, by decide +kernel, rfl, by decide +kernel, by decide +kernel⟩
theorem t12 (IH : ∀ i x, names[i]? = some x → FnW P w K mg base (xrT K (tbK K xs)) k x (kw i) (call i)) (free : ∀ x, blts.contains x = true → mg x = none) (TT : ∀ q ∈ tf, (He.cT K q).2 ∈ TabList.tabs ∧ GxR.TabB base mg (He.cT K q).1 (He.cT K q).2) (XX : XA P w K mg file xs ems gis cgs) (IHH : ∀ i x, names[i]? = some x → hotB i = true → FnWH P w K mg base (xrT K (tbK K xs)) k x (call i)) {f : Addr} {cdv : Value} {A : Around} {outer : List PySem.Env} {s : Shared} {H : Hp} {E : XK} (hcode : cdv = .ref (He.codeOf K ("_law_house", none))) (hr : Room k (A.deeper (envOfC "_law_house" (defScope (top 19)) s.heap.objs.size f cdv))) : PSs (cxOf (L2N.CX P w) P w K mg base ["purse", "wide", "many", "doors", "turn", "one", "other", "halls", "keys", "room"] "_law_house" (defScope (top 19)) f cdv A outer s H E) (defBody (top 19)) (tSs K (xrT K (tbK K xs)) (fun c d _ H' => E c d H') { call := call, kp := Fd.kp f12 } b12) := by
  subst hcode
  have hN := sc12.nd
  have tk := takes_cx (P := P) (w := w) (K := K) (mg := mg) (base := base) (N := ["purse", "wide", "many", "doors", "turn", "one", "other", "halls", "keys", "room"]) (qual := "_law_house") (scope := defScope (top 19)) (f := f) (cd := .ref (He.codeOf K ("_law_house", none))) (A := A) (outer := outer) (s := s) (H := H) (E := E)
  have hp := owns_cx (P := P) (w := w) (K := K) (mg := mg) (base := base) (N := ["purse", "wide", "many", "doors", "turn", "one", "other", "halls", "keys", "room"]) (qual := "_law_house") (scope := defScope (top 19)) (f := f) (cd := .ref (He.codeOf K ("_law_house", none))) (A := A) (outer := outer) (s := s) (H := H) (E := E)
  exact (q_cons (q_asg (s_bin o_add s_cint (s_call ((IH 10 "_law_one" rfl).at) hr tk rfl (sc_var rfl (vis_by rfl) rfl rfl (sc_cons rfl (s_idx hr (s_tup (so_cons s_cint (so_cons s_cint so_nil rfl) rfl)) (s_callTy c_int rfl (free "int" rfl) rfl (s_cons (s_var rfl (vis_by rfl) rfl rfl) s_nil rfl) (by decide) rfl rfl rfl) (fun _ _ => rfl)) sc_nil rfl) rfl) rfl rfl rfl)) (g_name hN rfl (loc_by rfl) (fnl_by rfl)) rfl rfl rfl) (q_cons (q_asg (s_fze (s_lst so_nil)) (g_name hN rfl (loc_by rfl) (fnl_by rfl)) rfl rfl rfl) (q_cons (q_for hp rfl (i_rng1 rfl (free "range" rfl) (s_cons (s_idx hr (s_tup (so_cons (s_call ((IH 10 "_law_one" rfl).at) hr tk rfl (sc_var rfl (vis_by rfl) rfl rfl (sc_cons rfl s_cint sc_nil rfl) rfl) rfl rfl rfl) (so_cons (s_bin o_add s_cint (s_call ((IH 10 "_law_one" rfl).at) hr tk rfl (sc_var rfl (vis_by rfl) rfl rfl (sc_cons rfl s_cint sc_nil rfl) rfl) rfl rfl rfl)) so_nil rfl) rfl)) (s_callTy c_int rfl (free "int" rfl) rfl (s_cons (s_var rfl (vis_by rfl) rfl rfl) s_nil rfl) (by decide) rfl rfl rfl) (fun _ _ => rfl)) s_nil rfl) rfl) (g_name hN rfl (loc_by rfl) (fnl_by rfl)) (q_cons (q_asg (s_call ((IH 10 "_law_one" rfl).at) hr tk rfl (sc_var rfl (vis_by rfl) rfl rfl (sc_cons rfl (s_bin o_sub (s_var rfl (vis_by rfl) rfl rfl) s_cint) sc_nil rfl) rfl) rfl rfl rfl) (g_name hN rfl (loc_by rfl) (fnl_by rfl)) rfl rfl rfl) (q_cons (q_asg (s_bin o_add (s_bin o_add (s_var rfl (vis_by rfl) rfl rfl) s_cint) (s_call ((IH 10 "_law_one" rfl).at) hr tk rfl (sc_var rfl (vis_by rfl) rfl rfl (sc_cons rfl (s_idx hr (s_tup (so_cons (s_bin o_sub (s_bin o_sub (s_var rfl (vis_by rfl) rfl rfl) (s_var rfl (vis_by rfl) rfl rfl)) s_cint) (so_cons (s_callB (c_min2 rfl) rfl (free "min" rfl) rfl (s_cons s_cint (s_cons (s_bin o_sub (s_bin o_sub (s_var rfl (vis_by rfl) rfl rfl) (s_var rfl (vis_by rfl) rfl rfl)) s_cint) s_nil rfl) rfl) (by decide) rfl rfl rfl) so_nil rfl) rfl)) (s_call ((IH 10 "_law_one" rfl).at) hr tk rfl (sc_var rfl (vis_by rfl) rfl rfl (sc_cons rfl s_cint sc_nil rfl) rfl) rfl rfl rfl) (fun _ _ => rfl)) sc_nil rfl) rfl) rfl rfl rfl)) (g_name hN rfl (loc_by rfl) (fnl_by rfl)) rfl rfl rfl) (q_cons (q_ite (t_cmp rfl (o_lt hr) (s_callB c_len rfl (free "len" rfl) rfl (s_cons (s_var rfl (vis_by rfl) rfl rfl) s_nil rfl) (by decide) rfl rfl rfl) s_cint rfl) (q_cons (q_asg (s_fze (s_bin o_add (s_var rfl (vis_by rfl) rfl rfl) (s_bin o_mul (s_lst (so_cons (s_tup (so_cons (s_var rfl (vis_by rfl) rfl rfl) (so_cons (s_var rfl (vis_by rfl) rfl rfl) so_nil rfl) rfl)) so_nil rfl)) (s_bin o_add s_cint (s_callTy c_int rfl (free "int" rfl) rfl (s_cons (s_cmp (o_eq hr) (s_call ((IH 10 "_law_one" rfl).at) hr tk rfl (sc_var rfl (vis_by rfl) rfl rfl (sc_cons rfl s_cint sc_nil rfl) rfl) rfl rfl rfl) s_cint rfl) s_nil rfl) (by decide) rfl rfl rfl))))) (g_name hN rfl (loc_by rfl) (fnl_by rfl)) rfl rfl rfl) q_nil) q_nil) q_nil))) (fun _ => rfl)) (q_cons (q_setLcF (own := [("room", 9)]) rfl hN rfl rfl rfl rfl rfl (i_rng2 rfl (free "range" rfl) (s_cons s_cint (s_cons (s_var rfl (vis_by rfl) rfl rfl) s_nil rfl) rfl) rfl rfl) rfl (by decide) rfl (fun _ _ _ _ _ => (g_name hN rfl (loc_by rfl) (fnl_by rfl))) (fun _ _ _ _ _ => (if_one (t_cmp rfl (o_eq hr) (s_call ((IH 10 "_law_one" rfl).at) hr takes_no rfl (sc_var rfl (vis_by rfl) rfl rfl (sc_cons rfl (s_idx hr (s_tup (so_cons s_cint (so_cons s_cint so_nil rfl) rfl)) (s_callTy c_int rfl (free "int" rfl) rfl (s_cons (s_var rfl (vis_by rfl) rfl rfl) s_nil rfl) (by decide) rfl rfl rfl) (fun _ _ => rfl)) sc_nil rfl) rfl) rfl rfl rfl) s_cint rfl))) (fun _ _ _ _ _ => (s_var rfl (vis_by rfl) rfl rfl)) (fun _ => rfl)) (q_cons (q_ite (t_cmp rfl (o_eq hr) (s_var rfl (vis_by rfl) rfl rfl) (s_lst so_nil) rfl) (q_cons (q_asg (s_fze (s_lst (so_cons (s_bin o_add s_cint (s_call ((IH 10 "_law_one" rfl).at) hr tk rfl (sc_var rfl (vis_by rfl) rfl rfl (sc_cons rfl (s_bin o_sub (s_var rfl (vis_by rfl) rfl rfl) s_cint) sc_nil rfl) rfl) rfl rfl rfl)) so_nil rfl))) (g_name hN rfl (loc_by rfl) (fnl_by rfl)) rfl rfl rfl) q_nil) q_nil) (q_cons (q_setLc (own := [("room", 9)]) rfl hN rfl rfl rfl rfl rfl (i_rng1 rfl (free "range" rfl) (s_cons (s_var rfl (vis_by rfl) rfl rfl) s_nil rfl) rfl) rfl (by decide) rfl (fun _ _ _ _ _ => (g_name hN rfl (loc_by rfl) (fnl_by rfl))) (fun _ _ _ _ _ => if_nil) (fun _ _ _ _ _ => (s_call ((IH 10 "_law_one" rfl).at) hr takes_no rfl (sc_var rfl (vis_by rfl) rfl rfl (sc_cons rfl (s_idx hr (s_tup (so_cons s_cint (so_cons s_cint (so_cons s_cint so_nil rfl) rfl) rfl)) (s_call ((IH 10 "_law_one" rfl).at) hr takes_no rfl (sc_var rfl (vis_by rfl) rfl rfl (sc_cons rfl s_cint sc_nil rfl) rfl) rfl rfl rfl) (fun _ _ => rfl)) sc_nil rfl) rfl) rfl rfl rfl)) (fun _ => rfl)) (q_cons (q_sto hr (s_idx hr (s_tup (so_cons (s_call ((IH 10 "_law_one" rfl).at) hr tk rfl (sc_var rfl (vis_by rfl) rfl rfl (sc_cons rfl s_cint sc_nil rfl) rfl) rfl rfl rfl) (so_cons (s_bin o_add (s_var rfl (vis_by rfl) rfl rfl) (s_call ((IH 10 "_law_one" rfl).at) hr tk rfl (sc_var rfl (vis_by rfl) rfl rfl (sc_cons rfl s_cint sc_nil rfl) rfl) rfl rfl rfl)) (so_cons s_cint so_nil rfl) rfl) rfl)) (s_callB (c_max2 rfl) rfl (free "max" rfl) rfl (s_cons (s_call ((IH 10 "_law_one" rfl).at) hr tk rfl (sc_var rfl (vis_by rfl) rfl rfl (sc_cons rfl s_cint sc_nil rfl) rfl) rfl rfl rfl) (s_cons (s_bin o_mul s_cint (s_callTy c_int rfl (free "int" rfl) rfl (s_cons (s_var rfl (vis_by rfl) rfl rfl) s_nil rfl) (by decide) rfl rfl rfl)) s_nil rfl) rfl) (by decide) rfl rfl rfl) (fun _ _ => rfl)) (p_var rfl (vis_by rfl) rfl rfl) s_cint rfl rfl rfl (fun _ => rfl)) (q_cons (q_for hp rfl (i_seq (s_var rfl (vis_by rfl) rfl rfl)) (g_name hN rfl (loc_by rfl) (fnl_by rfl)) (q_cons (q_sto hr s_cint (p_var rfl (vis_by rfl) rfl rfl) (s_var rfl (vis_by rfl) rfl rfl) rfl rfl rfl (fun _ => rfl)) q_nil) (fun _ => rfl)) (q_cons (q_ret (s_tup (so_cons (s_callTy c_tuple rfl (free "tuple" rfl) rfl (s_cons (s_var rfl (vis_by rfl) rfl rfl) s_nil rfl) (by decide) rfl rfl rfl) (so_cons (s_callTy c_tuple rfl (free "tuple" rfl) rfl (s_cons (s_callB c_sorted rfl (free "sorted" rfl) rfl (s_cons (s_var rfl (vis_by rfl) rfl rfl) s_nil rfl) (by decide) rfl rfl rfl) s_nil rfl) (by decide) rfl rfl rfl) (so_cons (s_callTy c_tuple rfl (free "tuple" rfl) rfl (s_cons (s_var rfl (vis_by rfl) rfl rfl) s_nil rfl) (by decide) rfl rfl rfl) so_nil rfl) rfl) rfl))) q_nil)))))))))
theorem g12 (IH : ∀ i x, names[i]? = some x → FnW P w K mg base (xrT K (tbK K xs)) k x (kw i) (callN fs k i)) (free : ∀ x, blts.contains x = true → mg x = none) (TT : ∀ q ∈ tf, (He.cT K q).2 ∈ TabList.tabs ∧ GxR.TabB base mg (He.cT K q).1 (He.cT K q).2) (XX : XA P w K mg file xs ems gis cgs) (IHH : ∀ i x, names[i]? = some x → hotB i = true → FnWH P w K mg base (xrT K (tbK K xs)) k x (callN fs k i)) {f : Addr} {fd : FuncData} (hf : f = He.fAd K ("_law_house", none)) (F : FunD K "_law_house" "_law_house" (defArgs (top 19)) (defBody (top 19)) (defScope (top 19)) [] [] f fd) (hm : mg "_law_house" = some (.ref f)) : FnW P w K mg base (xrT K (tbK K xs)) (k + 1) "_law_house" (kw 12) (callN fs (k + 1) 12) :=
  ⟨f, fd, ["purse", "wide"], fd_okC hf F sc12 f12 rfl rfl (fun cdv A outer s H E hc hr => t12 IH free TT XX IHH hc hr), hm, F.kp, F.bindsN (fun _ _ _ _ _ _ us hl => match us, hl with | [_, _], _ => rfl), fun j _ _ hj => by cases hj⟩
theorem sc13 : FnScope ["house", "walk", "keys", "doors", "halls", "rooms", "hand", "at", "room"] ["house", "walk"] (defScope (top 20)) := ⟨rfl, rfl, rfl, by decide +kernel, rfl, by decide +kernel, by decide +kernel⟩
theorem t13 (IH : ∀ i x, names[i]? = some x → FnW P w K mg base (xrT K (tbK K xs)) k x (kw i) (call i)) (free : ∀ x, blts.contains x = true → mg x = none) (TT : ∀ q ∈ tf, (He.cT K q).2 ∈ TabList.tabs ∧ GxR.TabB base mg (He.cT K q).1 (He.cT K q).2) (XX : XA P w K mg file xs ems gis cgs) (IHH : ∀ i x, names[i]? = some x → hotB i = true → FnWH P w K mg base (xrT K (tbK K xs)) k x (call i)) {f : Addr} {cdv : Value} {A : Around} {outer : List PySem.Env} {s : Shared} {H : Hp} {E : XK} (hcode : cdv = .ref (He.codeOf K ("_law_next", none))) (hr : Room k (A.deeper (envOfC "_law_next" (defScope (top 20)) s.heap.objs.size f cdv))) : PSs (cxOf (L2N.CX P w) P w K mg base ["house", "walk", "keys", "doors", "halls", "rooms", "hand", "at", "room"] "_law_next" (defScope (top 20)) f cdv A outer s H E) (defBody (top 20)) (tSs K (xrT K (tbK K xs)) (fun c d _ H' => E c d H') { call := call, kp := Fd.kp f13 } b13) := by
  subst hcode
  have hN := sc13.nd
  have tk := takes_cx (P := P) (w := w) (K := K) (mg := mg) (base := base) (N := ["house", "walk", "keys", "doors", "halls", "rooms", "hand", "at", "room"]) (qual := "_law_next") (scope := defScope (top 20)) (f := f) (cd := .ref (He.codeOf K ("_law_next", none))) (A := A) (outer := outer) (s := s) (H := H) (E := E)
  have hp := owns_cx (P := P) (w := w) (K := K) (mg := mg) (base := base) (N := ["house", "walk", "keys", "doors", "halls", "rooms", "hand", "at", "room"]) (qual := "_law_next") (scope := defScope (top 20)) (f := f) (cd := .ref (He.codeOf K ("_law_next", none))) (A := A) (outer := outer) (s := s) (H := H) (E := E)
  exact (q_cons (q_asg (s_var rfl (vis_by rfl) rfl rfl) (g_tup rfl (g_cons (g_name hN rfl (loc_by rfl) (fnl_by rfl)) (g_cons (g_name hN rfl (loc_by rfl) (fnl_by rfl)) (g_cons (g_name hN rfl (loc_by rfl) (fnl_by rfl)) g_nil rfl) rfl) rfl) rfl rfl) rfl rfl rfl) (q_cons (q_asg (s_lst (so_cons s_cint so_nil rfl)) (g_name hN rfl (loc_by rfl) (fnl_by rfl)) rfl rfl rfl) (q_cons (q_asg (s_pidx hr (s_var rfl (vis_by rfl) rfl rfl) s_cint (fun _ _ => rfl)) (g_name hN rfl (loc_by rfl) (fnl_by rfl)) rfl rfl rfl) (q_cons (q_forL hp rfl rfl (vis_by rfl) rfl rfl (g_name hN rfl (loc_by rfl) (fnl_by rfl)) (q_cons (q_asg (s_bin o_sub (s_var rfl (vis_by rfl) rfl rfl) s_cint) (g_name hN rfl (loc_by rfl) (fnl_by rfl)) rfl rfl rfl) (q_cons (q_for hp rfl (i_seq (s_pidx hr (s_var rfl (vis_by rfl) rfl rfl) (s_var rfl (vis_by rfl) rfl rfl) (fun _ _ => rfl))) (g_name hN rfl (loc_by rfl) (fnl_by rfl)) (q_cons (q_ite (t_cmp rfl (o_nin hr) (s_var rfl (vis_by rfl) rfl rfl) (s_var rfl (vis_by rfl) rfl rfl) rfl) (q_cons (q_exp (s_mm slot_append PySem.F.type_list_append (p_var rfl (vis_by rfl) rfl rfl) (so_cons (s_var rfl (vis_by rfl) rfl rfl) so_nil rfl) rfl rfl rfl rfl rfl) rfl) (q_cons (q_asg (s_bin o_add (s_var rfl (vis_by rfl) rfl rfl) (s_pidx hr (s_var rfl (vis_by rfl) rfl rfl) (s_var rfl (vis_by rfl) rfl rfl) (fun _ _ => rfl))) (g_name hN rfl (loc_by rfl) (fnl_by rfl)) rfl rfl rfl) q_nil)) q_nil) q_nil) (fun _ => rfl)) q_nil)) (fun _ => rfl)) (q_cons (q_ite (PW.pt (w_or (t_cmp rfl (o_lt hr) (s_var rfl (vis_by rfl) rfl rfl) s_cint rfl) (w_or1 (t_cmp rfl (o_ne hr) (s_lc (own := [("room", 8)]) rfl hN (i_seq (s_frz rfl (vis_by rfl) rfl rfl)) rfl (by decide) rfl (fun _ _ _ _ _ => (g_name hN rfl (loc_by rfl) (fnl_by rfl))) (fun _ _ _ _ _ => (if_one (t_cmp rfl (o_in hr) (s_var rfl (vis_by rfl) rfl rfl) (s_var rfl (vis_by rfl) rfl rfl) rfl))) (fun _ _ _ _ _ => (s_var rfl (vis_by rfl) rfl rfl)) (fun _ => rfl)) (s_lst so_nil) rfl)))) (q_cons (q_ret (s_fze (s_lst so_nil))) q_nil) q_nil) (q_cons (q_ret (s_fze (s_lc (own := [("at", 7)]) rfl hN (i_rng1 rfl (free "range" rfl) (s_cons (s_callB c_len rfl (free "len" rfl) rfl (s_cons (s_var rfl (vis_by rfl) rfl rfl) s_nil rfl) (by decide) rfl rfl rfl) s_nil rfl) rfl) rfl (by decide) rfl (fun _ _ _ _ _ => (g_name hN rfl (loc_by rfl) (fnl_by rfl))) (fun _ _ _ _ _ => (if_one (PW.pt (w_and (t_cmp rfl (o_nin hr) (s_var rfl (vis_by rfl) rfl rfl) (s_var rfl (vis_by rfl) rfl rfl) rfl) (w_and1 (PW.pt (w_or (t_cmp rfl (o_in hr) (s_pidx hr (s_pidx hr (s_var rfl (vis_by rfl) rfl rfl) (s_var rfl (vis_by rfl) rfl rfl) (fun _ _ => rfl)) s_cint (fun _ _ => rfl)) (s_var rfl (vis_by rfl) rfl rfl) rfl) (w_or1 (t_cmp rfl (o_in hr) (s_pidx hr (s_pidx hr (s_var rfl (vis_by rfl) rfl rfl) (s_var rfl (vis_by rfl) rfl rfl) (fun _ _ => rfl)) s_cint (fun _ _ => rfl)) (s_var rfl (vis_by rfl) rfl rfl) rfl))))))))) (fun _ _ _ _ _ => (s_var rfl (vis_by rfl) rfl rfl)) (fun _ => rfl)))) q_nil))))))
theorem g13 (IH : ∀ i x, names[i]? = some x → FnW P w K mg base (xrT K (tbK K xs)) k x (kw i) (callN fs k i)) (free : ∀ x, blts.contains x = true → mg x = none) (TT : ∀ q ∈ tf, (He.cT K q).2 ∈ TabList.tabs ∧ GxR.TabB base mg (He.cT K q).1 (He.cT K q).2) (XX : XA P w K mg file xs ems gis cgs) (IHH : ∀ i x, names[i]? = some x → hotB i = true → FnWH P w K mg base (xrT K (tbK K xs)) k x (callN fs k i)) {f : Addr} {fd : FuncData} (hf : f = He.fAd K ("_law_next", none)) (F : FunD K "_law_next" "_law_next" (defArgs (top 20)) (defBody (top 20)) (defScope (top 20)) [] [] f fd) (hm : mg "_law_next" = some (.ref f)) : FnW P w K mg base (xrT K (tbK K xs)) (k + 1) "_law_next" (kw 13) (callN fs (k + 1) 13) :=
  ⟨f, fd, ["house", "walk"], fd_okC hf F sc13 f13 rfl rfl (fun cdv A outer s H E hc hr => t13 IH free TT XX IHH hc hr), hm, F.kp, F.bindsN (fun _ _ _ _ _ _ us hl => match us, hl with | [_, _], _ => rfl), fun j _ _ hj => by cases hj⟩
theorem sc14 : FnScope ["purse", "house", "most", "shy", "walk", "turn", "ways", "ahead", "at"] ["purse", "house", "most", "shy"] (defScope (top 21)) := ⟨rfl, rfl, rfl, by decide +kernel, rfl, by decide +kernel, by decide +kernel⟩
theorem t14 (IH : ∀ i x, names[i]? = some x → FnW P w K mg base (xrT K (tbK K xs)) k x (kw i) (call i)) (free : ∀ x, blts.contains x = true → mg x = none) (TT : ∀ q ∈ tf, (He.cT K q).2 ∈ TabList.tabs ∧ GxR.TabB base mg (He.cT K q).1 (He.cT K q).2) (XX : XA P w K mg file xs ems gis cgs) (IHH : ∀ i x, names[i]? = some x → hotB i = true → FnWH P w K mg base (xrT K (tbK K xs)) k x (call i)) {f : Addr} {cdv : Value} {A : Around} {outer : List PySem.Env} {s : Shared} {H : Hp} {E : XK} (hcode : cdv = .ref (He.codeOf K ("_law_walk", none))) (hr : Room k (A.deeper (envOfC "_law_walk" (defScope (top 21)) s.heap.objs.size f cdv))) : PSs (cxOf (L2N.CX P w) P w K mg base ["purse", "house", "most", "shy", "walk", "turn", "ways", "ahead", "at"] "_law_walk" (defScope (top 21)) f cdv A outer s H E) (defBody (top 21)) (tSs K (xrT K (tbK K xs)) (fun c d _ H' => E c d H') { call := call, kp := Fd.kp f14 } b14) := by
  subst hcode
  have hN := sc14.nd
  have tk := takes_cx (P := P) (w := w) (K := K) (mg := mg) (base := base) (N := ["purse", "house", "most", "shy", "walk", "turn", "ways", "ahead", "at"]) (qual := "_law_walk") (scope := defScope (top 21)) (f := f) (cd := .ref (He.codeOf K ("_law_walk", none))) (A := A) (outer := outer) (s := s) (H := H) (E := E)
  have hp := owns_cx (P := P) (w := w) (K := K) (mg := mg) (base := base) (N := ["purse", "house", "most", "shy", "walk", "turn", "ways", "ahead", "at"]) (qual := "_law_walk") (scope := defScope (top 21)) (f := f) (cd := .ref (He.codeOf K ("_law_walk", none))) (A := A) (outer := outer) (s := s) (H := H) (E := E)
  exact (q_cons (q_asg (s_lst so_nil) (g_name hN rfl (loc_by rfl) (fnl_by rfl)) rfl rfl rfl) (q_cons (q_for hp rfl (i_rng1 rfl (free "range" rfl) (s_cons (s_var rfl (vis_by rfl) rfl rfl) s_nil rfl) rfl) (g_name hN rfl (loc_by rfl) (fnl_by rfl)) (q_cons (q_asg (s_call ((IH 13 "_law_next" rfl).at) hr tk rfl (sc_var rfl (vis_by rfl) rfl rfl (sc_var rfl (vis_by rfl) rfl rfl sc_nil rfl) rfl) rfl rfl rfl) (g_name hN rfl (loc_by rfl) (fnl_by rfl)) rfl rfl rfl) (q_cons (q_ite (t_cmp rfl (o_eq hr) (s_var rfl (vis_by rfl) rfl rfl) (s_lst so_nil) rfl) (q_cons q_brk q_nil) q_nil) (q_cons (q_setLcF (own := [("at", 8)]) rfl hN rfl rfl rfl rfl rfl (i_seq (s_var rfl (vis_by rfl) rfl rfl)) rfl (by decide) rfl (fun _ _ _ _ _ => (g_name hN rfl (loc_by rfl) (fnl_by rfl))) (fun _ _ _ _ _ => (if_one (PW.pt (w_and (t_cmp rfl (o_nin hr) (s_pidx hr (s_pidx hr (s_pidx hr (s_var rfl (vis_by rfl) rfl rfl) s_cint (fun _ _ => rfl)) (s_var rfl (vis_by rfl) rfl rfl) (fun _ _ => rfl)) s_cint (fun _ _ => rfl)) (s_pidx hr (s_var rfl (vis_by rfl) rfl rfl) s_cint (fun _ _ => rfl)) rfl) (w_and1 (t_cmp rfl (o_nin hr) (s_pidx hr (s_pidx hr (s_pidx hr (s_var rfl (vis_by rfl) rfl rfl) s_cint (fun _ _ => rfl)) (s_var rfl (vis_by rfl) rfl rfl) (fun _ _ => rfl)) s_cint (fun _ _ => rfl)) (s_pidx hr (s_var rfl (vis_by rfl) rfl rfl) s_cint (fun _ _ => rfl)) rfl)))))) (fun _ _ _ _ _ => (s_var rfl (vis_by rfl) rfl rfl)) (fun _ => rfl)) (q_cons (q_ite (PW.pt (w_and (t_plain (s_var rfl (vis_by rfl) rfl rfl) (fun _ => rfl)) (w_and1 (t_cmp rfl (o_ne hr) (s_var rfl (vis_by rfl) rfl rfl) (s_lst so_nil) rfl)))) (q_cons (q_asg (s_fze (s_mov rfl (vis_by rfl) rfl rfl)) (g_name hN rfl (loc_by rfl) (fnl_by rfl)) rfl rfl rfl) q_nil) q_nil) (q_cons (q_exp (s_mm slot_append PySem.F.type_list_append (p_var rfl (vis_by rfl) rfl rfl) (so_cons (s_pidx hr (s_var rfl (vis_by rfl) rfl rfl) (s_call ((IH 10 "_law_one" rfl).at) hr tk rfl (sc_var rfl (vis_by rfl) rfl rfl (sc_cons rfl (s_callB c_len rfl (free "len" rfl) rfl (s_cons (s_var rfl (vis_by rfl) rfl rfl) s_nil rfl) (by decide) rfl rfl rfl) sc_nil rfl) rfl) rfl rfl rfl) (fun _ _ => rfl)) so_nil rfl) rfl rfl rfl rfl rfl) rfl) q_nil))))) (fun _ => rfl)) (q_cons (q_ret (s_callTy c_tuple rfl (free "tuple" rfl) rfl (s_cons (s_var rfl (vis_by rfl) rfl rfl) s_nil rfl) (by decide) rfl rfl rfl)) q_nil)))
theorem g14 (IH : ∀ i x, names[i]? = some x → FnW P w K mg base (xrT K (tbK K xs)) k x (kw i) (callN fs k i)) (free : ∀ x, blts.contains x = true → mg x = none) (TT : ∀ q ∈ tf, (He.cT K q).2 ∈ TabList.tabs ∧ GxR.TabB base mg (He.cT K q).1 (He.cT K q).2) (XX : XA P w K mg file xs ems gis cgs) (IHH : ∀ i x, names[i]? = some x → hotB i = true → FnWH P w K mg base (xrT K (tbK K xs)) k x (callN fs k i)) {f : Addr} {fd : FuncData} (hf : f = He.fAd K ("_law_walk", none)) (F : FunD K "_law_walk" "_law_walk" (defArgs (top 21)) (defBody (top 21)) (defScope (top 21)) [] [] f fd) (hm : mg "_law_walk" = some (.ref f)) : FnW P w K mg base (xrT K (tbK K xs)) (k + 1) "_law_walk" (kw 14) (callN fs (k + 1) 14) :=
  ⟨f, fd, ["purse", "house", "most", "shy"], fd_okC hf F sc14 f14 rfl rfl (fun cdv A outer s H E hc hr => t14 IH free TT XX IHH hc hr), hm, F.kp, F.bindsN (fun _ _ _ _ _ _ us hl => match us, hl with | [_, _, _, _], _ => rfl), fun j _ _ hj => by cases hj⟩
theorem sc15 : FnScope ["house", "thing", "keys", "doors", "halls", "rooms", "hand", "ended", "at", "door", "one", "other", "room"] ["house", "thing"] (defScope (top 22)) := ⟨rfl, rfl, rfl, by decide +kernel, rfl, by decide +kernel, by decide +kernel⟩
theorem t15 (IH : ∀ i x, names[i]? = some x → FnW P w K mg base (xrT K (tbK K xs)) k x (kw i) (call i)) (free : ∀ x, blts.contains x = true → mg x = none) (TT : ∀ q ∈ tf, (He.cT K q).2 ∈ TabList.tabs ∧ GxR.TabB base mg (He.cT K q).1 (He.cT K q).2) (XX : XA P w K mg file xs ems gis cgs) (IHH : ∀ i x, names[i]? = some x → hotB i = true → FnWH P w K mg base (xrT K (tbK K xs)) k x (call i)) {f : Addr} {cdv : Value} {A : Around} {outer : List PySem.Env} {s : Shared} {H : Hp} {E : XK} (hcode : cdv = .ref (He.codeOf K ("_law_due", none))) (hr : Room k (A.deeper (envOfC "_law_due" (defScope (top 22)) s.heap.objs.size f cdv))) : PSs (cxOf (L2N.CX P w) P w K mg base ["house", "thing", "keys", "doors", "halls", "rooms", "hand", "ended", "at", "door", "one", "other", "room"] "_law_due" (defScope (top 22)) f cdv A outer s H E) (defBody (top 22)) (tSs K (xrT K (tbK K xs)) (fun c d _ H' => E c d H') { call := call, kp := Fd.kp f15 } b15) := by
  subst hcode
  have hN := sc15.nd
  have tk := takes_cx (P := P) (w := w) (K := K) (mg := mg) (base := base) (N := ["house", "thing", "keys", "doors", "halls", "rooms", "hand", "ended", "at", "door", "one", "other", "room"]) (qual := "_law_due") (scope := defScope (top 22)) (f := f) (cd := .ref (He.codeOf K ("_law_due", none))) (A := A) (outer := outer) (s := s) (H := H) (E := E)
  have hp := owns_cx (P := P) (w := w) (K := K) (mg := mg) (base := base) (N := ["house", "thing", "keys", "doors", "halls", "rooms", "hand", "ended", "at", "door", "one", "other", "room"]) (qual := "_law_due") (scope := defScope (top 22)) (f := f) (cd := .ref (He.codeOf K ("_law_due", none))) (A := A) (outer := outer) (s := s) (H := H) (E := E)
  exact (q_cons (q_asg (s_var rfl (vis_by rfl) rfl rfl) (g_tup rfl (g_cons (g_name hN rfl (loc_by rfl) (fnl_by rfl)) (g_cons (g_name hN rfl (loc_by rfl) (fnl_by rfl)) (g_cons (g_name hN rfl (loc_by rfl) (fnl_by rfl)) g_nil rfl) rfl) rfl) rfl rfl) rfl rfl rfl) (q_cons (q_ite (t_not (t_plain (s_isi .tup rfl (free "isinstance" rfl) (s_var rfl (vis_by rfl) rfl rfl) rfl (free "tuple" rfl) rfl (by decide) rfl rfl rfl rfl) (fun _ => rfl))) (q_cons (q_ret (s_tup (so_cons s_cstr (so_cons (s_un o_neg s_cint) (so_cons s_cstr so_nil rfl) rfl) rfl))) q_nil) q_nil) (q_cons (q_asg (s_lst (so_cons s_cint so_nil rfl)) (g_name hN rfl (loc_by rfl) (fnl_by rfl)) rfl rfl rfl) (q_cons (q_asg (s_pidx hr (s_var rfl (vis_by rfl) rfl rfl) s_cint (fun _ _ => rfl)) (g_name hN rfl (loc_by rfl) (fnl_by rfl)) rfl rfl rfl) (q_cons (q_asg s_cbl (g_name hN rfl (loc_by rfl) (fnl_by rfl)) rfl rfl rfl) (q_cons (q_for hp rfl (i_rng1 rfl (free "range" rfl) (s_cons (s_callB c_len rfl (free "len" rfl) rfl (s_cons (s_var rfl (vis_by rfl) rfl rfl) s_nil rfl) (by decide) rfl rfl rfl) s_nil rfl) rfl) (g_name hN rfl (loc_by rfl) (fnl_by rfl)) (q_cons (q_asg (s_pidx hr (s_var rfl (vis_by rfl) rfl rfl) (s_var rfl (vis_by rfl) rfl rfl) (fun _ _ => rfl)) (g_name hN rfl (loc_by rfl) (fnl_by rfl)) rfl rfl rfl) (q_cons (q_ite (PW.pt (w_or (t_plain (s_isi .bool rfl (free "isinstance" rfl) (s_var rfl (vis_by rfl) rfl rfl) rfl (free "bool" rfl) rfl (by decide) rfl rfl rfl rfl) (fun _ => rfl)) (w_or (t_not (t_plain (s_isi .int rfl (free "isinstance" rfl) (s_var rfl (vis_by rfl) rfl rfl) rfl (free "int" rfl) rfl (by decide) rfl rfl rfl rfl) (fun _ => rfl))) (w_or (t_cmp rfl (o_lt hr) (s_var rfl (vis_by rfl) rfl rfl) s_cint rfl) (w_or1 (t_cmp rfl (o_ge hr) (s_var rfl (vis_by rfl) rfl rfl) (s_callB c_len rfl (free "len" rfl) rfl (s_cons (s_var rfl (vis_by rfl) rfl rfl) s_nil rfl) (by decide) rfl rfl rfl) rfl)))))) (q_cons (q_ret (s_tup (so_cons s_cstr (so_cons (s_var rfl (vis_by rfl) rfl rfl) (so_cons s_cstr so_nil rfl) rfl) rfl))) q_nil) q_nil) (q_cons (q_ite (t_cmp rfl (o_in hr) (s_var rfl (vis_by rfl) rfl rfl) (s_cutH (s_var rfl (vis_by rfl) rfl rfl) (s_var rfl (vis_by rfl) rfl rfl)) rfl) (q_cons (q_ret (s_tup (so_cons s_cstr (so_cons (s_var rfl (vis_by rfl) rfl rfl) (so_cons s_cstr so_nil rfl) rfl) rfl))) q_nil) q_nil) (q_cons (q_ite (t_plain (s_var rfl (vis_by rfl) rfl rfl) (fun _ => rfl)) (q_cons (q_ret (s_tup (so_cons s_cstr (so_cons (s_var rfl (vis_by rfl) rfl rfl) (so_cons s_cstr so_nil rfl) rfl) rfl))) q_nil) q_nil) (q_cons (q_asg (s_pidx hr (s_var rfl (vis_by rfl) rfl rfl) (s_var rfl (vis_by rfl) rfl rfl) (fun _ _ => rfl)) (g_tup rfl (g_cons (g_name hN rfl (loc_by rfl) (fnl_by rfl)) (g_cons (g_name hN rfl (loc_by rfl) (fnl_by rfl)) g_nil rfl) rfl) rfl rfl) rfl rfl rfl) (q_cons (q_ite (PW.pt (w_and (t_cmp rfl (o_nin hr) (s_var rfl (vis_by rfl) rfl rfl) (s_var rfl (vis_by rfl) rfl rfl) rfl) (w_and1 (t_cmp rfl (o_nin hr) (s_var rfl (vis_by rfl) rfl rfl) (s_var rfl (vis_by rfl) rfl rfl) rfl)))) (q_cons (q_ret (s_tup (so_cons s_cstr (so_cons (s_var rfl (vis_by rfl) rfl rfl) (so_cons s_cstr so_nil rfl) rfl) rfl))) q_nil) q_nil) (q_cons (q_ite (t_cmp rfl (o_lt hr) (s_var rfl (vis_by rfl) rfl rfl) s_cint rfl) (q_cons (q_ret (s_tup (so_cons s_cstr (so_cons (s_var rfl (vis_by rfl) rfl rfl) (so_cons s_cstr so_nil rfl) rfl) rfl))) q_nil) q_nil) (q_cons (q_asg (s_bin o_sub (s_var rfl (vis_by rfl) rfl rfl) s_cint) (g_name hN rfl (loc_by rfl) (fnl_by rfl)) rfl rfl rfl) (q_cons (q_for hp rfl (i_seq (s_tup (so_cons (s_var rfl (vis_by rfl) rfl rfl) (so_cons (s_var rfl (vis_by rfl) rfl rfl) so_nil rfl) rfl))) (g_name hN rfl (loc_by rfl) (fnl_by rfl)) (q_cons (q_ite (t_cmp rfl (o_nin hr) (s_var rfl (vis_by rfl) rfl rfl) (s_var rfl (vis_by rfl) rfl rfl) rfl) (q_cons (q_exp (s_mm slot_append PySem.F.type_list_append (p_var rfl (vis_by rfl) rfl rfl) (so_cons (s_var rfl (vis_by rfl) rfl rfl) so_nil rfl) rfl rfl rfl rfl rfl) rfl) (q_cons (q_asg (s_bin o_add (s_var rfl (vis_by rfl) rfl rfl) (s_pidx hr (s_var rfl (vis_by rfl) rfl rfl) (s_var rfl (vis_by rfl) rfl rfl) (fun _ _ => rfl))) (g_name hN rfl (loc_by rfl) (fnl_by rfl)) rfl rfl rfl) (q_cons (q_asg (s_or (s_var rfl (vis_by rfl) rfl rfl) (s_or1 (s_cmp (o_in hr) (s_var rfl (vis_by rfl) rfl rfl) (s_var rfl (vis_by rfl) rfl rfl) rfl))) (g_name hN rfl (loc_by rfl) (fnl_by rfl)) rfl rfl rfl) q_nil))) q_nil) q_nil) (fun _ => rfl)) q_nil))))))))) (fun _ => rfl)) (q_cons (q_ret (s_tup (so_cons s_cstr (so_cons (s_var rfl (vis_by rfl) rfl rfl) so_nil rfl) rfl))) q_nil)))))))
theorem g15 (IH : ∀ i x, names[i]? = some x → FnW P w K mg base (xrT K (tbK K xs)) k x (kw i) (callN fs k i)) (free : ∀ x, blts.contains x = true → mg x = none) (TT : ∀ q ∈ tf, (He.cT K q).2 ∈ TabList.tabs ∧ GxR.TabB base mg (He.cT K q).1 (He.cT K q).2) (XX : XA P w K mg file xs ems gis cgs) (IHH : ∀ i x, names[i]? = some x → hotB i = true → FnWH P w K mg base (xrT K (tbK K xs)) k x (callN fs k i)) {f : Addr} {fd : FuncData} (hf : f = He.fAd K ("_law_due", none)) (F : FunD K "_law_due" "_law_due" (defArgs (top 22)) (defBody (top 22)) (defScope (top 22)) [] [] f fd) (hm : mg "_law_due" = some (.ref f)) : FnW P w K mg base (xrT K (tbK K xs)) (k + 1) "_law_due" (kw 15) (callN fs (k + 1) 15) :=
  ⟨f, fd, ["house", "thing"], fd_okC hf F sc15 f15 rfl rfl (fun cdv A outer s H E hc hr => t15 IH free TT XX IHH hc hr), hm, F.kp, F.bindsN (fun _ _ _ _ _ _ us hl => match us, hl with | [_, _], _ => rfl), fun j _ _ hj => by cases hj⟩
theorem sc16 : FnScope ["purse", "house", "walk", "many", "at", "way", "odd", "turn"] ["purse", "house", "walk"] (defScope (top 23)) := ⟨rfl, rfl, rfl, by decide +kernel, rfl, by decide +kernel, by decide +kernel⟩
theorem t16 (IH : ∀ i x, names[i]? = some x → FnW P w K mg base (xrT K (tbK K xs)) k x (kw i) (call i)) (free : ∀ x, blts.contains x = true → mg x = none) (TT : ∀ q ∈ tf, (He.cT K q).2 ∈ TabList.tabs ∧ GxR.TabB base mg (He.cT K q).1 (He.cT K q).2) (XX : XA P w K mg file xs ems gis cgs) (IHH : ∀ i x, names[i]? = some x → hotB i = true → FnWH P w K mg base (xrT K (tbK K xs)) k x (call i)) {f : Addr} {cdv : Value} {A : Around} {outer : List PySem.Env} {s : Shared} {H : Hp} {E : XK} (hcode : cdv = .ref (He.codeOf K ("_law_spoilt", none))) (hr : Room k (A.deeper (envOfC "_law_spoilt" (defScope (top 23)) s.heap.objs.size f cdv))) : PSs (cxOf (L2N.CX P w) P w K mg base ["purse", "house", "walk", "many", "at", "way", "odd", "turn"] "_law_spoilt" (defScope (top 23)) f cdv A outer s H E) (defBody (top 23)) (tSs K (xrT K (tbK K xs)) (fun c d _ H' => E c d H') { call := call, kp := Fd.kp f16 } b16) := by
  subst hcode
  have hN := sc16.nd
  have tk := takes_cx (P := P) (w := w) (K := K) (mg := mg) (base := base) (N := ["purse", "house", "walk", "many", "at", "way", "odd", "turn"]) (qual := "_law_spoilt") (scope := defScope (top 23)) (f := f) (cd := .ref (He.codeOf K ("_law_spoilt", none))) (A := A) (outer := outer) (s := s) (H := H) (E := E)
  have hp := owns_cx (P := P) (w := w) (K := K) (mg := mg) (base := base) (N := ["purse", "house", "walk", "many", "at", "way", "odd", "turn"]) (qual := "_law_spoilt") (scope := defScope (top 23)) (f := f) (cd := .ref (He.codeOf K ("_law_spoilt", none))) (A := A) (outer := outer) (s := s) (H := H) (E := E)
  exact (q_cons (q_asg (s_callB c_len rfl (free "len" rfl) rfl (s_cons (s_pidx hr (s_var rfl (vis_by rfl) rfl rfl) s_cint (fun _ _ => rfl)) s_nil rfl) (by decide) rfl rfl rfl) (g_name hN rfl (loc_by rfl) (fnl_by rfl)) rfl rfl rfl) (q_cons (q_asg (s_call ((IH 10 "_law_one" rfl).at) hr tk rfl (sc_var rfl (vis_by rfl) rfl rfl (sc_cons rfl (s_callB c_len rfl (free "len" rfl) rfl (s_cons (s_var rfl (vis_by rfl) rfl rfl) s_nil rfl) (by decide) rfl rfl rfl) sc_nil rfl) rfl) rfl rfl rfl) (g_name hN rfl (loc_by rfl) (fnl_by rfl)) rfl rfl rfl) (q_cons (q_asg (s_call ((IH 10 "_law_one" rfl).at) hr tk rfl (sc_var rfl (vis_by rfl) rfl rfl (sc_cons rfl s_cint sc_nil rfl) rfl) rfl rfl rfl) (g_name hN rfl (loc_by rfl) (fnl_by rfl)) rfl rfl rfl) (q_cons (q_ite (PW.pt (w_and (t_cmp rfl (o_lt hr) (s_var rfl (vis_by rfl) rfl rfl) s_cint rfl) (w_and1 (t_cmp rfl (o_ne hr) (s_var rfl (vis_by rfl) rfl rfl) (s_tup so_nil) rfl)))) (q_cons (q_asg (s_tup (so_cons (s_var rfl (vis_by rfl) rfl rfl) (so_cons (s_un o_neg s_cint) (so_cons (s_cmp (o_eq hr) (s_pidx hr (s_var rfl (vis_by rfl) rfl rfl) (s_var rfl (vis_by rfl) rfl rfl) (fun _ _ => rfl)) s_cint rfl) (so_cons s_cnon (so_cons (s_callTy c_str rfl (free "str" rfl) rfl (s_cons (s_pidx hr (s_var rfl (vis_by rfl) rfl rfl) (s_var rfl (vis_by rfl) rfl rfl) (fun _ _ => rfl)) s_nil rfl) (by decide) rfl rfl rfl) (so_cons (s_tup (so_cons (s_pidx hr (s_var rfl (vis_by rfl) rfl rfl) (s_var rfl (vis_by rfl) rfl rfl) (fun _ _ => rfl)) so_nil rfl)) (so_cons (s_bin o_pow s_cint s_cint) (so_cons (s_bin o_sub (s_pidx hr (s_var rfl (vis_by rfl) rfl rfl) (s_var rfl (vis_by rfl) rfl rfl) (fun _ _ => rfl)) (s_var rfl (vis_by rfl) rfl rfl)) (so_cons s_cbl so_nil rfl) rfl) rfl) rfl) rfl) rfl) rfl) rfl) rfl)) (g_name hN rfl (loc_by rfl) (fnl_by rfl)) rfl rfl rfl) (q_cons (q_ret (s_bin o_add (s_bin o_add (s_cutH (s_var rfl (vis_by rfl) rfl rfl) (s_var rfl (vis_by rfl) rfl rfl)) (s_tup (so_cons (s_pidx hr (s_var rfl (vis_by rfl) rfl rfl) (s_call ((IH 10 "_law_one" rfl).at) hr tk rfl (sc_var rfl (vis_by rfl) rfl rfl (sc_cons rfl s_cint sc_nil rfl) rfl) rfl rfl rfl) (fun _ _ => rfl)) so_nil rfl))) (s_cutL (s_var rfl (vis_by rfl) rfl rfl) (s_bin o_add (s_var rfl (vis_by rfl) rfl rfl) s_cint)))) q_nil)) q_nil) (q_cons (q_ite (t_cmp rfl (o_eq hr) (s_var rfl (vis_by rfl) rfl rfl) s_cint rfl) (q_cons (q_ret (s_bin o_add (s_bin o_add (s_cutH (s_var rfl (vis_by rfl) rfl rfl) (s_var rfl (vis_by rfl) rfl rfl)) (s_tup (so_cons (s_call ((IH 10 "_law_one" rfl).at) hr tk rfl (sc_var rfl (vis_by rfl) rfl rfl (sc_cons rfl (s_bin o_add (s_var rfl (vis_by rfl) rfl rfl) s_cint) sc_nil rfl) rfl) rfl rfl rfl) so_nil rfl))) (s_cutL (s_var rfl (vis_by rfl) rfl rfl) (s_var rfl (vis_by rfl) rfl rfl)))) q_nil) q_nil) (q_cons (q_ite (PW.pt (w_and (t_cmp rfl (o_eq hr) (s_var rfl (vis_by rfl) rfl rfl) s_cint rfl) (w_and1 (t_cmp rfl (o_ne hr) (s_var rfl (vis_by rfl) rfl rfl) (s_tup so_nil) rfl)))) (q_cons (q_ret (s_bin o_add (s_bin o_add (s_cutH (s_var rfl (vis_by rfl) rfl rfl) (s_var rfl (vis_by rfl) rfl rfl)) (s_tup (so_cons (s_call ((IH 10 "_law_one" rfl).at) hr tk rfl (sc_var rfl (vis_by rfl) rfl rfl (sc_cons rfl (s_bin o_add (s_var rfl (vis_by rfl) rfl rfl) s_cint) sc_nil rfl) rfl) rfl rfl rfl) so_nil rfl))) (s_cutL (s_var rfl (vis_by rfl) rfl rfl) (s_bin o_add (s_var rfl (vis_by rfl) rfl rfl) s_cint)))) q_nil) q_nil) (q_cons (q_ite (t_cmp rfl (o_eq hr) (s_var rfl (vis_by rfl) rfl rfl) s_cint rfl) (q_cons (q_ret (s_bin o_add (s_bin o_add (s_var rfl (vis_by rfl) rfl rfl) (s_cutLH (s_var rfl (vis_by rfl) rfl rfl) (s_var rfl (vis_by rfl) rfl rfl) (s_bin o_add (s_var rfl (vis_by rfl) rfl rfl) s_cint) rfl)) (s_tup (so_cons (s_call ((IH 10 "_law_one" rfl).at) hr tk rfl (sc_var rfl (vis_by rfl) rfl rfl (sc_cons rfl (s_bin o_add (s_var rfl (vis_by rfl) rfl rfl) s_cint) sc_nil rfl) rfl) rfl rfl rfl) so_nil rfl)))) q_nil) q_nil) (q_cons (q_ite (t_cmp rfl (o_eq hr) (s_var rfl (vis_by rfl) rfl rfl) s_cint rfl) (q_cons (q_ret (s_bin o_add (s_cutH (s_var rfl (vis_by rfl) rfl rfl) (s_var rfl (vis_by rfl) rfl rfl)) (s_cutL (s_var rfl (vis_by rfl) rfl rfl) (s_bin o_add (s_var rfl (vis_by rfl) rfl rfl) s_cint)))) q_nil) q_nil) (q_cons (q_ite (t_cmp rfl (o_eq hr) (s_var rfl (vis_by rfl) rfl rfl) s_cint rfl) (q_cons (q_ret (s_rev (s_var rfl (vis_by rfl) rfl rfl) s_m1)) q_nil) q_nil) (q_cons (q_ite (t_cmp rfl (o_eq hr) (s_var rfl (vis_by rfl) rfl rfl) s_cint rfl) (q_cons (q_ret (s_idx hr (s_fze (s_tup (so_cons (s_fze (s_callTy c_list rfl (free "list" rfl) rfl (s_cons (s_var rfl (vis_by rfl) rfl rfl) s_nil rfl) (by decide) rfl rfl rfl)) (so_cons s_cnon (so_cons s_cint (so_cons s_cstr (so_cons (s_fze (s_lst so_nil)) (so_cons (s_tup so_nil) (so_cons (s_tup (so_cons (s_var rfl (vis_by rfl) rfl rfl) so_nil rfl)) (so_cons s_cstr (so_cons s_cbl so_nil rfl) rfl) rfl) rfl) rfl) rfl) rfl) rfl) rfl))) (s_call ((IH 10 "_law_one" rfl).at) hr tk rfl (sc_var rfl (vis_by rfl) rfl rfl (sc_cons rfl s_cint sc_nil rfl) rfl) rfl rfl rfl) (fun _ _ => rfl))) q_nil) q_nil) (q_cons (q_ret (s_bin o_add (s_var rfl (vis_by rfl) rfl rfl) (s_callTy c_tuple rfl (free "tuple" rfl) rfl (s_cons (s_lc (own := [("turn", 7)]) rfl hN (i_rng1 rfl (free "range" rfl) (s_cons s_cint s_nil rfl) rfl) rfl (by decide) rfl (fun _ _ _ _ _ => (g_name hN rfl (loc_by rfl) (fnl_by rfl))) (fun _ _ _ _ _ => if_nil) (fun _ _ _ _ _ => (s_call ((IH 10 "_law_one" rfl).at) hr takes_no rfl (sc_var rfl (vis_by rfl) rfl rfl (sc_cons rfl (s_bin o_add (s_var rfl (vis_by rfl) rfl rfl) s_cint) sc_nil rfl) rfl) rfl rfl rfl)) (fun _ => rfl)) s_nil rfl) (by decide) rfl rfl rfl))) q_nil)))))))))))
theorem g16 (IH : ∀ i x, names[i]? = some x → FnW P w K mg base (xrT K (tbK K xs)) k x (kw i) (callN fs k i)) (free : ∀ x, blts.contains x = true → mg x = none) (TT : ∀ q ∈ tf, (He.cT K q).2 ∈ TabList.tabs ∧ GxR.TabB base mg (He.cT K q).1 (He.cT K q).2) (XX : XA P w K mg file xs ems gis cgs) (IHH : ∀ i x, names[i]? = some x → hotB i = true → FnWH P w K mg base (xrT K (tbK K xs)) k x (callN fs k i)) {f : Addr} {fd : FuncData} (hf : f = He.fAd K ("_law_spoilt", none)) (F : FunD K "_law_spoilt" "_law_spoilt" (defArgs (top 23)) (defBody (top 23)) (defScope (top 23)) [] [] f fd) (hm : mg "_law_spoilt" = some (.ref f)) : FnW P w K mg base (xrT K (tbK K xs)) (k + 1) "_law_spoilt" (kw 16) (callN fs (k + 1) 16) :=
  ⟨f, fd, ["purse", "house", "walk"], fd_okC hf F sc16 f16 rfl rfl (fun cdv A outer s H E hc hr => t16 IH free TT XX IHH hc hr), hm, F.kp, F.bindsN (fun _ _ _ _ _ _ us hl => match us, hl with | [_, _, _], _ => rfl), fun j _ _ hj => by cases hj⟩
theorem sc17 : FnScope ["house", "thing", "due", "e"] ["house", "thing"] (defScope (top 24)) := ⟨rfl, rfl, rfl, by decide +kernel, rfl, by decide +kernel, by decide +kernel⟩
theorem t17 (IH : ∀ i x, names[i]? = some x → FnW P w K mg base (xrT K (tbK K xs)) k x (kw i) (call i)) (free : ∀ x, blts.contains x = true → mg x = none) (TT : ∀ q ∈ tf, (He.cT K q).2 ∈ TabList.tabs ∧ GxR.TabB base mg (He.cT K q).1 (He.cT K q).2) (XX : XA P w K mg file xs ems gis cgs) (IHH : ∀ i x, names[i]? = some x → hotB i = true → FnWH P w K mg base (xrT K (tbK K xs)) k x (call i)) {f : Addr} {cdv : Value} {A : Around} {outer : List PySem.Env} {s : Shared} {H : Hp} {E : XK} (hcode : cdv = .ref (He.codeOf K ("_law_asked", none))) (hr : Room k (A.deeper (envOfC "_law_asked" (defScope (top 24)) s.heap.objs.size f cdv))) : PSs (cxOf (L2N.CX P w) P w K mg base ["house", "thing", "due", "e"] "_law_asked" (defScope (top 24)) f cdv A outer s H E) (defBody (top 24)) (tSs K (xrT K (tbK K xs)) (fun c d _ H' => E c d H') { call := call, kp := Fd.kp f17 } b17) := by
  subst hcode
  have hN := sc17.nd
  have tk := takes_cx (P := P) (w := w) (K := K) (mg := mg) (base := base) (N := ["house", "thing", "due", "e"]) (qual := "_law_asked") (scope := defScope (top 24)) (f := f) (cd := .ref (He.codeOf K ("_law_asked", none))) (A := A) (outer := outer) (s := s) (H := H) (E := E)
  have hp := owns_cx (P := P) (w := w) (K := K) (mg := mg) (base := base) (N := ["house", "thing", "due", "e"]) (qual := "_law_asked") (scope := defScope (top 24)) (f := f) (cd := .ref (He.codeOf K ("_law_asked", none))) (A := A) (outer := outer) (s := s) (H := H) (E := E)
  exact (q_cons (q_asg (s_call ((IH 15 "_law_due" rfl).at) hr tk rfl (sc_var rfl (vis_by rfl) rfl rfl (sc_var rfl (vis_by rfl) rfl rfl sc_nil rfl) rfl) rfl rfl rfl) (g_name hN rfl (loc_by rfl) (fnl_by rfl)) rfl rfl rfl) (q_cons (q_ite (t_not (t_plain (s_call ((IH 11 "_law_like" rfl).at) hr tk rfl (sc_cons rfl (s_call ((IH 8 "is_walk" rfl).at) hr tk rfl (sc_var rfl (vis_by rfl) rfl rfl (sc_var rfl (vis_by rfl) rfl rfl sc_nil rfl) rfl) rfl rfl rfl) (sc_cons rfl (s_cmp (o_eq hr) (s_pidx hr (s_var rfl (vis_by rfl) rfl rfl) s_cint (fun _ _ => rfl)) s_cstr rfl) sc_nil rfl) rfl) rfl rfl rfl) (fun _ => rfl))) (q_cons (q_ret s_cbl) q_nil) q_nil) (q_cons (q_try_mix rfl rfl hN tk (fun W pn xe tk hp => (q_cons (q_ret (s_call ((IH 11 "_law_like" rfl).at) hr tk rfl (sc_cons rfl (s_tup (so_cons s_cstr (so_cons (s_call ((IH 7 "check_walk" rfl).at) hr tk rfl (sc_var rfl (vis_by rfl) rfl rfl (sc_var rfl (vis_by rfl) rfl rfl sc_nil rfl) rfl) rfl rfl rfl) so_nil rfl) rfl)) (sc_var rfl (vis_by rfl) rfl rfl sc_nil rfl) rfl) rfl rfl rfl)) q_nil)) (.as rfl rfl rfl (XX.cg 0 _ rfl) rfl rfl (fun j Cj flj hh => match j, hh with | 0, hh => by cases hh; exact XX.em 0 _ rfl | j + 1, hh => by cases hh) rfl (fun a oe pn dd vs hz hf hl => (h_call ((IHH 11 "_law_like" rfl rfl).at) hr hz hf rfl (hps_cons hp_str (hps_cons (hp_fld (XX.xo 0 _ rfl).xf ((XX.xo 0 _ rfl).no "at" (by decide)) hz hf rfl (vis_by rfl) rfl rfl rfl (fx2 (f := "at") (g := "word") (by decide) hl).1.1 (fx2 (f := "at") (g := "word") (by decide) hl).1.2) (hps_cons (hp_fld (XX.xo 0 _ rfl).xf ((XX.xo 0 _ rfl).no "word" (by decide)) hz hf rfl (vis_by rfl) rfl rfl rfl (fx2 (f := "at") (g := "word") (by decide) hl).2.1 (fx2 (f := "at") (g := "word") (by decide) hl).2.2) hps_nil rfl) rfl) rfl) (hv_cons rfl (vis_by rfl) rfl rfl hv_nil rfl) rfl rfl rfl)) (.un rfl (XX.cg 1 _ rfl) rfl (fun j Cj flj hh => match j, hh with | 0, hh => by cases hh; exact XX.em 1 _ rfl | j + 1, hh => by cases hh) rfl (fun a oe pn => (nr_one n_bl)) .nil))) q_nil)))
theorem g17 (IH : ∀ i x, names[i]? = some x → FnW P w K mg base (xrT K (tbK K xs)) k x (kw i) (callN fs k i)) (free : ∀ x, blts.contains x = true → mg x = none) (TT : ∀ q ∈ tf, (He.cT K q).2 ∈ TabList.tabs ∧ GxR.TabB base mg (He.cT K q).1 (He.cT K q).2) (XX : XA P w K mg file xs ems gis cgs) (IHH : ∀ i x, names[i]? = some x → hotB i = true → FnWH P w K mg base (xrT K (tbK K xs)) k x (callN fs k i)) {f : Addr} {fd : FuncData} (hf : f = He.fAd K ("_law_asked", none)) (F : FunD K "_law_asked" "_law_asked" (defArgs (top 24)) (defBody (top 24)) (defScope (top 24)) [] [] f fd) (hm : mg "_law_asked" = some (.ref f)) : FnW P w K mg base (xrT K (tbK K xs)) (k + 1) "_law_asked" (kw 17) (callN fs (k + 1) 17) :=
  ⟨f, fd, ["house", "thing"], fd_okC hf F sc17 f17 rfl rfl (fun cdv A outer s H E hc hr => t17 IH free TT XX IHH hc hr), hm, F.kp, F.bindsN (fun _ _ _ _ _ _ us hl => match us, hl with | [_, _], _ => rfl), fun j _ _ hj => by cases hj⟩
theorem sc18 : FnScope ["purse", "more", "rich", "poor", "rows", "house", "walk", "due"] ["purse"] (defScope (top 25)) := ⟨rfl, rfl, rfl, by decide +kernel, rfl, by decide +kernel, by decide +kernel⟩
theorem t18 (IH : ∀ i x, names[i]? = some x → FnW P w K mg base (xrT K (tbK K xs)) k x (kw i) (call i)) (free : ∀ x, blts.contains x = true → mg x = none) (TT : ∀ q ∈ tf, (He.cT K q).2 ∈ TabList.tabs ∧ GxR.TabB base mg (He.cT K q).1 (He.cT K q).2) (XX : XA P w K mg file xs ems gis cgs) (IHH : ∀ i x, names[i]? = some x → hotB i = true → FnWH P w K mg base (xrT K (tbK K xs)) k x (call i)) {f : Addr} {cdv : Value} {A : Around} {outer : List PySem.Env} {s : Shared} {H : Hp} {E : XK} (hcode : cdv = .ref (He.codeOf K ("_law_hand", none))) (hr : Room k (A.deeper (envOfC "_law_hand" (defScope (top 25)) s.heap.objs.size f cdv))) : PSs (cxOf (L2N.CX P w) P w K mg base ["purse", "more", "rich", "poor", "rows", "house", "walk", "due"] "_law_hand" (defScope (top 25)) f cdv A outer s H E) (defBody (top 25)) (tSs K (xrT K (tbK K xs)) (fun c d _ H' => E c d H') { call := call, kp := Fd.kp f18 } b18) := by
  subst hcode
  have hN := sc18.nd
  have tk := takes_cx (P := P) (w := w) (K := K) (mg := mg) (base := base) (N := ["purse", "more", "rich", "poor", "rows", "house", "walk", "due"]) (qual := "_law_hand") (scope := defScope (top 25)) (f := f) (cd := .ref (He.codeOf K ("_law_hand", none))) (A := A) (outer := outer) (s := s) (H := H) (E := E)
  have hp := owns_cx (P := P) (w := w) (K := K) (mg := mg) (base := base) (N := ["purse", "more", "rich", "poor", "rows", "house", "walk", "due"]) (qual := "_law_hand") (scope := defScope (top 25)) (f := f) (cd := .ref (He.codeOf K ("_law_hand", none))) (A := A) (outer := outer) (s := s) (H := H) (E := E)
  exact (q_cons (q_asg (s_call ((IH 10 "_law_one" rfl).at) hr tk rfl (sc_var rfl (vis_by rfl) rfl rfl (sc_cons rfl s_cint sc_nil rfl) rfl) rfl rfl rfl) (g_name hN rfl (loc_by rfl) (fnl_by rfl)) rfl rfl rfl) (q_cons (q_asg (s_tup (so_cons (s_tup (so_cons (s_bin o_add s_cint (s_var rfl (vis_by rfl) rfl rfl)) (so_cons s_cint (so_cons s_cint (so_cons s_cint (so_cons s_cint (so_cons s_cint so_nil rfl) rfl) rfl) rfl) rfl) rfl)) (so_cons (s_tup (so_cons (s_tup (so_cons s_cint (so_cons s_cint so_nil rfl) rfl)) (so_cons (s_tup (so_cons s_cint (so_cons s_cint so_nil rfl) rfl)) (so_cons (s_tup (so_cons s_cint (so_cons s_cint so_nil rfl) rfl)) (so_cons (s_tup (so_cons s_cint (so_cons s_cint so_nil rfl) rfl)) (so_cons (s_tup (so_cons s_cint (so_cons s_cint so_nil rfl) rfl)) (so_cons (s_tup (so_cons s_cint (so_cons s_cint so_nil rfl) rfl)) so_nil rfl) rfl) rfl) rfl) rfl) rfl)) (so_cons (s_tup (so_cons s_cint so_nil rfl)) so_nil rfl) rfl) rfl)) (g_name hN rfl (loc_by rfl) (fnl_by rfl)) rfl rfl rfl) (q_cons (q_asg (s_tup (so_cons (s_tup (so_cons s_cint (so_cons s_cint (so_cons s_cint (so_cons s_cint so_nil rfl) rfl) rfl) rfl)) (so_cons (s_tup (so_cons (s_tup (so_cons s_cint (so_cons s_cint so_nil rfl) rfl)) (so_cons (s_tup (so_cons s_cint (so_cons s_cint so_nil rfl) rfl)) (so_cons (s_tup (so_cons s_cint (so_cons s_cint so_nil rfl) rfl)) (so_cons (s_tup (so_cons s_cint (so_cons s_cint so_nil rfl) rfl)) so_nil rfl) rfl) rfl) rfl)) (so_cons (s_tup (so_cons s_cint so_nil rfl)) so_nil rfl) rfl) rfl)) (g_name hN rfl (loc_by rfl) (fnl_by rfl)) rfl rfl rfl) (q_cons (q_asg (s_fze (s_lst (so_cons (s_tup (so_cons (s_var rfl (vis_by rfl) rfl rfl) (so_cons (s_tup (so_cons s_cint (so_cons s_cint (so_cons s_cint so_nil rfl) rfl) rfl)) (so_cons (s_var rfl (vis_by rfl) rfl rfl) so_nil rfl) rfl) rfl)) (so_cons (s_tup (so_cons (s_var rfl (vis_by rfl) rfl rfl) (so_cons (s_tup (so_cons s_cint (so_cons s_cint so_nil rfl) rfl)) (so_cons (s_bin o_add s_cint (s_var rfl (vis_by rfl) rfl rfl)) so_nil rfl) rfl) rfl)) (so_cons (s_tup (so_cons (s_var rfl (vis_by rfl) rfl rfl) (so_cons (s_tup (so_cons s_cint (so_cons s_cint (so_cons s_cint so_nil rfl) rfl) rfl)) (so_cons (s_tup (so_cons s_cstr (so_cons s_cint so_nil rfl) rfl)) so_nil rfl) rfl) rfl)) (so_cons (s_tup (so_cons (s_var rfl (vis_by rfl) rfl rfl) (so_cons (s_tup (so_cons s_cint (so_cons s_cint (so_cons s_cint so_nil rfl) rfl) rfl)) (so_cons (s_tup (so_cons s_cstr (so_cons s_cint so_nil rfl) rfl)) so_nil rfl) rfl) rfl)) (so_cons (s_tup (so_cons (s_var rfl (vis_by rfl) rfl rfl) (so_cons (s_tup (so_cons s_cint (so_cons s_cint (so_cons s_cint so_nil rfl) rfl) rfl)) (so_cons (s_tup (so_cons s_cstr (so_cons s_cint so_nil rfl) rfl)) so_nil rfl) rfl) rfl)) so_nil rfl) rfl) rfl) rfl) rfl))) (g_name hN rfl (loc_by rfl) (fnl_by rfl)) rfl rfl rfl) (q_cons (q_asg (s_fze (s_bin o_add (s_var rfl (vis_by rfl) rfl rfl) (s_lst (so_cons (s_tup (so_cons (s_var rfl (vis_by rfl) rfl rfl) (so_cons (s_tup (so_cons s_cint so_nil rfl)) (so_cons (s_tup (so_cons s_cstr (so_cons s_cint so_nil rfl) rfl)) so_nil rfl) rfl) rfl)) (so_cons (s_tup (so_cons (s_var rfl (vis_by rfl) rfl rfl) (so_cons (s_tup (so_cons s_cint (so_cons s_cint (so_cons s_cint (so_cons s_cint so_nil rfl) rfl) rfl) rfl)) (so_cons (s_tup (so_cons s_cstr (so_cons s_cint so_nil rfl) rfl)) so_nil rfl) rfl) rfl)) (so_cons (s_tup (so_cons (s_var rfl (vis_by rfl) rfl rfl) (so_cons (s_tup (so_cons s_cint (so_cons s_cint so_nil rfl) rfl)) (so_cons (s_tup (so_cons s_cstr (so_cons s_cint so_nil rfl) rfl)) so_nil rfl) rfl) rfl)) (so_cons (s_tup (so_cons (s_var rfl (vis_by rfl) rfl rfl) (so_cons (s_tup (so_cons s_cint (so_cons s_cint (so_cons s_cint so_nil rfl) rfl) rfl)) (so_cons (s_tup (so_cons s_cstr (so_cons s_cint so_nil rfl) rfl)) so_nil rfl) rfl) rfl)) (so_cons (s_tup (so_cons (s_var rfl (vis_by rfl) rfl rfl) (so_cons (s_tup (so_cons s_cint (so_cons s_cint (so_cons s_cbl so_nil rfl) rfl) rfl)) (so_cons (s_tup (so_cons s_cstr (so_cons s_cint so_nil rfl) rfl)) so_nil rfl) rfl) rfl)) so_nil rfl) rfl) rfl) rfl) rfl)))) (g_name hN rfl (loc_by rfl) (fnl_by rfl)) rfl rfl rfl) (q_cons (q_asg (s_fze (s_bin o_add (s_var rfl (vis_by rfl) rfl rfl) (s_lst (so_cons (s_tup (so_cons (s_var rfl (vis_by rfl) rfl rfl) (so_cons (s_tup (so_cons s_cint (so_cons s_cbl so_nil rfl) rfl)) (so_cons (s_tup (so_cons s_cstr (so_cons s_cint so_nil rfl) rfl)) so_nil rfl) rfl) rfl)) (so_cons (s_tup (so_cons (s_var rfl (vis_by rfl) rfl rfl) (so_cons (s_tup (so_cons s_cbl so_nil rfl)) (so_cons (s_tup (so_cons s_cstr (so_cons s_cint so_nil rfl) rfl)) so_nil rfl) rfl) rfl)) (so_cons (s_tup (so_cons (s_var rfl (vis_by rfl) rfl rfl) (so_cons (s_tup (so_cons s_cint (so_cons s_cint so_nil rfl) rfl)) (so_cons (s_tup (so_cons s_cstr (so_cons s_cint so_nil rfl) rfl)) so_nil rfl) rfl) rfl)) (so_cons (s_tup (so_cons (s_var rfl (vis_by rfl) rfl rfl) (so_cons (s_tup (so_cons s_cint (so_cons s_cint so_nil rfl) rfl)) (so_cons (s_tup (so_cons s_cstr (so_cons s_cint so_nil rfl) rfl)) so_nil rfl) rfl) rfl)) (so_cons (s_tup (so_cons (s_var rfl (vis_by rfl) rfl rfl) (so_cons (s_tup (so_cons s_cint (so_cons s_cint so_nil rfl) rfl)) (so_cons (s_tup (so_cons s_cstr (so_cons s_cint so_nil rfl) rfl)) so_nil rfl) rfl) rfl)) so_nil rfl) rfl) rfl) rfl) rfl)))) (g_name hN rfl (loc_by rfl) (fnl_by rfl)) rfl rfl rfl) (q_cons (q_asg (s_fze (s_bin o_add (s_var rfl (vis_by rfl) rfl rfl) (s_fze (s_lst (so_cons (s_tup (so_cons (s_var rfl (vis_by rfl) rfl rfl) (so_cons (s_tup (so_cons s_cint so_nil rfl)) (so_cons s_cint so_nil rfl) rfl) rfl)) (so_cons (s_tup (so_cons (s_var rfl (vis_by rfl) rfl rfl) (so_cons (s_tup so_nil) (so_cons s_cint so_nil rfl) rfl) rfl)) (so_cons (s_tup (so_cons (s_var rfl (vis_by rfl) rfl rfl) (so_cons (s_tup (so_cons s_cint (so_cons s_cint so_nil rfl) rfl)) (so_cons (s_tup (so_cons s_cstr (so_cons s_cint so_nil rfl) rfl)) so_nil rfl) rfl) rfl)) (so_cons (s_tup (so_cons (s_var rfl (vis_by rfl) rfl rfl) (so_cons (s_tup (so_cons s_cint so_nil rfl)) (so_cons (s_tup (so_cons s_cstr (so_cons s_cint so_nil rfl) rfl)) so_nil rfl) rfl) rfl)) (so_cons (s_tup (so_cons (s_var rfl (vis_by rfl) rfl rfl) (so_cons (s_lst (so_cons s_cint so_nil rfl)) (so_cons (s_tup (so_cons s_cstr (so_cons (s_un o_neg s_cint) so_nil rfl) rfl)) so_nil rfl) rfl) rfl)) (so_cons (s_tup (so_cons (s_var rfl (vis_by rfl) rfl rfl) (so_cons (s_tup (so_cons s_cint (so_cons (s_un o_neg s_cint) so_nil rfl) rfl)) (so_cons (s_tup (so_cons s_cstr (so_cons s_cint so_nil rfl) rfl)) so_nil rfl) rfl) rfl)) so_nil rfl) rfl) rfl) rfl) rfl) rfl))))) (g_name hN rfl (loc_by rfl) (fnl_by rfl)) rfl rfl rfl) (q_cons (q_for hp rfl (i_seq (s_var rfl (vis_by rfl) rfl rfl)) (g_tup rfl (g_cons (g_name hN rfl (loc_by rfl) (fnl_by rfl)) (g_cons (g_name hN rfl (loc_by rfl) (fnl_by rfl)) (g_cons (g_name hN rfl (loc_by rfl) (fnl_by rfl)) g_nil rfl) rfl) rfl) rfl rfl) (q_cons (q_ite (t_plain (s_isi .tup rfl (free "isinstance" rfl) (s_var rfl (vis_by rfl) rfl rfl) rfl (free "tuple" rfl) rfl (by decide) rfl rfl rfl rfl) (fun _ => rfl)) (q_cons (q_asg (s_tup (so_cons s_cstr (so_cons (s_pidx hr (s_var rfl (vis_by rfl) rfl rfl) s_cint (fun _ _ => rfl)) (so_cons (s_pidx hr (s_var rfl (vis_by rfl) rfl rfl) s_cint (fun _ _ => rfl)) so_nil rfl) rfl) rfl)) (g_name hN rfl (loc_by rfl) (fnl_by rfl)) rfl rfl rfl) q_nil) (q_cons (q_asg (s_tup (so_cons s_cstr (so_cons (s_var rfl (vis_by rfl) rfl rfl) so_nil rfl) rfl)) (g_name hN rfl (loc_by rfl) (fnl_by rfl)) rfl rfl rfl) q_nil)) (q_cons (q_ite (PW.pt (w_or (t_not (t_plain (s_call ((IH 11 "_law_like" rfl).at) hr tk rfl (sc_cons rfl (s_call ((IH 15 "_law_due" rfl).at) hr tk rfl (sc_var rfl (vis_by rfl) rfl rfl (sc_var rfl (vis_by rfl) rfl rfl sc_nil rfl) rfl) rfl rfl rfl) (sc_var rfl (vis_by rfl) rfl rfl sc_nil rfl) rfl) rfl rfl rfl) (fun _ => rfl))) (w_or1 (t_not (t_plain (s_call ((IH 17 "_law_asked" rfl).at) hr tk rfl (sc_var rfl (vis_by rfl) rfl rfl (sc_var rfl (vis_by rfl) rfl rfl sc_nil rfl) rfl) rfl rfl rfl) (fun _ => rfl)))))) (q_cons (q_ret s_cbl) q_nil) q_nil) q_nil)) (fun _ => rfl)) (q_cons (q_ret s_cbl) q_nil)))))))))
theorem g18 (IH : ∀ i x, names[i]? = some x → FnW P w K mg base (xrT K (tbK K xs)) k x (kw i) (callN fs k i)) (free : ∀ x, blts.contains x = true → mg x = none) (TT : ∀ q ∈ tf, (He.cT K q).2 ∈ TabList.tabs ∧ GxR.TabB base mg (He.cT K q).1 (He.cT K q).2) (XX : XA P w K mg file xs ems gis cgs) (IHH : ∀ i x, names[i]? = some x → hotB i = true → FnWH P w K mg base (xrT K (tbK K xs)) k x (callN fs k i)) {f : Addr} {fd : FuncData} (hf : f = He.fAd K ("_law_hand", none)) (F : FunD K "_law_hand" "_law_hand" (defArgs (top 25)) (defBody (top 25)) (defScope (top 25)) [] [] f fd) (hm : mg "_law_hand" = some (.ref f)) : FnW P w K mg base (xrT K (tbK K xs)) (k + 1) "_law_hand" (kw 18) (callN fs (k + 1) 18) :=
  ⟨f, fd, ["purse"], fd_okC hf F sc18 f18 rfl rfl (fun cdv A outer s H E hc hr => t18 IH free TT XX IHH hc hr), hm, F.kp, F.bindsN (fun _ _ _ _ _ _ us hl => match us, hl with | [_], _ => rfl), fun j _ _ hj => by cases hj⟩
theorem sc19 : FnScope ["script", "purse", "turn", "wide", "house", "walk", "at", "over", "step", "door"] ["script"] (defScope (top 26)) := ⟨rfl, rfl, rfl, by decide +kernel, rfl, by decide +kernel, by decide +kernel⟩
theorem t19 (IH : ∀ i x, names[i]? = some x → FnW P w K mg base (xrT K (tbK K xs)) k x (kw i) (call i)) (free : ∀ x, blts.contains x = true → mg x = none) (TT : ∀ q ∈ tf, (He.cT K q).2 ∈ TabList.tabs ∧ GxR.TabB base mg (He.cT K q).1 (He.cT K q).2) (XX : XA P w K mg file xs ems gis cgs) (IHH : ∀ i x, names[i]? = some x → hotB i = true → FnWH P w K mg base (xrT K (tbK K xs)) k x (call i)) {f : Addr} {cdv : Value} {A : Around} {outer : List PySem.Env} {s : Shared} {H : Hp} {E : XK} (hcode : cdv = .ref (He.codeOf K ("law", none))) (hr : Room k (A.deeper (envOfC "law" (defScope (top 26)) s.heap.objs.size f cdv))) : PSs (cxOf (L2N.CX P w) P w K mg base ["script", "purse", "turn", "wide", "house", "walk", "at", "over", "step", "door"] "law" (defScope (top 26)) f cdv A outer s H E) (defBody (top 26)) (tSs K (xrT K (tbK K xs)) (fun c d _ H' => E c d H') { call := call, kp := Fd.kp f19 } b19) := by
  subst hcode
  have hN := sc19.nd
  have tk := takes_cx (P := P) (w := w) (K := K) (mg := mg) (base := base) (N := ["script", "purse", "turn", "wide", "house", "walk", "at", "over", "step", "door"]) (qual := "law") (scope := defScope (top 26)) (f := f) (cd := .ref (He.codeOf K ("law", none))) (A := A) (outer := outer) (s := s) (H := H) (E := E)
  have hp := owns_cx (P := P) (w := w) (K := K) (mg := mg) (base := base) (N := ["script", "purse", "turn", "wide", "house", "walk", "at", "over", "step", "door"]) (qual := "law") (scope := defScope (top 26)) (f := f) (cd := .ref (He.codeOf K ("law", none))) (A := A) (outer := outer) (s := s) (H := H) (E := E)
  exact (q_cons (q_asg (s_call ((IH 9 "_law_purse" rfl).at) hr tk rfl (sc_var rfl (vis_by rfl) rfl rfl sc_nil rfl) rfl rfl rfl) (g_name hN rfl (loc_by rfl) (fnl_by rfl)) rfl rfl rfl) (q_cons (q_ite (t_not (t_plain (s_call ((IH 18 "_law_hand" rfl).at) hr tk rfl (sc_var rfl (vis_by rfl) rfl rfl sc_nil rfl) rfl rfl rfl) (fun _ => rfl))) (q_cons (q_ret s_cbl) q_nil) q_nil) (q_cons (q_for hp rfl (i_rng1 rfl (free "range" rfl) (s_cons s_cint s_nil rfl) rfl) (g_name hN rfl (loc_by rfl) (fnl_by rfl)) (q_cons (q_asg (s_and (s_cmp (o_eq hr) (s_var rfl (vis_by rfl) rfl rfl) s_cint rfl) (s_and1 (s_cmp (o_eq hr) (s_call ((IH 10 "_law_one" rfl).at) hr tk rfl (sc_var rfl (vis_by rfl) rfl rfl (sc_cons rfl s_cint sc_nil rfl) rfl) rfl rfl rfl) s_cint rfl))) (g_name hN rfl (loc_by rfl) (fnl_by rfl)) rfl rfl rfl) (q_cons (q_asg (s_call ((IH 12 "_law_house" rfl).at) hr tk rfl (sc_var rfl (vis_by rfl) rfl rfl (sc_var rfl (vis_by rfl) rfl rfl sc_nil rfl) rfl) rfl rfl rfl) (g_name hN rfl (loc_by rfl) (fnl_by rfl)) rfl rfl rfl) (q_cons (q_asg (s_call ((IH 14 "_law_walk" rfl).at) hr tk rfl (sc_var rfl (vis_by rfl) rfl rfl (sc_var rfl (vis_by rfl) rfl rfl (sc_cons rfl (s_idx hr (s_tup (so_cons s_cint (so_cons s_cint so_nil rfl) rfl)) (s_callB (c_max2 rfl) rfl (free "max" rfl) rfl (s_cons (s_call ((IH 10 "_law_one" rfl).at) hr tk rfl (sc_var rfl (vis_by rfl) rfl rfl (sc_cons rfl s_cint sc_nil rfl) rfl) rfl rfl rfl) (s_cons (s_callTy c_int rfl (free "int" rfl) rfl (s_cons (s_var rfl (vis_by rfl) rfl rfl) s_nil rfl) (by decide) rfl rfl rfl) s_nil rfl) rfl) (by decide) rfl rfl rfl) (fun _ _ => rfl)) (sc_var rfl (vis_by rfl) rfl rfl sc_nil rfl) rfl) rfl) rfl) rfl rfl rfl) (g_name hN rfl (loc_by rfl) (fnl_by rfl)) rfl rfl rfl) (q_cons (q_ite (PW.pt (w_or (t_not (t_plain (s_call ((IH 17 "_law_asked" rfl).at) hr tk rfl (sc_var rfl (vis_by rfl) rfl rfl (sc_var rfl (vis_by rfl) rfl rfl sc_nil rfl) rfl) rfl rfl rfl) (fun _ => rfl))) (w_or (t_not (t_plain (s_call ((IH 17 "_law_asked" rfl).at) hr tk rfl (sc_var rfl (vis_by rfl) rfl rfl (sc_cons rfl (s_callTy c_list rfl (free "list" rfl) rfl (s_cons (s_var rfl (vis_by rfl) rfl rfl) s_nil rfl) (by decide) rfl rfl rfl) sc_nil rfl) rfl) rfl rfl rfl) (fun _ => rfl))) (w_or1 (t_not (t_plain (s_call ((IH 17 "_law_asked" rfl).at) hr tk rfl (sc_var rfl (vis_by rfl) rfl rfl (sc_cons rfl (s_bin o_add (s_var rfl (vis_by rfl) rfl rfl) (s_tup (so_cons (s_callB c_len rfl (free "len" rfl) rfl (s_cons (s_pidx hr (s_var rfl (vis_by rfl) rfl rfl) s_cint (fun _ _ => rfl)) s_nil rfl) (by decide) rfl rfl rfl) so_nil rfl))) sc_nil rfl) rfl) rfl rfl rfl) (fun _ => rfl))))))) (q_cons (q_ret s_cbl) q_nil) q_nil) (q_cons (q_for hp rfl (i_seq (s_tup (so_cons (s_bin o_fdiv (s_callB c_len rfl (free "len" rfl) rfl (s_cons (s_var rfl (vis_by rfl) rfl rfl) s_nil rfl) (by decide) rfl rfl rfl) s_cint) (so_cons (s_callB c_len rfl (free "len" rfl) rfl (s_cons (s_var rfl (vis_by rfl) rfl rfl) s_nil rfl) (by decide) rfl rfl rfl) so_nil rfl) rfl))) (g_name hN rfl (loc_by rfl) (fnl_by rfl)) (q_cons (q_asg (s_bin o_add (s_cutH (s_var rfl (vis_by rfl) rfl rfl) (s_var rfl (vis_by rfl) rfl rfl)) (s_callTy c_tuple rfl (free "tuple" rfl) rfl (s_cons (s_cutH (s_lc (own := [("door", 9)]) rfl hN (i_rng1 rfl (free "range" rfl) (s_cons (s_callB c_len rfl (free "len" rfl) rfl (s_cons (s_pidx hr (s_var rfl (vis_by rfl) rfl rfl) s_cint (fun _ _ => rfl)) s_nil rfl) (by decide) rfl rfl rfl) s_nil rfl) rfl) rfl (by decide) rfl (fun _ _ _ _ _ => (g_name hN rfl (loc_by rfl) (fnl_by rfl))) (fun _ _ _ _ _ => (if_one (t_cmp rfl (o_nin hr) (s_var rfl (vis_by rfl) rfl rfl) (s_cutH (s_var rfl (vis_by rfl) rfl rfl) (s_var rfl (vis_by rfl) rfl rfl)) rfl))) (fun _ _ _ _ _ => (s_var rfl (vis_by rfl) rfl rfl)) (fun _ => rfl)) s_cint) s_nil rfl) (by decide) rfl rfl rfl)) (g_name hN rfl (loc_by rfl) (fnl_by rfl)) rfl rfl rfl) (q_cons (q_ite (PW.pt (w_or (t_not (t_plain (s_call ((IH 17 "_law_asked" rfl).at) hr tk rfl (sc_var rfl (vis_by rfl) rfl rfl (sc_cons rfl (s_cutH (s_var rfl (vis_by rfl) rfl rfl) (s_var rfl (vis_by rfl) rfl rfl)) sc_nil rfl) rfl) rfl rfl rfl) (fun _ => rfl))) (w_or (t_not (t_plain (s_call ((IH 17 "_law_asked" rfl).at) hr tk rfl (sc_var rfl (vis_by rfl) rfl rfl (sc_var rfl (vis_by rfl) rfl rfl sc_nil rfl) rfl) rfl rfl rfl) (fun _ => rfl))) (w_or1 (t_not (t_plain (s_call ((IH 17 "_law_asked" rfl).at) hr tk rfl (sc_var rfl (vis_by rfl) rfl rfl (sc_cons rfl (s_bin o_add (s_var rfl (vis_by rfl) rfl rfl) (s_cutH (s_var rfl (vis_by rfl) rfl rfl) s_cint)) sc_nil rfl) rfl) rfl rfl rfl) (fun _ => rfl))))))) (q_cons (q_ret s_cbl) q_nil) q_nil) q_nil)) (fun _ => rfl)) (q_cons (q_for hp rfl (i_rng1 rfl (free "range" rfl) (s_cons s_cint s_nil rfl) rfl) (g_name hN rfl (loc_by rfl) (fnl_by rfl)) (q_cons (q_ite (t_not (t_plain (s_call ((IH 17 "_law_asked" rfl).at) hr tk rfl (sc_var rfl (vis_by rfl) rfl rfl (sc_cons rfl (s_call ((IH 16 "_law_spoilt" rfl).at) hr tk rfl (sc_var rfl (vis_by rfl) rfl rfl (sc_var rfl (vis_by rfl) rfl rfl (sc_var rfl (vis_by rfl) rfl rfl sc_nil rfl) rfl) rfl) rfl rfl rfl) sc_nil rfl) rfl) rfl rfl rfl) (fun _ => rfl))) (q_cons (q_ret s_cbl) q_nil) q_nil) q_nil) (fun _ => rfl)) q_nil)))))) (fun _ => rfl)) (q_cons (q_ret s_cbl) q_nil))))
theorem g19 (IH : ∀ i x, names[i]? = some x → FnW P w K mg base (xrT K (tbK K xs)) k x (kw i) (callN fs k i)) (free : ∀ x, blts.contains x = true → mg x = none) (TT : ∀ q ∈ tf, (He.cT K q).2 ∈ TabList.tabs ∧ GxR.TabB base mg (He.cT K q).1 (He.cT K q).2) (XX : XA P w K mg file xs ems gis cgs) (IHH : ∀ i x, names[i]? = some x → hotB i = true → FnWH P w K mg base (xrT K (tbK K xs)) k x (callN fs k i)) {f : Addr} {fd : FuncData} (hf : f = He.fAd K ("law", none)) (F : FunD K "law" "law" (defArgs (top 26)) (defBody (top 26)) (defScope (top 26)) [] [] f fd) (hm : mg "law" = some (.ref f)) : FnW P w K mg base (xrT K (tbK K xs)) (k + 1) "law" (kw 19) (callN fs (k + 1) 19) :=
  ⟨f, fd, ["script"], fd_okC hf F sc19 f19 rfl rfl (fun cdv A outer s H E hc hr => t19 IH free TT XX IHH hc hr), hm, F.kp, F.bindsN (fun _ _ _ _ _ _ us hl => match us, hl with | [_], _ => rfl), fun j _ _ hj => by cases hj⟩
theorem tH11 (IHH : ∀ i x, names[i]? = some x → hotB i = true → FnWH P w K mg base (xrT K (tbK K xs)) k x (call i)) (free : ∀ x, blts.contains x = true → mg x = none) {f : Addr} {cdv : Value} {A : Around} {outer : List PySem.Env} {s : Shared} {H : Hp} {E : XK} {q : Addr × Obj} (hcode : cdv = .ref (He.codeOf K ("_law_like", none))) (hot : L2H.Hot1 A q) (hr : L2H.RoomH k (A.deeper (envOfC "_law_like" (defScope (top 18)) s.heap.objs.size f cdv))) : PSs (L2H.cxH (L2N.CX P w) P w K mg base ["told", "due", "k"] "_law_like" (defScope (top 18)) f cdv A outer s H E q) (defBody (top 18)) (tSs K (xrT K (tbK K xs)) (fun c d _ H' => E c d H') { call := call, kp := Fd.kp f11 } b11) := by
  subst hcode
  have hN := sc11.nd
  have tk := takes_cxH (P := P) (w := w) (K := K) (mg := mg) (base := base) (N := ["told", "due", "k"]) (qual := "_law_like") (scope := defScope (top 18)) (f := f) (cd := .ref (He.codeOf K ("_law_like", none))) (A := A) (outer := outer) (s := s) (H := H) (E := E) (q := q)
  have hp := owns_cxH (P := P) (w := w) (K := K) (mg := mg) (base := base) (N := ["told", "due", "k"]) (qual := "_law_like") (scope := defScope (top 18)) (f := f) (cd := .ref (He.codeOf K ("_law_like", none))) (A := A) (outer := outer) (s := s) (H := H) (E := E) (q := q)
  have hc := hot_cxH (P := P) (w := w) (K := K) (mg := mg) (base := base) (N := ["told", "due", "k"]) (qual := "_law_like") (scope := defScope (top 18)) (f := f) (cd := .ref (He.codeOf K ("_law_like", none))) (A := A) (outer := outer) (s := s) (H := H) (E := E) (q := q) hot
  exact (q_cons (q_ite (PW.pt (w_or (t_plain (s_isi .bool rfl (free "isinstance" rfl) (s_var rfl (vis_by rfl) rfl rfl) rfl (free "bool" rfl) rfl (by decide) rfl rfl rfl rfl) (fun _ => rfl)) (w_or1 (t_plain (s_isi .bool rfl (free "isinstance" rfl) (s_var rfl (vis_by rfl) rfl rfl) rfl (free "bool" rfl) rfl (by decide) rfl rfl rfl rfl) (fun _ => rfl))))) (q_cons (q_ret (s_and (s_isi .bool rfl (free "isinstance" rfl) (s_var rfl (vis_by rfl) rfl rfl) rfl (free "bool" rfl) rfl (by decide) rfl rfl rfl rfl) (s_and (s_isi .bool rfl (free "isinstance" rfl) (s_var rfl (vis_by rfl) rfl rfl) rfl (free "bool" rfl) rfl (by decide) rfl rfl rfl rfl) (s_and1 (s_cmp (o_eqH hr) (s_var rfl (vis_by rfl) rfl rfl) (s_var rfl (vis_by rfl) rfl rfl) rfl))))) q_nil) q_nil) (q_cons (q_ite (t_plain (s_isi .str rfl (free "isinstance" rfl) (s_var rfl (vis_by rfl) rfl rfl) rfl (free "str" rfl) rfl (by decide) rfl rfl rfl rfl) (fun _ => rfl)) (q_cons (q_ret (s_and (s_isi .str rfl (free "isinstance" rfl) (s_var rfl (vis_by rfl) rfl rfl) rfl (free "str" rfl) rfl (by decide) rfl rfl rfl rfl) (s_and1 (s_cmp (o_eqH hr) (s_var rfl (vis_by rfl) rfl rfl) (s_var rfl (vis_by rfl) rfl rfl) rfl)))) q_nil) q_nil) (q_cons (q_ite (t_plain (s_isi .tup rfl (free "isinstance" rfl) (s_var rfl (vis_by rfl) rfl rfl) rfl (free "tuple" rfl) rfl (by decide) rfl rfl rfl rfl) (fun _ => rfl)) (q_cons (q_ite (PW.pt (w_or (t_not (t_plain (s_isi .tup rfl (free "isinstance" rfl) (s_var rfl (vis_by rfl) rfl rfl) rfl (free "tuple" rfl) rfl (by decide) rfl rfl rfl rfl) (fun _ => rfl))) (w_or1 (t_cmp rfl (o_neH hr) (s_callB c_len rfl (free "len" rfl) rfl (s_cons (s_var rfl (vis_by rfl) rfl rfl) s_nil rfl) (by decide) rfl rfl rfl) (s_callB c_len rfl (free "len" rfl) rfl (s_cons (s_var rfl (vis_by rfl) rfl rfl) s_nil rfl) (by decide) rfl rfl rfl) rfl)))) (q_cons (q_ret s_cbl) q_nil) q_nil) (q_cons (q_forH hp hc (i_rng1H rfl (free "range" rfl) (s_cons (s_callB c_len rfl (free "len" rfl) rfl (s_cons (s_var rfl (vis_by rfl) rfl rfl) s_nil rfl) (by decide) rfl rfl rfl) s_nil rfl) rfl) (g_name hN rfl (loc_by rfl) (fnl_by rfl)) (q_cons (q_ite (t_not (t_plain (s_callH ((IHH 11 "_law_like" rfl rfl).at) hr hc tk rfl (sc_cons rfl (s_pidxH hr (s_var rfl (vis_by rfl) rfl rfl) (s_var rfl (vis_by rfl) rfl rfl) (fun _ _ => rfl)) (sc_cons rfl (s_pidxH hr (s_var rfl (vis_by rfl) rfl rfl) (s_var rfl (vis_by rfl) rfl rfl) (fun _ _ => rfl)) sc_nil rfl) rfl) rfl rfl rfl) (fun _ => rfl))) (q_cons (q_ret s_cbl) q_nil) q_nil) q_nil) (fun _ => rfl)) (q_cons (q_ret s_cbl) q_nil))) q_nil) (q_cons (q_ret (s_and (s_isi .int rfl (free "isinstance" rfl) (s_var rfl (vis_by rfl) rfl rfl) rfl (free "int" rfl) rfl (by decide) rfl rfl rfl rfl) (s_and1 (s_cmp (o_eqH hr) (s_var rfl (vis_by rfl) rfl rfl) (s_var rfl (vis_by rfl) rfl rfl) rfl)))) q_nil))))
theorem gH11 (IHH : ∀ i x, names[i]? = some x → hotB i = true → FnWH P w K mg base (xrT K (tbK K xs)) k x (callN fs k i)) (free : ∀ x, blts.contains x = true → mg x = none) {f : Addr} {fd : FuncData} (hf : f = He.fAd K ("_law_like", none)) (F : FunD K "_law_like" "_law_like" (defArgs (top 18)) (defBody (top 18)) (defScope (top 18)) [] [] f fd) (hm : mg "_law_like" = some (.ref f)) : FnWH P w K mg base (xrT K (tbK K xs)) (k + 1) "_law_like" (callN fs (k + 1) 11) :=
  ⟨f, fd, ["told", "due"], fd_okH hf F sc11 f11 rfl rfl (fun cdv A outer s H E q hc hot hr => tH11 IHH free hc hot hr), hm, F.kp, F.bindsN (fun _ _ _ _ _ _ us hl => match us, hl with | [_, _], _ => rfl)⟩
end
def d0 : He.DefD := ⟨("first_step", none), "first_step", "first_step", defArgs (top 4), defBody (top 4), defScope (top 4), [], []⟩
def d1 : He.DefD := ⟨("is_ended", none), "is_ended", "is_ended", defArgs (top 5), defBody (top 5), defScope (top 5), [], []⟩
def d2 : He.DefD := ⟨("step_word", none), "step_word", "step_word", defArgs (top 6), defBody (top 6), defScope (top 6), [], []⟩
def d3 : He.DefD := ⟨("next_step", none), "next_step", "next_step", defArgs (top 7), defBody (top 7), defScope (top 7), [], []⟩
def d4 : He.DefD := ⟨("is_integer", none), "is_integer", "is_integer", defArgs (top 9), defBody (top 9), defScope (top 9), [], []⟩
def d5 : He.DefD := ⟨("is_number", none), "is_number", "is_number", defArgs (top 10), defBody (top 10), defScope (top 10), [], []⟩
def d6 : He.DefD := ⟨("is_below", none), "is_below", "is_below", defArgs (top 11), defBody (top 11), defScope (top 11), [], []⟩
def d7 : He.DefD := ⟨("check_walk", none), "check_walk", "check_walk", defArgs (top 13), defBody (top 13), defScope (top 13), [], []⟩
def d8 : He.DefD := ⟨("is_walk", none), "is_walk", "is_walk", defArgs (top 14), defBody (top 14), defScope (top 14), [], []⟩
def d9 : He.DefD := ⟨("_law_purse", none), "_law_purse", "_law_purse", defArgs (top 16), defBody (top 16), defScope (top 16), [], []⟩
def d10 : He.DefD := ⟨("_law_one", none), "_law_one", "_law_one", defArgs (top 17), defBody (top 17), defScope (top 17), [], []⟩
def d11 : He.DefD := ⟨("_law_like", none), "_law_like", "_law_like", defArgs (top 18), defBody (top 18), defScope (top 18), [], []⟩
def d12 : He.DefD := ⟨("_law_house", none), "_law_house", "_law_house", defArgs (top 19), defBody (top 19), defScope (top 19), [], []⟩
def d13 : He.DefD := ⟨("_law_next", none), "_law_next", "_law_next", defArgs (top 20), defBody (top 20), defScope (top 20), [], []⟩
def d14 : He.DefD := ⟨("_law_walk", none), "_law_walk", "_law_walk", defArgs (top 21), defBody (top 21), defScope (top 21), [], []⟩
def d15 : He.DefD := ⟨("_law_due", none), "_law_due", "_law_due", defArgs (top 22), defBody (top 22), defScope (top 22), [], []⟩
def d16 : He.DefD := ⟨("_law_spoilt", none), "_law_spoilt", "_law_spoilt", defArgs (top 23), defBody (top 23), defScope (top 23), [], []⟩
def d17 : He.DefD := ⟨("_law_asked", none), "_law_asked", "_law_asked", defArgs (top 24), defBody (top 24), defScope (top 24), [], []⟩
def d18 : He.DefD := ⟨("_law_hand", none), "_law_hand", "_law_hand", defArgs (top 25), defBody (top 25), defScope (top 25), [], []⟩
def d19 : He.DefD := ⟨("law", none), "law", "law", defArgs (top 26), defBody (top 26), defScope (top 26), [], []⟩
def fn : List He.DefD := [d0, d1, d2, d3, d4, d5, d6, d7, d8, d9, d10, d11, d12, d13, d14, d15, d16, d17, d18, d19]
def fa : List He.Fa := [.glo "first_step", .glo "is_ended", .glo "step_word", .glo "next_step", .glo "is_integer", .glo "is_number", .glo "is_below", .glo "check_walk", .glo "is_walk", .glo "_law_purse", .glo "_law_one", .glo "_law_like", .glo "_law_house", .glo "_law_next", .glo "_law_walk", .glo "_law_due", .glo "_law_spoilt", .glo "_law_asked", .glo "_law_hand", .glo "law", .free "any", .free "bool", .free "enumerate", .free "int", .free "isinstance", .free "len", .free "list", .free "max", .free "min", .free "range", .free "sorted", .free "str", .free "sum", .free "super", .free "tuple", .glo "BadWalk", .exm "BadWalk" "BadWalk" true, .exm "BadWalk" "HouseError" true, .glo "BadWalk", .glo "HouseError"]
abbrev R : PySem.W.OpenRow := PySem.W.OpenLaw.row PySem.Challenge.rw_anydoornext_k04_check_walk
abbrev hk : PySem.W.Hook := hookY 6 fa fn tf file xs
def ob (s : PySem.W.SharedT) : AlY := obsY 6 fa fn tf file xs (HandSHeadRun.getT s)
theorem ob_eq (s : PySem.W.SharedT) : ob s = hk.obs s.abs := obsY_eq (HandSHeadRun.getT_eq s)
theorem run (w : World) : HandSHeadRun.RunEq R (PySem.W.view R.prog [26]) hk ob 20000 ("HouseError" :: "BadWalk" :: "first_step" :: "is_ended" :: "step_word" :: "next_step" :: "is_integer" :: "is_number" :: "is_below" :: "check_walk" :: "is_walk" :: "_law_purse" :: "_law_one" :: "_law_like" :: "_law_house" :: "_law_next" :: "_law_walk" :: "_law_due" :: "_law_spoilt" :: "_law_asked" :: "_law_hand" :: [] : List PySem.Str) w := by
  intro os
  kernel_rfl
section
variable [TabList] {P : Program} {w : World} {K : PySem.W.Frag} {h : Heap} {mg : Str → Option Value} {base : Heap}
theorem free_of (X : K.In h) (G : h.Ns mainGlobals mg) (c : He.SaysD fa fn K) : ∀ x, blts.contains x = true → mg x = none := fun x hx => by
  have hx : x ∈ blts := by simpa using hx
  have key : ∀ (j : Nat) (x : Str), fa[j]? = some (.free x) → mg x = none := fun j x hj => He.free_ok X G (c.fact j hj)
  obtain ⟨j, hj, e⟩ := List.mem_iff_getElem.mp hx
  have hl : j < 15 := hj
  subst e
  match j, hj, hl with
  | 0, _, _ => exact key 20 _ rfl
  | 1, _, _ => exact key 21 _ rfl
  | 2, _, _ => exact key 22 _ rfl
  | 3, _, _ => exact key 23 _ rfl
  | 4, _, _ => exact key 24 _ rfl
  | 5, _, _ => exact key 25 _ rfl
  | 6, _, _ => exact key 26 _ rfl
  | 7, _, _ => exact key 27 _ rfl
  | 8, _, _ => exact key 28 _ rfl
  | 9, _, _ => exact key 29 _ rfl
  | 10, _, _ => exact key 30 _ rfl
  | 11, _, _ => exact key 31 _ rfl
  | 12, _, _ => exact key 32 _ rfl
  | 13, _, _ => exact key 33 _ rfl
  | 14, _, _ => exact key 34 _ rfl
  | j + 15, _, hl => exact absurd hl (by omega)
theorem allH (X : K.In h) (G : h.Ns mainGlobals mg) (c : He.SaysD fa fn K) : ∀ (k i : Nat) (x : Str), names[i]? = some x → hotB i = true → FnWH P w K mg base (xrT K (tbK K xs)) k x (callN fs k i) := by
  obtain ⟨fd11, F11⟩ := c.def_ 11 (d := d11) rfl
  have m11 := He.glo_ok X G (c.fact 11 (f := .glo "_law_like") rfl)
  have free := free_of X G c
  intro k
  induction k with
  | zero =>
    intro i x hx hb
    simp only [hotB, List.contains_eq_mem, List.mem_cons, List.not_mem_nil, or_false, decide_eq_true_eq] at hb
    subst hb
    · cases hx
      exact ⟨_, fd11, ["told", "due"], fn_zeroH (fun _ => rfl), m11, F11.kp, F11.bindsN (fun _ _ _ _ _ _ us hl => match us, hl with | [_, _], _ => rfl)⟩
  | succ k IH =>
    intro i x hx hb
    simp only [hotB, List.contains_eq_mem, List.mem_cons, List.not_mem_nil, or_false, decide_eq_true_eq] at hb
    subst hb
    · cases hx
      exact gH11 IH free rfl F11 m11
theorem all (X : K.In h) (G : h.Ns mainGlobals mg) (c : He.SaysD fa fn K) (TT : ∀ q ∈ tf, (He.cT K q).2 ∈ TabList.tabs ∧ GxR.TabB base mg (He.cT K q).1 (He.cT K q).2) (XX : XA P w K mg file xs ems gis cgs) : ∀ (k i : Nat) (x : Str), names[i]? = some x → FnW P w K mg base (xrT K (tbK K xs)) k x (kw i) (callN fs k i) := by
  obtain ⟨fd0, F0⟩ := c.def_ 0 (d := d0) rfl
  have m0 := He.glo_ok X G (c.fact 0 (f := .glo "first_step") rfl)
  obtain ⟨fd1, F1⟩ := c.def_ 1 (d := d1) rfl
  have m1 := He.glo_ok X G (c.fact 1 (f := .glo "is_ended") rfl)
  obtain ⟨fd2, F2⟩ := c.def_ 2 (d := d2) rfl
  have m2 := He.glo_ok X G (c.fact 2 (f := .glo "step_word") rfl)
  obtain ⟨fd3, F3⟩ := c.def_ 3 (d := d3) rfl
  have m3 := He.glo_ok X G (c.fact 3 (f := .glo "next_step") rfl)
  obtain ⟨fd4, F4⟩ := c.def_ 4 (d := d4) rfl
  have m4 := He.glo_ok X G (c.fact 4 (f := .glo "is_integer") rfl)
  obtain ⟨fd5, F5⟩ := c.def_ 5 (d := d5) rfl
  have m5 := He.glo_ok X G (c.fact 5 (f := .glo "is_number") rfl)
  obtain ⟨fd6, F6⟩ := c.def_ 6 (d := d6) rfl
  have m6 := He.glo_ok X G (c.fact 6 (f := .glo "is_below") rfl)
  obtain ⟨fd7, F7⟩ := c.def_ 7 (d := d7) rfl
  have m7 := He.glo_ok X G (c.fact 7 (f := .glo "check_walk") rfl)
  obtain ⟨fd8, F8⟩ := c.def_ 8 (d := d8) rfl
  have m8 := He.glo_ok X G (c.fact 8 (f := .glo "is_walk") rfl)
  obtain ⟨fd9, F9⟩ := c.def_ 9 (d := d9) rfl
  have m9 := He.glo_ok X G (c.fact 9 (f := .glo "_law_purse") rfl)
  obtain ⟨fd10, F10⟩ := c.def_ 10 (d := d10) rfl
  have m10 := He.glo_ok X G (c.fact 10 (f := .glo "_law_one") rfl)
  obtain ⟨fd11, F11⟩ := c.def_ 11 (d := d11) rfl
  have m11 := He.glo_ok X G (c.fact 11 (f := .glo "_law_like") rfl)
  obtain ⟨fd12, F12⟩ := c.def_ 12 (d := d12) rfl
  have m12 := He.glo_ok X G (c.fact 12 (f := .glo "_law_house") rfl)
  obtain ⟨fd13, F13⟩ := c.def_ 13 (d := d13) rfl
  have m13 := He.glo_ok X G (c.fact 13 (f := .glo "_law_next") rfl)
  obtain ⟨fd14, F14⟩ := c.def_ 14 (d := d14) rfl
  have m14 := He.glo_ok X G (c.fact 14 (f := .glo "_law_walk") rfl)
  obtain ⟨fd15, F15⟩ := c.def_ 15 (d := d15) rfl
  have m15 := He.glo_ok X G (c.fact 15 (f := .glo "_law_due") rfl)
  obtain ⟨fd16, F16⟩ := c.def_ 16 (d := d16) rfl
  have m16 := He.glo_ok X G (c.fact 16 (f := .glo "_law_spoilt") rfl)
  obtain ⟨fd17, F17⟩ := c.def_ 17 (d := d17) rfl
  have m17 := He.glo_ok X G (c.fact 17 (f := .glo "_law_asked") rfl)
  obtain ⟨fd18, F18⟩ := c.def_ 18 (d := d18) rfl
  have m18 := He.glo_ok X G (c.fact 18 (f := .glo "_law_hand") rfl)
  obtain ⟨fd19, F19⟩ := c.def_ 19 (d := d19) rfl
  have m19 := He.glo_ok X G (c.fact 19 (f := .glo "law") rfl)
  have free := free_of X G c
  intro k
  induction k with
  | zero =>
    intro i x hx
    match i, hx with
    | 0, hx =>
      cases hx
      exact ⟨_, fd0, ["house"], fn_zero (fun _ => rfl), m0, F0.kp, F0.bindsN (fun _ _ _ _ _ _ us hl => match us, hl with | [_], _ => rfl), fun j _ _ hj => by cases hj⟩
    | 1, hx =>
      cases hx
      exact ⟨_, fd1, ["house", "step"], fn_zero (fun _ => rfl), m1, F1.kp, F1.bindsN (fun _ _ _ _ _ _ us hl => match us, hl with | [_, _], _ => rfl), fun j _ _ hj => by cases hj⟩
    | 2, hx =>
      cases hx
      exact ⟨_, fd2, ["house", "step", "door"], fn_zero (fun _ => rfl), m2, F2.kp, F2.bindsN (fun _ _ _ _ _ _ us hl => match us, hl with | [_, _, _], _ => rfl), fun j _ _ hj => by cases hj⟩
    | 3, hx =>
      cases hx
      exact ⟨_, fd3, ["house", "step", "door"], fn_zero (fun _ => rfl), m3, F3.kp, F3.bindsN (fun _ _ _ _ _ _ us hl => match us, hl with | [_, _, _], _ => rfl), fun j _ _ hj => by cases hj⟩
    | 4, hx =>
      cases hx
      exact ⟨_, fd4, ["thing"], fn_zero (fun _ => rfl), m4, F4.kp, F4.bindsN (fun _ _ _ _ _ _ us hl => match us, hl with | [_], _ => rfl), fun j _ _ hj => by cases hj⟩
    | 5, hx =>
      cases hx
      exact ⟨_, fd5, ["thing"], fn_zero (fun _ => rfl), m5, F5.kp, F5.bindsN (fun _ _ _ _ _ _ us hl => match us, hl with | [_], _ => rfl), fun j _ _ hj => by cases hj⟩
    | 6, hx =>
      cases hx
      exact ⟨_, fd6, ["thing", "bound"], fn_zero (fun _ => rfl), m6, F6.kp, F6.bindsN (fun _ _ _ _ _ _ us hl => match us, hl with | [_, _], _ => rfl), fun j _ _ hj => by cases hj⟩
    | 7, hx =>
      cases hx
      exact ⟨_, fd7, ["house", "thing"], fn_zero (fun _ => rfl), m7, F7.kp, F7.bindsN (fun _ _ _ _ _ _ us hl => match us, hl with | [_, _], _ => rfl), fun j _ _ hj => by cases hj⟩
    | 8, hx =>
      cases hx
      exact ⟨_, fd8, ["house", "thing"], fn_zero (fun _ => rfl), m8, F8.kp, F8.bindsN (fun _ _ _ _ _ _ us hl => match us, hl with | [_, _], _ => rfl), fun j _ _ hj => by cases hj⟩
    | 9, hx =>
      cases hx
      exact ⟨_, fd9, ["script"], fn_zero (fun _ => rfl), m9, F9.kp, F9.bindsN (fun _ _ _ _ _ _ us hl => match us, hl with | [_], _ => rfl), fun j _ _ hj => by cases hj⟩
    | 10, hx =>
      cases hx
      exact ⟨_, fd10, ["purse", "many"], fn_zero (fun _ => rfl), m10, F10.kp, F10.bindsN (fun _ _ _ _ _ _ us hl => match us, hl with | [_, _], _ => rfl), fun j _ _ hj => by cases hj⟩
    | 11, hx =>
      cases hx
      exact ⟨_, fd11, ["told", "due"], fn_zero (fun _ => rfl), m11, F11.kp, F11.bindsN (fun _ _ _ _ _ _ us hl => match us, hl with | [_, _], _ => rfl), fun j _ _ hj => by cases hj⟩
    | 12, hx =>
      cases hx
      exact ⟨_, fd12, ["purse", "wide"], fn_zero (fun _ => rfl), m12, F12.kp, F12.bindsN (fun _ _ _ _ _ _ us hl => match us, hl with | [_, _], _ => rfl), fun j _ _ hj => by cases hj⟩
    | 13, hx =>
      cases hx
      exact ⟨_, fd13, ["house", "walk"], fn_zero (fun _ => rfl), m13, F13.kp, F13.bindsN (fun _ _ _ _ _ _ us hl => match us, hl with | [_, _], _ => rfl), fun j _ _ hj => by cases hj⟩
    | 14, hx =>
      cases hx
      exact ⟨_, fd14, ["purse", "house", "most", "shy"], fn_zero (fun _ => rfl), m14, F14.kp, F14.bindsN (fun _ _ _ _ _ _ us hl => match us, hl with | [_, _, _, _], _ => rfl), fun j _ _ hj => by cases hj⟩
    | 15, hx =>
      cases hx
      exact ⟨_, fd15, ["house", "thing"], fn_zero (fun _ => rfl), m15, F15.kp, F15.bindsN (fun _ _ _ _ _ _ us hl => match us, hl with | [_, _], _ => rfl), fun j _ _ hj => by cases hj⟩
    | 16, hx =>
      cases hx
      exact ⟨_, fd16, ["purse", "house", "walk"], fn_zero (fun _ => rfl), m16, F16.kp, F16.bindsN (fun _ _ _ _ _ _ us hl => match us, hl with | [_, _, _], _ => rfl), fun j _ _ hj => by cases hj⟩
    | 17, hx =>
      cases hx
      exact ⟨_, fd17, ["house", "thing"], fn_zero (fun _ => rfl), m17, F17.kp, F17.bindsN (fun _ _ _ _ _ _ us hl => match us, hl with | [_, _], _ => rfl), fun j _ _ hj => by cases hj⟩
    | 18, hx =>
      cases hx
      exact ⟨_, fd18, ["purse"], fn_zero (fun _ => rfl), m18, F18.kp, F18.bindsN (fun _ _ _ _ _ _ us hl => match us, hl with | [_], _ => rfl), fun j _ _ hj => by cases hj⟩
    | 19, hx =>
      cases hx
      exact ⟨_, fd19, ["script"], fn_zero (fun _ => rfl), m19, F19.kp, F19.bindsN (fun _ _ _ _ _ _ us hl => match us, hl with | [_], _ => rfl), fun j _ _ hj => by cases hj⟩
    | i + 20, hx => cases hx
  | succ k IH =>
    intro i x hx
    match i, hx with
    | 0, hx =>
      cases hx
      exact g0 IH free TT XX (fun i x hx hb => allH X G c k i x hx hb) rfl F0 m0
    | 1, hx =>
      cases hx
      exact g1 IH free TT XX (fun i x hx hb => allH X G c k i x hx hb) rfl F1 m1
    | 2, hx =>
      cases hx
      exact g2 IH free TT XX (fun i x hx hb => allH X G c k i x hx hb) rfl F2 m2
    | 3, hx =>
      cases hx
      exact g3 IH free TT XX (fun i x hx hb => allH X G c k i x hx hb) rfl F3 m3
    | 4, hx =>
      cases hx
      exact g4 IH free TT XX (fun i x hx hb => allH X G c k i x hx hb) rfl F4 m4
    | 5, hx =>
      cases hx
      exact g5 IH free TT XX (fun i x hx hb => allH X G c k i x hx hb) rfl F5 m5
    | 6, hx =>
      cases hx
      exact g6 IH free TT XX (fun i x hx hb => allH X G c k i x hx hb) rfl F6 m6
    | 7, hx =>
      cases hx
      exact g7 IH free TT XX (fun i x hx hb => allH X G c k i x hx hb) rfl F7 m7
    | 8, hx =>
      cases hx
      exact g8 IH free TT XX (fun i x hx hb => allH X G c k i x hx hb) rfl F8 m8
    | 9, hx =>
      cases hx
      exact g9 IH free TT XX (fun i x hx hb => allH X G c k i x hx hb) rfl F9 m9
    | 10, hx =>
      cases hx
      exact g10 IH free TT XX (fun i x hx hb => allH X G c k i x hx hb) rfl F10 m10
    | 11, hx =>
      cases hx
      exact g11 IH free TT XX (fun i x hx hb => allH X G c k i x hx hb) rfl F11 m11
    | 12, hx =>
      cases hx
      exact g12 IH free TT XX (fun i x hx hb => allH X G c k i x hx hb) rfl F12 m12
    | 13, hx =>
      cases hx
      exact g13 IH free TT XX (fun i x hx hb => allH X G c k i x hx hb) rfl F13 m13
    | 14, hx =>
      cases hx
      exact g14 IH free TT XX (fun i x hx hb => allH X G c k i x hx hb) rfl F14 m14
    | 15, hx =>
      cases hx
      exact g15 IH free TT XX (fun i x hx hb => allH X G c k i x hx hb) rfl F15 m15
    | 16, hx =>
      cases hx
      exact g16 IH free TT XX (fun i x hx hb => allH X G c k i x hx hb) rfl F16 m16
    | 17, hx =>
      cases hx
      exact g17 IH free TT XX (fun i x hx hb => allH X G c k i x hx hb) rfl F17 m17
    | 18, hx =>
      cases hx
      exact g18 IH free TT XX (fun i x hx hb => allH X G c k i x hx hb) rfl F18 m18
    | 19, hx =>
      cases hx
      exact g19 IH free TT XX (fun i x hx hb => allH X G c k i x hx hb) rfl F19 m19
    | i + 20, hx => cases hx
theorem xd0 (o : XcOk K file x0) (hs : mg "super" = none) : ExcD PySem.Challenge.pw_anydoornext_k04_check_walk w K mg (He.ga K "BadWalk") (iniA K "BadWalk") ["at", "word"] := by
  obtain ⟨oc, od, osl, kV, doc, pm, an, cda, ct, cc, ccl, cdd, vs, ccs, tf1, cl, cld, csl, lk, hcd, hcode, hvs, hcell⟩ := o.at_
  exact ⟨o.k, o.ex, o.ty, o.kp, o.ini, o.fn, fun base M => init_two (self := { arg := "self", annotation := none, pos := _ }) o.k M lk rfl hcd (L2.Binds.all fun us hl => match us, hl with | [_, _, _], _ => by kernel_rfl) hcode hvs rfl hcell hs rfl rfl rfl rfl rfl rfl (by decide +kernel) rfl rfl rfl rfl rfl rfl rfl rfl rfl (o.no _ (.head _)) (o.no _ (.tail _ (.head _))) (fun _ => rfl) (fun _ => rfl) (fun _ => rfl) (fun _ => rfl) (fun _ => rfl)⟩
theorem xa (X : K.In h) (G : h.Ns mainGlobals mg) (c : He.SaysD fa fn K) (cx : ∀ d ∈ xs, XcOk K file d) : XA PySem.Challenge.pw_anydoornext_k04_check_walk w K mg file xs ems gis cgs where
  xo := fun j d hj => cx d (List.mem_of_getElem? hj)
  xd := fun j d hj => match j, hj with | 0, hj => by cases hj; exact xd0 (cx x0 (List.mem_of_getElem? (i := 0) rfl)) (free_of X G c "super" rfl) | j + 1, hj => by cases hj
  xg := fun j d hj => match j, hj with | 0, hj => by cases hj; exact He.glo_ok X G (c.fact 35 (f := .glo "BadWalk") rfl) | j + 1, hj => by cases hj
  em := fun j d hj => match j, hj with | 0, hj => by cases hj; exact He.exm_ok (c.fact 36 (f := .exm "BadWalk" "BadWalk" true) rfl) | 1, hj => by cases hj; exact He.exm_ok (c.fact 37 (f := .exm "BadWalk" "HouseError" true) rfl) | j + 2, hj => by cases hj
  cg := fun j d hj => match j, hj with | 0, hj => by cases hj; exact He.glo_ok X G (c.fact 38 (f := .glo "BadWalk") rfl) | 1, hj => by cases hj; exact He.glo_ok X G (c.fact 39 (f := .glo "HouseError") rfl) | j + 2, hj => by cases hj
  gi := fun j d hj => match j, hj with  | j + 0, hj => by cases hj
theorem facts (X : K.In h) (G : h.Ns mainGlobals mg) (c : He.SaysD fa fn K) (XX : XA P w K mg file xs ems gis cgs) (plain : ∀ ns : List Int, ns.length ≤ 63 → ∃ fin, callN fs 40 19 [.scr ns] = .ok (.bl true) fin) :
    ∃ fd : FuncData, mg ("law" : Str) = some (.ref (He.fAd K ("law", none))) ∧ (∀ (s : Shared) (v : Value), BindsTo s fd ⟨[v], []⟩ [("script", v)]) ∧ ∀ base : Heap, (∀ q ∈ tf, (He.cT K q).2 ∈ TabList.tabs ∧ GxR.TabB base mg (He.cT K q).1 (He.cT K q).2) → FnOk P w K mg base (L2N.CX P w) 40 (He.fAd K ("law", none)) fd ["script"] (spLaw K (xrT K (tbK K xs)) (Fd.run f19 (callN fs 39))) := by
  obtain ⟨fd, F⟩ := c.def_ 19 (d := d19) rfl
  have b := FunD.bindsA (ps := ["script"]) F fun _ _ _ _ _ _ us hl => match us, hl with | [_], _ => rfl
  exact ⟨fd, He.glo_ok X G (c.fact 19 (f := .glo "law") rfl), fun s v => b s [v] rfl, fun base TT => law_ok rfl F sc19 f19 rfl rfl (fun cdv A outer s H E hc hr => t19 (fun i x hx => all X G c TT XX 39 i x hx) (free_of X G c) TT XX (fun i x hx hb => allH X G c 39 i x hx hb) hc hr)⟩
end
end Gk04
namespace Gk04P
open PySem PySem.Spec L2 Z Gk04
variable [TabList]
def d0 : Ss := (.cons (.ret (.fze (.tup (.cons (.lst (.cons (.cst (.int 0)) .nil)) (.cons (.dic .nil) (.cons (.pidx (.pidx (.var 0) (.cst (.int 0))) (.cst (.int 0))) .nil)))))) .nil)
theorem bd0 : f0.body = d0 := rfl
def d1 : Ss := (.cons (.ret (.gen false 2 (.pidx (.var 1) (.cst (.int 0))) (.ap .inn (.cons (.var 2) (.cons (.pidx (.var 0) (.cst (.int 2))) .nil))))) .nil)
theorem bd1 : f1.body = d1 := rfl
def d2 : Ss := (.cons (.asg (.tup [(.one 3), (.one 4), (.one 5)]) (.var 1)) (.cons (.ite (.ap .inn (.cons (.var 2) (.cons (.var 4) .nil))) (.cons (.ret (.cst (.str "again"))) .nil) .nil) (.cons (.ite (.call 1 (.cons (.var 0) (.cons (.var 1) .nil))) (.cons (.ret (.cst (.str "ended"))) .nil) .nil) (.cons (.ite (.not (.gen false 6 (.pidx (.pidx (.var 0) (.cst (.int 1))) (.var 2)) (.ap .inn (.cons (.var 6) (.cons (.var 3) .nil))))) (.cons (.ret (.cst (.str "far"))) .nil) .nil) (.cons (.ret (.ife (.ap .eq (.cons (.var 5) (.cons (.cst (.int 0)) .nil))) (.cst (.str "key")) (.cst .non))) .nil)))))
theorem bd2 : f2.body = d2 := rfl
def i3_0 : Es := (.cons (.ap .nin (.cons (.var 8) (.cons (.var 3) .nil))) .nil)
def e3_0 : E := (.var 8)
theorem ui3_0 : Es.pu i3_0 = true := rfl
theorem ue3_0 : E.pu e3_0 = true := rfl
theorem pe3_0 : E.pth e3_0 = true := rfl
def i3_1 : Es := .nil
def e3_1 : E := (.pidx (.pidx (.var 0) (.cst (.int 0))) (.var 8))
theorem ui3_1 : Es.pu i3_1 = true := rfl
theorem ue3_1 : E.pu e3_1 = true := rfl
theorem pe3_1 : E.pth e3_1 = true := rfl
def d3 : Ss := (.cons (.asg (.tup [(.one 3), (.one 4), (.one 5)]) (.var 1)) (.cons (.asg (.one 6) (.fze (.lc [8] (.one 8) (.seq (.pidx (.pidx (.var 0) (.cst (.int 1))) (.var 2))) i3_0 e3_0))) (.cons (.asg (.one 7) (.ap .sum (.cons (.lc [8] (.one 8) (.seq (.var 6)) i3_1 e3_1) .nil))) (.cons (.ret (.fze (.tup (.cons (.ap .add (.cons (.var 3) (.cons (.var 6) .nil))) (.cons (.dup (.var 4) (.var 2) (.cst (.bl true))) (.cons (.ap .add (.cons (.ap .sub (.cons (.var 5) (.cons (.cst (.int 1)) .nil))) (.cons (.var 7) .nil))) .nil)))))) .nil))))
theorem bd3 : f3.body = d3 := rfl
def d4 : Ss := (.cons (.ret (.and (.ap (.isi .int) (.cons (.var 0) .nil)) (.not (.ap (.isi .bool) (.cons (.var 0) .nil))))) .nil)
theorem bd4 : f4.body = d4 := rfl
def d5 : Ss := (.cons (.ret (.and (.call 4 (.cons (.var 0) .nil)) (.ap .ge (.cons (.var 0) (.cons (.cst (.int 0)) .nil))))) .nil)
theorem bd5 : f5.body = d5 := rfl
def d6 : Ss := (.cons (.ret (.and (.call 5 (.cons (.var 0) .nil)) (.ap .lt (.cons (.var 0) (.cons (.var 1) .nil))))) .nil)
theorem bd6 : f6.body = d6 := rfl
def l7_0 : Ss := (.cons (.ite (.not (.call 6 (.cons (.var 4) (.cons (.ap .len (.cons (.pidx (.var 0) (.cst (.int 1))) .nil)) .nil)))) (.cons (.rse 0 2 (.cons (.var 3) (.cons (.cst (.str "door")) .nil))) .nil) .nil) (.cons (.asg (.one 5) (.call 2 (.cons (.var 0) (.cons (.var 2) (.cons (.var 4) .nil))))) (.cons (.ite (.ap .notN (.cons (.var 5) .nil)) (.cons (.rse 0 2 (.cons (.var 3) (.cons (.var 5) .nil))) .nil) .nil) (.cons (.asg (.one 2) (.call 3 (.cons (.var 0) (.cons (.var 2) (.cons (.var 4) .nil))))) .nil))))
def d7 : Ss := (.cons (.ite (.not (.ap (.isi .tup) (.cons (.var 1) .nil))) (.cons (.rse 0 2 (.cons (.ap .neg (.cons (.cst (.int 1)) .nil)) (.cons (.cst (.str "shape")) .nil))) .nil) .nil) (.cons (.asg (.one 2) (.call 0 (.cons (.var 0) .nil))) (.cons (.for (.tup [(.one 3), (.one 4)]) (.enum (.var 1)) l7_0) (.cons (.ret (.pidx (.var 2) (.cst (.int 2)))) .nil))))
theorem bd7 : f7.body = d7 := rfl
def d8 : Ss := (.cons (.tri (.cons (.exp (.call 7 (.cons (.var 0) (.cons (.var 1) .nil)))) .nil) [(0 , [0] , (.one (.cst (.bl false))))]) (.cons (.ret (.cst (.bl true))) .nil))
theorem bd8 : f8.body = d8 := rfl
def i9_0 : Es := .nil
def e9_0 : E := (.ap .mod (.cons (.ap .int (.cons (.var 3) .nil)) (.cons (.cst (.int 100207)) .nil)))
theorem ui9_0 : Es.pu i9_0 = true := rfl
theorem ue9_0 : E.pu e9_0 = true := rfl
theorem pe9_0 : E.pth e9_0 = false := rfl
def l9_0 : Ss := (.cons (.asg (.one 2) (.ap .mod (.cons (.ap .add (.cons (.ap .add (.cons (.ap .mul (.cons (.ap .int (.cons (.var 2) .nil)) (.cons (.cst (.int 5849)) .nil))) (.cons (.ap .mul (.cons (.ap .int (.cons (.var 3) .nil)) (.cons (.cst (.int 1511)) .nil))) .nil))) (.cons (.cst (.int 47)) .nil))) (.cons (.cst (.int 100207)) .nil)))) .nil)
def d9 : Ss := (.cons (.asg (.one 1) (.fze (.ap .add (.cons (.lc [3] (.one 3) (.seq (.ap (.slc false true) (.cons (.var 0) (.cons (.cst (.int 50)) .nil)))) i9_0 e9_0) (.cons (.lst (.cons (.cst (.int 61)) .nil)) .nil))))) (.cons (.asg (.one 2) (.cst (.int 83))) (.cons (.for (.one 3) (.seq (.var 1)) l9_0) (.cons (.ret (.lst (.cons (.cst (.int 0)) (.cons (.var 2) (.cons (.fze (.mov 1)) .nil))))) .nil))))
theorem bd9 : f9.body = d9 := rfl
def d10 : Ss := (.cons (.sto (.var 0) (.cst (.int 0)) (.ap .add (.cons (.pidx (.var 0) (.cst (.int 0))) (.cons (.cst (.int 1)) .nil)))) (.cons (.asg (.one 2) (.pidx (.pidx (.var 0) (.cst (.int 2))) (.ap .mod (.cons (.ap .int (.cons (.pidx (.var 0) (.cst (.int 0))) .nil)) (.cons (.ap .len (.cons (.pidx (.var 0) (.cst (.int 2))) .nil)) .nil))))) (.cons (.sto (.var 0) (.cst (.int 1)) (.ap .mod (.cons (.ap .add (.cons (.ap .add (.cons (.ap .add (.cons (.ap .mul (.cons (.ap .int (.cons (.pidx (.var 0) (.cst (.int 1))) .nil)) (.cons (.cst (.int 4243)) .nil))) (.cons (.ap .mul (.cons (.ap .int (.cons (.var 2) .nil)) (.cons (.cst (.int 131)) .nil))) .nil))) (.cons (.ap .mul (.cons (.ap .int (.cons (.pidx (.var 0) (.cst (.int 0))) .nil)) (.cons (.cst (.int 73)) .nil))) .nil))) (.cons (.cst (.int 75)) .nil))) (.cons (.cst (.int 100207)) .nil)))) (.cons (.ret (.ap .mod (.cons (.ap .fdiv (.cons (.ap .int (.cons (.pidx (.var 0) (.cst (.int 1))) .nil)) (.cons (.cst (.int 15)) .nil))) (.cons (.ap .max2 (.cons (.cst (.int 1)) (.cons (.ap .int (.cons (.var 1) .nil)) .nil))) .nil)))) .nil))))
theorem bd10 : f10.body = d10 := rfl
def l11_0 : Ss := (.cons (.ite (.not (.call 11 (.cons (.pidx (.var 0) (.var 2)) (.cons (.pidx (.var 1) (.var 2)) .nil)))) (.cons (.ret (.cst (.bl false))) .nil) .nil) .nil)
def d11 : Ss := (.cons (.ite (.or (.ap (.isi .bool) (.cons (.var 1) .nil)) (.ap (.isi .bool) (.cons (.var 0) .nil))) (.cons (.ret (.and (.ap (.isi .bool) (.cons (.var 1) .nil)) (.and (.ap (.isi .bool) (.cons (.var 0) .nil)) (.ap .eq (.cons (.var 0) (.cons (.var 1) .nil)))))) .nil) .nil) (.cons (.ite (.ap (.isi .str) (.cons (.var 1) .nil)) (.cons (.ret (.and (.ap (.isi .str) (.cons (.var 0) .nil)) (.ap .eq (.cons (.var 0) (.cons (.var 1) .nil))))) .nil) .nil) (.cons (.ite (.ap (.isi .tup) (.cons (.var 1) .nil)) (.cons (.ite (.or (.not (.ap (.isi .tup) (.cons (.var 0) .nil))) (.ap .ne (.cons (.ap .len (.cons (.var 0) .nil)) (.cons (.ap .len (.cons (.var 1) .nil)) .nil)))) (.cons (.ret (.cst (.bl false))) .nil) .nil) (.cons (.for (.one 2) (.rng1 (.ap .len (.cons (.var 1) .nil))) l11_0) (.cons (.ret (.cst (.bl true))) .nil))) .nil) (.cons (.ret (.and (.ap (.isi .int) (.cons (.var 0) .nil)) (.ap .eq (.cons (.var 0) (.cons (.var 1) .nil))))) .nil))))
theorem bd11 : f11.body = d11 := rfl
def l12_0 : Ss := (.cons (.asg (.one 5) (.call 10 (.cons (.var 0) (.cons (.ap .sub (.cons (.var 2) (.cons (.cst (.int 1)) .nil))) .nil)))) (.cons (.asg (.one 6) (.ap .add (.cons (.ap .add (.cons (.var 5) (.cons (.cst (.int 1)) .nil))) (.cons (.call 10 (.cons (.var 0) (.cons (.ap .idx (.cons (.tup (.cons (.ap .sub (.cons (.ap .sub (.cons (.var 2) (.cons (.var 5) .nil))) (.cons (.cst (.int 1)) .nil))) (.cons (.ap .min2 (.cons (.cst (.int 3)) (.cons (.ap .sub (.cons (.ap .sub (.cons (.var 2) (.cons (.var 5) .nil))) (.cons (.cst (.int 1)) .nil))) .nil))) .nil))) (.cons (.call 10 (.cons (.var 0) (.cons (.cst (.int 2)) .nil))) .nil))) .nil))) .nil)))) (.cons (.ite (.ap .lt (.cons (.ap .len (.cons (.var 3) .nil)) (.cons (.cst (.int 149)) .nil))) (.cons (.asg (.one 3) (.fze (.ap .add (.cons (.var 3) (.cons (.ap .mul (.cons (.lst (.cons (.tup (.cons (.var 5) (.cons (.var 6) .nil))) .nil)) (.cons (.ap .add (.cons (.cst (.int 1)) (.cons (.ap .int (.cons (.ap .eq (.cons (.call 10 (.cons (.var 0) (.cons (.cst (.int 6)) .nil))) (.cons (.cst (.int 0)) .nil))) .nil)) .nil))) .nil))) .nil))))) .nil) .nil) .nil)))
def i12_0 : Es := (.cons (.ap .eq (.cons (.call 10 (.cons (.var 0) (.cons (.ap .idx (.cons (.tup (.cons (.cst (.int 5)) (.cons (.cst (.int 25)) .nil))) (.cons (.ap .int (.cons (.var 1) .nil)) .nil))) .nil))) (.cons (.cst (.int 0)) .nil))) .nil)
def e12_0 : E := (.var 9)
theorem ui12_0 : Es.pu i12_0 = false := rfl
theorem ue12_0 : E.pu e12_0 = true := rfl
theorem pe12_0 : E.pth e12_0 = true := rfl
def i12_1 : Es := .nil
def e12_1 : E := (.call 10 (.cons (.var 0) (.cons (.ap .idx (.cons (.tup (.cons (.cst (.int 3)) (.cons (.cst (.int 2)) (.cons (.cst (.int 5)) .nil)))) (.cons (.call 10 (.cons (.var 0) (.cons (.cst (.int 3)) .nil))) .nil))) .nil)))
theorem ui12_1 : Es.pu i12_1 = true := rfl
theorem ue12_1 : E.pu e12_1 = false := rfl
theorem pe12_1 : E.pth e12_1 = false := rfl
def l12_1 : Ss := (.cons (.sto (.var 8) (.var 9) (.cst (.int 0))) .nil)
def d12 : Ss := (.cons (.asg (.one 2) (.ap .add (.cons (.cst (.int 2)) (.cons (.call 10 (.cons (.var 0) (.cons (.ap .idx (.cons (.tup (.cons (.cst (.int 6)) (.cons (.cst (.int 59)) .nil))) (.cons (.ap .int (.cons (.var 1) .nil)) .nil))) .nil))) .nil)))) (.cons (.asg (.one 3) (.fze (.lst .nil))) (.cons (.for (.one 4) (.rng1 (.ap .idx (.cons (.tup (.cons (.call 10 (.cons (.var 0) (.cons (.cst (.int 10)) .nil))) (.cons (.ap .add (.cons (.cst (.int 60)) (.cons (.call 10 (.cons (.var 0) (.cons (.cst (.int 91)) .nil))) .nil))) .nil))) (.cons (.ap .int (.cons (.var 1) .nil)) .nil)))) l12_0) (.cons (.asg (.one 7) (.fze (.lc [9] (.one 9) (.rng2 (.cst (.int 1)) (.var 2)) i12_0 e12_0))) (.cons (.ite (.ap .eq (.cons (.var 7) (.cons (.lst .nil) .nil))) (.cons (.asg (.one 7) (.fze (.lst (.cons (.ap .add (.cons (.cst (.int 1)) (.cons (.call 10 (.cons (.var 0) (.cons (.ap .sub (.cons (.var 2) (.cons (.cst (.int 1)) .nil))) .nil))) .nil))) .nil)))) .nil) .nil) (.cons (.asg (.one 8) (.lc [9] (.one 9) (.rng1 (.var 2)) i12_1 e12_1)) (.cons (.sto (.var 8) (.cst (.int 0)) (.ap .idx (.cons (.tup (.cons (.call 10 (.cons (.var 0) (.cons (.cst (.int 4)) .nil))) (.cons (.ap .add (.cons (.var 2) (.cons (.call 10 (.cons (.var 0) (.cons (.cst (.int 30)) .nil))) .nil))) (.cons (.cst (.int 99)) .nil)))) (.cons (.ap .max2 (.cons (.call 10 (.cons (.var 0) (.cons (.cst (.int 3)) .nil))) (.cons (.ap .mul (.cons (.cst (.int 2)) (.cons (.ap .int (.cons (.var 1) .nil)) .nil))) .nil))) .nil)))) (.cons (.for (.one 9) (.seq (.var 7)) l12_1) (.cons (.ret (.tup (.cons (.ap .tuple (.cons (.var 8) .nil)) (.cons (.ap .tuple (.cons (.ap .sorted (.cons (.var 3) .nil)) .nil)) (.cons (.ap .tuple (.cons (.var 7) .nil)) .nil))))) .nil)))))))))
theorem bd12 : f12.body = d12 := rfl
def l13_0 : Ss := (.cons (.ite (.ap .nin (.cons (.var 8) (.cons (.var 5) .nil))) (.cons (.exp (.mm .append (.var 5) (.cons (.var 8) .nil))) (.cons (.asg (.one 6) (.ap .add (.cons (.var 6) (.cons (.pidx (.var 2) (.var 8)) .nil)))) .nil)) .nil) .nil)
def l13_1 : Ss := (.cons (.asg (.one 6) (.ap .sub (.cons (.var 6) (.cons (.cst (.int 1)) .nil)))) (.cons (.for (.one 8) (.seq (.pidx (.var 3) (.var 7))) l13_0) .nil))
def i13_0 : Es := (.cons (.ap .inn (.cons (.var 8) (.cons (.var 4) .nil))) .nil)
def e13_0 : E := (.var 8)
theorem ui13_0 : Es.pu i13_0 = true := rfl
theorem ue13_0 : E.pu e13_0 = true := rfl
theorem pe13_0 : E.pth e13_0 = true := rfl
def i13_1 : Es := (.cons (.and (.ap .nin (.cons (.var 7) (.cons (.var 1) .nil))) (.or (.ap .inn (.cons (.pidx (.pidx (.var 3) (.var 7)) (.cst (.int 0))) (.cons (.var 5) .nil))) (.ap .inn (.cons (.pidx (.pidx (.var 3) (.var 7)) (.cst (.int 1))) (.cons (.var 5) .nil))))) .nil)
def e13_1 : E := (.var 7)
theorem ui13_1 : Es.pu i13_1 = true := rfl
theorem ue13_1 : E.pu e13_1 = true := rfl
theorem pe13_1 : E.pth e13_1 = true := rfl
def d13 : Ss := (.cons (.asg (.tup [(.one 2), (.one 3), (.one 4)]) (.var 0)) (.cons (.asg (.one 5) (.lst (.cons (.cst (.int 0)) .nil))) (.cons (.asg (.one 6) (.pidx (.var 2) (.cst (.int 0)))) (.cons (.forL (.one 7) 1 l13_1) (.cons (.ite (.or (.ap .lt (.cons (.var 6) (.cons (.cst (.int 1)) .nil))) (.ap .ne (.cons (.lc [8] (.one 8) (.seq (.frz 5)) i13_0 e13_0) (.cons (.lst .nil) .nil)))) (.cons (.ret (.fze (.lst .nil))) .nil) .nil) (.cons (.ret (.fze (.lc [7] (.one 7) (.rng1 (.ap .len (.cons (.var 3) .nil))) i13_1 e13_1))) .nil))))))
theorem bd13 : f13.body = d13 := rfl
def i14_0 : Es := (.cons (.and (.ap .nin (.cons (.pidx (.pidx (.pidx (.var 1) (.cst (.int 1))) (.var 8)) (.cst (.int 0))) (.cons (.pidx (.var 1) (.cst (.int 2))) .nil))) (.ap .nin (.cons (.pidx (.pidx (.pidx (.var 1) (.cst (.int 1))) (.var 8)) (.cst (.int 1))) (.cons (.pidx (.var 1) (.cst (.int 2))) .nil)))) .nil)
def e14_0 : E := (.var 8)
theorem ui14_0 : Es.pu i14_0 = true := rfl
theorem ue14_0 : E.pu e14_0 = true := rfl
theorem pe14_0 : E.pth e14_0 = true := rfl
def l14_0 : Ss := (.cons (.asg (.one 6) (.call 13 (.cons (.var 1) (.cons (.var 4) .nil)))) (.cons (.ite (.ap .eq (.cons (.var 6) (.cons (.lst .nil) .nil))) (.cons .brk .nil) .nil) (.cons (.asg (.one 7) (.fze (.lc [8] (.one 8) (.seq (.var 6)) i14_0 e14_0))) (.cons (.ite (.and (.var 3) (.ap .ne (.cons (.var 7) (.cons (.lst .nil) .nil)))) (.cons (.asg (.one 6) (.fze (.mov 7))) .nil) .nil) (.cons (.exp (.mm .append (.var 4) (.cons (.pidx (.var 6) (.call 10 (.cons (.var 0) (.cons (.ap .len (.cons (.var 6) .nil)) .nil)))) .nil))) .nil)))))
def d14 : Ss := (.cons (.asg (.one 4) (.lst .nil)) (.cons (.for (.one 5) (.rng1 (.var 2)) l14_0) (.cons (.ret (.ap .tuple (.cons (.var 4) .nil))) .nil)))
theorem bd14 : f14.body = d14 := rfl
def l15_0 : Ss := (.cons (.ite (.ap .nin (.cons (.var 12) (.cons (.var 5) .nil))) (.cons (.exp (.mm .append (.var 5) (.cons (.var 12) .nil))) (.cons (.asg (.one 6) (.ap .add (.cons (.var 6) (.cons (.pidx (.var 2) (.var 12)) .nil)))) (.cons (.asg (.one 7) (.or (.var 7) (.ap .inn (.cons (.var 12) (.cons (.var 4) .nil))))) .nil))) .nil) .nil)
def l15_1 : Ss := (.cons (.asg (.one 9) (.pidx (.var 1) (.var 8))) (.cons (.ite (.or (.ap (.isi .bool) (.cons (.var 9) .nil)) (.or (.not (.ap (.isi .int) (.cons (.var 9) .nil))) (.or (.ap .lt (.cons (.var 9) (.cons (.cst (.int 0)) .nil))) (.ap .ge (.cons (.var 9) (.cons (.ap .len (.cons (.var 3) .nil)) .nil)))))) (.cons (.ret (.tup (.cons (.cst (.str "raised")) (.cons (.var 8) (.cons (.cst (.str "door")) .nil))))) .nil) .nil) (.cons (.ite (.ap .inn (.cons (.var 9) (.cons (.ap (.slc false true) (.cons (.var 1) (.cons (.var 8) .nil))) .nil))) (.cons (.ret (.tup (.cons (.cst (.str "raised")) (.cons (.var 8) (.cons (.cst (.str "again")) .nil))))) .nil) .nil) (.cons (.ite (.var 7) (.cons (.ret (.tup (.cons (.cst (.str "raised")) (.cons (.var 8) (.cons (.cst (.str "ended")) .nil))))) .nil) .nil) (.cons (.asg (.tup [(.one 10), (.one 11)]) (.pidx (.var 3) (.var 9))) (.cons (.ite (.and (.ap .nin (.cons (.var 10) (.cons (.var 5) .nil))) (.ap .nin (.cons (.var 11) (.cons (.var 5) .nil)))) (.cons (.ret (.tup (.cons (.cst (.str "raised")) (.cons (.var 8) (.cons (.cst (.str "far")) .nil))))) .nil) .nil) (.cons (.ite (.ap .lt (.cons (.var 6) (.cons (.cst (.int 1)) .nil))) (.cons (.ret (.tup (.cons (.cst (.str "raised")) (.cons (.var 8) (.cons (.cst (.str "key")) .nil))))) .nil) .nil) (.cons (.asg (.one 6) (.ap .sub (.cons (.var 6) (.cons (.cst (.int 1)) .nil)))) (.cons (.for (.one 12) (.seq (.tup (.cons (.var 10) (.cons (.var 11) .nil)))) l15_0) .nil)))))))))
def d15 : Ss := (.cons (.asg (.tup [(.one 2), (.one 3), (.one 4)]) (.var 0)) (.cons (.ite (.not (.ap (.isi .tup) (.cons (.var 1) .nil))) (.cons (.ret (.tup (.cons (.cst (.str "raised")) (.cons (.ap .neg (.cons (.cst (.int 1)) .nil)) (.cons (.cst (.str "shape")) .nil))))) .nil) .nil) (.cons (.asg (.one 5) (.lst (.cons (.cst (.int 0)) .nil))) (.cons (.asg (.one 6) (.pidx (.var 2) (.cst (.int 0)))) (.cons (.asg (.one 7) (.cst (.bl false))) (.cons (.for (.one 8) (.rng1 (.ap .len (.cons (.var 1) .nil))) l15_1) (.cons (.ret (.tup (.cons (.cst (.str "told")) (.cons (.var 6) .nil)))) .nil)))))))
theorem bd15 : f15.body = d15 := rfl
def i16_0 : Es := .nil
def e16_0 : E := (.call 10 (.cons (.var 0) (.cons (.ap .add (.cons (.var 3) (.cons (.cst (.int 1)) .nil))) .nil)))
theorem ui16_0 : Es.pu i16_0 = true := rfl
theorem ue16_0 : E.pu e16_0 = false := rfl
theorem pe16_0 : E.pth e16_0 = false := rfl
def d16 : Ss := (.cons (.asg (.one 3) (.ap .len (.cons (.pidx (.var 1) (.cst (.int 1))) .nil))) (.cons (.asg (.one 4) (.call 10 (.cons (.var 0) (.cons (.ap .len (.cons (.var 2) .nil)) .nil)))) (.cons (.asg (.one 5) (.call 10 (.cons (.var 0) (.cons (.cst (.int 9)) .nil)))) (.cons (.ite (.and (.ap .lt (.cons (.var 5) (.cons (.cst (.int 2)) .nil))) (.ap .ne (.cons (.var 2) (.cons (.tup .nil) .nil)))) (.cons (.asg (.one 6) (.tup (.cons (.var 3) (.cons (.ap .neg (.cons (.cst (.int 1)) .nil)) (.cons (.ap .eq (.cons (.pidx (.var 2) (.var 4)) (.cons (.cst (.int 1)) .nil))) (.cons (.cst .non) (.cons (.ap .str (.cons (.pidx (.var 2) (.var 4)) .nil)) (.cons (.tup (.cons (.pidx (.var 2) (.var 4)) .nil)) (.cons (.ap .pow (.cons (.cst (.int 10)) (.cons (.cst (.int 40)) .nil))) (.cons (.ap .sub (.cons (.pidx (.var 2) (.var 4)) (.cons (.var 3) .nil))) (.cons (.cst (.bl true)) .nil))))))))))) (.cons (.ret (.ap .add (.cons (.ap .add (.cons (.ap (.slc false true) (.cons (.var 2) (.cons (.var 4) .nil))) (.cons (.tup (.cons (.pidx (.var 6) (.call 10 (.cons (.var 0) (.cons (.cst (.int 9)) .nil)))) .nil)) .nil))) (.cons (.ap (.slc true false) (.cons (.var 2) (.cons (.ap .add (.cons (.var 4) (.cons (.cst (.int 1)) .nil))) .nil))) .nil)))) .nil)) .nil) (.cons (.ite (.ap .eq (.cons (.var 5) (.cons (.cst (.int 2)) .nil))) (.cons (.ret (.ap .add (.cons (.ap .add (.cons (.ap (.slc false true) (.cons (.var 2) (.cons (.var 4) .nil))) (.cons (.tup (.cons (.call 10 (.cons (.var 0) (.cons (.ap .add (.cons (.var 3) (.cons (.cst (.int 1)) .nil))) .nil))) .nil)) .nil))) (.cons (.ap (.slc true false) (.cons (.var 2) (.cons (.var 4) .nil))) .nil)))) .nil) .nil) (.cons (.ite (.and (.ap .eq (.cons (.var 5) (.cons (.cst (.int 3)) .nil))) (.ap .ne (.cons (.var 2) (.cons (.tup .nil) .nil)))) (.cons (.ret (.ap .add (.cons (.ap .add (.cons (.ap (.slc false true) (.cons (.var 2) (.cons (.var 4) .nil))) (.cons (.tup (.cons (.call 10 (.cons (.var 0) (.cons (.ap .add (.cons (.var 3) (.cons (.cst (.int 1)) .nil))) .nil))) .nil)) .nil))) (.cons (.ap (.slc true false) (.cons (.var 2) (.cons (.ap .add (.cons (.var 4) (.cons (.cst (.int 1)) .nil))) .nil))) .nil)))) .nil) .nil) (.cons (.ite (.ap .eq (.cons (.var 5) (.cons (.cst (.int 4)) .nil))) (.cons (.ret (.ap .add (.cons (.ap .add (.cons (.var 2) (.cons (.ap (.slc true true) (.cons (.var 2) (.cons (.var 4) (.cons (.ap .add (.cons (.var 4) (.cons (.cst (.int 1)) .nil))) .nil)))) .nil))) (.cons (.tup (.cons (.call 10 (.cons (.var 0) (.cons (.ap .add (.cons (.var 3) (.cons (.cst (.int 1)) .nil))) .nil))) .nil)) .nil)))) .nil) .nil) (.cons (.ite (.ap .eq (.cons (.var 5) (.cons (.cst (.int 5)) .nil))) (.cons (.ret (.ap .add (.cons (.ap (.slc false true) (.cons (.var 2) (.cons (.var 4) .nil))) (.cons (.ap (.slc true false) (.cons (.var 2) (.cons (.ap .add (.cons (.var 4) (.cons (.cst (.int 1)) .nil))) .nil))) .nil)))) .nil) .nil) (.cons (.ite (.ap .eq (.cons (.var 5) (.cons (.cst (.int 6)) .nil))) (.cons (.ret (.ap .rev (.cons (.var 2) .nil))) .nil) .nil) (.cons (.ite (.ap .eq (.cons (.var 5) (.cons (.cst (.int 7)) .nil))) (.cons (.ret (.ap .idx (.cons (.fze (.tup (.cons (.fze (.ap .list (.cons (.var 2) .nil))) (.cons (.cst .non) (.cons (.cst (.int 0)) (.cons (.cst (.str "")) (.cons (.fze (.lst .nil)) (.cons (.tup .nil) (.cons (.tup (.cons (.var 2) .nil)) (.cons (.cst (.str "walk")) (.cons (.cst (.bl true)) .nil))))))))))) (.cons (.call 10 (.cons (.var 0) (.cons (.cst (.int 9)) .nil))) .nil)))) .nil) .nil) (.cons (.ret (.ap .add (.cons (.var 2) (.cons (.ap .tuple (.cons (.lc [7] (.one 7) (.rng1 (.cst (.int 3))) i16_0 e16_0) .nil)) .nil)))) .nil)))))))))))
theorem bd16 : f16.body = d16 := rfl
def d17 : Ss := (.cons (.asg (.one 2) (.call 15 (.cons (.var 0) (.cons (.var 1) .nil)))) (.cons (.ite (.not (.call 11 (.cons (.call 8 (.cons (.var 0) (.cons (.var 1) .nil))) (.cons (.ap .eq (.cons (.pidx (.var 2) (.cst (.int 0))) (.cons (.cst (.str "told")) .nil))) .nil)))) (.cons (.ret (.cst (.bl false))) .nil) .nil) (.cons (.tri (.cons (.ret (.call 11 (.cons (.tup (.cons (.cst (.str "told")) (.cons (.call 7 (.cons (.var 0) (.cons (.var 1) .nil))) .nil))) (.cons (.var 2) .nil)))) .nil) [(3 , [0] , (.call 11 [(.cst (.str "raised")), (.fld 0), (.fld 1)] [2])), (0 , [0] , (.one (.cst (.bl false))))]) .nil)))
theorem bd17 : f17.body = d17 := rfl
def l18_0 : Ss := (.cons (.ite (.ap (.isi .tup) (.cons (.var 7) .nil)) (.cons (.asg (.one 7) (.tup (.cons (.cst (.str "raised")) (.cons (.pidx (.var 7) (.cst (.int 1))) (.cons (.pidx (.var 7) (.cst (.int 0))) .nil))))) .nil) (.cons (.asg (.one 7) (.tup (.cons (.cst (.str "told")) (.cons (.var 7) .nil)))) .nil)) (.cons (.ite (.or (.not (.call 11 (.cons (.call 15 (.cons (.var 5) (.cons (.var 6) .nil))) (.cons (.var 7) .nil)))) (.not (.call 17 (.cons (.var 5) (.cons (.var 6) .nil))))) (.cons (.ret (.cst (.bl false))) .nil) .nil) .nil))
def d18 : Ss := (.cons (.asg (.one 1) (.call 10 (.cons (.var 0) (.cons (.cst (.int 90)) .nil)))) (.cons (.asg (.one 2) (.tup (.cons (.tup (.cons (.ap .add (.cons (.cst (.int 2)) (.cons (.var 1) .nil))) (.cons (.cst (.int 0)) (.cons (.cst (.int 1)) (.cons (.cst (.int 0)) (.cons (.cst (.int 5)) (.cons (.cst (.int 0)) .nil))))))) (.cons (.tup (.cons (.tup (.cons (.cst (.int 0)) (.cons (.cst (.int 1)) .nil))) (.cons (.tup (.cons (.cst (.int 0)) (.cons (.cst (.int 2)) .nil))) (.cons (.tup (.cons (.cst (.int 1)) (.cons (.cst (.int 2)) .nil))) (.cons (.tup (.cons (.cst (.int 2)) (.cons (.cst (.int 3)) .nil))) (.cons (.tup (.cons (.cst (.int 2)) (.cons (.cst (.int 3)) .nil))) (.cons (.tup (.cons (.cst (.int 4)) (.cons (.cst (.int 5)) .nil))) .nil))))))) (.cons (.tup (.cons (.cst (.int 3)) .nil)) .nil))))) (.cons (.asg (.one 3) (.tup (.cons (.tup (.cons (.cst (.int 1)) (.cons (.cst (.int 0)) (.cons (.cst (.int 0)) (.cons (.cst (.int 0)) .nil))))) (.cons (.tup (.cons (.tup (.cons (.cst (.int 0)) (.cons (.cst (.int 1)) .nil))) (.cons (.tup (.cons (.cst (.int 0)) (.cons (.cst (.int 1)) .nil))) (.cons (.tup (.cons (.cst (.int 1)) (.cons (.cst (.int 2)) .nil))) (.cons (.tup (.cons (.cst (.int 2)) (.cons (.cst (.int 3)) .nil))) .nil))))) (.cons (.tup (.cons (.cst (.int 3)) .nil)) .nil))))) (.cons (.asg (.one 4) (.fze (.lst (.cons (.tup (.cons (.var 2) (.cons (.tup (.cons (.cst (.int 0)) (.cons (.cst (.int 1)) (.cons (.cst (.int 2)) .nil)))) (.cons (.var 1) .nil)))) (.cons (.tup (.cons (.var 2) (.cons (.tup (.cons (.cst (.int 1)) (.cons (.cst (.int 4)) .nil))) (.cons (.ap .add (.cons (.cst (.int 1)) (.cons (.var 1) .nil))) .nil)))) (.cons (.tup (.cons (.var 2) (.cons (.tup (.cons (.cst (.int 1)) (.cons (.cst (.int 3)) (.cons (.cst (.int 2)) .nil)))) (.cons (.tup (.cons (.cst (.str "ended")) (.cons (.cst (.int 2)) .nil))) .nil)))) (.cons (.tup (.cons (.var 2) (.cons (.tup (.cons (.cst (.int 1)) (.cons (.cst (.int 3)) (.cons (.cst (.int 1)) .nil)))) (.cons (.tup (.cons (.cst (.str "again")) (.cons (.cst (.int 2)) .nil))) .nil)))) (.cons (.tup (.cons (.var 2) (.cons (.tup (.cons (.cst (.int 1)) (.cons (.cst (.int 3)) (.cons (.cst (.int 5)) .nil)))) (.cons (.tup (.cons (.cst (.str "ended")) (.cons (.cst (.int 2)) .nil))) .nil)))) .nil)))))))) (.cons (.asg (.one 4) (.fze (.ap .add (.cons (.var 4) (.cons (.lst (.cons (.tup (.cons (.var 2) (.cons (.tup (.cons (.cst (.int 5)) .nil)) (.cons (.tup (.cons (.cst (.str "far")) (.cons (.cst (.int 0)) .nil))) .nil)))) (.cons (.tup (.cons (.var 2) (.cons (.tup (.cons (.cst (.int 0)) (.cons (.cst (.int 1)) (.cons (.cst (.int 2)) (.cons (.cst (.int 0)) .nil))))) (.cons (.tup (.cons (.cst (.str "again")) (.cons (.cst (.int 3)) .nil))) .nil)))) (.cons (.tup (.cons (.var 2) (.cons (.tup (.cons (.cst (.int 0)) (.cons (.cst (.int 6)) .nil))) (.cons (.tup (.cons (.cst (.str "door")) (.cons (.cst (.int 1)) .nil))) .nil)))) (.cons (.tup (.cons (.var 2) (.cons (.tup (.cons (.cst (.int 1)) (.cons (.cst (.int 3)) (.cons (.cst (.int 6)) .nil)))) (.cons (.tup (.cons (.cst (.str "door")) (.cons (.cst (.int 2)) .nil))) .nil)))) (.cons (.tup (.cons (.var 2) (.cons (.tup (.cons (.cst (.int 0)) (.cons (.cst (.int 0)) (.cons (.cst (.bl true)) .nil)))) (.cons (.tup (.cons (.cst (.str "again")) (.cons (.cst (.int 1)) .nil))) .nil)))) .nil)))))) .nil))))) (.cons (.asg (.one 4) (.fze (.ap .add (.cons (.var 4) (.cons (.lst (.cons (.tup (.cons (.var 2) (.cons (.tup (.cons (.cst (.int 0)) (.cons (.cst (.bl true)) .nil))) (.cons (.tup (.cons (.cst (.str "door")) (.cons (.cst (.int 1)) .nil))) .nil)))) (.cons (.tup (.cons (.var 2) (.cons (.tup (.cons (.cst (.bl false)) .nil)) (.cons (.tup (.cons (.cst (.str "door")) (.cons (.cst (.int 0)) .nil))) .nil)))) (.cons (.tup (.cons (.var 3) (.cons (.tup (.cons (.cst (.int 0)) (.cons (.cst (.int 1)) .nil))) (.cons (.tup (.cons (.cst (.str "key")) (.cons (.cst (.int 1)) .nil))) .nil)))) (.cons (.tup (.cons (.var 3) (.cons (.tup (.cons (.cst (.int 0)) (.cons (.cst (.int 3)) .nil))) (.cons (.tup (.cons (.cst (.str "far")) (.cons (.cst (.int 1)) .nil))) .nil)))) (.cons (.tup (.cons (.var 3) (.cons (.tup (.cons (.cst (.int 0)) (.cons (.cst (.int 0)) .nil))) (.cons (.tup (.cons (.cst (.str "again")) (.cons (.cst (.int 1)) .nil))) .nil)))) .nil)))))) .nil))))) (.cons (.asg (.one 4) (.fze (.ap .add (.cons (.var 4) (.cons (.fze (.lst (.cons (.tup (.cons (.var 3) (.cons (.tup (.cons (.cst (.int 1)) .nil)) (.cons (.cst (.int 0)) .nil)))) (.cons (.tup (.cons (.var 3) (.cons (.tup .nil) (.cons (.cst (.int 1)) .nil)))) (.cons (.tup (.cons (.var 3) (.cons (.tup (.cons (.cst (.int 0)) (.cons (.cst (.int 2)) .nil))) (.cons (.tup (.cons (.cst (.str "key")) (.cons (.cst (.int 1)) .nil))) .nil)))) (.cons (.tup (.cons (.var 3) (.cons (.tup (.cons (.cst (.int 2)) .nil)) (.cons (.tup (.cons (.cst (.str "far")) (.cons (.cst (.int 0)) .nil))) .nil)))) (.cons (.tup (.cons (.var 3) (.cons (.lst (.cons (.cst (.int 0)) .nil)) (.cons (.tup (.cons (.cst (.str "shape")) (.cons (.ap .neg (.cons (.cst (.int 1)) .nil)) .nil))) .nil)))) (.cons (.tup (.cons (.var 3) (.cons (.tup (.cons (.cst (.int 0)) (.cons (.ap .neg (.cons (.cst (.int 1)) .nil)) .nil))) (.cons (.tup (.cons (.cst (.str "door")) (.cons (.cst (.int 1)) .nil))) .nil)))) .nil)))))))) .nil))))) (.cons (.for (.tup [(.one 5), (.one 6), (.one 7)]) (.seq (.var 4)) l18_0) (.cons (.ret (.cst (.bl true))) .nil)))))))))
theorem bd18 : f18.body = d18 := rfl
def i19_0 : Es := (.cons (.ap .nin (.cons (.var 9) (.cons (.ap (.slc false true) (.cons (.var 5) (.cons (.var 6) .nil))) .nil))) .nil)
def e19_0 : E := (.var 9)
theorem ui19_0 : Es.pu i19_0 = true := rfl
theorem ue19_0 : E.pu e19_0 = true := rfl
theorem pe19_0 : E.pth e19_0 = true := rfl
def l19_0 : Ss := (.cons (.asg (.one 7) (.ap .add (.cons (.ap (.slc false true) (.cons (.var 5) (.cons (.var 6) .nil))) (.cons (.ap .tuple (.cons (.ap (.slc false true) (.cons (.lc [9] (.one 9) (.rng1 (.ap .len (.cons (.pidx (.var 4) (.cst (.int 1))) .nil))) i19_0 e19_0) (.cons (.cst (.int 1)) .nil))) .nil)) .nil)))) (.cons (.ite (.or (.not (.call 17 (.cons (.var 4) (.cons (.ap (.slc false true) (.cons (.var 5) (.cons (.var 6) .nil))) .nil)))) (.or (.not (.call 17 (.cons (.var 4) (.cons (.var 7) .nil)))) (.not (.call 17 (.cons (.var 4) (.cons (.ap .add (.cons (.var 7) (.cons (.ap (.slc false true) (.cons (.var 5) (.cons (.cst (.int 1)) .nil))) .nil))) .nil)))))) (.cons (.ret (.cst (.bl false))) .nil) .nil) .nil))
def l19_1 : Ss := (.cons (.ite (.not (.call 17 (.cons (.var 4) (.cons (.call 16 (.cons (.var 1) (.cons (.var 4) (.cons (.var 5) .nil)))) .nil)))) (.cons (.ret (.cst (.bl false))) .nil) .nil) .nil)
def l19_2 : Ss := (.cons (.asg (.one 3) (.and (.ap .eq (.cons (.var 2) (.cons (.cst (.int 0)) .nil))) (.ap .eq (.cons (.call 10 (.cons (.var 1) (.cons (.cst (.int 7)) .nil))) (.cons (.cst (.int 3)) .nil))))) (.cons (.asg (.one 4) (.call 12 (.cons (.var 1) (.cons (.var 3) .nil)))) (.cons (.asg (.one 5) (.call 14 (.cons (.var 1) (.cons (.var 4) (.cons (.ap .idx (.cons (.tup (.cons (.cst (.int 3)) (.cons (.cst (.int 150)) .nil))) (.cons (.ap .max2 (.cons (.call 10 (.cons (.var 1) (.cons (.cst (.int 2)) .nil))) (.cons (.ap .int (.cons (.var 3) .nil)) .nil))) .nil))) (.cons (.var 3) .nil)))))) (.cons (.ite (.or (.not (.call 17 (.cons (.var 4) (.cons (.var 5) .nil)))) (.or (.not (.call 17 (.cons (.var 4) (.cons (.ap .list (.cons (.var 5) .nil)) .nil)))) (.not (.call 17 (.cons (.var 4) (.cons (.ap .add (.cons (.var 5) (.cons (.tup (.cons (.ap .len (.cons (.pidx (.var 4) (.cst (.int 1))) .nil)) .nil)) .nil))) .nil)))))) (.cons (.ret (.cst (.bl false))) .nil) .nil) (.cons (.for (.one 6) (.seq (.tup (.cons (.ap .fdiv (.cons (.ap .len (.cons (.var 5) .nil)) (.cons (.cst (.int 2)) .nil))) (.cons (.ap .len (.cons (.var 5) .nil)) .nil)))) l19_0) (.cons (.for (.one 8) (.rng1 (.cst (.int 4))) l19_1) .nil))))))
def d19 : Ss := (.cons (.asg (.one 1) (.call 9 (.cons (.var 0) .nil))) (.cons (.ite (.not (.call 18 (.cons (.var 1) .nil))) (.cons (.ret (.cst (.bl false))) .nil) .nil) (.cons (.for (.one 2) (.rng1 (.cst (.int 4))) l19_2) (.cons (.ret (.cst (.bl true))) .nil))))
theorem bd19 : f19.body = d19 := rfl
def Purse (s : Z.D) : Prop := ∃ (a b : Int) (cs : List Int), s = .lst true [.int a, .int b, .lst false (cs.map .int)] ∧ 0 < cs.length ∧ cs.length ≤ 100
theorem Purse.imm {s : Z.D} (h : Purse s) : Z.imm s = false := by obtain ⟨a, b, cs, rfl, _⟩ := h; simp [Z.imm]
theorem c10 {k : Nat} {s : Z.D} (h : Purse s) (many : Int) : ∃ r s', callN fs (k + 1) 10 [s, .int many] = .ok (.int r) [some s', some (.int many)] ∧ Purse s' ∧ 0 ≤ r ∧ (r < many ∨ r = 0) := by
  obtain ⟨a, b, cs, rfl, h0, h1⟩ := h
  obtain ⟨q, hq⟩ : ∃ q, q = (a + 1) % (cs.length : Int) := ⟨_, rfl⟩
  have g0 : 0 ≤ q := by rw [hq]; exact Int.emod_nonneg _ (by omega)
  have g1 : q < cs.length := by rw [hq]; exact Int.emod_lt_of_pos _ (by omega)
  obtain ⟨c, _, hc'⟩ := atI_ints (ps := cs) g0 g1
  have m1 : mulOk b 4243 = true := by simp [mulOk]
  have m2 : mulOk c 131 = true := by simp [mulOk]
  have m3 : mulOk (a + 1) 73 = true := by simp [mulOk]
  have lg : (Nat.log2 15 ≤ 8999) = True := by decide
  obtain ⟨C, hc, hk, hr⟩ := enter (fs := fs) (f := f10) (k := k) (i := 10) (ds := [.lst true [.int a, .int b, .lst false (cs.map .int)], .int many]) rfl rfl
  rw [hr, bd10]
  obtain ⟨m, hm, hm0, hm1⟩ : ∃ m : Int, (if 1 < many then many else 1) = m ∧ 0 < m ∧ (m = many ∨ m = 1) := ⟨_, rfl, by split <;> omega, by split <;> simp⟩
  have r0 := Int.emod_nonneg (((b * 4243 + c * 131 + (a + 1) * 73 + 75) % 100207) / 15) (show m ≠ 0 by omega)
  have r1 := Int.emod_lt_of_pos (((b * 4243 + c * 131 + (a + 1) * 73 + 75) % 100207) / 15) hm0
  refine ⟨((b * 4243 + c * 131 + (a + 1) * 73 + 75) % 100207) / 15 % m, .lst true [.int (a + 1), .int ((b * 4243 + c * 131 + (a + 1) * 73 + 75) % 100207), .lst false (cs.map .int)], ?_, ⟨_, _, cs, rfl, h0, h1⟩, r0, ?_⟩
  · simp [f10, d10, Fd.run, evSs, evS, evT, evE, evEs, evOs, evCs, evP, evI, evIf, PF.ap, opIdx, opLen, opMod, opAdd, opSum, opLt, opGt, opLe, stepD, getK, setD, putKs, setP, nodeAt, mmTy, mmAp, truth, E.pth, E.pu, Es.pu, imm, imms, fz, fzs, bind_one, bind_tup2, bind_tup3, bind_tup4, Tg.free, Tg.frees, Fd.kp, Fd.out, Fd.fin, finE, giveBack, wipeE, backE, seqOf, lcLoop, forLoop, lim, ix0, ix1, ix2, ix3, in0, in1, in2, dInts, imms_ints, imms_pairs, fzs_ints, fzs_pairs, fzs_app, imms_app, dInts_ints, in_lst, in_tup, dEq_int, opMul, opDiv, hk, h0, ← hq, hc', m1, m2, m3, lg, hm, hm0]
  · rcases hm1 with rfl | rfl
    · exact .inl r1
    · right; omega
theorem cut_take {α : Type} {l : List α} {i : Int} (h0 : 0 ≤ i) : cutL l none (some i) = l.take i.toNat := by
  have h2 : ¬ i < 0 := by omega
  rcases Int.lt_or_le (l.length : Int) i with h | h
  · have h3 : min i.toNat l.length = l.length := by omega
    simp only [cutL, HT.sIx, h2, if_false, h3, Nat.sub_zero, List.drop_zero]
    rw [List.take_of_length_le (Nat.le_refl _), List.take_of_length_le (by omega)]
  · have h3 : min i.toNat l.length = i.toNat := by omega
    simp [cutL, HT.sIx, h2, h3]
theorem c9_step {C : Z.Ctx} (hk : C.kp = f9.kp) {x y : Int} {s cl : Option Z.D} : evSs C l9_0 [s, cl, some (.int x), some (.int y)] = .next [s, cl, some (.int ((x * 5849 + y * 1511 + 47) % 100207)), some (.int y)] := by
  have m1 : mulOk x 5849 = true := by simp [mulOk]
  have m2 : mulOk y 1511 = true := by simp [mulOk]
  simp [f9, l9_0, Fd.run, evSs, evS, evT, evE, evEs, evOs, evCs, evP, evI, evIf, PF.ap, opIdx, opLen, opMod, opAdd, opSum, opLt, opGt, opLe, stepD, getK, setD, putKs, setP, nodeAt, mmTy, mmAp, truth, E.pth, E.pu, Es.pu, imm, imms, fz, fzs, bind_one, bind_tup2, bind_tup3, bind_tup4, Tg.free, Tg.frees, Fd.kp, Fd.out, Fd.fin, finE, giveBack, wipeE, backE, seqOf, lcLoop, forLoop, lim, ix0, ix1, ix2, ix3, in0, in1, in2, dInts, imms_ints, imms_pairs, fzs_ints, fzs_pairs, fzs_app, imms_app, dInts_ints, in_lst, in_tup, dEq_int, opMul, hk, m1, m2]
theorem c9 {k : Nat} {ns : List Int} (hn : ns.length ≤ 63) : ∃ s, callN fs (k + 1) 9 [.scr ns] = .ok s [some (.scr ns)] ∧ Purse s := by
  obtain ⟨C, hc, hk, hr⟩ := enter (fs := fs) (f := f9) (k := k) (i := 9) (ds := [.scr ns]) rfl rfl
  rw [hr, bd9]
  have hcut := cut_take (l := ns.map Z.D.int) (i := 50) (by omega)
  rw [← List.map_take] at hcut
  obtain ⟨ms, hms⟩ : ∃ ms, ms = ns.take (50 : Int).toNat := ⟨_, rfl⟩
  rw [← hms] at hcut
  have hml : ms.length ≤ 50 := by rw [hms]; simp; omega
  have hlc := lc_mapA (own := [3]) (t := .one 3) (ifs := evIf C i9_0) (el := evE C e9_0) (pth := false) (e := [some (.scr ns), none, none, none])
    Z.D.int (fun x => .int (x % 100207)) ms (by
      intro x _
      exact ⟨[some (.scr ns), none, none, some (.int x)], _, _, by simp [Fd.run, evSs, evS, evT, evE, evEs, evOs, evCs, evP, evI, evIf, PF.ap, opIdx, opLen, opMod, opAdd, opSum, opLt, opGt, opLe, stepD, getK, setD, putKs, setP, nodeAt, mmTy, mmAp, truth, E.pth, E.pu, Es.pu, imm, imms, fz, fzs, bind_one, bind_tup2, bind_tup3, bind_tup4, Tg.free, Tg.frees, Fd.kp, Fd.out, Fd.fin, finE, giveBack, wipeE, backE, seqOf, lcLoop, forLoop, lim, ix0, ix1, ix2, ix3, in0, in1, in2, dInts, imms_ints, imms_pairs, fzs_ints, fzs_pairs, fzs_app, imms_app, dInts_ints, in_lst, in_tup, dEq_int], by simp [i9_0, Fd.run, evSs, evS, evT, evE, evEs, evOs, evCs, evP, evI, evIf, PF.ap, opIdx, opLen, opMod, opAdd, opSum, opLt, opGt, opLe, stepD, getK, setD, putKs, setP, nodeAt, mmTy, mmAp, truth, E.pth, E.pu, Es.pu, imm, imms, fz, fzs, bind_one, bind_tup2, bind_tup3, bind_tup4, Tg.free, Tg.frees, Fd.kp, Fd.out, Fd.fin, finE, giveBack, wipeE, backE, seqOf, lcLoop, forLoop, lim, ix0, ix1, ix2, ix3, in0, in1, in2, dInts, imms_ints, imms_pairs, fzs_ints, fzs_pairs, fzs_app, imms_app, dInts_ints, in_lst, in_tup, dEq_int]; rfl, by simp [e9_0, Fd.run, evSs, evS, evT, evE, evEs, evOs, evCs, evP, evI, evIf, PF.ap, opIdx, opLen, opMod, opAdd, opSum, opLt, opGt, opLe, stepD, getK, setD, putKs, setP, nodeAt, mmTy, mmAp, truth, E.pth, E.pu, Es.pu, imm, imms, fz, fzs, bind_one, bind_tup2, bind_tup3, bind_tup4, Tg.free, Tg.frees, Fd.kp, Fd.out, Fd.fin, finE, giveBack, wipeE, backE, seqOf, lcLoop, forLoop, lim, ix0, ix1, ix2, ix3, in0, in1, in2, dInts, imms_ints, imms_pairs, fzs_ints, fzs_pairs, fzs_app, imms_app, dInts_ints, in_lst, in_tup, dEq_int]; rfl, rfl, by simp [Fd.run, evSs, evS, evT, evE, evEs, evOs, evCs, evP, evI, evIf, PF.ap, opIdx, opLen, opMod, opAdd, opSum, opLt, opGt, opLe, stepD, getK, setD, putKs, setP, nodeAt, mmTy, mmAp, truth, E.pth, E.pu, Es.pu, imm, imms, fz, fzs, bind_one, bind_tup2, bind_tup3, bind_tup4, Tg.free, Tg.frees, Fd.kp, Fd.out, Fd.fin, finE, giveBack, wipeE, backE, seqOf, lcLoop, forLoop, lim, ix0, ix1, ix2, ix3, in0, in1, in2, dInts, imms_ints, imms_pairs, fzs_ints, fzs_pairs, fzs_app, imms_app, dInts_ints, in_lst, in_tup, dEq_int]⟩)
  rw [show (ms.map fun x => Z.D.int (x % 100207)) = (ms.map fun x => x % 100207).map .int by simp] at hlc
  have hml2 : (ms.map fun x : Int => x % 100207).length ≤ 50 := by simpa using hml
  obtain ⟨cs, hcs⟩ : ∃ cs, cs = (ms.map fun x : Int => x % 100207) := ⟨_, rfl⟩
  rw [← hcs] at hlc hml2
  obtain ⟨cc, hcc⟩ : ∃ cc, cc = cs ++ [61] := ⟨_, rfl⟩
  have hcl : cc.length = cs.length + 1 := by rw [hcc]; simp
  have e0 : cs.map Z.D.int ++ [Z.D.int 61] = cc.map .int := by rw [hcc]; simp
  obtain ⟨e', hf, x2, x3, rfl⟩ := for_pre (t := .one 3) (body := evSs C l9_0) Z.D.int
    (fun pre e => ∃ (x : Int) (x3 : Option Z.D), e = [some (.scr ns), some (.lst false (cc.map .int)), some (.int x), x3]) cc
    [some (.scr ns), some (.lst false (cc.map .int)), some (.int 83), none] (by
      rintro pre i post e hp ⟨x, x3, rfl⟩
      exact ⟨[some (.scr ns), some (.lst false (cc.map .int)), some (.int x), some (.int i)], _, by simp [Fd.run, evSs, evS, evT, evE, evEs, evOs, evCs, evP, evI, evIf, PF.ap, opIdx, opLen, opMod, opAdd, opSum, opLt, opGt, opLe, stepD, getK, setD, putKs, setP, nodeAt, mmTy, mmAp, truth, E.pth, E.pu, Es.pu, imm, imms, fz, fzs, bind_one, bind_tup2, bind_tup3, bind_tup4, Tg.free, Tg.frees, Fd.kp, Fd.out, Fd.fin, finE, giveBack, wipeE, backE, seqOf, lcLoop, forLoop, lim, ix0, ix1, ix2, ix3, in0, in1, in2, dInts, imms_ints, imms_pairs, fzs_ints, fzs_pairs, fzs_app, imms_app, dInts_ints, in_lst, in_tup, dEq_int], .inl (c9_step hk), _, _, rfl⟩) ⟨83, none, rfl⟩
  have l1 : ms.length ≤ 16777216 := by omega
  have l2 : cs.length < 16777216 := by omega
  have l3 : cs.length + 1 ≤ 16777216 := by omega
  refine ⟨.lst true [.int 0, .int x2, .lst false (cc.map .int)], ?_, ⟨0, x2, cc, rfl, by omega, by omega⟩⟩
  simp [f9, d9, Fd.run, evSs, evS, evT, evE, evEs, evOs, evCs, evP, evI, evIf, PF.ap, opLen, opMod, opAdd, opSum, opLt, opGt, opLe, stepD, getK, setD, putKs, setP, nodeAt, mmTy, mmAp, truth, E.pth, E.pu, Es.pu, imm, imms, fz, fzs, bind_one, bind_tup2, bind_tup3, bind_tup4, Tg.free, Tg.frees, Fd.kp, Fd.out, Fd.fin, finE, giveBack, wipeE, backE, seqOf, lim, ix0, ix1, ix2, ix3, in0, in1, in2, dInts, imms_ints, imms_pairs, fzs_ints, fzs_pairs, fzs_app, imms_app, dInts_ints, in_lst, in_tup, dEq_int, idx_tup, idx_lst, hD0, hD1, hD2, imm_hs, ui9_0, ue9_0, pe9_0, hk, opCut, hcut, l1, l2, l3, hlc, e0, fzs_ints, imms_ints, hf]

/-- a house as the law makes it -/
structure Ok2 (h : Hs) : Prop where
  ok : h.Ok
  kp : ∀ x ∈ h.ks, 0 ≤ x
  hl : ∀ x ∈ h.hs, 1 ≤ x
  hn : h.hs.length ≤ 200
theorem Ok2.key {h : Hs} (ok : Ok2 h) (r : Int) : 0 ≤ h.key r := by
  unfold Hs.key
  cases e : h.ks[r.toNat]? with
  | none => simp
  | some x => exact ok.kp x (List.mem_of_getElem? e)
theorem Ok2.gain {h : Hs} (ok : Ok2 h) (f : List Int) : 0 ≤ h.gain f := by
  unfold Hs.gain
  induction f with
  | nil => simp
  | cons r f ih => have := ok.key r; simp; omega
theorem c0 {k : Nat} {h : Hs} (ok : h.Ok) : callN fs (k + 1) 0 [h.D] = .ok (h.SD []) [some h.D] := by
  obtain ⟨C, hc, hk, hr⟩ := enter (fs := fs) (f := f0) (k := k) (i := 0) (ds := [h.D]) rfl rfl
  rw [hr, bd0]
  have e := at_key (h := h) (r := 0) (by omega) (by have := ok.k0; omega)
  simp [f0, d0, Fd.run, evSs, evS, evT, evE, evEs, evOs, evCs, evP, evI, evIf, PF.ap, opLen, opMod, opAdd, opSum, opLt, opGt, opLe, stepD, getK, setD, putKs, setP, nodeAt, mmTy, mmAp, truth, E.pth, E.pu, Es.pu, imm, imms, fz, fzs, bind_one, bind_tup2, bind_tup3, bind_tup4, Tg.free, Tg.frees, Fd.kp, Fd.out, Fd.fin, finE, giveBack, wipeE, backE, seqOf, lcLoop, forLoop, lim, ix0, ix1, ix2, ix3, in0, in1, in2, dInts, imms_ints, imms_pairs, fzs_ints, fzs_pairs, fzs_app, imms_app, dInts_ints, in_lst, in_tup, dEq_int, idx_tup, idx_lst, hD0, hD1, hD2, imm_hs, e, Hs.SD, run_nil, Hs.f0]
theorem c3 {k : Nat} {h : Hs} (ok : h.Ok) {W : List Int} (hW : W.length ≤ 1000) {d : Int} (hd : h.dr d) :
    callN fs (k + 1) 3 [h.D, h.SD W, .int d] = .ok (h.SD (W ++ [d])) [some h.D, some (h.SD W), some (.int d)] := by
  obtain ⟨C, hc, hk, hr⟩ := enter (fs := fs) (f := f3) (k := k) (i := 3) (ds := [h.D, h.SD W, .int d]) rfl rfl
  rw [hr, bd3]
  obtain ⟨p1, p2, p3⟩ := ok.pair hd
  have e := at_pair hd
  have ea := at_key (h := h) (r := (h.pair d).1) (by omega) (by omega)
  have eb := at_key (h := h) (r := (h.pair d).2) (by omega) (by omega)
  have l1 := R_len h W
  have l2 := dk_len h W
  have l3 := dd_imm h W
  have l4 := dd_fz h (W ++ [d])
  have l5 : (h.run W).R.length ≤ 16777216 := by omega
  have l6 : (h.run W).R.length ≤ 16777215 := by omega
  have l7 : (h.run W).R.length ≤ 16777214 := by omega
  have l8 : (h.run W).dk.length < 16777216 := by omega
  rw [run_snoc] at l4
  simp only [Hs.st] at l4
  by_cases ca : (h.pair d).1 ∈ (h.run W).R <;> by_cases cb : (h.pair d).2 ∈ (h.run W).R <;>
  simp [f3, d3, i3_0, e3_0, i3_1, e3_1, Fd.run, evSs, evS, evT, evE, evEs, evOs, evCs, evP, evI, evIf, PF.ap, opIdx, opLen, opMod, opAdd, opSum, opLt, opGt, opLe, stepD, getK, setD, putKs, setP, nodeAt, mmTy, mmAp, truth, E.pth, E.pu, Es.pu, imm, imms, fz, fzs, bind_one, bind_tup2, bind_tup3, bind_tup4, Tg.free, Tg.frees, Fd.kp, Fd.out, Fd.fin, finE, giveBack, wipeE, backE, seqOf, lcLoop, forLoop, lim, ix0, ix1, ix2, ix3, in0, in1, in2, dInts, imms_ints, imms_pairs, fzs_ints, fzs_pairs, fzs_app, imms_app, dInts_ints, in_lst, in_tup, dEq_int, Hs.D, pairD, hk, e, ea, eb, Hs.SD, run_snoc, Hs.st, fr, ca, cb, dKey, l3, l4, l5, l6, l7, l8, Hs.gain]
/-- is a hall reached? -/
def won (h : Hs) (W : List Int) : Bool := (h.run W).R.any fun r => decide (r ∈ h.hs)
theorem genAll_map {α : Type} {t : Tg} {e : E} {env : Z.Env} (f : α → Z.D) (b : α → Bool) : ∀ (xs : List α), (∀ x ∈ xs, ∃ e1, bindT t (f x) env = some e1 ∧ evQ e e1 = some (.bl (b x))) → genAll t e env (xs.map f) = some (xs.map b)
  | [], _ => rfl
  | x :: xs, h => by
    obtain ⟨e1, h1, h2⟩ := h x (by simp)
    simp only [List.map_cons, genAll, h1, h2, Option.bind_some, genAll_map f b xs fun y hy => h y (by simp [hy]), Option.map_some]
theorem c1 {k : Nat} {h : Hs} {W : List Int} : callN fs (k + 1) 1 [h.D, h.SD W] = .ok (.bl (won h W)) [some h.D, some (h.SD W)] := by
  obtain ⟨C, hc, hk, hr⟩ := enter (fs := fs) (f := f1) (k := k) (i := 1) (ds := [h.D, h.SD W]) rfl rfl
  rw [hr, bd1]
  obtain ⟨R, hR⟩ : ∃ R, R = (h.run W).R := ⟨_, rfl⟩
  have hg := genAll_map (t := .one 2) (e := .ap .inn (.cons (.var 2) (.cons (.pidx (.var 0) (.cst (.int 2))) .nil))) (env := [some h.D, some (h.SD W), none]) Z.D.int (fun r => decide (r ∈ h.hs)) R (fun x _ => ⟨[some h.D, some (h.SD W), some (.int x)], by simp [Fd.run, evSs, evS, evT, evE, evEs, evOs, evCs, evP, evI, evIf, PF.ap, opLen, opMod, opAdd, opSum, opLt, opGt, opLe, stepD, getK, setD, putKs, setP, nodeAt, mmTy, mmAp, truth, E.pth, E.pu, Es.pu, imm, imms, fz, fzs, bind_one, bind_tup2, bind_tup3, bind_tup4, Tg.free, Tg.frees, Fd.kp, Fd.out, Fd.fin, finE, giveBack, wipeE, backE, seqOf, lcLoop, forLoop, lim, ix0, ix1, ix2, ix3, in0, in1, in2, dInts, imms_ints, imms_pairs, fzs_ints, fzs_pairs, fzs_app, imms_app, dInts_ints, in_lst, in_tup, dEq_int, idx_tup, idx_lst, hD0, hD1, hD2, imm_hs], by simp [evQ, evQs, apQ, idxQ, Hs.D, ix2, in_tup]⟩)
  have hi : imms (R.map Z.D.int) = true := imms_ints
  have hx0 : opIdx (h.SD W) (.int 0) = some (.lst false (R.map .int)) := by rw [hR]; simp [Hs.SD, opIdx, ix0]
  simp [f1, d1, Fd.run, evSs, evS, evT, evE, evEs, evOs, evCs, evP, evI, evIf, PF.ap, opLen, opMod, opAdd, opSum, opLt, opGt, opLe, stepD, getK, setD, putKs, setP, nodeAt, mmTy, mmAp, truth, E.pth, E.pu, Es.pu, imm, imms, fz, fzs, bind_one, bind_tup2, bind_tup3, bind_tup4, Tg.free, Tg.frees, Fd.kp, Fd.out, Fd.fin, finE, giveBack, wipeE, backE, seqOf, lcLoop, forLoop, lim, ix0, ix1, ix2, ix3, in0, in1, in2, dInts, imms_ints, imms_pairs, fzs_ints, fzs_pairs, fzs_app, imms_app, dInts_ints, in_lst, in_tup, dEq_int, idx_tup, idx_lst, hD0, hD1, hD2, imm_hs, hx0, seqG, hi, hg, won, ← hR, List.any_map]
theorem kIx_none : ∀ {W : List Int} {d : Int}, d ∉ W → Z.kIx (W.map Sum.inl : List Key) (.inl d) = none
  | [], _, _ => rfl
  | x :: W, d, h => by
    have h1 : ¬ x = d := fun z => h (by simp [z])
    have h2 : d ∉ W := fun z => h (by simp [z])
    simp [Z.kIx, h1, kIx_none h2]
theorem look_keys : ∀ {W : List Int} {d : Int}, (Z.look (W.map Sum.inl : List Key) (W.map fun _ => Z.D.bl true) (.inl d)).isSome = decide (d ∈ W)
  | [], d => by simp [Z.look, Z.kIx]
  | x :: W, d => by
    have ih := look_keys (W := W) (d := d)
    simp only [Z.look] at ih ⊢
    by_cases c : x = d
    · simp [Z.kIx, c]
    · have c2 : ¬ d = x := fun z => c z.symm
      simp only [List.map_cons, Z.kIx, Sum.inl.injEq, c, if_false, List.mem_cons, c2, false_or]
      rw [← ih]
      cases Z.kIx (W.map Sum.inl : List Key) (.inl d) <;> simp
theorem run_keys (h : Hs) (W : List Int) : W.Nodup → (h.run W).dk = W.map .inl ∧ (h.run W).dd = W.map fun _ => .bl true := by
  refine snoc_ind (P := fun W => W.Nodup → (h.run W).dk = W.map .inl ∧ (h.run W).dd = W.map fun _ => .bl true) (fun _ => ⟨rfl, rfl⟩) (fun W d ih nd => ?_) W
  have nd1 : W.Nodup := (List.nodup_append.mp nd).1
  have hd : d ∉ W := fun z => (List.nodup_append.mp nd).2.2 d z d (by simp) rfl
  obtain ⟨i1, i2⟩ := ih nd1
  rw [run_snoc]
  simp only [Hs.st, i1, i2, Z.putK, kIx_none hd]
  simp
theorem in_keys {m : Bool} {W : List Int} {d : Int} : opIn (.int d) (.dic m (W.map Sum.inl) (W.map fun _ => Z.D.bl true)) = some (decide (d ∈ W)) := by
  simp only [opIn, dKey, Option.map_some, look_keys]
inductive Wd where | door | again | ended | far | key | shape
  deriving DecidableEq
def Wd.s : Wd → Z.D
  | .door => .str "door" | .again => .str "again" | .ended => .str "ended" | .far => .str "far" | .key => .str "key" | .shape => .str "shape"
def oW : Option Wd → Z.D
  | none => .non
  | some w => w.s
/-- why a door of the house cannot be opened -/
def wdi (h : Hs) (W : List Int) (d : Int) : Option Wd :=
  if d ∈ W then some .again else if won h W = true then some .ended else if (h.pair d).1 ∈ (h.run W).R ∨ (h.pair d).2 ∈ (h.run W).R then (if (h.run W).hd = 0 then some .key else none) else some .far
theorem c2 {k : Nat} {h : Hs} {W : List Int} (nd : W.Nodup) {d : Int} (hd : h.dr d) : callN fs (k + 1 + 1) 2 [h.D, h.SD W, .int d] = .ok (oW (wdi h W d)) [some h.D, some (h.SD W), some (.int d)] := by
  obtain ⟨C, hc, hk, hr⟩ := enter (fs := fs) (f := f2) (k := k + 1) (i := 2) (ds := [h.D, h.SD W, .int d]) rfl rfl
  rw [hr, bd2]
  obtain ⟨k1, k2⟩ := run_keys h W nd
  have e := at_pair hd
  have c := c1 (k := k) (h := h) (W := W)
  have ik : opIn (.int d) (.dic false (h.run W).dk (h.run W).dd) = some (decide (d ∈ W)) := by rw [k1, k2]; exact in_keys
  obtain ⟨R, hR⟩ : ∃ R, R = (h.run W).R := ⟨_, rfl⟩
  have iS := imm_SD h W
  have hS : h.SD W = .tup [.lst false (R.map .int), .dic false (h.run W).dk (h.run W).dd, .int (h.run W).hd] := by rw [hR]; rfl
  have hi : imms (R.map Z.D.int) = true := imms_ints
  have hdd := dd_imm h W
  have env : ∀ x : Z.D, ∃ z, z = [some h.D, some (h.SD W), some (Z.D.int d), some (.lst false (R.map .int)), some (.dic false (h.run W).dk (h.run W).dd), some (.int (h.run W).hd), some x] := fun x => ⟨_, rfl⟩
  have hg := genAll_map (t := .one 6) (e := .ap .inn (.cons (.var 6) (.cons (.var 3) .nil))) (env := [some h.D, some (h.SD W), some (.int d), some (.lst false (R.map .int)), some (.dic false (h.run W).dk (h.run W).dd), some (.int (h.run W).hd), none]) Z.D.int (fun r => decide (r ∈ R)) [(h.pair d).1, (h.pair d).2] (fun x _ => ⟨[some h.D, some (h.SD W), some (.int d), some (.lst false (R.map .int)), some (.dic false (h.run W).dk (h.run W).dd), some (.int (h.run W).hd), some (.int x)], by simp [Fd.run, evSs, evS, evT, evE, evEs, evOs, evCs, evP, evI, evIf, PF.ap, opLen, opMod, opAdd, opSum, opLt, opGt, opLe, stepD, getK, setD, putKs, setP, nodeAt, mmTy, mmAp, truth, E.pth, E.pu, Es.pu, imm, imms, fz, fzs, bind_one, bind_tup2, bind_tup3, bind_tup4, Tg.free, Tg.frees, Fd.kp, Fd.out, Fd.fin, finE, giveBack, wipeE, backE, seqOf, lcLoop, forLoop, lim, ix0, ix1, ix2, ix3, in0, in1, in2, dInts, imms_ints, imms_pairs, fzs_ints, fzs_pairs, fzs_app, imms_app, dInts_ints, in_lst, in_tup, dEq_int, idx_tup, idx_lst, hD0, hD1, hD2, imm_hs], by simp [evQ, evQs, apQ, in_lst]⟩)
  simp only [List.map_cons, List.map_nil] at hg
  by_cases q1 : d ∈ W
  · simp [wdi, f2, d2, Fd.run, evSs, evS, evT, evE, evEs, evOs, evCs, evP, evI, evIf, PF.ap, opLen, opMod, opAdd, opSum, opLt, opGt, opLe, stepD, getK, setD, putKs, setP, nodeAt, mmTy, mmAp, truth, E.pth, E.pu, Es.pu, imm, imms, fz, fzs, bind_one, bind_tup2, bind_tup3, bind_tup4, Tg.free, Tg.frees, Fd.kp, Fd.out, Fd.fin, finE, giveBack, wipeE, backE, seqOf, lcLoop, forLoop, lim, ix0, ix1, ix2, ix3, in0, in1, in2, dInts, imms_ints, imms_pairs, fzs_ints, fzs_pairs, fzs_app, imms_app, dInts_ints, in_lst, in_tup, dEq_int, idx_tup, idx_lst, hD0, hD1, hD2, imm_hs, hc, hk, hS, ik, q1, hi, hdd, oW, Wd.s]
  · cases q2 : won h W with
    | true =>
      rw [q2] at c
      rw [hS] at c
      simp [wdi, f2, d2, Fd.run, evSs, evS, evT, evE, evEs, evOs, evCs, evP, evI, evIf, PF.ap, opLen, opMod, opAdd, opSum, opLt, opGt, opLe, stepD, getK, setD, putKs, setP, nodeAt, mmTy, mmAp, truth, E.pth, E.pu, Es.pu, imm, imms, fz, fzs, bind_one, bind_tup2, bind_tup3, bind_tup4, Tg.free, Tg.frees, Fd.kp, Fd.out, Fd.fin, finE, giveBack, wipeE, backE, seqOf, lcLoop, forLoop, lim, ix0, ix1, ix2, ix3, in0, in1, in2, dInts, imms_ints, imms_pairs, fzs_ints, fzs_pairs, fzs_app, imms_app, dInts_ints, in_lst, in_tup, dEq_int, idx_tup, idx_lst, hD0, hD1, hD2, imm_hs, hc, hk, hS, ik, q1, hi, hdd, oW, Wd.s, c, q2]
    | false =>
      rw [q2] at c
      rw [hS] at c hg
      by_cases q3 : (h.pair d).1 ∈ R ∨ (h.pair d).2 ∈ R
      · have q4 : (decide ((h.pair d).1 ∈ R) || decide ((h.pair d).2 ∈ R)) = true := by simpa using q3
        by_cases q5 : (h.run W).hd = 0
        · rw [q5] at c hg hS
          simp [wdi, f2, d2, Fd.run, evSs, evS, evT, evE, evEs, evOs, evCs, evP, evI, evIf, PF.ap, opLen, opMod, opAdd, opSum, opLt, opGt, opLe, stepD, getK, setD, putKs, setP, nodeAt, mmTy, mmAp, truth, E.pth, E.pu, Es.pu, imm, imms, fz, fzs, bind_one, bind_tup2, bind_tup3, bind_tup4, Tg.free, Tg.frees, Fd.kp, Fd.out, Fd.fin, finE, giveBack, wipeE, backE, seqOf, lcLoop, forLoop, lim, ix0, ix1, ix2, ix3, in0, in1, in2, dInts, imms_ints, imms_pairs, fzs_ints, fzs_pairs, fzs_app, imms_app, dInts_ints, in_lst, in_tup, dEq_int, idx_tup, idx_lst, hD0, hD1, hD2, imm_hs, hc, hk, hS, ik, q1, hi, hdd, oW, Wd.s, c, q2, seqG, e, pairD, hg, q4, q5, ← hR, q3]
        · simp [wdi, f2, d2, Fd.run, evSs, evS, evT, evE, evEs, evOs, evCs, evP, evI, evIf, PF.ap, opLen, opMod, opAdd, opSum, opLt, opGt, opLe, stepD, getK, setD, putKs, setP, nodeAt, mmTy, mmAp, truth, E.pth, E.pu, Es.pu, imm, imms, fz, fzs, bind_one, bind_tup2, bind_tup3, bind_tup4, Tg.free, Tg.frees, Fd.kp, Fd.out, Fd.fin, finE, giveBack, wipeE, backE, seqOf, lcLoop, forLoop, lim, ix0, ix1, ix2, ix3, in0, in1, in2, dInts, imms_ints, imms_pairs, fzs_ints, fzs_pairs, fzs_app, imms_app, dInts_ints, in_lst, in_tup, dEq_int, idx_tup, idx_lst, hD0, hD1, hD2, imm_hs, hc, hk, hS, ik, q1, hi, hdd, oW, Wd.s, c, q2, seqG, e, pairD, hg, q4, q5, ← hR, q3]
      · have q4 : (decide ((h.pair d).1 ∈ R) || decide ((h.pair d).2 ∈ R)) = false := by simpa using q3
        simp only [not_or] at q3
        simp [wdi, f2, d2, Fd.run, evSs, evS, evT, evE, evEs, evOs, evCs, evP, evI, evIf, PF.ap, opLen, opMod, opAdd, opSum, opLt, opGt, opLe, stepD, getK, setD, putKs, setP, nodeAt, mmTy, mmAp, truth, E.pth, E.pu, Es.pu, imm, imms, fz, fzs, bind_one, bind_tup2, bind_tup3, bind_tup4, Tg.free, Tg.frees, Fd.kp, Fd.out, Fd.fin, finE, giveBack, wipeE, backE, seqOf, lcLoop, forLoop, lim, ix0, ix1, ix2, ix3, in0, in1, in2, dInts, imms_ints, imms_pairs, fzs_ints, fzs_pairs, fzs_app, imms_app, dInts_ints, in_lst, in_tup, dEq_int, idx_tup, idx_lst, hD0, hD1, hD2, imm_hs, hc, hk, hS, ik, q1, hi, hdd, oW, Wd.s, c, q2, seqG, e, pairD, hg, q4, ← hR, q3]

/-- what may stand in a tuple here -/
inductive El : Z.D → Prop
  | int (i : Int) : El (.int i)
  | bl (b : Bool) : El (.bl b)
  | non : El .non
  | str (s : Str) : El (.str s)
  | tup (ns : List Int) : El (.tup (ns.map .int))
theorem El.imm {x : Z.D} (h : El x) : Z.imm x = true := by cases h <;> simp [Z.imm, imms_ints]
theorem El.imms {ds : List Z.D} (h : ∀ x ∈ ds, El x) : Z.imms ds = true := imms_of fun d hd => (h d hd).imm
/-- the door that a thing tells -/
def gd (h : Hs) : Z.D → Option Int
  | .int i => if 0 ≤ i ∧ i < h.ps.length then some i else none
  | _ => none
theorem gd_dr {h : Hs} {x : Z.D} {d : Int} (e : gd h x = some d) : x = .int d ∧ h.dr d := by
  cases x <;> simp only [gd, reduceCtorEq, Option.ite_none_right_eq_some, Option.some.injEq] at e
  obtain ⟨h1, rfl⟩ := e
  exact ⟨rfl, h1⟩
def scan (h : Hs) : List Int → List Z.D → (Nat × Wd) ⊕ Int
  | W, [] => .inr (h.run W).hd
  | W, x :: r => match gd h x with
    | none => .inl (W.length, .door)
    | some d => match wdi h W d with
      | some w => .inl (W.length, w)
      | none => scan h (W ++ [d]) r
def isI : Z.D → Bool
  | .int _ => true
  | _ => false
theorem c4 {k : Nat} {x : Z.D} (h : El x) : callN fs (k + 1) 4 [x] = .ok (.bl (isI x)) [some x] := by
  obtain ⟨C, hc, hk, hr⟩ := enter (fs := fs) (f := f4) (k := k) (i := 4) (ds := [x]) rfl rfl
  rw [hr, bd4]
  cases h <;> simp [f4, d4, Fd.run, evSs, evS, evT, evE, evEs, evOs, evCs, evP, evI, evIf, PF.ap, opIdx, opLen, opMod, opAdd, opSum, opLt, opGt, opLe, stepD, getK, setD, putKs, setP, nodeAt, mmTy, mmAp, truth, E.pth, E.pu, Es.pu, imm, imms, fz, fzs, bind_one, bind_tup2, bind_tup3, bind_tup4, Tg.free, Tg.frees, Fd.kp, Fd.out, Fd.fin, finE, giveBack, wipeE, backE, seqOf, lcLoop, forLoop, lim, ix0, ix1, ix2, ix3, in0, in1, in2, dInts, imms_ints, imms_pairs, fzs_ints, fzs_pairs, fzs_app, imms_app, dInts_ints, in_lst, in_tup, dEq_int, hc, hk, isiT, tyD, isI]
theorem c5 {k : Nat} {x : Z.D} (h : El x) : callN fs (k + 1 + 1) 5 [x] = .ok (.bl (match x with | .int i => decide (0 ≤ i) | _ => false)) [some x] := by
  obtain ⟨C, hc, hk, hr⟩ := enter (fs := fs) (f := f5) (k := k + 1) (i := 5) (ds := [x]) rfl rfl
  rw [hr, bd5]
  have e := c4 (k := k) h
  have ei := h.imm
  cases h <;> simp [Z.imm] at ei <;> simp [f5, d5, Fd.run, evSs, evS, evT, evE, evEs, evOs, evCs, evP, evI, evIf, PF.ap, opIdx, opLen, opMod, opAdd, opSum, opLt, opGt, opLe, stepD, getK, setD, putKs, setP, nodeAt, mmTy, mmAp, truth, E.pth, E.pu, Es.pu, imm, imms, fz, fzs, bind_one, bind_tup2, bind_tup3, bind_tup4, Tg.free, Tg.frees, Fd.kp, Fd.out, Fd.fin, finE, giveBack, wipeE, backE, seqOf, lcLoop, forLoop, lim, ix0, ix1, ix2, ix3, in0, in1, in2, dInts, imms_ints, imms_pairs, fzs_ints, fzs_pairs, fzs_app, imms_app, dInts_ints, in_lst, in_tup, dEq_int, hc, hk, e, isI, ei]
theorem c6 {k : Nat} {x : Z.D} (h : El x) (n : Int) : callN fs (k + 1 + 1 + 1) 6 [x, .int n] = .ok (.bl (match x with | .int i => decide (0 ≤ i ∧ i < n) | _ => false)) [some x, some (.int n)] := by
  obtain ⟨C, hc, hk, hr⟩ := enter (fs := fs) (f := f6) (k := k + 1 + 1) (i := 6) (ds := [x, .int n]) rfl rfl
  rw [hr, bd6]
  have e := c5 (k := k) h
  have ei := h.imm
  cases h with
  | int i => by_cases q : 0 ≤ i <;> simp [q] at e <;> simp [f6, d6, Fd.run, evSs, evS, evT, evE, evEs, evOs, evCs, evP, evI, evIf, PF.ap, opIdx, opLen, opMod, opAdd, opSum, opLt, opGt, opLe, stepD, getK, setD, putKs, setP, nodeAt, mmTy, mmAp, truth, E.pth, E.pu, Es.pu, imm, imms, fz, fzs, bind_one, bind_tup2, bind_tup3, bind_tup4, Tg.free, Tg.frees, Fd.kp, Fd.out, Fd.fin, finE, giveBack, wipeE, backE, seqOf, lcLoop, forLoop, lim, ix0, ix1, ix2, ix3, in0, in1, in2, dInts, imms_ints, imms_pairs, fzs_ints, fzs_pairs, fzs_app, imms_app, dInts_ints, in_lst, in_tup, dEq_int, hc, hk, e, q]
  | bl b => simp [f6, d6, Fd.run, evSs, evS, evT, evE, evEs, evOs, evCs, evP, evI, evIf, PF.ap, opIdx, opLen, opMod, opAdd, opSum, opLt, opGt, opLe, stepD, getK, setD, putKs, setP, nodeAt, mmTy, mmAp, truth, E.pth, E.pu, Es.pu, imm, imms, fz, fzs, bind_one, bind_tup2, bind_tup3, bind_tup4, Tg.free, Tg.frees, Fd.kp, Fd.out, Fd.fin, finE, giveBack, wipeE, backE, seqOf, lcLoop, forLoop, lim, ix0, ix1, ix2, ix3, in0, in1, in2, dInts, imms_ints, imms_pairs, fzs_ints, fzs_pairs, fzs_app, imms_app, dInts_ints, in_lst, in_tup, dEq_int, hc, hk, e]
  | non => simp [f6, d6, Fd.run, evSs, evS, evT, evE, evEs, evOs, evCs, evP, evI, evIf, PF.ap, opIdx, opLen, opMod, opAdd, opSum, opLt, opGt, opLe, stepD, getK, setD, putKs, setP, nodeAt, mmTy, mmAp, truth, E.pth, E.pu, Es.pu, imm, imms, fz, fzs, bind_one, bind_tup2, bind_tup3, bind_tup4, Tg.free, Tg.frees, Fd.kp, Fd.out, Fd.fin, finE, giveBack, wipeE, backE, seqOf, lcLoop, forLoop, lim, ix0, ix1, ix2, ix3, in0, in1, in2, dInts, imms_ints, imms_pairs, fzs_ints, fzs_pairs, fzs_app, imms_app, dInts_ints, in_lst, in_tup, dEq_int, hc, hk, e]
  | str s => simp [f6, d6, Fd.run, evSs, evS, evT, evE, evEs, evOs, evCs, evP, evI, evIf, PF.ap, opIdx, opLen, opMod, opAdd, opSum, opLt, opGt, opLe, stepD, getK, setD, putKs, setP, nodeAt, mmTy, mmAp, truth, E.pth, E.pu, Es.pu, imm, imms, fz, fzs, bind_one, bind_tup2, bind_tup3, bind_tup4, Tg.free, Tg.frees, Fd.kp, Fd.out, Fd.fin, finE, giveBack, wipeE, backE, seqOf, lcLoop, forLoop, lim, ix0, ix1, ix2, ix3, in0, in1, in2, dInts, imms_ints, imms_pairs, fzs_ints, fzs_pairs, fzs_app, imms_app, dInts_ints, in_lst, in_tup, dEq_int, hc, hk, e]
  | tup ns => simp [Z.imm] at ei; simp [f6, d6, Fd.run, evSs, evS, evT, evE, evEs, evOs, evCs, evP, evI, evIf, PF.ap, opIdx, opLen, opMod, opAdd, opSum, opLt, opGt, opLe, stepD, getK, setD, putKs, setP, nodeAt, mmTy, mmAp, truth, E.pth, E.pu, Es.pu, imm, imms, fz, fzs, bind_one, bind_tup2, bind_tup3, bind_tup4, Tg.free, Tg.frees, Fd.kp, Fd.out, Fd.fin, finE, giveBack, wipeE, backE, seqOf, lcLoop, forLoop, lim, ix0, ix1, ix2, ix3, in0, in1, in2, dInts, imms_ints, imms_pairs, fzs_ints, fzs_pairs, fzs_app, imms_app, dInts_ints, in_lst, in_tup, dEq_int, hc, hk, e, ei]
theorem c6g {k : Nat} {h : Hs} {x : Z.D} (hx : El x) : callN fs (k + 1 + 1 + 1) 6 [x, .int h.ps.length] = .ok (.bl (gd h x).isSome) [some x, some (.int h.ps.length)] := by
  rw [c6 hx]
  cases hx <;> simp [gd]
  split <;> simp_all

/-- the doors that were opened: none twice, all of the house -/
structure Wok (h : Hs) (W : List Int) : Prop where
  nd : W.Nodup
  dr : ∀ d ∈ W, h.dr d
  h0 : 0 ≤ (h.run W).hd
theorem wok_nil {h : Hs} (ok : Ok2 h) : Wok h [] := ⟨List.nodup_nil, by simp, by simp [run_nil, Hs.f0, ok.key 0]⟩
theorem wok_snoc {h : Hs} (ok : Ok2 h) {W : List Int} (w : Wok h W) {d : Int} (hd : h.dr d) (e : wdi h W d = none) : Wok h (W ++ [d]) := by
  have h1 : d ∉ W ∧ (h.run W).hd ≠ 0 := by
    unfold wdi at e
    split at e
    · cases e
    · split at e
      · cases e
      · split at e
        · split at e
          · cases e
          · exact ⟨by assumption, by assumption⟩
        · cases e
  refine ⟨List.nodup_append.mpr ⟨w.nd, by simp, fun a ha b hb => ?_⟩, fun x hx => ?_, ?_⟩
  · simp only [List.mem_singleton] at hb
    subst hb
    exact fun z => h1.1 (z ▸ ha)
  · rcases List.mem_append.mp hx with hx | hx
    · exact w.dr x hx
    · simp only [List.mem_singleton] at hx; subst hx; exact hd
  · rw [run_snoc]
    have := ok.gain (fr (h.run W).R (h.pair d))
    have := w.h0
    have := h1.2
    simp only [Hs.st]
    omega
theorem s_ne (w : Wd) : w.s ≠ .non := by cases w <;> simp [Wd.s]
theorem imm_s (w : Wd) : imm w.s = true := by cases w <;> rfl
theorem l7 {C : Z.Ctx} {k : Nat} (hc : C.call = callN fs (k + 1 + 1 + 1)) (hk : C.kp = f7.kp) {h : Hs} (ok : Ok2 h) {T : Z.D} : ∀ (r : List Z.D) (W : List Int), (∀ x ∈ r, El x) → W.length + r.length ≤ 900 → Wok h W → ∀ (x3 x4 x5 : Option Z.D),
    (∃ n w a b c d, scan h W r = .inl (n, w) ∧ forLoop (.tup [.one 3, .one 4]) (evSs C l7_0) (enumD r W.length) [some h.D, some T, some (h.SD W), x3, x4, x5] = .exc ⟨0, [.int (n : Int), w.s]⟩ [some h.D, some T, a, b, c, d]) ∨
    (∃ V a b c, scan h W r = .inr (h.run V).hd ∧ forLoop (.tup [.one 3, .one 4]) (evSs C l7_0) (enumD r W.length) [some h.D, some T, some (h.SD W), x3, x4, x5] = .next [some h.D, some T, some (h.SD V), a, b, c])
  | [], W, _, _, _, x3, x4, x5 => .inr ⟨W, x3, x4, x5, rfl, by simp [enumD, forLoop]⟩
  | x :: r, W, hel, hl, w, x3, x4, x5 => by
    have hx := hel x (by simp)
    have ix := hx.imm
    have iS := imm_SD h W
    have e6 := c6g (k := k) (h := h) hx
    rw [enumD_cons]
    have hb : bindT (.tup [.one 3, .one 4]) (.tup [.int (W.length : Int), x]) [some h.D, some T, some (h.SD W), x3, x4, x5] = some [some h.D, some T, some (h.SD W), some (.int (W.length : Int)), some x, x5] := by simp [bind_tup2, bind_one]
    simp only [forLoop, hb]
    cases hg : gd h x with
    | none =>
      rw [hg] at e6
      refine .inl ⟨W.length, .door, some (h.SD W), some (.int (W.length : Int)), some x, x5, by simp [scan, hg], ?_⟩
      have e : evSs C l7_0 [some h.D, some T, some (h.SD W), some (.int (W.length : Int)), some x, x5] = .exc ⟨0, [.int (W.length : Int), .str "door"]⟩ [some h.D, some T, some (h.SD W), some (.int (W.length : Int)), some x, x5] := by
        simp [l7_0, Fd.run, evSs, evS, evT, evE, evEs, evOs, evCs, evP, evI, evIf, PF.ap, opLen, opMod, opAdd, opSum, opLt, opGt, opLe, stepD, getK, setD, putKs, setP, nodeAt, mmTy, mmAp, truth, E.pth, E.pu, Es.pu, imm, imms, fz, fzs, bind_one, bind_tup2, bind_tup3, bind_tup4, Tg.free, Tg.frees, Fd.kp, Fd.out, Fd.fin, finE, giveBack, wipeE, backE, seqOf, lcLoop, forLoop, lim, ix0, ix1, ix2, ix3, in0, in1, in2, dInts, imms_ints, imms_pairs, fzs_ints, fzs_pairs, fzs_app, imms_app, dInts_ints, in_lst, in_tup, dEq_int, idx_tup, idx_lst, hD0, hD1, hD2, imm_hs, hc, hk, f7, e6, ix]
      rw [e]; rfl
    | some d =>
      obtain ⟨rfl, hd⟩ := gd_dr hg
      rw [hg] at e6
      have e2 := c2 (k := k + 1) (h := h) w.nd hd
      cases hw : wdi h W d with
      | some wd =>
        rw [hw] at e2
        simp only [oW] at e2
        have iw := imm_s wd
        refine .inl ⟨W.length, wd, some (h.SD W), some (.int (W.length : Int)), some (.int d), some wd.s, by simp [scan, hg, hw], ?_⟩
        have e : evSs C l7_0 [some h.D, some T, some (h.SD W), some (.int (W.length : Int)), some (.int d), x5] = .exc ⟨0, [.int (W.length : Int), wd.s]⟩ [some h.D, some T, some (h.SD W), some (.int (W.length : Int)), some (.int d), some wd.s] := by
          cases wd <;> simp only [Wd.s] at e2 iw ⊢ <;> simp [l7_0, Fd.run, evSs, evS, evT, evE, evEs, evOs, evCs, evP, evI, evIf, PF.ap, opLen, opMod, opAdd, opSum, opLt, opGt, opLe, stepD, getK, setD, putKs, setP, nodeAt, mmTy, mmAp, truth, E.pth, E.pu, Es.pu, imm, imms, fz, fzs, bind_one, bind_tup2, bind_tup3, bind_tup4, Tg.free, Tg.frees, Fd.kp, Fd.out, Fd.fin, finE, giveBack, wipeE, backE, seqOf, lcLoop, forLoop, lim, ix0, ix1, ix2, ix3, in0, in1, in2, dInts, imms_ints, imms_pairs, fzs_ints, fzs_pairs, fzs_app, imms_app, dInts_ints, in_lst, in_tup, dEq_int, idx_tup, idx_lst, hD0, hD1, hD2, imm_hs, hc, hk, f7, e6, e2, iS, iw]
        rw [e]
      | none =>
        rw [hw] at e2
        simp only [oW] at e2
        have e3 := c3 (k := k + 1 + 1) ok.ok (W := W) (by simp at hl; omega) hd
        have iS2 := imm_SD h (W ++ [d])
        have e : evSs C l7_0 [some h.D, some T, some (h.SD W), some (.int (W.length : Int)), some (.int d), x5] = .next [some h.D, some T, some (h.SD (W ++ [d])), some (.int (W.length : Int)), some (.int d), some .non] := by
          simp [l7_0, Fd.run, evSs, evS, evT, evE, evEs, evOs, evCs, evP, evI, evIf, PF.ap, opLen, opMod, opAdd, opSum, opLt, opGt, opLe, stepD, getK, setD, putKs, setP, nodeAt, mmTy, mmAp, truth, E.pth, E.pu, Es.pu, imm, imms, fz, fzs, bind_one, bind_tup2, bind_tup3, bind_tup4, Tg.free, Tg.frees, Fd.kp, Fd.out, Fd.fin, finE, giveBack, wipeE, backE, seqOf, lcLoop, forLoop, lim, ix0, ix1, ix2, ix3, in0, in1, in2, dInts, imms_ints, imms_pairs, fzs_ints, fzs_pairs, fzs_app, imms_app, dInts_ints, in_lst, in_tup, dEq_int, idx_tup, idx_lst, hD0, hD1, hD2, imm_hs, hc, hk, f7, e6, e2, e3, iS, iS2]
        rw [e]
        have ih := l7 hc hk ok (T := T) r (W ++ [d]) (fun y hy => hel y (by simp [hy])) (by simp at hl ⊢; omega) (wok_snoc ok w hd hw) (some (.int (W.length : Int))) (some (.int d)) (some .non)
        simp only [List.length_append, List.length_cons, List.length_nil, Nat.zero_add] at ih
        simpa [scan, hg, hw] using ih
/-- what check_walk tells of a tuple -/
def chk (h : Hs) (T : Z.D) : (Nat × Wd) ⊕ Int → CRes
  | .inl (n, w) => .exc ⟨0, [.int (n : Int), w.s]⟩ [some h.D, some T]
  | .inr x => .ok (.int x) [some h.D, some T]
theorem c7 {k : Nat} {h : Hs} (ok : Ok2 h) {r : List Z.D} (hel : ∀ x ∈ r, El x) (hl : r.length ≤ 900) : callN fs (k + 1 + 1 + 1 + 1) 7 [h.D, .tup r] = chk h (.tup r) (scan h [] r) := by
  obtain ⟨C, hc, hk, hr⟩ := enter (fs := fs) (f := f7) (k := k + 1 + 1 + 1) (i := 7) (ds := [h.D, .tup r]) rfl rfl
  rw [hr, bd7]
  have e0 := c0 (k := k + 1 + 1) ok.ok
  have ir := El.imms hel
  have iS := imm_SD h []
  have hs : ∀ V, opIdx (h.SD V) (.int 2) = some (.int (h.run V).hd) := fun V => by simp [Hs.SD, opIdx, ix2]
  have hl2 : r.length ≤ 16777216 := by omega
  rcases l7 hc hk ok (T := .tup r) r [] hel (by simpa using hl) (wok_nil ok) none none none with ⟨n, w, a, b, c, d, h1, h2⟩ | ⟨V, a, b, c, h1, h2⟩
  · rw [h1]
    simp only [List.length_nil] at h2
    simp [f7, d7, Fd.run, evSs, evS, evT, evE, evEs, evOs, evCs, evP, evI, evIf, PF.ap, opLen, opMod, opAdd, opSum, opLt, opGt, opLe, stepD, getK, setD, putKs, setP, nodeAt, mmTy, mmAp, truth, E.pth, E.pu, Es.pu, imm, imms, fz, fzs, bind_one, bind_tup2, bind_tup3, bind_tup4, Tg.free, Tg.frees, Fd.kp, Fd.out, Fd.fin, finE, giveBack, wipeE, backE, seqOf, lim, ix0, ix1, ix2, ix3, in0, in1, in2, dInts, imms_ints, imms_pairs, fzs_ints, fzs_pairs, fzs_app, imms_app, dInts_ints, in_lst, in_tup, dEq_int, idx_tup, idx_lst, hD0, hD1, hD2, imm_hs, isiT, tyD, hc, hk, e0, enumOf, ir, h2, chk, hs, iS, hl2]
  · rw [h1]
    simp only [List.length_nil] at h2
    have iV := imm_SD h V
    simp [f7, d7, Fd.run, evSs, evS, evT, evE, evEs, evOs, evCs, evP, evI, evIf, PF.ap, opLen, opMod, opAdd, opSum, opLt, opGt, opLe, stepD, getK, setD, putKs, setP, nodeAt, mmTy, mmAp, truth, E.pth, E.pu, Es.pu, imm, imms, fz, fzs, bind_one, bind_tup2, bind_tup3, bind_tup4, Tg.free, Tg.frees, Fd.kp, Fd.out, Fd.fin, finE, giveBack, wipeE, backE, seqOf, lim, ix0, ix1, ix2, ix3, in0, in1, in2, dInts, imms_ints, imms_pairs, fzs_ints, fzs_pairs, fzs_app, imms_app, dInts_ints, in_lst, in_tup, dEq_int, idx_tup, idx_lst, hD0, hD1, hD2, imm_hs, isiT, tyD, hc, hk, e0, enumOf, ir, h2, chk, hs, iS, iV, hl2]
/-- things that are no tuples -/
inductive Nt : Z.D → Prop
  | int (i : Int) : Nt (.int i)
  | bl (b : Bool) : Nt (.bl b)
  | non : Nt .non
  | str (s : Str) : Nt (.str s)
  | lst (m : Bool) (ds : List Z.D) : Nt (.lst m ds)
theorem c7n {k : Nat} {h : Hs} {T : Z.D} (t : Nt T) : callN fs (k + 1) 7 [h.D, T] = .exc ⟨0, [.int (-1), .str "shape"]⟩ [some h.D, some T] := by
  obtain ⟨C, hc, hk, hr⟩ := enter (fs := fs) (f := f7) (k := k) (i := 7) (ds := [h.D, T]) rfl rfl
  rw [hr, bd7]
  cases t <;> simp [f7, d7, Fd.run, evSs, evS, evT, evE, evEs, evOs, evCs, evP, evI, evIf, PF.ap, opLen, opMod, opAdd, opSum, opLt, opGt, opLe, stepD, getK, setD, putKs, setP, nodeAt, mmTy, mmAp, truth, E.pth, E.pu, Es.pu, imm, imms, fz, fzs, bind_one, bind_tup2, bind_tup3, bind_tup4, Tg.free, Tg.frees, Fd.kp, Fd.out, Fd.fin, finE, giveBack, wipeE, backE, seqOf, lcLoop, forLoop, lim, ix0, ix1, ix2, ix3, in0, in1, in2, dInts, imms_ints, imms_pairs, fzs_ints, fzs_pairs, fzs_app, imms_app, dInts_ints, in_lst, in_tup, dEq_int, idx_tup, idx_lst, hD0, hD1, hD2, imm_hs, isiT, tyD, hc, hk]
theorem c8 {k : Nat} {h : Hs} (ok : Ok2 h) {r : List Z.D} (hel : ∀ x ∈ r, El x) (hl : r.length ≤ 900) : callN fs (k + 1 + 1 + 1 + 1 + 1) 8 [h.D, .tup r] = .ok (.bl (scan h [] r).isRight) [some h.D, some (.tup r)] := by
  obtain ⟨C, hc, hk, hr⟩ := enter (fs := fs) (f := f8) (k := k + 1 + 1 + 1 + 1) (i := 8) (ds := [h.D, .tup r]) rfl rfl
  rw [hr, bd8]
  have e7 := c7 (k := k) ok hel hl
  have ir := El.imms hel
  cases hs : scan h [] r with
  | inl x =>
    obtain ⟨n, w⟩ := x
    rw [hs] at e7
    simp only [chk] at e7
    simp [f8, d8, Fd.run, evSs, evS, evT, evE, evEs, evOs, evCs, evP, evI, evIf, PF.ap, opLen, opMod, opAdd, opSum, opLt, opGt, opLe, stepD, getK, setD, putKs, setP, nodeAt, mmTy, mmAp, truth, E.pth, E.pu, Es.pu, imm, imms, fz, fzs, bind_one, bind_tup2, bind_tup3, bind_tup4, Tg.free, Tg.frees, Fd.kp, Fd.out, Fd.fin, finE, giveBack, wipeE, backE, seqOf, lcLoop, forLoop, lim, ix0, ix1, ix2, ix3, in0, in1, in2, dInts, imms_ints, imms_pairs, fzs_ints, fzs_pairs, fzs_app, imms_app, dInts_ints, in_lst, in_tup, dEq_int, idx_tup, idx_lst, hD0, hD1, hD2, imm_hs, hc, hk, e7, ir, hFind, hrOut, heOut, hrEnd]
  | inr x =>
    rw [hs] at e7
    simp only [chk] at e7
    simp [f8, d8, Fd.run, evSs, evS, evT, evE, evEs, evOs, evCs, evP, evI, evIf, PF.ap, opLen, opMod, opAdd, opSum, opLt, opGt, opLe, stepD, getK, setD, putKs, setP, nodeAt, mmTy, mmAp, truth, E.pth, E.pu, Es.pu, imm, imms, fz, fzs, bind_one, bind_tup2, bind_tup3, bind_tup4, Tg.free, Tg.frees, Fd.kp, Fd.out, Fd.fin, finE, giveBack, wipeE, backE, seqOf, lcLoop, forLoop, lim, ix0, ix1, ix2, ix3, in0, in1, in2, dInts, imms_ints, imms_pairs, fzs_ints, fzs_pairs, fzs_app, imms_app, dInts_ints, in_lst, in_tup, dEq_int, idx_tup, idx_lst, hD0, hD1, hD2, imm_hs, hc, hk, e7, ir]
theorem c8n {k : Nat} {h : Hs} {T : Z.D} (t : Nt T) : callN fs (k + 1 + 1) 8 [h.D, T] = .ok (.bl false) [some h.D, some T] := by
  obtain ⟨C, hc, hk, hr⟩ := enter (fs := fs) (f := f8) (k := k + 1) (i := 8) (ds := [h.D, T]) rfl rfl
  rw [hr, bd8]
  have e7 := c7n (k := k) (h := h) t
  cases t with
  | lst m ds => cases m <;> by_cases q : imms ds = true <;> simp [f8, d8, Fd.run, evSs, evS, evT, evE, evEs, evOs, evCs, evP, evI, evIf, PF.ap, opLen, opMod, opAdd, opSum, opLt, opGt, opLe, stepD, getK, setD, putKs, setP, nodeAt, mmTy, mmAp, truth, E.pth, E.pu, Es.pu, imm, imms, fz, fzs, bind_one, bind_tup2, bind_tup3, bind_tup4, Tg.free, Tg.frees, Fd.kp, Fd.out, Fd.fin, finE, giveBack, wipeE, backE, seqOf, lcLoop, forLoop, lim, ix0, ix1, ix2, ix3, in0, in1, in2, dInts, imms_ints, imms_pairs, fzs_ints, fzs_pairs, fzs_app, imms_app, dInts_ints, in_lst, in_tup, dEq_int, idx_tup, idx_lst, hD0, hD1, hD2, imm_hs, hc, hk, e7, q, hFind, hrOut, heOut, hrEnd]
  | _ => simp [f8, d8, Fd.run, evSs, evS, evT, evE, evEs, evOs, evCs, evP, evI, evIf, PF.ap, opLen, opMod, opAdd, opSum, opLt, opGt, opLe, stepD, getK, setD, putKs, setP, nodeAt, mmTy, mmAp, truth, E.pth, E.pu, Es.pu, imm, imms, fz, fzs, bind_one, bind_tup2, bind_tup3, bind_tup4, Tg.free, Tg.frees, Fd.kp, Fd.out, Fd.fin, finE, giveBack, wipeE, backE, seqOf, lcLoop, forLoop, lim, ix0, ix1, ix2, ix3, in0, in1, in2, dInts, imms_ints, imms_pairs, fzs_ints, fzs_pairs, fzs_app, imms_app, dInts_ints, in_lst, in_tup, dEq_int, idx_tup, idx_lst, hD0, hD1, hD2, imm_hs, hc, hk, e7, hFind, hrOut, heOut, hrEnd]

theorem won_snoc {h : Hs} {W : List Int} {d : Int} : won h (W ++ [d]) = (won h W || (fr (h.run W).R (h.pair d)).any fun r => decide (r ∈ h.hs)) := by
  simp only [won, run_snoc, Hs.st, List.any_append]
theorem won_nil {h : Hs} (ok : Ok2 h) : won h [] = false := by
  have : (0 : Int) ∉ h.hs := fun z => by have := ok.hl 0 z; omega
  simp [won, run_nil, Hs.f0, this]
theorem l15_in {C : Z.Ctx} (hk : C.kp = f15.kp) {h : Hs} {T : Z.D} {a b : Int} (hab : a ≠ b) (a0 : 0 ≤ a) (a1 : a < h.ks.length) (b0 : 0 ≤ b) (b1 : b < h.ks.length) {R : List Int} (hR : R.length ≤ 4000) {hd : Int} {en : Bool} {x8 x9 x10 x11 x12 : Option Z.D} :
    forLoop (.one 12) (evSs C l15_0) [.int a, .int b] [some h.D, some T, some (.tup (h.ks.map .int)), some (.tup (h.ps.map pairD)), some (.tup (h.hs.map .int)), some (.lst true (R.map .int)), some (.int hd), some (.bl en), x8, x9, x10, x11, x12] =
      .next [some h.D, some T, some (.tup (h.ks.map .int)), some (.tup (h.ps.map pairD)), some (.tup (h.hs.map .int)), some (.lst true ((R ++ fr R (a, b)).map .int)), some (.int (hd + h.gain (fr R (a, b)))), some (.bl (en || (fr R (a, b)).any fun r => decide (r ∈ h.hs))), x8, x9, x10, x11, some (.int b)] := by
  have ea := at_key a0 a1
  have eb := at_key b0 b1
  have hba : ¬ b = a := fun z => hab z.symm
  have l1 : R.length < 16777216 := by omega
  have l2 : R.length + 1 < 16777216 := by omega
  have mm : ∀ x : Int, R.map Z.D.int ++ [Z.D.int x] = (R ++ [x]).map .int := fun x => by simp
  have mn : ∀ (x : Int) (q : List Int), q.map Z.D.int ++ [Z.D.int x] = (q ++ [x]).map .int := fun x q => by simp
  by_cases ca : a ∈ R <;> by_cases cb : b ∈ R <;> cases en <;> by_cases ha : a ∈ h.hs <;>
    simp [l15_0, Fd.run, evSs, evS, evT, evE, evEs, evOs, evCs, evP, evI, evIf, PF.ap, opIdx, opLen, opMod, opAdd, opSum, opLt, opGt, opLe, stepD, getK, setD, putKs, setP, nodeAt, mmTy, mmAp, truth, E.pth, E.pu, Es.pu, imm, imms, fz, fzs, bind_one, bind_tup2, bind_tup3, bind_tup4, Tg.free, Tg.frees, Fd.kp, Fd.out, Fd.fin, finE, giveBack, wipeE, backE, seqOf, lcLoop, forLoop, lim, ix0, ix1, ix2, ix3, in0, in1, in2, dInts, imms_ints, imms_pairs, fzs_ints, fzs_pairs, fzs_app, imms_app, dInts_ints, in_lst, in_tup, dEq_int, hk, f15, ca, cb, ea, eb, l1, l2, mn, fr, Hs.gain, hab, hba, ha, Int.add_assoc, -List.map_append]
abbrev env15 (h : Hs) (T : Z.D) (R : List Int) (hd : Int) (en : Bool) (x8 x9 x10 x11 x12 : Option Z.D) : Z.Env := [some h.D, some T, some (.tup (h.ks.map .int)), some (.tup (h.ps.map pairD)), some (.tup (h.hs.map .int)), some (.lst true (R.map .int)), some (.int hd), some (.bl en), x8, x9, x10, x11, x12]
def rsd (n : Nat) (w : Wd) : Z.D := .tup [.str "raised", .int (n : Int), w.s]
/-- one door looked at -/
theorem l15_step {C : Z.Ctx} (hk : C.kp = f15.kp) {h : Hs} (ok : Ok2 h) {W : List Int} (w : Wok h W) {L : List Z.D} (hL : Z.imms L = true) (hLl : L.length ≤ 900) {x : Z.D} (hx : El x)
    (hat : atI L (W.length : Int) = some x) (hcut : cutL L none (some (W.length : Int)) = W.map .int) (hWl : W.length ≤ 900) {x9 x10 x11 x12 : Option Z.D} :
    (∃ wd a b c d, (match gd h x with | none => some .door | some d => wdi h W d) = some wd ∧ evSs C l15_1 (env15 h (.tup L) (h.run W).R (h.run W).hd (won h W) (some (.int (W.length : Int))) x9 x10 x11 x12) = .ret (rsd W.length wd) (env15 h (.tup L) (h.run W).R (h.run W).hd (won h W) (some (.int (W.length : Int))) a b c d)) ∨
    (∃ dr a b c d, gd h x = some dr ∧ wdi h W dr = none ∧ evSs C l15_1 (env15 h (.tup L) (h.run W).R (h.run W).hd (won h W) (some (.int (W.length : Int))) x9 x10 x11 x12) = .next (env15 h (.tup L) (h.run (W ++ [dr])).R (h.run (W ++ [dr])).hd (won h (W ++ [dr])) (some (.int (W.length : Int))) a b c d)) := by
  have ix := hx.imm
  have l1 : L.length ≤ 16777216 := by omega
  have pl := ok.ok.pl
  have pl2 : h.ps.length ≤ 16777216 := by omega
  obtain ⟨hd, hhd⟩ : ∃ z, z = (h.run W).hd := ⟨_, rfl⟩
  have h0 : 0 ≤ hd := by rw [hhd]; exact w.h0
  obtain ⟨R, hR⟩ : ∃ z, z = (h.run W).R := ⟨_, rfl⟩
  obtain ⟨en, hen⟩ : ∃ z, z = won h W := ⟨_, rfl⟩
  have Rl := R_len h W
  rw [← hR] at Rl
  cases hg : gd h x with
  | none =>
    refine .inl ⟨.door, some x, x10, x11, x12, rfl, ?_⟩
    rw [← hhd, ← hR, ← hen]
    cases hx with
    | int i =>
      simp only [gd, Option.ite_none_right_eq_some, reduceCtorEq, ite_eq_right_iff, not_and, imp_false] at hg
      by_cases q : i < 0
      · simp [l15_1, env15, rsd, Wd.s, Fd.run, evSs, evS, evT, evE, evEs, evOs, evCs, evP, evI, evIf, PF.ap, opLen, opMod, opAdd, opSum, opLt, opGt, opLe, stepD, getK, setD, putKs, setP, nodeAt, mmTy, mmAp, truth, E.pth, E.pu, Es.pu, imm, imms, fz, fzs, bind_one, bind_tup2, bind_tup3, bind_tup4, Tg.free, Tg.frees, Fd.kp, Fd.out, Fd.fin, finE, giveBack, wipeE, backE, seqOf, lcLoop, forLoop, lim, ix0, ix1, ix2, ix3, in0, in1, in2, dInts, imms_ints, imms_pairs, fzs_ints, fzs_pairs, fzs_app, imms_app, dInts_ints, in_lst, in_tup, dEq_int, idx_tup, idx_lst, hD0, hD1, hD2, imm_hs, opCut, isiT, tyD, hk, f15, hat, q, l1, pl2]
      · have q2 : (h.ps.length : Int) ≤ i := by have := hg (by omega); omega
        simp [l15_1, env15, rsd, Wd.s, Fd.run, evSs, evS, evT, evE, evEs, evOs, evCs, evP, evI, evIf, PF.ap, opLen, opMod, opAdd, opSum, opLt, opGt, opLe, stepD, getK, setD, putKs, setP, nodeAt, mmTy, mmAp, truth, E.pth, E.pu, Es.pu, imm, imms, fz, fzs, bind_one, bind_tup2, bind_tup3, bind_tup4, Tg.free, Tg.frees, Fd.kp, Fd.out, Fd.fin, finE, giveBack, wipeE, backE, seqOf, lcLoop, forLoop, lim, ix0, ix1, ix2, ix3, in0, in1, in2, dInts, imms_ints, imms_pairs, fzs_ints, fzs_pairs, fzs_app, imms_app, dInts_ints, in_lst, in_tup, dEq_int, idx_tup, idx_lst, hD0, hD1, hD2, imm_hs, opCut, isiT, tyD, hk, f15, hat, q, q2, l1, pl2]
    | bl b => simp [l15_1, env15, rsd, Wd.s, Fd.run, evSs, evS, evT, evE, evEs, evOs, evCs, evP, evI, evIf, PF.ap, opLen, opMod, opAdd, opSum, opLt, opGt, opLe, stepD, getK, setD, putKs, setP, nodeAt, mmTy, mmAp, truth, E.pth, E.pu, Es.pu, imm, imms, fz, fzs, bind_one, bind_tup2, bind_tup3, bind_tup4, Tg.free, Tg.frees, Fd.kp, Fd.out, Fd.fin, finE, giveBack, wipeE, backE, seqOf, lcLoop, forLoop, lim, ix0, ix1, ix2, ix3, in0, in1, in2, dInts, imms_ints, imms_pairs, fzs_ints, fzs_pairs, fzs_app, imms_app, dInts_ints, in_lst, in_tup, dEq_int, idx_tup, idx_lst, hD0, hD1, hD2, imm_hs, opCut, isiT, tyD, hk, f15, hat, l1, pl2]
    | non => simp [l15_1, env15, rsd, Wd.s, Fd.run, evSs, evS, evT, evE, evEs, evOs, evCs, evP, evI, evIf, PF.ap, opLen, opMod, opAdd, opSum, opLt, opGt, opLe, stepD, getK, setD, putKs, setP, nodeAt, mmTy, mmAp, truth, E.pth, E.pu, Es.pu, imm, imms, fz, fzs, bind_one, bind_tup2, bind_tup3, bind_tup4, Tg.free, Tg.frees, Fd.kp, Fd.out, Fd.fin, finE, giveBack, wipeE, backE, seqOf, lcLoop, forLoop, lim, ix0, ix1, ix2, ix3, in0, in1, in2, dInts, imms_ints, imms_pairs, fzs_ints, fzs_pairs, fzs_app, imms_app, dInts_ints, in_lst, in_tup, dEq_int, idx_tup, idx_lst, hD0, hD1, hD2, imm_hs, opCut, isiT, tyD, hk, f15, hat, l1, pl2]
    | str s => simp [l15_1, env15, rsd, Wd.s, Fd.run, evSs, evS, evT, evE, evEs, evOs, evCs, evP, evI, evIf, PF.ap, opLen, opMod, opAdd, opSum, opLt, opGt, opLe, stepD, getK, setD, putKs, setP, nodeAt, mmTy, mmAp, truth, E.pth, E.pu, Es.pu, imm, imms, fz, fzs, bind_one, bind_tup2, bind_tup3, bind_tup4, Tg.free, Tg.frees, Fd.kp, Fd.out, Fd.fin, finE, giveBack, wipeE, backE, seqOf, lcLoop, forLoop, lim, ix0, ix1, ix2, ix3, in0, in1, in2, dInts, imms_ints, imms_pairs, fzs_ints, fzs_pairs, fzs_app, imms_app, dInts_ints, in_lst, in_tup, dEq_int, idx_tup, idx_lst, hD0, hD1, hD2, imm_hs, opCut, isiT, tyD, hk, f15, hat, l1, pl2]
    | tup ns => simp [l15_1, env15, rsd, Wd.s, Fd.run, evSs, evS, evT, evE, evEs, evOs, evCs, evP, evI, evIf, PF.ap, opLen, opMod, opAdd, opSum, opLt, opGt, opLe, stepD, getK, setD, putKs, setP, nodeAt, mmTy, mmAp, truth, E.pth, E.pu, Es.pu, imm, imms, fz, fzs, bind_one, bind_tup2, bind_tup3, bind_tup4, Tg.free, Tg.frees, Fd.kp, Fd.out, Fd.fin, finE, giveBack, wipeE, backE, seqOf, lcLoop, forLoop, lim, ix0, ix1, ix2, ix3, in0, in1, in2, dInts, imms_ints, imms_pairs, fzs_ints, fzs_pairs, fzs_app, imms_app, dInts_ints, in_lst, in_tup, dEq_int, idx_tup, idx_lst, hD0, hD1, hD2, imm_hs, opCut, isiT, tyD, hk, f15, hat, l1, pl2, imms_ints]
  | some d =>
    obtain ⟨rfl, hd2⟩ := gd_dr hg
    have e := at_pair hd2
    have q1 : ¬ d < 0 := by have := hd2.1; omega
    have q2 : ¬ (h.ps.length : Int) ≤ d := by have := hd2.2; omega
    obtain ⟨p1, p2, p3⟩ := ok.ok.pair hd2
    by_cases g1 : d ∈ W
    · refine .inl ⟨.again, some (.int d), x10, x11, x12, by simp [wdi, g1], ?_⟩
      rw [← hhd, ← hR, ← hen]
      simp [l15_1, env15, rsd, Wd.s, Fd.run, evSs, evS, evT, evE, evEs, evOs, evCs, evP, evI, evIf, PF.ap, opLen, opMod, opAdd, opSum, opLt, opGt, opLe, stepD, getK, setD, putKs, setP, nodeAt, mmTy, mmAp, truth, E.pth, E.pu, Es.pu, imm, imms, fz, fzs, bind_one, bind_tup2, bind_tup3, bind_tup4, Tg.free, Tg.frees, Fd.kp, Fd.out, Fd.fin, finE, giveBack, wipeE, backE, seqOf, lcLoop, forLoop, lim, ix0, ix1, ix2, ix3, in0, in1, in2, dInts, imms_ints, imms_pairs, fzs_ints, fzs_pairs, fzs_app, imms_app, dInts_ints, in_lst, in_tup, dEq_int, idx_tup, idx_lst, hD0, hD1, hD2, imm_hs, opCut, isiT, tyD, hk, f15, hat, q1, q2, l1, pl2, hL, hcut, g1]
    · cases g2 : won h W with
      | true =>
        refine .inl ⟨.ended, some (.int d), x10, x11, x12, by simp [wdi, g1, g2], ?_⟩
        rw [← hhd, ← hR]
        simp [l15_1, env15, rsd, Wd.s, Fd.run, evSs, evS, evT, evE, evEs, evOs, evCs, evP, evI, evIf, PF.ap, opLen, opMod, opAdd, opSum, opLt, opGt, opLe, stepD, getK, setD, putKs, setP, nodeAt, mmTy, mmAp, truth, E.pth, E.pu, Es.pu, imm, imms, fz, fzs, bind_one, bind_tup2, bind_tup3, bind_tup4, Tg.free, Tg.frees, Fd.kp, Fd.out, Fd.fin, finE, giveBack, wipeE, backE, seqOf, lcLoop, forLoop, lim, ix0, ix1, ix2, ix3, in0, in1, in2, dInts, imms_ints, imms_pairs, fzs_ints, fzs_pairs, fzs_app, imms_app, dInts_ints, in_lst, in_tup, dEq_int, idx_tup, idx_lst, hD0, hD1, hD2, imm_hs, opCut, isiT, tyD, hk, f15, hat, q1, q2, l1, pl2, hL, hcut, g1]
      | false =>
        obtain ⟨a, ha⟩ : ∃ z, z = (h.pair d).1 := ⟨_, rfl⟩
        obtain ⟨b, hb⟩ : ∃ z, z = (h.pair d).2 := ⟨_, rfl⟩
        have e2 : pairD (h.pair d) = .tup [.int a, .int b] := by rw [ha, hb]; rfl
        rw [e2] at e
        rw [← ha, ← hb] at p2
        by_cases g3 : a ∈ R ∨ b ∈ R
        · have g3' : (h.pair d).1 ∈ (h.run W).R ∨ (h.pair d).2 ∈ (h.run W).R := by rw [← ha, ← hb, ← hR]; exact g3
          by_cases g4 : hd = 0
          · refine .inl ⟨.key, some (.int d), some (.int a), some (.int b), x12, by simp [wdi, g1, g2, g3', ← hhd, g4], ?_⟩
            rw [← hhd, ← hR]
            have g5 : ¬ (a ∉ R ∧ b ∉ R) := fun z => g3.elim z.1 z.2
            have g6 : hd < 1 := by omega
            by_cases ca : a ∈ R <;> by_cases cb : b ∈ R <;> simp [ca, cb] at g3 <;>
            simp [l15_1, env15, rsd, Wd.s, Fd.run, evSs, evS, evT, evE, evEs, evOs, evCs, evP, evI, evIf, PF.ap, opLen, opMod, opAdd, opSum, opLt, opGt, opLe, stepD, getK, setD, putKs, setP, nodeAt, mmTy, mmAp, truth, E.pth, E.pu, Es.pu, imm, imms, fz, fzs, bind_one, bind_tup2, bind_tup3, bind_tup4, Tg.free, Tg.frees, Fd.kp, Fd.out, Fd.fin, finE, giveBack, wipeE, backE, seqOf, lcLoop, forLoop, lim, ix0, ix1, ix2, ix3, in0, in1, in2, dInts, imms_ints, imms_pairs, fzs_ints, fzs_pairs, fzs_app, imms_app, dInts_ints, in_lst, in_tup, dEq_int, idx_tup, idx_lst, hD0, hD1, hD2, imm_hs, opCut, isiT, tyD, hk, f15, hat, q1, q2, l1, pl2, hL, hcut, g1, e, ca, cb, g6]
          · refine .inr ⟨d, some (.int d), some (.int a), some (.int b), some (.int b), rfl, by simp [wdi, g1, g2, g3', ← hhd, g4], ?_⟩
            have g6 : ¬ hd < 1 := by omega
            have hin := l15_in (C := C) hk (h := h) (T := .tup L) (a := a) (b := b) (by omega) (by omega) (by omega) (by omega) (by omega) (R := R) (by omega) (hd := hd - 1) (en := false) (x8 := some (.int (W.length : Int))) (x9 := some (.int d)) (x10 := some (.int a)) (x11 := some (.int b)) (x12 := x12)
            have hp : h.pair d = (a, b) := by rw [ha, hb]
            rw [won_snoc, g2, run_snoc]
            simp only [Hs.st, ← hhd, ← hR, hp]
            by_cases ca : a ∈ R <;> by_cases cb : b ∈ R <;> simp [ca, cb] at g3 <;>
            simp [l15_1, env15, rsd, Wd.s, Fd.run, evSs, evS, evT, evE, evEs, evOs, evCs, evP, evI, evIf, PF.ap, opLen, opMod, opAdd, opSum, opLt, opGt, opLe, stepD, getK, setD, putKs, setP, nodeAt, mmTy, mmAp, truth, E.pth, E.pu, Es.pu, imm, imms, fz, fzs, bind_one, bind_tup2, bind_tup3, bind_tup4, Tg.free, Tg.frees, Fd.kp, Fd.out, Fd.fin, finE, giveBack, wipeE, backE, seqOf, lim, ix0, ix1, ix2, ix3, in0, in1, in2, dInts, imms_ints, imms_pairs, fzs_ints, fzs_pairs, fzs_app, imms_app, dInts_ints, in_lst, in_tup, dEq_int, idx_tup, idx_lst, hD0, hD1, hD2, imm_hs, opCut, isiT, tyD, hk, f15, hat, q1, q2, l1, pl2, hL, hcut, g1, e, ca, cb, g6, hin]
        · have g3' : ¬ ((h.pair d).1 ∈ (h.run W).R ∨ (h.pair d).2 ∈ (h.run W).R) := by rw [← ha, ← hb, ← hR]; exact g3
          refine .inl ⟨.far, some (.int d), some (.int a), some (.int b), x12, by simp only [wdi, g1, g2, if_false, Bool.false_eq_true]; rw [if_neg g3'], ?_⟩
          rw [← hhd, ← hR]
          simp only [not_or] at g3
          simp [l15_1, env15, rsd, Wd.s, Fd.run, evSs, evS, evT, evE, evEs, evOs, evCs, evP, evI, evIf, PF.ap, opLen, opMod, opAdd, opSum, opLt, opGt, opLe, stepD, getK, setD, putKs, setP, nodeAt, mmTy, mmAp, truth, E.pth, E.pu, Es.pu, imm, imms, fz, fzs, bind_one, bind_tup2, bind_tup3, bind_tup4, Tg.free, Tg.frees, Fd.kp, Fd.out, Fd.fin, finE, giveBack, wipeE, backE, seqOf, lcLoop, forLoop, lim, ix0, ix1, ix2, ix3, in0, in1, in2, dInts, imms_ints, imms_pairs, fzs_ints, fzs_pairs, fzs_app, imms_app, dInts_ints, in_lst, in_tup, dEq_int, idx_tup, idx_lst, hD0, hD1, hD2, imm_hs, opCut, isiT, tyD, hk, f15, hat, q1, q2, l1, pl2, hL, hcut, g1, e, g3]

theorem l15 {C : Z.Ctx} (hk : C.kp = f15.kp) {h : Hs} (ok : Ok2 h) {L : List Z.D} (hel : ∀ x ∈ L, El x) (hLl : L.length ≤ 900) : ∀ (r : List Z.D) (W : List Int), L = W.map .int ++ r → Wok h W → ∀ (x8 x9 x10 x11 x12 : Option Z.D),
    (∃ n w R hd en a b c d e, scan h W r = .inl (n, w) ∧ forLoop (.one 8) (evSs C l15_1) ((List.range' W.length r.length).map fun (i : Nat) => Z.D.int (i : Int)) (env15 h (.tup L) (h.run W).R (h.run W).hd (won h W) x8 x9 x10 x11 x12) = .ret (rsd n w) (env15 h (.tup L) R hd en a b c d e)) ∨
    (∃ V a b c d e, scan h W r = .inr (h.run V).hd ∧ forLoop (.one 8) (evSs C l15_1) ((List.range' W.length r.length).map fun (i : Nat) => Z.D.int (i : Int)) (env15 h (.tup L) (h.run W).R (h.run W).hd (won h W) x8 x9 x10 x11 x12) = .next (env15 h (.tup L) (h.run V).R (h.run V).hd (won h V) a b c d e))
  | [], W, _, _, x8, x9, x10, x11, x12 => .inr ⟨W, x8, x9, x10, x11, x12, rfl, by simp [forLoop]⟩
  | x :: r, W, e, w, x8, x9, x10, x11, x12 => by
    have hx : El x := hel x (by rw [e]; simp)
    have hlen := congrArg List.length e
    simp only [List.length_append, List.length_map, List.length_cons] at hlen
    have hat : atI L (W.length : Int) = some x := by rw [e, atI_nat (by omega) (by simp; omega)]; simp
    have hcut : cutL L none (some (W.length : Int)) = W.map .int := by rw [e, cut_take (by omega)]; simp
    have hb : ∀ n : Nat, bindT (.one 8) (.int (n : Int)) (env15 h (.tup L) (h.run W).R (h.run W).hd (won h W) x8 x9 x10 x11 x12) = some (env15 h (.tup L) (h.run W).R (h.run W).hd (won h W) (some (.int (n : Int))) x9 x10 x11 x12) := fun n => by simp [bind_one, env15]
    rw [List.length_cons, List.range'_succ, List.map_cons]
    simp only [forLoop, hb]
    rcases l15_step hk ok w (El.imms hel) hLl hx hat hcut (by omega) (x9 := x9) (x10 := x10) (x11 := x11) (x12 := x12) with ⟨wd, a, b, c, d, h1, h2⟩ | ⟨dr, a, b, c, d, h1, h2, h3⟩
    · refine .inl ⟨W.length, wd, _, _, _, _, a, b, c, d, ?_, by rw [h2]⟩
      simp only [scan]
      cases hg : gd h x with
      | none => rw [hg] at h1; simp at h1; rw [h1]
      | some d => rw [hg] at h1; simp only [] at h1; simp only [h1]
    · rw [h3]
      simp only []
      obtain ⟨rfl, hd2⟩ := gd_dr h1
      have ih := l15 hk ok hel hLl r (W ++ [dr]) (by rw [e]; simp) (wok_snoc ok w hd2 h2) (some (.int (W.length : Int))) a b c d
      simp only [List.length_append, List.length_cons, List.length_nil, Nat.zero_add] at ih
      simpa only [scan, h1, h2] using ih
def dueD : (Nat × Wd) ⊕ Int → Z.D
  | .inl (n, w) => rsd n w
  | .inr x => .tup [.str "told", .int x]
theorem c15 {k : Nat} {h : Hs} (ok : Ok2 h) {r : List Z.D} (hel : ∀ x ∈ r, El x) (hl : r.length ≤ 900) : callN fs (k + 1) 15 [h.D, .tup r] = .ok (dueD (scan h [] r)) [some h.D, some (.tup r)] := by
  obtain ⟨C, hc, hk, hr⟩ := enter (fs := fs) (f := f15) (k := k) (i := 15) (ds := [h.D, .tup r]) rfl rfl
  rw [hr, bd15]
  have ir := El.imms hel
  have hl2 : r.length ≤ 16777216 := by omega
  have hs62 : small62 (r.length : Int) = true := by simp [small62]; omega
  have e := at_key (h := h) (r := 0) (by omega) (by have := ok.ok.k0; omega)
  have hr0 : rng 0 (r.length : Int) = (List.range' 0 r.length).map fun (i : Nat) => Z.D.int (i : Int) := by rw [rng0, List.range_eq_range']
  have L := l15 (C := C) hk ok hel hl r [] (by simp) (wok_nil ok) none none none none none
  have f1 : (h.run []).R = [0] := rfl
  have f2 : (h.run []).hd = h.key 0 := rfl
  rw [won_nil ok, f1, f2] at L
  simp only [List.map_cons, List.map_nil, List.length_nil] at L
  rcases L with ⟨n, w, R, hd, en, a, b, c, d, e1, h1, h2⟩ | ⟨V, a, b, c, d, e1, h1, h2⟩
  · rw [h1]
    have iw := imm_s w
    simp only [env15, Hs.D, List.map_cons, List.map_nil] at h2
    simp [f15, d15, Fd.run, evSs, evS, evT, evE, evEs, evOs, evCs, evP, evI, evIf, PF.ap, opLen, opMod, opAdd, opSum, opLt, opGt, opLe, stepD, getK, setD, putKs, setP, nodeAt, mmTy, mmAp, truth, E.pth, E.pu, Es.pu, imm, imms, fz, fzs, bind_one, bind_tup2, bind_tup3, bind_tup4, Tg.free, Tg.frees, Fd.kp, Fd.out, Fd.fin, finE, giveBack, wipeE, backE, seqOf, lim, ix0, ix1, ix2, ix3, in0, in1, in2, dInts, imms_ints, imms_pairs, fzs_ints, fzs_pairs, fzs_app, imms_app, dInts_ints, in_lst, in_tup, dEq_int, idx_tup, idx_lst, hD0, hD1, hD2, imm_hs, isiT, tyD, hc, hk, hs62, hr0, Hs.D, bind_tup3, e, h2, dueD, ir, hl2, rsd, iw]
  · rw [h1]
    simp only [env15, Hs.D, List.map_cons, List.map_nil] at h2
    simp [f15, d15, Fd.run, evSs, evS, evT, evE, evEs, evOs, evCs, evP, evI, evIf, PF.ap, opLen, opMod, opAdd, opSum, opLt, opGt, opLe, stepD, getK, setD, putKs, setP, nodeAt, mmTy, mmAp, truth, E.pth, E.pu, Es.pu, imm, imms, fz, fzs, bind_one, bind_tup2, bind_tup3, bind_tup4, Tg.free, Tg.frees, Fd.kp, Fd.out, Fd.fin, finE, giveBack, wipeE, backE, seqOf, lim, ix0, ix1, ix2, ix3, in0, in1, in2, dInts, imms_ints, imms_pairs, fzs_ints, fzs_pairs, fzs_app, imms_app, dInts_ints, in_lst, in_tup, dEq_int, idx_tup, idx_lst, hD0, hD1, hD2, imm_hs, isiT, tyD, hc, hk, hs62, hr0, Hs.D, bind_tup3, e, h2, dueD, ir, hl2]
theorem c15n {k : Nat} {h : Hs} (ok : Ok2 h) {T : Z.D} (t : Nt T) : callN fs (k + 1) 15 [h.D, T] = .ok (.tup [.str "raised", .int (-1), .str "shape"]) [some h.D, some T] := by
  obtain ⟨C, hc, hk, hr⟩ := enter (fs := fs) (f := f15) (k := k) (i := 15) (ds := [h.D, T]) rfl rfl
  rw [hr, bd15]
  cases t <;> simp [f15, d15, Fd.run, evSs, evS, evT, evE, evEs, evOs, evCs, evP, evI, evIf, PF.ap, opLen, opMod, opAdd, opSum, opLt, opGt, opLe, stepD, getK, setD, putKs, setP, nodeAt, mmTy, mmAp, truth, E.pth, E.pu, Es.pu, imm, imms, fz, fzs, bind_one, bind_tup2, bind_tup3, bind_tup4, Tg.free, Tg.frees, Fd.kp, Fd.out, Fd.fin, finE, giveBack, wipeE, backE, seqOf, lcLoop, forLoop, lim, ix0, ix1, ix2, ix3, in0, in1, in2, dInts, imms_ints, imms_pairs, fzs_ints, fzs_pairs, fzs_app, imms_app, dInts_ints, in_lst, in_tup, dEq_int, idx_tup, idx_lst, hD0, hD1, hD2, imm_hs, isiT, tyD, hc, hk, Hs.D, bind_tup3]

theorem dEq_str {s t : Str} (h1 : PyData.strOk s = true) (h2 : PyData.strOk t = true) : dEq (.str s) (.str t) = some (decide (s = t)) := by
  simp only [dEq, toPy, Option.bind_some, SeqAt.shaped, PyData.canLay0, PyData.depth, PyData.eqv]
  by_cases hh : s = t
  · subst hh; simp [h1]
  · simp [hh, h1, h2]
theorem same_int {k : Nat} {i : Int} : callN fs (k + 1) 11 [.int i, .int i] = .ok (.bl true) [some (.int i), some (.int i)] := by
  obtain ⟨C, hc, hk, hr⟩ := enter (fs := fs) (f := f11) (k := k) (i := 11) (ds := [.int i, .int i]) rfl rfl
  rw [hr, bd11]
  simp [f11, d11, Fd.run, evSs, evS, evT, evE, evEs, evOs, evCs, evP, evI, evIf, PF.ap, opIdx, opLen, opMod, opAdd, opSum, opLt, opGt, opLe, stepD, getK, setD, putKs, setP, nodeAt, mmTy, mmAp, truth, E.pth, E.pu, Es.pu, imm, imms, fz, fzs, bind_one, bind_tup2, bind_tup3, bind_tup4, Tg.free, Tg.frees, Fd.kp, Fd.out, Fd.fin, finE, giveBack, wipeE, backE, seqOf, lcLoop, forLoop, lim, ix0, ix1, ix2, ix3, in0, in1, in2, dInts, imms_ints, imms_pairs, fzs_ints, fzs_pairs, fzs_app, imms_app, dInts_ints, in_lst, in_tup, dEq_int, tyD, isiT]
theorem same_str {k : Nat} {s : Str} (h1 : PyData.strOk s = true) : callN fs (k + 1) 11 [.str s, .str s] = .ok (.bl true) [some (.str s), some (.str s)] := by
  obtain ⟨C, hc, hk, hr⟩ := enter (fs := fs) (f := f11) (k := k) (i := 11) (ds := [.str s, .str s]) rfl rfl
  rw [hr, bd11]
  have e := dEq_str h1 h1
  simp at e
  simp [f11, d11, Fd.run, evSs, evS, evT, evE, evEs, evOs, evCs, evP, evI, evIf, PF.ap, opIdx, opLen, opMod, opAdd, opSum, opLt, opGt, opLe, stepD, getK, setD, putKs, setP, nodeAt, mmTy, mmAp, truth, E.pth, E.pu, Es.pu, imm, imms, fz, fzs, bind_one, bind_tup2, bind_tup3, bind_tup4, Tg.free, Tg.frees, Fd.kp, Fd.out, Fd.fin, finE, giveBack, wipeE, backE, seqOf, lcLoop, forLoop, lim, ix0, ix1, ix2, ix3, in0, in1, in2, dInts, imms_ints, imms_pairs, fzs_ints, fzs_pairs, fzs_app, imms_app, dInts_ints, in_lst, in_tup, dEq_int, tyD, isiT, e]
theorem same_tup {k : Nat} {ds : List Z.D} (hn : ds.length ≤ 100000) (hi : imms ds = true) (h : ∀ d ∈ ds, imm d = true ∧ callN fs k 11 [d, d] = .ok (.bl true) [some d, some d]) :
    callN fs (k + 1) 11 [.tup ds, .tup ds] = .ok (.bl true) [some (.tup ds), some (.tup ds)] := by
  obtain ⟨C, hc, hk, hr⟩ := enter (fs := fs) (f := f11) (k := k) (i := 11) (ds := [.tup ds, .tup ds]) rfl rfl
  rw [hr, bd11]
  have hs62 : small62 (ds.length : Int) = true := by simp [small62]; omega
  have hrg : rng 0 (ds.length : Int) = (List.range ds.length).map fun (i : Nat) => Z.D.int (i : Int) := rng0 _
  obtain ⟨e', hf, x, rfl⟩ := for_pre (t := .one 2) (body := evSs C l11_0) (fun (i : Nat) => Z.D.int (i : Int))
    (fun pre e => ∃ x, e = [some (.tup ds), some (.tup ds), x]) (List.range ds.length) [some (.tup ds), some (.tup ds), none] (by
      rintro pre i post e hp ⟨x, rfl⟩
      have hil : i < ds.length := by have := mem_pre hp; simpa using this
      have ha : atI ds (i : Int) = some ds[i] := by
        rw [atI_nat (by omega) (by omega)]
        simp [List.getElem?_eq_getElem hil]
      obtain ⟨h1, h2⟩ := h ds[i] (List.getElem_mem hil)
      exact ⟨[some (.tup ds), some (.tup ds), some (.int (i : Int))], [some (.tup ds), some (.tup ds), some (.int (i : Int))], by simp [Fd.run, evSs, evS, evT, evE, evEs, evOs, evCs, evP, evI, evIf, PF.ap, opLen, opMod, opAdd, opSum, opLt, opGt, opLe, stepD, getK, setD, putKs, setP, nodeAt, mmTy, mmAp, truth, E.pth, E.pu, Es.pu, imm, imms, fz, fzs, bind_one, bind_tup2, bind_tup3, bind_tup4, Tg.free, Tg.frees, Fd.kp, Fd.out, Fd.fin, finE, giveBack, wipeE, backE, seqOf, lcLoop, forLoop, lim, ix0, ix1, ix2, ix3, in0, in1, in2, dInts, imms_ints, imms_pairs, fzs_ints, fzs_pairs, fzs_app, imms_app, dInts_ints, in_lst, in_tup, dEq_int, idx_tup, idx_lst, hD0, hD1, hD2, imm_hs], .inl (by simp [l11_0, Fd.run, evSs, evS, evT, evE, evEs, evOs, evCs, evP, evI, evIf, PF.ap, opLen, opMod, opAdd, opSum, opLt, opGt, opLe, stepD, getK, setD, putKs, setP, nodeAt, mmTy, mmAp, truth, E.pth, E.pu, Es.pu, imm, imms, fz, fzs, bind_one, bind_tup2, bind_tup3, bind_tup4, Tg.free, Tg.frees, Fd.kp, Fd.out, Fd.fin, finE, giveBack, wipeE, backE, seqOf, lcLoop, forLoop, lim, ix0, ix1, ix2, ix3, in0, in1, in2, dInts, imms_ints, imms_pairs, fzs_ints, fzs_pairs, fzs_app, imms_app, dInts_ints, in_lst, in_tup, dEq_int, idx_tup, idx_lst, hD0, hD1, hD2, imm_hs, hi, ha, hc, h1, h2]), _, rfl⟩) ⟨none, rfl⟩
  simp [f11, d11, Fd.run, evSs, evS, evT, evE, evEs, evOs, evCs, evP, evI, evIf, PF.ap, opLen, opMod, opAdd, opSum, opLt, opGt, opLe, stepD, getK, setD, putKs, setP, nodeAt, mmTy, mmAp, truth, E.pth, E.pu, Es.pu, imm, imms, fz, fzs, bind_one, bind_tup2, bind_tup3, bind_tup4, Tg.free, Tg.frees, Fd.kp, Fd.out, Fd.fin, finE, giveBack, wipeE, backE, seqOf, lim, ix0, ix1, ix2, ix3, in0, in1, in2, dInts, imms_ints, imms_pairs, fzs_ints, fzs_pairs, fzs_app, imms_app, dInts_ints, in_lst, in_tup, dEq_int, idx_tup, idx_lst, hD0, hD1, hD2, imm_hs, tyD, isiT, hi, hk, hs62, hrg, hf]
theorem same_bl {k : Nat} {i : Bool} : callN fs (k + 1) 11 [.bl i, .bl i] = .ok (.bl true) [some (.bl i), some (.bl i)] := by
  obtain ⟨C, hc, hk, hr⟩ := enter (fs := fs) (f := f11) (k := k) (i := 11) (ds := [.bl i, .bl i]) rfl rfl
  rw [hr, bd11]
  have e : dEq (.bl i) (.bl i) = some true := by cases i <;> decide
  simp [f11, d11, Fd.run, evSs, evS, evT, evE, evEs, evOs, evCs, evP, evI, evIf, PF.ap, opIdx, opLen, opMod, opAdd, opSum, opLt, opGt, opLe, stepD, getK, setD, putKs, setP, nodeAt, mmTy, mmAp, truth, E.pth, E.pu, Es.pu, imm, imms, fz, fzs, bind_one, bind_tup2, bind_tup3, bind_tup4, Tg.free, Tg.frees, Fd.kp, Fd.out, Fd.fin, finE, giveBack, wipeE, backE, seqOf, lcLoop, forLoop, lim, ix0, ix1, ix2, ix3, in0, in1, in2, dInts, imms_ints, imms_pairs, fzs_ints, fzs_pairs, fzs_app, imms_app, dInts_ints, in_lst, in_tup, dEq_int, tyD, isiT, e]
theorem ok_s (w : Wd) : ∃ s, w.s = .str s ∧ PyData.strOk s = true := by
  cases w <;> exact ⟨_, rfl, by decide +kernel⟩
theorem ok_raised : PyData.strOk "raised" = true := by decide +kernel
theorem ok_told : PyData.strOk "told" = true := by decide +kernel
theorem like_due {k : Nat} (x : (Nat × Wd) ⊕ Int) : callN fs (k + 1 + 1) 11 [dueD x, dueD x] = .ok (.bl true) [some (dueD x), some (dueD x)] := by
  cases x with
  | inl p =>
    obtain ⟨n, w⟩ := p
    obtain ⟨s, e, h⟩ := ok_s w
    simp only [dueD, rsd, e]
    refine same_tup (by simp) (by simp [imms, imm]) fun d hd => ?_
    simp only [List.mem_cons, List.not_mem_nil, or_false] at hd
    rcases hd with rfl | rfl | rfl
    · exact ⟨rfl, same_str ok_raised⟩
    · exact ⟨rfl, same_int⟩
    · exact ⟨rfl, same_str h⟩
  | inr x =>
    simp only [dueD]
    refine same_tup (by simp) (by simp [imms, imm]) fun d hd => ?_
    simp only [List.mem_cons, List.not_mem_nil, or_false] at hd
    rcases hd with rfl | rfl
    · exact ⟨rfl, same_str ok_told⟩
    · exact ⟨rfl, same_int⟩
theorem like_sh {k : Nat} : callN fs (k + 1 + 1) 11 [.tup [.str "raised", .int (-1), .str "shape"], .tup [.str "raised", .int (-1), .str "shape"]] = .ok (.bl true) [some (.tup [.str "raised", .int (-1), .str "shape"]), some (.tup [.str "raised", .int (-1), .str "shape"])] := by
  refine same_tup (by simp) (by simp [imms, imm]) fun d hd => ?_
  simp only [List.mem_cons, List.not_mem_nil, or_false] at hd
  rcases hd with rfl | rfl | rfl
  · exact ⟨rfl, same_str ok_raised⟩
  · exact ⟨rfl, same_int⟩
  · obtain ⟨s, e, h⟩ := ok_s .shape
    simp only [Wd.s] at e
    rw [e]
    exact ⟨rfl, same_str h⟩
theorem imm_due (x : (Nat × Wd) ⊕ Int) : imm (dueD x) = true := by
  cases x with
  | inl p => obtain ⟨n, w⟩ := p; simp [dueD, rsd, imm, imms, imm_s]
  | inr x => rfl
theorem eq_rt : dEq (.str "raised") (.str "told") = some false := by rw [dEq_str ok_raised ok_told]; decide
theorem eq_tt : dEq (.str "told") (.str "told") = some true := by rw [dEq_str ok_told ok_told]; simp
theorem c17 {k : Nat} {h : Hs} (ok : Ok2 h) {r : List Z.D} (hel : ∀ x ∈ r, El x) (hl : r.length ≤ 900) : callN fs (k + 1 + 1 + 1 + 1 + 1 + 1) 17 [h.D, .tup r] = .ok (.bl true) [some h.D, some (.tup r)] := by
  obtain ⟨C, hc, hk, hr⟩ := enter (fs := fs) (f := f17) (k := k + 1 + 1 + 1 + 1 + 1) (i := 17) (ds := [h.D, .tup r]) rfl rfl
  rw [hr, bd17]
  have ir := El.imms hel
  have e15 := c15 (k := k + 1 + 1 + 1 + 1) ok hel hl
  have e8 := c8 (k := k) ok hel hl
  have e7 := c7 (k := k + 1) ok hel hl
  have eL := like_due (k := k + 1 + 1 + 1) (scan h [] r)
  have iD := imm_due (scan h [] r)
  have eb : ∀ b : Bool, callN fs (k + 1 + 1 + 1 + 1 + 1) 11 [.bl b, .bl b] = .ok (.bl true) [some (.bl b), some (.bl b)] := fun b => same_bl
  cases hs : scan h [] r with
  | inl p =>
    obtain ⟨n, w⟩ := p
    rw [hs] at e15 e8 e7 eL iD
    simp only [chk] at e7
    simp only [dueD, rsd, Sum.isRight] at e15 e8 eL iD
    have iw := imm_s w
    have := eb false
    simp [f17, d17, Fd.run, evSs, evS, evT, evE, evEs, evOs, evCs, evP, evI, evIf, PF.ap, opLen, opMod, opAdd, opSum, opLt, opGt, opLe, stepD, getK, setD, putKs, setP, nodeAt, mmTy, mmAp, truth, E.pth, E.pu, Es.pu, imm, imms, fz, fzs, bind_one, bind_tup2, bind_tup3, bind_tup4, Tg.free, Tg.frees, Fd.kp, Fd.out, Fd.fin, finE, giveBack, wipeE, backE, seqOf, lcLoop, forLoop, lim, ix0, ix1, ix2, ix3, in0, in1, in2, dInts, imms_ints, imms_pairs, fzs_ints, fzs_pairs, fzs_app, imms_app, dInts_ints, in_lst, in_tup, dEq_int, idx_tup, idx_lst, hD0, hD1, hD2, imm_hs, hc, hk, e15, e8, e7, eL, iD, iw, ir, this, eq_rt, hFind, hrOut, heOut, hesOut, hrEnd, slotsV]
  | inr x =>
    rw [hs] at e15 e8 e7 eL iD
    simp only [chk] at e7
    simp only [dueD, rsd, Sum.isRight] at e15 e8 eL iD
    have := eb true
    simp [f17, d17, Fd.run, evSs, evS, evT, evE, evEs, evOs, evCs, evP, evI, evIf, PF.ap, opLen, opMod, opAdd, opSum, opLt, opGt, opLe, stepD, getK, setD, putKs, setP, nodeAt, mmTy, mmAp, truth, E.pth, E.pu, Es.pu, imm, imms, fz, fzs, bind_one, bind_tup2, bind_tup3, bind_tup4, Tg.free, Tg.frees, Fd.kp, Fd.out, Fd.fin, finE, giveBack, wipeE, backE, seqOf, lcLoop, forLoop, lim, ix0, ix1, ix2, ix3, in0, in1, in2, dInts, imms_ints, imms_pairs, fzs_ints, fzs_pairs, fzs_app, imms_app, dInts_ints, in_lst, in_tup, dEq_int, idx_tup, idx_lst, hD0, hD1, hD2, imm_hs, hc, hk, e15, e8, e7, eL, iD, ir, this, eq_tt, hFind, hrOut, heOut, hesOut, hrEnd, slotsV]
theorem c17n {k : Nat} {h : Hs} (ok : Ok2 h) {T : Z.D} (t : Nt T) : ∃ o, callN fs (k + 1 + 1 + 1 + 1 + 1 + 1) 17 [h.D, T] = .ok (.bl true) [some h.D, o] := by
  obtain ⟨C, hc, hk, hr⟩ := enter (fs := fs) (f := f17) (k := k + 1 + 1 + 1 + 1 + 1) (i := 17) (ds := [h.D, T]) rfl rfl
  have e15 := c15n (k := k + 1 + 1 + 1 + 1) ok t
  have e8 := c8n (k := k + 1 + 1 + 1) (h := h) t
  have e7 := c7n (k := k + 1 + 1 + 1 + 1) (h := h) t
  have eL := like_sh (k := k + 1 + 1 + 1)
  have eb : callN fs (k + 1 + 1 + 1 + 1 + 1) 11 [.bl false, .bl false] = .ok (.bl true) [some (.bl false), some (.bl false)] := same_bl
  refine ⟨some T, ?_⟩
  rw [hr, bd17]
  cases t with
  | lst m ds => cases m <;> by_cases q : imms ds = true <;> simp [f17, d17, Fd.run, evSs, evS, evT, evE, evEs, evOs, evCs, evP, evI, evIf, PF.ap, opLen, opMod, opAdd, opSum, opLt, opGt, opLe, stepD, getK, setD, putKs, setP, nodeAt, mmTy, mmAp, truth, E.pth, E.pu, Es.pu, imm, imms, fz, fzs, bind_one, bind_tup2, bind_tup3, bind_tup4, Tg.free, Tg.frees, Fd.kp, Fd.out, Fd.fin, finE, giveBack, wipeE, backE, seqOf, lcLoop, forLoop, lim, ix0, ix1, ix2, ix3, in0, in1, in2, dInts, imms_ints, imms_pairs, fzs_ints, fzs_pairs, fzs_app, imms_app, dInts_ints, in_lst, in_tup, dEq_int, idx_tup, idx_lst, hD0, hD1, hD2, imm_hs, hc, hk, e15, e8, e7, eL, eb, q, eq_rt, hFind, hrOut, heOut, hesOut, hrEnd, slotsV]
  | _ => simp [f17, d17, Fd.run, evSs, evS, evT, evE, evEs, evOs, evCs, evP, evI, evIf, PF.ap, opLen, opMod, opAdd, opSum, opLt, opGt, opLe, stepD, getK, setD, putKs, setP, nodeAt, mmTy, mmAp, truth, E.pth, E.pu, Es.pu, imm, imms, fz, fzs, bind_one, bind_tup2, bind_tup3, bind_tup4, Tg.free, Tg.frees, Fd.kp, Fd.out, Fd.fin, finE, giveBack, wipeE, backE, seqOf, lcLoop, forLoop, lim, ix0, ix1, ix2, ix3, in0, in1, in2, dInts, imms_ints, imms_pairs, fzs_ints, fzs_pairs, fzs_app, imms_app, dInts_ints, in_lst, in_tup, dEq_int, idx_tup, idx_lst, hD0, hD1, hD2, imm_hs, hc, hk, e15, e8, e7, eL, eb, eq_rt, hFind, hrOut, heOut, hesOut, hrEnd, slotsV]

def Gd (many : Int) (p : Int × Int) : Prop := 0 ≤ p.1 ∧ p.1 < p.2 ∧ p.2 < many
theorem pairs_one (ps : List (Int × Int)) (a b : Int) : ps.map pairD ++ [.tup [.int a, .int b]] = (ps ++ [(a, b)]).map pairD := by simp [pairD]
theorem pairs_two (ps : List (Int × Int)) (a b : Int) : ps.map pairD ++ [.tup [.int a, .int b], .tup [.int a, .int b]] = (ps ++ [(a, b), (a, b)]).map pairD := by simp [pairD]
theorem c12_l0 {C : Z.Ctx} {k : Nat} (hc : C.call = callN fs (k + 1)) (hk : C.kp = f12.kp) {s : Z.D} (hs : Purse s) {wide : Bool} {many : Int} (m0 : 2 ≤ many) {ps : List (Int × Int)} (hpl : ps.length ≤ 150) (hps : ∀ p ∈ ps, Gd many p) {x4 x5 x6 x7 x8 x9 : Option Z.D} :
    ∃ (s' : Z.D) (qs : List (Int × Int)) (y5 y6 : Option Z.D), evSs C l12_0 [some s, some (.bl wide), some (.int many), some (.lst false (ps.map pairD)), x4, x5, x6, x7, x8, x9] =
      .next [some s', some (.bl wide), some (.int many), some (.lst false (qs.map pairD)), x4, y5, y6, x7, x8, x9] ∧ Purse s' ∧ qs.length ≤ 150 ∧ ∀ p ∈ qs, Gd many p := by
  obtain ⟨a, s1, e1, hs1, a0, a1⟩ := c10 (k := k) hs (many - 1)
  obtain ⟨b, s2, e2, hs2, b0, b1⟩ := c10 (k := k) hs1 2
  have i0 := hs.imm
  have i1 := hs1.imm
  have i2 := hs2.imm
  obtain ⟨A, hA⟩ : ∃ A, A = many - a - 1 := ⟨_, rfl⟩
  obtain ⟨B, hB, B0, B1⟩ : ∃ B : Int, (if A < 3 then A else 3) = B ∧ 1 ≤ B ∧ B ≤ A := ⟨_, rfl, by split <;> omega, by split <;> omega⟩
  obtain ⟨n, hn, hat⟩ := atI_ints (ps := [A, B]) (i := b) b0 (by simp; omega)
  simp only [List.map_cons, List.map_nil] at hat
  have n0 : 1 ≤ n ∧ n ≤ A := by simp at hn; omega
  obtain ⟨c, s3, e3, hs3, c0, c1⟩ := c10 (k := k) hs2 n
  have i3 := hs3.imm
  obtain ⟨o, ho⟩ : ∃ o, o = a + 1 + c := ⟨_, rfl⟩
  have hg : Gd many (a, o) := ⟨a0, by simp only; omega, by simp only; omega⟩
  obtain ⟨Y, hY⟩ : ∃ Y, Y = ps.map pairD := ⟨_, rfl⟩
  have iY : imms Y = true := by rw [hY]; exact imms_pairs ps
  have hYl : Y.length = ps.length := by rw [hY]; simp
  have hl0 : Y.length ≤ 16777216 := by omega
  by_cases q : ps.length < 149
  · obtain ⟨d, s4, e4, hs4, d0, d1⟩ := c10 (k := k) hs3 6
    have i4 := hs4.imm
    have q1 : (Y.length : Int) < 149 := by omega
    have hl1 : Y.length + 1 ≤ 16777216 := by omega
    have hl2 : Y.length + 2 ≤ 16777216 := by omega
    have fY : fzs Y = Y := by rw [hY]; exact fzs_pairs ps
    by_cases q2 : d = 0
    · refine ⟨s4, ps ++ [(a, o), (a, o)], some (.int a), some (.int o), ?_, hs4, by simp; omega, fun p hp => ?_⟩
      · rw [← pairs_two, ← hY]
        subst q2
        simp [l12_0, Fd.run, evSs, evS, evT, evE, evEs, evOs, evCs, evP, evI, evIf, PF.ap, opLen, opMod, opAdd, opSum, opLt, opGt, opLe, stepD, getK, setD, putKs, setP, nodeAt, mmTy, mmAp, truth, E.pth, E.pu, Es.pu, imm, imms, fz, fzs, bind_one, bind_tup2, bind_tup3, bind_tup4, Tg.free, Tg.frees, Fd.kp, Fd.out, Fd.fin, finE, giveBack, wipeE, backE, seqOf, lcLoop, forLoop, lim, ix0, ix1, ix2, ix3, in0, in1, in2, dInts, imms_ints, imms_pairs, fzs_ints, fzs_pairs, fzs_app, imms_app, dInts_ints, in_lst, in_tup, dEq_int, idx_tup, idx_lst, hD0, hD1, hD2, imm_hs, hc, hk, f12, e1, e2, e3, e4, i0, i1, i2, i3, i4, ← hA, hB, hat, ← ho, hl0, q1, opMul, iY, hl2, fY, List.replicate]
      · rcases List.mem_append.mp hp with hp | hp
        · exact hps p hp
        · simp only [List.mem_cons, List.not_mem_nil, or_false, or_self] at hp
          rw [hp]; exact hg
    · refine ⟨s4, ps ++ [(a, o)], some (.int a), some (.int o), ?_, hs4, by simp; omega, fun p hp => ?_⟩
      · rw [← pairs_one, ← hY]
        simp [l12_0, Fd.run, evSs, evS, evT, evE, evEs, evOs, evCs, evP, evI, evIf, PF.ap, opLen, opMod, opAdd, opSum, opLt, opGt, opLe, stepD, getK, setD, putKs, setP, nodeAt, mmTy, mmAp, truth, E.pth, E.pu, Es.pu, imm, imms, fz, fzs, bind_one, bind_tup2, bind_tup3, bind_tup4, Tg.free, Tg.frees, Fd.kp, Fd.out, Fd.fin, finE, giveBack, wipeE, backE, seqOf, lcLoop, forLoop, lim, ix0, ix1, ix2, ix3, in0, in1, in2, dInts, imms_ints, imms_pairs, fzs_ints, fzs_pairs, fzs_app, imms_app, dInts_ints, in_lst, in_tup, dEq_int, idx_tup, idx_lst, hD0, hD1, hD2, imm_hs, hc, hk, f12, e1, e2, e3, e4, i0, i1, i2, i3, i4, ← hA, hB, hat, ← ho, hl0, q1, q2, opMul, iY, hl1, fY, List.replicate]
      · rcases List.mem_append.mp hp with hp | hp
        · exact hps p hp
        · simp only [List.mem_singleton] at hp
          rw [hp]; exact hg
  · refine ⟨s3, ps, some (.int a), some (.int o), ?_, hs3, hpl, hps⟩
    have q1 : ¬ (Y.length : Int) < 149 := by omega
    rw [← hY]
    simp [l12_0, Fd.run, evSs, evS, evT, evE, evEs, evOs, evCs, evP, evI, evIf, PF.ap, opLen, opMod, opAdd, opSum, opLt, opGt, opLe, stepD, getK, setD, putKs, setP, nodeAt, mmTy, mmAp, truth, E.pth, E.pu, Es.pu, imm, imms, fz, fzs, bind_one, bind_tup2, bind_tup3, bind_tup4, Tg.free, Tg.frees, Fd.kp, Fd.out, Fd.fin, finE, giveBack, wipeE, backE, seqOf, lcLoop, forLoop, lim, ix0, ix1, ix2, ix3, in0, in1, in2, dInts, imms_ints, imms_pairs, fzs_ints, fzs_pairs, fzs_app, imms_app, dInts_ints, in_lst, in_tup, dEq_int, idx_tup, idx_lst, hD0, hD1, hD2, imm_hs, hc, hk, f12, e1, e2, e3, i0, i1, i2, i3, ← hA, hB, hat, ← ho, hl0, q1, iY]

theorem eqv_ints : ∀ (xs ys : List Int), PyData.eqvAll (xs.map .int) (ys.map .int) = decide (xs = ys)
  | [], [] => by simp [PyData.eqvAll]
  | [], y :: ys => by simp [PyData.eqvAll]
  | x :: xs, [] => by simp [PyData.eqvAll]
  | x :: xs, y :: ys => by
    simp only [List.map_cons, PyData.eqvAll, PyData.eqv, eqv_ints xs ys, List.cons.injEq, Bool.decide_and]
    by_cases c : x = y <;> simp [c]
theorem dEq_nil {m n : Bool} (xs : List Int) : dEq (.lst m (xs.map .int)) (.lst n []) = some (decide (xs = [])) := by
  have e := eqv_ints xs []
  simp only [List.map_nil] at e
  have l1 := lay_ints xs
  have l2 := lay_ints []
  simp only [List.map_nil] at l2
  simp only [dEq, toPy, toPys_ints, toPys, Option.bind_some, Option.map_some, SeqAt.shaped, PyData.canLay0, PyData.depth, l1, l2, PyData.eqv, e]
  simp
/-- the numbers 1 .. many - 1 -/
def from1 (many : Int) : List Int := (List.range (many - 1).toNat).map fun (i : Nat) => 1 + (i : Int)
theorem rng_from1 (many : Int) : rng 1 many = (from1 many).map .int := by rw [rng1Z]; simp [from1]
theorem from1_len {many : Int} (h : 1 ≤ many) : ((from1 many).length : Int) = many - 1 := by simp [from1]; omega
theorem from1_mem {many x : Int} (h : x ∈ from1 many) : 1 ≤ x ∧ x < many := by
  simp only [from1, List.mem_map, List.mem_range] at h
  obtain ⟨i, hi, rfl⟩ := h
  omega
theorem ixn {n : Nat} {i : Int} (h0 : 0 ≤ i) (h : i < n) : ixN n i = some i.toNat := by simp [ixN, h0, h]
theorem c12_a {C : Z.Ctx} {k : Nat} (hc : C.call = callN fs (k + 1)) (hk : C.kp = f12.kp) {s : Z.D} (hs : Purse s) {wide : Bool} :
    ∃ (s' : Z.D) (many : Int) (ps : List (Int × Int)) (x4 x5 x6 : Option Z.D), evSs C (takeS 3 d12) [some s, some (.bl wide), none, none, none, none, none, none, none, none] =
      .next [some s', some (.bl wide), some (.int many), some (.lst false (ps.map pairD)), x4, x5, x6, none, none, none] ∧ Purse s' ∧ 2 ≤ many ∧ many ≤ 60 ∧ ps.length ≤ 150 ∧ ∀ p ∈ ps, Gd many p := by
  obtain ⟨q, hq, q0, q1⟩ : ∃ q : Int, (if wide = true then 59 else 6) = q ∧ 1 ≤ q ∧ q ≤ 59 := ⟨_, rfl, by split <;> omega, by split <;> omega⟩
  obtain ⟨a, s1, e1, hs1, a0, a1⟩ := c10 (k := k) hs q
  obtain ⟨b, s2, e2, hs2, b0, b1⟩ := c10 (k := k) hs1 10
  obtain ⟨c, s3, e3, hs3, c0, c1⟩ := c10 (k := k) hs2 91
  have i0 := hs.imm
  have i1 := hs1.imm
  have i2 := hs2.imm
  have i3 := hs3.imm
  obtain ⟨many, hm⟩ : ∃ many, many = 2 + a := ⟨_, rfl⟩
  obtain ⟨T, hT, T0, T1⟩ : ∃ T : Int, (if wide = true then 60 + c else b) = T ∧ 0 ≤ T ∧ T ≤ 200 := ⟨_, rfl, by split <;> omega, by split <;> omega⟩
  obtain ⟨N, hN, hrg⟩ : ∃ N : Nat, (N : Int) = T ∧ rng 0 T = (List.range N).map fun (i : Nat) => Z.D.int (i : Int) := ⟨T.toNat, by omega, rngZ' _⟩
  have hs62 : small62 T = true := by simp [small62]; omega
  obtain ⟨e', hf, s4, ps, x4, x5, x6, rfl, hs4, hpl, hps⟩ := for_pre (t := .one 4) (body := evSs C l12_0) (fun (i : Nat) => Z.D.int (i : Int))
    (fun pre e => ∃ (s' : Z.D) (ps : List (Int × Int)) (x4 x5 x6 : Option Z.D), e = [some s', some (.bl wide), some (.int many), some (.lst false (ps.map pairD)), x4, x5, x6, none, none, none] ∧ Purse s' ∧ ps.length ≤ 150 ∧ ∀ p ∈ ps, Gd many p) (List.range N)
    [some s3, some (.bl wide), some (.int many), some (.lst false []), none, none, none, none, none, none] (by
      rintro pre i post e hpi ⟨s', ps, x4, x5, x6, rfl, hs', hpl, hps⟩
      obtain ⟨s5, qs, y5, y6, hb, hs5, hql, hqs⟩ := c12_l0 (k := k) hc hk hs' (wide := wide) (many := many) (by omega) hpl hps (x4 := some (.int (i : Int))) (x5 := x5) (x6 := x6) (x7 := none) (x8 := none) (x9 := none)
      exact ⟨[some s', some (.bl wide), some (.int many), some (.lst false (ps.map pairD)), some (.int (i : Int)), x5, x6, none, none, none], _, by simp [Fd.run, evSs, evS, evT, evE, evEs, evOs, evCs, evP, evI, evIf, PF.ap, opLen, opMod, opAdd, opSum, opLt, opGt, opLe, stepD, getK, setD, putKs, setP, nodeAt, mmTy, mmAp, truth, E.pth, E.pu, Es.pu, imm, imms, fz, fzs, bind_one, bind_tup2, bind_tup3, bind_tup4, Tg.free, Tg.frees, Fd.kp, Fd.out, Fd.fin, finE, giveBack, wipeE, backE, seqOf, lcLoop, forLoop, lim, ix0, ix1, ix2, ix3, in0, in1, in2, dInts, imms_ints, imms_pairs, fzs_ints, fzs_pairs, fzs_app, imms_app, dInts_ints, in_lst, in_tup, dEq_int, idx_tup, idx_lst, hD0, hD1, hD2, imm_hs], .inl hb, s5, qs, _, y5, y6, rfl, hs5, hql, hqs⟩) ⟨s3, [], none, none, none, rfl, hs3, by simp, by simp⟩
  refine ⟨s4, many, ps, x4, x5, x6, ?_, hs4, by omega, by omega, hpl, hps⟩
  cases wide
  · simp only [Bool.false_eq_true, if_false] at hT hq
    subst hT hq
    simp [takeS, d12, Fd.run, evSs, evS, evT, evE, evEs, evOs, evCs, evP, evI, evIf, PF.ap, opLen, opMod, opAdd, opSum, opLt, opGt, opLe, stepD, getK, setD, putKs, setP, nodeAt, mmTy, mmAp, truth, E.pth, E.pu, Es.pu, imm, imms, fz, fzs, bind_one, bind_tup2, bind_tup3, bind_tup4, Tg.free, Tg.frees, Fd.kp, Fd.out, Fd.fin, finE, giveBack, wipeE, backE, seqOf, lim, ix0, ix1, ix2, ix3, in0, in1, in2, dInts, imms_ints, imms_pairs, fzs_ints, fzs_pairs, fzs_app, imms_app, dInts_ints, in_lst, in_tup, dEq_int, idx_tup, idx_lst, hD0, hD1, hD2, imm_hs, ui12_0, ue12_0, pe12_0, ui12_1, ue12_1, pe12_1, hc, hk, f12, e1, e2, e3, i0, i1, i2, ← hm, hs62, hrg, hf]
  · simp only [if_true] at hT hq
    subst hT hq
    simp [takeS, d12, Fd.run, evSs, evS, evT, evE, evEs, evOs, evCs, evP, evI, evIf, PF.ap, opLen, opMod, opAdd, opSum, opLt, opGt, opLe, stepD, getK, setD, putKs, setP, nodeAt, mmTy, mmAp, truth, E.pth, E.pu, Es.pu, imm, imms, fz, fzs, bind_one, bind_tup2, bind_tup3, bind_tup4, Tg.free, Tg.frees, Fd.kp, Fd.out, Fd.fin, finE, giveBack, wipeE, backE, seqOf, lim, ix0, ix1, ix2, ix3, in0, in1, in2, dInts, imms_ints, imms_pairs, fzs_ints, fzs_pairs, fzs_app, imms_app, dInts_ints, in_lst, in_tup, dEq_int, idx_tup, idx_lst, hD0, hD1, hD2, imm_hs, ui12_0, ue12_0, pe12_0, ui12_1, ue12_1, pe12_1, hc, hk, f12, e1, e2, e3, i0, i1, i2, ← hm, hs62, hrg, hf]
theorem c12_b {C : Z.Ctx} {k : Nat} (hc : C.call = callN fs (k + 1)) (hk : C.kp = f12.kp) {s : Z.D} (hs : Purse s) {wide : Bool} {many : Int} (m0 : 2 ≤ many) (m1 : many ≤ 60) {x3 x4 x5 x6 : Option Z.D} :
    ∃ (s' : Z.D) (hl : List Int), evSs C (takeS 2 (dropS 3 d12)) [some s, some (.bl wide), some (.int many), x3, x4, x5, x6, none, none, none] =
      .next [some s', some (.bl wide), some (.int many), x3, x4, x5, x6, some (.lst false (hl.map .int)), none, none] ∧ Purse s' ∧ hl.length ≤ 60 ∧ ∀ x ∈ hl, 1 ≤ x ∧ x < many := by
  have hlen := from1_len (many := many) (by omega)
  obtain ⟨q, hq⟩ : ∃ q : Int, (if wide = true then 25 else 5) = q := ⟨_, rfl⟩
  obtain ⟨rs, e', hl1, s1, hl, rfl, rfl, hs1, hll, hlm⟩ := lc_pre (own := [9]) (t := .one 9) (ifs := evIf C i12_0) (el := evE C e12_0) (pth := true) Z.D.int
    (fun pre out e => ∃ (s' : Z.D) (hl : List Int), out = hl.map .int ∧ e = [some s', some (.bl wide), some (.int many), x3, x4, x5, x6, none, none, none] ∧ Purse s' ∧ hl.length ≤ pre.length ∧ ∀ x ∈ hl, 1 ≤ x ∧ x < many) (from1 many)
    [some s, some (.bl wide), some (.int many), x3, x4, x5, x6, none, none, none] (by
      rintro pre i post out e hpi ⟨s', hl, rfl, rfl, hs', hll, hlm⟩
      obtain ⟨a, s2, e1, hs2, _, _⟩ := c10 (k := k) hs' q
      have i0 := hs'.imm
      have hi := from1_mem (mem_pre hpi)
      refine ⟨[some s', some (.bl wide), some (.int many), x3, x4, x5, x6, none, none, some (.int i)], decide (a = 0), [some s2, some (.bl wide), some (.int many), x3, x4, x5, x6, none, none, some (.int i)], by simp [Fd.run, evSs, evS, evT, evE, evEs, evOs, evCs, evP, evI, evIf, PF.ap, opLen, opMod, opAdd, opSum, opLt, opGt, opLe, stepD, getK, setD, putKs, setP, nodeAt, mmTy, mmAp, truth, E.pth, E.pu, Es.pu, imm, imms, fz, fzs, bind_one, bind_tup2, bind_tup3, bind_tup4, Tg.free, Tg.frees, Fd.kp, Fd.out, Fd.fin, finE, giveBack, wipeE, backE, seqOf, lcLoop, forLoop, lim, ix0, ix1, ix2, ix3, in0, in1, in2, dInts, imms_ints, imms_pairs, fzs_ints, fzs_pairs, fzs_app, imms_app, dInts_ints, in_lst, in_tup, dEq_int, idx_tup, idx_lst, hD0, hD1, hD2, imm_hs], ?_,
        fun _ => ⟨.int i, [some s2, some (.bl wide), some (.int many), x3, x4, x5, x6, none, none, some (.int i)], by simp [e12_0, Fd.run, evSs, evS, evT, evE, evEs, evOs, evCs, evP, evI, evIf, PF.ap, opLen, opMod, opAdd, opSum, opLt, opGt, opLe, stepD, getK, setD, putKs, setP, nodeAt, mmTy, mmAp, truth, E.pth, E.pu, Es.pu, imm, imms, fz, fzs, bind_one, bind_tup2, bind_tup3, bind_tup4, Tg.free, Tg.frees, Fd.kp, Fd.out, Fd.fin, finE, giveBack, wipeE, backE, seqOf, lcLoop, forLoop, lim, ix0, ix1, ix2, ix3, in0, in1, in2, dInts, imms_ints, imms_pairs, fzs_ints, fzs_pairs, fzs_app, imms_app, dInts_ints, in_lst, in_tup, dEq_int, idx_tup, idx_lst, hD0, hD1, hD2, imm_hs], rfl, s2, hl ++ [i], by simp, by simp [Fd.run, evSs, evS, evT, evE, evEs, evOs, evCs, evP, evI, evIf, PF.ap, opLen, opMod, opAdd, opSum, opLt, opGt, opLe, stepD, getK, setD, putKs, setP, nodeAt, mmTy, mmAp, truth, E.pth, E.pu, Es.pu, imm, imms, fz, fzs, bind_one, bind_tup2, bind_tup3, bind_tup4, Tg.free, Tg.frees, Fd.kp, Fd.out, Fd.fin, finE, giveBack, wipeE, backE, seqOf, lcLoop, forLoop, lim, ix0, ix1, ix2, ix3, in0, in1, in2, dInts, imms_ints, imms_pairs, fzs_ints, fzs_pairs, fzs_app, imms_app, dInts_ints, in_lst, in_tup, dEq_int, idx_tup, idx_lst, hD0, hD1, hD2, imm_hs], hs2, by simp; omega, fun x hx => ?_⟩,
        fun _ => ⟨s2, hl, rfl, by simp [Fd.run, evSs, evS, evT, evE, evEs, evOs, evCs, evP, evI, evIf, PF.ap, opLen, opMod, opAdd, opSum, opLt, opGt, opLe, stepD, getK, setD, putKs, setP, nodeAt, mmTy, mmAp, truth, E.pth, E.pu, Es.pu, imm, imms, fz, fzs, bind_one, bind_tup2, bind_tup3, bind_tup4, Tg.free, Tg.frees, Fd.kp, Fd.out, Fd.fin, finE, giveBack, wipeE, backE, seqOf, lcLoop, forLoop, lim, ix0, ix1, ix2, ix3, in0, in1, in2, dInts, imms_ints, imms_pairs, fzs_ints, fzs_pairs, fzs_app, imms_app, dInts_ints, in_lst, in_tup, dEq_int, idx_tup, idx_lst, hD0, hD1, hD2, imm_hs], hs2, by simp; omega, hlm⟩⟩
      · cases wide
        · simp only [Bool.false_eq_true, if_false] at hq
          subst hq
          by_cases z : a = 0 <;> simp [i12_0, Fd.run, evSs, evS, evT, evE, evEs, evOs, evCs, evP, evI, evIf, PF.ap, opLen, opMod, opAdd, opSum, opLt, opGt, opLe, stepD, getK, setD, putKs, setP, nodeAt, mmTy, mmAp, truth, E.pth, E.pu, Es.pu, imm, imms, fz, fzs, bind_one, bind_tup2, bind_tup3, bind_tup4, Tg.free, Tg.frees, Fd.kp, Fd.out, Fd.fin, finE, giveBack, wipeE, backE, seqOf, lcLoop, forLoop, lim, ix0, ix1, ix2, ix3, in0, in1, in2, dInts, imms_ints, imms_pairs, fzs_ints, fzs_pairs, fzs_app, imms_app, dInts_ints, in_lst, in_tup, dEq_int, idx_tup, idx_lst, hD0, hD1, hD2, imm_hs, hc, e1, i0, z]
        · simp only [if_true] at hq
          subst hq
          by_cases z : a = 0 <;> simp [i12_0, Fd.run, evSs, evS, evT, evE, evEs, evOs, evCs, evP, evI, evIf, PF.ap, opLen, opMod, opAdd, opSum, opLt, opGt, opLe, stepD, getK, setD, putKs, setP, nodeAt, mmTy, mmAp, truth, E.pth, E.pu, Es.pu, imm, imms, fz, fzs, bind_one, bind_tup2, bind_tup3, bind_tup4, Tg.free, Tg.frees, Fd.kp, Fd.out, Fd.fin, finE, giveBack, wipeE, backE, seqOf, lcLoop, forLoop, lim, ix0, ix1, ix2, ix3, in0, in1, in2, dInts, imms_ints, imms_pairs, fzs_ints, fzs_pairs, fzs_app, imms_app, dInts_ints, in_lst, in_tup, dEq_int, idx_tup, idx_lst, hD0, hD1, hD2, imm_hs, hc, e1, i0, z]
      · rcases List.mem_append.mp hx with hx | hx
        · exact hlm x hx
        · simp only [List.mem_singleton] at hx; subst hx; exact hi) ⟨s, [], rfl, rfl, hs, by simp, by simp⟩
  have hs62 : small62 many = true := by simp [small62]; omega
  have hs1' : small62 1 = true := by decide
  have hlm2 : (from1 many).length ≤ 16777216 := by omega
  have hrg := rng_from1 many
  have i1 := hs1.imm
  by_cases g : hl = []
  · subst g
    obtain ⟨a, s2, e1, hs2, a0, a1⟩ := c10 (k := k) hs1 (many - 1)
    refine ⟨s2, [1 + a], ?_, hs2, by simp, fun x hx => ?_⟩
    · have e := dEq_nil (m := false) (n := true) []
      simp only [List.map_nil, decide_true] at e
      simp only [List.map_nil] at hl1
      simp [takeS, dropS, d12, Fd.run, evSs, evS, evT, evE, evEs, evOs, evCs, evP, evI, evIf, PF.ap, opLen, opMod, opAdd, opSum, opLt, opGt, opLe, stepD, getK, setD, putKs, setP, nodeAt, mmTy, mmAp, truth, E.pth, E.pu, Es.pu, imm, imms, fz, fzs, bind_one, bind_tup2, bind_tup3, bind_tup4, Tg.free, Tg.frees, Fd.kp, Fd.out, Fd.fin, finE, giveBack, wipeE, backE, seqOf, lim, ix0, ix1, ix2, ix3, in0, in1, in2, dInts, imms_ints, imms_pairs, fzs_ints, fzs_pairs, fzs_app, imms_app, dInts_ints, in_lst, in_tup, dEq_int, idx_tup, idx_lst, hD0, hD1, hD2, imm_hs, ui12_0, ue12_0, pe12_0, ui12_1, ue12_1, pe12_1, hc, hk, f12, hs62, hs1', hlm2, hrg, hl1, e, e1, i1]
    · simp only [List.mem_singleton] at hx; subst hx; omega
  · refine ⟨s1, hl, ?_, hs1, by omega, hlm⟩
    have e := dEq_nil (m := false) (n := true) hl
    rw [decide_eq_false g] at e
    simp [takeS, dropS, d12, Fd.run, evSs, evS, evT, evE, evEs, evOs, evCs, evP, evI, evIf, PF.ap, opLen, opMod, opAdd, opSum, opLt, opGt, opLe, stepD, getK, setD, putKs, setP, nodeAt, mmTy, mmAp, truth, E.pth, E.pu, Es.pu, imm, imms, fz, fzs, bind_one, bind_tup2, bind_tup3, bind_tup4, Tg.free, Tg.frees, Fd.kp, Fd.out, Fd.fin, finE, giveBack, wipeE, backE, seqOf, lim, ix0, ix1, ix2, ix3, in0, in1, in2, dInts, imms_ints, imms_pairs, fzs_ints, fzs_pairs, fzs_app, imms_app, dInts_ints, in_lst, in_tup, dEq_int, idx_tup, idx_lst, hD0, hD1, hD2, imm_hs, ui12_0, ue12_0, pe12_0, ui12_1, ue12_1, pe12_1, hc, hk, f12, hs62, hs1', hlm2, hrg, hl1, e, i1]

theorem mul2 (b : Bool) : opMul (.int 2) (.int (if b = true then 1 else 0)) = some (.int (if b = true then 2 else 0)) := by cases b <;> simp [opMul, mulOk]
theorem c12_c {C : Z.Ctx} {k : Nat} (hc : C.call = callN fs (k + 1)) (hk : C.kp = f12.kp) {s : Z.D} (hs : Purse s) {wide : Bool} {many : Int} (m0 : 2 ≤ many) (m1 : many ≤ 60) {hl : List Int} (hh : ∀ x ∈ hl, 1 ≤ x ∧ x < many) {x3 x4 x5 x6 : Option Z.D} :
    ∃ (s' : Z.D) (ks : List Int) (x9 : Option Z.D), evSs C (takeS 3 (dropS 2 (dropS 3 d12))) [some s, some (.bl wide), some (.int many), x3, x4, x5, x6, some (.lst false (hl.map .int)), none, none] =
      .next [some s', some (.bl wide), some (.int many), x3, x4, x5, x6, some (.lst false (hl.map .int)), some (.lst true (ks.map .int)), x9] ∧ Purse s' ∧ (ks.length : Int) = many ∧ ∀ x ∈ ks, 0 ≤ x := by
  obtain ⟨N, hN, hrg⟩ : ∃ N : Nat, (N : Int) = many ∧ rng 0 many = (List.range N).map fun (i : Nat) => Z.D.int (i : Int) := ⟨many.toNat, by omega, rngZ' _⟩
  obtain ⟨rs, e', hl1, s1, ks, rfl, rfl, hs1, hkl, hkp⟩ := lc_pre (own := [9]) (t := .one 9) (ifs := evIf C i12_1) (el := evE C e12_1) (pth := false) (fun (i : Nat) => Z.D.int (i : Int))
    (fun pre out e => ∃ (s' : Z.D) (ks : List Int), out = ks.map .int ∧ e = [some s', some (.bl wide), some (.int many), x3, x4, x5, x6, some (.lst false (hl.map .int)), none, none] ∧ Purse s' ∧ ks.length = pre.length ∧ ∀ x ∈ ks, 0 ≤ x) (List.range N)
    [some s, some (.bl wide), some (.int many), x3, x4, x5, x6, some (.lst false (hl.map .int)), none, none] (by
      rintro pre i post out e hpi ⟨s', ks, rfl, rfl, hs', hkl, hkp⟩
      obtain ⟨b, s2, e1, hs2, b0, b1⟩ := c10 (k := k) hs' 3
      obtain ⟨v, _, hv⟩ := atI_ints (ps := [3, 2, 5]) (i := b) b0 (by simp; omega)
      simp only [List.map_cons, List.map_nil] at hv
      obtain ⟨a, s3, e2, hs3, a0, _⟩ := c10 (k := k) hs2 v
      have i0 := hs'.imm
      have i2 := hs2.imm
      refine ⟨[some s', some (.bl wide), some (.int many), x3, x4, x5, x6, some (.lst false (hl.map .int)), none, some (.int (i : Int))], true, [some s', some (.bl wide), some (.int many), x3, x4, x5, x6, some (.lst false (hl.map .int)), none, some (.int (i : Int))], by simp [Fd.run, evSs, evS, evT, evE, evEs, evOs, evCs, evP, evI, evIf, PF.ap, opLen, opMod, opAdd, opSum, opLt, opGt, opLe, stepD, getK, setD, putKs, setP, nodeAt, mmTy, mmAp, truth, E.pth, E.pu, Es.pu, imm, imms, fz, fzs, bind_one, bind_tup2, bind_tup3, bind_tup4, Tg.free, Tg.frees, Fd.kp, Fd.out, Fd.fin, finE, giveBack, wipeE, backE, seqOf, lcLoop, forLoop, lim, ix0, ix1, ix2, ix3, in0, in1, in2, dInts, imms_ints, imms_pairs, fzs_ints, fzs_pairs, fzs_app, imms_app, dInts_ints, in_lst, in_tup, dEq_int, idx_tup, idx_lst, hD0, hD1, hD2, imm_hs], by simp [i12_1, Fd.run, evSs, evS, evT, evE, evEs, evOs, evCs, evP, evI, evIf, PF.ap, opLen, opMod, opAdd, opSum, opLt, opGt, opLe, stepD, getK, setD, putKs, setP, nodeAt, mmTy, mmAp, truth, E.pth, E.pu, Es.pu, imm, imms, fz, fzs, bind_one, bind_tup2, bind_tup3, bind_tup4, Tg.free, Tg.frees, Fd.kp, Fd.out, Fd.fin, finE, giveBack, wipeE, backE, seqOf, lcLoop, forLoop, lim, ix0, ix1, ix2, ix3, in0, in1, in2, dInts, imms_ints, imms_pairs, fzs_ints, fzs_pairs, fzs_app, imms_app, dInts_ints, in_lst, in_tup, dEq_int, idx_tup, idx_lst, hD0, hD1, hD2, imm_hs],
        fun _ => ⟨.int a, [some s3, some (.bl wide), some (.int many), x3, x4, x5, x6, some (.lst false (hl.map .int)), none, some (.int (i : Int))], ?_, rfl, s3, ks ++ [a], by simp, by simp [Fd.run, evSs, evS, evT, evE, evEs, evOs, evCs, evP, evI, evIf, PF.ap, opLen, opMod, opAdd, opSum, opLt, opGt, opLe, stepD, getK, setD, putKs, setP, nodeAt, mmTy, mmAp, truth, E.pth, E.pu, Es.pu, imm, imms, fz, fzs, bind_one, bind_tup2, bind_tup3, bind_tup4, Tg.free, Tg.frees, Fd.kp, Fd.out, Fd.fin, finE, giveBack, wipeE, backE, seqOf, lcLoop, forLoop, lim, ix0, ix1, ix2, ix3, in0, in1, in2, dInts, imms_ints, imms_pairs, fzs_ints, fzs_pairs, fzs_app, imms_app, dInts_ints, in_lst, in_tup, dEq_int, idx_tup, idx_lst, hD0, hD1, hD2, imm_hs], hs3, by simp [hkl], fun x hx => ?_⟩, fun h => by cases h⟩
      · simp [e12_1, Fd.run, evSs, evS, evT, evE, evEs, evOs, evCs, evP, evI, evIf, PF.ap, opLen, opMod, opAdd, opSum, opLt, opGt, opLe, stepD, getK, setD, putKs, setP, nodeAt, mmTy, mmAp, truth, E.pth, E.pu, Es.pu, imm, imms, fz, fzs, bind_one, bind_tup2, bind_tup3, bind_tup4, Tg.free, Tg.frees, Fd.kp, Fd.out, Fd.fin, finE, giveBack, wipeE, backE, seqOf, lcLoop, forLoop, lim, ix0, ix1, ix2, ix3, in0, in1, in2, dInts, imms_ints, imms_pairs, fzs_ints, fzs_pairs, fzs_app, imms_app, dInts_ints, in_lst, in_tup, dEq_int, idx_tup, idx_lst, hD0, hD1, hD2, imm_hs, hc, e1, e2, i0, i2, hv]
      · rcases List.mem_append.mp hx with hx | hx
        · exact hkp x hx
        · simp only [List.mem_singleton] at hx; omega) ⟨s, [], rfl, rfl, hs, rfl, by simp⟩
  have hs62 : small62 many = true := by simp [small62]; omega
  have hn : N ≤ 16777216 := by omega
  have hkl' : (ks.length : Int) = many := by simp at hkl; omega
  obtain ⟨a, s2, e2, hs2, a0, a1⟩ := c10 (k := k) hs1 4
  obtain ⟨b, s3, e3, hs3, b0, b1⟩ := c10 (k := k) hs2 30
  obtain ⟨c, s4, e4, hs4, c0, c1⟩ := c10 (k := k) hs3 3
  have i1 := hs1.imm
  have i2 := hs2.imm
  have i3 := hs3.imm
  obtain ⟨m, hm, hm0, hm1⟩ : ∃ m : Int, (if c < (if wide = true then 2 else 0) then (if wide = true then 2 else 0) else c) = m ∧ 0 ≤ m ∧ m < 3 := by
    refine ⟨_, rfl, ?_, ?_⟩ <;> split <;> split <;> omega
  obtain ⟨v, hvm, hv⟩ := atI_ints (ps := [a, many + b, 99]) (i := m) hm0 (by simpa using hm1)
  simp only [List.map_cons, List.map_nil] at hv
  have v0 : 0 ≤ v := by simp at hvm; omega
  have hix : ixN ks.length 0 = some 0 := by rw [ixn (by omega) (by omega)]; rfl
  have h5 := mul2 wide
  obtain ⟨ks2, hks2⟩ : ∃ ks2, ks2 = ks.set 0 v := ⟨_, rfl⟩
  have hm2 : (ks.map Z.D.int).set 0 (.int v) = ks2.map .int := by rw [hks2, List.map_set]
  have hk2l : (ks2.length : Int) = many := by rw [hks2]; simpa using hkl'
  have hk2p : ∀ x ∈ ks2, 0 ≤ x := fun x hx => by
    rw [hks2] at hx
    rcases List.mem_or_eq_of_mem_set hx with hx | rfl
    · exact hkp x hx
    · exact v0
  obtain ⟨e', hf, ks3, y9, rfl, hk3, hk3p⟩ := for_pre (t := .one 9) (body := evSs C l12_1) Z.D.int
    (fun pre e => ∃ (ks : List Int) (x9 : Option Z.D), e = [some s4, some (.bl wide), some (.int many), x3, x4, x5, x6, some (.lst false (hl.map .int)), some (.lst true (ks.map .int)), x9] ∧ (ks.length : Int) = many ∧ ∀ x ∈ ks, 0 ≤ x) hl
    [some s4, some (.bl wide), some (.int many), x3, x4, x5, x6, some (.lst false (hl.map .int)), some (.lst true (ks2.map .int)), none] (by
      rintro pre x post e hpi ⟨ks, x11, rfl, hkl, hkp⟩
      have hx := hh x (mem_pre hpi)
      have hix : ixN ks.length x = some x.toNat := ixn (by omega) (by omega)
      have hm3 : (ks.map Z.D.int).set x.toNat (.int 0) = (ks.set x.toNat 0).map .int := by rw [List.map_set]
      refine ⟨[some s4, some (.bl wide), some (.int many), x3, x4, x5, x6, some (.lst false (hl.map .int)), some (.lst true (ks.map .int)), some (.int x)], [some s4, some (.bl wide), some (.int many), x3, x4, x5, x6, some (.lst false (hl.map .int)), some (.lst true ((ks.set x.toNat 0).map .int)), some (.int x)], by simp [Fd.run, evSs, evS, evT, evE, evEs, evOs, evCs, evP, evI, evIf, PF.ap, opLen, opMod, opAdd, opSum, opLt, opGt, opLe, stepD, getK, setD, putKs, setP, nodeAt, mmTy, mmAp, truth, E.pth, E.pu, Es.pu, imm, imms, fz, fzs, bind_one, bind_tup2, bind_tup3, bind_tup4, Tg.free, Tg.frees, Fd.kp, Fd.out, Fd.fin, finE, giveBack, wipeE, backE, seqOf, lcLoop, forLoop, lim, ix0, ix1, ix2, ix3, in0, in1, in2, dInts, imms_ints, imms_pairs, fzs_ints, fzs_pairs, fzs_app, imms_app, dInts_ints, in_lst, in_tup, dEq_int, idx_tup, idx_lst, hD0, hD1, hD2, imm_hs], .inl ?_, ks.set x.toNat 0, _, rfl, by simpa using hkl, fun y hy => ?_⟩
      · rw [← hm3]
        obtain ⟨Y, hY⟩ : ∃ Y, Y = ks.map Z.D.int := ⟨_, rfl⟩
        have hYl : ks.length = Y.length := by rw [hY]; simp
        rw [← hY]
        rw [hYl] at hix
        simp [l12_1, Fd.run, evSs, evS, evT, evE, evEs, evOs, evCs, evP, evI, evIf, PF.ap, opLen, opMod, opAdd, opSum, opLt, opGt, opLe, stepD, getK, setD, putKs, setP, nodeAt, mmTy, mmAp, truth, E.pth, E.pu, Es.pu, imm, imms, fz, fzs, bind_one, bind_tup2, bind_tup3, bind_tup4, Tg.free, Tg.frees, Fd.kp, Fd.out, Fd.fin, finE, giveBack, wipeE, backE, seqOf, lcLoop, forLoop, lim, ix0, ix1, ix2, ix3, in0, in1, in2, dInts, imms_ints, imms_pairs, fzs_ints, fzs_pairs, fzs_app, imms_app, dInts_ints, in_lst, in_tup, dEq_int, idx_tup, idx_lst, hD0, hD1, hD2, imm_hs, hk, f12, hix]
      · rcases List.mem_or_eq_of_mem_set hy with hy | rfl
        · exact hkp y hy
        · omega) ⟨ks2, none, rfl, hk2l, hk2p⟩
  refine ⟨s4, ks3, y9, ?_, hs4, hk3, hk3p⟩
  have eA : evSs C (takeS 2 (dropS 2 (dropS 3 d12))) [some s, some (.bl wide), some (.int many), x3, x4, x5, x6, some (.lst false (hl.map .int)), none, none] =
      .next [some s4, some (.bl wide), some (.int many), x3, x4, x5, x6, some (.lst false (hl.map .int)), some (.lst true (ks2.map .int)), none] := by
    rw [← hm2]
    cases wide
    · simp only [Bool.false_eq_true, if_false] at h5 hm
      simp [takeS, dropS, d12, Fd.run, evSs, evS, evT, evE, evEs, evOs, evCs, evP, evI, evIf, PF.ap, opLen, opMod, opAdd, opSum, opLt, opGt, opLe, stepD, getK, setD, putKs, setP, nodeAt, mmTy, mmAp, truth, E.pth, E.pu, Es.pu, imm, imms, fz, fzs, bind_one, bind_tup2, bind_tup3, bind_tup4, Tg.free, Tg.frees, Fd.kp, Fd.out, Fd.fin, finE, giveBack, wipeE, backE, seqOf, lim, ix0, ix1, ix2, ix3, in0, in1, in2, dInts, imms_ints, imms_pairs, fzs_ints, fzs_pairs, fzs_app, imms_app, dInts_ints, in_lst, in_tup, dEq_int, idx_tup, idx_lst, hD0, hD1, hD2, imm_hs, ui12_0, ue12_0, pe12_0, ui12_1, ue12_1, pe12_1, hc, hk, f12, hs62, hrg, hn, hl1, e2, e3, e4, i1, i2, i3, h5, hm, hv, hix]
    · simp only [if_true] at h5 hm
      simp [takeS, dropS, d12, Fd.run, evSs, evS, evT, evE, evEs, evOs, evCs, evP, evI, evIf, PF.ap, opLen, opMod, opAdd, opSum, opLt, opGt, opLe, stepD, getK, setD, putKs, setP, nodeAt, mmTy, mmAp, truth, E.pth, E.pu, Es.pu, imm, imms, fz, fzs, bind_one, bind_tup2, bind_tup3, bind_tup4, Tg.free, Tg.frees, Fd.kp, Fd.out, Fd.fin, finE, giveBack, wipeE, backE, seqOf, lim, ix0, ix1, ix2, ix3, in0, in1, in2, dInts, imms_ints, imms_pairs, fzs_ints, fzs_pairs, fzs_app, imms_app, dInts_ints, in_lst, in_tup, dEq_int, idx_tup, idx_lst, hD0, hD1, hD2, imm_hs, ui12_0, ue12_0, pe12_0, ui12_1, ue12_1, pe12_1, hc, hk, f12, hs62, hrg, hn, hl1, e2, e3, e4, i1, i2, i3, h5, hm, hv, hix]
  rw [evSs_split C 2]
  rw [show takeS 2 (takeS 3 (dropS 2 (dropS 3 d12))) = takeS 2 (dropS 2 (dropS 3 d12)) from rfl, eA]
  simp only [SRes.thn]
  simp [takeS, dropS, d12, Fd.run, evSs, evS, evT, evE, evEs, evOs, evCs, evP, evI, evIf, PF.ap, opLen, opMod, opAdd, opSum, opLt, opGt, opLe, stepD, getK, setD, putKs, setP, nodeAt, mmTy, mmAp, truth, E.pth, E.pu, Es.pu, imm, imms, fz, fzs, bind_one, bind_tup2, bind_tup3, bind_tup4, Tg.free, Tg.frees, Fd.kp, Fd.out, Fd.fin, finE, giveBack, wipeE, backE, seqOf, lim, ix0, ix1, ix2, ix3, in0, in1, in2, dInts, imms_ints, imms_pairs, fzs_ints, fzs_pairs, fzs_app, imms_app, dInts_ints, in_lst, in_tup, dEq_int, idx_tup, idx_lst, hD0, hD1, hD2, imm_hs, hk, f12, imms_ints, hf]
theorem c12 {k : Nat} {s : Z.D} (hs : Purse s) (wide : Bool) : ∃ (h : Hs) (s' : Z.D), callN fs (k + 1 + 1) 12 [s, .bl wide] = .ok h.D [some s', some (.bl wide)] ∧ Purse s' ∧ Ok2 h := by
  obtain ⟨C, hc, hk, hr⟩ := enter (fs := fs) (f := f12) (k := k + 1) (i := 12) (ds := [s, .bl wide]) rfl rfl
  rw [hr, bd12]
  obtain ⟨s1, many, ps, x4, x5, x6, eA, hs1, m0, m1, hpl, hps⟩ := c12_a (k := k) hc hk hs (wide := wide)
  obtain ⟨s2, hl, eB, hs2, hll, hlm⟩ := c12_b (k := k) hc hk hs1 (wide := wide) m0 m1 (x3 := some (.lst false (ps.map pairD))) (x4 := x4) (x5 := x5) (x6 := x6)
  obtain ⟨s3, ks, x9, eC, hs3, hkl, hkp⟩ := c12_c (k := k) hc hk hs2 (wide := wide) m0 m1 hlm (x3 := some (.lst false (ps.map pairD))) (x4 := x4) (x5 := x5) (x6 := x6)
  have hsort := sort_pairs false ps
  obtain ⟨ds, hds⟩ : ∃ ds, ds = ps.mergeSort leP := ⟨_, rfl⟩
  have hdp : ds.Perm ps := by rw [hds]; exact List.mergeSort_perm ..
  rw [← hds] at hsort
  have l1 : ks.length ≤ 16777216 := by omega
  have l2 : ds.length ≤ 16777216 := by rw [hdp.length_eq]; omega
  have l3 : hl.length ≤ 16777216 := by omega
  have l4 : ps.length ≤ 16777216 := by omega
  refine ⟨⟨ks, ds, hl⟩, s3, ?_, hs3, ⟨⟨fun p hp => ?_, by show 0 < ks.length; omega, by show ks.length ≤ 100; omega, by show ds.length ≤ 200; rw [hdp.length_eq]; omega, fun x hx => ?_⟩, hkp, fun x hx => (hlm x hx).1, by show hl.length ≤ 200; omega⟩⟩
  · rw [evSs_split C 3 d12]
    simp only [List.map_cons, List.map_nil, f12] at eA ⊢
    rw [show (List.replicate (10 - 2) (none : Option Z.D)) = [none, none, none, none, none, none, none, none] from rfl]
    simp only [List.cons_append, List.nil_append]
    rw [eA]
    simp only [SRes.thn]
    rw [evSs_split C 2 (dropS 3 d12), eB]
    simp only [SRes.thn]
    rw [evSs_split C 3 (dropS 2 (dropS 3 d12)), eC]
    simp only [SRes.thn]
    simp [dropS, d12, Fd.run, evSs, evS, evT, evE, evEs, evOs, evCs, evP, evI, evIf, PF.ap, opLen, opMod, opAdd, opSum, opLt, opGt, opLe, stepD, getK, setD, putKs, setP, nodeAt, mmTy, mmAp, truth, E.pth, E.pu, Es.pu, imm, imms, fz, fzs, bind_one, bind_tup2, bind_tup3, bind_tup4, Tg.free, Tg.frees, Fd.kp, Fd.out, Fd.fin, finE, giveBack, wipeE, backE, seqOf, lim, ix0, ix1, ix2, ix3, in0, in1, in2, dInts, imms_ints, imms_pairs, fzs_ints, fzs_pairs, fzs_app, imms_app, dInts_ints, in_lst, in_tup, dEq_int, idx_tup, idx_lst, hD0, hD1, hD2, imm_hs, hk, f12, hsort, l1, l2, l3, l4, Hs.D, imms_ints, imms_pairs]
  · have := hps p (hdp.mem_iff.mp hp)
    obtain ⟨q1, q2, q3⟩ := this
    exact ⟨q1, q2, by show p.2 < (ks.length : Int); omega⟩
  · have := hlm x hx
    exact ⟨by omega, by show x < (ks.length : Int); omega⟩

abbrev env13 (h : Hs) (w : Option Z.D) (m : Bool) (R : List Int) (hd : Int) (x7 x8 : Option Z.D) : Z.Env := [some h.D, w, some (.tup (h.ks.map .int)), some (.tup (h.ps.map pairD)), some (.tup (h.hs.map .int)), some (.lst m (R.map .int)), some (.int hd), x7, x8]
theorem l13_in {C : Z.Ctx} (hk : C.kp = f13.kp) {h : Hs} {a b : Int} (hab : a ≠ b) (a0 : 0 ≤ a) (a1 : a < h.ks.length) (b0 : 0 ≤ b) (b1 : b < h.ks.length) {R : List Int} (hR : R.length ≤ 4000) {hd : Int} {w x7 x8 : Option Z.D} :
    forLoop (.one 8) (evSs C l13_0) [.int a, .int b] (env13 h w true R hd x7 x8) = .next (env13 h w true (R ++ fr R (a, b)) (hd + h.gain (fr R (a, b))) x7 (some (.int b))) := by
  have ea := at_key a0 a1
  have eb := at_key b0 b1
  have hba : ¬ b = a := fun z => hab z.symm
  have l1 : R.length < 16777216 := by omega
  have l2 : R.length + 1 < 16777216 := by omega
  have mn : ∀ (x : Int) (q : List Int), q.map Z.D.int ++ [Z.D.int x] = (q ++ [x]).map .int := fun x q => by simp
  by_cases ca : a ∈ R <;> by_cases cb : b ∈ R <;>
    simp [l13_0, env13, Fd.run, evSs, evS, evT, evE, evEs, evOs, evCs, evP, evI, evIf, PF.ap, opIdx, opLen, opMod, opAdd, opSum, opLt, opGt, opLe, stepD, getK, setD, putKs, setP, nodeAt, mmTy, mmAp, truth, E.pth, E.pu, Es.pu, imm, imms, fz, fzs, bind_one, bind_tup2, bind_tup3, bind_tup4, Tg.free, Tg.frees, Fd.kp, Fd.out, Fd.fin, finE, giveBack, wipeE, backE, seqOf, lcLoop, forLoop, lim, ix0, ix1, ix2, ix3, in0, in1, in2, dInts, imms_ints, imms_pairs, fzs_ints, fzs_pairs, fzs_app, imms_app, dInts_ints, in_lst, in_tup, dEq_int, hk, f13, ca, cb, ea, eb, l1, l2, mn, fr, Hs.gain, hab, hba, Int.add_assoc, -List.map_append]
theorem l13_step {C : Z.Ctx} (hk : C.kp = f13.kp) {h : Hs} (ok : Ok2 h) {d : Int} (hd2 : h.dr d) {R : List Int} (hR : R.length ≤ 4000) {hd : Int} {w x8 : Option Z.D} :
    ∃ R' hd' y8, evSs C l13_1 (env13 h w true R hd (some (.int d)) x8) = .next (env13 h w true R' hd' (some (.int d)) y8) ∧ R'.length ≤ R.length + 2 := by
  obtain ⟨p1, p2, p3⟩ := ok.ok.pair hd2
  have e := at_pair hd2
  obtain ⟨a, ha⟩ : ∃ z, z = (h.pair d).1 := ⟨_, rfl⟩
  obtain ⟨b, hb⟩ : ∃ z, z = (h.pair d).2 := ⟨_, rfl⟩
  have e2 : pairD (h.pair d) = .tup [.int a, .int b] := by rw [ha, hb]; rfl
  rw [e2] at e
  rw [← ha, ← hb] at p2
  have hin := l13_in (C := C) hk (h := h) (a := a) (b := b) (by omega) (by omega) (by omega) (by omega) (by omega) hR (hd := hd - 1) (w := w) (x7 := some (.int d)) (x8 := x8)
  refine ⟨R ++ fr R (a, b), hd - 1 + h.gain (fr R (a, b)), some (.int b), ?_, by have := fr_len R (a, b); simp; omega⟩
  simp only [env13] at hin
  simp [l13_1, env13, Fd.run, evSs, evS, evT, evE, evEs, evOs, evCs, evP, evI, evIf, PF.ap, opLen, opMod, opAdd, opSum, opLt, opGt, opLe, stepD, getK, setD, putKs, setP, nodeAt, mmTy, mmAp, truth, E.pth, E.pu, Es.pu, imm, imms, fz, fzs, bind_one, bind_tup2, bind_tup3, bind_tup4, Tg.free, Tg.frees, Fd.kp, Fd.out, Fd.fin, finE, giveBack, wipeE, backE, seqOf, lim, ix0, ix1, ix2, ix3, in0, in1, in2, dInts, imms_ints, imms_pairs, fzs_ints, fzs_pairs, fzs_app, imms_app, dInts_ints, in_lst, in_tup, dEq_int, idx_tup, idx_lst, hD0, hD1, hD2, imm_hs, hk, f13, e, hin]
theorem filt {R : List Int} (f : Int → Bool) : (R.filter f).length ≤ R.length := List.length_filter_le f R
theorem c13 {k : Nat} {h : Hs} (ok : Ok2 h) {xs : List Int} (hx : ∀ d ∈ xs, h.dr d) (hl : xs.length ≤ 900) :
    ∃ ys : List Int, callN fs (k + 1) 13 [h.D, .lst true (xs.map .int)] = .ok (.lst false (ys.map .int)) [some h.D, some (.lst true (xs.map .int))] ∧ (∀ d ∈ ys, h.dr d) ∧ ys.length ≤ 200 := by
  obtain ⟨C, hc, hk, hr⟩ := enter (fs := fs) (f := f13) (k := k) (i := 13) (ds := [h.D, .lst true (xs.map .int)]) rfl rfl
  have e := at_key (h := h) (r := 0) (by omega) (by have := ok.ok.k0; omega)
  obtain ⟨e', hf, R, hd, x7, x8, rfl, hR⟩ := for_pre (t := .one 7) (body := evSs C l13_1) Z.D.int (fun pre e => ∃ R hd x7 x8, e = env13 h none true R hd x7 x8 ∧ R.length ≤ 1 + 2 * pre.length) xs (env13 h none true [0] (h.key 0) none none) (by
    rintro pre d post e hp ⟨R, hd, x7, x8, rfl, hR⟩
    have hpl : pre.length ≤ 900 := by have := congrArg List.length hp; simp at this; omega
    obtain ⟨R', hd', y8, h1, h2⟩ := l13_step hk ok (hx d (mem_pre hp)) (R := R) (by omega) (hd := hd) (w := none) (x8 := x8)
    exact ⟨env13 h none true R hd (some (.int d)) x8, _, by simp [Fd.run, evSs, evS, evT, evE, evEs, evOs, evCs, evP, evI, evIf, PF.ap, opLen, opMod, opAdd, opSum, opLt, opGt, opLe, stepD, getK, setD, putKs, setP, nodeAt, mmTy, mmAp, truth, E.pth, E.pu, Es.pu, imm, imms, fz, fzs, bind_one, bind_tup2, bind_tup3, bind_tup4, Tg.free, Tg.frees, Fd.kp, Fd.out, Fd.fin, finE, giveBack, wipeE, backE, seqOf, lcLoop, forLoop, lim, ix0, ix1, ix2, ix3, in0, in1, in2, dInts, imms_ints, imms_pairs, fzs_ints, fzs_pairs, fzs_app, imms_app, dInts_ints, in_lst, in_tup, dEq_int, idx_tup, idx_lst, hD0, hD1, hD2, imm_hs, env13], .inl h1, R', hd', _, y8, rfl, by simp; omega⟩) ⟨[0], h.key 0, none, none, rfl, by simp⟩
  have eA : evSs C (takeS 4 d13) [some h.D, some (.lst true (xs.map .int)), none, none, none, none, none, none, none] = .next (env13 h (some (.lst true (xs.map .int))) true R hd x7 x8) := by
    simp only [env13, Hs.D, List.map_cons, List.map_nil] at hf ⊢
    simp [takeS, d13, Fd.run, evSs, evS, evT, evE, evEs, evOs, evCs, evP, evI, evIf, PF.ap, opLen, opMod, opAdd, opSum, opLt, opGt, opLe, stepD, getK, setD, putKs, setP, nodeAt, mmTy, mmAp, truth, E.pth, E.pu, Es.pu, imm, imms, fz, fzs, bind_one, bind_tup2, bind_tup3, bind_tup4, Tg.free, Tg.frees, Fd.kp, Fd.out, Fd.fin, finE, giveBack, wipeE, backE, seqOf, lim, ix0, ix1, ix2, ix3, in0, in1, in2, dInts, imms_ints, imms_pairs, fzs_ints, fzs_pairs, fzs_app, imms_app, dInts_ints, in_lst, in_tup, dEq_int, idx_tup, idx_lst, hD0, hD1, hD2, imm_hs, hk, f13, e, hf, Hs.D, bind_tup3, imms_ints, putBack]
  have hR2 : R.length ≤ 4000 := by omega
  have hlc : ∀ m, lcLoop [8] (.one 8) (evIf C i13_0) (evE C e13_0) true (R.map .int) (env13 h (some (.lst true (xs.map .int))) m R hd x7 none) = .ok ((R.filter fun r => decide (r ∈ h.hs)).map .int) (env13 h (some (.lst true (xs.map .int))) m R hd x7 none) := fun m =>
    lc_mapT (own := [8]) (t := .one 8) (ifs := evIf C i13_0) (el := evE C e13_0) (pth := true) Z.D.int (fun r => decide (r ∈ h.hs)) Z.D.int R fun r _ => by
      by_cases q : r ∈ h.hs
      · exact ⟨env13 h (some (.lst true (xs.map .int))) m R hd x7 (some (.int r)), env13 h (some (.lst true (xs.map .int))) m R hd x7 (some (.int r)), by simp [Fd.run, evSs, evS, evT, evE, evEs, evOs, evCs, evP, evI, evIf, PF.ap, opLen, opMod, opAdd, opSum, opLt, opGt, opLe, stepD, getK, setD, putKs, setP, nodeAt, mmTy, mmAp, truth, E.pth, E.pu, Es.pu, imm, imms, fz, fzs, bind_one, bind_tup2, bind_tup3, bind_tup4, Tg.free, Tg.frees, Fd.kp, Fd.out, Fd.fin, finE, giveBack, wipeE, backE, seqOf, lcLoop, forLoop, lim, ix0, ix1, ix2, ix3, in0, in1, in2, dInts, imms_ints, imms_pairs, fzs_ints, fzs_pairs, fzs_app, imms_app, dInts_ints, in_lst, in_tup, dEq_int, idx_tup, idx_lst, hD0, hD1, hD2, imm_hs, env13], by simp [i13_0, Fd.run, evSs, evS, evT, evE, evEs, evOs, evCs, evP, evI, evIf, PF.ap, opLen, opMod, opAdd, opSum, opLt, opGt, opLe, stepD, getK, setD, putKs, setP, nodeAt, mmTy, mmAp, truth, E.pth, E.pu, Es.pu, imm, imms, fz, fzs, bind_one, bind_tup2, bind_tup3, bind_tup4, Tg.free, Tg.frees, Fd.kp, Fd.out, Fd.fin, finE, giveBack, wipeE, backE, seqOf, lcLoop, forLoop, lim, ix0, ix1, ix2, ix3, in0, in1, in2, dInts, imms_ints, imms_pairs, fzs_ints, fzs_pairs, fzs_app, imms_app, dInts_ints, in_lst, in_tup, dEq_int, idx_tup, idx_lst, hD0, hD1, hD2, imm_hs, env13, q], fun _ => ⟨env13 h (some (.lst true (xs.map .int))) m R hd x7 (some (.int r)), by simp [e13_0, Fd.run, evSs, evS, evT, evE, evEs, evOs, evCs, evP, evI, evIf, PF.ap, opLen, opMod, opAdd, opSum, opLt, opGt, opLe, stepD, getK, setD, putKs, setP, nodeAt, mmTy, mmAp, truth, E.pth, E.pu, Es.pu, imm, imms, fz, fzs, bind_one, bind_tup2, bind_tup3, bind_tup4, Tg.free, Tg.frees, Fd.kp, Fd.out, Fd.fin, finE, giveBack, wipeE, backE, seqOf, lcLoop, forLoop, lim, ix0, ix1, ix2, ix3, in0, in1, in2, dInts, imms_ints, imms_pairs, fzs_ints, fzs_pairs, fzs_app, imms_app, dInts_ints, in_lst, in_tup, dEq_int, idx_tup, idx_lst, hD0, hD1, hD2, imm_hs, env13], rfl, by simp [Fd.run, evSs, evS, evT, evE, evEs, evOs, evCs, evP, evI, evIf, PF.ap, opLen, opMod, opAdd, opSum, opLt, opGt, opLe, stepD, getK, setD, putKs, setP, nodeAt, mmTy, mmAp, truth, E.pth, E.pu, Es.pu, imm, imms, fz, fzs, bind_one, bind_tup2, bind_tup3, bind_tup4, Tg.free, Tg.frees, Fd.kp, Fd.out, Fd.fin, finE, giveBack, wipeE, backE, seqOf, lcLoop, forLoop, lim, ix0, ix1, ix2, ix3, in0, in1, in2, dInts, imms_ints, imms_pairs, fzs_ints, fzs_pairs, fzs_app, imms_app, dInts_ints, in_lst, in_tup, dEq_int, idx_tup, idx_lst, hD0, hD1, hD2, imm_hs, env13]⟩, fun z => by simp [q] at z⟩
      · exact ⟨env13 h (some (.lst true (xs.map .int))) m R hd x7 (some (.int r)), env13 h (some (.lst true (xs.map .int))) m R hd x7 (some (.int r)), by simp [Fd.run, evSs, evS, evT, evE, evEs, evOs, evCs, evP, evI, evIf, PF.ap, opLen, opMod, opAdd, opSum, opLt, opGt, opLe, stepD, getK, setD, putKs, setP, nodeAt, mmTy, mmAp, truth, E.pth, E.pu, Es.pu, imm, imms, fz, fzs, bind_one, bind_tup2, bind_tup3, bind_tup4, Tg.free, Tg.frees, Fd.kp, Fd.out, Fd.fin, finE, giveBack, wipeE, backE, seqOf, lcLoop, forLoop, lim, ix0, ix1, ix2, ix3, in0, in1, in2, dInts, imms_ints, imms_pairs, fzs_ints, fzs_pairs, fzs_app, imms_app, dInts_ints, in_lst, in_tup, dEq_int, idx_tup, idx_lst, hD0, hD1, hD2, imm_hs, env13], by simp [i13_0, Fd.run, evSs, evS, evT, evE, evEs, evOs, evCs, evP, evI, evIf, PF.ap, opLen, opMod, opAdd, opSum, opLt, opGt, opLe, stepD, getK, setD, putKs, setP, nodeAt, mmTy, mmAp, truth, E.pth, E.pu, Es.pu, imm, imms, fz, fzs, bind_one, bind_tup2, bind_tup3, bind_tup4, Tg.free, Tg.frees, Fd.kp, Fd.out, Fd.fin, finE, giveBack, wipeE, backE, seqOf, lcLoop, forLoop, lim, ix0, ix1, ix2, ix3, in0, in1, in2, dInts, imms_ints, imms_pairs, fzs_ints, fzs_pairs, fzs_app, imms_app, dInts_ints, in_lst, in_tup, dEq_int, idx_tup, idx_lst, hD0, hD1, hD2, imm_hs, env13, q], fun z => by simp [q] at z, fun _ => by simp [Fd.run, evSs, evS, evT, evE, evEs, evOs, evCs, evP, evI, evIf, PF.ap, opLen, opMod, opAdd, opSum, opLt, opGt, opLe, stepD, getK, setD, putKs, setP, nodeAt, mmTy, mmAp, truth, E.pth, E.pu, Es.pu, imm, imms, fz, fzs, bind_one, bind_tup2, bind_tup3, bind_tup4, Tg.free, Tg.frees, Fd.kp, Fd.out, Fd.fin, finE, giveBack, wipeE, backE, seqOf, lcLoop, forLoop, lim, ix0, ix1, ix2, ix3, in0, in1, in2, dInts, imms_ints, imms_pairs, fzs_ints, fzs_pairs, fzs_app, imms_app, dInts_ints, in_lst, in_tup, dEq_int, idx_tup, idx_lst, hD0, hD1, hD2, imm_hs, env13]⟩
  obtain ⟨hv, hhv⟩ : ∃ z, z = R.filter fun r => decide (r ∈ h.hs) := ⟨_, rfl⟩
  have pl := ok.ok.pl
  obtain ⟨F, hF⟩ : ∃ F : Int → Bool, F = fun d => !decide (d ∈ xs) && (decide ((h.pair d).1 ∈ R) || decide ((h.pair d).2 ∈ R)) := ⟨_, rfl⟩
  have hlc2 : ∀ m x8, lcLoop [7] (.one 7) (evIf C i13_1) (evE C e13_1) true ((List.range h.ps.length).map fun (i : Nat) => Z.D.int (i : Int)) (env13 h (some (.lst true (xs.map .int))) m R hd none x8) = .ok (((List.range h.ps.length).filter fun (i : Nat) => F (i : Int)).map fun (i : Nat) => Z.D.int (i : Int)) (env13 h (some (.lst true (xs.map .int))) m R hd none x8) := fun m x8 =>
    lc_mapT (own := [7]) (t := .one 7) (ifs := evIf C i13_1) (el := evE C e13_1) (pth := true) (fun (i : Nat) => Z.D.int (i : Int)) (fun (i : Nat) => F (i : Int)) (fun (i : Nat) => Z.D.int (i : Int)) (List.range h.ps.length) fun i hi => by
      have hd2 : h.dr (i : Int) := ⟨by omega, by have := List.mem_range.mp hi; omega⟩
      have e := at_pair hd2
      have e2 : pairD (h.pair i) = .tup [.int (h.pair i).1, .int (h.pair i).2] := rfl
      rw [e2] at e
      refine ⟨env13 h (some (.lst true (xs.map .int))) m R hd (some (.int (i : Int))) x8, env13 h (some (.lst true (xs.map .int))) m R hd (some (.int (i : Int))) x8, by simp [Fd.run, evSs, evS, evT, evE, evEs, evOs, evCs, evP, evI, evIf, PF.ap, opLen, opMod, opAdd, opSum, opLt, opGt, opLe, stepD, getK, setD, putKs, setP, nodeAt, mmTy, mmAp, truth, E.pth, E.pu, Es.pu, imm, imms, fz, fzs, bind_one, bind_tup2, bind_tup3, bind_tup4, Tg.free, Tg.frees, Fd.kp, Fd.out, Fd.fin, finE, giveBack, wipeE, backE, seqOf, lcLoop, forLoop, lim, ix0, ix1, ix2, ix3, in0, in1, in2, dInts, imms_ints, imms_pairs, fzs_ints, fzs_pairs, fzs_app, imms_app, dInts_ints, in_lst, in_tup, dEq_int, idx_tup, idx_lst, hD0, hD1, hD2, imm_hs, env13], ?_, fun _ => ⟨env13 h (some (.lst true (xs.map .int))) m R hd (some (.int (i : Int))) x8, by simp [e13_1, Fd.run, evSs, evS, evT, evE, evEs, evOs, evCs, evP, evI, evIf, PF.ap, opLen, opMod, opAdd, opSum, opLt, opGt, opLe, stepD, getK, setD, putKs, setP, nodeAt, mmTy, mmAp, truth, E.pth, E.pu, Es.pu, imm, imms, fz, fzs, bind_one, bind_tup2, bind_tup3, bind_tup4, Tg.free, Tg.frees, Fd.kp, Fd.out, Fd.fin, finE, giveBack, wipeE, backE, seqOf, lcLoop, forLoop, lim, ix0, ix1, ix2, ix3, in0, in1, in2, dInts, imms_ints, imms_pairs, fzs_ints, fzs_pairs, fzs_app, imms_app, dInts_ints, in_lst, in_tup, dEq_int, idx_tup, idx_lst, hD0, hD1, hD2, imm_hs, env13], rfl, by simp [Fd.run, evSs, evS, evT, evE, evEs, evOs, evCs, evP, evI, evIf, PF.ap, opLen, opMod, opAdd, opSum, opLt, opGt, opLe, stepD, getK, setD, putKs, setP, nodeAt, mmTy, mmAp, truth, E.pth, E.pu, Es.pu, imm, imms, fz, fzs, bind_one, bind_tup2, bind_tup3, bind_tup4, Tg.free, Tg.frees, Fd.kp, Fd.out, Fd.fin, finE, giveBack, wipeE, backE, seqOf, lcLoop, forLoop, lim, ix0, ix1, ix2, ix3, in0, in1, in2, dInts, imms_ints, imms_pairs, fzs_ints, fzs_pairs, fzs_app, imms_app, dInts_ints, in_lst, in_tup, dEq_int, idx_tup, idx_lst, hD0, hD1, hD2, imm_hs, env13]⟩, fun _ => by simp [Fd.run, evSs, evS, evT, evE, evEs, evOs, evCs, evP, evI, evIf, PF.ap, opLen, opMod, opAdd, opSum, opLt, opGt, opLe, stepD, getK, setD, putKs, setP, nodeAt, mmTy, mmAp, truth, E.pth, E.pu, Es.pu, imm, imms, fz, fzs, bind_one, bind_tup2, bind_tup3, bind_tup4, Tg.free, Tg.frees, Fd.kp, Fd.out, Fd.fin, finE, giveBack, wipeE, backE, seqOf, lcLoop, forLoop, lim, ix0, ix1, ix2, ix3, in0, in1, in2, dInts, imms_ints, imms_pairs, fzs_ints, fzs_pairs, fzs_app, imms_app, dInts_ints, in_lst, in_tup, dEq_int, idx_tup, idx_lst, hD0, hD1, hD2, imm_hs, env13]⟩
      rw [hF]
      by_cases q1 : (i : Int) ∈ xs <;> by_cases q2 : (h.pair i).1 ∈ R <;> by_cases q3 : (h.pair i).2 ∈ R <;> simp [i13_1, Fd.run, evSs, evS, evT, evE, evEs, evOs, evCs, evP, evI, evIf, PF.ap, opLen, opMod, opAdd, opSum, opLt, opGt, opLe, stepD, getK, setD, putKs, setP, nodeAt, mmTy, mmAp, truth, E.pth, E.pu, Es.pu, imm, imms, fz, fzs, bind_one, bind_tup2, bind_tup3, bind_tup4, Tg.free, Tg.frees, Fd.kp, Fd.out, Fd.fin, finE, giveBack, wipeE, backE, seqOf, lcLoop, forLoop, lim, ix0, ix1, ix2, ix3, in0, in1, in2, dInts, imms_ints, imms_pairs, fzs_ints, fzs_pairs, fzs_app, imms_app, dInts_ints, in_lst, in_tup, dEq_int, idx_tup, idx_lst, hD0, hD1, hD2, imm_hs, env13, e, q1, q2, q3]
  have hs62 : small62 (h.ps.length : Int) = true := by simp [small62]; omega
  have hr0 := rng0 h.ps.length
  have hn : h.ps.length ≤ 16777216 := by omega
  have hRl : R.length ≤ 16777216 := by omega
  obtain ⟨ys, hys⟩ : ∃ ys : List Int, ys = ((List.range h.ps.length).filter fun (i : Nat) => F (i : Int)).map fun (i : Nat) => (i : Int) := ⟨_, rfl⟩
  have hysD : (((List.range h.ps.length).filter fun (i : Nat) => F (i : Int)).map fun (i : Nat) => Z.D.int (i : Int)) = ys.map .int := by rw [hys]; simp
  have hyd : ∀ d ∈ ys, h.dr d := fun d hd => by
    rw [hys] at hd
    obtain ⟨i, hi, rfl⟩ := List.mem_map.mp hd
    have := List.mem_range.mp (List.mem_filter.mp hi).1
    exact ⟨by omega, by omega⟩
  have hyl : ys.length ≤ 200 := by
    rw [hys, List.length_map]
    have := List.length_filter_le (fun (i : Nat) => F (i : Int)) (List.range h.ps.length)
    simp at this
    omega
  have run : ∀ r, evSs C (dropS 4 d13) (env13 h (some (.lst true (xs.map .int))) true R hd x7 x8) = r → callN fs (k + 1) 13 [h.D, .lst true (xs.map .int)] = f13.out r := fun r hq => by
    rw [hr, bd13, evSs_split C 4 d13]
    simp only [f13, List.map_cons, List.map_nil]
    rw [show (List.replicate (9 - 2) (none : Option Z.D)) = [none, none, none, none, none, none, none] from rfl]
    simp only [List.cons_append, List.nil_append]
    rw [eA]
    simp only [SRes.thn]
    rw [hq]
  simp only [env13] at hlc hlc2 run
  rw [← hhv] at hlc
  simp only [hysD] at hlc2
  have en := dEq_nil (m := true) (n := true) hv
  by_cases q : hd < 1
  · refine ⟨[], ?_, by simp, by simp⟩
    rw [run _ rfl]
    simp [dropS, d13, Fd.run, evSs, evS, evT, evE, evEs, evOs, evCs, evP, evI, evIf, PF.ap, opLen, opMod, opAdd, opSum, opLt, opGt, opLe, stepD, getK, setD, putKs, setP, nodeAt, mmTy, mmAp, truth, E.pth, E.pu, Es.pu, imm, imms, fz, fzs, bind_one, bind_tup2, bind_tup3, bind_tup4, Tg.free, Tg.frees, Fd.kp, Fd.out, Fd.fin, finE, giveBack, wipeE, backE, seqOf, lim, ix0, ix1, ix2, ix3, in0, in1, in2, dInts, imms_ints, imms_pairs, fzs_ints, fzs_pairs, fzs_app, imms_app, dInts_ints, in_lst, in_tup, dEq_int, idx_tup, idx_lst, hD0, hD1, hD2, imm_hs, hk, f13, q]
  · by_cases q2 : hv = []
    · refine ⟨ys, ?_, hyd, hyl⟩
      rw [run _ rfl]
      rw [decide_eq_true q2] at en
      simp [dropS, d13, Fd.run, evSs, evS, evT, evE, evEs, evOs, evCs, evP, evI, evIf, PF.ap, opLen, opMod, opAdd, opSum, opLt, opGt, opLe, stepD, getK, setD, putKs, setP, nodeAt, mmTy, mmAp, truth, E.pth, E.pu, Es.pu, imm, imms, fz, fzs, bind_one, bind_tup2, bind_tup3, bind_tup4, Tg.free, Tg.frees, Fd.kp, Fd.out, Fd.fin, finE, giveBack, wipeE, backE, seqOf, lim, ix0, ix1, ix2, ix3, in0, in1, in2, dInts, imms_ints, imms_pairs, fzs_ints, fzs_pairs, fzs_app, imms_app, dInts_ints, in_lst, in_tup, dEq_int, idx_tup, idx_lst, hD0, hD1, hD2, imm_hs, ui13_0, ue13_0, pe13_0, ui13_1, ue13_1, pe13_1, hk, f13, q, hlc, hlc2, en, hs62, hr0, hn, hRl, imms_ints]
    · refine ⟨[], ?_, by simp, by simp⟩
      rw [run _ rfl]
      rw [decide_eq_false q2] at en
      simp [dropS, d13, Fd.run, evSs, evS, evT, evE, evEs, evOs, evCs, evP, evI, evIf, PF.ap, opLen, opMod, opAdd, opSum, opLt, opGt, opLe, stepD, getK, setD, putKs, setP, nodeAt, mmTy, mmAp, truth, E.pth, E.pu, Es.pu, imm, imms, fz, fzs, bind_one, bind_tup2, bind_tup3, bind_tup4, Tg.free, Tg.frees, Fd.kp, Fd.out, Fd.fin, finE, giveBack, wipeE, backE, seqOf, lim, ix0, ix1, ix2, ix3, in0, in1, in2, dInts, imms_ints, imms_pairs, fzs_ints, fzs_pairs, fzs_app, imms_app, dInts_ints, in_lst, in_tup, dEq_int, idx_tup, idx_lst, hD0, hD1, hD2, imm_hs, ui13_0, ue13_0, pe13_0, ui13_1, ue13_1, pe13_1, hk, f13, q, hlc, en, hRl, imms_ints]

abbrev env14 (s : Z.D) (h : Hs) (most : Int) (shy : Bool) (ws : List Int) (x5 x6 x7 : Option Z.D) : Z.Env := [some s, some h.D, some (.int most), some (.bl shy), some (.lst true (ws.map .int)), x5, x6, x7, none]
theorem l14_step {C : Z.Ctx} {k : Nat} (hc : C.call = callN fs (k + 1)) (hk : C.kp = f14.kp) {h : Hs} (ok : Ok2 h) {s : Z.D} (hs : Purse s) {most : Int} {shy : Bool} {ws : List Int} (hw : ∀ d ∈ ws, h.dr d) (hwl : ws.length ≤ 900) {x5 x6 x7 : Option Z.D} :
    ∃ (s' : Z.D) (vs : List Int) (x6' x7' : Option Z.D), Purse s' ∧ (∀ d ∈ vs, h.dr d) ∧ vs.length ≤ ws.length + 1 ∧
      (evSs C l14_0 (env14 s h most shy ws x5 x6 x7) = .next (env14 s' h most shy vs x5 x6' x7') ∨ evSs C l14_0 (env14 s h most shy ws x5 x6 x7) = .brk (env14 s' h most shy vs x5 x6' x7')) := by
  obtain ⟨ys, e13, hy, hyl⟩ := c13 (k := k) ok hw hwl
  have iH := imm_hs h
  have i0 := hs.imm
  have en := dEq_nil (m := false) (n := true) ys
  by_cases q : ys = []
  · refine ⟨s, ws, some (.lst false []), x7, hs, hw, by omega, .inr ?_⟩
    subst q
    rw [decide_eq_true rfl] at en
    simp only [List.map_nil] at e13 en
    simp [l14_0, env14, Fd.run, evSs, evS, evT, evE, evEs, evOs, evCs, evP, evI, evIf, PF.ap, opLen, opMod, opAdd, opSum, opLt, opGt, opLe, stepD, getK, setD, putKs, setP, nodeAt, mmTy, mmAp, truth, E.pth, E.pu, Es.pu, imm, imms, fz, fzs, bind_one, bind_tup2, bind_tup3, bind_tup4, Tg.free, Tg.frees, Fd.kp, Fd.out, Fd.fin, finE, giveBack, wipeE, backE, seqOf, lim, ix0, ix1, ix2, ix3, in0, in1, in2, dInts, imms_ints, imms_pairs, fzs_ints, fzs_pairs, fzs_app, imms_app, dInts_ints, in_lst, in_tup, dEq_int, idx_tup, idx_lst, hD0, hD1, hD2, imm_hs, hc, hk, f14, e13, en, i0]
  rw [decide_eq_false q] at en
  obtain ⟨F, hF⟩ : ∃ F : Int → Bool, F = fun d => !decide ((h.pair d).1 ∈ h.hs) && !decide ((h.pair d).2 ∈ h.hs) := ⟨_, rfl⟩
  have hlc : lcLoop [8] (.one 8) (evIf C i14_0) (evE C e14_0) true (ys.map .int) [some s, some h.D, some (.int most), some (.bl shy), some (.lst true (ws.map .int)), x5, some (.lst false (ys.map .int)), x7, none] = .ok ((ys.filter F).map .int) [some s, some h.D, some (.int most), some (.bl shy), some (.lst true (ws.map .int)), x5, some (.lst false (ys.map .int)), x7, none] :=
    lc_mapT (own := [8]) (t := .one 8) (ifs := evIf C i14_0) (el := evE C e14_0) (pth := true) Z.D.int F Z.D.int ys fun d hd => by
      have e := at_pair (hy d hd)
      have e2 : pairD (h.pair d) = .tup [.int (h.pair d).1, .int (h.pair d).2] := rfl
      rw [e2] at e
      refine ⟨[some s, some h.D, some (.int most), some (.bl shy), some (.lst true (ws.map .int)), x5, some (.lst false (ys.map .int)), x7, some (.int d)], [some s, some h.D, some (.int most), some (.bl shy), some (.lst true (ws.map .int)), x5, some (.lst false (ys.map .int)), x7, some (.int d)], by simp [Fd.run, evSs, evS, evT, evE, evEs, evOs, evCs, evP, evI, evIf, PF.ap, opLen, opMod, opAdd, opSum, opLt, opGt, opLe, stepD, getK, setD, putKs, setP, nodeAt, mmTy, mmAp, truth, E.pth, E.pu, Es.pu, imm, imms, fz, fzs, bind_one, bind_tup2, bind_tup3, bind_tup4, Tg.free, Tg.frees, Fd.kp, Fd.out, Fd.fin, finE, giveBack, wipeE, backE, seqOf, lcLoop, forLoop, lim, ix0, ix1, ix2, ix3, in0, in1, in2, dInts, imms_ints, imms_pairs, fzs_ints, fzs_pairs, fzs_app, imms_app, dInts_ints, in_lst, in_tup, dEq_int, idx_tup, idx_lst, hD0, hD1, hD2, imm_hs], ?_, fun _ => ⟨[some s, some h.D, some (.int most), some (.bl shy), some (.lst true (ws.map .int)), x5, some (.lst false (ys.map .int)), x7, some (.int d)], by simp [e14_0, Fd.run, evSs, evS, evT, evE, evEs, evOs, evCs, evP, evI, evIf, PF.ap, opLen, opMod, opAdd, opSum, opLt, opGt, opLe, stepD, getK, setD, putKs, setP, nodeAt, mmTy, mmAp, truth, E.pth, E.pu, Es.pu, imm, imms, fz, fzs, bind_one, bind_tup2, bind_tup3, bind_tup4, Tg.free, Tg.frees, Fd.kp, Fd.out, Fd.fin, finE, giveBack, wipeE, backE, seqOf, lcLoop, forLoop, lim, ix0, ix1, ix2, ix3, in0, in1, in2, dInts, imms_ints, imms_pairs, fzs_ints, fzs_pairs, fzs_app, imms_app, dInts_ints, in_lst, in_tup, dEq_int, idx_tup, idx_lst, hD0, hD1, hD2, imm_hs], rfl, by simp [Fd.run, evSs, evS, evT, evE, evEs, evOs, evCs, evP, evI, evIf, PF.ap, opLen, opMod, opAdd, opSum, opLt, opGt, opLe, stepD, getK, setD, putKs, setP, nodeAt, mmTy, mmAp, truth, E.pth, E.pu, Es.pu, imm, imms, fz, fzs, bind_one, bind_tup2, bind_tup3, bind_tup4, Tg.free, Tg.frees, Fd.kp, Fd.out, Fd.fin, finE, giveBack, wipeE, backE, seqOf, lcLoop, forLoop, lim, ix0, ix1, ix2, ix3, in0, in1, in2, dInts, imms_ints, imms_pairs, fzs_ints, fzs_pairs, fzs_app, imms_app, dInts_ints, in_lst, in_tup, dEq_int, idx_tup, idx_lst, hD0, hD1, hD2, imm_hs]⟩, fun _ => by simp [Fd.run, evSs, evS, evT, evE, evEs, evOs, evCs, evP, evI, evIf, PF.ap, opLen, opMod, opAdd, opSum, opLt, opGt, opLe, stepD, getK, setD, putKs, setP, nodeAt, mmTy, mmAp, truth, E.pth, E.pu, Es.pu, imm, imms, fz, fzs, bind_one, bind_tup2, bind_tup3, bind_tup4, Tg.free, Tg.frees, Fd.kp, Fd.out, Fd.fin, finE, giveBack, wipeE, backE, seqOf, lcLoop, forLoop, lim, ix0, ix1, ix2, ix3, in0, in1, in2, dInts, imms_ints, imms_pairs, fzs_ints, fzs_pairs, fzs_app, imms_app, dInts_ints, in_lst, in_tup, dEq_int, idx_tup, idx_lst, hD0, hD1, hD2, imm_hs]⟩
      rw [hF]
      by_cases q2 : (h.pair d).1 ∈ h.hs <;> by_cases q3 : (h.pair d).2 ∈ h.hs <;> simp [i14_0, Fd.run, evSs, evS, evT, evE, evEs, evOs, evCs, evP, evI, evIf, PF.ap, opLen, opMod, opAdd, opSum, opLt, opGt, opLe, stepD, getK, setD, putKs, setP, nodeAt, mmTy, mmAp, truth, E.pth, E.pu, Es.pu, imm, imms, fz, fzs, bind_one, bind_tup2, bind_tup3, bind_tup4, Tg.free, Tg.frees, Fd.kp, Fd.out, Fd.fin, finE, giveBack, wipeE, backE, seqOf, lcLoop, forLoop, lim, ix0, ix1, ix2, ix3, in0, in1, in2, dInts, imms_ints, imms_pairs, fzs_ints, fzs_pairs, fzs_app, imms_app, dInts_ints, in_lst, in_tup, dEq_int, idx_tup, idx_lst, hD0, hD1, hD2, imm_hs, e, q2, q3]
  obtain ⟨zs, hzs⟩ : ∃ zs, zs = ys.filter F := ⟨_, rfl⟩
  rw [← hzs] at hlc
  have hz : ∀ d ∈ zs, h.dr d := fun d hd => by rw [hzs] at hd; exact hy d (List.mem_filter.mp hd).1
  have hzl : zs.length ≤ 200 := by rw [hzs]; have := List.length_filter_le F ys; omega
  have hyl2 : ys.length ≤ 16777216 := by omega
  have hzl2 : zs.length ≤ 16777216 := by omega
  have en2 := dEq_nil (m := false) (n := true) zs
  have hwl2 : (ws.map Z.D.int).length < 16777216 := by simp; omega
  have iw : imms (ws.map Z.D.int) = true := imms_ints
  have fin : ∀ (vs : List Int), vs ≠ [] → (∀ d ∈ vs, h.dr d) → vs.length ≤ 200 → ∃ s' d, callN fs (k + 1) 10 [s, .int (vs.length : Int)] = .ok (.int d) [some s', some (.int (vs.length : Int))] ∧ Purse s' ∧ ∃ w, atI (vs.map Z.D.int) d = some (.int w) ∧ h.dr w := fun vs hv hvd _ => by
    obtain ⟨d, s', e1, hs', d0, d1⟩ := c10 (k := k) hs (vs.length : Int)
    have : 0 < vs.length := List.length_pos_iff.mpr hv
    obtain ⟨w, hw, hwa⟩ := atI_ints (ps := vs) (i := d) d0 (by omega)
    exact ⟨s', d, e1, hs', w, hwa, hvd w hw⟩
  have app : ∀ w : Int, ws.map Z.D.int ++ [Z.D.int w] = (ws ++ [w]).map .int := fun w => by simp
  have done : ∀ w, h.dr w → (∀ d ∈ ws ++ [w], h.dr d) ∧ (ws ++ [w]).length ≤ ws.length + 1 := fun w hw2 => ⟨fun d hd => by
    rcases List.mem_append.mp hd with hd | hd
    · exact hw d hd
    · simp only [List.mem_singleton] at hd; subst hd; exact hw2, by simp⟩
  obtain ⟨Y, hY⟩ : ∃ Y, Y = ws.map Z.D.int := ⟨_, rfl⟩
  by_cases q1 : shy = true ∧ zs ≠ []
  · obtain ⟨rfl, q2⟩ := q1
    rw [decide_eq_false q2] at en2
    obtain ⟨s', d, e1, hs', w, hwa, hwd⟩ := fin zs q2 hz hzl
    refine ⟨s', ws ++ [w], some (.lst false (zs.map .int)), none, hs', (done w hwd).1, (done w hwd).2, .inl ?_⟩
    simp only [env14]
    rw [← app]
    rw [← hY] at iw hwl2 hlc e13 ⊢
    simp [l14_0, Fd.run, evSs, evS, evT, evE, evEs, evOs, evCs, evP, evI, evIf, PF.ap, opLen, opMod, opAdd, opSum, opLt, opGt, opLe, stepD, getK, setD, putKs, setP, nodeAt, mmTy, mmAp, truth, E.pth, E.pu, Es.pu, imm, imms, fz, fzs, bind_one, bind_tup2, bind_tup3, bind_tup4, Tg.free, Tg.frees, Fd.kp, Fd.out, Fd.fin, finE, giveBack, wipeE, backE, seqOf, lim, ix0, ix1, ix2, ix3, in0, in1, in2, dInts, imms_ints, imms_pairs, fzs_ints, fzs_pairs, fzs_app, imms_app, dInts_ints, in_lst, in_tup, dEq_int, idx_tup, idx_lst, hD0, hD1, hD2, imm_hs, ui14_0, ue14_0, pe14_0, hc, hk, f14, e13, en, i0, hlc, hyl2, hzl2, en2, e1, hwa, hwl2, iw, imms_ints, fzs_ints]
  · obtain ⟨s', d, e1, hs', w, hwa, hwd⟩ := fin ys q hy hyl
    refine ⟨s', ws ++ [w], some (.lst false (ys.map .int)), some (.lst false (zs.map .int)), hs', (done w hwd).1, (done w hwd).2, .inl ?_⟩
    simp only [env14]
    rw [← app]
    rw [← hY] at iw hwl2 hlc e13 ⊢
    cases shy with
    | false => simp [l14_0, Fd.run, evSs, evS, evT, evE, evEs, evOs, evCs, evP, evI, evIf, PF.ap, opLen, opMod, opAdd, opSum, opLt, opGt, opLe, stepD, getK, setD, putKs, setP, nodeAt, mmTy, mmAp, truth, E.pth, E.pu, Es.pu, imm, imms, fz, fzs, bind_one, bind_tup2, bind_tup3, bind_tup4, Tg.free, Tg.frees, Fd.kp, Fd.out, Fd.fin, finE, giveBack, wipeE, backE, seqOf, lim, ix0, ix1, ix2, ix3, in0, in1, in2, dInts, imms_ints, imms_pairs, fzs_ints, fzs_pairs, fzs_app, imms_app, dInts_ints, in_lst, in_tup, dEq_int, idx_tup, idx_lst, hD0, hD1, hD2, imm_hs, ui14_0, ue14_0, pe14_0, hc, hk, f14, e13, en, i0, hlc, hyl2, hzl2, e1, hwa, hwl2, iw, imms_ints, fzs_ints]
    | true =>
      have q2 : zs = [] := by simpa using q1
      rw [decide_eq_true q2] at en2
      simp [l14_0, Fd.run, evSs, evS, evT, evE, evEs, evOs, evCs, evP, evI, evIf, PF.ap, opLen, opMod, opAdd, opSum, opLt, opGt, opLe, stepD, getK, setD, putKs, setP, nodeAt, mmTy, mmAp, truth, E.pth, E.pu, Es.pu, imm, imms, fz, fzs, bind_one, bind_tup2, bind_tup3, bind_tup4, Tg.free, Tg.frees, Fd.kp, Fd.out, Fd.fin, finE, giveBack, wipeE, backE, seqOf, lim, ix0, ix1, ix2, ix3, in0, in1, in2, dInts, imms_ints, imms_pairs, fzs_ints, fzs_pairs, fzs_app, imms_app, dInts_ints, in_lst, in_tup, dEq_int, idx_tup, idx_lst, hD0, hD1, hD2, imm_hs, ui14_0, ue14_0, pe14_0, hc, hk, f14, e13, en, i0, hlc, hyl2, hzl2, en2, e1, hwa, hwl2, iw, imms_ints, fzs_ints]
theorem c14 {k : Nat} {h : Hs} (ok : Ok2 h) {s : Z.D} (hs : Purse s) {most : Int} (m0 : 0 ≤ most) (m1 : most ≤ 150) {shy : Bool} :
    ∃ (s' : Z.D) (ws : List Int), callN fs (k + 1 + 1) 14 [s, h.D, .int most, .bl shy] = .ok (.tup (ws.map .int)) [some s', some h.D, some (.int most), some (.bl shy)] ∧ Purse s' ∧ (∀ d ∈ ws, h.dr d) ∧ ws.length ≤ 150 := by
  obtain ⟨C, hc, hk, hr⟩ := enter (fs := fs) (f := f14) (k := k + 1) (i := 14) (ds := [s, h.D, .int most, .bl shy]) rfl rfl
  rw [hr, bd14]
  obtain ⟨N, hN, hrg⟩ : ∃ N : Nat, (N : Int) = most ∧ rng 0 most = (List.range N).map fun (i : Nat) => Z.D.int (i : Int) := ⟨most.toNat, by omega, rngZ' _⟩
  have hs62 : small62 most = true := by simp [small62]; omega
  have L := for_pre3 (t := .one 5) (body := evSs C l14_0) (fun (i : Nat) => Z.D.int (i : Int))
    (fun pre e => ∃ s' ws x5 x6 x7, e = env14 s' h most shy ws x5 x6 x7 ∧ Purse s' ∧ (∀ d ∈ ws, h.dr d) ∧ ws.length ≤ pre.length)
    (fun e => ∃ s' ws x5 x6 x7, e = env14 s' h most shy ws x5 x6 x7 ∧ Purse s' ∧ (∀ d ∈ ws, h.dr d) ∧ ws.length ≤ 150) (fun _ _ => False) (List.range N) (env14 s h most shy [] none none none) (by
      rintro pre i post e hp ⟨s1, ws, x5, x6, x7, rfl, hs1, hw, hwl⟩
      have hpl : pre.length + 1 ≤ 150 := by have := congrArg List.length hp; simp at this; omega
      obtain ⟨s2, vs, y6, y7, hs2, hv, hvl, e1 | e1⟩ := l14_step hc hk ok hs1 (most := most) (shy := shy) hw (by omega) (x5 := some (.int (i : Int))) (x6 := x6) (x7 := x7)
      · exact ⟨env14 s1 h most shy ws (some (.int (i : Int))) x6 x7, _, by simp [Fd.run, evSs, evS, evT, evE, evEs, evOs, evCs, evP, evI, evIf, PF.ap, opLen, opMod, opAdd, opSum, opLt, opGt, opLe, stepD, getK, setD, putKs, setP, nodeAt, mmTy, mmAp, truth, E.pth, E.pu, Es.pu, imm, imms, fz, fzs, bind_one, bind_tup2, bind_tup3, bind_tup4, Tg.free, Tg.frees, Fd.kp, Fd.out, Fd.fin, finE, giveBack, wipeE, backE, seqOf, lcLoop, forLoop, lim, ix0, ix1, ix2, ix3, in0, in1, in2, dInts, imms_ints, imms_pairs, fzs_ints, fzs_pairs, fzs_app, imms_app, dInts_ints, in_lst, in_tup, dEq_int, idx_tup, idx_lst, hD0, hD1, hD2, imm_hs, env14], .inl ⟨e1, s2, vs, _, y6, y7, rfl, hs2, hv, by simp; omega⟩⟩
      · exact ⟨env14 s1 h most shy ws (some (.int (i : Int))) x6 x7, _, by simp [Fd.run, evSs, evS, evT, evE, evEs, evOs, evCs, evP, evI, evIf, PF.ap, opLen, opMod, opAdd, opSum, opLt, opGt, opLe, stepD, getK, setD, putKs, setP, nodeAt, mmTy, mmAp, truth, E.pth, E.pu, Es.pu, imm, imms, fz, fzs, bind_one, bind_tup2, bind_tup3, bind_tup4, Tg.free, Tg.frees, Fd.kp, Fd.out, Fd.fin, finE, giveBack, wipeE, backE, seqOf, lcLoop, forLoop, lim, ix0, ix1, ix2, ix3, in0, in1, in2, dInts, imms_ints, imms_pairs, fzs_ints, fzs_pairs, fzs_app, imms_app, dInts_ints, in_lst, in_tup, dEq_int, idx_tup, idx_lst, hD0, hD1, hD2, imm_hs, env14], .inr (.inl ⟨e1, s2, vs, _, y6, y7, rfl, hs2, hv, by omega⟩)⟩) ⟨s, [], none, none, none, rfl, hs, by simp, by simp⟩
  have key : ∃ s' ws x5 x6 x7, forLoop (.one 5) (evSs C l14_0) ((List.range N).map fun (i : Nat) => Z.D.int (i : Int)) (env14 s h most shy [] none none none) = .next (env14 s' h most shy ws x5 x6 x7) ∧ Purse s' ∧ (∀ d ∈ ws, h.dr d) ∧ ws.length ≤ 150 := by
    rcases L with ⟨e', hf, ⟨s1, ws, x5, x6, x7, rfl, h1, h2, h3⟩ | ⟨s1, ws, x5, x6, x7, rfl, h1, h2, h3⟩⟩ | ⟨r, e', _, z⟩
    · exact ⟨s1, ws, x5, x6, x7, hf, h1, h2, by simp at h3; omega⟩
    · exact ⟨s1, ws, x5, x6, x7, hf, h1, h2, h3⟩
    · exact z.elim
  obtain ⟨s1, ws, x5, x6, x7, hf, h1, h2, h3⟩ := key
  refine ⟨s1, ws, ?_, h1, h2, h3⟩
  have hwl : ws.length ≤ 16777216 := by omega
  simp only [env14, List.map_nil] at hf
  simp [f14, d14, Fd.run, evSs, evS, evT, evE, evEs, evOs, evCs, evP, evI, evIf, PF.ap, opLen, opMod, opAdd, opSum, opLt, opGt, opLe, stepD, getK, setD, putKs, setP, nodeAt, mmTy, mmAp, truth, E.pth, E.pu, Es.pu, imm, imms, fz, fzs, bind_one, bind_tup2, bind_tup3, bind_tup4, Tg.free, Tg.frees, Fd.kp, Fd.out, Fd.fin, finE, giveBack, wipeE, backE, seqOf, lim, ix0, ix1, ix2, ix3, in0, in1, in2, dInts, imms_ints, imms_pairs, fzs_ints, fzs_pairs, fzs_app, imms_app, dInts_ints, in_lst, in_tup, dEq_int, idx_tup, idx_lst, hD0, hD1, hD2, imm_hs, hc, hk, hs62, hrg, hf, hwl, imms_ints]

/-- things that are asked about -/
def Th (T : Z.D) : Prop := (∃ r, T = .tup r ∧ (∀ x ∈ r, El x) ∧ r.length ≤ 600) ∨ Nt T
theorem cut_mem {α : Type} {l : List α} {a b : Option Int} {x : α} (h : x ∈ cutL l a b) : x ∈ l := List.mem_of_mem_drop (List.mem_of_mem_take h)
theorem cut_len {α : Type} {l : List α} {a b : Option Int} : (cutL l a b).length ≤ l.length := by
  unfold cutL
  rw [List.length_take, List.length_drop]
  omega
theorem El.ints {ws : List Int} : ∀ x ∈ ws.map Z.D.int, El x := fun x hx => by
  obtain ⟨i, _, rfl⟩ := List.mem_map.mp hx
  exact .int i
theorem El.cut {ws : List Int} {a b : Option Int} : ∀ x ∈ cutL (ws.map Z.D.int) a b, El x := fun x hx => El.ints x (cut_mem hx)
theorem El.app {a b : List Z.D} (ha : ∀ x ∈ a, El x) (hb : ∀ x ∈ b, El x) : ∀ x ∈ a ++ b, El x := fun x hx => (List.mem_append.mp hx).elim (ha x) (hb x)
theorem El.one {x : Z.D} (h : El x) : ∀ y ∈ [x], El y := fun y hy => by simp only [List.mem_singleton] at hy; subst hy; exact h
theorem atI_mem {α : Type} {l : List α} {i : Int} (h0 : 0 ≤ i) (h : i < l.length) : ∃ x, x ∈ l ∧ atI l i = some x := by
  rw [atI_nat h0 h]
  have hj : i.toNat < l.length := by omega
  exact ⟨l[i.toNat], List.getElem_mem hj, by simp [List.getElem?_eq_getElem hj]⟩
theorem dEq_tnil (xs : List Int) : dEq (.tup (xs.map .int)) (.tup []) = some (decide (xs = [])) := by
  have e := eqv_ints xs []
  simp only [List.map_nil] at e
  have l1 := lay_ints xs
  have l2 := lay_ints []
  simp only [List.map_nil] at l2
  simp only [dEq, toPy, toPys_ints, toPys, Option.bind_some, Option.map_some, SeqAt.shaped, PyData.canLay0, PyData.depth, l1, l2, PyData.eqv, e]
  simp
theorem pow40 : ∃ P : Int, opPow (.int 10) (.int 40) = some (.int P) := ⟨_, rfl⟩
theorem Th.tup {r : List Z.D} (h : ∀ x ∈ r, El x) (hl : r.length ≤ 600) : Th (.tup r) := .inl ⟨r, rfl, h, hl⟩
abbrev env16 (s : Z.D) (h : Hs) (ws : List Int) (n a w : Int) (x6 : Option Z.D) : Z.Env := [some s, some h.D, some (.tup (ws.map .int)), some (.int n), some (.int a), some (.int w), x6, none]
/-- a piece, one door drawn, a piece -/
theorem c16_odd {C : Z.Ctx} {k : Nat} (hc : C.call = callN fs (k + 1)) (hk : C.kp = f16.kp) {h : Hs} {s : Z.D} (hs : Purse s) {ws : List Int} (hw : ∀ d ∈ ws, h.dr d) (hwl : ws.length ≤ 150) (hn : ws ≠ []) (ok : Ok2 h) {a w : Int} (a0 : 0 ≤ a) (a1 : a < ws.length) (w0 : w = 0 ∨ w = 1) :
    ∃ (s' : Z.D) (T : Z.D) (e : Z.Env), evSs C (dropS 3 d16) (env16 s h ws h.ps.length a w none) = .ret T e ∧ f16.fin e = [some s', some h.D, some (.tup (ws.map .int))] ∧ Purse s' ∧ Th T := by
  obtain ⟨r, s1, e1, hs1, r0, r1⟩ := c10 (k := k) hs 9
  have i0 := hs.imm
  obtain ⟨P, hP⟩ := pow40
  obtain ⟨d, hd, hat⟩ := atI_ints (ps := ws) a0 a1
  have hdr := hw d hd
  have pl := ok.ok.pl
  have hdn : d.natAbs ≤ 200 := by have := hdr.1; have := hdr.2; omega
  have hlog : d.natAbs.log2 < 1920 := by have := Nat.log2_le_self d.natAbs; omega
  have et := dEq_tnil ws
  rw [decide_eq_false hn] at et
  obtain ⟨odd, hodd⟩ : ∃ l : List Z.D, l = [.int (h.ps.length : Int), .int (-1), .bl (decide (d = 1)), .non, .str (toString d), .tup [.int d], .int P, .int (d - (h.ps.length : Int)), .bl true] := ⟨_, rfl⟩
  have hoE : ∀ x ∈ odd, El x := fun x hx => by
    rw [hodd] at hx
    simp only [List.mem_cons, List.not_mem_nil, or_false] at hx
    rcases hx with rfl | rfl | rfl | rfl | rfl | rfl | rfl | rfl | rfl
    · exact .int _
    · exact .int _
    · exact .bl _
    · exact .non
    · exact .str _
    · exact .tup [d]
    · exact .int _
    · exact .int _
    · exact .bl _
  have hol : odd.length = 9 := by rw [hodd]; rfl
  obtain ⟨x, hx, hxa⟩ := atI_mem (l := odd) (i := r) r0 (by rw [hol]; omega)
  have ix := (hoE x hx).imm
  have io := El.imms hoE
  obtain ⟨Z1, hZ1⟩ : ∃ l, l = cutL (ws.map Z.D.int) none (some a) := ⟨_, rfl⟩
  obtain ⟨Z2, hZ2⟩ : ∃ l, l = cutL (ws.map Z.D.int) (some (a + 1)) none := ⟨_, rfl⟩
  have z1 : (∀ y ∈ Z1, El y) ∧ Z1.length ≤ 150 := by rw [hZ1]; exact ⟨El.cut, Nat.le_trans cut_len (by simpa using hwl)⟩
  have z2 : (∀ y ∈ Z2, El y) ∧ Z2.length ≤ 150 := by rw [hZ2]; exact ⟨El.cut, Nat.le_trans cut_len (by simpa using hwl)⟩
  have iz1 := El.imms z1.1
  have iz2 := El.imms z2.1
  have iw : imms (ws.map Z.D.int) = true := imms_ints
  have hwl2 : ws.length ≤ 16777216 := by omega
  have zl1 := z1.2
  have zl2 := z2.2
  have l1 : Z1.length + 1 ≤ 16777216 := by omega
  have l2 : Z1.length + (Z2.length + 1) ≤ 16777216 := by omega
  have l3 : Z1.length + 1 + Z2.length ≤ 16777216 := by omega
  have hd1 : PF.eq.ap [.int d, .int 1] = some (.bl (decide (d = 1))) := by simp only [PF.ap, dEq_int, Option.map_some]
  have hlt : w < 2 := by omega
  refine ⟨s1, .tup (Z1 ++ x :: Z2), env16 s1 h ws h.ps.length a w (some (.tup odd)), ?_, ?_, hs1, Th.tup (El.app z1.1 (fun y hy => by
    rcases List.mem_cons.mp hy with rfl | hy
    · exact hoE _ hx
    · exact z2.1 y hy)) (by simp; omega)⟩
  · simp only [env16]
    have hof : Z.D.tup odd = .tup [.int (h.ps.length : Int), .int (-1), .bl (decide (d = 1)), .non, .str (toString d), .tup [.int d], .int P, .int (d - (h.ps.length : Int)), .bl true] := by rw [hodd]
    have h1 : evSs C (.cons (.asg (.one 6) (.tup (.cons (.var 3) (.cons (.ap .neg (.cons (.cst (.int 1)) .nil)) (.cons (.ap .eq (.cons (.pidx (.var 2) (.var 4)) (.cons (.cst (.int 1)) .nil))) (.cons (.cst .non) (.cons (.ap .str (.cons (.pidx (.var 2) (.var 4)) .nil)) (.cons (.tup (.cons (.pidx (.var 2) (.var 4)) .nil)) (.cons (.ap .pow (.cons (.cst (.int 10)) (.cons (.cst (.int 40)) .nil))) (.cons (.ap .sub (.cons (.pidx (.var 2) (.var 4)) (.cons (.var 3) .nil))) (.cons (.cst (.bl true)) .nil))))))))))) .nil) (env16 s h ws h.ps.length a w none) = .next (env16 s h ws h.ps.length a w (some (.tup odd))) := by
      rw [hof]
      simp [Fd.run, evSs, evS, evT, evE, evEs, evOs, evCs, evP, evI, evIf, PF.ap, opLen, opMod, opAdd, opSum, opLt, opGt, opLe, stepD, getK, setD, putKs, setP, nodeAt, mmTy, mmAp, truth, E.pth, E.pu, Es.pu, imm, imms, fz, fzs, bind_one, bind_tup2, bind_tup3, bind_tup4, Tg.free, Tg.frees, Fd.kp, Fd.out, Fd.fin, finE, giveBack, wipeE, backE, seqOf, lcLoop, forLoop, lim, ix0, ix1, ix2, ix3, in0, in1, in2, dInts, imms_ints, imms_pairs, fzs_ints, fzs_pairs, fzs_app, imms_app, dInts_ints, in_lst, in_tup, dEq_int, idx_tup, idx_lst, hD0, hD1, hD2, imm_hs, env16, hk, f16, hat, iw, hlog, hP]
    have h2 : evSs C (.cons (.ret (.ap .add (.cons (.ap .add (.cons (.ap (.slc false true) (.cons (.var 2) (.cons (.var 4) .nil))) (.cons (.tup (.cons (.pidx (.var 6) (.call 10 (.cons (.var 0) (.cons (.cst (.int 9)) .nil)))) .nil)) .nil))) (.cons (.ap (.slc true false) (.cons (.var 2) (.cons (.ap .add (.cons (.var 4) (.cons (.cst (.int 1)) .nil))) .nil))) .nil)))) .nil) (env16 s h ws h.ps.length a w (some (.tup odd))) = .ret (.tup (Z1 ++ x :: Z2)) (env16 s1 h ws h.ps.length a w (some (.tup odd))) := by
      simp [Fd.run, evSs, evS, evT, evE, evEs, evOs, evCs, evP, evI, evIf, PF.ap, opLen, opMod, opAdd, opSum, opLt, opGt, opLe, stepD, getK, setD, putKs, setP, nodeAt, mmTy, mmAp, truth, E.pth, E.pu, Es.pu, imm, imms, fz, fzs, bind_one, bind_tup2, bind_tup3, bind_tup4, Tg.free, Tg.frees, Fd.kp, Fd.out, Fd.fin, finE, giveBack, wipeE, backE, seqOf, lcLoop, forLoop, lim, ix0, ix1, ix2, ix3, in0, in1, in2, dInts, imms_ints, imms_pairs, fzs_ints, fzs_pairs, fzs_app, imms_app, dInts_ints, in_lst, in_tup, dEq_int, idx_tup, idx_lst, hD0, hD1, hD2, imm_hs, env16, hc, hk, f16, opCut, iw, ← hZ1, ← hZ2, e1, i0, io, hxa, ix, iz1, iz2, l1, l2, l3]
    have hcond : evT C (.and (.ap .lt (.cons (.var 5) (.cons (.cst (.int 2)) .nil))) (.ap .ne (.cons (.var 2) (.cons (.tup .nil) .nil)))) (env16 s h ws h.ps.length a w none) = .ok true (env16 s h ws h.ps.length a w none) := by
      simp [Fd.run, evSs, evS, evT, evE, evEs, evOs, evCs, evP, evI, evIf, PF.ap, opLen, opMod, opAdd, opSum, opLt, opGt, opLe, stepD, getK, setD, putKs, setP, nodeAt, mmTy, mmAp, truth, E.pth, E.pu, Es.pu, imm, imms, fz, fzs, bind_one, bind_tup2, bind_tup3, bind_tup4, Tg.free, Tg.frees, Fd.kp, Fd.out, Fd.fin, finE, giveBack, wipeE, backE, seqOf, lcLoop, forLoop, lim, ix0, ix1, ix2, ix3, in0, in1, in2, dInts, imms_ints, imms_pairs, fzs_ints, fzs_pairs, fzs_app, imms_app, dInts_ints, in_lst, in_tup, dEq_int, idx_tup, idx_lst, hD0, hD1, hD2, imm_hs, env16, hlt, et]
    have hA : ∀ (st rs : S) (env e2 : Z.Env) (r : SRes), evSs C (.cons st .nil) env = .next e2 → evSs C (.cons rs .nil) e2 = r → evSs C (.cons st (.cons rs .nil)) env = r := fun st rs env e2 r q1 q2 => by
      simp only [evSs] at q1 ⊢
      cases q3 : evS C st env with
      | next e => rw [q3] at q1; simp only [SRes.thn] at q1 ⊢; cases q1; exact q2
      | brk e => rw [q3] at q1; cases q1
      | cnt e => rw [q3] at q1; cases q1
      | ret d e => rw [q3] at q1; cases q1
      | exc x e => rw [q3] at q1; cases q1
      | bad => rw [q3] at q1; cases q1
    have hI : ∀ (c : E) (a r : Ss) (env e2 : Z.Env) (d : Z.D), evT C c env = .ok true env → evSs C a env = .ret d e2 → evSs C (.cons (.ite c a .nil) r) env = .ret d e2 := fun c a r env e2 d q1 q2 => by
      simp only [evSs, evS, q1, Res.thn, if_true, q2, SRes.thn]
    exact hI _ _ _ _ _ _ hcond (hA _ _ _ _ _ h1 h2)
  · simp [f16, Fd.fin, finE, env16]

theorem c16_rest {C : Z.Ctx} {k : Nat} (hc : C.call = callN fs (k + 1)) (hk : C.kp = f16.kp) {h : Hs} {s : Z.D} (hs : Purse s) {ws : List Int} (hwl : ws.length ≤ 150) (ok : Ok2 h) {a w : Int} (w0 : 0 ≤ w) (w1 : w < 9) (hno : ws = [] ∨ 2 ≤ w) :
    ∃ (s' : Z.D) (T : Z.D) (e : Z.Env), evSs C (dropS 3 d16) (env16 s h ws h.ps.length a w none) = .ret T e ∧ f16.fin e = [some s', some h.D, some (.tup (ws.map .int))] ∧ Purse s' ∧ Th T := by
  obtain ⟨r, s1, e1, hs1, r0, r1⟩ := c10 (k := k) hs ((h.ps.length : Int) + 1)
  have i0 := hs.imm
  have et := dEq_tnil ws
  obtain ⟨L, hL⟩ : ∃ l, l = ws.map Z.D.int := ⟨_, rfl⟩
  have hLE : ∀ x ∈ L, El x := by rw [hL]; exact El.ints
  have hLl : L.length ≤ 150 := by rw [hL]; simpa using hwl
  have iL := El.imms hLE
  have fL : fzs L = L := by rw [hL]; exact fzs_ints ws
  have cE : ∀ lo hi, (∀ x ∈ cutL L lo hi, El x) ∧ (cutL L lo hi).length ≤ 150 := fun lo hi => ⟨fun x hx => hLE x (cut_mem hx), Nat.le_trans cut_len hLl⟩
  obtain ⟨Z1, hZ1⟩ : ∃ l, l = cutL L none (some a) := ⟨_, rfl⟩
  obtain ⟨Z2, hZ2⟩ : ∃ l, l = cutL L (some (a + 1)) none := ⟨_, rfl⟩
  obtain ⟨Z3, hZ3⟩ : ∃ l, l = cutL L (some a) none := ⟨_, rfl⟩
  obtain ⟨Z4, hZ4⟩ : ∃ l, l = cutL L (some a) (some (a + 1)) := ⟨_, rfl⟩
  have z1 := cE none (some a)
  have z2 := cE (some (a + 1)) none
  have z3 := cE (some a) none
  have z4 := cE (some a) (some (a + 1))
  rw [← hZ1] at z1
  rw [← hZ2] at z2
  rw [← hZ3] at z3
  rw [← hZ4] at z4
  have iz1 := El.imms z1.1
  have iz2 := El.imms z2.1
  have iz3 := El.imms z3.1
  have iz4 := El.imms z4.1
  have zl1 := z1.2
  have zl2 := z2.2
  have zl3 := z3.2
  have zl4 := z4.2
  have l1 : Z1.length + 1 ≤ 16777216 := by omega
  have l2 : Z1.length + 1 + Z2.length ≤ 16777216 := by omega
  have l3 : Z1.length + 1 + Z3.length ≤ 16777216 := by omega
  have l2' : Z1.length + (Z2.length + 1) ≤ 16777216 := by omega
  have l3' : Z1.length + (Z3.length + 1) ≤ 16777216 := by omega
  have l4 : L.length + Z4.length ≤ 16777216 := by omega
  have l5 : L.length + Z4.length + 1 ≤ 16777216 := by omega
  have l5' : L.length + (Z4.length + 1) ≤ 16777216 := by omega
  have l6 : Z1.length + Z2.length ≤ 16777216 := by omega
  have l7 : L.length ≤ 16777216 := by omega
  have l8 : L.length + 3 ≤ 16777216 := by omega
  have fin : ∀ s2 x6, f16.fin (env16 s2 h ws h.ps.length a w x6) = [some s2, some h.D, some (.tup (ws.map .int))] := fun s2 x6 => by simp [f16, Fd.fin, finE, env16]
  have hrg : rng 0 3 = ([0, 1, 2] : List Int).map .int := rfl
  have hs62 : small62 3 = true := by decide
  obtain ⟨rs, e', hl1, s3, vs, rfl, rfl, hs3, hvl⟩ := lc_pre (own := [7]) (t := .one 7) (ifs := evIf C i16_0) (el := evE C e16_0) (pth := false) Z.D.int
    (fun pre out e => ∃ (s' : Z.D) (vs : List Int), out = vs.map .int ∧ e = env16 s' h ws h.ps.length a w none ∧ Purse s' ∧ vs.length = pre.length) [0, 1, 2] (env16 s h ws h.ps.length a w none) (by
      rintro pre i post out e hp ⟨s', vs, rfl, rfl, hs', hvl⟩
      obtain ⟨q, s2, e2, hs2, _, _⟩ := c10 (k := k) hs' ((h.ps.length : Int) + 1)
      have i2 := hs'.imm
      exact ⟨[some s', some h.D, some (.tup (ws.map .int)), some (.int h.ps.length), some (.int a), some (.int w), none, some (.int i)], true, [some s', some h.D, some (.tup (ws.map .int)), some (.int h.ps.length), some (.int a), some (.int w), none, some (.int i)], by simp [Fd.run, evSs, evS, evT, evE, evEs, evOs, evCs, evP, evI, evIf, PF.ap, opLen, opMod, opAdd, opSum, opLt, opGt, opLe, stepD, getK, setD, putKs, setP, nodeAt, mmTy, mmAp, truth, E.pth, E.pu, Es.pu, imm, imms, fz, fzs, bind_one, bind_tup2, bind_tup3, bind_tup4, Tg.free, Tg.frees, Fd.kp, Fd.out, Fd.fin, finE, giveBack, wipeE, backE, seqOf, lcLoop, forLoop, lim, ix0, ix1, ix2, ix3, in0, in1, in2, dInts, imms_ints, imms_pairs, fzs_ints, fzs_pairs, fzs_app, imms_app, dInts_ints, in_lst, in_tup, dEq_int, idx_tup, idx_lst, hD0, hD1, hD2, imm_hs, env16], by simp [i16_0, Fd.run, evSs, evS, evT, evE, evEs, evOs, evCs, evP, evI, evIf, PF.ap, opLen, opMod, opAdd, opSum, opLt, opGt, opLe, stepD, getK, setD, putKs, setP, nodeAt, mmTy, mmAp, truth, E.pth, E.pu, Es.pu, imm, imms, fz, fzs, bind_one, bind_tup2, bind_tup3, bind_tup4, Tg.free, Tg.frees, Fd.kp, Fd.out, Fd.fin, finE, giveBack, wipeE, backE, seqOf, lcLoop, forLoop, lim, ix0, ix1, ix2, ix3, in0, in1, in2, dInts, imms_ints, imms_pairs, fzs_ints, fzs_pairs, fzs_app, imms_app, dInts_ints, in_lst, in_tup, dEq_int, idx_tup, idx_lst, hD0, hD1, hD2, imm_hs],
        fun _ => ⟨.int q, [some s2, some h.D, some (.tup (ws.map .int)), some (.int h.ps.length), some (.int a), some (.int w), none, some (.int i)], by simp [e16_0, Fd.run, evSs, evS, evT, evE, evEs, evOs, evCs, evP, evI, evIf, PF.ap, opLen, opMod, opAdd, opSum, opLt, opGt, opLe, stepD, getK, setD, putKs, setP, nodeAt, mmTy, mmAp, truth, E.pth, E.pu, Es.pu, imm, imms, fz, fzs, bind_one, bind_tup2, bind_tup3, bind_tup4, Tg.free, Tg.frees, Fd.kp, Fd.out, Fd.fin, finE, giveBack, wipeE, backE, seqOf, lcLoop, forLoop, lim, ix0, ix1, ix2, ix3, in0, in1, in2, dInts, imms_ints, imms_pairs, fzs_ints, fzs_pairs, fzs_app, imms_app, dInts_ints, in_lst, in_tup, dEq_int, idx_tup, idx_lst, hD0, hD1, hD2, imm_hs, hc, e2, i2], rfl, s2, vs ++ [q], by simp, by simp [Fd.run, evSs, evS, evT, evE, evEs, evOs, evCs, evP, evI, evIf, PF.ap, opLen, opMod, opAdd, opSum, opLt, opGt, opLe, stepD, getK, setD, putKs, setP, nodeAt, mmTy, mmAp, truth, E.pth, E.pu, Es.pu, imm, imms, fz, fzs, bind_one, bind_tup2, bind_tup3, bind_tup4, Tg.free, Tg.frees, Fd.kp, Fd.out, Fd.fin, finE, giveBack, wipeE, backE, seqOf, lcLoop, forLoop, lim, ix0, ix1, ix2, ix3, in0, in1, in2, dInts, imms_ints, imms_pairs, fzs_ints, fzs_pairs, fzs_app, imms_app, dInts_ints, in_lst, in_tup, dEq_int, idx_tup, idx_lst, hD0, hD1, hD2, imm_hs, env16], hs2, by simp [hvl]⟩, fun z => by cases z⟩) ⟨s, [], rfl, rfl, hs, rfl⟩
  have hvE : ∀ x ∈ vs.map Z.D.int, El x := El.ints
  have iv := El.imms hvE
  have hv3 : vs.length = 3 := by simpa using hvl
  simp only [env16, List.map_cons, List.map_nil] at hl1
  rw [← hL] at et hl1
  have fin2 : ∀ s2 x6, f16.fin [some s2, some h.D, some (.tup L), some (.int h.ps.length), some (.int a), some (.int w), x6, none] = [some s2, some h.D, some (.tup L)] := fun s2 x6 => by simp [f16, Fd.fin, finE]
  have H : (w = 0 ∨ w = 1 ∨ w = 3 ∧ ws = [] ∨ w = 8) → (w < 2 → ws = []) → ∃ (s' : Z.D) (T : Z.D) (e : Z.Env), evSs C (dropS 3 d16) (env16 s h ws h.ps.length a w none) = .ret T e ∧ f16.fin e = [some s', some h.D, some (.tup (ws.map .int))] ∧ Purse s' ∧ Th T := fun q q2 => by
    refine ⟨s3, .tup (L ++ vs.map .int), env16 s3 h ws h.ps.length a w none, ?_, fin _ _, hs3, Th.tup (El.app hLE hvE) (by simp; omega)⟩
    simp only [env16]
    rw [← hL]
    rcases q with rfl | rfl | ⟨rfl, q3⟩ | rfl
    · have := q2 (by omega)
      rw [decide_eq_true this] at et
      simp [dropS, d16, Fd.run, evSs, evS, evT, evE, evEs, evOs, evCs, evP, evI, evIf, PF.ap, opLen, opMod, opAdd, opSum, opLt, opGt, opLe, stepD, getK, setD, putKs, setP, nodeAt, mmTy, mmAp, truth, E.pth, E.pu, Es.pu, imm, imms, fz, fzs, bind_one, bind_tup2, bind_tup3, bind_tup4, Tg.free, Tg.frees, Fd.kp, Fd.out, Fd.fin, finE, giveBack, wipeE, backE, seqOf, lim, ix0, ix1, ix2, ix3, in0, in1, in2, dInts, imms_ints, imms_pairs, fzs_ints, fzs_pairs, fzs_app, imms_app, dInts_ints, in_lst, in_tup, dEq_int, idx_tup, idx_lst, hD0, hD1, hD2, imm_hs, ui16_0, ue16_0, pe16_0, hk, f16, et, hs62, hrg, hl1, iL, iv, hv3, l7, l8]
    · have := q2 (by omega)
      rw [decide_eq_true this] at et
      simp [dropS, d16, Fd.run, evSs, evS, evT, evE, evEs, evOs, evCs, evP, evI, evIf, PF.ap, opLen, opMod, opAdd, opSum, opLt, opGt, opLe, stepD, getK, setD, putKs, setP, nodeAt, mmTy, mmAp, truth, E.pth, E.pu, Es.pu, imm, imms, fz, fzs, bind_one, bind_tup2, bind_tup3, bind_tup4, Tg.free, Tg.frees, Fd.kp, Fd.out, Fd.fin, finE, giveBack, wipeE, backE, seqOf, lim, ix0, ix1, ix2, ix3, in0, in1, in2, dInts, imms_ints, imms_pairs, fzs_ints, fzs_pairs, fzs_app, imms_app, dInts_ints, in_lst, in_tup, dEq_int, idx_tup, idx_lst, hD0, hD1, hD2, imm_hs, ui16_0, ue16_0, pe16_0, hk, f16, et, hs62, hrg, hl1, iL, iv, hv3, l7, l8]
    · rw [decide_eq_true q3] at et
      simp [dropS, d16, Fd.run, evSs, evS, evT, evE, evEs, evOs, evCs, evP, evI, evIf, PF.ap, opLen, opMod, opAdd, opSum, opLt, opGt, opLe, stepD, getK, setD, putKs, setP, nodeAt, mmTy, mmAp, truth, E.pth, E.pu, Es.pu, imm, imms, fz, fzs, bind_one, bind_tup2, bind_tup3, bind_tup4, Tg.free, Tg.frees, Fd.kp, Fd.out, Fd.fin, finE, giveBack, wipeE, backE, seqOf, lim, ix0, ix1, ix2, ix3, in0, in1, in2, dInts, imms_ints, imms_pairs, fzs_ints, fzs_pairs, fzs_app, imms_app, dInts_ints, in_lst, in_tup, dEq_int, idx_tup, idx_lst, hD0, hD1, hD2, imm_hs, ui16_0, ue16_0, pe16_0, hk, f16, et, hs62, hrg, hl1, iL, iv, hv3, l7, l8]
    · simp [dropS, d16, Fd.run, evSs, evS, evT, evE, evEs, evOs, evCs, evP, evI, evIf, PF.ap, opLen, opMod, opAdd, opSum, opLt, opGt, opLe, stepD, getK, setD, putKs, setP, nodeAt, mmTy, mmAp, truth, E.pth, E.pu, Es.pu, imm, imms, fz, fzs, bind_one, bind_tup2, bind_tup3, bind_tup4, Tg.free, Tg.frees, Fd.kp, Fd.out, Fd.fin, finE, giveBack, wipeE, backE, seqOf, lim, ix0, ix1, ix2, ix3, in0, in1, in2, dInts, imms_ints, imms_pairs, fzs_ints, fzs_pairs, fzs_app, imms_app, dInts_ints, in_lst, in_tup, dEq_int, idx_tup, idx_lst, hD0, hD1, hD2, imm_hs, ui16_0, ue16_0, pe16_0, hk, f16, hs62, hrg, hl1, iL, iv, hv3, l7, l8]
  obtain rfl | rfl | rfl | rfl | rfl | rfl | rfl | rfl | rfl : w = 0 ∨ w = 1 ∨ w = 2 ∨ w = 3 ∨ w = 4 ∨ w = 5 ∨ w = 6 ∨ w = 7 ∨ w = 8 := by omega
  · exact H (by simp) fun _ => hno.elim id fun z => by omega
  · exact H (by simp) fun _ => hno.elim id fun z => by omega
  · refine ⟨s1, .tup (Z1 ++ .int r :: Z3), env16 s1 h ws h.ps.length a 2 none, ?_, fin _ _, hs1, Th.tup (El.app z1.1 fun y hy => by
      rcases List.mem_cons.mp hy with rfl | hy
      · exact .int _
      · exact z3.1 y hy) (by simp; omega)⟩
    simp only [env16]
    rw [← hL]
    simp [dropS, d16, Fd.run, evSs, evS, evT, evE, evEs, evOs, evCs, evP, evI, evIf, PF.ap, opLen, opMod, opAdd, opSum, opLt, opGt, opLe, stepD, getK, setD, putKs, setP, nodeAt, mmTy, mmAp, truth, E.pth, E.pu, Es.pu, imm, imms, fz, fzs, bind_one, bind_tup2, bind_tup3, bind_tup4, Tg.free, Tg.frees, Fd.kp, Fd.out, Fd.fin, finE, giveBack, wipeE, backE, seqOf, lim, ix0, ix1, ix2, ix3, in0, in1, in2, dInts, imms_ints, imms_pairs, fzs_ints, fzs_pairs, fzs_app, imms_app, dInts_ints, in_lst, in_tup, dEq_int, idx_tup, idx_lst, hD0, hD1, hD2, imm_hs, ui16_0, ue16_0, pe16_0, hc, hk, f16, opCut, iL, ← hZ1, ← hZ3, e1, i0, iz1, iz3, l1, l3, l3']
  · by_cases q : ws = []
    · exact H (by simp [q]) fun _ => q
    · rw [decide_eq_false q] at et
      refine ⟨s1, .tup (Z1 ++ .int r :: Z2), env16 s1 h ws h.ps.length a 3 none, ?_, fin _ _, hs1, Th.tup (El.app z1.1 fun y hy => by
        rcases List.mem_cons.mp hy with rfl | hy
        · exact .int _
        · exact z2.1 y hy) (by simp; omega)⟩
      simp only [env16]
      rw [← hL]
      simp [dropS, d16, Fd.run, evSs, evS, evT, evE, evEs, evOs, evCs, evP, evI, evIf, PF.ap, opLen, opMod, opAdd, opSum, opLt, opGt, opLe, stepD, getK, setD, putKs, setP, nodeAt, mmTy, mmAp, truth, E.pth, E.pu, Es.pu, imm, imms, fz, fzs, bind_one, bind_tup2, bind_tup3, bind_tup4, Tg.free, Tg.frees, Fd.kp, Fd.out, Fd.fin, finE, giveBack, wipeE, backE, seqOf, lim, ix0, ix1, ix2, ix3, in0, in1, in2, dInts, imms_ints, imms_pairs, fzs_ints, fzs_pairs, fzs_app, imms_app, dInts_ints, in_lst, in_tup, dEq_int, idx_tup, idx_lst, hD0, hD1, hD2, imm_hs, ui16_0, ue16_0, pe16_0, hc, hk, f16, opCut, iL, ← hZ1, ← hZ2, e1, i0, iz1, iz2, l1, l2, l2', et]
  · refine ⟨s1, .tup (L ++ (Z4 ++ [.int r])), env16 s1 h ws h.ps.length a 4 none, ?_, fin _ _, hs1, Th.tup (El.app hLE (El.app z4.1 (El.one (.int _)))) (by simp; omega)⟩
    simp only [env16]
    rw [← hL]
    simp [dropS, d16, Fd.run, evSs, evS, evT, evE, evEs, evOs, evCs, evP, evI, evIf, PF.ap, opLen, opMod, opAdd, opSum, opLt, opGt, opLe, stepD, getK, setD, putKs, setP, nodeAt, mmTy, mmAp, truth, E.pth, E.pu, Es.pu, imm, imms, fz, fzs, bind_one, bind_tup2, bind_tup3, bind_tup4, Tg.free, Tg.frees, Fd.kp, Fd.out, Fd.fin, finE, giveBack, wipeE, backE, seqOf, lim, ix0, ix1, ix2, ix3, in0, in1, in2, dInts, imms_ints, imms_pairs, fzs_ints, fzs_pairs, fzs_app, imms_app, dInts_ints, in_lst, in_tup, dEq_int, idx_tup, idx_lst, hD0, hD1, hD2, imm_hs, ui16_0, ue16_0, pe16_0, hc, hk, f16, opCut, iL, ← hZ4, e1, i0, iz4, l4, l5, l5']
  · refine ⟨s, .tup (Z1 ++ Z2), env16 s h ws h.ps.length a 5 none, ?_, fin _ _, hs, Th.tup (El.app z1.1 z2.1) (by simp; omega)⟩
    simp only [env16]
    rw [← hL]
    simp [dropS, d16, Fd.run, evSs, evS, evT, evE, evEs, evOs, evCs, evP, evI, evIf, PF.ap, opLen, opMod, opAdd, opSum, opLt, opGt, opLe, stepD, getK, setD, putKs, setP, nodeAt, mmTy, mmAp, truth, E.pth, E.pu, Es.pu, imm, imms, fz, fzs, bind_one, bind_tup2, bind_tup3, bind_tup4, Tg.free, Tg.frees, Fd.kp, Fd.out, Fd.fin, finE, giveBack, wipeE, backE, seqOf, lim, ix0, ix1, ix2, ix3, in0, in1, in2, dInts, imms_ints, imms_pairs, fzs_ints, fzs_pairs, fzs_app, imms_app, dInts_ints, in_lst, in_tup, dEq_int, idx_tup, idx_lst, hD0, hD1, hD2, imm_hs, ui16_0, ue16_0, pe16_0, hc, hk, f16, opCut, iL, ← hZ1, ← hZ2, iz1, iz2, l6]
  · refine ⟨s, .tup L.reverse, env16 s h ws h.ps.length a 6 none, ?_, fin _ _, hs, Th.tup (fun x hx => hLE x (List.mem_reverse.mp hx)) (by simp; omega)⟩
    simp only [env16]
    rw [← hL]
    simp [dropS, d16, Fd.run, evSs, evS, evT, evE, evEs, evOs, evCs, evP, evI, evIf, PF.ap, opLen, opMod, opAdd, opSum, opLt, opGt, opLe, stepD, getK, setD, putKs, setP, nodeAt, mmTy, mmAp, truth, E.pth, E.pu, Es.pu, imm, imms, fz, fzs, bind_one, bind_tup2, bind_tup3, bind_tup4, Tg.free, Tg.frees, Fd.kp, Fd.out, Fd.fin, finE, giveBack, wipeE, backE, seqOf, lim, ix0, ix1, ix2, ix3, in0, in1, in2, dInts, imms_ints, imms_pairs, fzs_ints, fzs_pairs, fzs_app, imms_app, dInts_ints, in_lst, in_tup, dEq_int, idx_tup, idx_lst, hD0, hD1, hD2, imm_hs, ui16_0, ue16_0, pe16_0, hc, hk, f16, iL]
  · obtain ⟨q, s2, e2, hs2, q0, q1⟩ := c10 (k := k) hs 9
    obtain ⟨gl, hgl⟩ : ∃ l : List Z.D, l = [.lst false L, .non, .int 0, .str "", .lst false [], .tup [], .tup [.tup L], .str "walk", .bl true] := ⟨_, rfl⟩
    obtain ⟨x, hx, hxa⟩ := atI_mem (l := gl) (i := q) q0 (by rw [hgl]; simp; omega)
    have hT : Th x ∧ imm x = true := by
      rw [hgl] at hx
      simp only [List.mem_cons, List.not_mem_nil, or_false] at hx
      rcases hx with rfl | rfl | rfl | rfl | rfl | rfl | rfl | rfl | rfl
      · exact ⟨.inr (.lst _ _), by simp [imm, iL]⟩
      · exact ⟨.inr .non, rfl⟩
      · exact ⟨.inr (.int _), rfl⟩
      · exact ⟨.inr (.str _), rfl⟩
      · exact ⟨.inr (.lst _ _), rfl⟩
      · exact ⟨Th.tup (by simp) (by simp), rfl⟩
      · exact ⟨Th.tup (El.one (by rw [hL]; exact .tup ws)) (by simp), by simp [imm, imms, iL]⟩
      · exact ⟨.inr (.str _), rfl⟩
      · exact ⟨.inr (.bl _), rfl⟩
    refine ⟨s2, x, env16 s2 h ws h.ps.length a 7 none, ?_, fin _ _, hs2, hT.1⟩
    simp only [env16]
    rw [← hL]
    have ixx := hT.2
    have hxb : atI [.lst false L, .non, .int 0, .str "", .lst false [], .tup [], .tup [.tup L], .str "walk", .bl true] q = some x := by rw [← hgl]; exact hxa
    simp [dropS, d16, Fd.run, evSs, evS, evT, evE, evEs, evOs, evCs, evP, evI, evIf, PF.ap, opLen, opMod, opAdd, opSum, opLt, opGt, opLe, stepD, getK, setD, putKs, setP, nodeAt, mmTy, mmAp, truth, E.pth, E.pu, Es.pu, imm, imms, fz, fzs, bind_one, bind_tup2, bind_tup3, bind_tup4, Tg.free, Tg.frees, Fd.kp, Fd.out, Fd.fin, finE, giveBack, wipeE, backE, seqOf, lim, ix0, ix1, ix2, ix3, in0, in1, in2, dInts, imms_ints, imms_pairs, fzs_ints, fzs_pairs, fzs_app, imms_app, dInts_ints, in_lst, in_tup, dEq_int, idx_tup, idx_lst, hD0, hD1, hD2, imm_hs, ui16_0, ue16_0, pe16_0, hc, hk, f16, iL, fL, e2, i0, hxb, ixx, l7]
  · exact H (by simp) fun z => by omega
theorem c16 {k : Nat} {h : Hs} (ok : Ok2 h) {s : Z.D} (hs : Purse s) {ws : List Int} (hw : ∀ d ∈ ws, h.dr d) (hwl : ws.length ≤ 150) :
    ∃ (s' T : Z.D), callN fs (k + 1 + 1) 16 [s, h.D, .tup (ws.map .int)] = .ok T [some s', some h.D, some (.tup (ws.map .int))] ∧ Purse s' ∧ Th T := by
  obtain ⟨C, hc, hk, hr⟩ := enter (fs := fs) (f := f16) (k := k + 1) (i := 16) (ds := [s, h.D, .tup (ws.map .int)]) rfl rfl
  obtain ⟨a, s1, e1, hs1, a0, a1⟩ := c10 (k := k) hs (ws.length : Int)
  obtain ⟨w, s2, e2, hs2, w0, w1⟩ := c10 (k := k) hs1 9
  have i0 := hs.imm
  have i1 := hs1.imm
  have pl := ok.ok.pl
  have l1 : ws.length ≤ 16777216 := by omega
  have l2 : h.ps.length ≤ 16777216 := by omega
  have eA : evSs C (takeS 3 d16) [some s, some h.D, some (.tup (ws.map .int)), none, none, none, none, none] = .next (env16 s2 h ws h.ps.length a w none) := by
    simp [takeS, d16, Fd.run, evSs, evS, evT, evE, evEs, evOs, evCs, evP, evI, evIf, PF.ap, opLen, opMod, opAdd, opSum, opLt, opGt, opLe, stepD, getK, setD, putKs, setP, nodeAt, mmTy, mmAp, truth, E.pth, E.pu, Es.pu, imm, imms, fz, fzs, bind_one, bind_tup2, bind_tup3, bind_tup4, Tg.free, Tg.frees, Fd.kp, Fd.out, Fd.fin, finE, giveBack, wipeE, backE, seqOf, lim, ix0, ix1, ix2, ix3, in0, in1, in2, dInts, imms_ints, imms_pairs, fzs_ints, fzs_pairs, fzs_app, imms_app, dInts_ints, in_lst, in_tup, dEq_int, idx_tup, idx_lst, hD0, hD1, hD2, imm_hs, env16, hc, hk, f16, e1, e2, i0, i1, l1, l2]
  have key : ∃ (s' : Z.D) (T : Z.D) (e : Z.Env), evSs C (dropS 3 d16) (env16 s2 h ws h.ps.length a w none) = .ret T e ∧ f16.fin e = [some s', some h.D, some (.tup (ws.map .int))] ∧ Purse s' ∧ Th T := by
    by_cases q : ws = [] ∨ 2 ≤ w
    · exact c16_rest hc hk hs2 hwl ok w0 (by omega) q
    · simp only [not_or] at q
      exact c16_odd hc hk hs2 hw hwl q.1 ok a0 (by have := List.length_pos_iff.mpr q.1; omega) (by omega)
  obtain ⟨s', T, e, h1, h2, h3, h4⟩ := key
  refine ⟨s', T, ?_, h3, h4⟩
  rw [hr, bd16, evSs_split C 3 d16]
  rw [show List.map some [s, h.D, Z.D.tup (ws.map Z.D.int)] ++ List.replicate (f16.n - f16.np) none = [some s, some h.D, some (.tup (ws.map .int)), none, none, none, none, none] from rfl, eA]
  simp only [SRes.thn]
  rw [h1]
  simp only [Fd.out, h2]

def qD : (Nat × Wd) ⊕ Int → Z.D
  | .inl (n, w) => .tup [w.s, .int (n : Int)]
  | .inr x => .int x
def rich (m : Int) : Hs := ⟨[2 + m, 0, 1, 0, 5, 0], [(0, 1), (0, 2), (1, 2), (2, 3), (2, 3), (4, 5)], [3]⟩
def poor : Hs := ⟨[1, 0, 0, 0], [(0, 1), (0, 1), (1, 2), (2, 3)], [3]⟩
def hb (m : Int) (b : Bool) : Hs := if b = true then rich m else poor
abbrev RowT := Bool × List Z.D × ((Nat × Wd) ⊕ Int)
def rowsA (m : Int) : List RowT :=
  [(true, [.int 0, .int 1, .int 2], .inr m), (true, [.int 1, .int 4], .inr (1 + m)), (true, [.int 1, .int 3, .int 2], .inl (2, .ended)), (true, [.int 1, .int 3, .int 1], .inl (2, .again)), (true, [.int 1, .int 3, .int 5], .inl (2, .ended)),
   (true, [.int 5], .inl (0, .far)), (true, [.int 0, .int 1, .int 2, .int 0], .inl (3, .again)), (true, [.int 0, .int 6], .inl (1, .door)), (true, [.int 1, .int 3, .int 6], .inl (2, .door)), (true, [.int 0, .int 0, .bl true], .inl (1, .again)),
   (true, [.int 0, .bl true], .inl (1, .door)), (true, [.bl false], .inl (0, .door)), (false, [.int 0, .int 1], .inl (1, .key)), (false, [.int 0, .int 3], .inl (1, .far)), (false, [.int 0, .int 0], .inl (1, .again)),
   (false, [.int 1], .inr 0), (false, [], .inr 1), (false, [.int 0, .int 2], .inl (1, .key)), (false, [.int 2], .inl (0, .far))]
def rowsB : List RowT := [(false, [.int 0, .int (-1)], .inl (1, .door))]
def rowD (m : Int) (q : RowT) : Z.D := .tup [(hb m q.1).D, .tup q.2.1, qD q.2.2]
def elB : Z.D → Bool
  | .int _ => true
  | .bl _ => true
  | _ => false
theorem elB_ok {x : Z.D} (h : elB x = true) : El x := by
  cases x <;> simp only [elB, reduceCtorEq] at h
  · exact .bl _
  · exact .int _
def rowsT (m : Int) : List RowT := rowsA m ++ rowsB
def rowOk (m : Int) (q : RowT) : Bool := decide (scan (hb m q.1) [] q.2.1 = q.2.2) && q.2.1.all elB && decide (q.2.1.length ≤ 900)
theorem rows_ok : ∀ n < 90, (rowsT ((n : Nat) : Int)).all (rowOk (n : Int)) = true := by decide +kernel
theorem rich_ok {m : Int} (h : 0 ≤ m) : Ok2 (rich m) := by
  refine ⟨⟨fun p hp => ?_, by simp [rich], by simp [rich], by simp [rich], fun x hx => ?_⟩, fun x hx => ?_, fun x hx => ?_, by simp [rich]⟩
  · simp only [rich, List.mem_cons, List.not_mem_nil, or_false] at hp
    rcases hp with rfl | rfl | rfl | rfl | rfl | rfl <;> simp [rich]
  · simp only [rich, List.mem_singleton] at hx; subst hx; simp [rich]
  · simp only [rich, List.mem_cons, List.not_mem_nil, or_false] at hx; omega
  · simp only [rich, List.mem_singleton] at hx; omega
theorem poor_ok : Ok2 poor := by
  refine ⟨⟨fun p hp => ?_, by simp [poor], by simp [poor], by simp [poor], fun x hx => ?_⟩, fun x hx => ?_, fun x hx => ?_, by simp [poor]⟩
  · simp only [poor, List.mem_cons, List.not_mem_nil, or_false] at hp
    rcases hp with rfl | rfl | rfl | rfl <;> simp [poor]
  · simp only [poor, List.mem_singleton] at hx; subst hx; simp [poor]
  · simp only [poor, List.mem_cons, List.not_mem_nil, or_false] at hx; omega
  · simp only [poor, List.mem_singleton] at hx; omega
def Good (d : Z.D) : Prop := ∃ (h : Hs) (t q : Z.D), d = .tup [h.D, t, q] ∧ Ok2 h ∧ ((∃ r, t = .tup r ∧ (∀ x ∈ r, El x) ∧ r.length ≤ 900 ∧ q = qD (scan h [] r)) ∨ (∃ ns : List Int, t = .lst false (ns.map .int) ∧ q = .tup [.str "shape", .int (-1)]))
theorem good_row {m : Int} (h0 : 0 ≤ m) (h1 : m < 90) {q : RowT} (hq : q ∈ rowsT m) : Good (rowD m q) := by
  have := rows_ok m.toNat (by omega)
  rw [show ((m.toNat : Nat) : Int) = m by omega] at this
  have := List.all_eq_true.mp this q hq
  simp only [rowOk, Bool.and_eq_true, decide_eq_true_eq, List.all_eq_true] at this
  refine ⟨hb m q.1, .tup q.2.1, _, rfl, ?_, .inl ⟨q.2.1, rfl, fun x hx => elB_ok (this.1.2 x hx), this.2, by rw [this.1.1]⟩⟩
  unfold hb
  split
  · exact rich_ok h0
  · exact poor_ok
theorem l18_step {C : Z.Ctx} {k : Nat} (hc : C.call = callN fs (k + 1 + 1 + 1 + 1 + 1 + 1)) (hk : C.kp = f18.kp) {d : Z.D} (hg : Good d) {x0 x1 x2 x3 x4 x5 x6 x7 : Option Z.D} :
    ∃ e1 y5 y6 y7, bindT (.tup [.one 5, .one 6, .one 7]) d [x0, x1, x2, x3, x4, x5, x6, x7] = some e1 ∧ evSs C l18_0 e1 = .next [x0, x1, x2, x3, x4, y5, y6, y7] := by
  obtain ⟨h, t, q, rfl, ok, ⟨r, rfl, hel, hl, rfl⟩ | ⟨ns, rfl, rfl⟩⟩ := hg
  · have e15 := c15 (k := k + 1 + 1 + 1 + 1 + 1) ok hel hl
    have e17 := c17 (k := k) ok hel hl
    have eL := like_due (k := k + 1 + 1 + 1 + 1) (scan h [] r)
    have iD := imm_due (scan h [] r)
    have iH := imm_hs h
    have ir := El.imms hel
    refine ⟨[x0, x1, x2, x3, x4, some h.D, some (.tup r), some (qD (scan h [] r))], some h.D, some (.tup r), some (dueD (scan h [] r)), by simp [bind_tup3, bind_one], ?_⟩
    cases hs : scan h [] r with
    | inl p =>
      obtain ⟨n, w⟩ := p
      rw [hs] at e15 eL iD
      have iw := imm_s w
      simp only [dueD, rsd] at e15 eL iD
      simp [l18_0, Fd.run, evSs, evS, evT, evE, evEs, evOs, evCs, evP, evI, evIf, PF.ap, opLen, opMod, opAdd, opSum, opLt, opGt, opLe, stepD, getK, setD, putKs, setP, nodeAt, mmTy, mmAp, truth, E.pth, E.pu, Es.pu, imm, imms, fz, fzs, bind_one, bind_tup2, bind_tup3, bind_tup4, Tg.free, Tg.frees, Fd.kp, Fd.out, Fd.fin, finE, giveBack, wipeE, backE, seqOf, lcLoop, forLoop, lim, ix0, ix1, ix2, ix3, in0, in1, in2, dInts, imms_ints, imms_pairs, fzs_ints, fzs_pairs, fzs_app, imms_app, dInts_ints, in_lst, in_tup, dEq_int, idx_tup, idx_lst, hD0, hD1, hD2, imm_hs, isiT, tyD, hc, hk, f18, qD, dueD, rsd, e15, e17, eL, iw, ir]
    | inr x =>
      rw [hs] at e15 eL iD
      simp only [dueD] at e15 eL iD
      simp [l18_0, Fd.run, evSs, evS, evT, evE, evEs, evOs, evCs, evP, evI, evIf, PF.ap, opLen, opMod, opAdd, opSum, opLt, opGt, opLe, stepD, getK, setD, putKs, setP, nodeAt, mmTy, mmAp, truth, E.pth, E.pu, Es.pu, imm, imms, fz, fzs, bind_one, bind_tup2, bind_tup3, bind_tup4, Tg.free, Tg.frees, Fd.kp, Fd.out, Fd.fin, finE, giveBack, wipeE, backE, seqOf, lcLoop, forLoop, lim, ix0, ix1, ix2, ix3, in0, in1, in2, dInts, imms_ints, imms_pairs, fzs_ints, fzs_pairs, fzs_app, imms_app, dInts_ints, in_lst, in_tup, dEq_int, idx_tup, idx_lst, hD0, hD1, hD2, imm_hs, isiT, tyD, hc, hk, f18, qD, dueD, e15, e17, eL, ir]
  · have e15 := c15n (k := k + 1 + 1 + 1 + 1 + 1) ok (T := .lst false (ns.map .int)) (.lst _ _)
    obtain ⟨o, e17⟩ := c17n (k := k) ok (T := .lst false (ns.map .int)) (.lst _ _)
    have eL := like_sh (k := k + 1 + 1 + 1 + 1)
    have iH := imm_hs h
    refine ⟨[x0, x1, x2, x3, x4, some h.D, some (.lst false (ns.map .int)), some (.tup [.str "shape", .int (-1)])], some h.D, some (.lst false (ns.map .int)), some (.tup [.str "raised", .int (-1), .str "shape"]), by simp [bind_tup3, bind_one], ?_⟩
    simp [l18_0, Fd.run, evSs, evS, evT, evE, evEs, evOs, evCs, evP, evI, evIf, PF.ap, opLen, opMod, opAdd, opSum, opLt, opGt, opLe, stepD, getK, setD, putKs, setP, nodeAt, mmTy, mmAp, truth, E.pth, E.pu, Es.pu, imm, imms, fz, fzs, bind_one, bind_tup2, bind_tup3, bind_tup4, Tg.free, Tg.frees, Fd.kp, Fd.out, Fd.fin, finE, giveBack, wipeE, backE, seqOf, lcLoop, forLoop, lim, ix0, ix1, ix2, ix3, in0, in1, in2, dInts, imms_ints, imms_pairs, fzs_ints, fzs_pairs, fzs_app, imms_app, dInts_ints, in_lst, in_tup, dEq_int, idx_tup, idx_lst, hD0, hD1, hD2, imm_hs, isiT, tyD, hc, hk, f18, e15, e17, eL]

def shRow : Z.D := .tup [poor.D, .lst false [.int 0], .tup [.str "shape", .int (-1)]]
def rowsL (m : Int) : List Z.D := (rowsA m).map (rowD m) ++ (shRow :: rowsB.map (rowD m))
theorem rowsL_good {m : Int} (h0 : 0 ≤ m) (h1 : m < 90) : ∀ d ∈ rowsL m, Good d := fun d hd => by
  unfold rowsL at hd
  rcases List.mem_append.mp hd with hd | hd
  · obtain ⟨q, hq, rfl⟩ := List.mem_map.mp hd
    exact good_row h0 h1 (List.mem_append_left _ hq)
  · rcases List.mem_cons.mp hd with rfl | hd
    · exact ⟨poor, _, _, rfl, poor_ok, .inr ⟨[0], rfl, rfl⟩⟩
    · obtain ⟨q, hq, rfl⟩ := List.mem_map.mp hd
      exact good_row h0 h1 (List.mem_append_right _ hq)
theorem fz_hs (h : Hs) : fz h.D = h.D := by simp [Hs.D, fz, fzs, fzs_ints, fzs_pairs]
theorem fzs_imm : ∀ {ds : List Z.D}, fzs ds = ds → ds = ds := fun _ => rfl
theorem c18_b {C : Z.Ctx} (hk : C.kp = f18.kp) {s RD PD : Z.D} {m : Int} (iR : imm RD = true) (iP : imm PD = true) (fR : fz RD = RD) (fP : fz PD = PD) (hR : (rich m).D = RD) (hP : poor.D = PD) :
    evSs C (takeS 4 (dropS 3 d18)) [some s, some (.int m), some RD, some PD, none, none, none, none] = .next [some s, some (.int m), some RD, some PD, some (.lst false (rowsL m)), none, none, none] := by
  simp [takeS, dropS, d18, Fd.run, evSs, evS, evT, evE, evEs, evOs, evCs, evP, evI, evIf, PF.ap, opIdx, opLen, opMod, opAdd, opSum, opLt, opGt, opLe, stepD, getK, setD, putKs, setP, nodeAt, mmTy, mmAp, truth, E.pth, E.pu, Es.pu, imm, imms, fz, fzs, bind_one, bind_tup2, bind_tup3, bind_tup4, Tg.free, Tg.frees, Fd.kp, Fd.out, Fd.fin, finE, giveBack, wipeE, backE, seqOf, lcLoop, forLoop, lim, ix0, ix1, ix2, ix3, in0, in1, in2, dInts, imms_ints, imms_pairs, fzs_ints, fzs_pairs, fzs_app, imms_app, dInts_ints, in_lst, in_tup, dEq_int, hk, f18, iR, iP, fR, fP, rowsL, rowsA, rowsB, rowD, hb, hR, hP, shRow, qD, Wd.s]
theorem c18 {k : Nat} {s : Z.D} (hs : Purse s) : ∃ s', callN fs (k + 1 + 1 + 1 + 1 + 1 + 1 + 1) 18 [s] = .ok (.bl true) [some s'] ∧ Purse s' := by
  obtain ⟨C, hc, hk, hr⟩ := enter (fs := fs) (f := f18) (k := k + 1 + 1 + 1 + 1 + 1 + 1) (i := 18) (ds := [s]) rfl rfl
  rw [hr, bd18]
  obtain ⟨m, s1, e1, hs1, m0, m1⟩ := c10 (k := k + 1 + 1 + 1 + 1 + 1) hs 90
  have m1' : m < 90 := by omega
  have i0 := hs.imm
  have eA : evSs C (takeS 3 d18) [some s, none, none, none, none, none, none, none] = .next [some s1, some (.int m), some (rich m).D, some poor.D, none, none, none, none] := by
    simp [takeS, d18, Fd.run, evSs, evS, evT, evE, evEs, evOs, evCs, evP, evI, evIf, PF.ap, opIdx, opLen, opMod, opAdd, opSum, opLt, opGt, opLe, stepD, getK, setD, putKs, setP, nodeAt, mmTy, mmAp, truth, E.pth, E.pu, Es.pu, imm, imms, fz, fzs, bind_one, bind_tup2, bind_tup3, bind_tup4, Tg.free, Tg.frees, Fd.kp, Fd.out, Fd.fin, finE, giveBack, wipeE, backE, seqOf, lcLoop, forLoop, lim, ix0, ix1, ix2, ix3, in0, in1, in2, dInts, imms_ints, imms_pairs, fzs_ints, fzs_pairs, fzs_app, imms_app, dInts_ints, in_lst, in_tup, dEq_int, hc, hk, f18, e1, i0, Hs.D, rich, poor, pairD]
  have eB := c18_b (C := C) hk (s := s1) (m := m) (imm_hs (rich m)) (imm_hs poor) (fz_hs (rich m)) (fz_hs poor) rfl rfl
  obtain ⟨e', hf, x5, x6, x7, rfl⟩ := for_inv (t := .tup [.one 5, .one 6, .one 7]) (body := evSs C l18_0) (fun e => ∃ x5 x6 x7, e = [some s1, some (.int m), some (rich m).D, some poor.D, some (.lst false (rowsL m)), x5, x6, x7]) (ds := rowsL m) (e := [some s1, some (.int m), some (rich m).D, some poor.D, some (.lst false (rowsL m)), none, none, none]) (by
    rintro d hd e ⟨x5, x6, x7, rfl⟩
    obtain ⟨e1, y5, y6, y7, h1, h2⟩ := l18_step (k := k) hc hk (rowsL_good m0 m1' d hd) (x0 := some s1) (x1 := some (.int m)) (x2 := some (rich m).D) (x3 := some poor.D) (x4 := some (.lst false (rowsL m))) (x5 := x5) (x6 := x6) (x7 := x7)
    exact ⟨e1, _, h1, .inl h2, y5, y6, y7, rfl⟩) ⟨none, none, none, rfl⟩
  have iL : imms (rowsL m) = true := imms_of fun d hd => by
    obtain ⟨h, t, q, rfl, _, ⟨r, rfl, hel, _, rfl⟩ | ⟨ns, rfl, rfl⟩⟩ := rowsL_good m0 m1' d hd
    · have := El.imms hel
      have iH := imm_hs h
      have : imm (qD (scan h [] r)) = true := by
        cases scan h [] r with
        | inl p => obtain ⟨n, w⟩ := p; simp [qD, imm, imms, imm_s]
        | inr x => rfl
      simp [imm, imms, *]
    · have iH := imm_hs h
      simp [imm, imms, iH, imms_ints]
  refine ⟨s1, ?_, hs1⟩
  rw [evSs_split C 3 d18]
  rw [show List.map some [s] ++ List.replicate (f18.n - f18.np) none = [some s, none, none, none, none, none, none, none] from rfl, eA]
  simp only [SRes.thn]
  rw [evSs_split C 4 (dropS 3 d18), eB]
  simp only [SRes.thn]
  obtain ⟨RL, hRL⟩ : ∃ z, z = rowsL m := ⟨_, rfl⟩
  rw [← hRL] at hf iL ⊢
  obtain ⟨RD, hRD⟩ : ∃ z, z = (rich m).D := ⟨_, rfl⟩
  rw [← hRD] at hf ⊢
  obtain ⟨PD, hPD⟩ : ∃ z, z = poor.D := ⟨_, rfl⟩
  rw [← hPD] at hf ⊢
  simp [dropS, d18, Fd.run, evSs, evS, evT, evE, evEs, evOs, evCs, evP, evI, evIf, PF.ap, opLen, opMod, opAdd, opSum, opLt, opGt, opLe, stepD, getK, setD, putKs, setP, nodeAt, mmTy, mmAp, truth, E.pth, E.pu, Es.pu, imm, imms, fz, fzs, bind_one, bind_tup2, bind_tup3, bind_tup4, Tg.free, Tg.frees, Fd.kp, Fd.out, Fd.fin, finE, giveBack, wipeE, backE, seqOf, lim, ix0, ix1, ix2, ix3, in0, in1, in2, dInts, imms_ints, imms_pairs, fzs_ints, fzs_pairs, fzs_app, imms_app, dInts_ints, in_lst, in_tup, dEq_int, idx_tup, idx_lst, hD0, hD1, hD2, imm_hs, hk, f18, iL, hf]

theorem cut_map {α β : Type} (f : α → β) (l : List α) (a b : Option Int) : cutL (l.map f) a b = (cutL l a b).map f := by
  simp only [cutL, List.length_map, List.map_drop, List.map_take]
theorem ask {h : Hs} (ok : Ok2 h) {T : Z.D} (t : Th T) : ∃ o, callN fs 39 17 [h.D, T] = .ok (.bl true) [some h.D, o] := by
  rcases t with ⟨r, rfl, hel, hl⟩ | t
  · exact ⟨_, c17 (k := 33) ok hel (by omega)⟩
  · exact c17n (k := 33) ok t
theorem l19_a {C : Z.Ctx} (hc : C.call = callN fs 39) (hk : C.kp = f19.kp) {h : Hs} (ok : Ok2 h) {ws : List Int} (hwl : ws.length ≤ 150) {a : Int} {x0 x1 x2 x3 x7 x8 : Option Z.D} :
    ∃ y7, evSs C l19_0 [x0, x1, x2, x3, some h.D, some (.tup (ws.map .int)), some (.int a), x7, x8, none] = .next [x0, x1, x2, x3, some h.D, some (.tup (ws.map .int)), some (.int a), y7, x8, none] := by
  obtain ⟨V, hV⟩ : ∃ V, V = cutL ws none (some a) := ⟨_, rfl⟩
  have hcut : cutL (ws.map Z.D.int) none (some a) = V.map .int := by rw [cut_map, hV]
  have hVl : V.length ≤ 150 := by rw [hV]; exact Nat.le_trans cut_len hwl
  have pl := ok.ok.pl
  obtain ⟨L, hL⟩ : ∃ l, l = ws.map Z.D.int := ⟨_, rfl⟩
  have iL : imms L = true := by rw [hL]; exact imms_ints
  have hLl : L.length = ws.length := by rw [hL]; simp
  rw [← hL] at hcut
  have hlc : lcLoop [9] (.one 9) (evIf C i19_0) (evE C e19_0) true ((List.range h.ps.length).map fun (i : Nat) => Z.D.int (i : Int)) [x0, x1, x2, x3, some h.D, some (.tup L), some (.int a), x7, x8, none] = .ok (((List.range h.ps.length).filter fun (i : Nat) => !decide ((i : Int) ∈ V)).map fun (i : Nat) => Z.D.int (i : Int)) [x0, x1, x2, x3, some h.D, some (.tup L), some (.int a), x7, x8, none] :=
    lc_mapT (own := [9]) (t := .one 9) (ifs := evIf C i19_0) (el := evE C e19_0) (pth := true) (fun (i : Nat) => Z.D.int (i : Int)) (fun (i : Nat) => !decide ((i : Int) ∈ V)) (fun (i : Nat) => Z.D.int (i : Int)) (List.range h.ps.length) fun i hi => by
      refine ⟨[x0, x1, x2, x3, some h.D, some (.tup L), some (.int a), x7, x8, some (.int (i : Int))], [x0, x1, x2, x3, some h.D, some (.tup L), some (.int a), x7, x8, some (.int (i : Int))], by simp [Fd.run, evSs, evS, evT, evE, evEs, evOs, evCs, evP, evI, evIf, PF.ap, opLen, opMod, opAdd, opSum, opLt, opGt, opLe, stepD, getK, setD, putKs, setP, nodeAt, mmTy, mmAp, truth, E.pth, E.pu, Es.pu, imm, imms, fz, fzs, bind_one, bind_tup2, bind_tup3, bind_tup4, Tg.free, Tg.frees, Fd.kp, Fd.out, Fd.fin, finE, giveBack, wipeE, backE, seqOf, lcLoop, forLoop, lim, ix0, ix1, ix2, ix3, in0, in1, in2, dInts, imms_ints, imms_pairs, fzs_ints, fzs_pairs, fzs_app, imms_app, dInts_ints, in_lst, in_tup, dEq_int, idx_tup, idx_lst, hD0, hD1, hD2, imm_hs], ?_, fun _ => ⟨[x0, x1, x2, x3, some h.D, some (.tup L), some (.int a), x7, x8, some (.int (i : Int))], by simp [e19_0, Fd.run, evSs, evS, evT, evE, evEs, evOs, evCs, evP, evI, evIf, PF.ap, opLen, opMod, opAdd, opSum, opLt, opGt, opLe, stepD, getK, setD, putKs, setP, nodeAt, mmTy, mmAp, truth, E.pth, E.pu, Es.pu, imm, imms, fz, fzs, bind_one, bind_tup2, bind_tup3, bind_tup4, Tg.free, Tg.frees, Fd.kp, Fd.out, Fd.fin, finE, giveBack, wipeE, backE, seqOf, lcLoop, forLoop, lim, ix0, ix1, ix2, ix3, in0, in1, in2, dInts, imms_ints, imms_pairs, fzs_ints, fzs_pairs, fzs_app, imms_app, dInts_ints, in_lst, in_tup, dEq_int, idx_tup, idx_lst, hD0, hD1, hD2, imm_hs], rfl, by simp [Fd.run, evSs, evS, evT, evE, evEs, evOs, evCs, evP, evI, evIf, PF.ap, opLen, opMod, opAdd, opSum, opLt, opGt, opLe, stepD, getK, setD, putKs, setP, nodeAt, mmTy, mmAp, truth, E.pth, E.pu, Es.pu, imm, imms, fz, fzs, bind_one, bind_tup2, bind_tup3, bind_tup4, Tg.free, Tg.frees, Fd.kp, Fd.out, Fd.fin, finE, giveBack, wipeE, backE, seqOf, lcLoop, forLoop, lim, ix0, ix1, ix2, ix3, in0, in1, in2, dInts, imms_ints, imms_pairs, fzs_ints, fzs_pairs, fzs_app, imms_app, dInts_ints, in_lst, in_tup, dEq_int, idx_tup, idx_lst, hD0, hD1, hD2, imm_hs]⟩, fun _ => by simp [Fd.run, evSs, evS, evT, evE, evEs, evOs, evCs, evP, evI, evIf, PF.ap, opLen, opMod, opAdd, opSum, opLt, opGt, opLe, stepD, getK, setD, putKs, setP, nodeAt, mmTy, mmAp, truth, E.pth, E.pu, Es.pu, imm, imms, fz, fzs, bind_one, bind_tup2, bind_tup3, bind_tup4, Tg.free, Tg.frees, Fd.kp, Fd.out, Fd.fin, finE, giveBack, wipeE, backE, seqOf, lcLoop, forLoop, lim, ix0, ix1, ix2, ix3, in0, in1, in2, dInts, imms_ints, imms_pairs, fzs_ints, fzs_pairs, fzs_app, imms_app, dInts_ints, in_lst, in_tup, dEq_int, idx_tup, idx_lst, hD0, hD1, hD2, imm_hs]⟩
      by_cases q : (i : Int) ∈ V <;> simp [i19_0, Fd.run, evSs, evS, evT, evE, evEs, evOs, evCs, evP, evI, evIf, PF.ap, opLen, opMod, opAdd, opSum, opLt, opGt, opLe, stepD, getK, setD, putKs, setP, nodeAt, mmTy, mmAp, truth, E.pth, E.pu, Es.pu, imm, imms, fz, fzs, bind_one, bind_tup2, bind_tup3, bind_tup4, Tg.free, Tg.frees, Fd.kp, Fd.out, Fd.fin, finE, giveBack, wipeE, backE, seqOf, lcLoop, forLoop, lim, ix0, ix1, ix2, ix3, in0, in1, in2, dInts, imms_ints, imms_pairs, fzs_ints, fzs_pairs, fzs_app, imms_app, dInts_ints, in_lst, in_tup, dEq_int, idx_tup, idx_lst, hD0, hD1, hD2, imm_hs, opCut, iL, hcut, q]
  obtain ⟨ys, hys⟩ : ∃ ys : List Int, ys = ((List.range h.ps.length).filter fun (i : Nat) => !decide ((i : Int) ∈ V)).map fun (i : Nat) => (i : Int) := ⟨_, rfl⟩
  have hysD : (((List.range h.ps.length).filter fun (i : Nat) => !decide ((i : Int) ∈ V)).map fun (i : Nat) => Z.D.int (i : Int)) = ys.map .int := by rw [hys]; simp
  rw [hysD] at hlc
  have hyl : ys.length ≤ 200 := by
    rw [hys, List.length_map]
    have := List.length_filter_le (fun (i : Nat) => !decide ((i : Int) ∈ V)) (List.range h.ps.length)
    simp at this
    omega
  obtain ⟨U, hU⟩ : ∃ U, U = cutL ys none (some 1) := ⟨_, rfl⟩
  have hcu : cutL (ys.map Z.D.int) none (some 1) = U.map .int := by rw [cut_map, hU]
  have hUl : U.length ≤ 200 := by rw [hU]; exact Nat.le_trans cut_len hyl
  obtain ⟨O, hO⟩ : ∃ O, O = (V ++ U).map Z.D.int := ⟨_, rfl⟩
  have hO2 : V.map Z.D.int ++ U.map .int = O := by rw [hO, List.map_append]
  have iO : imms O = true := by rw [hO]; exact imms_ints
  have hOl : O.length ≤ 350 := by rw [hO]; simp; omega
  have hOE : ∀ x ∈ O, El x := by rw [hO]; exact El.ints
  obtain ⟨G, hG⟩ : ∃ G, G = cutL L none (some 1) := ⟨_, rfl⟩
  have hGE : ∀ x ∈ G, El x := fun x hx => by rw [hG] at hx; exact El.ints x (by rw [← hL]; exact cut_mem hx)
  have hGl : G.length ≤ 150 := by rw [hG]; exact Nat.le_trans cut_len (by omega)
  have iG := El.imms hGE
  obtain ⟨o1, a1⟩ := ask ok (Th.tup (r := V.map .int) El.ints (by simp; omega))
  obtain ⟨o2, a2⟩ := ask ok (Th.tup (r := O) hOE (by omega))
  obtain ⟨o3, a3⟩ := ask ok (Th.tup (r := O ++ G) (El.app hOE hGE) (by simp; omega))
  have hs62 : small62 (h.ps.length : Int) = true := by simp [small62]; omega
  have hr0 := rng0 h.ps.length
  have n1 : h.ps.length ≤ 16777216 := by omega
  have n2 : V.length + U.length ≤ 16777216 := by omega
  have n3 : O.length + G.length ≤ 16777216 := by omega
  have n4 : ys.length ≤ 16777216 := by omega
  have n5 : U.length ≤ 16777216 := by omega
  rw [← hL]
  refine ⟨some (.tup O), ?_⟩
  simp [l19_0, Fd.run, evSs, evS, evT, evE, evEs, evOs, evCs, evP, evI, evIf, PF.ap, opLen, opMod, opAdd, opSum, opLt, opGt, opLe, stepD, getK, setD, putKs, setP, nodeAt, mmTy, mmAp, truth, E.pth, E.pu, Es.pu, imm, imms, fz, fzs, bind_one, bind_tup2, bind_tup3, bind_tup4, Tg.free, Tg.frees, Fd.kp, Fd.out, Fd.fin, finE, giveBack, wipeE, backE, seqOf, lim, ix0, ix1, ix2, ix3, in0, in1, in2, dInts, imms_ints, imms_pairs, fzs_ints, fzs_pairs, fzs_app, imms_app, dInts_ints, in_lst, in_tup, dEq_int, idx_tup, idx_lst, hD0, hD1, hD2, imm_hs, ui19_0, ue19_0, pe19_0, hc, hk, f19, opCut, iL, hcut, hs62, hr0, hlc, hcu, n1, n2, n3, n4, n5, hO2, a1, a2, a3, ← hG, iO, iG, imms_ints]
theorem l19_b {C : Z.Ctx} (hc : C.call = callN fs 39) (hk : C.kp = f19.kp) {h : Hs} (ok : Ok2 h) {s : Z.D} (hs : Purse s) {ws : List Int} (hw : ∀ d ∈ ws, h.dr d) (hwl : ws.length ≤ 150) {x0 x2 x3 x6 x7 x8 : Option Z.D} :
    ∃ s', Purse s' ∧ evSs C l19_1 [x0, some s, x2, x3, some h.D, some (.tup (ws.map .int)), x6, x7, x8, none] = .next [x0, some s', x2, x3, some h.D, some (.tup (ws.map .int)), x6, x7, x8, none] := by
  obtain ⟨s', T, e1, hs', ht⟩ := c16 (k := 37) ok hs hw hwl
  obtain ⟨o, e2⟩ := ask ok ht
  have i0 := hs.imm
  have iL : imms (ws.map Z.D.int) = true := imms_ints
  refine ⟨s', hs', ?_⟩
  simp [l19_1, Fd.run, evSs, evS, evT, evE, evEs, evOs, evCs, evP, evI, evIf, PF.ap, opLen, opMod, opAdd, opSum, opLt, opGt, opLe, stepD, getK, setD, putKs, setP, nodeAt, mmTy, mmAp, truth, E.pth, E.pu, Es.pu, imm, imms, fz, fzs, bind_one, bind_tup2, bind_tup3, bind_tup4, Tg.free, Tg.frees, Fd.kp, Fd.out, Fd.fin, finE, giveBack, wipeE, backE, seqOf, lcLoop, forLoop, lim, ix0, ix1, ix2, ix3, in0, in1, in2, dInts, imms_ints, imms_pairs, fzs_ints, fzs_pairs, fzs_app, imms_app, dInts_ints, in_lst, in_tup, dEq_int, idx_tup, idx_lst, hD0, hD1, hD2, imm_hs, hc, hk, f19, e1, e2, i0, iL]

theorem l19_t {C : Z.Ctx} (hc : C.call = callN fs 39) (hk : C.kp = f19.kp) {s : Z.D} (hs : Purse s) {i : Int} {x0 x3 x4 x5 x6 x7 x8 : Option Z.D} :
    ∃ s' y3 y4 y5 y6 y7 y8, Purse s' ∧ evSs C l19_2 [x0, some s, some (.int i), x3, x4, x5, x6, x7, x8, none] = .next [x0, some s', some (.int i), y3, y4, y5, y6, y7, y8, none] := by
  have i0 := hs.imm
  have key : ∃ s1 wide, Purse s1 ∧ evSs C (takeS 1 l19_2) [x0, some s, some (.int i), x3, x4, x5, x6, x7, x8, none] = .next [x0, some s1, some (.int i), some (.bl wide), x4, x5, x6, x7, x8, none] := by
    by_cases q : i = 0
    · obtain ⟨a, s1, e1, hs1, _, _⟩ := c10 (k := 38) hs 7
      exact ⟨s1, decide (a = 3), hs1, by simp [takeS, l19_2, Fd.run, evSs, evS, evT, evE, evEs, evOs, evCs, evP, evI, evIf, PF.ap, opLen, opMod, opAdd, opSum, opLt, opGt, opLe, stepD, getK, setD, putKs, setP, nodeAt, mmTy, mmAp, truth, E.pth, E.pu, Es.pu, imm, imms, fz, fzs, bind_one, bind_tup2, bind_tup3, bind_tup4, Tg.free, Tg.frees, Fd.kp, Fd.out, Fd.fin, finE, giveBack, wipeE, backE, seqOf, lcLoop, forLoop, lim, ix0, ix1, ix2, ix3, in0, in1, in2, dInts, imms_ints, imms_pairs, fzs_ints, fzs_pairs, fzs_app, imms_app, dInts_ints, in_lst, in_tup, dEq_int, idx_tup, idx_lst, hD0, hD1, hD2, imm_hs, hc, hk, f19, q, e1, i0]⟩
    · exact ⟨s, false, hs, by simp [takeS, l19_2, Fd.run, evSs, evS, evT, evE, evEs, evOs, evCs, evP, evI, evIf, PF.ap, opLen, opMod, opAdd, opSum, opLt, opGt, opLe, stepD, getK, setD, putKs, setP, nodeAt, mmTy, mmAp, truth, E.pth, E.pu, Es.pu, imm, imms, fz, fzs, bind_one, bind_tup2, bind_tup3, bind_tup4, Tg.free, Tg.frees, Fd.kp, Fd.out, Fd.fin, finE, giveBack, wipeE, backE, seqOf, lcLoop, forLoop, lim, ix0, ix1, ix2, ix3, in0, in1, in2, dInts, imms_ints, imms_pairs, fzs_ints, fzs_pairs, fzs_app, imms_app, dInts_ints, in_lst, in_tup, dEq_int, idx_tup, idx_lst, hD0, hD1, hD2, imm_hs, hc, hk, f19, q]⟩
  obtain ⟨s1, wide, hs1, e0⟩ := key
  obtain ⟨h, s2, e1, hs2, ok⟩ := c12 (k := 37) hs1 wide
  obtain ⟨b, s3, e2, hs3, b0, b1⟩ := c10 (k := 38) hs2 2
  obtain ⟨m, hm, hm0, hm1⟩ : ∃ m : Int, (if b < (if wide = true then 1 else 0) then (if wide = true then 1 else 0) else b) = m ∧ 0 ≤ m ∧ m < 2 := by
    refine ⟨_, rfl, ?_, ?_⟩ <;> split <;> split <;> omega
  obtain ⟨v, hv, hva⟩ := atI_ints (ps := [3, 150]) (i := m) hm0 (by simpa using hm1)
  simp only [List.map_cons, List.map_nil] at hva
  have v0 : 0 ≤ v ∧ v ≤ 150 := by simp at hv; omega
  obtain ⟨s4, ws, e3, hs4, hw, hwl⟩ := c14 (k := 37) ok hs3 (most := v) v0.1 v0.2 (shy := wide)
  have i1 := hs1.imm
  have i2 := hs2.imm
  have i3 := hs3.imm
  have iH := imm_hs h
  have eA : evSs C (takeS 2 (dropS 1 l19_2)) [x0, some s1, some (.int i), some (.bl wide), x4, x5, x6, x7, x8, none] = .next [x0, some s4, some (.int i), some (.bl wide), some h.D, some (.tup (ws.map .int)), x6, x7, x8, none] := by
    have iw : imms (ws.map Z.D.int) = true := imms_ints
    cases wide
    · simp only [Bool.false_eq_true, if_false] at hm
      simp [takeS, dropS, l19_2, Fd.run, evSs, evS, evT, evE, evEs, evOs, evCs, evP, evI, evIf, PF.ap, opLen, opMod, opAdd, opSum, opLt, opGt, opLe, stepD, getK, setD, putKs, setP, nodeAt, mmTy, mmAp, truth, E.pth, E.pu, Es.pu, imm, imms, fz, fzs, bind_one, bind_tup2, bind_tup3, bind_tup4, Tg.free, Tg.frees, Fd.kp, Fd.out, Fd.fin, finE, giveBack, wipeE, backE, seqOf, lcLoop, forLoop, lim, ix0, ix1, ix2, ix3, in0, in1, in2, dInts, imms_ints, imms_pairs, fzs_ints, fzs_pairs, fzs_app, imms_app, dInts_ints, in_lst, in_tup, dEq_int, idx_tup, idx_lst, hD0, hD1, hD2, imm_hs, hc, hk, f19, e1, e2, e3, i1, i2, i3, hm, hva, iw]
    · simp only [if_true] at hm
      simp [takeS, dropS, l19_2, Fd.run, evSs, evS, evT, evE, evEs, evOs, evCs, evP, evI, evIf, PF.ap, opLen, opMod, opAdd, opSum, opLt, opGt, opLe, stepD, getK, setD, putKs, setP, nodeAt, mmTy, mmAp, truth, E.pth, E.pu, Es.pu, imm, imms, fz, fzs, bind_one, bind_tup2, bind_tup3, bind_tup4, Tg.free, Tg.frees, Fd.kp, Fd.out, Fd.fin, finE, giveBack, wipeE, backE, seqOf, lcLoop, forLoop, lim, ix0, ix1, ix2, ix3, in0, in1, in2, dInts, imms_ints, imms_pairs, fzs_ints, fzs_pairs, fzs_app, imms_app, dInts_ints, in_lst, in_tup, dEq_int, idx_tup, idx_lst, hD0, hD1, hD2, imm_hs, hc, hk, f19, e1, e2, e3, i1, i2, i3, hm, hva, iw]
  obtain ⟨L, hL⟩ : ∃ l, l = ws.map Z.D.int := ⟨_, rfl⟩
  have hLE : ∀ x ∈ L, El x := by rw [hL]; exact El.ints
  have iL := El.imms hLE
  have hLl : L.length = ws.length := by rw [hL]; simp
  have pl := ok.ok.pl
  obtain ⟨o1, a1⟩ := ask ok (Th.tup (r := L) hLE (by omega))
  obtain ⟨o2, a2⟩ := ask ok (T := .lst true L) (.inr (.lst _ _))
  obtain ⟨o3, a3⟩ := ask ok (Th.tup (r := L ++ [.int h.ps.length]) (El.app hLE (El.one (.int _))) (by simp; omega))
  have n1 : L.length ≤ 16777216 := by omega
  have n2 : L.length + 1 ≤ 16777216 := by omega
  have n3 : h.ps.length ≤ 16777216 := by omega
  obtain ⟨e', hf1, y6, y7, y8, rfl⟩ := for_inv (t := .one 6) (body := evSs C l19_0) (fun e => ∃ y6 y7 y8, e = [x0, some s4, some (.int i), some (.bl wide), some h.D, some (.tup (ws.map .int)), y6, y7, y8, none]) (ds := [.int ((L.length : Int) / 2), .int (L.length : Int)]) (e := [x0, some s4, some (.int i), some (.bl wide), some h.D, some (.tup (ws.map .int)), x6, x7, x8, none]) (by
    rintro d hd e ⟨y6, y7, y8, rfl⟩
    obtain ⟨a, rfl⟩ : ∃ a : Int, d = .int a := by
      simp only [List.mem_cons, List.not_mem_nil, or_false] at hd
      rcases hd with rfl | rfl <;> exact ⟨_, rfl⟩
    obtain ⟨z7, e4⟩ := l19_a hc hk ok hwl (a := a) (x0 := x0) (x1 := some s4) (x2 := some (.int i)) (x3 := some (.bl wide)) (x7 := y7) (x8 := y8)
    exact ⟨_, _, by simp only [bind_one, List.length_cons, List.length_nil]; rfl, .inl e4, _, z7, y8, rfl⟩) ⟨x6, x7, x8, rfl⟩
  have hrg : rng 0 4 = ([0, 1, 2, 3] : List Int).map .int := rfl
  have hs62 : small62 4 = true := by decide
  obtain ⟨e', hf2, s5, z8, rfl, hs5⟩ := for_pre (t := .one 8) (body := evSs C l19_1) Z.D.int (fun pre e => ∃ s' z8, e = [x0, some s', some (.int i), some (.bl wide), some h.D, some (.tup (ws.map .int)), y6, y7, z8, none] ∧ Purse s') [0, 1, 2, 3] [x0, some s4, some (.int i), some (.bl wide), some h.D, some (.tup (ws.map .int)), y6, y7, y8, none] (by
    rintro pre x post e hp ⟨s', z8, rfl, hs'⟩
    obtain ⟨s6, hs6, e5⟩ := l19_b hc hk ok hs' hw hwl (x0 := x0) (x2 := some (.int i)) (x3 := some (.bl wide)) (x6 := y6) (x7 := y7) (x8 := some (.int x))
    exact ⟨[x0, some s', some (.int i), some (.bl wide), some h.D, some (.tup (ws.map .int)), y6, y7, some (.int x), none], _, by simp [bind_one], .inl e5, s6, _, rfl, hs6⟩) ⟨s4, y8, rfl, hs4⟩
  refine ⟨s5, some (.bl wide), some h.D, some (.tup (ws.map .int)), y6, y7, z8, hs5, ?_⟩
  rw [evSs_split C 1 l19_2, e0]
  simp only [SRes.thn]
  rw [evSs_split C 2 (dropS 1 l19_2), eA]
  simp only [SRes.thn]
  simp only [List.map_cons, List.map_nil] at hf2
  rw [← hL] at hf1 hf2 ⊢
  have lg : (Nat.log2 2 ≤ 8999) = True := by decide
  simp [dropS, l19_2, Fd.run, evSs, evS, evT, evE, evEs, evOs, evCs, evP, evI, evIf, PF.ap, opLen, opMod, opAdd, opSum, opLt, opGt, opLe, stepD, getK, setD, putKs, setP, nodeAt, mmTy, mmAp, truth, E.pth, E.pu, Es.pu, imm, imms, fz, fzs, bind_one, bind_tup2, bind_tup3, bind_tup4, Tg.free, Tg.frees, Fd.kp, Fd.out, Fd.fin, finE, giveBack, wipeE, backE, seqOf, lim, ix0, ix1, ix2, ix3, in0, in1, in2, dInts, imms_ints, imms_pairs, fzs_ints, fzs_pairs, fzs_app, imms_app, dInts_ints, in_lst, in_tup, dEq_int, idx_tup, idx_lst, hD0, hD1, hD2, imm_hs, hc, hk, f19, iL, a1, a2, a3, n1, n2, n3, opDiv, hf1, hf2, hrg, hs62, lg]
theorem plain (ns : List Int) (hn : ns.length ≤ 63) : ∃ fin, callN fs 40 19 [.scr ns] = .ok (.bl true) fin := by
  obtain ⟨C, hc, hk, hr⟩ := enter (fs := fs) (f := f19) (k := 39) (i := 19) (ds := [.scr ns]) rfl rfl
  rw [show (40 : Nat) = 39 + 1 from rfl, hr, bd19]
  obtain ⟨s, e1, hs⟩ := c9 (k := 38) hn
  obtain ⟨s1, e2, hs1⟩ := c18 (k := 32) hs
  have i0 := hs.imm
  have i1 := hs1.imm
  have hrg : rng 0 4 = ([0, 1, 2, 3] : List Int).map .int := rfl
  have hs62 : small62 4 = true := by decide
  obtain ⟨e', hf, s2, y2, y3, y4, y5, y6, y7, y8, rfl, hs2⟩ := for_pre (t := .one 2) (body := evSs C l19_2) Z.D.int (fun pre e => ∃ s' y2 y3 y4 y5 y6 y7 y8, e = [some (.scr ns), some s', y2, y3, y4, y5, y6, y7, y8, none] ∧ Purse s') [0, 1, 2, 3] [some (.scr ns), some s1, none, none, none, none, none, none, none, none] (by
    rintro pre x post e hp ⟨s', y2, y3, y4, y5, y6, y7, y8, rfl, hs'⟩
    obtain ⟨s3, z3, z4, z5, z6, z7, z8, hs3, e3⟩ := l19_t hc hk hs' (i := x) (x0 := some (.scr ns)) (x3 := y3) (x4 := y4) (x5 := y5) (x6 := y6) (x7 := y7) (x8 := y8)
    exact ⟨[some (.scr ns), some s', some (.int x), y3, y4, y5, y6, y7, y8, none], _, by simp [bind_one], .inl e3, s3, _, z3, z4, z5, z6, z7, z8, rfl, hs3⟩) ⟨s1, none, none, none, none, none, none, none, rfl, hs1⟩
  simp only [List.map_cons, List.map_nil] at hf
  exact ⟨f19.fin [some (.scr ns), some s2, y2, y3, y4, y5, y6, y7, y8, none], by simp [f19, d19, Fd.run, evSs, evS, evT, evE, evEs, evOs, evCs, evP, evI, evIf, PF.ap, opLen, opMod, opAdd, opSum, opLt, opGt, opLe, stepD, getK, setD, putKs, setP, nodeAt, mmTy, mmAp, truth, E.pth, E.pu, Es.pu, imm, imms, fz, fzs, bind_one, bind_tup2, bind_tup3, bind_tup4, Tg.free, Tg.frees, Fd.kp, Fd.out, Fd.fin, finE, giveBack, wipeE, backE, seqOf, lim, ix0, ix1, ix2, ix3, in0, in1, in2, dInts, imms_ints, imms_pairs, fzs_ints, fzs_pairs, fzs_app, imms_app, dInts_ints, in_lst, in_tup, dEq_int, idx_tup, idx_lst, hD0, hD1, hD2, imm_hs, hc, hk, e1, e2, i0, i1, hrg, hs62, hf]⟩

end Gk04P
theorem Gk04.plain [Z.TabList] (ns : List Int) (h : ns.length ≤ 63) : ∃ fin, Z.callN Gk04.fs 40 19 [.scr ns] = .ok (.bl true) fin := Gk04P.plain ns h
open PySem PySem.W PySem.Calls PyProof.Rows
theorem PySem.Challenge.cw_anydoornext_k04_check_walk_holds : PySem.Challenge.rw_anydoornext_k04_check_walk.Holds := by
  w_on; o_law
  refine HandSHeadRun.head_any (r := OpenLaw.row PySem.Challenge.rw_anydoornext_k04_check_walk) (q := view (OpenLaw.row PySem.Challenge.rw_anydoornext_k04_check_walk).prog [26]) (H := Gk04.hk) (ob := Gk04.ob) (M := 20000) (loose := ("HouseError" :: "BadWalk" :: "first_step" :: "is_ended" :: "step_word" :: "next_step" :: "is_integer" :: "is_number" :: "is_below" :: "check_walk" :: "is_walk" :: "_law_purse" :: "_law_one" :: "_law_like" :: "_law_house" :: "_law_next" :: "_law_walk" :: "_law_due" :: "_law_spoilt" :: "_law_asked" :: "_law_hand" :: [] : List PySem.Str)) (d := HandSHeadRun.topDef (OpenLaw.row PySem.Challenge.rw_anydoornext_k04_check_walk).prog 26) (kwd := []) Gk04.ob_eq
    (by kernel_rfl) (fun s => by kernel_rfl) Gk04.run (by kernel_rfl) (by kernel_rfl) (by kernel_rfl) (by rfl) (by first | assumption | decide +kernel) (by decide +kernel) ⟨rfl, rfl, rfl, rfl, rfl, by decide +kernel⟩ ?hw ?hc
  case hw => w_witness2
  case hc =>
    refine LamX.walk_ofTsE (l := PySem.Challenge.rw_anydoornext_k04_check_walk) (n := 63) (k := 40) (x := "script") (CX := fun w => L2N.CX (PySem.Challenge.rw_anydoornext_k04_check_walk).prog w) rfl (by decide) (by kernel_rfl) ⟨rfl, by decide, by decide⟩ ?F ?CX
    case CX => exact fun w H s e s' h => by obtain ⟨_, _, _, _, _, _, _, _, _, _, _, _, h⟩ := h; exact h
    case F =>
      intro w mg fa h Y G hmg0
      obtain ⟨K, KX, c⟩ := Y
      refine ⟨K, KX, ?_⟩
      letI : Z.TabList := ⟨Gk04.tf.map fun q => (He.cT K q).2⟩
      obtain ⟨fd, hm, hb, hF⟩ := Gk04.facts (P := (PySem.Challenge.rw_anydoornext_k04_check_walk).prog) (w := w) KX G c.t.d (Gk04.xa KX G c.t.d c.xc) Gk04.plain
      have hmg : mg ("law" : PySem.Str) = some (.ref fa) := by
        have e : (HandSHeadRun.topDef (OpenLaw.row PySem.Challenge.rw_anydoornext_k04_check_walk).prog 26).name = ("law" : PySem.Str) := by kernel_rfl
        rw [← e]
        exact hmg0
      obtain rfl : He.fAd K ("law", none) = fa := by rw [hm] at hmg; cases hmg; rfl
      refine ⟨fd, Gk04.tf.map (He.cT K), _, fun q hq => ?_, fun q hq => ?_, fun q hq => ?_, hb, fun H a ns hl _ hT hS => ?_, fun base _ _ TB => hF base fun q hq => ⟨List.mem_map_of_mem hq, ?_⟩⟩
      · obtain ⟨p, hp, e⟩ := List.mem_map.mp hq; subst e; exact c.empty p hp
      · obtain ⟨p, hp, e⟩ := List.mem_map.mp hq; subst e; exact c.out p hp
      · obtain ⟨p, hp, e⟩ := List.mem_map.mp hq; subst e; exact PySem.W.codeHd_of_K KX (c.hd p hp)
      · refine ⟨fun q hq => ?_, a, ns, rfl, hS, Gk04.plain ns hl, fun _ => rfl⟩
        obtain ⟨p, hp, e⟩ := List.mem_map.mp hq; subst e
        exact ⟨#[], hT _ (List.mem_map_of_mem hp), trivial⟩
      · have t := TB _ (List.mem_map_of_mem hq)
        exact ⟨t.code, t.bm, t.gP⟩

