import PyProof.Rows.All
import Wide.All
import OpenK.AllK
import Wide.FinOn
import HandS.ForMost
import HandS.Exc
import HandS.ExcOwn
import HandS.WordsExc
import HandS.Iter
import HandS.Property
import HandS.IsInst
import HandS.Zip
import HandS.Star
import HandS.Deep
import HandS.StrMore
import HandS.RaiseMore
import HandS.TupAny
import PyProof.Rows.InDataRows
import PyProof.StrOps2
import HandS.More
import HandS.WordsDict
import HandS.DictComp
import HandS.Small
import HandS.OwnEq
import HandS.HeadHook3
import HandS.HeadHook4
import HandS.Flow
import HandS.Head0
import HandS.Head1
import HandS.Head2
import HandS.HeadEnd
import HandS.Ends
import HandS.Nested
import HandS.ExcInit
import HandS.FStr
import HandS.FStrTup
import HandS.TryMany
import HandS.ExcField
import HandS.ExcIs
import KE.KExcSuper
import PyProof.InstNe
import HandS.ListItems
import HandS.Style
import HandS.Finally
import HandS.NoneIn
import PySem.Challenge.RW_staysbarred_k17_inns_refused
set_option Elab.async false
set_option linter.all false
set_option maxRecDepth 100000
set_option maxHeartbeats 4000000
/-! The data layer: what a def of the text computes, told as a function on plain data; here the data, how a heap bears them, what a piece of code leaves. -/
namespace Dl
open PySem L2

/-- plain data; ptr i: the i-th changeable thing -/
inductive D where
  | non | bl (b : Bool) | int (i : Int) | str (x : Str)
  | tup (xs : List D) | lst (xs : List D) | rol (xs : List D) | dic (ks vs : List D) | obj (c : Nat) (ns : List Str) (vs : List D) | ptr (i : Nat)

abbrev Sto := List (Option D)
abbrev Lc := List (Option D)

/-- what an expression comes to -/
inductive Out (α : Type) where
  | ok (a : α) (S : Sto) | exc (c : Nat) (ns : List Str) (vs : List D) (S : Sto) | bad
def Out.bind {α β : Type} (o : Out α) (k : α → Sto → Out β) : Out β := match o with
  | .ok a S => k a S
  | .exc c ns vs S => .exc c ns vs S
  | .bad => .bad
/-- what a statement comes to -/
inductive SOut where
  | nx (t : Lc) (S : Sto) | rt (d : D) (S : Sto) | bk (t : Lc) (S : Sto) | ct (t : Lc) (S : Sto)
  | exc (t : Lc) (c : Nat) (ns : List Str) (vs : List D) (S : Sto) | bad

abbrev DE := Lc → Sto → Out D
abbrev DB := Lc → Sto → Out Bool
abbrev DA := Lc → Sto → Out (List D)
abbrev DS := Lc → Sto → SOut

/-! ### how a heap bears data -/
def noH : Hp := fun _ => none
def LL (H : Hp) (a : Addr) (xs : List V) : Prop := H a = some (.lst xs)
def TL (K : PySem.W.Frag) (H : Hp) (a : Addr) (xs : List V) : Prop := H a = some (.tup xs) ∨ SqT K noH a xs
/-- a dict with int and text keys: its keys and values as they stand -/
def DL (K : PySem.W.Frag) (H : Hp) (a : Addr) (ks vs : List V) : Prop := ∃ (od : Obj) (es : List (Key × V)), H a = some (.frz od (.dK es)) ∧ ks = es.map (fun e => kV e.1) ∧ vs = es.map (·.2)

mutual
def Rep (K : PySem.W.Frag) (cl : Nat → Addr) (H : Hp) (m : List Addr) : D → V → Prop
  | .non, v => v = .non
  | .bl b, v => v = .bl b
  | .int i, v => v = .int i
  | .str x, v => v = .str x
  | .ptr i, v => ∃ a : Addr, m[i]? = some a ∧ v = .ref a
  | .tup ds, v => ∃ a xs, v = .ref a ∧ TL K H a xs ∧ Reps K cl H m ds xs
  | .lst ds, v => ∃ a xs, v = .ref a ∧ LL H a xs ∧ Reps K cl H m ds xs
  | .rol ds, v => ∃ a xs, v = .ref a ∧ SqL K H a xs ∧ Reps K cl H m ds xs
  | .dic ks vs, v => ∃ a xs ys, v = .ref a ∧ DL K H a xs ys ∧ Reps K cl H m ks xs ∧ Reps K cl H m vs ys
  | .obj c ns vs, v => ∃ a dx es, v = .ref a ∧ H a = some (.ins (cl c) dx es) ∧ es.map (·.1) = ns ∧ Reps K cl H m vs (es.map (·.2))
def Reps (K : PySem.W.Frag) (cl : Nat → Addr) (H : Hp) (m : List Addr) : List D → List V → Prop
  | [], xs => xs = []
  | d :: ds, xs => ∃ v vs, xs = v :: vs ∧ Rep K cl H m d v ∧ Reps K cl H m ds vs
end

section
variable {K : PySem.W.Frag} {cl : Nat → Addr} {H H' : Hp} {m m' : List Addr}
theorem LL.mono (h : ∀ a o, H a = some o → H' a = some o) {a : Addr} {xs : List V} (x : LL H a xs) : LL H' a xs := h _ _ x
theorem sqL_mono (h : ∀ a o, H a = some o → H' a = some o) {a : Addr} {xs : List V} (x : SqL K H a xs) : SqL K H' a xs := x.imp (fun z => z.imp (h _ _) fun ⟨o, z⟩ => ⟨o, h _ _ z⟩) id
theorem TL.mono (h : ∀ a o, H a = some o → H' a = some o) {a : Addr} {xs : List V} (x : TL K H a xs) : TL K H' a xs := x.imp (h _ _) id
theorem DL.mono (h : ∀ a o, H a = some o → H' a = some o) {a : Addr} {ks vs : List V} (x : DL K H a ks vs) : DL K H' a ks vs := by
  obtain ⟨od, es, e, r⟩ := x
  exact ⟨od, es, h _ _ e, r⟩
mutual
theorem Rep.mono (h : ∀ a o, H a = some o → H' a = some o) (hm : ∀ (i : Nat) (a : Addr), m[i]? = some a → m'[i]? = some a) : ∀ (d : D) (v : V), Rep K cl H m d v → Rep K cl H' m' d v
  | .non, v, x => x
  | .bl b, v, x => x
  | .int i, v, x => x
  | .str y, v, x => x
  | .ptr i, v, ⟨a, e, r⟩ => ⟨a, hm _ _ e, r⟩
  | .tup ds, v, ⟨a, xs, e, t, r⟩ => ⟨a, xs, e, t.mono h, Reps.mono h hm ds xs r⟩
  | .lst ds, v, ⟨a, xs, e, t, r⟩ => ⟨a, xs, e, t.mono h, Reps.mono h hm ds xs r⟩
  | .rol ds, v, ⟨a, xs, e, t, r⟩ => ⟨a, xs, e, sqL_mono h t, Reps.mono h hm ds xs r⟩
  | .dic ks vs, v, ⟨a, xs, ys, e, t, r, q⟩ => ⟨a, xs, ys, e, t.mono h, Reps.mono h hm ks xs r, Reps.mono h hm vs ys q⟩
  | .obj c ns vs, v, ⟨a, dx, es, e, t, r, q⟩ => ⟨a, dx, es, e, h _ _ t, r, Reps.mono h hm vs _ q⟩
theorem Reps.mono (h : ∀ a o, H a = some o → H' a = some o) (hm : ∀ (i : Nat) (a : Addr), m[i]? = some a → m'[i]? = some a) : ∀ (ds : List D) (vs : List V), Reps K cl H m ds vs → Reps K cl H' m' ds vs
  | [], xs, x => x
  | d :: ds, xs, ⟨v, vs, e, r, q⟩ => ⟨v, vs, e, Rep.mono h hm d v r, Reps.mono h hm ds vs q⟩
end
theorem Reps.length : ∀ {ds : List D} {vs : List V}, Reps K cl H m ds vs → ds.length = vs.length
  | [], _, x => by
    have e : _ = [] := x
    rw [e]; rfl
  | d :: ds, _, ⟨v, vs, e, _, q⟩ => by
    rw [e, List.length_cons, List.length_cons, Reps.length q]
theorem Reps.get : ∀ {ds : List D} {vs : List V} {i : Nat} {d : D}, Reps K cl H m ds vs → ds[i]? = some d → ∃ v, vs[i]? = some v ∧ Rep K cl H m d v
  | [], _, i, d, _, e => by simp at e
  | d' :: ds, _, 0, d, ⟨v, vs, e, r, _⟩, h => by
    simp at h
    subst h; subst e
    exact ⟨v, rfl, r⟩
  | d' :: ds, _, i + 1, d, ⟨v, vs, e, _, q⟩, h => by
    subst e
    obtain ⟨u, h1, h2⟩ := Reps.get (i := i) (d := d) q (by simpa using h)
    exact ⟨u, by simpa using h1, h2⟩
theorem Reps.append : ∀ {ds es : List D} {vs ws : List V}, Reps K cl H m ds vs → Reps K cl H m es ws → Reps K cl H m (ds ++ es) (vs ++ ws)
  | [], _, _, _, x, y => by
    have e : _ = [] := x
    rw [e]; exact y
  | d :: ds, _, _, _, ⟨v, vs, e, r, q⟩, y => by
    subst e
    exact ⟨v, _, rfl, r, Reps.append q y⟩
theorem Reps.cons {d : D} {ds : List D} {v : V} {vs : List V} (r : Rep K cl H m d v) (q : Reps K cl H m ds vs) : Reps K cl H m (d :: ds) (v :: vs) := ⟨v, vs, rfl, r, q⟩
theorem Reps.one {d : D} {v : V} (r : Rep K cl H m d v) : Reps K cl H m [d] [v] := .cons r rfl
theorem Reps.nil : Reps K cl H m [] [] := rfl
theorem Reps.inv_cons {d : D} {ds : List D} {vs : List V} (q : Reps K cl H m (d :: ds) vs) : ∃ v ws, vs = v :: ws ∧ Rep K cl H m d v ∧ Reps K cl H m ds ws := q
theorem Reps.inv_nil {vs : List V} (q : Reps K cl H m [] vs) : vs = [] := q
theorem Reps.take : ∀ {ds : List D} {vs : List V} (n : Nat), Reps K cl H m ds vs → Reps K cl H m (ds.take n) (vs.take n)
  | _, _, 0, _ => rfl
  | [], _, _ + 1, x => by
    have e : _ = [] := x
    rw [e]; rfl
  | d :: ds, _, n + 1, ⟨v, vs, e, r, q⟩ => by
    subst e
    exact ⟨v, _, rfl, r, Reps.take n q⟩
theorem Reps.drop : ∀ {ds : List D} {vs : List V} (n : Nat), Reps K cl H m ds vs → Reps K cl H m (ds.drop n) (vs.drop n)
  | _, _, 0, x => x
  | [], _, _ + 1, x => by
    have e : _ = [] := x
    rw [e]; rfl
  | d :: ds, _, n + 1, ⟨v, vs, e, r, q⟩ => by
    subst e
    exact Reps.drop n q
theorem Reps.set {d : D} {v : V} (r : Rep K cl H m d v) : ∀ {ds : List D} {vs : List V} (i : Nat), Reps K cl H m ds vs → Reps K cl H m (ds.set i d) (vs.set i v)
  | [], _, _, x => by
    have e : _ = [] := x
    rw [e]; rfl
  | _ :: ds, _, 0, ⟨v, vs, e, _, q⟩ => by
    subst e
    exact ⟨_, vs, rfl, r, q⟩
  | _ :: ds, _, i + 1, ⟨v, vs, e, r', q⟩ => by
    subst e
    exact ⟨_, _, rfl, r', Reps.set r i q⟩
theorem Reps.none_of {ds : List D} {vs : List V} {i : Nat} (r : Reps K cl H m ds vs) (e : ds[i]? = none) : vs[i]? = none := by
  have h1 := r.length
  have h2 : ds.length ≤ i := List.getElem?_eq_none_iff.mp e
  exact List.getElem?_eq_none_iff.mpr (by omega)
end

/-! ### a state: the heap, the part of it that changes no more, where the changeable things stand and what they hold -/
structure Wd where
  H : Hp
  F : Hp
  m : List Addr
  S : Sto
/-- what a changeable thing holds: its own object in H, what is within it by F -/
def CellAt (K : PySem.W.Frag) (cl : Nat → Addr) (H F : Hp) (m : List Addr) (a : Addr) : D → Prop
  | .lst ds => ∃ xs, H a = some (.lst xs) ∧ Reps K cl F m ds xs
  | .dic ks vs => ∃ es : List (Key × V), H a = some (.dK es) ∧ Reps K cl F m ks (es.map (fun e => kV e.1)) ∧ Reps K cl F m vs (es.map (·.2))
  | .obj c ns vs => ∃ dx es, H a = some (.ins (cl c) dx es) ∧ es.map (·.1) = ns ∧ Reps K cl F m vs (es.map (·.2))
  | _ => False
/-- a is where a thing stands that may still change -/
def Live (w : Wd) (a : Addr) : Prop := ∃ (i : Nat) (d : D), w.m[i]? = some a ∧ w.S[i]? = some (some d)
structure Wd.Ok (K : PySem.W.Frag) (cl : Nat → Addr) (w : Wd) : Prop where
  len : w.m.length = w.S.length
  sub : ∀ a o, w.F a = some o → w.H a = some o
  cell : ∀ (i : Nat) (a : Addr) (d : D), w.m[i]? = some a → w.S[i]? = some (some d) → w.F a = none ∧ CellAt K cl w.H w.F w.m a d
  inj : ∀ (i j : Nat) (a : Addr) (d e : D), w.m[i]? = some a → w.m[j]? = some a → w.S[i]? = some (some d) → w.S[j]? = some (some e) → i = j
/-- w' may come of w -/
structure Af (K : PySem.W.Frag) (cl : Nat → Addr) (w w' : Wd) : Prop where
  ok : w'.Ok K cl
  fz : ∀ a o, w.F a = some o → w'.F a = some o
  mu : ∀ (i : Nat) (a : Addr), w.m[i]? = some a → w'.m[i]? = some a
  keep : ∀ a o, w.H a = some o → ¬ Live w a → w'.H a = some o
  new : ∀ a o, w'.F a = some o → w.F a = some o ∨ w.H a = none ∨ Live w a
  liv : ∀ a, Live w' a → Live w a ∨ w.H a = none
section
variable {K : PySem.W.Frag} {cl : Nat → Addr} {w w1 w2 : Wd}
theorem Af.refl (o : w.Ok K cl) : Af K cl w w := ⟨o, fun _ _ h => h, fun _ _ h => h, fun _ _ h _ => h, fun _ _ h => .inl h, fun _ h => .inl h⟩
theorem Af.trans (x : Af K cl w w1) (y : Af K cl w1 w2) : Af K cl w w2 where
  ok := y.ok
  fz := fun a o h => y.fz a o (x.fz a o h)
  mu := fun i a h => y.mu i a (x.mu i a h)
  keep := fun a o h n => y.keep a o (x.keep a o h n) fun l => (x.liv a l).elim n fun e => by rw [h] at e; cases e
  new := fun a o h => by
    rcases y.new a o h with e | e | e
    · exact x.new a o e
    · by_cases l : Live w a
      · exact .inr (.inr l)
      · cases q : w.H a with
        | none => exact .inr (.inl rfl)
        | some u =>
          have := x.keep a u q l
          rw [e] at this; cases this
    · rcases x.liv a e with l | l
      · exact .inr (.inr l)
      · exact .inr (.inl l)
  liv := fun a h => by
    rcases y.liv a h with l | l
    · exact x.liv a l
    · by_cases l' : Live w a
      · exact .inl l'
      · cases q : w.H a with
        | none => exact .inr rfl
        | some u =>
          have := x.keep a u q l'
          rw [l] at this; cases this
theorem Rep.af (x : Af K cl w w1) {d : D} {v : V} (r : Rep K cl w.F w.m d v) : Rep K cl w1.F w1.m d v := Rep.mono x.fz x.mu d v r
theorem Reps.af (x : Af K cl w w1) {d : List D} {v : List V} (r : Reps K cl w.F w.m d v) : Reps K cl w1.F w1.m d v := Reps.mono x.fz x.mu d v r
theorem LL.at (o : w.Ok K cl) {a : Addr} {xs : List V} (h : LL w.F a xs) : w.H a = some (.lst xs) := o.sub _ _ h
theorem LL.here (o : w.Ok K cl) {a : Addr} {xs : List V} (h : LL w.F a xs) : SqL K w.H a xs := .inl (.inl (h.at o))
theorem sq_here (o : w.Ok K cl) {a : Addr} {xs : List V} (h : SqL K w.F a xs) : SqL K w.H a xs := sqL_mono o.sub h
theorem TL.here (o : w.Ok K cl) {a : Addr} {xs : List V} (h : TL K w.F a xs) : SqT K w.H a xs := by
  rcases h with h | h | h
  · exact .inl (.inl (o.sub _ _ h))
  · rcases h with h | ⟨_, h⟩ <;> cases h
  · exact .inr h
/-- a new thing is laid at p, of which nothing is told -/
theorem Wd.Ok.untold (o : w.Ok K cl) {p : Addr} {u : HO} (hp : w.H p = none) : Af K cl w ⟨upd w.H p u, w.F, w.m, w.S⟩ where
  ok := ⟨o.len, fun a x h => by
    have r := o.sub a x h
    show upd w.H p u a = _
    rw [upd_ne (ne_of_none r hp)]; exact r,
    fun i a d h1 h2 => by
      obtain ⟨c1, c2⟩ := o.cell i a d h1 h2
      refine ⟨c1, ?_⟩
      have n : ∀ x, w.H a = some x → a ≠ p := fun x h e => by rw [e, hp] at h; cases h
      cases d with
      | lst ds => obtain ⟨xs, e, r⟩ := c2; exact ⟨xs, by show upd w.H p u a = _; rw [upd_ne (n _ e)]; exact e, r⟩
      | dic ks vs => obtain ⟨xs, e, r⟩ := c2; exact ⟨xs, by show upd w.H p u a = _; rw [upd_ne (n _ e)]; exact e, r⟩
      | obj c ns vs => obtain ⟨dx, es, e, r⟩ := c2; exact ⟨dx, es, by show upd w.H p u a = _; rw [upd_ne (n _ e)]; exact e, r⟩
      | _ => exact c2,
    o.inj⟩
  fz := fun _ _ h => h
  mu := fun _ _ h => h
  keep := fun a x h _ => by show upd w.H p u a = _; rw [upd_ne (ne_of_none h hp)]; exact h
  new := fun _ _ h => .inl h
  liv := fun _ h => .inl h
theorem Wd.Ok.free (o : w.Ok K cl) {p : Addr} (hp : w.H p = none) : w.F p = none := by
  cases q : w.F p with
  | none => rfl
  | some u =>
    have r := o.sub _ _ q
    rw [hp] at r; cases r
theorem CellAt.of {K : PySem.W.Frag} {cl : Nat → Addr} {H H' F F' : Hp} {m m' : List Addr} {a : Addr} {d : D} (h : CellAt K cl H F m a d) (e : H' a = H a) (hf : ∀ a o, F a = some o → F' a = some o) (hm : ∀ (i : Nat) (a : Addr), m[i]? = some a → m'[i]? = some a) : CellAt K cl H' F' m' a d := by
  cases d with
  | lst ds => obtain ⟨xs, q, r⟩ := h; exact ⟨xs, e.trans q, Reps.mono hf hm _ _ r⟩
  | dic ks vs => obtain ⟨xs, q, r, r'⟩ := h; exact ⟨xs, e.trans q, Reps.mono hf hm _ _ r, Reps.mono hf hm _ _ r'⟩
  | obj c ns vs => obtain ⟨dx, es, q, r, r'⟩ := h; exact ⟨dx, es, e.trans q, r, Reps.mono hf hm _ _ r'⟩
  | _ => exact h
theorem CellAt.there {K : PySem.W.Frag} {cl : Nat → Addr} {H F : Hp} {m : List Addr} {a : Addr} {d : D} (h : CellAt K cl H F m a d) : ∃ o, H a = some o := by
  cases d with
  | lst ds => obtain ⟨xs, q, r⟩ := h; exact ⟨_, q⟩
  | dic ks vs => obtain ⟨xs, q, r, r'⟩ := h; exact ⟨_, q⟩
  | obj c ns vs => obtain ⟨dx, es, q, r, r'⟩ := h; exact ⟨_, q⟩
  | _ => exact h.elim
/-- a new thing is laid at p, that changes no more -/
theorem Wd.Ok.laid (o : w.Ok K cl) {p : Addr} {u : HO} (hp : w.H p = none) : Af K cl w ⟨upd w.H p u, upd w.F p u, w.m, w.S⟩ where
  ok := ⟨o.len, fun a x h => by
    by_cases n : a = p
    · subst n
      have h' : upd w.F a u a = some x := h
      rw [upd_same] at h'
      show upd w.H a u a = _
      rw [upd_same]; exact h'
    · have h' : upd w.F p u a = some x := h
      rw [upd_ne n] at h'
      show upd w.H p u a = _
      rw [upd_ne n]; exact o.sub a x h',
    fun i a d h1 h2 => by
      obtain ⟨c1, c2⟩ := o.cell i a d h1 h2
      obtain ⟨x, hx⟩ := c2.there
      have n : a ≠ p := ne_of_none hx hp
      exact ⟨by show upd w.F p u a = _; rw [upd_ne n]; exact c1, c2.of (upd_ne n) (fun b y hb => by show upd w.F p u b = _; rw [upd_ne (ne_of_none hb (o.free hp))]; exact hb) fun _ _ h => h⟩,
    o.inj⟩
  fz := fun b y hb => by show upd w.F p u b = _; rw [upd_ne (ne_of_none hb (o.free hp))]; exact hb
  mu := fun _ _ h => h
  keep := fun a x h _ => by show upd w.H p u a = _; rw [upd_ne (ne_of_none h hp)]; exact h
  new := fun a x h => by
    by_cases n : a = p
    · subst n; exact .inr (.inl hp)
    · have h' : upd w.F p u a = some x := h
      rw [upd_ne n] at h'
      exact .inl h'
  liv := fun _ h => .inl h
/-- a new changeable thing is laid at p -/
theorem Wd.Ok.cellNew (o : w.Ok K cl) {p : Addr} {u : HO} {d : D} (hp : w.H p = none) (hd : CellAt K cl (upd w.H p u) w.F (w.m ++ [p]) p d) : Af K cl w ⟨upd w.H p u, w.F, w.m ++ [p], w.S ++ [some d]⟩ where
  ok := ⟨by show (w.m ++ [p]).length = (w.S ++ [some d]).length; rw [List.length_append, List.length_append, o.len]; rfl, (o.untold (u := u) hp).ok.sub,
    fun i a e h1 h2 => by
      by_cases hi : i < w.m.length
      · have h1' : w.m[i]? = some a := by
          have q : (w.m ++ [p])[i]? = some a := h1
          rw [List.getElem?_append_left hi] at q; exact q
        have h2' : w.S[i]? = some (some e) := by
          have q : (w.S ++ [some d])[i]? = some (some e) := h2
          rw [List.getElem?_append_left (by rw [← o.len]; exact hi)] at q; exact q
        obtain ⟨c1, c2⟩ := o.cell i a e h1' h2'
        obtain ⟨x, hx⟩ := c2.there
        exact ⟨c1, c2.of (upd_ne (ne_of_none hx hp)) (fun _ _ h => h) fun j b hb => by
          show (w.m ++ [p])[j]? = some b
          rw [List.getElem?_append_left (List.getElem?_eq_some_iff.mp hb).1]; exact hb⟩
      · have q : (w.m ++ [p])[i]? = some a := h1
        have q2 : (w.S ++ [some d])[i]? = some (some e) := h2
        rw [List.getElem?_append_right (by omega)] at q
        rw [List.getElem?_append_right (by rw [← o.len]; omega)] at q2
        rw [← o.len] at q2
        cases hz : i - w.m.length with
        | zero =>
          rw [hz] at q q2
          simp at q q2
          subst q; subst q2
          exact ⟨o.free hp, hd⟩
        | succ k => rw [hz] at q; simp at q,
    fun i j a e e' h1 h2 h3 h4 => by
      have q1 : (w.m ++ [p])[i]? = some a := h1
      have q2 : (w.m ++ [p])[j]? = some a := h2
      have q3 : (w.S ++ [some d])[i]? = some (some e) := h3
      have q4 : (w.S ++ [some d])[j]? = some (some e') := h4
      have old : ∀ k (e : D), k < w.m.length → (w.m ++ [p])[k]? = some a → (w.S ++ [some d])[k]? = some (some e) → w.m[k]? = some a ∧ w.S[k]? = some (some e) ∧ a ≠ p := fun k e hk r1 r2 => by
        rw [List.getElem?_append_left hk] at r1
        rw [List.getElem?_append_left (by rw [← o.len]; exact hk)] at r2
        obtain ⟨x, hx⟩ := (o.cell k a e r1 r2).2.there
        exact ⟨r1, r2, ne_of_none hx hp⟩
      have nw : ∀ k, ¬ k < w.m.length → (w.m ++ [p])[k]? = some a → k = w.m.length ∧ a = p := fun k hk r1 => by
        rw [List.getElem?_append_right (by omega)] at r1
        cases hz : k - w.m.length with
        | zero => rw [hz] at r1; simp at r1; exact ⟨by omega, r1.symm⟩
        | succ n => rw [hz] at r1; simp at r1
      by_cases hi : i < w.m.length <;> by_cases hj : j < w.m.length
      · exact o.inj i j a e e' (old i e hi q1 q3).1 (old j e' hj q2 q4).1 (old i e hi q1 q3).2.1 (old j e' hj q2 q4).2.1
      · exact absurd (nw j hj q2).2 (old i e hi q1 q3).2.2
      · exact absurd (nw i hi q1).2 (old j e' hj q2 q4).2.2
      · rw [(nw i hi q1).1, (nw j hj q2).1]⟩
  fz := fun _ _ h => h
  mu := fun j b hb => by
    show (w.m ++ [p])[j]? = some b
    rw [List.getElem?_append_left (List.getElem?_eq_some_iff.mp hb).1]; exact hb
  keep := fun a x h _ => by show upd w.H p u a = _; rw [upd_ne (ne_of_none h hp)]; exact h
  new := fun _ _ h => .inl h
  liv := fun a ⟨i, e, h1, h2⟩ => by
    have q1 : (w.m ++ [p])[i]? = some a := h1
    have q3 : (w.S ++ [some d])[i]? = some (some e) := h2
    by_cases hi : i < w.m.length
    · rw [List.getElem?_append_left hi] at q1
      rw [List.getElem?_append_left (by rw [← o.len]; exact hi)] at q3
      exact .inl ⟨i, e, q1, q3⟩
    · rw [List.getElem?_append_right (by omega)] at q1
      cases hz : i - w.m.length with
      | zero => rw [hz] at q1; simp at q1; rw [← q1]; exact .inr hp
      | succ n => rw [hz] at q1; simp at q1
/-- a changeable thing is changed -/
theorem Wd.Ok.cellSet (o : w.Ok K cl) {i : Nat} {a : Addr} {d0 d : D} {u : HO} (hi : w.m[i]? = some a) (h0 : w.S[i]? = some (some d0)) (hd : CellAt K cl (upd w.H a u) w.F w.m a d) : Af K cl w ⟨upd w.H a u, w.F, w.m, w.S.set i (some d)⟩ where
  ok := ⟨by show w.m.length = (w.S.set i _).length; rw [List.length_set]; exact o.len, fun b x h => by
      have n : b ≠ a := fun e => by rw [e] at h; rw [(o.cell i a d0 hi h0).1] at h; cases h
      show upd w.H a u b = _
      rw [upd_ne n]; exact o.sub b x h,
    fun j b e h1 h2 => by
      have q2 : (w.S.set i (some d))[j]? = some (some e) := h2
      by_cases hj : i = j
      · subst hj
        have ea : a = b := Option.some.inj (hi.symm.trans h1)
        subst ea
        rw [List.getElem?_set_self (List.getElem?_eq_some_iff.mp h0).1] at q2
        cases q2
        exact ⟨(o.cell i a d0 hi h0).1, hd⟩
      · rw [List.getElem?_set_ne hj] at q2
        obtain ⟨c1, c2⟩ := o.cell j b e h1 q2
        have n : b ≠ a := fun z => hj (o.inj i j a d0 e hi (by rw [← z]; exact h1) h0 q2)
        exact ⟨c1, c2.of (upd_ne n) (fun _ _ h => h) fun _ _ h => h⟩,
    fun j k b e e' h1 h2 h3 h4 => by
      have liv : ∀ k (e : D), (w.S.set i (some d))[k]? = some (some e) → ∃ e', w.S[k]? = some (some e') := fun k e r => by
        by_cases hk : i = k
        · subst hk; exact ⟨d0, h0⟩
        · rw [List.getElem?_set_ne hk] at r; exact ⟨e, r⟩
      obtain ⟨e1, r1⟩ := liv j e h3
      obtain ⟨e2, r2⟩ := liv k e' h4
      exact o.inj j k b e1 e2 h1 h2 r1 r2⟩
  fz := fun _ _ h => h
  mu := fun _ _ h => h
  keep := fun b x h n => by
    have ne : b ≠ a := fun e => n ⟨i, d0, by rw [e]; exact hi, h0⟩
    show upd w.H a u b = _
    rw [upd_ne ne]; exact h
  new := fun _ _ h => .inl h
  liv := fun b ⟨k, e, h1, h2⟩ => by
    have q2 : (w.S.set i (some d))[k]? = some (some e) := h2
    by_cases hk : i = k
    · subst hk; exact .inl ⟨i, d0, h1, h0⟩
    · rw [List.getElem?_set_ne hk] at q2; exact .inl ⟨k, e, h1, q2⟩
/-- a changeable thing changes no more -/
theorem Wd.Ok.freeze (o : w.Ok K cl) {i : Nat} {a : Addr} {d : D} (hi : w.m[i]? = some a) (h0 : w.S[i]? = some (some d)) (u : HO) : Af K cl w ⟨upd w.H a u, upd w.F a u, w.m, w.S.set i none⟩ := by
  obtain ⟨c1, c2⟩ := o.cell i a d hi h0
  have fz : ∀ b x, w.F b = some x → upd w.F a u b = some x := fun b x h => by rw [upd_ne (ne_of_none h c1)]; exact h
  refine ⟨⟨?_, fun b x h => ?_, fun j b e h1 h2 => ?_, fun j k b e e' h1 h2 h3 h4 => ?_⟩, fz, fun _ _ h => h, fun b x h n => ?_, fun b x h => ?_, fun b ⟨k, e, h1, h2⟩ => ?_⟩
  · show w.m.length = (w.S.set i _).length
    rw [List.length_set]; exact o.len
  · by_cases n : b = a
    · subst n
      have h' : upd w.F b u b = some x := h
      rw [upd_same] at h'
      show upd w.H b u b = _
      rw [upd_same]; exact h'
    · have h' : upd w.F a u b = some x := h
      rw [upd_ne n] at h'
      show upd w.H a u b = _
      rw [upd_ne n]; exact o.sub b x h'
  · have q2 : (w.S.set i none)[j]? = some (some e) := h2
    by_cases hj : i = j
    · subst hj
      rw [List.getElem?_set_self (List.getElem?_eq_some_iff.mp h0).1] at q2
      cases q2
    · rw [List.getElem?_set_ne hj] at q2
      obtain ⟨c1', c2'⟩ := o.cell j b e h1 q2
      have n : b ≠ a := fun z => hj (o.inj i j a d e hi (by rw [← z]; exact h1) h0 q2)
      exact ⟨by show upd w.F a u b = _; rw [upd_ne n]; exact c1', c2'.of (upd_ne n) fz fun _ _ h => h⟩
  · have lv : ∀ k (e : D), (w.S.set i none)[k]? = some (some e) → w.S[k]? = some (some e) := fun k e r => by
      by_cases hk : i = k
      · subst hk
        rw [List.getElem?_set_self (List.getElem?_eq_some_iff.mp h0).1] at r
        cases r
      · rw [List.getElem?_set_ne hk] at r; exact r
    exact o.inj j k b e e' h1 h2 (lv j e h3) (lv k e' h4)
  · have ne : b ≠ a := fun e => n ⟨i, d, by rw [e]; exact hi, h0⟩
    show upd w.H a u b = _
    rw [upd_ne ne]; exact h
  · by_cases n : b = a
    · subst n; exact .inr (.inr ⟨i, d, hi, h0⟩)
    · have h' : upd w.F a u b = some x := h
      rw [upd_ne n] at h'
      exact .inl h'
  · have q2 : (w.S.set i none)[k]? = some (some e) := h2
    by_cases hk : i = k
    · subst hk
      rw [List.getElem?_set_self (List.getElem?_eq_some_iff.mp h0).1] at q2
      cases q2
    · rw [List.getElem?_set_ne hk] at q2; exact .inl ⟨k, e, h1, q2⟩
theorem upd_self {H : Hp} {a : Addr} {u : HO} (h : H a = some u) : upd H a u = H := by
  funext b
  by_cases n : b = a
  · subst n; rw [upd_same, h]
  · rw [upd_ne n]
end
end Dl
set_option Elab.async false
set_option linter.all false
set_option maxRecDepth 100000
set_option maxHeartbeats 4000000
/-! The data layer: expressions. -/
namespace Dl
open PySem L2

/-- an exception's own dict -/
def ExcAt (K : PySem.W.Frag) (cl : Nat → Addr) (w : Wd) (d : Option Addr) (ns : List Str) (vs : List D) : Prop :=
  (ns = [] ∧ d = none) ∨ ∃ a es, d = some a ∧ w.F a = some (.xd es) ∧ es.map (·.1) = ns ∧ Reps K cl w.F w.m vs (es.map (·.2))
/-- what must hold behind a piece of code that comes to o -/
def OPost {α β : Type} (K : PySem.W.Frag) (cl : Nat → Addr) (R : Wd → α → β → Prop) (W : Value → Option Addr → Hp → Prop) (w : Wd) (Q : β → Hp → Prop) : Out α → Prop
  | .ok a S' => ∀ w' b, Af K cl w w' → w'.S = S' → R w' a b → Q b w'.H
  | .exc c ns vs S' => ∀ w' d, Af K cl w w' → w'.S = S' → ExcAt K cl w' d ns vs → W (.ref (cl c)) d w'.H
  | .bad => False
def RV (K : PySem.W.Frag) (cl : Nat → Addr) (w : Wd) (d : D) (v : V) : Prop := Rep K cl w.F w.m d v
def RL (K : PySem.W.Frag) (cl : Nat → Addr) (w : Wd) (d : List D) (v : List V) : Prop := Reps K cl w.F w.m d v
def RB (_w : Wd) (a b : Bool) : Prop := a = b
section
variable {α β γ δ : Type} {K : PySem.W.Frag} {cl : Nat → Addr} {R : Wd → α → β → Prop} {R' : Wd → γ → δ → Prop} {W : Value → Option Addr → Hp → Prop} {w w1 : Wd} {Q : β → Hp → Prop}
theorem OPost.after {o : Out α} (p : OPost K cl R W w Q o) (x : Af K cl w w1) : OPost K cl R W w1 Q o := by
  cases o with
  | ok a S => exact fun w' b y e r => p w' b (x.trans y) e r
  | exc c ns vs S => exact fun w' d y e r => p w' d (x.trans y) e r
  | bad => exact p
theorem OPost.bind {o : Out γ} {k : γ → Sto → Out α} {P : δ → Hp → Prop} (p : OPost K cl R W w Q (o.bind k))
    (h : ∀ a w1 b, Af K cl w w1 → R' w1 a b → OPost K cl R W w1 Q (k a w1.S) → P b w1.H) : OPost K cl R' W w P o := by
  cases o with
  | ok a S =>
    intro w1 b y e r
    refine h a w1 b y r ?_
    rw [e]
    exact OPost.after p y
  | exc c ns vs S => exact p
  | bad => exact p
theorem OPost.mono {o : Out α} {P : β → Hp → Prop} (p : OPost K cl R W w Q o) (h : ∀ b H, Q b H → P b H) : OPost K cl R W w P o := by
  cases o with
  | ok a S => exact fun w' b y e r => h _ _ (p w' b y e r)
  | exc c ns vs S => exact p
  | bad => exact p
end
/-- the slots -/
structure EnvR (K : PySem.W.Frag) (cl : Nat → Addr) (w : Wd) (t : Lc) (σ : L2.St) : Prop where
  len : t.length = σ.length
  at_ : ∀ (i : Nat) (d : D), t[i]? = some (some d) → ∃ v, σ[i]? = some (some v) ∧ Rep K cl w.F w.m d v
section
variable {K : PySem.W.Frag} {cl : Nat → Addr} {w w1 : Wd} {t : Lc} {σ : L2.St}
theorem EnvR.af (e : EnvR K cl w t σ) (x : Af K cl w w1) : EnvR K cl w1 t σ := ⟨e.len, fun i d h => let ⟨v, h1, h2⟩ := e.at_ i d h; ⟨v, h1, h2.af x⟩⟩
theorem EnvR.set (e : EnvR K cl w t σ) {i : Nat} {d : D} {v : V} (r : Rep K cl w.F w.m d v) : EnvR K cl w (t.set i (some d)) (σ.set i (some v)) := by
  refine ⟨by rw [List.length_set, List.length_set]; exact e.len, fun j d' h => ?_⟩
  by_cases hj : i = j
  · subst hj
    by_cases hi : i < t.length
    · rw [List.getElem?_set_self hi] at h
      cases h
      exact ⟨v, List.getElem?_set_self (by rw [← e.len]; exact hi), r⟩
    · rw [List.getElem?_eq_none (by rw [List.length_set]; omega)] at h
      cases h
  · rw [List.getElem?_set_ne hj] at h ⊢
    exact e.at_ j d' h
theorem EnvR.unset (e : EnvR K cl w t σ) {i : Nat} {o : Option V} : EnvR K cl w (t.set i none) (σ.set i o) := by
  refine ⟨by rw [List.length_set, List.length_set]; exact e.len, fun j d' h => ?_⟩
  by_cases hj : i = j
  · subst hj
    by_cases hi : i < t.length
    · rw [List.getElem?_set_self hi] at h
      cases h
    · rw [List.getElem?_eq_none (by rw [List.length_set]; omega)] at h
      cases h
  · rw [List.getElem?_set_ne hj] at h ⊢
    exact e.at_ j d' h
end
/-- an expression that comes to what de says -/
def upE (K : PySem.W.Frag) (cl : Nat → Addr) (W : WX) (de : DE) : TE := fun σ H Q => ∃ w t, w.H = H ∧ w.Ok K cl ∧ EnvR K cl w t σ ∧ OPost K cl (RV K cl) (fun c d H' => W c d σ H') w Q (de t w.S)
def upA (K : PySem.W.Frag) (cl : Nat → Addr) (W : WX) (de : DA) : TA := fun σ H Q => ∃ w t, w.H = H ∧ w.Ok K cl ∧ EnvR K cl w t σ ∧ OPost K cl (RL K cl) (fun c d H' => W c d σ H') w Q (de t w.S)
def upB (K : PySem.W.Frag) (cl : Nat → Addr) (W : WX) (de : DB) : TT := fun σ H Q => ∃ w t, w.H = H ∧ w.Ok K cl ∧ EnvR K cl w t σ ∧ OPost K cl RB (fun c d H' => W c d σ H') w Q (de t w.S)

section
variable {X : Cx} {e a b c : Expr} {es : List Expr} {te : TE} {W : WX} {pos : Pos} {cl : Nat → Addr}
theorem weakE (h : PE X e te) {t : TE} (q : ∀ σ H Q, t σ H Q → te σ H Q) : PE X e t := ⟨fun pins s σ H Q I hw => h.run pins s σ H Q I (q σ H Q hw)⟩
theorem weakB {tt : TT} (h : PT X e tt) {t : TT} (q : ∀ σ H Q, t σ H Q → tt σ H Q) : PT X e t := ⟨fun pins s σ H Q I hw => h.run pins s σ H Q I (q σ H Q hw)⟩
theorem weakA {ta : TA} (h : PA X es ta) {t : TA} (q : ∀ σ H Q, t σ H Q → ta σ H Q) : PA X es t := ⟨fun pos pins s σ H Q I hw => h.run pos pins s σ H Q I (q σ H Q hw)⟩
theorem weakS {st : Stmt} {ts : TS} (h : PS X st ts) {t : TS} (q : ∀ D σ H, t D σ H → ts D σ H) : PS X st t := ⟨fun pins s σ H D I hw => h.run pins s σ H D I (q D σ H hw)⟩
theorem weakSs {st : List Stmt} {ts : TS} (h : PSs X st ts) {t : TS} (q : ∀ D σ H, t D σ H → ts D σ H) : PSs X st t := ⟨fun pins s σ H D I hw => h.run pins s σ H D I (q D σ H hw)⟩

abbrev UE (X : Cx) (cl : Nat → Addr) (W : WX) (e : Expr) (de : DE) : Prop := PE X e (upE X.K cl W de)
abbrev UA (X : Cx) (cl : Nat → Addr) (W : WX) (es : List Expr) (de : DA) : Prop := PA X es (upA X.K cl W de)
abbrev UB (X : Cx) (cl : Nat → Addr) (W : WX) (e : Expr) (de : DB) : Prop := PT X e (upB X.K cl W de)

/-! names, constants -/
def dVar (i : Nat) : DE := fun t S => match t[i]? with | some (some d) => .ok d S | _ => .bad
def dC (d : D) : DE := fun _ S => .ok d S
theorem u_var {i : Nat} (h : PE X e (tVar i)) : UE X cl W e (dVar i) := weakE h fun σ H Q ⟨w, t, eH, ok, en, p⟩ => by
  unfold dVar at p
  split at p
  · rename_i d hd
    obtain ⟨v, h1, h2⟩ := en.at_ i d hd
    exact ⟨v, h1, eH ▸ p w v (Af.refl ok) rfl h2⟩
  · exact p.elim
/-- a constant, bearing d whatever the heap -/
theorem u_c {v : V} {d : D} (h : PE X e (tC v)) (r : ∀ H m, Rep X.K cl H m d v) : UE X cl W e (dC d) := weakE h fun σ H Q ⟨w, t, eH, ok, en, p⟩ => eH ▸ p w v (Af.refl ok) rfl (r _ _)

/-! operators on values -/
def OpD (K : PySem.W.Frag) (cl : Nat → Addr) (r : R2) (f : D → D → Sto → Out D) : Prop :=
  ∀ (w : Wd) (x y : D) (vx vy : V) (W : Value → Option Addr → Hp → Prop) (Q : VK), w.Ok K cl → RV K cl w x vx → RV K cl w y vy → OPost K cl (RV K cl) W w Q (f x y w.S) → r vx vy w.H Q
def UnD (K : PySem.W.Frag) (cl : Nat → Addr) (r : V → Hp → VK → Prop) (f : D → Sto → Out D) : Prop :=
  ∀ (w : Wd) (x : D) (vx : V) (W : Value → Option Addr → Hp → Prop) (Q : VK), w.Ok K cl → RV K cl w x vx → OPost K cl (RV K cl) W w Q (f x w.S) → r vx w.H Q
def CallD (K : PySem.W.Frag) (cl : Nat → Addr) (r : List V → Hp → VK → Prop) (f : List D → Sto → Out D) : Prop :=
  ∀ (w : Wd) (xs : List D) (vs : List V) (W : Value → Option Addr → Hp → Prop) (Q : VK), w.Ok K cl → RL K cl w xs vs → OPost K cl (RV K cl) W w Q (f xs w.S) → r vs w.H Q
def dOp (f : D → D → Sto → Out D) (da db : DE) : DE := fun t S => (da t S).bind fun x S1 => (db t S1).bind fun y S2 => f x y S2
def dUn (f : D → Sto → Out D) (da : DE) : DE := fun t S => (da t S).bind fun x S1 => f x S1
theorem le_op {r : R2} {f : D → D → Sto → Out D} {da db : DE} (hr : OpD X.K cl r f) {σ : L2.St} {H : Hp} {Q : VK} (h : upE X.K cl W (dOp f da db) σ H Q) : tOp r (upE X.K cl W da) (upE X.K cl W db) σ H Q := by
  obtain ⟨w, t, eH, ok, en, p⟩ := h
  refine ⟨w, t, eH, ok, en, OPost.bind p fun x w1 v1 a1 r1 p1 => ?_⟩
  refine ⟨w1, t, rfl, a1.ok, en.af a1, OPost.bind p1 fun y w2 v2 a2 r2 p2 => ?_⟩
  exact hr w2 x y v1 v2 _ Q a2.ok (Rep.af a2 r1) r2 p2
theorem u_bin {op : Operator} {r : R2} {f : D → D → Sto → Out D} {da db : DE} (ho : OpR X (binaryOp op) r) (hr : OpD X.K cl r f) (ha : UE X cl W a da) (hb : UE X cl W b db) : UE X cl W (.BinOp a op b pos) (dOp f da db) :=
  weakE (pe_op ho ha hb) fun _ _ _ => le_op hr
theorem u_cmp {op : CmpOp} {r : R2} {f : D → D → Sto → Out D} {da db : DE} (ho : OpR X (compareOp op) r) (hr : OpD X.K cl r f) (ha : UE X cl W a da) (hb : UE X cl W b db) (hm : behindInMarks op b = false := by first | exact nomark _ | rfl | with_unfolding_all rfl) :
    UE X cl W (.Compare a [op] [b] pos) (dOp f da db) := weakE (pe_cmpR ho ha hb hm) fun _ _ _ => le_op hr
theorem u_un {op : UnaryOp} {r : V → Hp → VK → Prop} {f : D → Sto → Out D} {da : DE} (ho : UnR X (unaryOp op) r) (hr : UnD X.K cl r f) (ha : UE X cl W a da) : UE X cl W (.UnaryOp op a pos) (dUn f da) := weakE (pe_un ho ha) fun σ H Q ⟨w, t, eH, ok, en, p⟩ =>
  ⟨w, t, eH, ok, en, OPost.bind p fun x w1 v1 a1 r1 p1 => hr w1 x v1 _ Q a1.ok r1 p1⟩
theorem u_ix {r : R2} {f : D → D → Sto → Out D} {da db : DE} (ho : IxR X r) (hr : OpD X.K cl r f) (ha : UE X cl W a da) (hb : UE X cl W b db) (hs : PlainIx b) : UE X cl W (.Subscript a b pos) (dOp f da db) :=
  weakE (pe_ix ho ha hb hs) fun _ _ _ => le_op hr
/-- a op b op' c -/
def dChain (f g : D → D → Sto → Out D) (da db dc : DE) : DE := fun t S => (da t S).bind fun x S1 => (db t S1).bind fun y S2 => (f x y S2).bind fun z S3 => match z with
  | .bl true => (dc t S3).bind fun u S4 => g y u S4
  | .bl false => .ok (.bl false) S3
  | _ => .bad
theorem u_chain {op op' : CmpOp} {r r' : R2} {f g : D → D → Sto → Out D} {da db dc : DE} (ho : OpR X (compareOp op) r) (ho' : OpR X (compareOp op') r') (hr : OpD X.K cl r f) (hr' : OpD X.K cl r' g) (ha : UE X cl W a da) (hb : UE X cl W b db) (hc : UE X cl W c dc)
    (hm : lastMarks [op, op'] [b, c] = false := by with_unfolding_all rfl) : UE X cl W (.Compare a [op, op'] [b, c] pos) (dChain f g da db dc) := weakE (pe_chain ho ho' ha hb hc hm) fun σ H Q ⟨w, t, eH, ok, en, p⟩ => by
  refine ⟨w, t, eH, ok, en, OPost.bind p fun x w1 v1 a1 r1 p1 => ?_⟩
  refine ⟨w1, t, rfl, a1.ok, en.af a1, OPost.bind p1 fun y w2 v2 a2 r2 p2 => ?_⟩
  refine hr w2 x y v1 v2 _ _ a2.ok (Rep.af a2 r1) r2 (OPost.bind p2 fun z w3 v3 a3 r3 p3 => ?_)
  split at p3
  · cases (show v3 = .bl true from r3)
    refine ⟨true, rfl, ?_⟩
    rw [if_pos rfl]
    refine ⟨w3, t, rfl, a3.ok, ((en.af a1).af a2).af a3, OPost.bind p3 fun u w4 v4 a4 r4 p4 => ?_⟩
    exact hr' w4 y u v2 v4 _ Q a4.ok (Rep.af a4 (Rep.af a3 r2)) r4 p4
  · cases (show v3 = .bl false from r3)
    refine ⟨false, rfl, ?_⟩
    rw [if_neg Bool.false_ne_true]
    exact p3 w3 (.bl false) (Af.refl a3.ok) rfl rfl
  · exact p3.elim

/-! and, or, not, if: as values that are bools -/
def dAnd (da db : DE) : DE := fun t S => (da t S).bind fun x S1 => match x with
  | .bl true => db t S1
  | .bl false => .ok (.bl false) S1
  | _ => .bad
def dOr (da db : DE) : DE := fun t S => (da t S).bind fun x S1 => match x with
  | .bl true => .ok (.bl true) S1
  | .bl false => db t S1
  | _ => .bad
def dNot (da : DE) : DE := fun t S => (da t S).bind fun x S1 => match x with
  | .bl b => .ok (.bl (!b)) S1
  | _ => .bad
def bTest (da : DE) : DB := fun t S => (da t S).bind fun x S1 => match x with
  | .bl b => .ok b S1
  | _ => .bad
def bAnd (da db : DB) : DB := fun t S => (da t S).bind fun x S1 => if x = true then db t S1 else .ok false S1
def bOr (da db : DB) : DB := fun t S => (da t S).bind fun x S1 => if x = true then .ok true S1 else db t S1
def bNot (da : DB) : DB := fun t S => (da t S).bind fun x S1 => .ok (!x) S1
def dIf (dc : DB) (da db : DE) : DE := fun t S => (dc t S).bind fun x S1 => if x = true then da t S1 else db t S1
variable {da db : DE} {ba bb : DB} {rest : List Expr}
theorem u_one {op : BoolOp} (h : UE X cl W a da) : UE X cl W (.BoolOp op [a] pos) da := pe_one h
theorem u_and (ha : UE X cl W a da) (hb : UE X cl W (.BoolOp .And (b :: rest) pos) db) : UE X cl W (.BoolOp .And (a :: b :: rest) pos) (dAnd da db) := weakE (pe_and ha hb) fun σ H Q ⟨w, t, eH, ok, en, p⟩ => by
  refine ⟨w, t, eH, ok, en, OPost.bind p fun x w1 v1 a1 r1 p1 => ?_⟩
  split at p1
  · cases (show v1 = .bl true from r1)
    exact ⟨true, rfl, w1, t, rfl, a1.ok, en.af a1, p1⟩
  · cases (show v1 = .bl false from r1)
    exact ⟨false, rfl, p1 w1 (.bl false) (Af.refl a1.ok) rfl rfl⟩
  · exact p1.elim
theorem u_or (ha : UE X cl W a da) (hb : UE X cl W (.BoolOp .Or (b :: rest) pos) db) : UE X cl W (.BoolOp .Or (a :: b :: rest) pos) (dOr da db) := weakE (pe_or ha hb) fun σ H Q ⟨w, t, eH, ok, en, p⟩ => by
  refine ⟨w, t, eH, ok, en, OPost.bind p fun x w1 v1 a1 r1 p1 => ?_⟩
  split at p1
  · cases (show v1 = .bl true from r1)
    exact ⟨true, rfl, p1 w1 (.bl true) (Af.refl a1.ok) rfl rfl⟩
  · cases (show v1 = .bl false from r1)
    exact ⟨false, rfl, w1, t, rfl, a1.ok, en.af a1, p1⟩
  · exact p1.elim
theorem u_not (ha : UE X cl W a da) : UE X cl W (.UnaryOp .Not a pos) (dNot da) := weakE (pe_not ha) fun σ H Q ⟨w, t, eH, ok, en, p⟩ => by
  refine ⟨w, t, eH, ok, en, OPost.bind p fun x w1 v1 a1 r1 p1 => ?_⟩
  split at p1
  · rename_i b
    cases (show v1 = .bl b from r1)
    exact ⟨b, rfl, p1 w1 (.bl (!b)) (Af.refl a1.ok) rfl rfl⟩
  · exact p1.elim
theorem b_of {tt : TT} (h : PT X e tt) (q : ∀ σ H Q, upE X.K cl W da σ H (fun v H1 => ∃ c, v = .bl c ∧ Q c H1) → tt σ H Q) : UB X cl W e (bTest da) := weakB h fun σ H Q ⟨w, t, eH, ok, en, p⟩ => by
  refine q σ H Q ⟨w, t, eH, ok, en, OPost.bind p fun x w1 v1 a1 r1 p1 => ?_⟩
  split at p1
  · rename_i b
    cases (show v1 = .bl b from r1)
    exact ⟨b, rfl, p1 w1 b (Af.refl a1.ok) rfl rfl⟩
  · exact p1.elim
/-- a test by its value -/
theorem b_val (h : UE X cl W e da) (he : ∀ whole, isTrue e X.env whole = (do let v ← whole; standAt e.pos; holding [v] (truthy v)) := by intro _; rfl) : UB X cl W e (bTest da) := b_of (pt_val h he) fun _ _ _ z => z
theorem b_cmp {op : CmpOp} {r : R2} {f : D → D → Sto → Out D} (ho : OpR X (compareOp op) r) (hr : OpD X.K cl r f) (ha : UE X cl W a da) (hb : UE X cl W b db) (hm : behindInMarks op b = false := by first | exact nomark _ | rfl | with_unfolding_all rfl) :
    UB X cl W (.Compare a [op] [b] pos) (bTest (dOp f da db)) := b_of (pt_cmpR ho ha hb hm) fun _ _ _ z => le_op hr z
theorem b_chain {op op' : CmpOp} {r r' : R2} {f g : D → D → Sto → Out D} {dc : DE} (ho : OpR X (compareOp op) r) (ho' : OpR X (compareOp op') r') (hr : OpD X.K cl r f) (hr' : OpD X.K cl r' g) (ha : UE X cl W a da) (hb : UE X cl W b db) (hc : UE X cl W c dc)
    (hm : lastMarks [op, op'] [b, c] = false := by with_unfolding_all rfl) : UB X cl W (.Compare a [op, op'] [b, c] pos) (bTest (dChain f g da db dc)) := b_of (pt_chain ho ho' ha hb hc hm) fun σ H Q ⟨w, t, eH, ok, en, p⟩ => by
  refine ⟨w, t, eH, ok, en, OPost.bind p fun x w1 v1 a1 r1 p1 => ?_⟩
  refine ⟨w1, t, rfl, a1.ok, en.af a1, OPost.bind p1 fun y w2 v2 a2 r2 p2 => ?_⟩
  refine hr w2 x y v1 v2 _ _ a2.ok (Rep.af a2 r1) r2 (OPost.bind p2 fun z w3 v3 a3 r3 p3 => ?_)
  split at p3
  · cases (show v3 = .bl true from r3)
    refine ⟨true, rfl, ?_⟩
    rw [if_pos rfl]
    refine ⟨w3, t, rfl, a3.ok, ((en.af a1).af a2).af a3, OPost.bind p3 fun u w4 v4 a4 r4 p4 => ?_⟩
    exact hr' w4 y u v2 v4 _ _ a4.ok (Rep.af a4 (Rep.af a3 r2)) r4 p4
  · cases (show v3 = .bl false from r3)
    refine ⟨false, rfl, ?_⟩
    rw [if_neg Bool.false_ne_true]
    exact p3 w3 (.bl false) (Af.refl a3.ok) rfl rfl
  · exact p3.elim
/-- and, or in a test -/
abbrev UW (X : Cx) (cl : Nat → Addr) (W : WX) (e : Expr) (de : DB) : Prop := PW X e (upB X.K cl W de)
theorem weakW {tt : TT} (h : PW X e tt) {t : TT} (q : ∀ σ H Q, t σ H Q → tt σ H Q) : PW X e t := ⟨fun wh pins s σ H Q I hw => h.run wh pins s σ H Q I (q σ H Q hw)⟩
theorem w_and1 (h : UB X cl W a ba) : UW X cl W (.BoolOp .And [a] pos) ba := pw_and1 h
theorem w_or1 (h : UB X cl W a ba) : UW X cl W (.BoolOp .Or [a] pos) ba := pw_or1 h
theorem w_and (ha : UB X cl W a ba) (hb : UW X cl W (.BoolOp .And (b :: rest) pos) bb) : UW X cl W (.BoolOp .And (a :: b :: rest) pos) (bAnd ba bb) := weakW (pw_and ha hb) fun σ H Q ⟨w, t, eH, ok, en, p⟩ => by
  refine ⟨w, t, eH, ok, en, OPost.bind p fun x w1 v1 a1 r1 p1 => ?_⟩
  cases (show x = v1 from r1)
  cases x with
  | true => exact ⟨w1, t, rfl, a1.ok, en.af a1, p1⟩
  | false => exact p1 w1 false (Af.refl a1.ok) rfl rfl
theorem w_or (ha : UB X cl W a ba) (hb : UW X cl W (.BoolOp .Or (b :: rest) pos) bb) : UW X cl W (.BoolOp .Or (a :: b :: rest) pos) (bOr ba bb) := weakW (pw_or ha hb) fun σ H Q ⟨w, t, eH, ok, en, p⟩ => by
  refine ⟨w, t, eH, ok, en, OPost.bind p fun x w1 v1 a1 r1 p1 => ?_⟩
  cases (show x = v1 from r1)
  cases x with
  | true => exact p1 w1 true (Af.refl a1.ok) rfl rfl
  | false => exact ⟨w1, t, rfl, a1.ok, en.af a1, p1⟩
theorem b_w (h : UW X cl W e ba) : UB X cl W e ba := h.pt
theorem b_not (ha : UB X cl W a ba) : UB X cl W (.UnaryOp .Not a pos) (bNot ba) := weakB (pt_not ha) fun σ H Q ⟨w, t, eH, ok, en, p⟩ => by
  refine ⟨w, t, eH, ok, en, OPost.bind p fun x w1 v1 a1 r1 p1 => ?_⟩
  cases (show x = v1 from r1)
  exact p1 w1 (!x) (Af.refl a1.ok) rfl rfl
theorem u_if {ct : DB} (hc : UB X cl W c ct) (ha : UE X cl W a da) (hb : UE X cl W b db) : UE X cl W (.IfExp c a b pos) (dIf ct da db) := weakE (pe_ifExp hc ha hb) fun σ H Q ⟨w, t, eH, ok, en, p⟩ => by
  refine ⟨w, t, eH, ok, en, OPost.bind p fun x w1 v1 a1 r1 p1 => ?_⟩
  cases (show x = v1 from r1)
  cases x with
  | true => exact ⟨w1, t, rfl, a1.ok, en.af a1, p1⟩
  | false => exact ⟨w1, t, rfl, a1.ok, en.af a1, p1⟩

/-! argument lists, displays -/
def aNil : DA := fun _ S => .ok [] S
def aCons (da : DE) (dr : DA) : DA := fun t S => (da t S).bind fun x S1 => (dr t S1).bind fun xs S2 => .ok (x :: xs) S2
variable {dr : DA}
theorem a_nil : UA X cl W [] aNil := weakA pa_nil fun σ H Q ⟨w, t, eH, ok, en, p⟩ => eH ▸ p w [] (Af.refl ok) rfl rfl
theorem a_cons (ha : UE X cl W e da) (hr : UA X cl W es dr) (hs : starEach (e :: es) X.env = (false, eval e X.env) :: starEach es X.env := by rfl) : UA X cl W (e :: es) (aCons da dr) := weakA (pa_cons ha hr hs) fun σ H Q ⟨w, t, eH, ok, en, p⟩ => by
  refine ⟨w, t, eH, ok, en, OPost.bind p fun x w1 v1 a1 r1 p1 => ?_⟩
  refine ⟨w1, t, rfl, a1.ok, en.af a1, OPost.bind p1 fun xs w2 vs a2 r2 p2 => ?_⟩
  exact p2 w2 (v1 :: vs) (Af.refl a2.ok) rfl ⟨v1, vs, rfl, Rep.af a2 r1, r2⟩
def dTup (dr : DA) : DE := fun t S => (dr t S).bind fun xs S1 => if xs.length ≤ sizeLine then .ok (.tup xs) S1 else .bad
def dLst (dr : DA) : DE := fun t S => (dr t S).bind fun xs S1 => if xs.length ≤ sizeLine then .ok (.lst xs) S1 else .bad
/-- a new list that is still to change -/
def dCellL (dr : DA) : DE := fun t S => (dr t S).bind fun xs S1 => if xs.length ≤ sizeLine then .ok (.ptr S1.length) (S1 ++ [some (.lst xs)]) else .bad
theorem laidTup {K : PySem.W.Frag} {w1 : Wd} {p : Addr} {xs : List D} {vs : List V} (ok : w1.Ok K cl) (hp : w1.H p = none) (r : RL K cl w1 xs vs) : Rep K cl (upd w1.F p (.tup vs)) w1.m (.tup xs) (.ref p) :=
  ⟨p, vs, rfl, .inl upd_same, Reps.af (ok.laid hp) r⟩
theorem laidLst {K : PySem.W.Frag} {w1 : Wd} {p : Addr} {xs : List D} {vs : List V} (ok : w1.Ok K cl) (hp : w1.H p = none) (r : RL K cl w1 xs vs) : Rep K cl (upd w1.F p (.lst vs)) w1.m (.lst xs) (.ref p) :=
  ⟨p, vs, rfl, upd_same, Reps.af (ok.laid hp) r⟩
theorem u_tup {x1} (h : UA X cl W es dr) : UE X cl W (.Tuple es x1 pos) (dTup dr) := weakE (pe_tup h) fun σ H Q ⟨w, t, eH, ok, en, p⟩ => by
  refine ⟨w, t, eH, ok, en, OPost.bind p fun xs w1 vs a1 r1 p1 => ?_⟩
  split at p1
  · rename_i hl
    refine ⟨by rw [← Reps.length r1]; exact hl, fun q hq => ?_⟩
    exact p1 ⟨_, upd w1.F q (.tup vs), w1.m, w1.S⟩ (.ref q) (a1.ok.laid hq) rfl (laidTup a1.ok hq r1)
  · exact p1.elim
theorem u_lst (h : UA X cl W es dr) : UE X cl W (.List es pos) (dLst dr) := weakE (pe_lst h) fun σ H Q ⟨w, t, eH, ok, en, p⟩ => by
  refine ⟨w, t, eH, ok, en, OPost.bind p fun xs w1 vs a1 r1 p1 => ?_⟩
  split at p1
  · rename_i hl
    refine ⟨by rw [← Reps.length r1]; exact hl, fun q hq => ?_⟩
    exact p1 ⟨_, upd w1.F q (.lst vs), w1.m, w1.S⟩ (.ref q) (a1.ok.laid hq) rfl (laidLst a1.ok hq r1)
  · exact p1.elim
theorem snoc_get {α : Type} {l : List α} {x : α} {n : Nat} (h : n = l.length) : (l ++ [x])[n]? = some x := by
  subst h; simp
theorem pre_get {α : Type} {l : List α} {x y : α} {n : Nat} (h : l[n]? = some y) : (l ++ [x])[n]? = some y := by
  rw [List.getElem?_append_left (List.getElem?_eq_some_iff.mp h).1]; exact h
theorem u_cellL (h : UA X cl W es dr) : UE X cl W (.List es pos) (dCellL dr) := weakE (pe_lst h) fun σ H Q ⟨w, t, eH, ok, en, p⟩ => by
  refine ⟨w, t, eH, ok, en, OPost.bind p fun xs w1 vs a1 r1 p1 => ?_⟩
  split at p1
  · rename_i hl
    refine ⟨by rw [← Reps.length r1]; exact hl, fun q hq => ?_⟩
    have z := a1.ok.cellNew (K := X.K) (u := .lst vs) (d := .lst xs) hq ⟨vs, upd_same, Reps.mono (fun _ _ h => h) (fun i b hb => pre_get hb) _ _ r1⟩
    exact p1 ⟨upd w1.H q (.lst vs), w1.F, w1.m ++ [q], w1.S ++ [some (D.lst xs)]⟩ (.ref q) z rfl ⟨q, snoc_get a1.ok.len.symm, rfl⟩
  · exact p1.elim
/-- what a changeable thing holds changes no more -/
def dFz (da : DE) : DE := fun t S => (da t S).bind fun x S1 => match x with
  | .ptr i => match S1[i]? with
    | some (some d) => .ok d (S1.set i none)
    | _ => .bad
  | _ => .bad
/-- the thing that comes may be locked for ever -/
def tMayLock (te : TE) : TE := fun σ H Q => te σ H fun v H1 => Q v H1 ∨ ∃ d u, v = .ref d ∧ H1 d = some u ∧ Mut (some u) ∧ ∀ od, Q v (upd H1 d (.frz od u))
theorem pe_mayLock {te : TE} (h : PE X e te) : PE X e (tMayLock te) := ⟨fun pins s σ H Q I hw => thn (h.run pins s σ H _ I hw) fun v s1 ⟨x, H1, I1, r1, q1⟩ => by
  rcases q1 with q1 | ⟨d, u, e1, hd, mu, q1⟩
  · exact ⟨x, H1, I1, r1, q1⟩
  · obtain ⟨od, I2⟩ := I1.lock hd mu
    exact ⟨x, _, I2, r1, q1 od⟩⟩
theorem u_fz (h : UE X cl W e da) : UE X cl W e (dFz da) := weakE (pe_mayLock h) fun σ H Q ⟨w, t, eH, ok, en, p⟩ => by
  refine ⟨w, t, eH, ok, en, OPost.bind p fun x w1 v1 a1 r1 p1 => ?_⟩
  split at p1
  · rename_i i
    split at p1
    · rename_i d hd
      obtain ⟨a, ha, ev⟩ := (show ∃ a, w1.m[i]? = some a ∧ v1 = .ref a from r1)
      obtain ⟨c1, c2⟩ := a1.ok.cell i a d ha hd
      have fz : ∀ u b x, w1.F b = some x → upd w1.F a u b = some x := fun u b x h => by rw [upd_ne (ne_of_none h c1)]; exact h
      subst ev
      cases d with
      | lst ds =>
        obtain ⟨xs, q, r⟩ := c2
        have z := a1.ok.freeze ha hd (.lst xs)
        refine .inl ?_
        have z2 := p1 ⟨upd w1.H a (.lst xs), upd w1.F a (.lst xs), w1.m, w1.S.set i none⟩ (.ref a) z rfl ⟨a, xs, rfl, upd_same, Reps.mono (fz _) (fun _ _ h => h) _ _ r⟩
        have z3 : Q (.ref a) (upd w1.H a (.lst xs)) := z2
        rw [upd_self q] at z3
        exact z3
      | obj c ns vs =>
        obtain ⟨dx, es, q, e, r⟩ := c2
        have z := a1.ok.freeze ha hd (.ins (cl c) dx es)
        refine .inl ?_
        have z2 := p1 ⟨upd w1.H a (.ins (cl c) dx es), upd w1.F a (.ins (cl c) dx es), w1.m, w1.S.set i none⟩ (.ref a) z rfl ⟨a, dx, es, rfl, upd_same, e, Reps.mono (fz _) (fun _ _ h => h) _ _ r⟩
        have z3 : Q (.ref a) (upd w1.H a (.ins (cl c) dx es)) := z2
        rw [upd_self q] at z3
        exact z3
      | dic ks vs =>
        obtain ⟨es, q, r, r'⟩ := c2
        refine .inr ⟨a, _, rfl, q, True.intro, fun od => ?_⟩
        have z := a1.ok.freeze ha hd (.frz od (.dK es))
        exact p1 ⟨upd w1.H a (.frz od (.dK es)), upd w1.F a (.frz od (.dK es)), w1.m, w1.S.set i none⟩ (.ref a) z rfl ⟨a, _, _, rfl, ⟨od, es, upd_same, rfl, rfl⟩, Reps.mono (fz _) (fun _ _ h => h) _ _ r, Reps.mono (fz _) (fun _ _ h => h) _ _ r'⟩
      | _ => exact c2.elim
    · exact p1.elim
  · exact p1.elim
end
end Dl
set_option Elab.async false
set_option linter.all false
set_option maxRecDepth 100000
set_option maxHeartbeats 4000000
/-! The data layer: calls of own defs. -/
namespace Dl
open PySem L2

/-! ### which things data speak of -/
mutual
def below (n : Nat) : D → Bool
  | .non => true
  | .bl _ => true
  | .int _ => true
  | .str _ => true
  | .ptr i => decide (i < n)
  | .tup ds => belows n ds
  | .lst ds => belows n ds
  | .rol ds => belows n ds
  | .dic ks vs => belows n ks && belows n vs
  | .obj _ _ vs => belows n vs
def belows (n : Nat) : List D → Bool
  | [] => true
  | d :: ds => below n d && belows n ds
end
section
variable {K : PySem.W.Frag} {cl : Nat → Addr} {H : Hp} {m m' : List Addr} {n : Nat}
mutual
theorem Rep.cut (hm : ∀ (i : Nat) (a : Addr), i < n → m[i]? = some a → m'[i]? = some a) : ∀ (d : D) (v : V), below n d = true → Rep K cl H m d v → Rep K cl H m' d v
  | .non, v, _, x => x
  | .bl b, v, _, x => x
  | .int i, v, _, x => x
  | .str y, v, _, x => x
  | .ptr i, v, h, ⟨a, e, r⟩ => ⟨a, hm i a (by simpa [below] using h) e, r⟩
  | .tup ds, v, h, ⟨a, xs, e, t, r⟩ => ⟨a, xs, e, t, Reps.cut hm ds xs (by simpa [below] using h) r⟩
  | .lst ds, v, h, ⟨a, xs, e, t, r⟩ => ⟨a, xs, e, t, Reps.cut hm ds xs (by simpa [below] using h) r⟩
  | .rol ds, v, h, ⟨a, xs, e, t, r⟩ => ⟨a, xs, e, t, Reps.cut hm ds xs (by simpa [below] using h) r⟩
  | .dic ks vs, v, h, ⟨a, xs, ys, e, t, r, q⟩ => ⟨a, xs, ys, e, t, Reps.cut hm ks xs (by simp [below] at h; exact h.1) r, Reps.cut hm vs ys (by simp [below] at h; exact h.2) q⟩
  | .obj c ns vs, v, h, ⟨a, dx, es, e, t, r, q⟩ => ⟨a, dx, es, e, t, r, Reps.cut hm vs _ (by simpa [below] using h) q⟩
theorem Reps.cut (hm : ∀ (i : Nat) (a : Addr), i < n → m[i]? = some a → m'[i]? = some a) : ∀ (ds : List D) (vs : List V), belows n ds = true → Reps K cl H m ds vs → Reps K cl H m' ds vs
  | [], xs, _, x => x
  | d :: ds, xs, h, ⟨v, vs, e, r, q⟩ => ⟨v, vs, e, Rep.cut hm d v (by simp [belows] at h; exact h.1) r, Reps.cut hm ds vs (by simp [belows] at h; exact h.2) q⟩
end
theorem CellAt.cut {F : Hp} {a : Addr} {d : D} (hm : ∀ (i : Nat) (a : Addr), i < n → m[i]? = some a → m'[i]? = some a) (h : below n d = true) (x : CellAt K cl H F m a d) : CellAt K cl H F m' a d := by
  cases d with
  | lst ds => obtain ⟨xs, q, r⟩ := x; exact ⟨xs, q, Reps.cut hm _ _ (by simpa [below] using h) r⟩
  | dic ks vs =>
    obtain ⟨xs, q, r, r'⟩ := x
    have h' : belows n ks = true ∧ belows n vs = true := by simpa [below] using h
    exact ⟨xs, q, Reps.cut hm _ _ h'.1 r, Reps.cut hm _ _ h'.2 r'⟩
  | obj c ns vs => obtain ⟨dx, es, q, r, r'⟩ := x; exact ⟨dx, es, q, r, Reps.cut hm _ _ (by simpa [below] using h) r'⟩
  | _ => exact x
end

/-! ### a def's promise -/
abbrev DF := List D → Sto → Out D
def spD (K : PySem.W.Frag) (cl : Nat → Addr) (n : Nat) (f : DF) : Sp := fun vs H Q E => vs.length = n ∧ ∃ w ds, w.H = H ∧ w.Ok K cl ∧ RL K cl w ds vs ∧ OPost K cl (RV K cl) E w Q (f ds w.S)

/-! ### how a callee gets the changeable things -/
/-- all of them, and leaves new ones -/
def viaK (f : DF) : DF := f
/-- none: what it makes is dropped -/
def viaP (f : DF) : DF := fun xs S => if belows 0 xs = true then (match f xs [] with
  | .ok r _ => if below 0 r = true then .ok r S else .bad
  | .exc c ns vs _ => if belows 0 vs = true then .exc c ns vs S else .bad
  | .bad => .bad) else .bad
/-- the one that its first argument is -/
def viaR (f : DF) : DF := fun xs S => match xs with
  | .ptr i :: r => match S[i]? with
    | some (some c) => if below 0 c = true ∧ belows 0 r = true then (match f (.ptr 0 :: r) [some c] with
      | .ok z (some c' :: _) => if below 0 z = true ∧ below 0 c' = true then .ok z (S.set i (some c')) else .bad
      | .exc k ns vs (some c' :: _) => if belows 0 vs = true ∧ below 0 c' = true then .exc k ns vs (S.set i (some c')) else .bad
      | _ => .bad) else .bad
    | _ => .bad
  | _ => .bad
def cellsBelow (n : Nat) (S : Sto) : Bool := S.all fun c => match c with | some d => below n d | none => true
/-- all of them; new ones are dropped -/
def viaT (f : DF) : DF := fun xs S => match f xs S with
  | .ok r S' => if below S.length r = true ∧ cellsBelow S.length (S'.take S.length) = true then .ok r (S'.take S.length) else .bad
  | .exc c ns vs S' => if belows S.length vs = true ∧ cellsBelow S.length (S'.take S.length) = true then .exc c ns vs (S'.take S.length) else .bad
  | .bad => .bad

section
variable {K : PySem.W.Frag} {cl : Nat → Addr} {w w2 : Wd}
/-- a callee that knew none of the changeable things -/
theorem Af.priv (ok : w.Ok K cl) (x : Af K cl ⟨w.H, w.F, [], []⟩ w2) : Af K cl w ⟨w2.H, w2.F, w.m, w.S⟩ where
  ok := ⟨ok.len, x.ok.sub, fun i a d h1 h2 => by
    obtain ⟨c1, c2⟩ := ok.cell i a d h1 h2
    obtain ⟨u, hu⟩ := c2.there
    have nl : ¬ Live ⟨w.H, w.F, [], []⟩ a := fun ⟨j, e, q, _⟩ => by simp at q
    refine ⟨?_, c2.of ((x.keep a u hu nl).trans hu.symm) x.fz fun _ _ h => h⟩
    cases q : w2.F a with
    | none => rfl
    | some o =>
      rcases x.new a o q with z | z | z
      · have z' : w.F a = some o := z
        rw [c1] at z'; cases z'
      · have z' : w.H a = none := z
        rw [hu] at z'; cases z'
      · exact (nl z).elim, ok.inj⟩
  fz := x.fz
  mu := fun _ _ h => h
  keep := fun a o h _ => x.keep a o h fun ⟨j, e, q, _⟩ => by simp at q
  new := fun a o h => by
    rcases x.new a o h with z | z | ⟨j, e, q, _⟩
    · exact .inl z
    · exact .inr (.inl z)
    · simp at q
  liv := fun a h => .inl h
theorem Wd.Ok.bare (ok : w.Ok K cl) : Wd.Ok K cl ⟨w.H, w.F, [], []⟩ := ⟨rfl, ok.sub, fun i a d h => by simp at h, fun i j a d e h => by simp at h⟩
theorem ExcAt.cut {d : Option Addr} {ns : List Str} {vs : List D} {n : Nat} {m' : List Addr} (hm : ∀ (i : Nat) (a : Addr), i < n → w.m[i]? = some a → m'[i]? = some a) (h : belows n vs = true) (x : ExcAt K cl w d ns vs) : ExcAt K cl ⟨w.H, w.F, m', w2.S⟩ d ns vs := by
  rcases x with e | ⟨a, es, e1, e2, e3, r⟩
  · exact .inl e
  · exact .inr ⟨a, es, e1, e2, e3, Reps.cut hm _ _ h r⟩
theorem via_p {f : DF} {xs : List D} {vs : List V} {W : XK} {Q : VK} (ok : w.Ok K cl) (r : RL K cl w xs vs) (p : OPost K cl (RV K cl) W w Q (viaP f xs w.S)) : spD K cl vs.length f vs w.H Q W := by
  unfold viaP at p
  split at p
  · rename_i hb
    refine ⟨rfl, ⟨w.H, w.F, [], []⟩, xs, rfl, ok.bare, Reps.cut (n := 0) (fun i a h _ => absurd h (Nat.not_lt_zero i)) _ _ hb r, ?_⟩
    show OPost K cl (RV K cl) W ⟨w.H, w.F, [], []⟩ Q (f xs [])
    split at p
    · rename_i z S2 e
      rw [e]
      split at p
      · rename_i hz
        intro w2 b x _ rz
        exact p ⟨w2.H, w2.F, w.m, w.S⟩ b (.priv ok x) rfl (Rep.cut (n := 0) (fun i a h _ => absurd h (Nat.not_lt_zero i)) _ _ hz rz)
      · exact p.elim
    · rename_i c ns us S2 e
      rw [e]
      split at p
      · rename_i hz
        intro w2 d x _ rz
        exact p ⟨w2.H, w2.F, w.m, w.S⟩ d (.priv ok x) rfl (ExcAt.cut (w2 := w) (n := 0) (fun i a h _ => absurd h (Nat.not_lt_zero i)) hz rz)
      · exact p.elim
    · exact p.elim
  · exact p.elim
theorem via_k {f : DF} {xs : List D} {vs : List V} {W : XK} {Q : VK} (ok : w.Ok K cl) (r : RL K cl w xs vs) (p : OPost K cl (RV K cl) W w Q (viaK f xs w.S)) : spD K cl vs.length f vs w.H Q W := ⟨rfl, w, xs, rfl, ok, r, p⟩
/-- a callee that knew one of the changeable things -/
theorem Af.recv {i : Nat} {a : Addr} {c c' : D} {T : Sto} (ok : w.Ok K cl) (hi : w.m[i]? = some a) (hc : w.S[i]? = some (some c)) (x : Af K cl ⟨w.H, w.F, [a], [some c]⟩ w2) (e2 : w2.S = some c' :: T) (hb : below 0 c' = true) : Af K cl w ⟨w2.H, w2.F, w.m, w.S.set i (some c')⟩ := by
  have m2 : w2.m[0]? = some a := x.mu 0 a rfl
  have s2 : w2.S[0]? = some (some c') := by rw [e2]; rfl
  obtain ⟨f2, c2⟩ := x.ok.cell 0 a c' m2 s2
  have liv0 : ∀ b, Live ⟨w.H, w.F, [a], [some c]⟩ b ↔ b = a := fun b => ⟨fun ⟨j, e, q1, q2⟩ => by
    cases j with
    | zero => simp at q1; exact q1.symm
    | succ j => simp at q1, fun e => ⟨0, c, by rw [e]; rfl, rfl⟩⟩
  refine ⟨⟨?_, x.ok.sub, fun j b d h1 h2 => ?_, fun j k b d e h1 h2 h3 h4 => ?_⟩, x.fz, fun _ _ h => h, fun b o h n => x.keep b o h fun l => n ((liv0 b).mp l ▸ ⟨i, c, hi, hc⟩), fun b o h => ?_, fun b ⟨j, d, h1, h2⟩ => ?_⟩
  · show w.m.length = (w.S.set i _).length
    rw [List.length_set]; exact ok.len
  · have q2 : (w.S.set i (some c'))[j]? = some (some d) := h2
    by_cases hj : i = j
    · subst hj
      rw [List.getElem?_set_self (List.getElem?_eq_some_iff.mp hc).1] at q2
      cases q2
      have e : a = b := Option.some.inj (hi.symm.trans h1)
      subst e
      exact ⟨f2, c2.cut (n := 0) (fun i a h _ => absurd h (Nat.not_lt_zero i)) hb⟩
    · rw [List.getElem?_set_ne hj] at q2
      obtain ⟨c3, c4⟩ := ok.cell j b d h1 q2
      obtain ⟨u, hu⟩ := c4.there
      have n : b ≠ a := fun z => hj (ok.inj i j a c d hi (by rw [← z]; exact h1) hc q2)
      have nl : ¬ Live ⟨w.H, w.F, [a], [some c]⟩ b := fun l => n ((liv0 b).mp l)
      refine ⟨?_, c4.of ((x.keep b u hu nl).trans hu.symm) x.fz fun _ _ h => h⟩
      cases q : w2.F b with
      | none => rfl
      | some o =>
        rcases x.new b o q with z | z | z
        · have z' : w.F b = some o := z
          rw [c3] at z'; cases z'
        · have z' : w.H b = none := z
          rw [hu] at z'; cases z'
        · exact (nl z).elim
  · have lv : ∀ k (e : D), (w.S.set i (some c'))[k]? = some (some e) → ∃ e', w.S[k]? = some (some e') := fun k e r => by
      by_cases hk : i = k
      · subst hk; exact ⟨c, hc⟩
      · rw [List.getElem?_set_ne hk] at r; exact ⟨e, r⟩
    obtain ⟨e1, r1⟩ := lv j d h3
    obtain ⟨e2, r2⟩ := lv k e h4
    exact ok.inj j k b e1 e2 h1 h2 r1 r2
  · rcases x.new b o h with z | z | z
    · exact .inl z
    · exact .inr (.inl z)
    · exact .inr (.inr ((liv0 b).mp z ▸ ⟨i, c, hi, hc⟩))
  · have q2 : (w.S.set i (some c'))[j]? = some (some d) := h2
    by_cases hj : i = j
    · subst hj; exact .inl ⟨i, c, h1, hc⟩
    · rw [List.getElem?_set_ne hj] at q2; exact .inl ⟨j, d, h1, q2⟩
theorem Wd.Ok.sole {i : Nat} {a : Addr} {c : D} (ok : w.Ok K cl) (hi : w.m[i]? = some a) (hc : w.S[i]? = some (some c)) (hb : below 0 c = true) : Wd.Ok K cl ⟨w.H, w.F, [a], [some c]⟩ := by
  obtain ⟨c1, c2⟩ := ok.cell i a c hi hc
  refine ⟨rfl, ok.sub, fun j b d h1 h2 => ?_, fun j k b d e h1 h2 h3 h4 => ?_⟩
  · cases j with
    | zero =>
      simp at h1 h2
      subst h1; subst h2
      exact ⟨c1, c2.cut (n := 0) (fun i a h _ => absurd h (Nat.not_lt_zero i)) hb⟩
    | succ j => simp at h1
  · cases j with
    | zero =>
      cases k with
      | zero => rfl
      | succ k => simp at h2
    | succ j => simp at h1
theorem via_r {f : DF} {xs : List D} {vs : List V} {W : XK} {Q : VK} (ok : w.Ok K cl) (r : RL K cl w xs vs) (p : OPost K cl (RV K cl) W w Q (viaR f xs w.S)) : spD K cl vs.length f vs w.H Q W := by
  unfold viaR at p
  split at p
  · rename_i i rs
    split at p
    · rename_i c hc
      split at p
      · rename_i hb
        obtain ⟨v0, vr, ev, ⟨a, hi, e0⟩, rr⟩ := r
        subst e0
        subst ev
        refine ⟨rfl, ⟨w.H, w.F, [a], [some c]⟩, .ptr 0 :: rs, rfl, ok.sole hi hc hb.1, ⟨_, vr, rfl, ⟨a, rfl, rfl⟩, Reps.cut (n := 0) (fun i a h _ => absurd h (Nat.not_lt_zero i)) _ _ hb.2 rr⟩, ?_⟩
        show OPost K cl (RV K cl) W ⟨w.H, w.F, [a], [some c]⟩ Q (f (.ptr 0 :: rs) [some c])
        split at p
        · rename_i z c' T e
          rw [e]
          split at p
          · rename_i hz
            intro w2 b x e2 rz
            exact p ⟨w2.H, w2.F, w.m, _⟩ b (.recv ok hi hc x e2 hz.2) rfl (Rep.cut (n := 0) (fun i a h _ => absurd h (Nat.not_lt_zero i)) _ _ hz.1 rz)
          · exact p.elim
        · rename_i k ns us c' T e
          rw [e]
          split at p
          · rename_i hz
            intro w2 d x e2 rz
            exact p ⟨w2.H, w2.F, w.m, _⟩ d (.recv ok hi hc x e2 hz.2) rfl (ExcAt.cut (w2 := ⟨w2.H, w2.F, w.m, w.S.set i (some c')⟩) (n := 0) (fun i a h _ => absurd h (Nat.not_lt_zero i)) hz.1 rz)
          · exact p.elim
        · exact p.elim
      · exact p.elim
    · exact p.elim
  · exact p.elim
/-- new changeable things are forgotten -/
theorem Af.trim (ok : w.Ok K cl) (x : Af K cl w w2) (hb : cellsBelow w.S.length (w2.S.take w.S.length) = true) : Af K cl w ⟨w2.H, w2.F, w.m, w2.S.take w.S.length⟩ := by
  have pre : ∀ (i : Nat) (a : Addr), i < w.S.length → w2.m[i]? = some a → w.m[i]? = some a := fun i a hi h => by
    rw [← ok.len] at hi
    have q := x.mu i _ (List.getElem?_eq_getElem hi)
    rw [h] at q
    rw [List.getElem?_eq_getElem hi]
    exact q.symm
  have tk : ∀ (j : Nat) (d : D), (w2.S.take w.S.length)[j]? = some (some d) → j < w.S.length ∧ w2.S[j]? = some (some d) ∧ below w.S.length d = true := fun j d h => by
    have hm := List.mem_of_getElem? h
    have hj : j < w.S.length := by
      have := (List.getElem?_eq_some_iff.mp h).1
      rw [List.length_take] at this
      omega
    rw [List.getElem?_take_of_lt hj] at h
    exact ⟨hj, h, by have := List.all_eq_true.mp hb _ hm; simpa using this⟩
  refine ⟨⟨?_, x.ok.sub, fun j b d h1 h2 => ?_, fun j k b d e h1 h2 h3 h4 => ?_⟩, x.fz, fun _ _ h => h, x.keep, x.new, fun b ⟨j, d, h1, h2⟩ => ?_⟩
  · show w.m.length = (w2.S.take w.S.length).length
    rw [List.length_take, ← x.ok.len, ok.len]
    have : w.S.length ≤ w2.m.length := by
      rw [← ok.len]
      cases hz : w.m.length with
      | zero => exact Nat.zero_le _
      | succ k =>
        have q := x.mu k _ (List.getElem?_eq_getElem (by omega))
        have := (List.getElem?_eq_some_iff.mp q).1
        omega
    omega
  · obtain ⟨hj, q2, hd⟩ := tk j d h2
    obtain ⟨c1, c2⟩ := x.ok.cell j b d (x.mu j b h1) q2
    exact ⟨c1, c2.cut pre hd⟩
  · exact x.ok.inj j k b d e (x.mu j b h1) (x.mu k b h2) (tk j d h3).2.1 (tk k e h4).2.1
  · exact x.liv b ⟨j, d, x.mu j b h1, (tk j d h2).2.1⟩
theorem via_t {f : DF} {xs : List D} {vs : List V} {W : XK} {Q : VK} (ok : w.Ok K cl) (r : RL K cl w xs vs) (p : OPost K cl (RV K cl) W w Q (viaT f xs w.S)) : spD K cl vs.length f vs w.H Q W := by
  refine ⟨rfl, w, xs, rfl, ok, r, ?_⟩
  have pre : ∀ {w2 : Wd}, Af K cl w w2 → ∀ (i : Nat) (a : Addr), i < w.S.length → w2.m[i]? = some a → w.m[i]? = some a := fun {w2} x i a hi h => by
    rw [← ok.len] at hi
    have q := x.mu i _ (List.getElem?_eq_getElem hi)
    rw [h] at q
    rw [List.getElem?_eq_getElem hi]
    exact q.symm
  unfold viaT at p
  split at p
  · rename_i z S2 e
    rw [e]
    split at p
    · rename_i hz
      intro w2 b x e2 rz
      subst e2
      exact p ⟨w2.H, w2.F, w.m, w2.S.take w.S.length⟩ b (.trim ok x hz.2) rfl (Rep.cut (pre x) _ _ hz.1 rz)
    · exact p.elim
  · rename_i c ns us S2 e
    rw [e]
    split at p
    · rename_i hz
      intro w2 d x e2 rz
      subst e2
      exact p ⟨w2.H, w2.F, w.m, w2.S.take w.S.length⟩ d (.trim ok x hz.2) rfl (ExcAt.cut (w2 := ⟨w2.H, w2.F, w.m, w2.S.take w.S.length⟩) (pre x) hz.1 rz)
    · exact p.elim
  · exact p.elim
end

/-- a way to call -/
def Via (g : DF → DF) : Prop := ∀ (K : PySem.W.Frag) (cl : Nat → Addr) (w : Wd) (f : DF) (xs : List D) (vs : List V) (W : XK) (Q : VK), w.Ok K cl → RL K cl w xs vs → OPost K cl (RV K cl) W w Q (g f xs w.S) → spD K cl vs.length f vs w.H Q W
theorem isP : Via viaP := fun _ _ _ _ _ _ _ _ => via_p
theorem isK : Via viaK := fun _ _ _ _ _ _ _ _ => via_k
theorem isR : Via viaR := fun _ _ _ _ _ _ _ _ => via_r
theorem isT : Via viaT := fun _ _ _ _ _ _ _ _ => via_t

section
variable {X : Cx} {cl : Nat → Addr} {W : WX} {k : Nat} {f C : Addr} {fd : FuncData} {ps : List Str} {x m : Str} {p pos apos : Pos} {e o : Expr} {es : List Expr} {da : DA} {dx : DE} {n c : Nat} {g : DF → DF} {h : DF}
/-- a def of the text that does what h says -/
abbrev FnD (X : Cx) (cl : Nat → Addr) (k : Nat) (f : Addr) (fd : FuncData) (ps : List Str) (h : DF) : Prop := FnOk X.prog X.w X.K X.mg X.base (L2.CX X.prog X.w) k f fd ps (spD X.K cl ps.length h)
def dCall (n : Nat) (h : DF) (da : DA) : DE := fun t S => (da t S).bind fun xs S1 => if xs.length = n then h xs S1 else .bad
theorem le_call (hv : Via g) {σ : L2.St} {H : Hp} {Q : VK} (q : upE X.K cl W (dCall n (g h) da) σ H Q) : tCallS (spD X.K cl n h) (WE W) (upA X.K cl W da) σ H Q := by
  obtain ⟨w, t, eH, ok, en, p⟩ := q
  refine ⟨w, t, eH, ok, en, OPost.bind p fun xs w1 vs a1 r1 p1 => ?_⟩
  split at p1
  · rename_i hl
    have z := hv X.K cl w1 h xs vs _ Q a1.ok r1 p1
    rw [← Reps.length r1, hl] at z
    exact z
  · exact p1.elim
theorem pe_callS0 {CX : CXT} {sp : Sp} {E : L2.St → XK} (F : FnOk X.prog X.w X.K X.mg X.base CX k f fd ps sp) (hr : Room k X.A) (hg : Gl X x) (hm : X.mg x = some (.ref f)) (hk : PySem.W.keepIn X.K (.ref f) = true) (hb : Binds X.K fd ps []) (hx : ∀ σ, PassesAt CX X σ (E σ))
    (hdb : (x == ("__debug__" : Str)) = false := by decide) : PE X (.Call (.Name x p) [] [] pos) (tCallS sp E tNil) := by
  refine ⟨fun pins s σ H Q I h => ?_⟩
  refine wpAny_Call_Name_kw (ld_glob I hg hm ?_ hdb)
  exact PySem.W.callWith_K0 I.kIn hk (run_fnS (us := []) F hr hb (hx σ) I .nil h)
/-- f(..) -/
theorem u_call (hv : Via g) (F : FnD X cl k f fd ps h) (hr : Room k X.A) (tk : Takes X W) (hg : Gl X x) (hm : X.mg x = some (.ref f)) (hk : PySem.W.keepIn X.K (.ref f) = true) (hb : Binds X.K fd ps []) (ha : UA X cl W (e :: es) da)
    (hdb : (x == ("__debug__" : Str)) = false := by decide) (he : starEach (e :: es) X.env = (false, eval e X.env) :: starEach es X.env := by rfl) (hpl : (backTo pos (starEach es X.env)).any (·.1) = false := by rfl) :
    UE X cl W (.Call (.Name x p) (e :: es) [] pos) (dCall ps.length (g h) da) :=
  weakE (pe_callS F hr hg hm hk hb (fun σ => passAt tk σ) ha hdb he hpl) fun _ _ _ q => le_call hv q
theorem u_call0 (hv : Via g) (F : FnD X cl k f fd ps h) (hr : Room k X.A) (tk : Takes X W) (hg : Gl X x) (hm : X.mg x = some (.ref f)) (hk : PySem.W.keepIn X.K (.ref f) = true) (hb : Binds X.K fd ps [])
    (hdb : (x == ("__debug__" : Str)) = false := by decide) : UE X cl W (.Call (.Name x p) [] [] pos) (dCall ps.length (g h) aNil) :=
  weakE (pe_callS0 F hr hg hm hk hb (fun σ => passAt tk σ) hdb) fun σ H Q q => by
    obtain ⟨w, t, eH, ok, en, p⟩ := le_call (da := aNil) hv q
    exact eH ▸ p w [] (Af.refl ok) rfl rfl

/-! methods -/
/-- the class and the attributes of an object -/
def objOf (d : D) (S : Sto) : Option (Nat × List Str × List D) := match d with
  | .obj c ns vs => some (c, ns, vs)
  | .ptr i => match S[i]? with
    | some (some (.obj c ns vs)) => some (c, ns, vs)
    | _ => none
  | _ => none
theorem objOf_at {K : PySem.W.Frag} {w : Wd} {d : D} {v : V} {c : Nat} {ns : List Str} {vs : List D} (ok : w.Ok K cl) (r : RV K cl w d v) (e : objOf d w.S = some (c, ns, vs)) :
    ∃ a dx es, v = .ref a ∧ w.H a = some (.ins (cl c) dx es) ∧ es.map (·.1) = ns ∧ Reps K cl w.F w.m vs (es.map (·.2)) := by
  unfold objOf at e
  split at e
  · cases e
    obtain ⟨a, dx, es, ev, ea, q, r⟩ := r
    refine ⟨a, dx, es, ev, ?_, q, r⟩
    exact ok.sub a _ ea
  · rename_i i
    split at e
    · rename_i hi
      cases e
      obtain ⟨a, ea, ev⟩ := r
      obtain ⟨_, dx, es, c1, c2, c3⟩ := ok.cell i a _ ea hi
      exact ⟨a, dx, es, ev, c1, c2, c3⟩
    · cases e
  · cases e
theorem lookup_none {es : List (Str × V)} {m : Str} (h : (es.map (·.1)).contains m = false) : es.lookup m = none := by
  induction es with
  | nil => rfl
  | cons p es ih =>
    rw [List.map_cons, List.contains_cons] at h
    have h' : (m == p.1) = false ∧ (es.map (·.1)).contains m = false := by simpa using h
    obtain ⟨a, b⟩ := p
    simp only [List.lookup, h'.1]
    exact ih h'.2
def tMethX (C : Addr) (m : Str) (sp : Sp) (E : L2.St → XK) (ta : TE) (t : TA) : TE := fun σ H Q => ta σ H fun x H1 => ∃ a dx fs, x = .ref a ∧ H1 a = some (.ins C dx fs) ∧ fs.lookup m = none ∧
  t σ H1 fun vs H2 => sp (x :: vs) H2 Q (E σ)
theorem pe_methX {CX : CXT} {sp : Sp} {E : L2.St → XK} {ta : TE} {t : TA} {pl : Sem Bool} (he : PE X o ta) (c : Cls X.K C) (hm : Meth X.K C m f) (F : FnOk X.prog X.w X.K X.mg X.base CX k f fd ps sp) (hr : Room k X.A) (hb : Binds X.K fd ps []) (hx : ∀ σ, PassesAt CX X σ (E σ)) (ha : PA X (e :: es) t)
    (hst : starEach (e :: es) X.env = (false, eval e X.env) :: starEach es X.env := by rfl) (hpl : (backTo pos (starEach es X.env)).any (·.1) = false := by rfl)
    (ht : eval (.Call (.Attribute o m apos) (e :: es) [] pos) X.env = (do
      let ov ← eval o X.env
      standAt apos.atName
      let (f, first) ← holding [ov] (getMethod ov m pl)
      callWith pos f first (backTo pos (starEach (e :: es) X.env)) (backToKw pos (keywordEach [] X.env))) := by rfl) :
    PE X (.Call (.Attribute o m apos) (e :: es) [] pos) (tMethX C m sp E ta t) := by
  refine ⟨fun pins s σ H Q I h => ?_⟩
  refine PySem.W.methodCall_KW (pl := pl) (thn (he.run pins s σ H _ I h) fun u s1 ⟨x, H1, I1, rx, a, dx, fs, ex, ea, l, q⟩ => ?_) ht
  subst ex
  obtain rfl : u = Value.ref a := rx
  refine getmeth_ok I1 ea c hm l ?_
  refine PySem.W.callWith_K (first := [.ref a]) (h₀ := X.base) I.ok.mod.kin hm.kp (thn (ha.run pos pins s1 σ H1 _ I1 q) fun us s2 ⟨vs, H2, I2, r, q2⟩ => ⟨I2.kIn, ?_⟩) hst hpl
  exact run_fnS (us := .ref a :: us) (vs := .ref a :: vs) F hr hb (hx σ) I2 (.cons rfl r) q2
theorem pe_methX0 {CX : CXT} {sp : Sp} {E : L2.St → XK} {ta : TE} {pl : Sem Bool} (he : PE X o ta) (c : Cls X.K C) (hm : Meth X.K C m f) (F : FnOk X.prog X.w X.K X.mg X.base CX k f fd ps sp) (hr : Room k X.A) (hb : Binds X.K fd ps []) (hx : ∀ σ, PassesAt CX X σ (E σ))
    (ht : eval (.Call (.Attribute o m apos) [] [] pos) X.env = (do
      let ov ← eval o X.env
      standAt apos.atName
      let (f, first) ← holding [ov] (getMethod ov m pl)
      callWith pos f first (backTo pos (starEach [] X.env)) (backToKw pos (keywordEach [] X.env))) := by rfl) :
    PE X (.Call (.Attribute o m apos) [] [] pos) (tMethX C m sp E ta tNil) := by
  refine ⟨fun pins s σ H Q I h => ?_⟩
  refine PySem.W.methodCall_KW (pl := pl) (thn (he.run pins s σ H _ I h) fun u s1 ⟨x, H1, I1, rx, a, dx, fs, ex, ea, l, q⟩ => ?_) ht
  subst ex
  obtain rfl : u = Value.ref a := rx
  refine getmeth_ok I1 ea c hm l ?_
  exact PySem.W.callWith_K0 (first := [.ref a]) I1.kIn hm.kp (run_fnS (us := [.ref a]) (vs := [.ref a]) F hr hb (hx σ) I1 (.cons rfl .nil) q)
def dMeth (c : Nat) (m : Str) (n : Nat) (h : DF) (dx : DE) (da : DA) : DE := fun t S => (dx t S).bind fun x S1 => match objOf x S1 with
  | some (c', ns, _) => if c' = c ∧ ns.contains m = false then (da t S1).bind fun xs S2 => if xs.length + 1 = n then h (x :: xs) S2 else .bad else .bad
  | none => .bad
theorem le_meth (hv : Via g) {σ : L2.St} {H : Hp} {Q : VK} (q : upE X.K cl W (dMeth c m n (g h) dx da) σ H Q) : tMethX (cl c) m (spD X.K cl n h) (WE W) (upE X.K cl W dx) (upA X.K cl W da) σ H Q := by
  obtain ⟨w, t, eH, ok, en, p⟩ := q
  refine ⟨w, t, eH, ok, en, OPost.bind p fun x w1 v a1 r1 p1 => ?_⟩
  split at p1
  · rename_i c' ns vs ho
    split at p1
    · rename_i hc
      obtain ⟨rfl, hn⟩ := hc
      obtain ⟨a, dx', es, ev, ea, e1, e2⟩ := objOf_at a1.ok r1 ho
      refine ⟨a, dx', es, ev, ea, lookup_none (by rw [e1]; exact hn), w1, t, rfl, a1.ok, en.af a1, OPost.bind p1 fun xs w2 ys a2 r2 p2 => ?_⟩
      split at p2
      · rename_i hl
        have z := hv X.K cl w2 h (x :: xs) (v :: ys) _ Q a2.ok ⟨v, ys, rfl, Rep.af a2 r1, r2⟩ p2
        rw [show (v :: ys).length = n by rw [List.length_cons, ← Reps.length r2]; exact hl] at z
        exact z
      · exact p2.elim
    · exact p1.elim
  · exact p1.elim
/-- o.m(..) -/
theorem u_meth {pl : Sem Bool} (hv : Via g) (F : FnD X cl k f fd ps h) (hr : Room k X.A) (tk : Takes X W) (ck : Cls X.K (cl c)) (hm : Meth X.K (cl c) m f) (hb : Binds X.K fd ps []) (ho : UE X cl W o dx) (ha : UA X cl W (e :: es) da)
    (hst : starEach (e :: es) X.env = (false, eval e X.env) :: starEach es X.env := by rfl) (hpl : (backTo pos (starEach es X.env)).any (·.1) = false := by rfl)
    (ht : eval (.Call (.Attribute o m apos) (e :: es) [] pos) X.env = (do
      let ov ← eval o X.env
      standAt apos.atName
      let (f, first) ← holding [ov] (getMethod ov m pl)
      callWith pos f first (backTo pos (starEach (e :: es) X.env)) (backToKw pos (keywordEach [] X.env))) := by rfl) :
    UE X cl W (.Call (.Attribute o m apos) (e :: es) [] pos) (dMeth c m ps.length (g h) dx da) :=
  weakE (pe_methX ho ck hm F hr hb (fun σ => passAt tk σ) ha hst hpl ht) fun _ _ _ q => le_meth hv q
theorem u_meth0 {pl : Sem Bool} (hv : Via g) (F : FnD X cl k f fd ps h) (hr : Room k X.A) (tk : Takes X W) (ck : Cls X.K (cl c)) (hm : Meth X.K (cl c) m f) (hb : Binds X.K fd ps []) (ho : UE X cl W o dx)
    (ht : eval (.Call (.Attribute o m apos) [] [] pos) X.env = (do
      let ov ← eval o X.env
      standAt apos.atName
      let (f, first) ← holding [ov] (getMethod ov m pl)
      callWith pos f first (backTo pos (starEach [] X.env)) (backToKw pos (keywordEach [] X.env))) := by rfl) :
    UE X cl W (.Call (.Attribute o m apos) [] [] pos) (dMeth c m ps.length (g h) dx aNil) :=
  weakE (pe_methX0 ho ck hm F hr hb (fun σ => passAt tk σ) ht) fun σ H Q q => by
    obtain ⟨w, t, eH, ok, en, p⟩ := le_meth (da := aNil) hv q
    refine ⟨w, t, eH, ok, en, OPost.mono p fun v H1 ⟨a, dx', fs, h1, h2, h3, h4⟩ => ⟨a, dx', fs, h1, h2, h3, ?_⟩⟩
    obtain ⟨w1, t1, eH1, ok1, en1, p1⟩ := h4
    exact eH1 ▸ p1 w1 [] (Af.refl ok1) rfl rfl

/-! a new object -/
def tMakeX (C : Addr) (sp : Sp) (E : L2.St → XK) (t : TA) : TE := fun σ H Q => t σ H fun vs H1 => ∀ x dx, H1 x = none → H1 dx = none → dx ≠ x →
  sp (.ref x :: vs) (upd (upd H1 dx (.own x)) x (.ins C dx [])) (fun v H2 => v = .non ∧ Q (.ref x) H2) (E σ)
theorem run_makeX {CX : CXT} {sp : Sp} {E : L2.St → XK} {pins : List (Addr × Obj)} {σ : L2.St} {H : Hp} {s : Shared} {Q : VK} {us : List Value} {vs : List V} (M : Mk X.K C f) (F : FnOk X.prog X.w X.K X.mg X.base CX k f fd ps sp) (hr : Room (k + 1) X.A) (hb : Binds X.K fd ps [])
    (hx : PassesAt CX X σ (E σ)) (I : Inv X pins σ H s) (r : Vals vs us)
    (h : ∀ x dx, H x = none → H dx = none → dx ≠ x → sp (.ref x :: vs) (upd (upd H dx (.own x)) x (.ins C dx [])) (fun v H2 => v = .non ∧ Q (.ref x) H2) (E σ)) :
    wpAny (model X.prog X.w) X.A (call (.ref C) us) (EP X pins σ Q) X.xe s := by
  have hq := h (s.heap.objs.size + 1) s.heap.objs.size (I.hok.fresh (Nat.le_succ _)) (I.hok.fresh (Nat.le_refl _)) (Nat.ne_of_lt (Nat.lt_succ_self _))
  have I2 := Inv.made (C := C) I
  have r2 : Vals (V.ref (s.heap.objs.size + 1) :: vs) (Value.ref (s.heap.objs.size + 1) :: us) := .cons rfl r
  have hl : (Value.ref (s.heap.objs.size + 1) :: us).length = ps.length := by
    have e := r2.length
    rw [F.len _ _ _ _ hq] at e
    exact e.symm
  have b := hb _ (Value.ref (s.heap.objs.size + 1) :: us) I2.kIn (by rw [List.append_nil]; exact hl)
  rw [List.append_nil] at b
  refine wpAny_call (make_map (f := f) I.kIn M.makes M.init (beq_iff_eq.mp M.fn) (codeAny_mono (F.run _ X.stack _ _ ⟨Value.ref (s.heap.objs.size + 1) :: us, []⟩ (Value.ref (s.heap.objs.size + 1) :: us) _ _ (E σ) (hr.make C us [])
    (I2.env0.make C us []) b r2 hq) fun r s' hq' => ?_))
  cases r with
  | error e => exact hx pins _ _ e s' I2 hq'
  | ok fl =>
    cases fl with
    | ret u =>
      obtain ⟨v, H', I3, rv, ev, q3⟩ := I2.after hq'
      subst ev
      exact ⟨rv, ⟨V.ref (s.heap.objs.size + 1), H', I3, rfl, q3⟩⟩
    | next => exact False.elim hq'
    | brk => exact False.elim hq'
    | cont => exact False.elim hq'
theorem pe_makeX {CX : CXT} {sp : Sp} {E : L2.St → XK} {t : TA} (M : Mk X.K C f) (F : FnOk X.prog X.w X.K X.mg X.base CX k f fd ps sp) (hr : Room (k + 1) X.A) (hg : Gl X x) (hm : X.mg x = some (.ref C)) (hb : Binds X.K fd ps []) (hx : ∀ σ, PassesAt CX X σ (E σ))
    (ha : PA X (e :: es) t) (hdb : (x == ("__debug__" : Str)) = false := by decide) (he : starEach (e :: es) X.env = (false, eval e X.env) :: starEach es X.env := by rfl) (hpl : (backTo pos (starEach es X.env)).any (·.1) = false := by rfl) :
    PE X (.Call (.Name x p) (e :: es) [] pos) (tMakeX C sp E t) := by
  refine ⟨fun pins s σ H Q I h => ?_⟩
  refine wpAny_Call_Name_kw (ld_glob I hg hm ?_ hdb)
  refine PySem.W.callWith_K (h₀ := X.base) I.ok.mod.kin M.kp (thn (ha.run pos pins s σ H _ I h) fun us s1 ⟨vs, H1, I1, r, q⟩ => ⟨I1.kIn, ?_⟩) he hpl
  exact run_makeX M F hr hb (hx σ) I1 r q
/-- C(..): the new object, still to change, then __init__; it has all changeable things. q: what is left of the object and of the others -/
def dMake (c : Nat) (n : Nat) (h : DF) (da : DA) : DE := fun t S => (da t S).bind fun xs S1 => if xs.length + 1 = n then
  (h (.ptr S1.length :: xs) (S1 ++ [some (.obj c [] [])])).bind fun z S2 => match z with
    | .non => .ok (.ptr S1.length) S2
    | _ => .bad
  else .bad
theorem u_make (M : Mk X.K (cl c) f) (F : FnD X cl k f fd ps h) (hr : Room (k + 1) X.A) (tk : Takes X W) (hg : Gl X x) (hm : X.mg x = some (.ref (cl c))) (hb : Binds X.K fd ps []) (ha : UA X cl W (e :: es) da)
    (hdb : (x == ("__debug__" : Str)) = false := by decide) (he : starEach (e :: es) X.env = (false, eval e X.env) :: starEach es X.env := by rfl) (hpl : (backTo pos (starEach es X.env)).any (·.1) = false := by rfl) :
    UE X cl W (.Call (.Name x p) (e :: es) [] pos) (dMake c ps.length h da) :=
  weakE (pe_makeX M F hr hg hm hb (fun σ => passAt tk σ) ha hdb he hpl) fun σ H Q q => by
    obtain ⟨w, t, eH, ok, en, p⟩ := q
    refine ⟨w, t, eH, ok, en, OPost.bind p fun xs w1 vs a1 r1 p1 => ?_⟩
    split at p1
    · rename_i hl
      intro y dy hy hdy nyd
      have o1 := a1.ok
      have b1 : Af X.K cl w1 ⟨upd w1.H dy (.own y), w1.F, w1.m, w1.S⟩ := o1.untold (u := .own y) hdy
      have hy1 : upd w1.H dy (.own y) y = none := by rw [upd_ne (Ne.symm nyd)]; exact hy
      have b2 : Af X.K cl ⟨upd w1.H dy (.own y), w1.F, w1.m, w1.S⟩ ⟨upd (upd w1.H dy (.own y)) y (.ins (cl c) dy []), w1.F, w1.m ++ [y], w1.S ++ [some (D.obj c [] [])]⟩ :=
        b1.ok.cellNew (u := .ins (cl c) dy []) (d := D.obj c [] []) hy1 ⟨dy, [], upd_same, rfl, rfl⟩
      have b := b1.trans b2
      have ry : Rep X.K cl w1.F (w1.m ++ [y]) (.ptr w1.S.length) (.ref y) := ⟨y, snoc_get o1.len.symm, rfl⟩
      refine ⟨by rw [List.length_cons, ← Reps.length r1]; exact hl, _, .ptr w1.S.length :: xs, rfl, b.ok, ⟨_, vs, rfl, ry, Reps.af b r1⟩, ?_⟩
      refine OPost.bind (OPost.after p1 b) fun z w2 v2 a2 r2 p2 => ?_
      split at p2
      · refine ⟨r2, p2 w2 (.ref y) (Af.refl a2.ok) rfl (Rep.af a2 ry)⟩
      · exact p2.elim
    · exact p1.elim
end
end Dl
set_option Elab.async false
set_option linter.all false
set_option maxRecDepth 100000
set_option maxHeartbeats 4000000
/-! The data layer: statements, targets, what is walked, loops, list comprehensions. -/
namespace Dl
open PySem L2

/-! ### statements -/
def SPost (K : PySem.W.Frag) (cl : Nat → Addr) (W : WX) (N : Ends) (w : Wd) : SOut → Prop
  | .nx t' S' => ∀ w' σ', Af K cl w w' → w'.S = S' → EnvR K cl w' t' σ' → N.nx σ' w'.H
  | .rt d S' => ∀ w' v, Af K cl w w' → w'.S = S' → RV K cl w' d v → N.rt v w'.H
  | .bk t' S' => ∀ w' σ', Af K cl w w' → w'.S = S' → EnvR K cl w' t' σ' → N.bk σ' w'.H
  | .ct t' S' => ∀ w' σ', Af K cl w w' → w'.S = S' → EnvR K cl w' t' σ' → N.ct σ' w'.H
  | .exc t' c ns vs S' => ∀ w' σ' d, Af K cl w w' → w'.S = S' → EnvR K cl w' t' σ' → ExcAt K cl w' d ns vs → W (.ref (cl c)) d σ' w'.H
  | .bad => False
/-- behind an expression -/
def ofE {α : Type} (o : Out α) (t : Lc) (k : α → Sto → SOut) : SOut := match o with
  | .ok d S => k d S
  | .exc c ns vs S => .exc t c ns vs S
  | .bad => .bad
section
variable {α β : Type} {K : PySem.W.Frag} {cl : Nat → Addr} {W : WX} {N : Ends} {w w1 : Wd} {t : Lc} {σ : L2.St} {R : Wd → α → β → Prop}
theorem SPost.after {o : SOut} (p : SPost K cl W N w o) (x : Af K cl w w1) : SPost K cl W N w1 o := by
  cases o with
  | nx t' S' => exact fun w' s y e r => p w' s (x.trans y) e r
  | rt t' S' => exact fun w' s y e r => p w' s (x.trans y) e r
  | bk t' S' => exact fun w' s y e r => p w' s (x.trans y) e r
  | ct t' S' => exact fun w' s y e r => p w' s (x.trans y) e r
  | exc t' c ns vs S' => exact fun w' s d y e r => p w' s d (x.trans y) e r
  | bad => exact p
theorem SPost.ofE {o : Out α} {k : α → Sto → SOut} {P : β → Hp → Prop} (p : SPost K cl W N w (Dl.ofE o t k)) (en : EnvR K cl w t σ)
    (h : ∀ a w1 b, Af K cl w w1 → R w1 a b → EnvR K cl w1 t σ → SPost K cl W N w1 (k a w1.S) → P b w1.H) : OPost K cl R (fun c d H => W c d σ H) w P o := by
  cases o with
  | ok a S =>
    intro w1 b y e r
    refine h a w1 b y r (en.af y) ?_
    rw [e]
    exact SPost.after p y
  | exc c ns vs S => exact fun w' d y e r => p w' σ d y e (en.af y) r
  | bad => exact p
end
def upS (K : PySem.W.Frag) (cl : Nat → Addr) (W : WX) (ds : DS) : TS := fun N σ H => ∃ w t, w.H = H ∧ w.Ok K cl ∧ EnvR K cl w t σ ∧ SPost K cl W N w (ds t w.S)
abbrev US (X : Cx) (cl : Nat → Addr) (W : WX) (s : Stmt) (ds : DS) : Prop := PS X s (upS X.K cl W ds)
abbrev USs (X : Cx) (cl : Nat → Addr) (W : WX) (s : List Stmt) (ds : DS) : Prop := PSs X s (upS X.K cl W ds)

def dSkip : DS := fun t S => .nx t S
def dSeq (a b : DS) : DS := fun t S => match a t S with
  | .nx t1 S1 => b t1 S1
  | o => o
def dExpr (de : DE) : DS := fun t S => ofE (de t S) t fun _ S1 => .nx t S1
def dSet (i : Nat) (de : DE) : DS := fun t S => ofE (de t S) t fun d S1 => .nx (t.set i (some d)) S1
def dRet (de : DE) : DS := fun t S => ofE (de t S) t fun d S1 => .rt d S1
def dRetN : DS := fun _ S => .rt .non S
def dIfS (dc : DB) (a b : DS) : DS := fun t S => ofE (dc t S) t fun c S1 => if c = true then a t S1 else b t S1
def dBrk : DS := fun t S => .bk t S
def dCnt : DS := fun t S => .ct t S
section
variable {X : Cx} {cl : Nat → Addr} {W : WX} {s : Stmt} {r : List Stmt} {da db : DS} {de : DE} {dc : DB} {e : Expr} {pos pos' : Pos} {a b : List Stmt}
theorem s_nil : USs X cl W [] dSkip := weakSs pss_nil fun N σ H ⟨w, t, eH, ok, en, p⟩ => eH ▸ p w σ (Af.refl ok) rfl en
theorem le_seq {N : Ends} {σ : L2.St} {H : Hp} (q : upS X.K cl W (dSeq da db) N σ H) : tSeq (upS X.K cl W da) (upS X.K cl W db) N σ H := by
  obtain ⟨w, t, eH, ok, en, p⟩ := q
  refine ⟨w, t, eH, ok, en, ?_⟩
  unfold dSeq at p
  split at p
  · rename_i t1 S1 e
    rw [e]
    intro w1 σ1 y e1 en1
    exact ⟨w1, t1, rfl, y.ok, en1, by rw [e1]; exact SPost.after p y⟩
  · rename_i o hn
    revert p hn
    generalize da t w.S = o
    intro hn p
    cases o with
    | nx t1 S1 => exact (hn t1 S1 rfl).elim
    | _ => exact p
theorem s_cons (h1 : US X cl W s da) (h2 : USs X cl W r db) : USs X cl W (s :: r) (dSeq da db) := weakSs (pss_cons h1 h2) fun _ _ _ => le_seq
theorem s_one (h1 : US X cl W s da) : USs X cl W [s] da := pss_one h1
theorem s_pass : US X cl W (.Pass pos) dSkip := weakS ps_pass fun N σ H ⟨w, t, eH, ok, en, p⟩ => eH ▸ p w σ (Af.refl ok) rfl en
theorem s_brk : US X cl W (.Break pos) dBrk := weakS ps_break fun N σ H ⟨w, t, eH, ok, en, p⟩ => eH ▸ p w σ (Af.refl ok) rfl en
theorem s_cnt : US X cl W (.Continue pos) dCnt := weakS ps_continue fun N σ H ⟨w, t, eH, ok, en, p⟩ => eH ▸ p w σ (Af.refl ok) rfl en
theorem s_expr (h : UE X cl W e de) (hs : swapsWith e none pos.line X.env = pure false := by rfl) : US X cl W (.Expr e pos) (dExpr de) := weakS (ps_expr h hs) fun N σ H ⟨w, t, eH, ok, en, p⟩ =>
  ⟨w, t, eH, ok, en, SPost.ofE p en fun d w1 v y rv en1 p1 => p1 w1 σ (Af.refl y.ok) rfl en1⟩
theorem s_set {i : Nat} {x : Str} (hN : X.N.Nodup) (hi : X.N[i]? = some x) (hx : Loc X.env.scope x) (h : UE X cl W e de) (hs : swapsWith e (some (.Name x pos')) pos.line X.env = pure false := by rfl) (hf : X.fn x = true ∨ X.env.scope.names.lookup x = some .local := by first | exact .inl rfl | exact .inr rfl | assumption) :
    US X cl W (.Assign [.Name x pos'] e pos) (dSet i de) := weakS (ps_set hN hi hx h hs hf) fun N σ H ⟨w, t, eH, ok, en, p⟩ =>
  ⟨w, t, eH, ok, en, SPost.ofE p en fun d w1 v y rv en1 p1 => p1 w1 _ (Af.refl y.ok) rfl (en1.set rv)⟩
theorem s_ret (h : UE X cl W e de) : US X cl W (.Return (some e) pos) (dRet de) := weakS (ps_ret h) fun N σ H ⟨w, t, eH, ok, en, p⟩ =>
  ⟨w, t, eH, ok, en, SPost.ofE p en fun d w1 v y rv en1 p1 => p1 w1 v (Af.refl y.ok) rfl rv⟩
theorem s_retN : US X cl W (.Return none pos) dRetN := weakS ps_retN fun N σ H ⟨w, t, eH, ok, en, p⟩ => eH ▸ p w .non (Af.refl ok) rfl rfl
theorem s_if {c : Expr} (hc : UB X cl W c dc) (ha : USs X cl W a da) (hb : USs X cl W b db) : US X cl W (.If c a b pos) (dIfS dc da db) := weakS (ps_if hc ha hb) fun N σ H ⟨w, t, eH, ok, en, p⟩ =>
  ⟨w, t, eH, ok, en, SPost.ofE p en fun d w1 v y rv en1 p1 => by
    cases (show d = v from rv)
    cases d with
    | true => exact ⟨w1, t, rfl, y.ok, en1, p1⟩
    | false => exact ⟨w1, t, rfl, y.ok, en1, p1⟩⟩
/-- code that is not come to -/
def dNever : DS := fun _ _ => .bad
theorem s_never : US X cl W s dNever := weakS ps_never fun N σ H ⟨w, t, eH, ok, en, p⟩ => p.elim
theorem ss_never : USs X cl W r dNever := weakSs pss_never fun N σ H ⟨w, t, eH, ok, en, p⟩ => p.elim

/-! while -/
def dWhile (dc : DB) (db : DS) : Nat → DS
  | 0 => fun _ _ => .bad
  | n + 1 => fun t S => ofE (dc t S) t fun c S1 => if c = true then (match db t S1 with
    | .nx t2 S2 => dWhile dc db n t2 S2
    | .ct t2 S2 => dWhile dc db n t2 S2
    | .bk t2 S2 => .nx t2 S2
    | o => o) else .nx t S1
theorem s_while {c : Expr} (n : Nat) (hp : PassesOwn (model X.prog X.w) X.A X.env X.xe) (hc : UB X cl W c dc) (hb : USs X cl W b db) : US X cl W (.While c b [] pos) (dWhile dc db n) := weakS (ps_while hp hc hb) fun N σ H q => by
  refine ⟨fun m σ H => upS X.K cl W (dWhile dc db m) N σ H, ⟨n, q⟩, ?_⟩
  rintro m σ H ⟨w, t, eH, ok, en, p⟩
  cases m with
  | zero => exact p.elim
  | succ m =>
    refine ⟨w, t, eH, ok, en, SPost.ofE p en fun d w1 v y rv en1 p1 => ?_⟩
    cases (show d = v from rv)
    cases d with
    | false => exact p1 w1 σ (Af.refl y.ok) rfl en1
    | true =>
      rw [if_pos rfl] at p1 ⊢
      refine ⟨fun σ H => upS X.K cl W (dWhile dc db m) N σ H, fun σ' H' z => ⟨m, Nat.lt_succ_self m, z⟩, w1, t, rfl, y.ok, en1, ?_⟩
      cases hq : db t w1.S with
      | nx t2 S2 =>
        rw [hq] at p1
        intro w2 σ2 y2 e2 en2
        exact ⟨w2, t2, rfl, y2.ok, en2, by rw [e2]; exact SPost.after p1 y2⟩
      | ct t2 S2 =>
        rw [hq] at p1
        intro w2 σ2 y2 e2 en2
        exact ⟨w2, t2, rfl, y2.ok, en2, by rw [e2]; exact SPost.after p1 y2⟩
      | bk t2 S2 => rw [hq] at p1; exact p1
      | rt d S2 => rw [hq] at p1; exact p1
      | exc t2 c ns vs S2 => rw [hq] at p1; exact p1
      | bad => rw [hq] at p1; exact p1
end

/-! ### targets -/
inductive Tg where
  | nm (i : Nat) | tp (is : List Nat)
def tgL : List Nat → TGs
  | [] => gNil
  | i :: r => gCons (gName i) (tgL r)
def tgT (K : PySem.W.Frag) : Tg → TG
  | .nm i => gName i
  | .tp is => gTup K is.length (tgL is)
def setAll : List Nat → List D → Lc → Lc
  | i :: r, d :: ds, t => setAll r ds (t.set i (some d))
  | _, _, t => t
def Tg.set : Tg → D → Lc → Option Lc
  | .nm i, d, t => some (t.set i (some d))
  | .tp is, .tup ds, t => if ds.length = is.length then some (setAll is ds t) else none
  | _, _, _ => none
def Tg.slots : Tg → List Nat
  | .nm i => [i]
  | .tp is => is
theorem wipe_get {σ : L2.St} {vs : List Nat} {j : Nat} : (wipe σ vs)[j]? = if j ∈ vs ∧ j < σ.length then some none else σ[j]? := by
  induction vs with
  | nil => simp [wipe]
  | cons v vs ih =>
    unfold wipe
    by_cases h : v = j
    · subst h
      by_cases hv : v < σ.length
      · rw [List.getElem?_set_self (by rw [wipe_length]; exact hv), if_pos ⟨List.mem_cons_self, hv⟩]
      · rw [List.getElem?_eq_none (by rw [List.length_set, wipe_length]; omega), if_neg (fun z => hv z.2), List.getElem?_eq_none (by omega)]
    · rw [List.getElem?_set_ne h, ih]
      have : j ∈ v :: vs ↔ j ∈ vs := by simp [Ne.symm h]
      simp only [this]
theorem wipe_set {σ : L2.St} {vs : List Nat} {i : Nat} {o : Option V} (h : i ∈ vs) : wipe (σ.set i o) vs = wipe σ vs := by
  apply List.ext_getElem?
  intro j
  rw [wipe_get, wipe_get, List.length_set]
  by_cases hj : i = j
  · subst hj
    by_cases hl : i < σ.length
    · rw [if_pos ⟨h, hl⟩, if_pos ⟨h, hl⟩]
    · rw [if_neg (fun z => hl z.2), if_neg (fun z => hl z.2), List.getElem?_eq_none (by rw [List.length_set]; omega), List.getElem?_eq_none (by omega)]
  · rw [List.getElem?_set_ne hj]
theorem wipe_wipe {σ : L2.St} {vs us : List Nat} (h : ∀ i ∈ us, i ∈ vs) : wipe (wipe σ us) vs = wipe σ vs := by
  apply List.ext_getElem?
  intro j
  rw [wipe_get, wipe_get, wipe_get, wipe_length]
  by_cases h1 : j ∈ vs ∧ j < σ.length
  · rw [if_pos h1, if_pos h1]
  · rw [if_neg h1, if_neg h1, if_neg (fun z => h1 ⟨h _ z.1, z.2⟩)]
section
variable {K : PySem.W.Frag} {cl : Nat → Addr} {w : Wd} {t t' : Lc} {σ : L2.St} {Q : L2.St → Hp → Prop}
theorem tgL_ok {σ0 : L2.St} {sl : List Nat} : ∀ {is : List Nat} {ds : List D} {vs : List V} {t : Lc} {σ : L2.St}, ds.length = is.length → RL K cl w ds vs → EnvR K cl w t σ → (∀ i ∈ is, i ∈ sl) → (∀ us, (∀ i ∈ sl, i ∈ us) → wipe σ us = wipe σ0 us) →
    (∀ σ', EnvR K cl w (setAll is ds t) σ' → (∀ us, (∀ i ∈ sl, i ∈ us) → wipe σ' us = wipe σ0 us) → Q σ' w.H) → tgL is vs σ w.H Q
  | [], [], vs, t, σ, _, r, en, _, hw, h => ⟨r, h σ en hw⟩
  | i :: is, d :: ds, vs, t, σ, hl, ⟨v, ws, e, rv, rr⟩, en, hm, hw, h => by
    refine ⟨v, ws, e, ?_⟩
    exact tgL_ok (is := is) (ds := ds) (t := t.set i (some d)) (by simpa using hl) rr (en.set rv) (fun j hj => hm j (List.mem_cons_of_mem _ hj)) (fun us hu => by rw [wipe_set (hu i (hm i List.mem_cons_self))]; exact hw us hu) h
theorem Tg.ok {g : Tg} {d : D} {v : V} (ok : w.Ok K cl) (en : EnvR K cl w t σ) (r : RV K cl w d v) (e : g.set d t = some t')
    (h : ∀ σ', EnvR K cl w t' σ' → (∀ us, (∀ i ∈ g.slots, i ∈ us) → wipe σ' us = wipe σ us) → Q σ' w.H) : tgT K g v σ w.H Q := by
  cases g with
  | nm i =>
    cases e
    exact h _ (en.set r) fun us hu => wipe_set (hu i (by simp [Tg.slots]))
  | tp is =>
    cases d with
    | tup ds =>
      have e : (if ds.length = is.length then some (setAll is ds t) else none) = some t' := e
      split at e
      · rename_i hl
        cases e
        obtain ⟨a, xs, ev, tl, rr⟩ := r
        exact ⟨a, xs, ev, tl.here ok, by rw [← hl]; exact (Reps.length rr).symm, tgL_ok (σ0 := σ) (sl := is) hl rr en (fun _ h => h) (fun _ _ => rfl) h⟩
      · cases e
    | _ => cases e
end
section
variable {X : Cx} {cl : Nat → Addr} {W : WX} {e tg : Expr} {de : DE} {pos : Pos} {g : Tg}
def dAsg (g : Tg) (de : DE) : DS := fun t S => ofE (de t S) t fun d S1 => match g.set d t with
  | some t' => .nx t' S1
  | none => .bad
/-- a, b = e and the like -/
theorem s_asg (he : UE X cl W e de) (hg : PG X tg (tgT X.K g)) (hs : swapsWithSole [tg] e pos.line X.env = pure false := by rfl) (hw : swappedStores [tg] e X.env = pure none := by rfl) (h1 : (assignEach [tg] X.env).map (·.2) = [assign tg X.env] := by rfl) :
    US X cl W (.Assign [tg] e pos) (dAsg g de) := weakS (ps_asg he hg hs hw h1) fun N σ H ⟨w, t, eH, ok, en, p⟩ =>
  ⟨w, t, eH, ok, en, SPost.ofE p en fun d w1 v y rv en1 p1 => by
    split at p1
    · rename_i t' et
      exact Tg.ok y.ok en1 rv et fun σ' en' _ => p1 w1 σ' (Af.refl y.ok) rfl en'
    · exact p1.elim⟩
end

/-! ### what is walked -/
/-- J gives the items xs in every state that may come of w -/
def Wk (K : PySem.W.Frag) (cl : Nat → Addr) (w : Wd) (xs : List D) (J : It) : Prop :=
  ∀ w1, Af K cl w w1 → ∀ i, (∀ d, xs[i]? = some d → J.go i w1.H ∧ ∀ v H', J.yld i w1.H v H' → ∃ w2, w2.H = H' ∧ Af K cl w1 w2 ∧ w2.S = w1.S ∧ RV K cl w2 d v) ∧ (xs.length ≤ i → J.stop i w1.H)
theorem Wk.af {K : PySem.W.Frag} {cl : Nat → Addr} {w w1 : Wd} {xs : List D} {J : It} (h : Wk K cl w xs J) (x : Af K cl w w1) : Wk K cl w1 xs J := fun w2 y => h w2 (x.trans y)
def upI (K : PySem.W.Frag) (cl : Nat → Addr) (W : WX) (di : DA) : TI := fun σ H R => ∃ w t, w.H = H ∧ w.Ok K cl ∧ EnvR K cl w t σ ∧ OPost K cl (Wk K cl) (fun c d H' => W c d σ H') w R (di t w.S)
abbrev UI (X : Cx) (cl : Nat → Addr) (W : WX) (tg iter : Expr) (di : DA) : Prop := PI X tg iter (upI X.K cl W di)
theorem weakI {X : Cx} {tg iter : Expr} {wi : TI} (h : PI X tg iter wi) {t : TI} (q : ∀ σ H R, t σ H R → wi σ H R) : PI X tg iter t := ⟨fun pins s σ H R I hw => h.run pins s σ H R I (q σ H R hw)⟩
section
variable {X : Cx} {cl : Nat → Addr} {W : WX} {tg e : Expr} {de : DE} {pos p : Pos}
/-- the items of a list, of a tuple -/
def iLst (de : DE) : DA := fun t S => (de t S).bind fun d S1 => match d with
  | .lst xs => .ok xs S1
  | _ => .bad
def iTpl (de : DE) : DA := fun t S => (de t S).bind fun d S1 => match d with
  | .tup xs => .ok xs S1
  | _ => .bad
theorem wk_lst {K : PySem.W.Frag} {w : Wd} {a : Addr} {xs : List D} {vs : List V} (ok : w.Ok K cl) (h : LL w.F a vs) (r : RL K cl w xs vs) : Wk K cl w xs (Itl K a) := fun w1 x i => by
  have hs : SqL K w1.H a vs := LL.here x.ok (h.mono x.fz)
  refine ⟨fun d hd => ?_, fun hl => ⟨vs, hs, by rw [← Reps.length r]; exact hl⟩⟩
  obtain ⟨v, hv, rv⟩ := r.get hd
  refine ⟨⟨vs, v, hs, hv⟩, fun u H' ⟨e, q⟩ => ⟨w1, e.symm, Af.refl x.ok, rfl, ?_⟩⟩
  have e2 := q vs hs
  rw [hv] at e2
  cases e2
  exact Rep.af x rv
theorem wk_tup {K : PySem.W.Frag} {w : Wd} {a : Addr} {xs : List D} {vs : List V} (ok : w.Ok K cl) (h : TL K w.F a vs) (r : RL K cl w xs vs) : Wk K cl w xs (Itt K a) := fun w1 x i => by
  have hs : SqT K w1.H a vs := TL.here x.ok (h.mono x.fz)
  refine ⟨fun d hd => ?_, fun hl => ⟨vs, hs, by rw [← Reps.length r]; exact hl⟩⟩
  obtain ⟨v, hv, rv⟩ := r.get hd
  refine ⟨⟨vs, v, hs, hv⟩, fun u H' ⟨e, q⟩ => ⟨w1, e.symm, Af.refl x.ok, rfl, ?_⟩⟩
  have e2 := q vs hs
  rw [hv] at e2
  cases e2
  exact Rep.af x rv
theorem i_lst (h : UE X cl W e de) : UI X cl W tg e (iLst de) := weakI (pi_list h) fun σ H R ⟨w, t, eH, ok, en, p⟩ => by
  refine ⟨w, t, eH, ok, en, OPost.bind p fun d w1 v a1 r1 p1 => ?_⟩
  split at p1
  · rename_i xs
    obtain ⟨a, vs, ev, hl, r⟩ := r1
    exact ⟨a, ev, ⟨vs, LL.here a1.ok hl⟩, p1 w1 _ (Af.refl a1.ok) rfl (wk_lst a1.ok hl r)⟩
  · exact p1.elim
theorem i_tup (h : UE X cl W e de) : UI X cl W tg e (iTpl de) := weakI (pi_tup h) fun σ H R ⟨w, t, eH, ok, en, p⟩ => by
  refine ⟨w, t, eH, ok, en, OPost.bind p fun d w1 v a1 r1 p1 => ?_⟩
  split at p1
  · rename_i xs
    obtain ⟨a, vs, ev, hl, r⟩ := r1
    exact ⟨a, ev, ⟨vs, TL.here a1.ok hl⟩, p1 w1 _ (Af.refl a1.ok) rfl (wk_tup a1.ok hl r)⟩
  · exact p1.elim
/-- lo, lo + 1, .. -/
def intsFrom (lo : Int) : Nat → List D
  | 0 => []
  | n + 1 => .int lo :: intsFrom (lo + 1) n
theorem intsFrom_length : ∀ (n : Nat) (lo : Int), (intsFrom lo n).length = n
  | 0, _ => rfl
  | n + 1, lo => by rw [intsFrom, List.length_cons, intsFrom_length n]
theorem intsFrom_get : ∀ (n i : Nat) (lo : Int) {d : D}, (intsFrom lo n)[i]? = some d → i < n ∧ d = .int (lo + i)
  | 0, i, lo, d, h => by simp [intsFrom] at h
  | n + 1, 0, lo, d, h => by
    simp [intsFrom] at h
    exact ⟨Nat.succ_pos n, by rw [← h]; simp⟩
  | n + 1, i + 1, lo, d, h => by
    obtain ⟨h1, h2⟩ := intsFrom_get n i (lo + 1) (by simpa [intsFrom] using h)
    exact ⟨Nat.succ_lt_succ h1, by rw [h2]; congr 1; omega⟩
theorem wk_rng {K : PySem.W.Frag} {w : Wd} {lo : Int} {n : Nat} : Wk K cl w (intsFrom lo n) (Itr lo n) := fun w1 x i => by
  refine ⟨fun d hd => ?_, fun hl => by rw [intsFrom_length] at hl; exact hl⟩
  obtain ⟨h1, h2⟩ := intsFrom_get n i lo hd
  exact ⟨h1, fun v H' ⟨e, q⟩ => ⟨w1, e.symm, Af.refl x.ok, rfl, by rw [h2]; exact q⟩⟩
def inB (j : Int) : Prop := -(2 ^ 62) ≤ j ∧ j < 2 ^ 62
instance (j : Int) : Decidable (inB j) := by unfold inB; infer_instance
def iRng1 (de : DE) : DA := fun t S => (de t S).bind fun d S1 => match d with
  | .int j => if inB j then .ok (intsFrom 0 j.toNat) S1 else .bad
  | _ => .bad
def iRng2 (da db : DE) : DA := fun t S => (da t S).bind fun x S1 => (db t S1).bind fun y S2 => match x, y with
  | .int i, .int j => if inB i ∧ inB j then .ok (intsFrom i (j - i).toNat) S2 else .bad
  | _, _ => .bad
theorem i_rng1 (hg : Gl X "range") (hm : X.mg "range" = none) (h : UE X cl W e de) (hs : starEach [e] X.env = [(false, eval e X.env)] := by rfl) : UI X cl W tg (.Call (.Name "range" p) [e] [] pos) (iRng1 de) := weakI (pi_range1 hg hm (pa_cons h pa_nil hs) hs) fun σ H R ⟨w, t, eH, ok, en, p⟩ => by
  refine ⟨w, t, eH, ok, en, OPost.bind p fun d w1 v a1 r1 p1 => ?_⟩
  split at p1
  · rename_i j
    cases (show v = .int j from r1)
    split at p1
    · rename_i hb
      exact ⟨j, rfl, hb.1, hb.2, p1 w1 _ (Af.refl a1.ok) rfl wk_rng⟩
    · exact p1.elim
  · exact p1.elim
theorem i_rng2 {e2 : Expr} {db : DE} (hg : Gl X "range") (hm : X.mg "range" = none) (h : UE X cl W e de) (h' : UE X cl W e2 db) (hs : starEach [e, e2] X.env = [(false, eval e X.env), (false, eval e2 X.env)] := by rfl) (hs2 : starEach [e2] X.env = [(false, eval e2 X.env)] := by rfl) :
    UI X cl W tg (.Call (.Name "range" p) [e, e2] [] pos) (iRng2 de db) := weakI (pi_range2 hg hm (pa_cons h (pa_cons h' pa_nil hs2) (by rw [hs, hs2])) hs hs2) fun σ H R ⟨w, t, eH, ok, en, p⟩ => by
  refine ⟨w, t, eH, ok, en, OPost.bind p fun d w1 v a1 r1 p1 => ?_⟩
  refine ⟨w1, t, rfl, a1.ok, en.af a1, OPost.bind p1 fun y w2 v2 a2 r2 p2 => ?_⟩
  split at p2
  · rename_i i j
    cases (show v = .int i from r1)
    cases (show v2 = .int j from r2)
    split at p2
    · rename_i hb
      exact ⟨i, j, rfl, ⟨hb.1.1, hb.1.2, hb.2.1, hb.2.2⟩, p2 w2 _ (Af.refl a2.ok) rfl wk_rng⟩
    · exact p2.elim
  · exact p2.elim

/-! ### for -/
def dLoop (g : Tg) (db : DS) : List D → DS
  | [] => fun t S => .nx t S
  | d :: r => fun t S => match g.set d t with
    | none => .bad
    | some t1 => match db t1 S with
      | .nx t2 S2 => dLoop g db r t2 S2
      | .ct t2 S2 => dLoop g db r t2 S2
      | .bk t2 S2 => .nx t2 S2
      | o => o
def dFor (g : Tg) (di : DA) (db : DS) : DS := fun t S => ofE (di t S) t fun xs S1 => dLoop g db xs t S1
theorem s_for {iter : Expr} {body : List Stmt} {di : DA} {db : DS} {g : Tg} (hp : PassesOwn (model X.prog X.w) X.A X.env X.xe) (hc : X.calm = true) (hi : UI X cl W tg iter di) (hg : PG X tg (tgT X.K g)) (hb : USs X cl W body db)
    (hs : ∀ x, foldedSetIterable iter X.env x = pure x := by intro _; rfl) : US X cl W (.For tg iter body [] pos) (dFor g di db) := weakS (ps_for hp hc hi hg hb hs) fun N σ H ⟨w, t, eH, ok, en, p⟩ => by
  refine ⟨w, t, eH, ok, en, SPost.ofE p en fun xs w1 J a1 hJ en1 p1 => ?_⟩
  refine ⟨fun i m σ H => ∃ w2 t2, w2.H = H ∧ Af X.K cl w1 w2 ∧ EnvR X.K cl w2 t2 σ ∧ m = xs.length - i ∧ i ≤ xs.length ∧ SPost X.K cl W N w2 (dLoop g db (xs.drop i) t2 w2.S), ⟨_, w1, t, rfl, Af.refl a1.ok, en1, rfl, Nat.zero_le _, p1⟩, ?_⟩
  rintro i m σ2 H2 ⟨w2, t2, rfl, a2, en2, rfl, hi', p2⟩
  by_cases hl : i < xs.length
  · obtain ⟨go, yl⟩ := (hJ w2 a2 i).1 _ (List.getElem?_eq_getElem hl)
    rw [List.drop_eq_getElem_cons hl] at p2
    refine .inr ⟨go, fun σ' H' => ∃ w4 t4, w4.H = H' ∧ Af X.K cl w1 w4 ∧ EnvR X.K cl w4 t4 σ' ∧ SPost X.K cl W N w4 (dLoop g db (xs.drop (i + 1)) t4 w4.S), fun σ' H' ⟨w4, t4, e4, a4, en4, p4⟩ => ⟨xs.length - (i + 1), by omega, w4, t4, e4, a4, en4, rfl, hl, p4⟩, fun v H' hy => ?_⟩
    obtain ⟨w3, rfl, a3, e3, rv⟩ := yl v H' hy
    have p2' : SPost X.K cl W N w2 (match g.set xs[i] t2 with
      | none => .bad
      | some t1 => match db t1 w2.S with
        | .nx t2 S2 => dLoop g db (xs.drop (i + 1)) t2 S2
        | .ct t2 S2 => dLoop g db (xs.drop (i + 1)) t2 S2
        | .bk t2 S2 => .nx t2 S2
        | o => o) := p2
    split at p2'
    · exact p2'.elim
    · rename_i t1 et
      refine Tg.ok a3.ok (en2.af a3) rv et fun σ' en' _ => ⟨w3, t1, rfl, a3.ok, en', ?_⟩
      rw [e3]
      have p3 := SPost.after p2' a3
      have go2 : ∀ (t5 : Lc) (S5 : Sto), SPost X.K cl W N w3 (dLoop g db (xs.drop (i + 1)) t5 S5) → ∀ (w4 : Wd) (σ4 : L2.St), Af X.K cl w3 w4 → w4.S = S5 → EnvR X.K cl w4 t5 σ4 → ∃ w5 t6, w5.H = w4.H ∧ Af X.K cl w1 w5 ∧ EnvR X.K cl w5 t6 σ4 ∧ SPost X.K cl W N w5 (dLoop g db (xs.drop (i + 1)) t6 w5.S) :=
        fun t5 S5 p4 w4 σ4 a4 e4 en4 => ⟨w4, t5, rfl, (a2.trans a3).trans a4, en4, by rw [e4]; exact SPost.after p4 a4⟩
      cases hq : db t1 w2.S with
      | nx t5 S5 => rw [hq] at p3; exact go2 t5 S5 p3
      | ct t5 S5 => rw [hq] at p3; exact go2 t5 S5 p3
      | bk t5 S5 => rw [hq] at p3; exact p3
      | rt d S5 => rw [hq] at p3; exact p3
      | exc t5 c ns vs S5 => rw [hq] at p3; exact p3
      | bad => rw [hq] at p3; exact p3
  · have e : i = xs.length := by omega
    subst e
    rw [List.drop_length] at p2
    exact .inl ⟨(hJ w2 a2 _).2 (Nat.le_refl _), p2 w2 σ2 (Af.refl a2.ok) rfl en2⟩
end
end Dl
set_option Elab.async false
set_option linter.all false
set_option maxRecDepth 100000
set_option maxHeartbeats 4000000
/-! The data layer: attributes, items, slices, built-ins, methods of built-ins, list comprehensions. -/
namespace Dl
open PySem L2

/-! ### what stands behind a value -/
def deref (d : D) (S : Sto) : D := match d with
  | .ptr i => match S[i]? with
    | some (some c) => c
    | _ => .ptr i
  | _ => d
section
variable {K : PySem.W.Frag} {cl : Nat → Addr} {w : Wd} {d : D} {v : V}
theorem deref_lst {xs : List D} (ok : w.Ok K cl) (r : RV K cl w d v) (e : deref d w.S = .lst xs) : ∃ a vs, v = .ref a ∧ w.H a = some (.lst vs) ∧ RL K cl w xs vs := by
  unfold deref at e
  split at e
  · rename_i i
    split at e
    · rename_i c hc
      subst e
      obtain ⟨a, ea, ev⟩ := r
      obtain ⟨_, vs, q, rr⟩ := ok.cell i a _ ea hc
      exact ⟨a, vs, ev, q, rr⟩
    · cases e
  · subst e
    obtain ⟨a, vs, ev, hl, rr⟩ := r
    exact ⟨a, vs, ev, hl.at ok, rr⟩
theorem deref_tup {xs : List D} (ok : w.Ok K cl) (r : RV K cl w d v) (e : deref d w.S = .tup xs) : ∃ a vs, v = .ref a ∧ SqT K w.H a vs ∧ RL K cl w xs vs := by
  unfold deref at e
  split at e
  · rename_i i
    split at e
    · rename_i c hc
      subst e
      obtain ⟨a, ea, ev⟩ := r
      exact (ok.cell i a _ ea hc).2.elim
    · cases e
  · subst e
    obtain ⟨a, vs, ev, hl, rr⟩ := r
    exact ⟨a, vs, ev, hl.here ok, rr⟩
theorem deref_rol {xs : List D} (ok : w.Ok K cl) (r : RV K cl w d v) (e : deref d w.S = .rol xs) : ∃ a vs, v = .ref a ∧ SqL K w.H a vs ∧ RL K cl w xs vs := by
  unfold deref at e
  split at e
  · rename_i i
    split at e
    · rename_i c hc
      subst e
      obtain ⟨a, ea, ev⟩ := r
      exact (ok.cell i a _ ea hc).2.elim
    · cases e
  · subst e
    obtain ⟨a, vs, ev, hl, rr⟩ := r
    exact ⟨a, vs, ev, sq_here ok hl, rr⟩
theorem deref_dic {ks vs : List D} (ok : w.Ok K cl) (r : RV K cl w d v) (e : deref d w.S = .dic ks vs) :
    ∃ a, ∃ es : List (Key × V), v = .ref a ∧ Rd w.H a (.dK es) ∧ RL K cl w ks (es.map fun e => kV e.1) ∧ RL K cl w vs (es.map (·.2)) := by
  unfold deref at e
  split at e
  · rename_i i
    split at e
    · rename_i c hc
      subst e
      obtain ⟨a, ea, ev⟩ := r
      obtain ⟨_, es, q, r1, r2⟩ := ok.cell i a _ ea hc
      exact ⟨a, es, ev, .inl q, r1, r2⟩
    · cases e
  · subst e
    obtain ⟨a, xs, ys, ev, ⟨od, es, q, e1, e2⟩, r1, r2⟩ := r
    subst e1; subst e2
    exact ⟨a, es, ev, .inr ⟨od, ok.sub _ _ q⟩, r1, r2⟩
/-- the items of a list, of a tuple -/
def seqOf (d : D) (S : Sto) : Option (List D) := match deref d S with
  | .lst xs => some xs
  | .rol xs => some xs
  | _ => none
def itemsOf (d : D) (S : Sto) : Option (List D) := match deref d S with
  | .lst xs => some xs
  | .rol xs => some xs
  | .tup xs => some xs
  | _ => none
theorem seqOf_at {xs : List D} (ok : w.Ok K cl) (r : RV K cl w d v) (e : seqOf d w.S = some xs) : ∃ a vs, v = .ref a ∧ SqL K w.H a vs ∧ RL K cl w xs vs := by
  unfold seqOf at e
  split at e
  · rename_i h
    cases e
    obtain ⟨a, vs, ev, h1, h2⟩ := deref_lst ok r h
    exact ⟨a, vs, ev, .of h1, h2⟩
  · rename_i h
    cases e
    exact deref_rol ok r h
  · cases e
theorem itemsOf_at {xs : List D} (ok : w.Ok K cl) (r : RV K cl w d v) (e : itemsOf d w.S = some xs) : ∃ a vs, v = .ref a ∧ (SqL K w.H a vs ∨ SqT K w.H a vs) ∧ RL K cl w xs vs := by
  unfold itemsOf at e
  split at e
  · rename_i h
    cases e
    obtain ⟨a, vs, ev, h1, h2⟩ := deref_lst ok r h
    exact ⟨a, vs, ev, .inl (.of h1), h2⟩
  · rename_i h
    cases e
    obtain ⟨a, vs, ev, h1, h2⟩ := deref_rol ok r h
    exact ⟨a, vs, ev, .inl h1, h2⟩
  · rename_i h
    cases e
    obtain ⟨a, vs, ev, h1, h2⟩ := deref_tup ok r h
    exact ⟨a, vs, ev, .inr h1, h2⟩
  · cases e
end

/-! ### attributes -/
def lookD : List Str → List D → Str → Option D
  | n :: ns, d :: ds, f => if n = f then some d else lookD ns ds f
  | _, _, _ => none
def putD (f : Str) (d : D) : List Str → List D → List Str × List D
  | n :: ns, x :: xs => if n = f then (n :: ns, d :: xs) else let p := putD f d ns xs; (n :: p.1, x :: p.2)
  | _, _ => ([f], [d])
section
variable {K : PySem.W.Frag} {cl : Nat → Addr} {F : Hp} {m : List Addr}
theorem look_rep : ∀ {es : List (Str × V)} {ns : List Str} {vs : List D} {f : Str} {d : D}, es.map (·.1) = ns → Reps K cl F m vs (es.map (·.2)) → lookD ns vs f = some d → ∃ v, es.lookup f = some v ∧ Rep K cl F m d v
  | [], ns, vs, f, d, h, r, e => by
    subst h
    cases vs <;> simp [lookD] at e
  | (n, x) :: es, ns, vs, f, d, h, r, e => by
    subst h
    cases vs with
    | nil => simp [lookD] at e
    | cons y ys =>
      obtain ⟨v, ws, h1, h2, h3⟩ := r
      simp only [List.map_cons, List.cons.injEq] at h1
      obtain ⟨h1a, h1b⟩ := h1
      subst h1a; subst h1b
      rw [List.map_cons] at e
      unfold lookD at e
      by_cases hn : n = f
      · rw [if_pos hn] at e
        cases e
        exact ⟨x, by simp [List.lookup, hn], h2⟩
      · rw [if_neg hn] at e
        obtain ⟨v, q1, q2⟩ := look_rep rfl h3 e
        have hb : (f == n) = false := beq_eq_false_iff_ne.mpr (fun z => hn z.symm)
        exact ⟨v, by simp only [List.lookup, hb]; exact q1, q2⟩
theorem put_rep {f : Str} {d : D} {v : V} (rd : Rep K cl F m d v) : ∀ {es : List (Str × V)} {vs : List D}, Reps K cl F m vs (es.map (·.2)) → (putF f v es).map (·.1) = (putD f d (es.map (·.1)) vs).1 ∧ Reps K cl F m (putD f d (es.map (·.1)) vs).2 ((putF f v es).map (·.2))
  | [], vs, r => by
    cases vs with
    | nil => exact ⟨rfl, ⟨v, [], rfl, rd, rfl⟩⟩
    | cons y ys => obtain ⟨_, _, h, _⟩ := r; simp at h
  | (n, x) :: es, vs, r => by
    cases vs with
    | nil => exact absurd (show _ = [] from r) (by simp)
    | cons y ys =>
      obtain ⟨v', ws, h1, h2, h3⟩ := r
      simp only [List.map_cons, List.cons.injEq] at h1
      obtain ⟨h1a, h1b⟩ := h1
      subst h1a; subst h1b
      rw [show putF f v ((n, x) :: es) = (if n = f then (n, v) :: es else (n, x) :: putF f v es) from rfl, List.map_cons]
      unfold putD
      by_cases hn : n = f
      · rw [if_pos hn, if_pos hn]
        exact ⟨rfl, ⟨v, _, rfl, rd, h3⟩⟩
      · rw [if_neg hn, if_neg hn]
        obtain ⟨q1, q2⟩ := put_rep rd h3
        exact ⟨by rw [List.map_cons]; exact congrArg (n :: ·) q1, ⟨x, _, rfl, h2, q2⟩⟩
end
section
variable {X : Cx} {cl : Nat → Addr} {W : WX} {e o : Expr} {de dx dv : DE} {f : Str} {c : Nat} {pos pos' tpos : Pos} {value : Expr}
def dAttr (c : Nat) (f : Str) (de : DE) : DE := fun t S => (de t S).bind fun x S1 => match objOf x S1 with
  | some (c', ns, vs) => if c' = c then (match lookD ns vs f with
    | some d => .ok d S1
    | none => .bad) else .bad
  | none => .bad
theorem u_attr (ck : Cls X.K (cl c)) (na : NoAttr X.K (cl c) f) (h : UE X cl W e de) (hb : attributeBase e f X.env (eval e X.env) = eval e X.env := by rfl) : UE X cl W (.Attribute e f pos) (dAttr c f de) := weakE (pe_fld h hb) fun σ H Q ⟨w, t, eH, ok, en, p⟩ => by
  refine ⟨w, t, eH, ok, en, OPost.bind p fun x w1 v a1 r1 p1 => ?_⟩
  split at p1
  · rename_i c' ns vs ho
    split at p1
    · rename_i hc
      subst hc
      split at p1
      · rename_i d hl
        obtain ⟨a, dx, es, ev, ea, q1, q2⟩ := objOf_at a1.ok r1 ho
        obtain ⟨u, l1, l2⟩ := look_rep q1 q2 hl
        exact ⟨a, _, dx, es, u, ev, ea, ck, na, l1, p1 w1 u (Af.refl a1.ok) rfl l2⟩
      · exact p1.elim
    · exact p1.elim
  · exact p1.elim
/-- x, a changeable object of class c -/
def cellObj (c : Nat) (x : D) (S : Sto) : Option (Nat × List Str × List D) := match x with
  | .ptr i => match S[i]? with
    | some (some (.obj c' ns vs)) => if c' = c then some (i, ns, vs) else none
    | _ => none
  | _ => none
theorem cellObj_at {K : PySem.W.Frag} {w : Wd} {x : D} {v : V} {i : Nat} {ns : List Str} {vs : List D} (ok : w.Ok K cl) (r : RV K cl w x v) (e : cellObj c x w.S = some (i, ns, vs)) :
    ∃ a dx es, v = .ref a ∧ w.m[i]? = some a ∧ w.S[i]? = some (some (.obj c ns vs)) ∧ w.H a = some (.ins (cl c) dx es) ∧ es.map (·.1) = ns ∧ Reps K cl w.F w.m vs (es.map (·.2)) := by
  unfold cellObj at e
  split at e
  · rename_i j
    split at e
    · rename_i c' ns' vs' hj
      split at e
      · rename_i hc
        subst hc
        cases e
        obtain ⟨a, ea, ev⟩ := r
        obtain ⟨_, dx, es, q1, q2, q3⟩ := ok.cell _ a _ ea hj
        exact ⟨a, dx, es, ev, ea, hj, q1, q2, q3⟩
      · cases e
    · cases e
  · cases e
def dSetF (c : Nat) (f : Str) (dx dv : DE) : DS := fun t S => ofE (dv t S) t fun y S1 => ofE (dx t S1) t fun x S2 => match cellObj c x S2 with
  | some (i, ns, vs) => if ns.length < 1000 then .nx t (S2.set i (some (.obj c (putD f y ns vs).1 (putD f y ns vs).2))) else .bad
  | none => .bad
theorem s_setF (ck : Cls X.K (cl c)) (na : NoAttr X.K (cl c) f) (ho : UE X cl W o dx) (hv : UE X cl W value dv) (hs : swapsWith value (some (.Attribute o f pos')) pos.line X.env = pure false := by rfl) : US X cl W (.Assign [.Attribute o f pos'] value pos) (dSetF c f dx dv) :=
  weakS (ps_fld ho hv hs) fun N σ H ⟨w, t, eH, ok, en, p⟩ => by
    refine ⟨w, t, eH, ok, en, SPost.ofE p en fun y w1 vy a1 r1 en1 p1 => ⟨w1, t, rfl, a1.ok, en1, SPost.ofE p1 en1 fun x w2 vx a2 r2 en2 p2 => ?_⟩⟩
    split at p2
    · rename_i i ns vs ho
      split at p2
      · rename_i hl
        obtain ⟨a, dx, es, ev, ea, q0, q1, q2, q3⟩ := cellObj_at a2.ok r2 ho
        refine ⟨a, _, dx, es, ev, q1, ck, na, by rw [← q2] at hl; simpa using hl, ?_⟩
        obtain ⟨z1, z2⟩ := put_rep (f := f) (Rep.af a2 r1) q3
        rw [q2] at z1 z2
        have z := a2.ok.cellSet (u := .ins (cl c) dx (putF f vy es)) (d := .obj c (putD f y ns vs).1 (putD f y ns vs).2) ea q0 ⟨dx, _, upd_same, z1, z2⟩
        exact p2 ⟨upd w2.H a (.ins (cl c) dx (putF f vy es)), w2.F, w2.m, _⟩ σ z rfl (en2.af z)
      · exact p2.elim
    · exact p2.elim
/-- x.f += e, numbers -/
def dAugF (c : Nat) (f : Str) (dx dv : DE) : DS := fun t S => ofE (dx t S) t fun x S1 => match objOf x S1 with
  | some (c', ns, vs) => if c' = c then (match lookD ns vs f with
    | some (.int i) => ofE (dv t S1) t fun y S2 => match y, cellObj c x S2 with
      | .int j, some (k, ns', vs') => if ns'.length < 1000 then .nx t (S2.set k (some (.obj c (putD f (.int (i + j)) ns' vs').1 (putD f (.int (i + j)) ns' vs').2))) else .bad
      | _, _ => .bad
    | _ => .bad) else .bad
  | none => .bad
theorem s_augF (ck : Cls X.K (cl c)) (na : NoAttr X.K (cl c) f) (ho : UE X cl W o dx) (hv : UE X cl W value dv) : US X cl W (.AugAssign (.Attribute o f tpos) .Add value pos) (dAugF c f dx dv) :=
  weakS (ps_fldaug ho hv in_add) fun N σ H ⟨w, t, eH, ok, en, p⟩ => by
    refine ⟨w, t, eH, ok, en, SPost.ofE p en fun x w1 vx a1 r1 en1 p1 => ?_⟩
    split at p1
    · rename_i c' ns vs ho
      split at p1
      · rename_i hc
        subst hc
        split at p1
        · rename_i i hl
          obtain ⟨a, dx, es, ev, ea, q1, q2⟩ := objOf_at a1.ok r1 ho
          obtain ⟨u, l1, l2⟩ := look_rep q1 q2 hl
          cases (show u = .int i from l2)
          refine ⟨a, _, dx, es, _, ev, ea, ck, na, l1, w1, t, rfl, a1.ok, en1, SPost.ofE p1 en1 fun y w2 vy a2 r2 en2 p2 => ?_⟩
          split at p2
          · rename_i j k ns' vs' hq
            cases (show vy = .int j from r2)
            split at p2
            · rename_i hlen
              obtain ⟨a', dx', es', ev', ea', q0', q1', q2', q3'⟩ := cellObj_at a2.ok (Rep.af a2 r1) hq
              rw [ev] at ev'
              cases ev'
              refine ⟨i, j, rfl, rfl, dx', es', q1', by rw [← q2'] at hlen; simpa using hlen, ?_⟩
              obtain ⟨z1, z2⟩ := put_rep (K := X.K) (cl := cl) (F := w2.F) (m := w2.m) (f := f) (d := .int (i + j)) (v := .int (i + j)) rfl q3'
              rw [q2'] at z1 z2
              have z := a2.ok.cellSet (u := .ins (cl c') dx' (putF f (.int (i + j)) es')) (d := .obj c' (putD f (.int (i + j)) ns' vs').1 (putD f (.int (i + j)) ns' vs').2) ea' q0' ⟨dx', _, upd_same, z1, z2⟩
              exact p2 ⟨upd w2.H a (.ins (cl c') dx' (putF f (.int (i + j)) es')), w2.F, w2.m, _⟩ σ z rfl (en2.af z)
            · exact p2.elim
          · exact p2.elim
        · exact p1.elim
      · exact p1.elim
    · exact p1.elim
end

/-! ### items -/
def fIx : D → D → Sto → Out D := fun x y S => match y, deref x S with
  | .int i, .lst xs => (match atI xs i with | some d => .ok d S | none => .bad)
  | .int i, .rol xs => (match atI xs i with | some d => .ok d S | none => .bad)
  | .int i, .tup xs => (match atI xs i with | some d => .ok d S | none => .bad)
  | _, _ => .bad
section
variable {K : PySem.W.Frag} {cl : Nat → Addr}
theorem atI_rep {F : Hp} {m : List Addr} {xs : List D} {vs : List V} {i : Int} {d : D} (r : Reps K cl F m xs vs) (e : atI xs i = some d) : ∃ v, atI vs i = some v ∧ Rep K cl F m d v := by
  unfold atI at e ⊢
  rw [← r.length]
  cases h : ixN xs.length i with
  | none => rw [h] at e; cases e
  | some j =>
    rw [h] at e
    exact r.get e
theorem d_ix : OpD K cl (rIx K) fIx := by
  intro w x y vx vy W Q ok rx ry p
  unfold fIx at p
  split at p
  · rename_i i xs h
    cases (show vy = .int i from ry)
    split at p
    · rename_i d hd
      obtain ⟨a, vs, ev, h1, h2⟩ := deref_lst ok rx h
      obtain ⟨v, q1, q2⟩ := atI_rep h2 hd
      exact .inl ⟨a, vs, i, v, ev, rfl, .of h1, q1, p w v (Af.refl ok) rfl q2⟩
    · exact p.elim
  · rename_i i xs h
    cases (show vy = .int i from ry)
    split at p
    · rename_i d hd
      obtain ⟨a, vs, ev, h1, h2⟩ := deref_rol ok rx h
      obtain ⟨v, q1, q2⟩ := atI_rep h2 hd
      exact .inl ⟨a, vs, i, v, ev, rfl, h1, q1, p w v (Af.refl ok) rfl q2⟩
    · exact p.elim
  · rename_i i xs h
    cases (show vy = .int i from ry)
    split at p
    · rename_i d hd
      obtain ⟨a, vs, ev, h1, h2⟩ := deref_tup ok rx h
      obtain ⟨v, q1, q2⟩ := atI_rep h2 hd
      exact .inr (.inl ⟨a, vs, i, v, ev, rfl, h1, q1, p w v (Af.refl ok) rfl q2⟩)
    · exact p.elim
  · exact p.elim
end
section
variable {X : Cx} {cl : Nat → Addr} {W : WX} {e o i value : Expr} {dx di dv : DE} {pos pos' p2 : Pos} {lo hi : Option Expr}
theorem u_item (ho : UE X cl W o dx) (hi : UE X cl W i di) (hs : PlainIx i := by exact fun _ _ => rfl) : UE X cl W (.Subscript o i pos) (dOp fIx dx di) := u_ix ix_seq d_ix ho hi hs
/-- xs[i] = e, a changeable list -/
def dSetI (dx di dv : DE) : DS := fun t S => ofE (dv t S) t fun y S1 => ofE (dx t S1) t fun x S2 => ofE (di t S2) t fun i S3 => match x, i with
  | .ptr k, .int j => (match S3[k]? with
    | some (some (.lst xs)) => (match ixN xs.length j with
      | some n => .nx t (S3.set k (some (.lst (xs.set n y))))
      | none => .bad)
    | _ => .bad)
  | _, _ => .bad
theorem s_setI (ho : UE X cl W o dx) (hi : UE X cl W i di) (hv : UE X cl W value dv)
    (hs : swapsWithSole [.Subscript o i pos'] value pos.line X.env = pure false := by rfl) (hw : swappedStores [.Subscript o i pos'] value X.env = pure none := by rfl) (h1 : (assignEach [.Subscript o i pos'] X.env).map (·.2) = [assign (.Subscript o i pos') X.env] := by rfl)
    (ha : ∀ v, assign (.Subscript o i pos') X.env v = (do
      let ov ← holding [v] (eval o X.env)
      let iv ← holding [v, ov] (eval i X.env)
      standAt pos'
      holding [v, ov, iv] (setItem ov iv v)
      release [v, ov, iv] []) := by intro _; rfl) : US X cl W (.Assign [.Subscript o i pos'] value pos) (dSetI dx di dv) :=
  weakS (ps_asg hv (pg_sub ho hi set_list ha) hs hw h1) fun N σ H ⟨w, t, eH, ok, en, p⟩ => by
    refine ⟨w, t, eH, ok, en, SPost.ofE p en fun y w1 vy a1 r1 en1 p1 => ⟨w1, t, rfl, a1.ok, en1, SPost.ofE p1 en1 fun x w2 vx a2 r2 en2 p2 => ⟨w2, t, rfl, a2.ok, en2, SPost.ofE p2 en2 fun z w3 vz a3 r3 en3 p3 => ?_⟩⟩⟩
    split at p3
    · rename_i k j
      cases (show vz = .int j from r3)
      split at p3
      · rename_i xs hk
        split at p3
        · rename_i n hn
          obtain ⟨a, ea, ev⟩ := Rep.af a3 r2
          obtain ⟨_, vs, c1, c2⟩ := a3.ok.cell k a _ ea hk
          refine ⟨a, vs, j, n, ev, rfl, c1, by rw [← Reps.length c2]; exact hn, ?_⟩
          have z := a3.ok.cellSet (u := .lst (vs.set n vy)) (d := .lst (xs.set n y)) ea hk ⟨_, upd_same, Reps.set (Rep.af a3 (Rep.af a2 r1)) n c2⟩
          exact p3 ⟨upd w3.H a (.lst (vs.set n vy)), w3.F, w3.m, _⟩ σ z rfl (en3.af z)
        · exact p3.elim
      · exact p3.elim
    · exact p3.elim

/-! slices -/
abbrev DO := Lc → Sto → Out (Option Int)
def upO (K : PySem.W.Frag) (cl : Nat → Addr) (W : WX) (d : DO) : TO := fun σ H Q => ∃ w t, w.H = H ∧ w.Ok K cl ∧ EnvR K cl w t σ ∧ OPost K cl (fun _ a b => a = b) (fun c d H' => W c d σ H') w Q (d t w.S)
abbrev UO (X : Cx) (cl : Nat → Addr) (W : WX) (e : Option Expr) (d : DO) : Prop := PO X e (upO X.K cl W d)
def oNone : DO := fun _ S => .ok none S
def oSome (de : DE) : DO := fun t S => (de t S).bind fun x S1 => match x with
  | .int i => .ok (some i) S1
  | _ => .bad
theorem o_none : UO X cl W none oNone := ⟨fun pins s σ H Q I ⟨w, t, eH, ok, en, p⟩ => (po_none (X := X)).run pins s σ H Q I (eH ▸ p w none (Af.refl ok) rfl rfl)⟩
theorem o_some {de : DE} (h : UE X cl W e de) : UO X cl W (some e) (oSome de) := ⟨fun pins s σ H Q I ⟨w, t, eH, ok, en, p⟩ => (po_some h).run pins s σ H Q I ⟨w, t, eH, ok, en, OPost.bind p fun x w1 v a1 r1 p1 => by
  split at p1
  · rename_i i
    cases (show v = .int i from r1)
    exact ⟨i, rfl, p1 w1 _ (Af.refl a1.ok) rfl rfl⟩
  · exact p1.elim⟩⟩
def cutD (xs : List D) (lo hi : Option Int) : List D := (xs.drop (HT.sIx xs.length 0 lo)).take (HT.sIx xs.length xs.length hi - HT.sIx xs.length 0 lo)
/-- xs[lo:hi], a list (new), a tuple -/
def dSl (dx : DE) (dl dh : DO) : DE := fun t S => (dx t S).bind fun x S1 => (dl t S1).bind fun l S2 => (dh t S2).bind fun h S3 => match deref x S3 with
  | .lst xs => .ok (.lst (cutD xs l h)) S3
  | .rol xs => .ok (.lst (cutD xs l h)) S3
  | .tup xs => .ok (.tup (cutD xs l h)) S3
  | _ => .bad
theorem cut_rep {K : PySem.W.Frag} {F : Hp} {m : List Addr} {xs : List D} {vs : List V} {l h : Option Int} (r : Reps K cl F m xs vs) : Reps K cl F m (cutD xs l h) (cutV vs l h) := by
  unfold cutD cutV
  rw [r.length]
  exact (r.drop _).take _
/-- a tuple's slice: the tuple itself where the slice is the whole of it -/
def rSlTA (K : PySem.W.Frag) : V → Option Int → Option Int → Hp → VK → Prop := fun x lo hi H Q => ∃ a xs, x = .ref a ∧ SqT K H a xs ∧
  ((HT.sIx xs.length 0 lo = 0 ∧ HT.sIx xs.length xs.length hi = xs.length) → Q (.ref a) H) ∧ ∀ p, H p = none → Q (.ref p) (upd H p (.tup (cutV xs lo hi)))
end
end Dl
set_option Elab.async false
set_option linter.all false
set_option maxRecDepth 100000
set_option maxHeartbeats 4000000
/-! The data layer: slices, operators, comparisons, built-ins. -/
namespace Dl
open PySem L2

section
variable {X : Cx} {cl : Nat → Addr} {W : WX} {e : Expr} {dx : DE} {dl dh : DO} {lo hi : Option Expr} {pos p2 : Pos}
def rSlAny (K : PySem.W.Frag) : V → Option Int → Option Int → Hp → VK → Prop := fun x lo hi H Q => rSlL K x lo hi H Q ∨ rSlA K x lo hi H Q
theorem sl_any : SlR X (rSlAny X.K) := SlR.or sl_list sl_tupA
theorem sIx_whole {xs : List D} {lo hi : Option Int} (h : HT.sIx xs.length 0 lo = 0 ∧ HT.sIx xs.length xs.length hi = xs.length) : cutD xs lo hi = xs := by
  unfold cutD
  rw [h.1, h.2, List.drop_zero, Nat.sub_zero, List.take_length]
theorem u_slice (h : UE X cl W e dx) (hl : UO X cl W lo dl) (hh : UO X cl W hi dh) : UE X cl W (.Subscript e (.Slice lo hi none p2) pos) (dSl dx dl dh) := weakE (pe_slice sl_any h hl hh) fun σ H Q ⟨w, t, eH, ok, en, p⟩ => by
  refine ⟨w, t, eH, ok, en, OPost.bind p fun x w1 v1 a1 r1 p1 => ?_⟩
  refine ⟨w1, t, rfl, a1.ok, en.af a1, OPost.bind p1 fun l w2 l' a2 el p2 => ?_⟩
  cases (show l = l' from el)
  refine ⟨w2, t, rfl, a2.ok, (en.af a1).af a2, OPost.bind p2 fun h w3 h' a3 eh p3 => ?_⟩
  cases (show h = h' from eh)
  have r3 := Rep.af a3 (Rep.af a2 r1)
  split at p3
  · rename_i xs hd
    obtain ⟨a, vs, ev, h1, h2⟩ := deref_lst a3.ok r3 hd
    refine .inl ⟨a, vs, ev, .of h1, fun q hq => ?_⟩
    exact p3 ⟨upd w3.H q (.lst (cutV vs l h)), upd w3.F q (.lst (cutV vs l h)), w3.m, w3.S⟩ (.ref q) (a3.ok.laid hq) rfl (laidLst a3.ok hq (cut_rep h2))
  · rename_i xs hd
    obtain ⟨a, vs, ev, h1, h2⟩ := deref_rol a3.ok r3 hd
    refine .inl ⟨a, vs, ev, h1, fun q hq => ?_⟩
    exact p3 ⟨upd w3.H q (.lst (cutV vs l h)), upd w3.F q (.lst (cutV vs l h)), w3.m, w3.S⟩ (.ref q) (a3.ok.laid hq) rfl (laidLst a3.ok hq (cut_rep h2))
  · rename_i xs hd
    obtain ⟨a, vs, ev, h1, h2⟩ := deref_tup a3.ok r3 hd
    refine .inr ⟨a, vs, ev, h1, fun hw => ?_, fun _ q hq => ?_⟩
    · have hx : x = .tup xs := by
        unfold deref at hd
        split at hd
        · split at hd
          · rename_i c hc
            subst hd
            obtain ⟨b, eb, _⟩ := r3
            exact (a3.ok.cell _ b _ eb hc).2.elim
          · cases hd
        · exact hd
      subst ev
      refine p3 w3 (.ref a) (Af.refl a3.ok) rfl ?_
      rw [sIx_whole (by rw [Reps.length h2]; exact hw), ← hx]
      exact r3
    · exact p3 ⟨upd w3.H q (.tup (cutV vs l h)), upd w3.F q (.tup (cutV vs l h)), w3.m, w3.S⟩ (.ref q) (a3.ok.laid hq) rfl (laidTup a3.ok hq (cut_rep h2))
  · exact p3.elim
end

/-! ### + - * // % ** -/
def fAdd : D → D → Sto → Out D := fun x y S => match deref x S, deref y S with
  | .int i, .int j => .ok (.int (i + j)) S
  | .str a, .str b => if a.length + b.length ≤ sizeLine then .ok (.str (a ++ b)) S else .bad
  | .lst xs, .lst ys => if xs.length + ys.length ≤ sizeLine then .ok (.lst (xs ++ ys)) S else .bad
  | .tup xs, .tup ys => if xs.length + ys.length ≤ sizeLine then .ok (.tup (xs ++ ys)) S else .bad
  | _, _ => .bad
def rAddAny (K : PySem.W.Frag) : R2 := fun x y H Q => (∃ i j, x = .int i ∧ y = .int j ∧ Q (.int (i + j)) H) ∨ (∃ i j, x = .str i ∧ y = .str j ∧ i.length + j.length ≤ sizeLine ∧ Q (.str (i ++ j)) H) ∨ rCat x y H Q ∨ rCatA K x y H Q
theorem op_addAny {X : Cx} : OpR X (binaryOp .Add) (rAddAny X.K) := op_add.or (op_add_str.or (op_cat.or op_catA))
section
variable {K : PySem.W.Frag} {cl : Nat → Addr} {w : Wd} {d : D} {v : V}
theorem deref_int {i : Int} (ok : w.Ok K cl) (r : RV K cl w d v) (e : deref d w.S = .int i) : v = .int i := by
  unfold deref at e
  split at e
  · split at e
    · rename_i c hc
      subst e
      obtain ⟨b, eb, _⟩ := r
      exact (ok.cell _ b _ eb hc).2.elim
    · cases e
  · subst e; exact r
theorem deref_str {i : Str} (ok : w.Ok K cl) (r : RV K cl w d v) (e : deref d w.S = .str i) : v = .str i := by
  unfold deref at e
  split at e
  · split at e
    · rename_i c hc
      subst e
      obtain ⟨b, eb, _⟩ := r
      exact (ok.cell _ b _ eb hc).2.elim
    · cases e
  · subst e; exact r
theorem deref_tup_eq {xs : List D} (ok : w.Ok K cl) (r : RV K cl w d v) (e : deref d w.S = .tup xs) : d = .tup xs := by
  unfold deref at e
  split at e
  · split at e
    · rename_i c hc
      subst e
      obtain ⟨b, eb, _⟩ := r
      exact (ok.cell _ b _ eb hc).2.elim
    · cases e
  · exact e
theorem d_add : OpD K cl (rAddAny K) fAdd := by
  intro w x y vx vy W Q ok rx ry p
  unfold fAdd at p
  split at p
  · rename_i i j h1 h2
    exact .inl ⟨i, j, deref_int ok rx h1, deref_int ok ry h2, p w _ (Af.refl ok) rfl rfl⟩
  · rename_i i j h1 h2
    split at p
    · rename_i hz
      exact .inr (.inl ⟨i, j, deref_str ok rx h1, deref_str ok ry h2, hz, p w _ (Af.refl ok) rfl rfl⟩)
    · exact p.elim
  · rename_i xs ys h1 h2
    split at p
    · rename_i hz
      obtain ⟨a, vs, ev, q1, q2⟩ := deref_lst ok rx h1
      obtain ⟨b, us, eu, q3, q4⟩ := deref_lst ok ry h2
      refine .inr (.inr (.inl ⟨a, b, vs, us, ev, eu, q1, q3, by rw [← Reps.length q2, ← Reps.length q4]; exact hz, fun q hq => ?_⟩))
      exact p ⟨upd w.H q (.lst (vs ++ us)), upd w.F q (.lst (vs ++ us)), w.m, w.S⟩ (.ref q) (ok.laid hq) rfl (laidLst ok hq (Reps.append q2 q4))
    · exact p.elim
  · rename_i xs ys h1 h2
    split at p
    · rename_i hz
      obtain ⟨a, vs, ev, q1, q2⟩ := deref_tup ok rx h1
      obtain ⟨b, us, eu, q3, q4⟩ := deref_tup ok ry h2
      have e1 := deref_tup_eq ok rx h1
      have e2 := deref_tup_eq ok ry h2
      refine .inr (.inr (.inr ⟨a, b, vs, us, ev, eu, q1, q3, by rw [← Reps.length q2, ← Reps.length q4]; exact hz, fun hn => ?_, fun _ hn => ?_, fun _ _ q hq => ?_⟩))
      · have : xs = [] := by
          have := Reps.length q2
          rw [hn] at this
          exact List.eq_nil_of_length_eq_zero this
        subst this
        subst eu
        exact p w (.ref b) (Af.refl ok) rfl (by rw [e2] at ry; exact ry)
      · have : ys = [] := by
          have := Reps.length q4
          rw [hn] at this
          exact List.eq_nil_of_length_eq_zero this
        subst this
        subst ev
        refine p w (.ref a) (Af.refl ok) rfl ?_
        rw [List.append_nil]
        rw [e1] at rx; exact rx
      · exact p ⟨upd w.H q (.tup (vs ++ us)), upd w.F q (.tup (vs ++ us)), w.m, w.S⟩ (.ref q) (ok.laid hq) rfl (laidTup ok hq (Reps.append q2 q4))
    · exact p.elim
  · exact p.elim
/-- two numbers -/
def fII (C : Int → Int → Bool) (g : Int → Int → Int) : D → D → Sto → Out D := fun x y S => match x, y with
  | .int i, .int j => if C i j = true then .ok (.int (g i j)) S else .bad
  | _, _ => .bad
theorem d_II {C : Int → Int → Prop} {c : Int → Int → Bool} {g : Int → Int → Int} (hc : ∀ i j, c i j = true → C i j) : OpD K cl (rI C fun i j => .int (g i j)) (fII c g) := by
  intro w x y vx vy W Q ok rx ry p
  unfold fII at p
  split at p
  · rename_i i j
    split at p
    · rename_i h
      exact ⟨i, j, rx, ry, hc i j h, p w _ (Af.refl ok) rfl rfl⟩
    · exact p.elim
  · exact p.elim
def fII0 (g : Int → Int → Int) : D → D → Sto → Out D := fun x y S => match x, y with
  | .int i, .int j => .ok (.int (g i j)) S
  | _, _ => .bad
theorem d_II0 {g : Int → Int → Int} : OpD K cl (rI0 fun i j => .int (g i j)) (fII0 g) := by
  intro w x y vx vy W Q ok rx ry p
  unfold fII0 at p
  split at p
  · rename_i i j
    exact ⟨i, j, rx, ry, p w _ (Af.refl ok) rfl rfl⟩
  · exact p.elim
def fSub := fII0 fun i j => i - j
def cMul (i j : Int) : Bool := (decide (-(2 ^ 64) < i) && decide (i < 2 ^ 64)) || (decide (-(2 ^ 64) < j) && decide (j < 2 ^ 64))
end
/-- a text times a number -/
def strMul (z : Str) (j : Int) : Str := if j < 1 then Str.empty else if (j == 1 || z.length == 0) = true then z else ⟨(List.replicate j.toNat z.cps).foldl (· ++ ·) #[]⟩
theorem rep_size (a : Array Nat) : ∀ (n : Nat) (b : Array Nat), ((List.replicate n a).foldl (· ++ ·) b).size = b.size + n * a.size
  | 0, b => by simp
  | n + 1, b => by
    rw [List.replicate_succ, List.foldl_cons, rep_size a n, Array.size_append, Nat.succ_mul]
    omega
theorem op_mulStr {X : Cx} : OpR X (binaryOp .Mult) (fun x y H Q => ∃ z j, x = .str z ∧ y = .int j ∧ (-1000 ≤ j ∧ j ≤ 1000 ∧ z.length ≤ 1000) ∧ Q (.str (strMul z j)) H) := by
  intro pins s σ H x y v u Q I rx ry h
  obtain ⟨z, j, rfl, rfl, ⟨h1, h2, h3⟩, q⟩ := h
  obtain ⟨t, rfl⟩ := rx
  obtain ⟨t', rfl⟩ := ry
  refine PySem.P.mul_str (by
      have a1 : decide (j < -(2 ^ 63 : Int)) = false := decide_eq_false (by omega)
      have a2 : decide (j ≥ 2 ^ 63) = false := decide_eq_false (by omega)
      rw [a1, a2]; rfl) (fun hn _ hh => ?_) (fun hn _ => ?_) ?_
  · have e : (2 ^ 63 - 1 : Int) / j ≥ (2 ^ 63 - 1 : Int) / 1000 := by
      have hj : 0 < j := by omega
      rw [ge_iff_le, Int.le_ediv_iff_mul_le hj]
      have : (2 ^ 63 - 1 : Int) / 1000 * j ≤ (2 ^ 63 - 1 : Int) / 1000 * 1000 := Int.mul_le_mul_of_nonneg_left h2 (by decide)
      have h4 : (2 ^ 63 - 1 : Int) / 1000 * 1000 ≤ 2 ^ 63 - 1 := by decide
      omega
    have e2 : (2 ^ 63 - 1 : Int) / 1000 ≥ 1000 := by decide
    omega
  · have : z.length * j.toNat ≤ 1000 * 1000 := Nat.mul_le_mul h3 (by omega)
    have hs : (sizeLine : Nat) = 16777216 := sizeLine_eq
    show decide (z.length * j.toNat > sizeLine) = false
    exact decide_eq_false (by omega)
  · unfold strMul at q
    by_cases c1 : j < 1
    · rw [if_pos c1] at q ⊢
      exact ⟨Nat.zero_le _, .str Str.empty, H, I.tok _, ⟨_, rfl⟩, q⟩
    · rw [if_neg c1] at q ⊢
      by_cases c2 : (j == 1 || z.length == 0) = true
      · rw [if_pos c2] at q ⊢
        exact ⟨.str z, H, I, ⟨_, rfl⟩, q⟩
      · rw [if_neg c2] at q ⊢
        have hz : (⟨(List.replicate j.toNat z.cps).foldl (· ++ ·) #[]⟩ : Str).length ≤ sizeLine := by
          show ((List.replicate j.toNat z.cps).foldl (· ++ ·) #[]).size ≤ sizeLine
          rw [rep_size]
          have h4 : z.cps.size ≤ 1000 := h3
          have : j.toNat * z.cps.size ≤ 1000 * 1000 := Nat.mul_le_mul (by omega) h4
          have hs : (sizeLine : Nat) = 16777216 := sizeLine_eq
          simp
          omega
        exact ⟨hz, .str _, H, I.tok _, ⟨_, rfl⟩, q⟩
def rMulAny : R2 := fun x y H Q => rI CMul (fun i j => .int (i * j)) x y H Q ∨ ∃ z j, x = .str z ∧ y = .int j ∧ (-1000 ≤ j ∧ j ≤ 1000 ∧ z.length ≤ 1000) ∧ Q (.str (strMul z j)) H
theorem op_mulAny {X : Cx} : OpR X (binaryOp .Mult) rMulAny := op_mul.or op_mulStr
section
variable {K : PySem.W.Frag} {cl : Nat → Addr}
/-- *: numbers, a text and a number -/
def fMul : D → D → Sto → Out D := fun x y S => match x, y with
  | .int i, .int j => if cMul i j = true then .ok (.int (i * j)) S else .bad
  | .str z, .int j => if -1000 ≤ j ∧ j ≤ 1000 ∧ z.length ≤ 1000 then .ok (.str (strMul z j)) S else .bad
  | _, _ => .bad
theorem d_mul : OpD K cl rMulAny fMul := by
  intro w x y vx vy W Q ok rx ry p
  unfold fMul at p
  split at p
  · rename_i i j
    split at p
    · rename_i h
      refine .inl ⟨i, j, rx, ry, ?_, p w _ (Af.refl ok) rfl rfl⟩
      unfold cMul at h
      unfold CMul
      simpa using h
    · exact p.elim
  · rename_i z j
    split at p
    · rename_i h
      exact .inr ⟨z, j, rx, ry, h, p w _ (Af.refl ok) rfl rfl⟩
    · exact p.elim
  · exact p.elim
def cDiv (i j : Int) : Bool := decide (0 < j) && decide (j < 1073741824)
def fDiv := fII cDiv fun i j => i / j
theorem d_div : OpD K cl (rI CDiv fun i j => .int (i / j)) fDiv := d_II fun i j h => by
  unfold cDiv at h
  unfold CDiv
  simpa using h
def fMod := fII (fun _ j => decide (0 < j)) fun i j => i % j
theorem d_mod : OpD K cl (rI (fun _ j => 0 < j) fun i j => .int (i % j)) fMod := d_II fun i j h => of_decide_eq_true h
def cPow (i j : Int) : Bool := decide (0 ≤ j) && (decide (j ≤ 1000000) && decide (i.natAbs < 2 ^ 64))
def fPow := fII cPow fun i j => i ^ j.toNat
theorem d_pow : OpD K cl (rI CPow fun i j => .int (i ^ j.toNat)) fPow := d_II fun i j h => by
  unfold cPow at h
  unfold CPow
  simpa using h
def fNeg : D → Sto → Out D := fun x S => match x with
  | .int i => .ok (.int (-i)) S
  | _ => .bad
theorem d_neg : UnD K cl (rU fun i => .int (-i)) fNeg := by
  intro w x vx W Q ok rx p
  unfold fNeg at p
  split at p
  · rename_i i
    exact ⟨i, rx, p w _ (Af.refl ok) rfl rfl⟩
  · exact p.elim

/-! ### < <= > >= -/
def strLt (a b : Str) : Bool := decide (a.cps.toList < b.cps.toList)
def fCmp (g : Int → Int → Bool) (h : Str → Str → Bool) : D → D → Sto → Out D := fun x y S => match x, y with
  | .int i, .int j => .ok (.bl (g i j)) S
  | .str i, .str j => .ok (.bl (h i j)) S
  | _, _ => .bad
def rCmp (g : Int → Int → Bool) (h : Str → Str → Bool) : R2 := fun x y H Q => (∃ i j, x = .int i ∧ y = .int j ∧ Q (.bl (g i j)) H) ∨ ∃ i j, x = .str i ∧ y = .str j ∧ Q (.bl (h i j)) H
theorem d_cmp {g : Int → Int → Bool} {h : Str → Str → Bool} : OpD K cl (rCmp g h) (fCmp g h) := by
  intro w x y vx vy W Q ok rx ry p
  unfold fCmp at p
  split at p
  · rename_i i j
    exact .inl ⟨i, j, rx, ry, p w _ (Af.refl ok) rfl rfl⟩
  · rename_i i j
    exact .inr ⟨i, j, rx, ry, p w _ (Af.refl ok) rfl rfl⟩
  · exact p.elim
end
def fLt := fCmp (fun i j => decide (i < j)) fun a b => decide (a.cps.toList < b.cps.toList)
def fLe := fCmp (fun i j => decide (i ≤ j)) fun a b => !decide (b.cps.toList < a.cps.toList)
def fGt := fCmp (fun i j => decide (j < i)) fun a b => decide (b.cps.toList < a.cps.toList)
def fGe := fCmp (fun i j => decide (j ≤ i)) fun a b => !decide (a.cps.toList < b.cps.toList)
section
variable {X : Cx}
theorem op_ltAny : OpR X (compareOp .Lt) (rCmp (fun i j => decide (i < j)) fun a b => decide (a.cps.toList < b.cps.toList)) := op_lt.or op_lt_str
theorem op_leAny : OpR X (compareOp .LtE) (rCmp (fun i j => decide (i ≤ j)) fun a b => !decide (b.cps.toList < a.cps.toList)) := op_le.or op_le_str
theorem op_gtAny : OpR X (compareOp .Gt) (rCmp (fun i j => decide (j < i)) fun a b => decide (b.cps.toList < a.cps.toList)) := op_gt.or op_gt_str
theorem op_geAny : OpR X (compareOp .GtE) (rCmp (fun i j => decide (j ≤ i)) fun a b => !decide (a.cps.toList < b.cps.toList)) := op_ge.or op_ge_str
end

/-! ### == != in, of data without dicts and objects -/
mutual
def pd : D → PyData
  | .non => .none
  | .bl b => .bool b
  | .int i => .int i
  | .str x => .str x
  | .lst xs => .list (pds xs)
  | .rol xs => .list (pds xs)
  | .tup xs => .tuple (pds xs)
  | .dic _ _ => .dict []
  | .obj _ _ _ => .dict []
  | .ptr _ => .dict []
def pds : List D → List PyData
  | [] => []
  | d :: ds => pd d :: pds ds
end
section
variable {K : PySem.W.Frag} {cl : Nat → Addr} {w : Wd}
mutual
theorem dp_of (ok : w.Ok K cl) : ∀ (d : D) (v : V), (pd d).canLay0 = true → Rep K cl w.F w.m d v → Dp K w.H v (pd d)
  | .non, v, _, r => by cases (show v = .non from r); exact .non
  | .bl b, v, _, r => by cases (show v = .bl b from r); exact .bl b
  | .int i, v, _, r => by cases (show v = .int i from r); exact .int i
  | .str x, v, _, r => by cases (show v = .str x from r); exact .str x
  | .lst ds, v, h, ⟨a, xs, e, t, r⟩ => by subst e; exact .lst (.of (t.at ok)) (dps_of ok ds xs h r)
  | .rol ds, v, h, ⟨a, xs, e, t, r⟩ => by subst e; exact .lst (sq_here ok t) (dps_of ok ds xs h r)
  | .tup ds, v, h, ⟨a, xs, e, t, r⟩ => by subst e; exact .tup (t.here ok) (dps_of ok ds xs h r)
  | .dic _ _, _, h, _ => by cases h
  | .obj _ _ _, _, h, _ => by cases h
  | .ptr _, _, h, _ => by cases h
theorem dps_of (ok : w.Ok K cl) : ∀ (ds : List D) (vs : List V), PyData.canLayAll0 (pds ds) = true → Reps K cl w.F w.m ds vs → DpAll K w.H vs (pds ds)
  | [], vs, _, r => by cases (show vs = [] from r); exact .nil
  | d :: ds, vs, h, ⟨v, us, e, r, q⟩ => by
    subst e
    have h' : (pd d).canLay0 = true ∧ PyData.canLayAll0 (pds ds) = true := by
      have z : ((pd d).canLay0 && PyData.canLayAll0 (pds ds)) = true := h
      simpa using z
    exact .cons (dp_of ok d v h'.1 r) (dps_of ok ds us h'.2 q)
end
theorem dp_deref {d : D} {v : V} (ok : w.Ok K cl) (h : SeqAt.shaped (pd (deref d w.S)) = true) (r : RV K cl w d v) : Dp K w.H v (pd (deref d w.S)) := by
  have hc := SeqAt.canLay_of_shaped h
  cases e : deref d w.S with
  | lst xs =>
    rw [e] at hc
    obtain ⟨a, vs, ev, h1, h2⟩ := deref_lst ok r e
    subst ev
    exact .lst (.of h1) (dps_of ok xs vs hc h2)
  | tup xs =>
    rw [e] at hc
    obtain ⟨a, vs, ev, h1, h2⟩ := deref_tup ok r e
    subst ev
    exact .tup h1 (dps_of ok xs vs hc h2)
  | rol xs =>
    rw [e] at hc
    obtain ⟨a, vs, ev, h1, h2⟩ := deref_rol ok r e
    subst ev
    exact .lst h1 (dps_of ok xs vs hc h2)
  | int i => cases deref_int ok r e; exact .int i
  | str i => cases deref_str ok r e; exact .str i
  | non =>
    have : d = .non := by
      unfold deref at e
      split at e
      · split at e
        · rename_i c hcc
          subst e
          obtain ⟨b, eb, _⟩ := r
          exact (ok.cell _ b _ eb hcc).2.elim
        · cases e
      · exact e
    subst this
    cases (show v = .non from r)
    exact .non
  | bl b =>
    have : d = .bl b := by
      unfold deref at e
      split at e
      · split at e
        · rename_i c hcc
          subst e
          obtain ⟨b, eb, _⟩ := r
          exact (ok.cell _ b _ eb hcc).2.elim
        · cases e
      · exact e
    subst this
    cases (show v = .bl b from r)
    exact .bl b
  | dic ks vs => rw [e] at hc; cases hc
  | obj c ns vs => rw [e] at hc; cases hc
  | ptr i => rw [e] at hc; cases hc
def fEqG (neg : Bool) : D → D → Sto → Out D := fun x y S => if (SeqAt.shaped (pd (deref x S)) && SeqAt.shaped (pd (deref y S))) = true then .ok (.bl (xor neg (PyData.eqv (pd (deref x S)) (pd (deref y S))))) S else .bad
def fEq := fEqG false
def fNe := fEqG true
theorem d_eq : OpD K cl (rEqD K) fEq := by
  intro w x y vx vy W Q ok rx ry p
  unfold fEq fEqG at p
  split at p
  · rename_i h
    have h' : SeqAt.shaped (pd (deref x w.S)) = true ∧ SeqAt.shaped (pd (deref y w.S)) = true := by simpa using h
    refine ⟨_, _, dp_deref ok h'.1 rx, dp_deref ok h'.2 ry, h'.1, h'.2, ?_⟩
    have := p w _ (Af.refl ok) rfl rfl
    simpa using this
  · exact p.elim
theorem d_ne : OpD K cl (rNeD K) fNe := by
  intro w x y vx vy W Q ok rx ry p
  unfold fNe fEqG at p
  split at p
  · rename_i h
    have h' : SeqAt.shaped (pd (deref x w.S)) = true ∧ SeqAt.shaped (pd (deref y w.S)) = true := by simpa using h
    refine ⟨_, _, dp_deref ok h'.1 rx, dp_deref ok h'.2 ry, h'.1, h'.2, ?_⟩
    have := p w _ (Af.refl ok) rfl rfl
    simpa using this
  · exact p.elim
end
/-- x in a list, a tuple -/
def rInA (K : PySem.W.Frag) (neg : Bool) : R2 := fun x y H Q => ∃ d ds, Dp K H x d ∧ (Dp K H y (.list ds) ∨ Dp K H y (.tuple ds)) ∧ SeqAt.shaped d = true ∧ SeqAt.shaped (.list ds) = true ∧ Q (.bl (xor neg (ds.any fun z => PyData.eqv z d))) H
theorem roomIn {A : Around} {ds : List PyData} {d : PyData} (hd : SeqAt.shaped d = true) (hu : A.units + 65 < cLine) : A.units + 1 + min (PyData.depthAll ds) d.depth < cLine := by
  have h1 := SeqAt.depth_of_shaped hd
  have h2 : min (PyData.depthAll ds) d.depth ≤ d.depth := Nat.min_le_right _ _
  omega
theorem shaped_lt {ds : List PyData} (h : SeqAt.shaped (.list ds) = true) : SeqAt.shaped (.tuple ds) = true := h
section
variable {X : Cx}
theorem op_inA (hu : X.A.units + 65 < cLine) : OpR X (compareOp .In) (rInA X.K false) := by
  intro pins s σ H x y v u Q I rx ry h
  obtain ⟨d, ds, hd, he, sd, se, q⟩ := h
  obtain ⟨as, r1⟩ := Dp.reads I d x v hd rx
  rcases he with he | he
  · obtain ⟨bs, r2⟩ := Dp.reads I (.list ds) y u he ry
    exact SeqAt.in_list_reads r2 r1 (SeqAt.canLay_of_shaped se) (SeqAt.canLay_of_shaped sd) (roomIn (ds := ds) sd hu) ⟨.bl _, H, I, rfl, by simpa using q⟩
  · obtain ⟨bs, r2⟩ := Dp.reads I (.tuple ds) y u he ry
    exact SeqAt.in_tuple_reads r2 r1 (SeqAt.canLay_of_shaped se) (SeqAt.canLay_of_shaped sd) (roomIn (ds := ds) sd hu) ⟨.bl _, H, I, rfl, by simpa using q⟩
theorem op_notInA (hu : X.A.units + 65 < cLine) : OpR X (compareOp .NotIn) (rInA X.K true) := by
  intro pins s σ H x y v u Q I rx ry h
  obtain ⟨d, ds, hd, he, sd, se, q⟩ := h
  obtain ⟨as, r1⟩ := Dp.reads I d x v hd rx
  rcases he with he | he
  · obtain ⟨bs, r2⟩ := Dp.reads I (.list ds) y u he ry
    exact SeqAt.notIn_list_reads r2 r1 (SeqAt.canLay_of_shaped se) (SeqAt.canLay_of_shaped sd) (roomIn (ds := ds) sd hu) ⟨.bl _, H, I, rfl, by simpa using q⟩
  · obtain ⟨bs, r2⟩ := Dp.reads I (.tuple ds) y u he ry
    exact SeqAt.notIn_tuple_reads r2 r1 (SeqAt.canLay_of_shaped se) (SeqAt.canLay_of_shaped sd) (roomIn (ds := ds) sd hu) ⟨.bl _, H, I, rfl, by simpa using q⟩
end
def fInG (neg : Bool) : D → D → Sto → Out D := fun x y S => match itemsOf y S with
  | some xs => if (SeqAt.shaped (pd (deref x S)) && SeqAt.shaped (.list (pds xs))) = true then .ok (.bl (xor neg ((pds xs).any fun z => PyData.eqv z (pd (deref x S))))) S else .bad
  | none => .bad
section
variable {K : PySem.W.Frag} {cl : Nat → Addr}
theorem d_in {neg : Bool} : OpD K cl (rInA K neg) (fInG neg) := by
  intro w x y vx vy W Q ok rx ry p
  unfold fInG at p
  split at p
  · rename_i xs hx
    split at p
    · rename_i h
      have h' : SeqAt.shaped (pd (deref x w.S)) = true ∧ SeqAt.shaped (.list (pds xs)) = true := by simpa using h
      refine ⟨_, pds xs, dp_deref ok h'.1 rx, ?_, h'.1, h'.2, p w _ (Af.refl ok) rfl rfl⟩
      obtain ⟨a, vs, ev, hs, r⟩ := itemsOf_at ok ry hx
      subst ev
      have hc : PyData.canLayAll0 (pds xs) = true := SeqAt.canLay_of_shaped h'.2
      rcases hs with hs | hs
      · exact .inl (.lst hs (dps_of ok xs vs hc r))
      · exact .inr (.tup hs (dps_of ok xs vs hc r))
    · exact p.elim
  · exact p.elim
/-- is None -/
def isNonD : D → Bool
  | .non => true
  | _ => false
def fIsN (neg : Bool) : D → D → Sto → Out D := fun x y S => match y with
  | .non => .ok (.bl (xor neg (isNonD x))) S
  | _ => .bad
theorem non_iff {w : Wd} {x : D} {v : V} (r : RV K cl w x v) : decide (v = .non) = (isNonD x) := by
  cases x with
  | non => cases (show v = .non from r); rfl
  | bl b => cases (show v = .bl b from r); rfl
  | int b => cases (show v = .int b from r); rfl
  | str b => cases (show v = .str b from r); rfl
  | tup _ => obtain ⟨_, _, e, _⟩ := r; subst e; rfl
  | lst _ => obtain ⟨_, _, e, _⟩ := r; subst e; rfl
  | rol _ => obtain ⟨_, _, e, _⟩ := r; subst e; rfl
  | dic _ _ => obtain ⟨_, _, _, e, _⟩ := r; subst e; rfl
  | obj _ _ _ => obtain ⟨_, _, _, e, _⟩ := r; subst e; rfl
  | ptr _ => obtain ⟨_, _, e⟩ := r; subst e; rfl
theorem d_isN : OpD K cl (fun x y H Q => y = .non ∧ Q (.bl (decide (x = .non))) H) (fIsN false) := by
  intro w x y vx vy W Q ok rx ry p
  unfold fIsN at p
  split at p
  · refine ⟨ry, ?_⟩
    rw [non_iff rx]
    have := p w _ (Af.refl ok) rfl rfl
    simpa using this
  · exact p.elim
theorem d_notN : OpD K cl (fun x y H Q => y = .non ∧ Q (.bl (!decide (x = .non))) H) (fIsN true) := by
  intro w x y vx vy W Q ok rx ry p
  unfold fIsN at p
  split at p
  · refine ⟨ry, ?_⟩
    rw [non_iff rx]
    have := p w _ (Af.refl ok) rfl rfl
    simpa using this
  · exact p.elim
end
end Dl
set_option Elab.async false
set_option linter.all false
set_option maxRecDepth 100000
set_option maxHeartbeats 400000
/-! The data layer: calls of built-ins, methods of built-ins. -/
namespace Dl
open PySem L2

section
variable {X : Cx} {cl : Nat → Addr} {W : WX} {e o : Expr} {es : List Expr} {da : DA} {dx : DE} {x : Str} {p pos apos cpos : Pos} {id T : String} {r : List V → Hp → VK → Prop} {f : List D → Sto → Out D}
def dB (f : List D → Sto → Out D) (da : DA) : DE := fun t S => (da t S).bind f
theorem le_B (hr : CallD X.K cl r f) {σ : L2.St} {H : Hp} {Q : VK} (q : upE X.K cl W (dB f da) σ H Q) : tCB r (upA X.K cl W da) σ H Q := by
  obtain ⟨w, t, eH, ok, en, p⟩ := q
  exact ⟨w, t, eH, ok, en, OPost.bind p fun xs w1 vs a1 r1 p1 => hr w1 xs vs _ Q a1.ok r1 p1⟩
theorem u_B (hc : CallR X (.builtin id) r) (hr : CallD X.K cl r f) (hg : Gl X x) (hm : X.mg x = none) (hv : bootBuiltins x = some (.builtin id)) (ha : UA X cl W (e :: es) da) (hn : x ≠ "__name__" := by decide) (hdb : (x == ("__debug__" : Str)) = false := by decide)
    (he : starEach (e :: es) X.env = (false, eval e X.env) :: starEach es X.env := by rfl) (hpl : (backTo pos (starEach es X.env)).any (·.1) = false := by rfl) : UE X cl W (.Call (.Name x p) (e :: es) [] pos) (dB f da) :=
  weakE (pe_callB hc hg hm hv ha hn hdb he hpl) fun _ _ _ => le_B hr
theorem u_T (hc : CallR X (.type T) r) (hr : CallD X.K cl r f) (hg : Gl X x) (hm : X.mg x = none) (hv : bootBuiltins x = some (.type T)) (ha : UA X cl W (e :: es) da) (hn : x ≠ "__name__" := by decide) (hdb : (x == ("__debug__" : Str)) = false := by decide)
    (he : starEach (e :: es) X.env = (false, eval e X.env) :: starEach es X.env := by rfl) (hpl : (backTo pos (starEach es X.env)).any (·.1) = false := by rfl) : UE X cl W (.Call (.Name x p) (e :: es) [] pos) (dB f da) :=
  weakE (pe_callTy hc hg hm hv ha hn hdb he hpl) fun _ _ _ => le_B hr

/-! methods of built-ins -/
def tyD (T : String) (x : D) (S : Sto) : Bool := match deref x S with
  | .str _ => T == "str"
  | .lst _ => T == "list"
  | .rol _ => T == "list"
  | .dic _ _ => (T == "dict") && (match x with | .ptr _ => true | _ => false)
  | _ => false
theorem tyD_ok {K : PySem.W.Frag} {w : Wd} {x : D} {v : V} (ok : w.Ok K cl) (r : RV K cl w x v) (h : tyD T x w.S = true) : tyV K T v w.H := by
  unfold tyD at h
  split at h
  · rename_i z hz
    cases deref_str ok r hz
    exact eq_of_beq h
  · rename_i xs hz
    obtain ⟨a, vs, ev, h1, _⟩ := deref_lst ok r hz
    subst ev
    exact .inl ⟨eq_of_beq h, vs, .of h1⟩
  · rename_i xs hz
    obtain ⟨a, vs, ev, h1, _⟩ := deref_rol ok r hz
    subst ev
    exact .inl ⟨eq_of_beq h, vs, h1⟩
  · rename_i ks vs hz
    obtain ⟨h1, h2⟩ := Bool.and_eq_true_iff.mp h
    have hT : T = "dict" := eq_of_beq h1
    cases x with
    | ptr i =>
      cases hS : w.S[i]? with
      | none => unfold deref at hz; dsimp only at hz; rw [hS] at hz; cases hz
      | some oc =>
        cases oc with
        | none => unfold deref at hz; dsimp only at hz; rw [hS] at hz; cases hz
        | some c =>
          unfold deref at hz
          dsimp only at hz
          rw [hS] at hz
          have hz : c = .dic ks vs := hz
          subst hz
          obtain ⟨a, ea, ev⟩ := r
          obtain ⟨_, es, q, _⟩ := ok.cell i a _ ea hS
          subst ev
          exact .inr (.inr (.inl ⟨hT, .inl ⟨es, q⟩⟩))
    | _ => cases h2
  · cases h
def MtD (K : PySem.W.Frag) (cl : Nat → Addr) (r : V → List V → Hp → VK → Prop) (f : D → List D → Sto → Out D) : Prop :=
  ∀ (w : Wd) (x : D) (xs : List D) (v : V) (vs : List V) (W : Value → Option Addr → Hp → Prop) (Q : VK), w.Ok K cl → RV K cl w x v → RL K cl w xs vs → OPost K cl (RV K cl) W w Q (f x xs w.S) → r v vs w.H Q
def dBM (T : String) (f : D → List D → Sto → Out D) (dx : DE) (da : DA) : DE := fun t S => (dx t S).bind fun x S1 => if tyD T x S1 = true then (da t S1).bind fun xs S2 => f x xs S2 else .bad
variable {name : Str} {rm : V → List V → Hp → VK → Prop} {fm : D → List D → Sto → Out D}
theorem u_bm (pa : PlainAttrs T) (slot : Slot T name id) (hty : typeOf (.builtin id) = pure (.type "method_descriptor")) (hm : MtR X id rm) (hd : MtD X.K cl rm fm) (ho : UE X cl W o dx) (ha : UA X cl W (e :: es) da)
    (hbase : attributeBase o name X.env (eval o X.env) = eval o X.env := by rfl)
    (hfew : ((backTo cpos (starEach (e :: es) X.env)).all (fun x => !x.1) && (backToKw cpos (keywordEach [] X.env)).all (fun x => x.1.isSome)
      && decide ((e :: es).length + ([] : List Keyword).length + (if ([] : List Keyword).isEmpty then 0 else 1) < 30)) = true := by rfl)
    (hline : (apos.endLine == cpos.line) = true := by rfl) (hs : starEach (e :: es) X.env = (false, eval e X.env) :: starEach es X.env := by rfl) (hplain : (backTo cpos (starEach es X.env)).any (·.1) = false := by rfl) :
    UE X cl W (.Call (.Attribute o name apos) (e :: es) [] cpos) (dBM T fm dx da) := weakE (pe_bm pa slot hty hm ho ha hbase hfew hline hs hplain) fun σ H Q ⟨w, t, eH, ok, en, p⟩ => by
  refine ⟨w, t, eH, ok, en, OPost.bind p fun x w1 v a1 r1 p1 => ?_⟩
  split at p1
  · rename_i ht
    exact ⟨tyD_ok a1.ok r1 ht, w1, t, rfl, a1.ok, en.af a1, OPost.bind p1 fun xs w2 vs a2 r2 p2 => hd w2 x xs v vs _ Q a2.ok (Rep.af a2 r1) r2 p2⟩
  · exact p1.elim
theorem u_bm0 (pa : PlainAttrs T) (slot : Slot T name id) (hty : typeOf (.builtin id) = pure (.type "method_descriptor")) (hm : MtR X id rm) (hd : MtD X.K cl rm fm) (ho : UE X cl W o dx)
    (hbase : attributeBase o name X.env (eval o X.env) = eval o X.env := by rfl) (hline : (apos.endLine == cpos.line) = true := by rfl) : UE X cl W (.Call (.Attribute o name apos) [] [] cpos) (dBM T fm dx aNil) :=
  weakE (pe_bm0 pa slot hty hm ho hbase hline) fun σ H Q ⟨w, t, eH, ok, en, p⟩ => by
    refine ⟨w, t, eH, ok, en, OPost.bind p fun x w1 v a1 r1 p1 => ?_⟩
    split at p1
    · rename_i ht
      exact ⟨tyD_ok a1.ok r1 ht, hd w1 x [] v [] _ Q a1.ok r1 rfl p1⟩
    · exact p1.elim
end

/-! ### the built-ins, one by one -/
section
variable {K : PySem.W.Frag} {cl : Nat → Addr}
theorem RL.one {w : Wd} {d : D} {vs : List V} (r : RL K cl w [d] vs) : ∃ v, vs = [v] ∧ RV K cl w d v := by
  obtain ⟨v, ws, e, r1, r2⟩ := r
  have : ws = [] := r2
  subst this
  exact ⟨v, e, r1⟩
theorem RL.two {w : Wd} {d d' : D} {vs : List V} (r : RL K cl w [d, d'] vs) : ∃ v v', vs = [v, v'] ∧ RV K cl w d v ∧ RV K cl w d' v' := by
  obtain ⟨v, ws, e, r1, r2⟩ := r
  obtain ⟨v', e', r3⟩ := RL.one r2
  subst e'
  exact ⟨v, v', e, r1, r3⟩
/-- len -/
def bLen : List D → Sto → Out D := fun xs S => match xs with
  | [x] => (match deref x S with
    | .str z => if z.length ≤ sizeLine then .ok (.int z.length) S else .bad
    | .lst ys => .ok (.int ys.length) S
    | .rol ys => .ok (.int ys.length) S
    | .tup ys => .ok (.int ys.length) S
    | .dic ks _ => .ok (.int ks.length) S
    | _ => .bad)
  | _ => .bad
def rLenA (K : PySem.W.Frag) : List V → Hp → VK → Prop := fun xs H Q => (∃ x n, xs = [x] ∧ LenV K x H n ∧ Q (.int n) H) ∨ ∃ a kvs, xs = [V.ref a] ∧ Rd H a (.dK kvs) ∧ Q (.int (kvs.length : Nat)) H
theorem call_lenDR {X : Cx} : CallR X (.builtin "len") (fun xs H Q => ∃ a kvs, xs = [V.ref a] ∧ Rd H a (.dK kvs) ∧ Q (.int (kvs.length : Nat)) H) := by
  intro pins s σ H xs us Q I r h
  obtain ⟨a, kvs, rfl, ha, q⟩ := h
  obtain ⟨u, rfl, ru⟩ := vals1 r
  cases ru
  exact d_len I ha fun t s' I' => ⟨.int kvs.length, H, I', ⟨t, rfl⟩, q⟩
theorem c_len : CallD K cl (rLenA K) bLen := by
  intro w xs vs W Q ok r p
  unfold bLen at p
  split at p
  · rename_i x
    obtain ⟨v, rfl, r1⟩ := RL.one r
    split at p
    · rename_i z h
      cases deref_str ok r1 h
      split at p
      · rename_i hz
        exact .inl ⟨_, z.length, rfl, ⟨hz, rfl⟩, p w _ (Af.refl ok) rfl rfl⟩
      · exact p.elim
    · rename_i ys h
      obtain ⟨a, us, ev, h1, h2⟩ := deref_lst ok r1 h
      subst ev
      exact .inl ⟨_, us.length, rfl, .inl ⟨us, .of h1, rfl⟩, p w _ (Af.refl ok) rfl (by rw [← Reps.length h2]; rfl)⟩
    · rename_i ys h
      obtain ⟨a, us, ev, h1, h2⟩ := deref_rol ok r1 h
      subst ev
      exact .inl ⟨_, us.length, rfl, .inl ⟨us, h1, rfl⟩, p w _ (Af.refl ok) rfl (by rw [← Reps.length h2]; rfl)⟩
    · rename_i ys h
      obtain ⟨a, us, ev, h1, h2⟩ := deref_tup ok r1 h
      subst ev
      exact .inl ⟨_, us.length, rfl, .inr ⟨us, h1, rfl⟩, p w _ (Af.refl ok) rfl (by rw [← Reps.length h2]; rfl)⟩
    · rename_i ks us h
      obtain ⟨a, es, ev, h1, h2, h3⟩ := deref_dic ok r1 h
      subst ev
      refine .inr ⟨a, es, rfl, h1, p w _ (Af.refl ok) rfl ?_⟩
      have := Reps.length h2
      rw [List.length_map] at this
      rw [← this]
      rfl
    · exact p.elim
  · exact p.elim
/-- int -/
def bInt : List D → Sto → Out D := fun xs S => match xs with
  | [.int i] => .ok (.int i) S
  | [.bl b] => .ok (.int (if b then 1 else 0)) S
  | [.str z] => (match PySem.intText? z with
    | some n => if z.length ≤ 640 then .ok (.int n) S else .bad
    | none => .bad)
  | _ => .bad
def rIntA : List V → Hp → VK → Prop := fun xs H Q => ((∃ i, xs = [.int i] ∧ Q (.int i) H) ∨ ∃ k, xs = [.bl k] ∧ Q (.int (if k then 1 else 0)) H) ∨ ∃ a n, xs = [.str a] ∧ PySem.intText? a = some n ∧ a.length ≤ 640 ∧ Q (.int n) H
theorem c_int : CallD K cl rIntA bInt := by
  intro w xs vs W Q ok r p
  unfold bInt at p
  split at p
  · rename_i i
    obtain ⟨v, rfl, r1⟩ := RL.one r
    cases (show v = .int i from r1)
    exact .inl (.inl ⟨i, rfl, p w _ (Af.refl ok) rfl rfl⟩)
  · rename_i b
    obtain ⟨v, rfl, r1⟩ := RL.one r
    cases (show v = .bl b from r1)
    exact .inl (.inr ⟨b, rfl, p w _ (Af.refl ok) rfl rfl⟩)
  · rename_i z
    obtain ⟨v, rfl, r1⟩ := RL.one r
    cases (show v = .str z from r1)
    split at p
    · rename_i n hn
      split at p
      · rename_i hl
        exact .inr ⟨z, n, rfl, hn, hl, p w _ (Af.refl ok) rfl rfl⟩
      · exact p.elim
    · exact p.elim
  · exact p.elim
theorem call_intA {X : Cx} : CallR X (.type "int") rIntA := call_int1.or call_int_str
/-- str of a number -/
def bStr : List D → Sto → Out D := fun xs S => match xs with
  | [.int i] => if i.natAbs.log2 < 1920 then .ok (.str (toString i)) S else .bad
  | _ => .bad
theorem c_str : CallD K cl (fun xs H Q => ∃ i, xs = [.int i] ∧ i.natAbs.log2 < 1920 ∧ Q (.str (toString i)) H) bStr := by
  intro w xs vs W Q ok r p
  unfold bStr at p
  split at p
  · rename_i i
    obtain ⟨v, rfl, r1⟩ := RL.one r
    cases (show v = .int i from r1)
    split at p
    · rename_i hl
      exact ⟨i, rfl, hl, p w _ (Af.refl ok) rfl rfl⟩
    · exact p.elim
  · exact p.elim
/-- list(..) of a list, a tuple, a dict's keys -/
def bList : List D → Sto → Out D := fun xs S => match xs with
  | [x] => (match deref x S with
    | .lst ys => .ok (.lst ys) S
    | .rol ys => .ok (.lst ys) S
    | .tup ys => .ok (.lst ys) S
    | .dic ks _ => .ok (.lst ks) S
    | _ => .bad)
  | _ => .bad
def rListA (K : PySem.W.Frag) : List V → Hp → VK → Prop := fun xs H Q => (∃ p ys, xs = [.ref p] ∧ (SqL K H p ys ∨ SqT K H p ys) ∧ ∀ l, H l = none → Q (.ref l) (upd H l (.lst ys))) ∨
  ∃ (a : Addr) (kvs : List (Key × V)), xs = [.ref a] ∧ Rd H a (.dK kvs) ∧ ∀ p, H p = none → Q (.ref p) (upd H p (.lst (kvs.map fun kv => kV kv.1)))
theorem call_listA {X : Cx} (hc : X.calm = true) : CallR X (.type "list") (rListA X.K) := call_list_of.or (call_listD hc)
theorem c_list : CallD K cl (rListA K) bList := by
  intro w xs vs W Q ok r p
  unfold bList at p
  split at p
  · rename_i x
    obtain ⟨v, rfl, r1⟩ := RL.one r
    split at p
    · rename_i ys h
      obtain ⟨a, us, ev, h1, h2⟩ := deref_lst ok r1 h
      subst ev
      exact .inl ⟨a, us, rfl, .inl (.of h1), fun l hl => p ⟨upd w.H l (.lst us), upd w.F l (.lst us), w.m, w.S⟩ (.ref l) (ok.laid hl) rfl (laidLst ok hl h2)⟩
    · rename_i ys h
      obtain ⟨a, us, ev, h1, h2⟩ := deref_rol ok r1 h
      subst ev
      exact .inl ⟨a, us, rfl, .inl h1, fun l hl => p ⟨upd w.H l (.lst us), upd w.F l (.lst us), w.m, w.S⟩ (.ref l) (ok.laid hl) rfl (laidLst ok hl h2)⟩
    · rename_i ys h
      obtain ⟨a, us, ev, h1, h2⟩ := deref_tup ok r1 h
      subst ev
      exact .inl ⟨a, us, rfl, .inr h1, fun l hl => p ⟨upd w.H l (.lst us), upd w.F l (.lst us), w.m, w.S⟩ (.ref l) (ok.laid hl) rfl (laidLst ok hl h2)⟩
    · rename_i ks us h
      obtain ⟨a, es, ev, h1, h2, h3⟩ := deref_dic ok r1 h
      subst ev
      exact .inr ⟨a, es, rfl, h1, fun l hl => p ⟨upd w.H l (.lst _), upd w.F l (.lst _), w.m, w.S⟩ (.ref l) (ok.laid hl) rfl (laidLst ok hl h2)⟩
    · exact p.elim
  · exact p.elim
/-- tuple(..) of a list, a tuple -/
def bTuple : List D → Sto → Out D := fun xs S => match xs with
  | [x] => (match deref x S with
    | .lst ys => .ok (.tup ys) S
    | .rol ys => .ok (.tup ys) S
    | .tup ys => .ok (.tup ys) S
    | _ => .bad)
  | _ => .bad
theorem c_tuple : CallD K cl (fun xs H Q => ∃ p ys, xs = [.ref p] ∧ ((SqL K H p ys ∧ ∀ l, H l = none → Q (.ref l) (upd H l (.tup ys))) ∨ (SqT K H p ys ∧ Q (.ref p) H))) bTuple := by
  intro w xs vs W Q ok r p
  unfold bTuple at p
  split at p
  · rename_i x
    obtain ⟨v, rfl, r1⟩ := RL.one r
    split at p
    · rename_i ys h
      obtain ⟨a, us, ev, h1, h2⟩ := deref_lst ok r1 h
      subst ev
      exact ⟨a, us, rfl, .inl ⟨.of h1, fun l hl => p ⟨upd w.H l (.tup us), upd w.F l (.tup us), w.m, w.S⟩ (.ref l) (ok.laid hl) rfl (laidTup ok hl h2)⟩⟩
    · rename_i ys h
      obtain ⟨a, us, ev, h1, h2⟩ := deref_rol ok r1 h
      subst ev
      exact ⟨a, us, rfl, .inl ⟨h1, fun l hl => p ⟨upd w.H l (.tup us), upd w.F l (.tup us), w.m, w.S⟩ (.ref l) (ok.laid hl) rfl (laidTup ok hl h2)⟩⟩
    · rename_i ys h
      obtain ⟨a, us, ev, h1, h2⟩ := deref_tup ok r1 h
      have e1 := deref_tup_eq ok r1 h
      subst ev
      exact ⟨a, us, rfl, .inr ⟨h1, p w _ (Af.refl ok) rfl (by rw [← e1]; exact r1)⟩⟩
    · exact p.elim
  · exact p.elim
/-- all, any of a list of bools -/
def boolsOf : List D → Option (List Bool)
  | [] => some []
  | .bl b :: r => (boolsOf r).map (b :: ·)
  | _ :: _ => none
theorem boolsOf_rep {w : Wd} : ∀ {xs : List D} {vs : List V} {bs : List Bool}, RL K cl w xs vs → boolsOf xs = some bs → vs = bs.map V.bl
  | [], vs, bs, r, h => by
    cases h
    exact r
  | d :: ds, vs, bs, ⟨v, us, e, r, q⟩, h => by
    cases d with
    | bl b =>
      unfold boolsOf at h
      cases hb : boolsOf ds with
      | none => rw [hb] at h; cases h
      | some cs =>
        rw [hb] at h
        cases h
        cases (show v = .bl b from r)
        rw [e, boolsOf_rep q hb]
        rfl
    | _ => cases h
def bAllAny (g : List Bool → Bool) : List D → Sto → Out D := fun xs S => match xs with
  | [x] => (match seqOf x S with
    | some ys => (match boolsOf ys with
      | some bs => .ok (.bl (g bs)) S
      | none => .bad)
    | none => .bad)
  | _ => .bad
def bAll := bAllAny fun bs => bs.all id
def bAny := bAllAny fun bs => bs.any id
theorem c_allAny {g : List Bool → Bool} : CallD K cl (fun vs H Q => ∃ (a : Addr) (bs : List Bool), vs = [V.ref a] ∧ SqL K H a (bs.map V.bl) ∧ Q (.bl (g bs)) H) (bAllAny g) := by
  intro w xs vs W Q ok r p
  unfold bAllAny at p
  split at p
  · rename_i x
    obtain ⟨v, rfl, r1⟩ := RL.one r
    split at p
    · rename_i ys h
      split at p
      · rename_i bs hb
        obtain ⟨a, us, ev, h1, h2⟩ := seqOf_at ok r1 h
        subst ev
        rw [boolsOf_rep h2 hb] at h1
        exact ⟨a, bs, rfl, h1, p w _ (Af.refl ok) rfl rfl⟩
      · exact p.elim
    · exact p.elim
  · exact p.elim
theorem c_all : CallD K cl (rAll K) bAll := c_allAny
theorem c_any : CallD K cl (rAny K) bAny := c_allAny
/-- max, min of two numbers -/
def bMax2 : List D → Sto → Out D := fun xs S => match xs with
  | [.int i, .int j] => .ok (.int (if j > i then j else i)) S
  | _ => .bad
def bMin2 : List D → Sto → Out D := fun xs S => match xs with
  | [.int i, .int j] => .ok (.int (if j < i then j else i)) S
  | _ => .bad
theorem c_max2 : CallD K cl (fun xs H Q => ∃ i j, xs = [.int i, .int j] ∧ Q (.int (if j > i then j else i)) H) bMax2 := by
  intro w xs vs W Q ok r p
  unfold bMax2 at p
  split at p
  · rename_i i j
    obtain ⟨v, v', rfl, r1, r2⟩ := RL.two r
    exact ⟨i, j, by rw [show v = .int i from r1, show v' = .int j from r2], p w _ (Af.refl ok) rfl rfl⟩
  · exact p.elim
theorem c_min2 : CallD K cl (fun xs H Q => ∃ i j, xs = [.int i, .int j] ∧ Q (.int (if j < i then j else i)) H) bMin2 := by
  intro w xs vs W Q ok r p
  unfold bMin2 at p
  split at p
  · rename_i i j
    obtain ⟨v, v', rfl, r1, r2⟩ := RL.two r
    exact ⟨i, j, by rw [show v = .int i from r1, show v' = .int j from r2], p w _ (Af.refl ok) rfl rfl⟩
  · exact p.elim

/-! ### methods of lists -/
def mAppend : D → List D → Sto → Out D := fun x xs S => match x, xs with
  | .ptr i, [y] => (match S[i]? with
    | some (some (.lst ys)) => if ys.length < sizeLine then .ok .non (S.set i (some (.lst (ys ++ [y])))) else .bad
    | _ => .bad)
  | _, _ => .bad
theorem m_append : MtD K cl rAppend mAppend := by
  intro w x xs v vs W Q ok rx rs p
  unfold mAppend at p
  split at p
  · rename_i i y
    split at p
    · rename_i ys hi
      split at p
      · rename_i hl
        obtain ⟨u, rfl, r1⟩ := RL.one rs
        obtain ⟨a, ea, ev⟩ := rx
        obtain ⟨_, us, c1, c2⟩ := ok.cell i a _ ea hi
        refine ⟨a, us, u, ev, rfl, c1, by rw [← Reps.length c2]; exact hl, ?_⟩
        exact p ⟨upd w.H a (.lst (us ++ [u])), w.F, w.m, _⟩ .non (ok.cellSet (d := .lst (ys ++ [y])) ea hi ⟨_, upd_same, Reps.append c2 (Reps.one r1)⟩) rfl rfl
      · exact p.elim
    · exact p.elim
  · exact p.elim
def mExtend : D → List D → Sto → Out D := fun x xs S => match x, xs with
  | .ptr i, [y] => (match S[i]?, deref y S with
    | some (some (.lst ys)), .lst zs => if ys.length + zs.length ≤ sizeLine then .ok .non (S.set i (some (.lst (ys ++ zs)))) else .bad
    | _, _ => .bad)
  | _, _ => .bad
theorem m_extend : MtD K cl rExtend mExtend := by
  intro w x xs v vs W Q ok rx rs p
  unfold mExtend at p
  split at p
  · rename_i i y
    split at p
    · rename_i ys zs hi hy
      split at p
      · rename_i hl
        obtain ⟨u, rfl, r1⟩ := RL.one rs
        obtain ⟨a, ea, ev⟩ := rx
        obtain ⟨_, us, c1, c2⟩ := ok.cell i a _ ea hi
        obtain ⟨b, ws, eb, h1, h2⟩ := deref_lst ok r1 hy
        subst eb
        refine ⟨a, b, us, ws, ev, rfl, c1, h1, by rw [← Reps.length c2, ← Reps.length h2]; exact hl, ?_⟩
        exact p ⟨upd w.H a (.lst (us ++ ws)), w.F, w.m, _⟩ .non (ok.cellSet (d := .lst (ys ++ zs)) ea hi ⟨_, upd_same, Reps.append c2 h2⟩) rfl rfl
      · exact p.elim
    · exact p.elim
  · exact p.elim
def mPop : D → List D → Sto → Out D := fun x xs S => match x, xs with
  | .ptr i, [] => (match S[i]? with
    | some (some (.lst ys)) => (match ys[ys.length - 1]? with
      | some y => .ok y (S.set i (some (.lst ys.dropLast)))
      | none => .bad)
    | _ => .bad)
  | _, _ => .bad
theorem Reps.dropLast {F : Hp} {m : List Addr} {ys : List D} {us : List V} (r : Reps K cl F m ys us) : Reps K cl F m ys.dropLast us.dropLast := by
  rw [List.dropLast_eq_take, List.dropLast_eq_take, r.length]
  exact r.take _
theorem m_pop : MtD K cl rPop mPop := by
  intro w x xs v vs W Q ok rx rs p
  unfold mPop at p
  split at p
  · rename_i i
    split at p
    · rename_i ys hi
      split at p
      · rename_i y hy
        have : vs = [] := rs
        subst this
        obtain ⟨a, ea, ev⟩ := rx
        obtain ⟨_, us, c1, c2⟩ := ok.cell i a _ ea hi
        obtain ⟨u, hu, ru⟩ := c2.get hy
        refine ⟨a, us, u, ev, rfl, c1, by rw [← Reps.length c2]; exact hu, ?_⟩
        exact p ⟨upd w.H a (.lst us.dropLast), w.F, w.m, _⟩ u (ok.cellSet (d := .lst ys.dropLast) ea hi ⟨_, upd_same, Reps.dropLast c2⟩) rfl ru
      · exact p.elim
    · exact p.elim
  · exact p.elim

/-! ### methods of texts -/
def strsOf : List D → Option (List Str)
  | [] => some []
  | .str z :: r => (strsOf r).map (z :: ·)
  | _ :: _ => none
theorem strsOf_rep {w : Wd} : ∀ {xs : List D} {vs : List V} {zs : List Str}, RL K cl w xs vs → strsOf xs = some zs → vs = zs.map V.str
  | [], vs, zs, r, h => by
    cases h
    exact r
  | d :: ds, vs, zs, ⟨v, us, e, r, q⟩, h => by
    cases d with
    | str z =>
      unfold strsOf at h
      cases hb : strsOf ds with
      | none => rw [hb] at h; cases h
      | some cs =>
        rw [hb] at h
        cases h
        cases (show v = .str z from r)
        rw [e, strsOf_rep q hb]
        rfl
    | _ => cases h
theorem strs_rep {F : Hp} {m : List Addr} : ∀ zs : List Str, Reps K cl F m (zs.map D.str) (zs.map V.str)
  | [] => rfl
  | z :: zs => ⟨_, _, rfl, rfl, strs_rep zs⟩
def mJoin : D → List D → Sto → Out D := fun x xs S => match x, xs with
  | .str a, [y] => (match itemsOf y S with
    | some ys => (match strsOf ys with
      | some zs => if (zs.map (·.length)).sum + zs.length * a.length ≤ 16777216 then .ok (.str (Txt.join a zs)) S else .bad
      | none => .bad)
    | none => .bad)
  | _, _ => .bad
theorem m_join : MtD K cl (fun x xs H Q => ∃ a p, ∃ ys : List Str, x = .str a ∧ xs = [.ref p] ∧ (SqL K H p (ys.map V.str) ∨ SqT K H p (ys.map V.str)) ∧
    (ys.map (·.length)).sum + ys.length * a.length ≤ 16777216 ∧ Q (.str (Txt.join a ys)) H) mJoin := by
  intro w x xs v vs W Q ok rx rs p
  unfold mJoin at p
  split at p
  · rename_i a y
    obtain ⟨u, rfl, r1⟩ := RL.one rs
    split at p
    · rename_i ys hy
      split at p
      · rename_i zs hz
        split at p
        · rename_i hl
          obtain ⟨b, us, eb, h1, h2⟩ := itemsOf_at ok r1 hy
          subst eb
          rw [strsOf_rep h2 hz] at h1
          exact ⟨a, b, zs, rx, rfl, h1, hl, p w _ (Af.refl ok) rfl rfl⟩
        · exact p.elim
      · exact p.elim
    · exact p.elim
  · exact p.elim
def mSplit : D → List D → Sto → Out D := fun x xs S => match x, xs with
  | .str a, [.str b] => if (b.length == 0) = false ∧ a.length + 2 ≤ sizeLine then .ok (.lst ((Txt.split a b).map D.str)) S else .bad
  | _, _ => .bad
theorem m_split : MtD K cl (fun x xs H Q => ∃ a b, x = .str a ∧ xs = [.str b] ∧ (b.length == 0) = false ∧ a.length + 2 ≤ sizeLine ∧ rNewStrs (Txt.split a b) H Q) mSplit := by
  intro w x xs v vs W Q ok rx rs p
  unfold mSplit at p
  split at p
  · rename_i a b
    obtain ⟨u, rfl, r1⟩ := RL.one rs
    split at p
    · rename_i h
      exact ⟨a, b, rx, by rw [show u = .str b from r1], h.1, h.2, fun l hl => p ⟨upd w.H l _, upd w.F l _, w.m, w.S⟩ (.ref l) (ok.laid hl) rfl (laidLst ok hl (strs_rep _))⟩
    · exact p.elim
  · exact p.elim
def mStrip : D → List D → Sto → Out D := fun x xs S => match x, xs with
  | .str a, [.str b] => if a.length ≤ sizeLine then .ok (.str (Txt.stripChars a b)) S else .bad
  | _, _ => .bad
theorem m_strip : MtD K cl (fun x xs H Q => ∃ a b, x = .str a ∧ xs = [.str b] ∧ a.length ≤ sizeLine ∧ Q (.str (Txt.stripChars a b)) H) mStrip := by
  intro w x xs v vs W Q ok rx rs p
  unfold mStrip at p
  split at p
  · rename_i a b
    obtain ⟨u, rfl, r1⟩ := RL.one rs
    split at p
    · rename_i h
      exact ⟨a, b, rx, by rw [show u = .str b from r1], h, p w _ (Af.refl ok) rfl rfl⟩
    · exact p.elim
  · exact p.elim
end
end Dl
set_option Elab.async false
set_option linter.all false
set_option maxRecDepth 100000
set_option maxHeartbeats 400000
/-! The data layer: list comprehensions, enumerate, zip, stars. -/
namespace Dl
open PySem L2

section
variable {X : Cx} {cl : Nat → Addr} {W : WX} {e o : Expr} {es : List Expr} {da : DA} {dx : DE} {p pos apos cpos tpos : Pos}
/-! ### the block of a comprehension -/
/-- no exception leaves -/
abbrev W0 : WX := fun _ _ _ _ => False
def wipeD (vs : List Nat) (t : Lc) : Lc := vs.foldr (fun i t => t.set i none) t
theorem EnvR.wipe {K : PySem.W.Frag} {w : Wd} {t : Lc} {σ : L2.St} (en : EnvR K cl w t σ) : ∀ vs : List Nat, EnvR K cl w (wipeD vs t) (L2.wipe σ vs)
  | [] => en
  | v :: vs => (EnvR.wipe en vs).unset
/-- a test or none -/
abbrev UTs (X : Cx) (cl : Nat → Addr) (ifs : List Expr) (db : DB) : Prop := PTs X ifs (upB X.K cl W0 db)
def bYes : DB := fun _ S => .ok true S
theorem ts_nil : UTs X cl [] bYes := ⟨fun pins s σ H Q I ⟨w, t, eH, ok, en, p⟩ => (pts_nil (X := X)).run pins s σ H Q I (eH ▸ p w true (Af.refl ok) rfl rfl)⟩
theorem ts_one {c : Expr} {db : DB} (h : UB X cl W0 c db) : UTs X cl [c] db := pts_one h
/-- the list that is made -/
structure Growing (K : PySem.W.Frag) (cl : Nat → Addr) (w0 w : Wd) (D : Addr) (acc : List Dl.D) : Prop where
  af : Af K cl w0 w
  nf : w.F D = none
  nl : ¬ Live w D
  at_ : ∃ vs, w.H D = some (.lst vs) ∧ Reps K cl w.F w.m acc vs
theorem Growing.step {K : PySem.W.Frag} {w0 w w1 : Wd} {D : Addr} {acc : List Dl.D} (g : Growing K cl w0 w D acc) (x : Af K cl w w1) : Growing K cl w0 w1 D acc := by
  obtain ⟨vs, e, r⟩ := g.at_
  refine ⟨g.af.trans x, ?_, fun l => ?_, vs, x.keep _ _ e g.nl, Reps.af x r⟩
  · cases q : w1.F D with
    | none => rfl
    | some o =>
      rcases x.new D o q with z | z | z
      · rw [g.nf] at z; cases z
      · rw [e] at z; cases z
      · exact (g.nl z).elim
  · rcases x.liv D l with z | z
    · exact g.nl z
    · rw [e] at z; cases z
/-- an object that nobody knows yet is written -/
theorem Af.blind {K : PySem.W.Frag} {w0 w : Wd} {p : Addr} {o u : HO} (x : Af K cl w0 w) (h0 : w0.H p = none) (nf : w.F p = none) (nl : ¬ Live w p) : Af K cl w0 ⟨upd w.H p u, w.F, w.m, w.S⟩ where
  ok := ⟨x.ok.len, fun a y h => by
      have n : a ≠ p := ne_of_none h nf
      show upd w.H p u a = _
      rw [upd_ne n]; exact x.ok.sub a y h,
    fun i a d h1 h2 => by
      obtain ⟨c1, c2⟩ := x.ok.cell i a d h1 h2
      have n : a ≠ p := fun e => nl ⟨i, d, e ▸ h1, h2⟩
      exact ⟨c1, c2.of (upd_ne n) (fun _ _ h => h) fun _ _ h => h⟩, x.ok.inj⟩
  fz := x.fz
  mu := x.mu
  keep := fun a y h n => by
    show upd w.H p u a = _
    rw [upd_ne (ne_of_none h h0)]
    exact x.keep a y h n
  new := x.new
  liv := x.liv
/-- .. and is known from now on -/
theorem Af.known {K : PySem.W.Frag} {w0 w : Wd} {p : Addr} {u : HO} (x : Af K cl w0 w) (h0 : w0.H p = none) (nf : w.F p = none) (nl : ¬ Live w p) (hp : w.H p = some u) : Af K cl w0 ⟨w.H, upd w.F p u, w.m, w.S⟩ where
  ok := ⟨x.ok.len, fun a y h => by
      by_cases n : a = p
      · subst n
        have h' : upd w.F a u a = some y := h
        rw [upd_same] at h'
        exact hp.trans h'
      · have h' : upd w.F p u a = some y := h
        rw [upd_ne n] at h'
        exact x.ok.sub a y h',
    fun i a d h1 h2 => by
      obtain ⟨c1, c2⟩ := x.ok.cell i a d h1 h2
      have n : a ≠ p := fun e => nl ⟨i, d, e ▸ h1, h2⟩
      exact ⟨by show upd w.F p u a = _; rw [upd_ne n]; exact c1, c2.of rfl (fun b y hb => by show upd w.F p u b = _; rw [upd_ne (ne_of_none hb nf)]; exact hb) fun _ _ h => h⟩, x.ok.inj⟩
  fz := fun a o h => by show upd w.F p u a = _; rw [upd_ne (ne_of_none (x.fz a o h) nf)]; exact x.fz a o h
  mu := x.mu
  keep := x.keep
  new := fun a y h => by
    by_cases n : a = p
    · subst n; exact .inr (.inl h0)
    · have h' : upd w.F p u a = some y := h
      rw [upd_ne n] at h'
      exact x.new a y h'
  liv := x.liv
/-- .. and is a changeable thing from now on -/
theorem Af.celled {K : PySem.W.Frag} {w0 w : Wd} {p : Addr} {d : Dl.D} (x : Af K cl w0 w) (h0 : w0.H p = none) (nf : w.F p = none) (nl : ¬ Live w p) (hp : CellAt K cl w.H w.F w.m p d) : Af K cl w0 ⟨w.H, w.F, w.m ++ [p], w.S ++ [some d]⟩ where
  ok := ⟨by show (w.m ++ [p]).length = (w.S ++ [some d]).length; rw [List.length_append, List.length_append, x.ok.len]; rfl, x.ok.sub,
    fun i a e h1 h2 => by
      have q1 : (w.m ++ [p])[i]? = some a := h1
      have q2 : (w.S ++ [some d])[i]? = some (some e) := h2
      by_cases hi : i < w.m.length
      · rw [List.getElem?_append_left hi] at q1
        rw [List.getElem?_append_left (by rw [← x.ok.len]; exact hi)] at q2
        obtain ⟨c1, c2⟩ := x.ok.cell i a e q1 q2
        exact ⟨c1, c2.of rfl (fun _ _ h => h) fun j b hb => pre_get hb⟩
      · rw [List.getElem?_append_right (by omega)] at q1
        rw [List.getElem?_append_right (by rw [← x.ok.len]; omega)] at q2
        rw [← x.ok.len] at q2
        cases hz : i - w.m.length with
        | zero =>
          rw [hz] at q1 q2
          simp at q1 q2
          subst q1; subst q2
          exact ⟨nf, hp.of rfl (fun _ _ h => h) fun j b hb => pre_get hb⟩
        | succ k => rw [hz] at q1; simp at q1,
    fun i j a e e' h1 h2 h3 h4 => by
      have q1 : (w.m ++ [p])[i]? = some a := h1
      have q2 : (w.m ++ [p])[j]? = some a := h2
      have q3 : (w.S ++ [some d])[i]? = some (some e) := h3
      have q4 : (w.S ++ [some d])[j]? = some (some e') := h4
      have old : ∀ k (e : Dl.D), k < w.m.length → (w.m ++ [p])[k]? = some a → (w.S ++ [some d])[k]? = some (some e) → w.m[k]? = some a ∧ w.S[k]? = some (some e) ∧ a ≠ p := fun k e hk r1 r2 => by
        rw [List.getElem?_append_left hk] at r1
        rw [List.getElem?_append_left (by rw [← x.ok.len]; exact hk)] at r2
        exact ⟨r1, r2, fun z => nl ⟨k, e, z ▸ r1, r2⟩⟩
      have nw : ∀ k, ¬ k < w.m.length → (w.m ++ [p])[k]? = some a → k = w.m.length ∧ a = p := fun k hk r1 => by
        rw [List.getElem?_append_right (by omega)] at r1
        cases hz : k - w.m.length with
        | zero => rw [hz] at r1; simp at r1; exact ⟨by omega, r1.symm⟩
        | succ n => rw [hz] at r1; simp at r1
      by_cases hi : i < w.m.length <;> by_cases hj : j < w.m.length
      · exact x.ok.inj i j a e e' (old i e hi q1 q3).1 (old j e' hj q2 q4).1 (old i e hi q1 q3).2.1 (old j e' hj q2 q4).2.1
      · exact absurd (nw j hj q2).2 (old i e hi q1 q3).2.2
      · exact absurd (nw i hi q1).2 (old j e' hj q2 q4).2.2
      · rw [(nw i hi q1).1, (nw j hj q2).1]⟩
  fz := x.fz
  mu := fun i a h => pre_get (x.mu i a h)
  keep := x.keep
  new := x.new
  liv := fun a ⟨i, e, h1, h2⟩ => by
    have q1 : (w.m ++ [p])[i]? = some a := h1
    have q2 : (w.S ++ [some d])[i]? = some (some e) := h2
    by_cases hi : i < w.m.length
    · rw [List.getElem?_append_left hi] at q1
      rw [List.getElem?_append_left (by rw [← x.ok.len]; exact hi)] at q2
      exact x.liv a ⟨i, e, q1, q2⟩
    · rw [List.getElem?_append_right (by omega)] at q1
      cases hz : i - w.m.length with
      | zero => rw [hz] at q1; simp at q1; rw [← q1]; exact .inr h0
      | succ n => rw [hz] at q1; simp at q1

/-! ### list comprehensions -/
/-- an exception within: not served -/
def Out.calm {α : Type} (o : Out α) : Out α := match o with
  | .exc _ _ _ _ => .bad
  | o => o
theorem OPost.bindTo {α β γ δ : Type} {K : PySem.W.Frag} {R : Wd → α → β → Prop} {R' : Wd → γ → δ → Prop} {W W' : Value → Option Addr → Hp → Prop} {w0 w : Wd} {Q : β → Hp → Prop} {P : δ → Hp → Prop} {o : Out γ} {k : γ → Sto → Out α}
    (p : OPost K cl R W w0 Q (o.calm.bind k)) (h : ∀ a w1 b, Af K cl w w1 → R' w1 a b → OPost K cl R W w0 Q (k a w1.S) → P b w1.H) : OPost K cl R' W' w P o := by
  cases o with
  | ok a S =>
    intro w1 b x e r
    refine h a w1 b x r ?_
    rw [e]
    exact p
  | exc c ns vs S => exact p.elim
  | bad => exact p.elim
def lcLoop (g : Tg) (dt : DB) (de : DE) (t : Lc) : List Dl.D → List Dl.D → Sto → Out (List Dl.D)
  | [], acc, S => .ok acc S
  | d :: r, acc, S => match g.set d t with
    | none => .bad
    | some t1 => (dt t1 S).calm.bind fun b S1 => if b = true then (de t1 S1).calm.bind fun y S2 => if acc.length < sizeLine then lcLoop g dt de t r (acc ++ [y]) S2 else .bad else lcLoop g dt de t r acc S1
def dLcG (vs : List Nat) (g : Tg) (di : DA) (dt : DB) (de : DE) : DA := fun t S => (di t S).bind fun xs S1 => lcLoop g dt de (wipeD vs t) xs [] S1
/-- a list that changes no more; one that is still to change -/
def dLc (vs : List Nat) (g : Tg) (di : DA) (dt : DB) (de : DE) : DE := fun t S => (di t S).bind fun xs S1 => (lcLoop g dt de (wipeD vs t) xs [] S1).bind fun ys S2 => .ok (.lst ys) S2
def dLcC (vs : List Nat) (g : Tg) (di : DA) (dt : DB) (de : DE) : DE := fun t S => (di t S).bind fun xs S1 => (lcLoop g dt de (wipeD vs t) xs [] S1).bind fun ys S2 => .ok (.ptr S2.length) (S2 ++ [some (.lst ys)])
theorem lc_run {K : PySem.W.Frag} {vs : List Nat} {g : Tg} {dt : DB} {de : DE} {σ : L2.St} {w : Wd} {t : Lc} {xs : List Dl.D} {J : It} {Q : VK} {fin : List Dl.D → Sto → Out Dl.D} {W' : Value → Option Addr → Hp → Prop} {Dd : Addr} (hsl : ∀ i ∈ g.slots, i ∈ vs)
    (ok : w.Ok K cl) (en : EnvR K cl w t σ) (hJ : Wk K cl w xs J) (hD : w.H Dd = none) (p : OPost K cl (RV K cl) W' w Q ((lcLoop g dt de (wipeD vs t) xs [] w.S).bind fin))
    (done : ∀ (ys : List Dl.D) (w2 : Wd), Growing K cl w w2 Dd ys → OPost K cl (RV K cl) W' w Q (fin ys w2.S) → Q (.ref Dd) w2.H) :
    ∃ Wi : Nat → Nat → Hp → Prop, (∃ m, Wi 0 m (upd w.H Dd (.lst []))) ∧ ∀ i m H, Wi i m H →
      (J.stop i H ∧ Q (.ref Dd) H) ∨ (J.go i H ∧ ∃ Nx : Hp → Prop, (∀ H', Nx H' → ∃ m', m' < m ∧ Wi (i + 1) m' H') ∧ ∀ x H', J.yld i H x H' → tgT K g x (L2.wipe σ vs) H' fun σ2 H2 => L2.wipe σ2 vs = L2.wipe σ vs ∧ upB K cl W0 dt σ2 H2 fun b H3 =>
        if b = true then upE K cl W0 de σ2 H3 fun y H4 => ∃ acc, H4 Dd = some (.lst acc) ∧ acc.length < sizeLine ∧ Nx (upd H4 Dd (.lst (acc ++ [y]))) else Nx H3) := by
  have a0 := ok.untold (u := .lst []) hD
  have nl0 : ¬ Live w Dd := fun ⟨i, d, h1, h2⟩ => by
    obtain ⟨x, hx⟩ := (ok.cell i Dd d h1 h2).2.there
    rw [hD] at hx; cases hx
  refine ⟨fun i m H => ∃ w2 acc, w2.H = H ∧ Growing K cl w w2 Dd acc ∧ m = xs.length - i ∧ i ≤ xs.length ∧ OPost K cl (RV K cl) W' w Q ((lcLoop g dt de (wipeD vs t) (xs.drop i) acc w2.S).bind fin),
    ⟨_, ⟨upd w.H Dd (.lst []), w.F, w.m, w.S⟩, [], rfl, ⟨a0, ok.free hD, nl0, [], upd_same, rfl⟩, rfl, Nat.zero_le _, p⟩, ?_⟩
  rintro i m H ⟨w2, acc, rfl, gr, rfl, hi, p2⟩
  by_cases hl : i < xs.length
  · obtain ⟨go, yl⟩ := (hJ w2 gr.af i).1 _ (List.getElem?_eq_getElem hl)
    rw [List.drop_eq_getElem_cons hl] at p2
    refine .inr ⟨go, fun H' => ∃ w6 acc', w6.H = H' ∧ Growing K cl w w6 Dd acc' ∧ OPost K cl (RV K cl) W' w Q ((lcLoop g dt de (wipeD vs t) (xs.drop (i + 1)) acc' w6.S).bind fin),
      fun H' ⟨w6, acc', e6, g6, p6⟩ => ⟨xs.length - (i + 1), by omega, w6, acc', e6, g6, rfl, hl, p6⟩, fun v H' hy => ?_⟩
    obtain ⟨w3, rfl, a3, e3, rv⟩ := yl v H' hy
    have p2' : OPost K cl (RV K cl) W' w Q ((match g.set xs[i] (wipeD vs t) with
      | none => .bad
      | some t1 => (dt t1 w2.S).calm.bind fun b S1 => if b = true then (de t1 S1).calm.bind fun y S2 => if acc.length < sizeLine then lcLoop g dt de (wipeD vs t) (xs.drop (i + 1)) (acc ++ [y]) S2 else .bad else lcLoop g dt de (wipeD vs t) (xs.drop (i + 1)) acc S1 : Out (List Dl.D)).bind fin) := p2
    have g3 := gr.step a3
    split at p2'
    · exact p2'.elim
    · rename_i t1 et
      refine Tg.ok a3.ok (((en.af gr.af).af a3).wipe vs) rv et fun σ' en' hw => ⟨?_, ?_⟩
      · rw [hw vs hsl, wipe_wipe (fun i h => h)]
      rw [← e3] at p2'
      have asc : ∀ {α β γ : Type} (o : Out α) (f : α → Sto → Out β) (h : β → Sto → Out γ), (o.bind f).bind h = o.bind fun a S => (f a S).bind h := fun o f h => by cases o <;> rfl
      rw [asc] at p2'
      refine ⟨w3, t1, rfl, a3.ok, en', OPost.bindTo p2' fun b w4 b' a4 eb p4 => ?_⟩
      cases (show b = b' from eb)
      cases b with
      | false => exact ⟨w4, acc, rfl, g3.step a4, p4⟩
      | true =>
        rw [if_pos rfl] at p4 ⊢
        rw [asc] at p4
        refine ⟨w4, t1, rfl, a4.ok, en'.af a4, OPost.bindTo p4 fun y w5 vy a5 ry p5 => ?_⟩
        have g5 := (g3.step a4).step a5
        obtain ⟨us, eu, ru⟩ := g5.at_
        split at p5
        · rename_i hsz
          refine ⟨us, eu, by rw [← ru.length]; exact hsz, ⟨upd w5.H Dd (.lst (us ++ [vy])), w5.F, w5.m, w5.S⟩, acc ++ [y], rfl, ⟨Af.blind g5.af hD g5.nf g5.nl (o := .lst []), g5.nf, g5.nl, _, upd_same, ru.append (Reps.one ry)⟩, p5⟩
        · exact p5.elim
  · have e : i = xs.length := by omega
    subst e
    rw [List.drop_length] at p2
    exact .inl ⟨(hJ w2 gr.af _).2 (Nat.le_refl _), done acc w2 gr p2⟩
variable {dt : DB} {de : DE} {di : DA} {g : Tg} {elt tg iter : Expr} {ifs : List Expr} {scope : Scope} {own : List (Str × Nat)}
theorem le_lc {K : PySem.W.Frag} {vs : List Nat} {σ : L2.St} {H : Hp} {Q : VK} (hsl : ∀ i ∈ g.slots, i ∈ vs) (q : upE K cl W (dLc vs g di dt de) σ H Q) : tLc (upI K cl W di) (tgT K g) (upB K cl W0 dt) (upE K cl W0 de) vs σ H Q := by
  obtain ⟨w, t, eH, ok, en, p⟩ := q
  refine ⟨w, t, eH, ok, en, OPost.bind p fun xs w1 J a1 hJ p1 => fun Dd hD => ?_⟩
  refine lc_run hsl a1.ok (en.af a1) hJ hD p1 fun ys w2 gr p2 => ?_
  obtain ⟨us, eu, ru⟩ := gr.at_
  have z := Af.known gr.af hD gr.nf gr.nl eu
  exact p2 ⟨w2.H, upd w2.F Dd (.lst us), w2.m, w2.S⟩ (.ref Dd) z rfl ⟨Dd, us, rfl, upd_same, Reps.mono (fun b y hb => by show upd w2.F Dd _ b = _; rw [upd_ne (ne_of_none hb gr.nf)]; exact hb) (fun _ _ h => h) _ _ ru⟩
theorem le_lcC {K : PySem.W.Frag} {vs : List Nat} {σ : L2.St} {H : Hp} {Q : VK} (hsl : ∀ i ∈ g.slots, i ∈ vs) (q : upE K cl W (dLcC vs g di dt de) σ H Q) : tLc (upI K cl W di) (tgT K g) (upB K cl W0 dt) (upE K cl W0 de) vs σ H Q := by
  obtain ⟨w, t, eH, ok, en, p⟩ := q
  refine ⟨w, t, eH, ok, en, OPost.bind p fun xs w1 J a1 hJ p1 => fun Dd hD => ?_⟩
  refine lc_run hsl a1.ok (en.af a1) hJ hD p1 fun ys w2 gr p2 => ?_
  obtain ⟨us, eu, ru⟩ := gr.at_
  have z := Af.celled (d := .lst ys) gr.af hD gr.nf gr.nl ⟨us, eu, ru⟩
  exact p2 ⟨w2.H, w2.F, w2.m ++ [Dd], w2.S ++ [some (Dl.D.lst ys)]⟩ (.ref Dd) z rfl ⟨Dd, snoc_get gr.af.ok.len.symm, rfl⟩
variable (vs : List Nat)
theorem u_lc (hv : own.map (·.2) = vs) (hsl : ∀ i ∈ g.slots, i ∈ vs) (hc : X.calm = true) (hN : X.N.Nodup) (hi : UI X cl W tg iter di) (ok : BlkOk X.N X.env.scope scope own)
    (hg : ∀ (s : Shared) (H : Hp) (C : Addr) (cls : List (Str × Addr)) (fp : List Addr), PG (X.blk s H scope (compEnvC scope cls C X.env) fp) tg (tgT X.K g)) (ht : ∀ (s : Shared) (H : Hp) (C : Addr) (cls : List (Str × Addr)) (fp : List Addr), UTs (X.blk s H scope (compEnvC scope cls C X.env) fp) cl ifs dt)
    (he : ∀ (s : Shared) (H : Hp) (C : Addr) (cls : List (Str × Addr)) (fp : List Addr), UE (X.blk s H scope (compEnvC scope cls C X.env) fp) cl W0 elt de) (hs : ∀ x, foldedSetIterable iter X.env x = pure x := by intro _; rfl) :
    UE X cl W (.ListComp elt [⟨tg, iter, ifs, 0⟩] scope pos) (dLc vs g di dt de) := weakE (pe_lc hc hN hi ok hg ht he hs) fun σ H Q q => by
  rw [hv]
  exact le_lc hsl q
theorem u_lcC (hv : own.map (·.2) = vs) (hsl : ∀ i ∈ g.slots, i ∈ vs) (hc : X.calm = true) (hN : X.N.Nodup) (hi : UI X cl W tg iter di) (ok : BlkOk X.N X.env.scope scope own)
    (hg : ∀ (s : Shared) (H : Hp) (C : Addr) (cls : List (Str × Addr)) (fp : List Addr), PG (X.blk s H scope (compEnvC scope cls C X.env) fp) tg (tgT X.K g)) (ht : ∀ (s : Shared) (H : Hp) (C : Addr) (cls : List (Str × Addr)) (fp : List Addr), UTs (X.blk s H scope (compEnvC scope cls C X.env) fp) cl ifs dt)
    (he : ∀ (s : Shared) (H : Hp) (C : Addr) (cls : List (Str × Addr)) (fp : List Addr), UE (X.blk s H scope (compEnvC scope cls C X.env) fp) cl W0 elt de) (hs : ∀ x, foldedSetIterable iter X.env x = pure x := by intro _; rfl) :
    UE X cl W (.ListComp elt [⟨tg, iter, ifs, 0⟩] scope pos) (dLcC vs g di dt de) := weakE (pe_lc hc hN hi ok hg ht he hs) fun σ H Q q => by
  rw [hv]
  exact le_lcC hsl q
/-- y = [..] on one line, y a local -/
theorem s_setLc {i : Nat} {y : Str} {py spos : Pos} (hv : own.map (·.2) = vs) (hsl : ∀ i ∈ g.slots, i ∈ vs) (hc : X.calm = true) (hN : X.N.Nodup) (hy : X.N[i]? = some y) (hyl : X.env.scope.names.lookup y = some .local)
    (hsw : swapsWith (.ListComp elt [⟨tg, iter, ifs, 0⟩] scope pos) (some (.Name y py)) spos.line X.env = pure true) (hi : UI X cl W tg iter di) (ok : BlkOk X.N X.env.scope scope own)
    (hg : ∀ (s : Shared) (H : Hp) (C : Addr) (cls : List (Str × Addr)) (fp : List Addr), PG (X.blk s H scope (compEnvC scope cls C X.env) fp) tg (tgT X.K g)) (ht : ∀ (s : Shared) (H : Hp) (C : Addr) (cls : List (Str × Addr)) (fp : List Addr), UTs (X.blk s H scope (compEnvC scope cls C X.env) fp) cl ifs dt)
    (he : ∀ (s : Shared) (H : Hp) (C : Addr) (cls : List (Str × Addr)) (fp : List Addr), UE (X.blk s H scope (compEnvC scope cls C X.env) fp) cl W0 elt de) (hs : ∀ x, foldedSetIterable iter X.env x = pure x := by intro _; rfl) :
    US X cl W (.Assign [.Name y py] (.ListComp elt [⟨tg, iter, ifs, 0⟩] scope pos) spos) (dSet i (dLc vs g di dt de)) := weakS (ps_setLc hc hN hy hyl hsw hi ok hg ht he hs) fun N σ H ⟨w, t, eH, hok, en, p⟩ => by
  rw [hv]
  exact le_lc hsl ⟨w, t, eH, hok, en, SPost.ofE p en fun d w1 v a1 rv en1 p1 => p1 w1 _ (Af.refl a1.ok) rfl (en1.set rv)⟩
theorem s_setLcC {i : Nat} {y : Str} {py spos : Pos} (hv : own.map (·.2) = vs) (hsl : ∀ i ∈ g.slots, i ∈ vs) (hc : X.calm = true) (hN : X.N.Nodup) (hy : X.N[i]? = some y) (hyl : X.env.scope.names.lookup y = some .local)
    (hsw : swapsWith (.ListComp elt [⟨tg, iter, ifs, 0⟩] scope pos) (some (.Name y py)) spos.line X.env = pure true) (hi : UI X cl W tg iter di) (ok : BlkOk X.N X.env.scope scope own)
    (hg : ∀ (s : Shared) (H : Hp) (C : Addr) (cls : List (Str × Addr)) (fp : List Addr), PG (X.blk s H scope (compEnvC scope cls C X.env) fp) tg (tgT X.K g)) (ht : ∀ (s : Shared) (H : Hp) (C : Addr) (cls : List (Str × Addr)) (fp : List Addr), UTs (X.blk s H scope (compEnvC scope cls C X.env) fp) cl ifs dt)
    (he : ∀ (s : Shared) (H : Hp) (C : Addr) (cls : List (Str × Addr)) (fp : List Addr), UE (X.blk s H scope (compEnvC scope cls C X.env) fp) cl W0 elt de) (hs : ∀ x, foldedSetIterable iter X.env x = pure x := by intro _; rfl) :
    US X cl W (.Assign [.Name y py] (.ListComp elt [⟨tg, iter, ifs, 0⟩] scope pos) spos) (dSet i (dLcC vs g di dt de)) := weakS (ps_setLc hc hN hy hyl hsw hi ok hg ht he hs) fun N σ H ⟨w, t, eH, hok, en, p⟩ => by
  rw [hv]
  exact le_lcC hsl ⟨w, t, eH, hok, en, SPost.ofE p en fun d w1 v a1 rv en1 p1 => p1 w1 _ (Af.refl a1.ok) rfl (en1.set rv)⟩
end

/-! ### enumerate, zip -/
section
variable {X : Cx} {cl : Nat → Addr} {W : WX} {e e2 : Expr} {de db : DE} {p pos tpos : Pos} {elts : List Expr} {kk : Nat}
def enumFrom' (i : Nat) : List D → List D
  | [] => []
  | d :: r => .tup [.int i, d] :: enumFrom' (i + 1) r
theorem enum_get : ∀ (xs : List D) (n i : Nat) {d : D}, (enumFrom' n xs)[i]? = some d → ∃ x, xs[i]? = some x ∧ d = .tup [.int (n + i : Nat), x]
  | [], n, i, d, h => by simp [enumFrom'] at h
  | x :: xs, n, 0, d, h => by
    simp [enumFrom'] at h
    exact ⟨x, rfl, by rw [← h]; rfl⟩
  | x :: xs, n, i + 1, d, h => by
    obtain ⟨y, h1, h2⟩ := enum_get xs (n + 1) i (by simpa [enumFrom'] using h)
    exact ⟨y, by simpa using h1, by rw [h2]; congr 3; omega⟩
theorem enum_len : ∀ (xs : List D) (n : Nat), (enumFrom' n xs).length = xs.length
  | [], _ => rfl
  | x :: xs, n => by rw [enumFrom', List.length_cons, List.length_cons, enum_len xs]
def iEn (de : DE) : DA := fun t S => (de t S).bind fun d S1 => match d with
  | .lst xs => .ok (enumFrom' 0 xs) S1
  | .rol xs => .ok (enumFrom' 0 xs) S1
  | _ => .bad
theorem rol_of {K : PySem.W.Frag} {w : Wd} {d : D} {v : V} {xs : List D} (ok : w.Ok K cl) (r : RV K cl w d v) (h : d = .lst xs ∨ d = .rol xs) : ∃ a vs, v = .ref a ∧ (∀ w1, Af K cl w w1 → SqL K w1.H a vs) ∧ RL K cl w xs vs := by
  rcases h with h | h
  · subst h
    obtain ⟨a, vs, ev, hl, rr⟩ := r
    exact ⟨a, vs, ev, fun w1 x => LL.here x.ok (hl.mono x.fz), rr⟩
  · subst h
    obtain ⟨a, vs, ev, hl, rr⟩ := r
    exact ⟨a, vs, ev, fun w1 x => sq_here x.ok (sqL_mono x.fz hl), rr⟩
theorem tup_laid {K : PySem.W.Frag} {w1 : Wd} {T : Addr} {ds : List D} {vs : List V} (ok : w1.Ok K cl) (hT : w1.H T = none) (r : RL K cl w1 ds vs) : ∃ w2 : Wd, w2.H = upd w1.H T (.tup vs) ∧ Af K cl w1 w2 ∧ w2.S = w1.S ∧ RV K cl w2 (.tup ds) (.ref T) :=
  ⟨⟨upd w1.H T (.tup vs), upd w1.F T (.tup vs), w1.m, w1.S⟩, rfl, ok.laid hT, rfl, laidTup ok hT r⟩
theorem i_enum (hg : Gl X "enumerate") (hm : X.mg "enumerate" = none) (h : UE X cl W e de) (hs : starEach [e] X.env = [(false, eval e X.env)] := by rfl) : UI X cl W (.Tuple elts kk tpos) (.Call (.Name "enumerate" p) [e] [] pos) (iEn de) := weakI (pi_enum hg hm (pa_cons h pa_nil hs) hs) fun σ H R ⟨w, t, eH, ok, en, p⟩ => by
  refine ⟨w, t, eH, ok, en, OPost.bind p fun d w1 v a1 r1 p1 => ?_⟩
  have go : ∀ xs, (d = .lst xs ∨ d = .rol xs) → OPost X.K cl (Wk X.K cl) (fun c d H' => W c d σ H') w1 R (.ok (enumFrom' 0 xs) w1.S) → ∃ a xs, [v] = [.ref a] ∧ SqL X.K w1.H a xs ∧ R (Ite X.K a) w1.H := fun xs hd p2 => by
    obtain ⟨a, vs, ev, hl, rr⟩ := rol_of a1.ok r1 hd
    subst ev
    refine ⟨a, vs, rfl, hl w1 (Af.refl a1.ok), p2 w1 _ (Af.refl a1.ok) rfl fun w2 x i => ⟨fun z hz => ?_, fun hi => ⟨vs, hl w2 x, by rw [enum_len] at hi; rw [← Reps.length rr]; exact hi⟩⟩⟩
    obtain ⟨y, hy, ez⟩ := enum_get xs 0 i hz
    obtain ⟨u, hu, ru⟩ := rr.get hy
    refine ⟨⟨vs, u, hl w2 x, hu⟩, fun v' H' ⟨T, y', e1, hT, e2, hall⟩ => ?_⟩
    have := hall vs (hl w2 x)
    rw [hu] at this
    cases this
    obtain ⟨w3, q1, q2, q3, q4⟩ := tup_laid (ds := [.int (i : Nat), y]) x.ok hT (Reps.cons (show Rep X.K cl w2.F w2.m (.int (i : Nat)) (.int (i : Nat)) from rfl) (Reps.one (Rep.af x ru)))
    refine ⟨w3, q1.trans e2.symm, q2, q3, ?_⟩
    rw [e1, ez, Nat.zero_add]
    exact q4
  split at p1
  · rename_i xs
    exact go xs (.inl rfl) p1
  · rename_i xs
    exact go xs (.inr rfl) p1
  · exact p1.elim
def zipD : List D → List D → List D
  | x :: xs, y :: ys => .tup [x, y] :: zipD xs ys
  | _, _ => []
theorem zip_get : ∀ (xs ys : List D) (i : Nat) {d : D}, (zipD xs ys)[i]? = some d → ∃ x y, xs[i]? = some x ∧ ys[i]? = some y ∧ d = .tup [x, y]
  | [], ys, i, d, h => by simp [zipD] at h
  | x :: xs, [], i, d, h => by simp [zipD] at h
  | x :: xs, y :: ys, 0, d, h => by
    simp [zipD] at h
    exact ⟨x, y, rfl, rfl, h.symm⟩
  | x :: xs, y :: ys, i + 1, d, h => by
    obtain ⟨a, b, h1, h2, h3⟩ := zip_get xs ys i (by simpa [zipD] using h)
    exact ⟨a, b, by simpa using h1, by simpa using h2, h3⟩
theorem zip_len : ∀ (xs ys : List D), (zipD xs ys).length = min xs.length ys.length
  | [], ys => by simp [zipD]
  | x :: xs, [] => by simp [zipD]
  | x :: xs, y :: ys => by rw [zipD, List.length_cons, zip_len xs ys, List.length_cons, List.length_cons]; omega
def iZp (da db : DE) : DA := fun t S => (da t S).bind fun x S1 => (db t S1).bind fun y S2 => match x, y with
  | .lst xs, .lst ys => .ok (zipD xs ys) S2
  | .tup xs, .tup ys => .ok (zipD xs ys) S2
  | _, _ => .bad
theorem i_zip (hg : Gl X "zip") (hm : X.mg "zip" = none) (h : UE X cl W e de) (h' : UE X cl W e2 db) (hs : starEach [e, e2] X.env = (false, eval e X.env) :: starEach [e2] X.env := by rfl) (hs2 : starEach [e2] X.env = (false, eval e2 X.env) :: starEach [] X.env := by rfl) (hpl : (backTo pos (starEach [e2] X.env)).any (·.1) = false := by rfl) :
    UI X cl W (.Tuple elts kk tpos) (.Call (.Name "zip" p) [e, e2] [] pos) (iZp de db) := weakI (RZ.pi_zipA hg hm (pa_cons h (pa_cons h' pa_nil hs2) hs) hs hpl) fun σ H R ⟨w, t, eH, ok, en, p⟩ => by
  refine ⟨w, t, eH, ok, en, OPost.bind p fun x w1 v a1 r1 p1 => ?_⟩
  refine ⟨w1, t, rfl, a1.ok, en.af a1, OPost.bind p1 fun y w2 v2 a2 r2 p2 => ?_⟩
  split at p2
  · rename_i xs ys
    obtain ⟨a, vs, ev, hl, rr⟩ := rol_of a2.ok (Rep.af a2 r1) (.inl rfl)
    obtain ⟨b, us, eu, hl', rr'⟩ := rol_of a2.ok r2 (.inl rfl)
    subst ev
    subst eu
    refine ⟨a, b, vs, us, rfl, .inl ⟨hl w2 (Af.refl a2.ok), hl' w2 (Af.refl a2.ok), p2 w2 _ (Af.refl a2.ok) rfl fun w3 z i => ⟨fun d hd => ?_, fun hi => ⟨vs, us, hl w3 z, hl' w3 z, ?_⟩⟩⟩⟩
    · obtain ⟨x', y', hx, hy, ed⟩ := zip_get xs ys i hd
      obtain ⟨u, hu, ru⟩ := rr.get hx
      obtain ⟨u', hu', ru'⟩ := rr'.get hy
      refine ⟨⟨vs, us, u, u', hl w3 z, hl' w3 z, hu, hu'⟩, fun v' H' ⟨T, c, d', e1, hT, e2, all1, all2⟩ => ?_⟩
      have q1 := all1 vs (hl w3 z)
      have q2 := all2 us (hl' w3 z)
      rw [hu] at q1
      rw [hu'] at q2
      cases q1
      cases q2
      obtain ⟨w4, z1, z2, z3, z4⟩ := tup_laid (ds := [x', y']) z.ok hT (Reps.cons (Rep.af z ru) (Reps.one (Rep.af z ru')))
      exact ⟨w4, z1.trans e2.symm, z2, z3, by rw [e1, ed]; exact z4⟩
    · rw [zip_len] at hi
      rw [← Reps.length rr, ← Reps.length rr']
      omega
  · rename_i xs ys
    obtain ⟨a, vs, ev, hl, rr⟩ := Rep.af a2 r1
    obtain ⟨b, us, eu, hl', rr'⟩ := r2
    subst ev
    subst eu
    have l1 : ∀ w3, Af X.K cl w2 w3 → SqT X.K w3.H a vs := fun w3 z => TL.here z.ok (hl.mono z.fz)
    have l2 : ∀ w3, Af X.K cl w2 w3 → SqT X.K w3.H b us := fun w3 z => TL.here z.ok (hl'.mono z.fz)
    refine ⟨a, b, vs, us, rfl, .inr ⟨l1 w2 (Af.refl a2.ok), l2 w2 (Af.refl a2.ok), p2 w2 _ (Af.refl a2.ok) rfl fun w3 z i => ⟨fun d hd => ?_, fun hi => ⟨vs, us, l1 w3 z, l2 w3 z, ?_⟩⟩⟩⟩
    · obtain ⟨x', y', hx, hy, ed⟩ := zip_get xs ys i hd
      obtain ⟨u, hu, ru⟩ := Reps.get rr hx
      obtain ⟨u', hu', ru'⟩ := Reps.get rr' hy
      refine ⟨⟨vs, us, u, u', l1 w3 z, l2 w3 z, hu, hu'⟩, fun v' H' ⟨T, c, d', e1, hT, e2, all1, all2⟩ => ?_⟩
      have q1 := all1 vs (l1 w3 z)
      have q2 := all2 us (l2 w3 z)
      rw [hu] at q1
      rw [hu'] at q2
      cases q1
      cases q2
      obtain ⟨w4, z1, z2, z3, z4⟩ := tup_laid (ds := [x', y']) z.ok hT (Reps.cons (Rep.af z ru) (Reps.one (Rep.af z ru')))
      exact ⟨w4, z1.trans e2.symm, z2, z3, by rw [e1, ed]; exact z4⟩
    · rw [zip_len] at hi
      rw [← Reps.length rr, ← Reps.length rr']
      omega
  · exact p2.elim

/-! ### stars -/
variable {es : List Expr} {dr : DA} {sp : Pos}
def aStar (de : DE) (dr : DA) : DA := fun t S => (de t S).bind fun x S1 => match itemsOf x S1 with
  | some xs => (dr t S1).bind fun ys S2 => .ok (xs ++ ys) S2
  | none => .bad
theorem a_star (he : UE X cl W e de) (hr : UA X cl W es dr) (hs : starEach (.Starred e sp :: es) X.env = (true, eval e X.env) :: starEach es X.env := by rfl) : UA X cl W (.Starred e sp :: es) (aStar de dr) := weakA (StX.pa_star he hr hs) fun σ H Q ⟨w, t, eH, ok, en, p⟩ => by
  refine ⟨w, t, eH, ok, en, OPost.bind p fun x w1 v a1 r1 p1 => ?_⟩
  split at p1
  · rename_i xs hx
    obtain ⟨a, vs, ev, hs, rr⟩ := itemsOf_at a1.ok r1 hx
    refine ⟨a, vs, ev, hs.symm, w1, t, rfl, a1.ok, en.af a1, OPost.bind p1 fun ys w2 us a2 r2 p2 => ?_⟩
    exact p2 w2 _ (Af.refl a2.ok) rfl (Reps.append (Reps.af a2 rr) r2)
  · exact p1.elim
end
end Dl
set_option Elab.async false
set_option linter.all false
set_option maxRecDepth 100000
set_option maxHeartbeats 400000
/-! The data layer: dicts with int and text keys. -/
namespace Dl
open PySem L2

def keyD : D → Option Key
  | .int i => some (.inl i)
  | .str x => some (.inr x)
  | _ => none
def dicGet : List D → List D → Key → Option D
  | k :: ks, v :: vs, q => if keyD k = some q then some v else dicGet ks vs q
  | _, _, _ => none
def dicHas : List D → Key → Bool
  | k :: ks, q => decide (keyD k = some q) || dicHas ks q
  | [], _ => false
def dicSub : List D → List D → Key → D → List D
  | k :: ks, v :: vs, q, d => (if keyD k = some q then d else v) :: dicSub ks vs q d
  | _, _, _, _ => []
def dicPut (ks vs : List D) (q : Key) (kd d : D) : List D × List D := if dicHas ks q = true then (ks, dicSub ks vs q d) else (ks ++ [kd], vs ++ [d])
def dicDrop : List D → List D → Key → List D × List D
  | k :: ks, v :: vs, q => if keyD k = some q then dicDrop ks vs q else ((k :: (dicDrop ks vs q).1), (v :: (dicDrop ks vs q).2))
  | _, _, _ => ([], [])
section
variable {K : PySem.W.Frag} {cl : Nat → Addr} {F : Hp} {m : List Addr}
theorem keyD_rep {d : D} {v : V} {q : Key} (r : Rep K cl F m d v) (h : keyD d = some q) : v = kV q := by
  cases d with
  | int i => cases h; exact r
  | str x => cases h; exact r
  | _ => cases h
theorem rep_kV {d : D} {q : Key} (r : Rep K cl F m d (kV q)) : keyD d = some q := by
  cases d with
  | int i =>
    have e : kV q = .int i := r
    cases q with
    | inl j => cases e; rfl
    | inr y => cases e
  | str x =>
    have e : kV q = .str x := r
    cases q with
    | inl j => cases e
    | inr y => cases e; rfl
  | non => cases q <;> cases (show _ = V.non from r)
  | bl b => cases q <;> cases (show _ = V.bl b from r)
  | tup _ => obtain ⟨_, _, e, _⟩ := r; cases q <;> cases e
  | lst _ => obtain ⟨_, _, e, _⟩ := r; cases q <;> cases e
  | rol _ => obtain ⟨_, _, e, _⟩ := r; cases q <;> cases e
  | dic _ _ => obtain ⟨_, _, _, e, _⟩ := r; cases q <;> cases e
  | obj _ _ _ => obtain ⟨_, _, _, e, _⟩ := r; cases q <;> cases e
  | ptr _ => obtain ⟨_, _, e⟩ := r; cases q <;> cases e
theorem dicGet_rep : ∀ {es : List (Key × V)} {ks vs : List D} {q : Key}, Reps K cl F m ks (es.map fun e => kV e.1) → Reps K cl F m vs (es.map (·.2)) → match dicGet ks vs q with
    | some d => ∃ v, valV es q = some v ∧ Rep K cl F m d v
    | none => valV es q = none
  | [], ks, vs, q, rk, rv => by
    cases ks with
    | nil => exact rfl
    | cons k ks => obtain ⟨_, _, h, _⟩ := rk; simp at h
  | e :: es, ks, vs, q, rk, rv => by
    cases ks with
    | nil => exact absurd (show _ = [] from rk) (by simp)
    | cons k ks =>
      cases vs with
      | nil => exact absurd (show _ = [] from rv) (by simp)
      | cons d vs =>
        obtain ⟨k', kr, h1, h2, h3⟩ := rk
        obtain ⟨v', vr, g1, g2, g3⟩ := rv
        simp only [List.map_cons, List.cons.injEq] at h1 g1
        obtain ⟨h1a, h1b⟩ := h1
        obtain ⟨g1a, g1b⟩ := g1
        subst h1a h1b g1a g1b
        have hk := rep_kV h2
        unfold dicGet
        by_cases hq : e.1 = q
        · rw [if_pos (by rw [hk, hq])]
          exact ⟨e.2, valV_pos hq, g2⟩
        · rw [if_neg (fun z => hq (Option.some.inj (hk.symm.trans z)))]
          rw [valV_neg hq]
          exact dicGet_rep h3 g3
theorem dicHas_rep {q : Key} : ∀ {es : List (Key × V)} {ks : List D}, Reps K cl F m ks (es.map fun e => kV e.1) → dicHas ks q = es.any fun kv => decide (kv.1 = q)
  | [], ks, rk => by
    cases ks with
    | nil => rfl
    | cons k ks => obtain ⟨_, _, h, _⟩ := rk; simp at h
  | e :: es, ks, rk => by
    cases ks with
    | nil => exact absurd (show _ = [] from rk) (by simp)
    | cons k ks =>
      obtain ⟨k', kr, h1, h2, h3⟩ := rk
      simp only [List.map_cons, List.cons.injEq] at h1
      obtain ⟨h1a, h1b⟩ := h1
      subst h1a h1b
      have hk := rep_kV h2
      unfold dicHas
      rw [hk, List.any_cons, dicHas_rep h3]
      simp
theorem dicSub_rep {d : D} {q : Key} {v : V} (hd : Rep K cl F m d v) : ∀ {es : List (Key × V)} {ks vs : List D}, Reps K cl F m ks (es.map fun e => kV e.1) → Reps K cl F m vs (es.map (·.2)) →
    Reps K cl F m (dicSub ks vs q d) ((es.map fun kv => if kv.1 = q then (kv.1, v) else kv).map (·.2))
  | [], ks, vs, rk, rv => by
    cases ks with
    | nil => exact rfl
    | cons k ks => obtain ⟨_, _, h, _⟩ := rk; simp at h
  | e :: es, ks, vs, rk, rv => by
    cases ks with
    | nil => exact absurd (show _ = [] from rk) (by simp)
    | cons k ks =>
      cases vs with
      | nil => exact absurd (show _ = [] from rv) (by simp)
      | cons d' vs =>
        obtain ⟨k', kr, h1, h2, h3⟩ := rk
        obtain ⟨v', vr, g1, g2, g3⟩ := rv
        simp only [List.map_cons, List.cons.injEq] at h1 g1
        obtain ⟨h1a, h1b⟩ := h1
        obtain ⟨g1a, g1b⟩ := g1
        subst h1a h1b g1a g1b
        have hk := rep_kV h2
        have ih := dicSub_rep (q := q) hd h3 g3
        unfold dicSub
        by_cases hq : e.1 = q
        · rw [if_pos (by rw [hk, hq]), List.map_cons, if_pos hq]
          exact ⟨_, _, rfl, hd, ih⟩
        · rw [if_neg (fun z => hq (Option.some.inj (hk.symm.trans z))), List.map_cons, if_neg hq]
          exact ⟨_, _, rfl, g2, ih⟩
theorem put_keys (es : List (Key × V)) (q : Key) (v : V) : ((es.map fun kv => if kv.1 = q then (kv.1, v) else kv).map fun e => kV e.1) = es.map fun e => kV e.1 := by
  rw [List.map_map]
  apply List.map_congr_left
  intro e _
  show kV (if e.1 = q then (e.1, v) else e).1 = kV e.1
  split <;> rfl
theorem dicPut_rep {kd d : D} {q : Key} {v : V} {es : List (Key × V)} {ks vs : List D} (hkd : Rep K cl F m kd (kV q)) (hd : Rep K cl F m d v) (rk : Reps K cl F m ks (es.map fun e => kV e.1)) (rv : Reps K cl F m vs (es.map (·.2))) :
    Reps K cl F m (dicPut ks vs q kd d).1 ((putK es q v).map fun e => kV e.1) ∧ Reps K cl F m (dicPut ks vs q kd d).2 ((putK es q v).map (·.2)) := by
  unfold dicPut putK
  rw [← dicHas_rep (q := q) rk]
  by_cases c : dicHas ks q = true
  · rw [if_pos c, if_pos c]
    exact ⟨by rw [put_keys]; exact rk, dicSub_rep hd rk rv⟩
  · rw [if_neg c, if_neg c, List.map_append, List.map_append]
    exact ⟨rk.append (Reps.one hkd), rv.append (Reps.one hd)⟩
theorem dicDrop_rep {q : Key} : ∀ {es : List (Key × V)} {ks vs : List D}, Reps K cl F m ks (es.map fun e => kV e.1) → Reps K cl F m vs (es.map (·.2)) →
    Reps K cl F m (dicDrop ks vs q).1 ((dropK es q).map fun e => kV e.1) ∧ Reps K cl F m (dicDrop ks vs q).2 ((dropK es q).map (·.2))
  | [], ks, vs, rk, rv => by
    cases ks with
    | nil =>
      cases vs with
      | nil => exact ⟨rfl, rfl⟩
      | cons _ _ => obtain ⟨_, _, h, _⟩ := rv; simp at h
    | cons k ks => obtain ⟨_, _, h, _⟩ := rk; simp at h
  | e :: es, ks, vs, rk, rv => by
    cases ks with
    | nil => exact absurd (show _ = [] from rk) (by simp)
    | cons k ks =>
      cases vs with
      | nil => exact absurd (show _ = [] from rv) (by simp)
      | cons d' vs =>
        obtain ⟨k', kr, h1, h2, h3⟩ := rk
        obtain ⟨v', vr, g1, g2, g3⟩ := rv
        simp only [List.map_cons, List.cons.injEq] at h1 g1
        obtain ⟨h1a, h1b⟩ := h1
        obtain ⟨g1a, g1b⟩ := g1
        subst h1a h1b g1a g1b
        have hk := rep_kV h2
        unfold dicDrop
        obtain ⟨i1, i2⟩ := dicDrop_rep (q := q) h3 g3
        by_cases hq : e.1 = q
        · rw [if_pos (by rw [hk, hq])]
          have z : dropK (e :: es) q = dropK es q := by simp [dropK, hq]
          rw [z]
          exact ⟨i1, i2⟩
        · rw [if_neg (fun z => hq (Option.some.inj (hk.symm.trans z)))]
          have z : dropK (e :: es) q = e :: dropK es q := by simp [dropK, hq]
          rw [z]
          exact ⟨⟨_, _, rfl, h2, i1⟩, ⟨_, _, rfl, g2, i2⟩⟩
end
end Dl
set_option Elab.async false
set_option linter.all false
set_option maxRecDepth 100000
set_option maxHeartbeats 400000
/-! The data layer: dicts read, written, made, walked. -/
namespace Dl
open PySem PyProof.Rows L2

/-! ### d[k], xs[i] -/
def rIxDy : R2 := fun x y H Q => ∃ a v, x = .ref a ∧ DGet H a y (some v) ∧ Q v H
theorem dget_type {X : Cx} {pins : List (Addr × Obj)} {σ : L2.St} {H : Hp} {s : Shared} {a : Addr} {y : V} {o : Option V} (I : Inv X pins σ H s) (g : DGet H a y o) : s.TypeIs (.ref a) "dict" := by
  rcases g with ⟨kvs, _, e, _, _⟩ | ⟨kvs, _, _, e, _, _, _⟩
  · exact (isD_at I (.inl ⟨kvs, e⟩)).1
  · exact (isD_at I (.inr ⟨kvs, e⟩)).1
theorem ix_dy {X : Cx} (hu : X.A.units + 1 < cLine) : IxR X rIxDy := by
  intro value slice pins s σ H x y v u Q I rx ry h hs
  obtain ⟨a, r, rfl, g, q⟩ := h
  obtain rfl : v = Value.ref a := rx
  exact PyProof.Rows.tail_any (dget_type I g) slot_dict_getitem.lookup (d_getItem hu I g ry fun w' s' I' rw' => ⟨r, H, I', rw', q⟩) hs
def fIxA : D → D → Sto → Out D := fun x y S => match deref x S, keyD y with
  | .dic ks vs, some q => (match dicGet ks vs q with | some d => .ok d S | none => .bad)
  | _, _ => fIx x y S
section
variable {K : PySem.W.Frag} {cl : Nat → Addr}
theorem d_ixA : OpD K cl (fun x y H Q => rIx K x y H Q ∨ rIxDy x y H Q) fIxA := by
  intro w x y vx vy W Q ok rx ry p
  unfold fIxA at p
  split at p
  · rename_i ks vs q hx hy
    split at p
    · rename_i d hd
      obtain ⟨a, es, ev, h1, h2, h3⟩ := deref_dic ok rx hx
      have z := dicGet_rep (q := q) h2 h3
      rw [hd] at z
      obtain ⟨v, z1, z2⟩ := z
      exact .inr ⟨a, v, ev, .inl ⟨es, q, h1, keyD_rep ry hy, z1.symm⟩, p w v (Af.refl ok) rfl z2⟩
    · exact p.elim
  · exact .inl (d_ix w x y vx vy W Q ok rx ry p)
end
section
variable {X : Cx} {cl : Nat → Addr} {W : WX} {e o i value : Expr} {dx di dv : DE} {pos pos' p2 : Pos}
theorem u_itemA (hu : X.A.units + 1 < cLine) (ho : UE X cl W o dx) (hi : UE X cl W i di) (hs : PlainIx i := by exact fun _ _ => rfl) : UE X cl W (.Subscript o i pos) (dOp fIxA dx di) := u_ix (ix_seq.or (ix_dy hu)) d_ixA ho hi hs

/-! ### in, not in -/
def rDIn (neg : Bool) : R2 := fun x y H Q => ∃ a o, y = .ref a ∧ DGet H a x o ∧ Q (.bl (xor neg o.isSome)) H
theorem op_dIn (hu : X.A.units + 1 < cLine) : OpR X (compareOp .In) (rDIn false) := by
  intro pins s σ H x y v u Q I rx ry h
  obtain ⟨a, o, rfl, g, q⟩ := h
  obtain rfl : u = Value.ref a := ry
  exact L2.d_in hu I g rx fun s3 I3 => ⟨.bl o.isSome, H, I3, rfl, by simpa using q⟩
theorem op_dNotIn (hu : X.A.units + 1 < cLine) : OpR X (compareOp .NotIn) (rDIn true) := by
  intro pins s σ H x y v u Q I rx ry h
  obtain ⟨a, o, rfl, g, q⟩ := h
  obtain rfl : u = Value.ref a := ry
  exact L2.d_notIn hu I g rx fun s3 I3 => ⟨.bl (!o.isSome), H, I3, rfl, by simpa using q⟩
def fInA (neg : Bool) : D → D → Sto → Out D := fun x y S => match deref y S, keyD x with
  | .dic ks vs, some q => .ok (.bl (xor neg (dicGet ks vs q).isSome)) S
  | _, _ => fInG neg x y S
theorem d_inA {K : PySem.W.Frag} {neg : Bool} : OpD K cl (fun x y H Q => rInA K neg x y H Q ∨ rDIn neg x y H Q) (fInA neg) := by
  intro w x y vx vy W Q ok rx ry p
  unfold fInA at p
  split at p
  · rename_i ks vs q hx hy
    obtain ⟨a, es, ev, h1, h2, h3⟩ := deref_dic ok ry hx
    have z := dicGet_rep (q := q) h2 h3
    have z2 : (dicGet ks vs q).isSome = (valV es q).isSome := by
      cases hd : dicGet ks vs q with
      | some d =>
        rw [hd] at z
        obtain ⟨v, z1, _⟩ := z
        rw [z1]; rfl
      | none =>
        rw [hd] at z
        rw [show valV es q = none from z]; rfl
    refine .inr ⟨a, valV es q, ev, .inl ⟨es, q, h1, keyD_rep rx hy, rfl⟩, p w _ (Af.refl ok) rfl ?_⟩
    show V.bl _ = V.bl _
    rw [z2]
  · exact .inl (d_in w x y vx vy W Q ok rx ry p)
theorem op_inAll (hu : X.A.units + 65 < cLine) : OpR X (compareOp .In) (fun x y H Q => rInA X.K false x y H Q ∨ rDIn false x y H Q) := (op_inA hu).or (op_dIn (by omega))
theorem op_notInAll (hu : X.A.units + 65 < cLine) : OpR X (compareOp .NotIn) (fun x y H Q => rInA X.K true x y H Q ∨ rDIn true x y H Q) := (op_notInA hu).or (op_dNotIn (by omega))

/-! ### x[i] = e -/
theorem PSet.or {r r' : TSet} (h : PSet X r) (h' : PSet X r') : PSet X (fun o i v H Q => r o i v H Q ∨ r' o i v H Q) := by
  intro pins s σ H o i v ov iv u Q I ro ri rv q
  rcases q with q | q
  · exact h pins s σ H o i v ov iv u Q I ro ri rv q
  · exact h' pins s σ H o i v ov iv u Q I ro ri rv q
def putAt (x i y : D) (S : Sto) : Option Sto := match x with
  | .ptr k => (match S[k]? with
    | some (some (.lst xs)) => (match i with
      | .int j => (match ixN xs.length j with
        | some n => some (S.set k (some (.lst (xs.set n y))))
        | none => none)
      | _ => none)
    | some (some (.dic ks vs)) => (match keyD i with
      | some q => if ks.length < 1000 then some (S.set k (some (.dic (dicPut ks vs q i y).1 (dicPut ks vs q i y).2))) else none
      | none => none)
    | _ => none)
  | _ => none
def dSetA (dx di dv : DE) : DS := fun t S => ofE (dv t S) t fun y S1 => ofE (dx t S1) t fun x S2 => ofE (di t S2) t fun i S3 => match putAt x i y S3 with
  | some S4 => .nx t S4
  | none => .bad
theorem putAt_ok {K : PySem.W.Frag} {w : Wd} {x i y : D} {vx vi vy : V} {S4 : Sto} {Q : Hp → Prop} (ok : w.Ok K cl) (rx : RV K cl w x vx) (ri : RV K cl w i vi) (ry : RV K cl w y vy) (e : putAt x i y w.S = some S4) (q : ∀ w4, Af K cl w w4 → w4.S = S4 → Q w4.H) :
    rSetL vx vi vy w.H Q ∨ rSetD vx vi vy w.H Q := by
  unfold putAt at e
  split at e
  · rename_i k
    split at e
    · rename_i xs hk
      split at e
      · rename_i j
        cases (show vi = .int j from ri)
        split at e
        · rename_i n hn
          cases e
          obtain ⟨a, ea, ev⟩ := rx
          obtain ⟨_, vs, c1, c2⟩ := ok.cell k a _ ea hk
          refine .inl ⟨a, vs, j, n, ev, rfl, c1, by rw [← Reps.length c2]; exact hn, ?_⟩
          have z := ok.cellSet (u := .lst (vs.set n vy)) (d := .lst (xs.set n y)) ea hk ⟨_, upd_same, Reps.set ry n c2⟩
          exact q ⟨upd w.H a (.lst (vs.set n vy)), w.F, w.m, _⟩ z rfl
        · cases e
      · cases e
    · rename_i ks vs hk
      split at e
      · rename_i kk hq
        split at e
        · rename_i hl
          cases e
          obtain ⟨a, ea, ev⟩ := rx
          obtain ⟨_, es, c1, c2, c3⟩ := ok.cell k a _ ea hk
          have e1 := keyD_rep ri hq
          have hle : es.length < sizeLine := by
            have := Reps.length c2
            rw [List.length_map] at this
            rw [← this]
            exact Nat.lt_of_lt_of_le hl (by decide)
          obtain ⟨z1, z2⟩ := dicPut_rep (q := kk) (kd := i) (d := y) (v := vy) (by rw [← e1]; exact ri) ry c2 c3
          have z := ok.cellSet (u := .dK (putK es kk vy)) (d := .dic (dicPut ks vs kk i y).1 (dicPut ks vs kk i y).2) ea hk ⟨_, upd_same, z1, z2⟩
          exact .inr ⟨a, _, ev, .inl ⟨es, kk, c1, e1, hle, rfl⟩, q ⟨upd w.H a (.dK (putK es kk vy)), w.F, w.m, _⟩ z rfl⟩
        · cases e
      · cases e
    · cases e
  · cases e
theorem s_setA (hu : X.A.units + 1 < cLine) (ho : UE X cl W o dx) (hi : UE X cl W i di) (hv : UE X cl W value dv)
    (hs : swapsWithSole [.Subscript o i pos'] value pos.line X.env = pure false := by rfl) (hw : swappedStores [.Subscript o i pos'] value X.env = pure none := by rfl) (h1 : (assignEach [.Subscript o i pos'] X.env).map (·.2) = [assign (.Subscript o i pos') X.env] := by rfl)
    (ha : ∀ v, assign (.Subscript o i pos') X.env v = (do
      let ov ← holding [v] (eval o X.env)
      let iv ← holding [v, ov] (eval i X.env)
      standAt pos'
      holding [v, ov, iv] (setItem ov iv v)
      release [v, ov, iv] []) := by intro _; rfl) : US X cl W (.Assign [.Subscript o i pos'] value pos) (dSetA dx di dv) :=
  weakS (ps_asg hv (pg_sub ho hi (PSet.or set_list (set_dict hu)) ha) hs hw h1) fun N σ H ⟨w, t, eH, ok, en, p⟩ => by
    refine ⟨w, t, eH, ok, en, SPost.ofE p en fun y w1 vy a1 r1 en1 p1 => ⟨w1, t, rfl, a1.ok, en1, SPost.ofE p1 en1 fun x w2 vx a2 r2 en2 p2 => ⟨w2, t, rfl, a2.ok, en2, SPost.ofE p2 en2 fun z w3 vz a3 r3 en3 p3 => ?_⟩⟩⟩
    split at p3
    · rename_i S4 h4
      refine putAt_ok a3.ok (Rep.af a3 r2) r3 (Rep.af a3 (Rep.af a2 r1)) h4 fun w4 z e4 => ?_
      exact p3 w4 σ z e4 (en3.af z)
    · exact p3.elim
end
end Dl
set_option Elab.async false
set_option linter.all false
set_option maxRecDepth 100000
set_option maxHeartbeats 400000
/-! The data layer: dicts made and walked. -/
namespace Dl
open PySem PyProof.Rows L2

/-! ### a thing that nobody knows yet -/
structure Blind (K : PySem.W.Frag) (cl : Nat → Addr) (w0 w : Wd) (D : Addr) (o : HO) : Prop where
  h0 : w0.H D = none
  af : Af K cl w0 w
  nf : w.F D = none
  nl : ¬ Live w D
  at_ : w.H D = some o
section
variable {K : PySem.W.Frag} {cl : Nat → Addr} {w0 w w1 : Wd} {D : Addr} {o : HO}
theorem Blind.new (ok : w0.Ok K cl) (hD : w0.H D = none) : Blind K cl w0 ⟨upd w0.H D o, w0.F, w0.m, w0.S⟩ D o := by
  refine ⟨hD, ok.untold hD, ok.free hD, fun ⟨i, d, h1, h2⟩ => ?_, upd_same⟩
  obtain ⟨x, hx⟩ := (ok.cell i D d h1 h2).2.there
  rw [hD] at hx; cases hx
theorem Blind.step (g : Blind K cl w0 w D o) (x : Af K cl w w1) : Blind K cl w0 w1 D o := by
  refine ⟨g.h0, g.af.trans x, ?_, fun l => ?_, x.keep _ _ g.at_ g.nl⟩
  · cases q : w1.F D with
    | none => rfl
    | some o =>
      rcases x.new D o q with z | z | z
      · rw [g.nf] at z; cases z
      · rw [g.at_] at z; cases z
      · exact (g.nl z).elim
  · rcases x.liv D l with z | z
    · exact g.nl z
    · rw [g.at_] at z; cases z
theorem Blind.write (g : Blind K cl w0 w D o) (u : HO) : Blind K cl w0 ⟨upd w.H D u, w.F, w.m, w.S⟩ D u := ⟨g.h0, Af.blind g.af g.h0 g.nf g.nl (o := o), g.nf, g.nl, upd_same⟩
theorem Blind.known (g : Blind K cl w0 w D o) : Af K cl w0 ⟨w.H, upd w.F D o, w.m, w.S⟩ := Af.known g.af g.h0 g.nf g.nl g.at_
theorem Blind.celled (g : Blind K cl w0 w D o) {d : Dl.D} (h : CellAt K cl w.H w.F w.m D d) : Af K cl w0 ⟨w.H, w.F, w.m ++ [D], w.S ++ [some d]⟩ := Af.celled g.af g.h0 g.nf g.nl h
theorem Blind.keep (g : Blind K cl w0 w D o) {u : HO} {ds : List Dl.D} {vs : List V} (r : Reps K cl w.F w.m ds vs) : Reps K cl (upd w.F D u) w.m ds vs :=
  Reps.mono (fun b y hb => by rw [upd_ne (ne_of_none hb g.nf)]; exact hb) (fun _ _ h => h) _ _ r
/-- a dict that grew, locked -/
theorem Blind.dic {es : List (Key × V)} {ks vs : List Dl.D} (g : Blind K cl w0 w D (.dK es)) (rk : Reps K cl w.F w.m ks (es.map fun e => kV e.1)) (rv : Reps K cl w.F w.m vs (es.map (·.2))) (od : Obj) :
    ∃ w2 : Wd, w2.H = upd w.H D (.frz od (.dK es)) ∧ w2.S = w.S ∧ Af K cl w0 w2 ∧ RV K cl w2 (.dic ks vs) (.ref D) := by
  have g2 := g.write (.frz od (.dK es))
  exact ⟨⟨upd w.H D (.frz od (.dK es)), upd w.F D (.frz od (.dK es)), w.m, w.S⟩, rfl, rfl, g2.known, D, _, _, rfl, ⟨od, es, upd_same, rfl, rfl⟩, g.keep rk, g.keep rv⟩
end

section
variable {X : Cx} {cl : Nat → Addr} {W : WX} {e : Expr} {de : DE} {p pos : Pos}
/-! ### {} -/
def dDic0 : DE := fun _ S => .ok (.dic [] []) S
def dDicC : DE := fun _ S => .ok (.ptr S.length) (S ++ [some (.dic [] [])])
theorem u_dic0 : UE X cl W (.Dict [] [] pos) dDic0 := weakE (pe_mayLock pe_dnewK) fun σ H Q ⟨w, t, eH, ok, en, p⟩ => fun D hD => by
  subst eH
  have g : Blind X.K cl w _ D (.dK []) := .new ok hD
  refine .inr ⟨D, _, rfl, upd_same, True.intro, fun od => ?_⟩
  obtain ⟨w2, e1, e2, a, r⟩ := g.dic (ks := []) (vs := []) rfl rfl od
  exact e1 ▸ p w2 _ a e2 r
theorem u_dicC : UE X cl W (.Dict [] [] pos) dDicC := weakE pe_dnewK fun σ H Q ⟨w, t, eH, ok, en, p⟩ => fun D hD => by
  subst eH
  have g : Blind X.K cl w _ D (.dK []) := .new ok hD
  exact p ⟨upd w.H D (.dK []), w.F, w.m ++ [D], w.S ++ [some (.dic [] [])]⟩ (.ref D) (g.celled (d := .dic [] []) ⟨[], upd_same, rfl, rfl⟩) rfl ⟨D, snoc_get ok.len.symm, rfl⟩

/-! ### {k: v, ..} -/
def dPairs : List (DE × DE) → Lc → Sto → Out (List Dl.D × List Dl.D)
  | [], _, S => .ok ([], []) S
  | (dk, dv) :: r, t, S => (dk t S).bind fun x S1 => (dv t S1).bind fun y S2 => (dPairs r t S2).bind fun q S3 => .ok (x :: q.1, y :: q.2) S3
def dicMerge : List Dl.D → List Dl.D → List Dl.D × List Dl.D → Option (List Dl.D × List Dl.D)
  | k :: ks, v :: vs, a => match keyD k with
    | some q => dicMerge ks vs (dicPut a.1 a.2 q k v)
    | none => none
  | _, _, a => some a
def RP (K : PySem.W.Frag) (cl : Nat → Addr) (w : Wd) (a : List Dl.D × List Dl.D) (ps : List (V × V)) : Prop := RL K cl w a.1 (ps.map (·.1)) ∧ RL K cl w a.2 (ps.map (·.2))
theorem OPost.bindB {α β γ δ : Type} {K : PySem.W.Frag} {R : Wd → α → β → Prop} {R' : Wd → γ → δ → Prop} {W : Value → Option Addr → Hp → Prop} {w0 w : Wd} {Q : β → Hp → Prop} {P : δ → Hp → Prop} {o : Out γ} {k : γ → Sto → Out α}
    (x : Af K cl w0 w) (p : OPost K cl R W w0 Q (o.bind k)) (h : ∀ a w1 b, Af K cl w w1 → R' w1 a b → OPost K cl R W w0 Q (k a w1.S) → P b w1.H) : OPost K cl R' W w P o := by
  cases o with
  | ok a S =>
    intro w1 b y e r
    refine h a w1 b y r ?_
    rw [e]
    exact p
  | exc c ns vs S => exact OPost.after (R := R) p x
  | bad => exact p.elim
theorem Out.assoc {α β γ : Type} (o : Out α) (f : α → Sto → Out β) (h : β → Sto → Out γ) : (o.bind f).bind h = o.bind fun a S => (f a S).bind h := by cases o <;> rfl
theorem le_pairs {K : PySem.W.Frag} {σ : L2.St} {t : Lc} {β : Type} {α : Type} {R : Wd → α → β → Prop} {w0 : Wd} {Q0 : β → Hp → Prop} : ∀ {l : List (DE × DE)} {w : Wd} {Q : List (V × V) → Hp → Prop} {fin : List Dl.D × List Dl.D → Sto → Out α}, Af K cl w0 w → EnvR K cl w t σ →
    OPost K cl R (fun c d H' => W c d σ H') w0 Q0 ((dPairs l t w.S).bind fin) → (∀ q w1 ps, Af K cl w w1 → RP K cl w1 q ps → OPost K cl R (fun c d H' => W c d σ H') w0 Q0 (fin q w1.S) → Q ps w1.H) →
    tPairs (l.map fun q => (upE K cl W q.1, upE K cl W q.2)) σ w.H Q
  | [], w, Q, fin, x, en, p, h => h ([], []) w [] (Af.refl x.ok) ⟨rfl, rfl⟩ p
  | (dk, dv) :: r, w, Q, fin, x, en, p, h => by
    unfold dPairs at p
    rw [Out.assoc] at p
    refine ⟨w, t, rfl, x.ok, en, OPost.bindB x p fun y w1 vx a1 r1 p1 => ?_⟩
    rw [Out.assoc] at p1
    refine ⟨w1, t, rfl, a1.ok, en.af a1, OPost.bindB (x.trans a1) p1 fun z w2 vy a2 r2 p2 => ?_⟩
    rw [Out.assoc] at p2
    refine le_pairs ((x.trans a1).trans a2) ((en.af a1).af a2) p2 fun q w3 ps a3 r3 p3 => ?_
    exact h (y :: q.1, z :: q.2) w3 ((vx, vy) :: ps) (a1.trans (a2.trans a3)) ⟨⟨vx, _, rfl, Rep.af a3 (Rep.af a2 r1), r3.1⟩, ⟨vy, _, rfl, Rep.af a3 r2, r3.2⟩⟩ p3
theorem merge_rep {K : PySem.W.Frag} {F : Hp} {m : List Addr} : ∀ {ks vs : List Dl.D} {ps : List (V × V)} {a : List Dl.D × List Dl.D} {es : List (Key × V)} {b : List Dl.D × List Dl.D}, Reps K cl F m ks (ps.map (·.1)) → Reps K cl F m vs (ps.map (·.2)) →
    Reps K cl F m a.1 (es.map fun e => kV e.1) → Reps K cl F m a.2 (es.map (·.2)) → dicMerge ks vs a = some b → ∃ kvs : List (Key × V), ps = kvs.map (fun kv => (kV kv.1, kv.2)) ∧
      Reps K cl F m b.1 ((mergeK es kvs).map fun e => kV e.1) ∧ Reps K cl F m b.2 ((mergeK es kvs).map (·.2))
  | [], vs, ps, a, es, b, rk, rv, ra, rb, e => by
    cases ps with
    | cons _ _ => exact absurd (show _ = [] from rk) (by simp)
    | nil =>
      cases e
      exact ⟨[], rfl, ra, rb⟩
  | k :: ks, vs, ps, a, es, b, rk, rv, ra, rb, e => by
    cases ps with
    | nil => obtain ⟨_, _, h, _⟩ := rk; simp at h
    | cons q ps =>
      cases vs with
      | nil => exact absurd (show _ = [] from rv) (by simp)
      | cons v vs =>
        obtain ⟨k', kr, h1, h2, h3⟩ := rk
        obtain ⟨v', vr, g1, g2, g3⟩ := rv
        simp only [List.map_cons, List.cons.injEq] at h1 g1
        obtain ⟨h1a, h1b⟩ := h1
        obtain ⟨g1a, g1b⟩ := g1
        subst h1a h1b g1a g1b
        unfold dicMerge at e
        split at e
        · rename_i kk hk
          have ek := keyD_rep h2 hk
          obtain ⟨z1, z2⟩ := dicPut_rep (q := kk) (by rw [← ek]; exact h2) g2 ra rb
          obtain ⟨kvs, e1, e2, e3⟩ := merge_rep h3 g3 z1 z2 e
          refine ⟨(kk, q.2) :: kvs, ?_, e2, e3⟩
          rw [List.map_cons, ← e1, ← ek]
        · cases e
def dDisp (l : List (DE × DE)) : DE := fun t S => (dPairs l t S).bind fun q S1 => if q.1.length ≤ 15 then (match dicMerge q.1 q.2 ([], []) with
  | some b => .ok (.dic b.1 b.2) S1
  | none => .bad) else .bad
abbrev UPs (X : Cx) (cl : Nat → Addr) (W : WX) (pos : Pos) (keys : List (Option Expr)) (values : List Expr) (l : List (DE × DE)) : Prop := PPs X pos keys values (l.map fun q => (upE X.K cl W q.1, upE X.K cl W q.2))
theorem ups_nil : UPs X cl W pos [] [] [] := pps_nil
theorem ups_cons {k v : Expr} {ks : List (Option Expr)} {vs : List Expr} {dk dv : DE} {l : List (DE × DE)} (hk : UE X cl W k dk) (hv : UE X cl W v dv) (hr : UPs X cl W pos ks vs l) : UPs X cl W pos (some k :: ks) (v :: vs) ((dk, dv) :: l) := pps_cons hk hv hr
theorem u_disp {keys : List (Option Expr)} {values : List Expr} {l : List (DE × DE)} (h : UPs X cl W pos keys values l) (hall : keys.all (·.isSome) = true := by rfl) (hl : keys.length = values.length := by rfl) (h0 : keys ≠ [] := by exact nofun)
    (h15 : keys.length ≤ 15 := by decide) : UE X cl W (.Dict keys values pos) (dDisp l) := weakE (pe_mayLock (pe_disp h hall hl h0 h15)) fun σ H Q ⟨w, t, eH, ok, en, p⟩ => fun D hD => by
  subst eH
  have g : Blind X.K cl w _ D (.dK []) := .new ok hD
  refine le_pairs g.af (en.af g.af) p fun q w2 ps a2 r2 p2 => ?_
  have g2 := g.step a2
  refine ⟨g2.at_, ?_⟩
  split at p2
  · rename_i h15
    split at p2
    · rename_i b hb
      obtain ⟨kvs, e1, e2, e3⟩ := merge_rep (es := []) r2.1 r2.2 (show Reps _ _ _ _ [] [] from rfl) (show Reps _ _ _ _ [] [] from rfl) hb
      refine ⟨kvs, e1, ?_, .inr ⟨D, _, rfl, upd_same, True.intro, fun od => ?_⟩⟩
      · have := Reps.length r2.1
        rw [e1, List.length_map, List.length_map] at this
        omega
      · have g3 := g2.write (.dK (mergeK [] kvs))
        obtain ⟨w3, f1, f2, a3, r3⟩ := g3.dic (ks := b.1) (vs := b.2) e2 e3 od
        have z := p2 w3 (.ref D) a3 f2 r3
        rw [f1] at z
        exact z
    · exact p2.elim
  · exact p2.elim
end
end Dl
set_option Elab.async false
set_option linter.all false
set_option maxRecDepth 100000
set_option maxHeartbeats 400000
/-! The data layer: dict comprehensions, walks over dicts, copies. -/
namespace Dl
open PySem PyProof.Rows L2

section
variable {X : Cx} {cl : Nat → Addr} {W : WX} {e o : Expr} {dx : DE} {p pos apos cpos tpos : Pos}
def dcLoop (g : Tg) (dt : DB) (dk dv : DE) (t : Lc) : List Dl.D → List Dl.D × List Dl.D → Sto → Out (List Dl.D × List Dl.D)
  | [], acc, S => .ok acc S
  | d :: r, acc, S => match g.set d t with
    | none => .bad
    | some t1 => (dt t1 S).calm.bind fun b S1 => if b = true then (dk t1 S1).calm.bind fun y S2 => (dv t1 S2).calm.bind fun z S3 => match keyD y with
      | some q => if acc.1.length < 1000 then dcLoop g dt dk dv t r (dicPut acc.1 acc.2 q y z) S3 else .bad
      | none => .bad
      else dcLoop g dt dk dv t r acc S1
def dDc (vs : List Nat) (g : Tg) (di : DA) (dt : DB) (dk dv : DE) : DE := fun t S => (di t S).bind fun xs S1 => (dcLoop g dt dk dv (wipeD vs t) xs ([], []) S1).bind fun a S2 => .ok (.dic a.1 a.2) S2
/-- the dict that grows -/
structure GrowK (K : PySem.W.Frag) (cl : Nat → Addr) (w0 w : Wd) (D : Addr) (es : List (Key × V)) (a : List Dl.D × List Dl.D) : Prop where
  b : Blind K cl w0 w D (.dK es)
  k : Reps K cl w.F w.m a.1 (es.map fun e => kV e.1)
  v : Reps K cl w.F w.m a.2 (es.map (·.2))
theorem GrowK.step {K : PySem.W.Frag} {w0 w w1 : Wd} {D : Addr} {es : List (Key × V)} {a : List Dl.D × List Dl.D} (g : GrowK K cl w0 w D es a) (x : Af K cl w w1) : GrowK K cl w0 w1 D es a := ⟨g.b.step x, Reps.af x g.k, Reps.af x g.v⟩
theorem calm_bindB {α β γ δ : Type} {K : PySem.W.Frag} {R : Wd → α → β → Prop} {R' : Wd → γ → δ → Prop} {W W' : Value → Option Addr → Hp → Prop} {w0 w : Wd} {Q : β → Hp → Prop} {P : δ → Hp → Prop} {o : Out γ} {k : γ → Sto → Out α}
    (p : OPost K cl R W w0 Q (o.calm.bind k)) (h : ∀ a w1 b, Af K cl w w1 → R' w1 a b → OPost K cl R W w0 Q (k a w1.S) → P b w1.H) : OPost K cl R' W' w P o := OPost.bindTo p h
theorem dc_run {K : PySem.W.Frag} {vs : List Nat} {g : Tg} {dt : DB} {dk dv : DE} {σ : L2.St} {w : Wd} {t : Lc} {xs : List Dl.D} {J : It} {Q : VK} {fin : List Dl.D × List Dl.D → Sto → Out Dl.D} {W' : Value → Option Addr → Hp → Prop} {Dd : Addr} (hsl : ∀ i ∈ g.slots, i ∈ vs)
    (ok : w.Ok K cl) (en : EnvR K cl w t σ) (hJ : Wk K cl w xs J) (hD : w.H Dd = none) (p : OPost K cl (RV K cl) W' w Q ((dcLoop g dt dk dv (wipeD vs t) xs ([], []) w.S).bind fin)) {P : VK}
    (done : ∀ a es (w2 : Wd), GrowK K cl w w2 Dd es a → OPost K cl (RV K cl) W' w Q (fin a w2.S) → P (.ref Dd) w2.H) :
    ∃ Wi : Nat → Nat → Hp → Prop, (∃ m, Wi 0 m (upd w.H Dd (.dK []))) ∧ ∀ i m H, Wi i m H →
      (J.stop i H ∧ P (.ref Dd) H) ∨ (J.go i H ∧ ∃ Nx : Hp → Prop, (∀ H', Nx H' → ∃ m', m' < m ∧ Wi (i + 1) m' H') ∧ ∀ x H', J.yld i H x H' → tgT K g x (L2.wipe σ vs) H' fun σ2 H2 => L2.wipe σ2 vs = L2.wipe σ vs ∧ upB K cl W0 dt σ2 H2 fun b H3 =>
        if b = true then upE K cl W0 dk σ2 H3 fun y H4 => upE K cl W0 dv σ2 H4 fun z H5 => ∃ kvs k, y = kV k ∧ H5 Dd = some (.dK kvs) ∧ kvs.length < sizeLine ∧ Nx (upd H5 Dd (.dK (putK kvs k z))) else Nx H3) := by
  have b0 : Blind K cl w _ Dd (.dK []) := .new ok hD
  refine ⟨fun i m H => ∃ w2 acc es, w2.H = H ∧ GrowK K cl w w2 Dd es acc ∧ m = xs.length - i ∧ i ≤ xs.length ∧ OPost K cl (RV K cl) W' w Q ((dcLoop g dt dk dv (wipeD vs t) (xs.drop i) acc w2.S).bind fin),
    ⟨_, ⟨upd w.H Dd (.dK []), w.F, w.m, w.S⟩, ([], []), [], rfl, ⟨b0, rfl, rfl⟩, rfl, Nat.zero_le _, p⟩, ?_⟩
  rintro i m H ⟨w2, acc, es, rfl, gr, rfl, hi, p2⟩
  by_cases hl : i < xs.length
  · obtain ⟨go, yl⟩ := (hJ w2 gr.b.af i).1 _ (List.getElem?_eq_getElem hl)
    rw [List.drop_eq_getElem_cons hl] at p2
    refine .inr ⟨go, fun H' => ∃ w6 acc' es', w6.H = H' ∧ GrowK K cl w w6 Dd es' acc' ∧ OPost K cl (RV K cl) W' w Q ((dcLoop g dt dk dv (wipeD vs t) (xs.drop (i + 1)) acc' w6.S).bind fin),
      fun H' ⟨w6, acc', es', e6, g6, p6⟩ => ⟨xs.length - (i + 1), by omega, w6, acc', es', e6, g6, rfl, hl, p6⟩, fun v H' hy => ?_⟩
    obtain ⟨w3, rfl, a3, e3, rv⟩ := yl v H' hy
    have g3 := gr.step a3
    unfold dcLoop at p2
    split at p2
    · exact p2.elim
    · rename_i t1 et
      refine Tg.ok a3.ok (((en.af gr.b.af).af a3).wipe vs) rv et fun σ' en' hw => ⟨?_, ?_⟩
      · rw [hw vs hsl, wipe_wipe (fun i h => h)]
      rw [← e3, Out.assoc] at p2
      refine ⟨w3, t1, rfl, a3.ok, en', calm_bindB p2 fun b w4 b' a4 eb p4 => ?_⟩
      cases (show b = b' from eb)
      cases b with
      | false => exact ⟨w4, acc, es, rfl, g3.step a4, p4⟩
      | true =>
        rw [if_pos rfl] at p4 ⊢
        rw [Out.assoc] at p4
        refine ⟨w4, t1, rfl, a4.ok, en'.af a4, calm_bindB p4 fun y w5 vy a5 ry p5 => ?_⟩
        rw [Out.assoc] at p5
        refine ⟨w5, t1, rfl, a5.ok, (en'.af a4).af a5, calm_bindB p5 fun z w6 vz a6 rz p6 => ?_⟩
        have g6 := ((g3.step a4).step a5).step a6
        split at p6
        · rename_i q hq
          split at p6
          · rename_i hsz
            have ek := keyD_rep (Rep.af a6 ry) hq
            obtain ⟨z1, z2⟩ := dicPut_rep (q := q) (kd := y) (by rw [← ek]; exact Rep.af a6 ry) rz g6.k g6.v
            refine ⟨es, q, ek, g6.b.at_, ?_, ⟨upd w6.H Dd (.dK (putK es q vz)), w6.F, w6.m, w6.S⟩, dicPut acc.1 acc.2 q y z, _, rfl, ⟨g6.b.write _, z1, z2⟩, p6⟩
            have := Reps.length g6.k
            rw [List.length_map] at this
            rw [← this]
            exact Nat.lt_of_lt_of_le hsz (by decide)
          · exact p6.elim
        · exact p6.elim
  · have e : i = xs.length := by omega
    subst e
    rw [List.drop_length] at p2
    exact .inl ⟨(hJ w2 gr.b.af _).2 (Nat.le_refl _), done acc es w2 gr p2⟩
variable {dt : DB} {dk dv de : DE} {di : DA} {g : Tg} {kx vx tg iter : Expr} {ifs : List Expr} {scope : Scope} {own : List (Str × Nat)}
theorem u_dc (vs : List Nat) (hv : own.map (·.2) = vs) (hsl : ∀ i ∈ g.slots, i ∈ vs) (hc : X.calm = true) (hN : X.N.Nodup) (hi : UI X cl W tg iter di) (ok : BlkOk X.N X.env.scope scope own)
    (hg : ∀ (s : Shared) (H : Hp) (C : Addr) (cls : List (Str × Addr)) (fp : List Addr), PG (X.blk s H scope (compEnvC scope cls C X.env) fp) tg (tgT X.K g)) (ht : ∀ (s : Shared) (H : Hp) (C : Addr) (cls : List (Str × Addr)) (fp : List Addr), UTs (X.blk s H scope (compEnvC scope cls C X.env) fp) cl ifs dt)
    (hk : ∀ (s : Shared) (H : Hp) (C : Addr) (cls : List (Str × Addr)) (fp : List Addr), UE (X.blk s H scope (compEnvC scope cls C X.env) fp) cl W0 kx dk)
    (he : ∀ (s : Shared) (H : Hp) (C : Addr) (cls : List (Str × Addr)) (fp : List Addr), UE (X.blk s H scope (compEnvC scope cls C X.env) fp) cl W0 vx dv) (hs : ∀ x, foldedSetIterable iter X.env x = pure x := by intro _; rfl) :
    UE X cl W (.DictComp kx vx [⟨tg, iter, ifs, 0⟩] scope pos) (dDc vs g di dt dk dv) := weakE (pe_mayLock (pe_dc hc hN hi ok hg ht hk he hs)) fun σ H Q ⟨w, t, eH, hok, en, p⟩ => by
  rw [hv]
  refine ⟨w, t, eH, hok, en, OPost.bind p fun xs w1 J a1 hJ p1 => fun Dd hD => ?_⟩
  refine dc_run (P := fun v H1 => Q v H1 ∨ ∃ d u, v = .ref d ∧ H1 d = some u ∧ Mut (some u) ∧ ∀ od, Q v (upd H1 d (.frz od u))) hsl a1.ok (en.af a1) hJ hD p1 fun a es w2 gr p2 => .inr ⟨Dd, _, rfl, gr.b.at_, True.intro, fun od => ?_⟩
  obtain ⟨w3, f1, f2, a3, r3⟩ := gr.b.dic gr.k gr.v od
  have z := p2 w3 (.ref Dd) a3 f2 r3
  rw [f1] at z
  exact z

/-! ### walks over a dict that changes no more -/
def iKy (de : DE) : DA := fun t S => (de t S).bind fun d S1 => match d with
  | .dic ks _ => .ok ks S1
  | _ => .bad
def iVl (de : DE) : DA := fun t S => (de t S).bind fun d S1 => match d with
  | .dic _ vs => .ok vs S1
  | _ => .bad
def pairsD : List Dl.D → List Dl.D → List Dl.D
  | k :: ks, v :: vs => .tup [k, v] :: pairsD ks vs
  | _, _ => []
def iIt (de : DE) : DA := fun t S => (de t S).bind fun d S1 => match d with
  | .dic ks vs => .ok (pairsD ks vs) S1
  | _ => .bad
theorem map_get {α β : Type} {f : α → β} {l : List α} {i : Nat} {y : β} (h : (l.map f)[i]? = some y) : ∃ x, l[i]? = some x ∧ f x = y := by
  rw [List.getElem?_map] at h
  cases q : l[i]? with
  | none => rw [q] at h; cases h
  | some x => rw [q] at h; cases h; exact ⟨x, rfl, rfl⟩
theorem dic_frz {K : PySem.W.Frag} {w : Wd} {ks vs : List Dl.D} {v : V} (r : RV K cl w (.dic ks vs) v) : ∃ a od, ∃ es : List (Key × V), v = .ref a ∧ w.F a = some (.frz od (.dK es)) ∧ RL K cl w ks (es.map fun e => kV e.1) ∧ RL K cl w vs (es.map (·.2)) := by
  obtain ⟨a, xs, ys, ev, ⟨od, es, q, e1, e2⟩, r1, r2⟩ := r
  subst e1; subst e2
  exact ⟨a, od, es, ev, q, r1, r2⟩
theorem i_keys (h : UE X cl W e de) : UI X cl W tg e (iKy de) := weakI (pi_keys h) fun σ H R ⟨w, t, eH, ok, en, p⟩ => by
  refine ⟨w, t, eH, ok, en, OPost.bind p fun d w1 v a1 r1 p1 => ?_⟩
  split at p1
  · rename_i ks vs
    obtain ⟨a, od, es, ev, hF, rk, rv⟩ := dic_frz r1
    refine ⟨a, od, ev, .inl ⟨es, a1.ok.sub _ _ hF, p1 w1 _ (Af.refl a1.ok) rfl fun w2 x i => ?_⟩⟩
    have hH := x.ok.sub _ _ (x.fz _ _ hF)
    have hlen : ks.length = es.length := by
      have := Reps.length rk
      rw [List.length_map] at this
      exact this
    refine ⟨fun d hd => ?_, fun hi => ⟨hH, by omega⟩⟩
    obtain ⟨u, hu, ru⟩ := rk.get hd
    obtain ⟨kv, hkv, ekv⟩ := map_get hu
    have hi : i < es.length := (List.getElem?_eq_some_iff.mp hkv).1
    refine ⟨⟨hH, hi⟩, fun v' H' ⟨eH', k, v2, h1, h2⟩ => ⟨w2, eH'.symm, Af.refl x.ok, rfl, ?_⟩⟩
    rw [hkv] at h1
    cases h1
    rw [h2]
    exact Rep.af x (ekv ▸ ru)
  · exact p1.elim
theorem i_values (h : UE X cl W e de) (hbase : attributeBase e "values" X.env (eval e X.env) = eval e X.env := by rfl) (hline : (apos.endLine == cpos.line) = true := by rfl) :
    UI X cl W tg (.Call (.Attribute e "values" apos) [] [] cpos) (iVl de) := weakI (pi_values h hbase hline) fun σ H R ⟨w, t, eH, ok, en, p⟩ => by
  refine ⟨w, t, eH, ok, en, OPost.bind p fun d w1 v a1 r1 p1 => ?_⟩
  split at p1
  · rename_i ks vs
    obtain ⟨a, od, es, ev, hF, rk, rv⟩ := dic_frz r1
    refine ⟨a, od, es, ev, a1.ok.sub _ _ hF, p1 w1 _ (Af.refl a1.ok) rfl fun w2 x i => ?_⟩
    have hH := x.ok.sub _ _ (x.fz _ _ hF)
    have hlen : vs.length = es.length := by
      have := Reps.length rv
      rw [List.length_map] at this
      exact this
    refine ⟨fun d hd => ?_, fun hi => ⟨hH, by omega⟩⟩
    obtain ⟨u, hu, ru⟩ := rv.get hd
    obtain ⟨kv, hkv, ekv⟩ := map_get hu
    have hi : i < es.length := (List.getElem?_eq_some_iff.mp hkv).1
    refine ⟨⟨hH, hi⟩, fun v' H' ⟨eH', k, h1⟩ => ⟨w2, eH'.symm, Af.refl x.ok, rfl, ?_⟩⟩
    rw [hkv] at h1
    cases h1
    have ekv' : v' = u := ekv
    rw [ekv']
    exact Rep.af x ru
  · exact p1.elim
theorem pairs_get : ∀ (ks vs : List Dl.D) (i : Nat) {d : Dl.D}, (pairsD ks vs)[i]? = some d → ∃ x y, ks[i]? = some x ∧ vs[i]? = some y ∧ d = .tup [x, y]
  | [], ys, i, d, h => by simp [pairsD] at h
  | x :: xs, [], i, d, h => by simp [pairsD] at h
  | x :: xs, y :: ys, 0, d, h => by
    simp [pairsD] at h
    exact ⟨x, y, rfl, rfl, h.symm⟩
  | x :: xs, y :: ys, i + 1, d, h => by
    obtain ⟨a, b, h1, h2, h3⟩ := pairs_get xs ys i (by simpa [pairsD] using h)
    exact ⟨a, b, by simpa using h1, by simpa using h2, h3⟩
theorem pairs_len : ∀ (xs ys : List Dl.D), (pairsD xs ys).length = min xs.length ys.length
  | [], ys => by simp [pairsD]
  | x :: xs, [] => by simp [pairsD]
  | x :: xs, y :: ys => by rw [pairsD, List.length_cons, pairs_len xs ys, List.length_cons, List.length_cons]; omega
variable {elts : List Expr} {kk : Nat}
theorem i_items (h : UE X cl W e de) (hbase : attributeBase e "items" X.env (eval e X.env) = eval e X.env := by rfl) (hline : (apos.endLine == cpos.line) = true := by rfl) :
    UI X cl W (.Tuple elts kk tpos) (.Call (.Attribute e "items" apos) [] [] cpos) (iIt de) := weakI (pi_items h hbase hline) fun σ H R ⟨w, t, eH, ok, en, p⟩ => by
  refine ⟨w, t, eH, ok, en, OPost.bind p fun d w1 v a1 r1 p1 => ?_⟩
  split at p1
  · rename_i ks vs
    obtain ⟨a, od, es, ev, hF, rk, rv⟩ := dic_frz r1
    refine ⟨a, od, es, ev, a1.ok.sub _ _ hF, p1 w1 _ (Af.refl a1.ok) rfl fun w2 x i => ?_⟩
    have hH := x.ok.sub _ _ (x.fz _ _ hF)
    have hlen : ks.length = es.length := by
      have := Reps.length rk
      rw [List.length_map] at this
      exact this
    have hlen2 : vs.length = es.length := by
      have := Reps.length rv
      rw [List.length_map] at this
      exact this
    refine ⟨fun d hd => ?_, fun hi => ⟨hH, by rw [pairs_len] at hi; omega⟩⟩
    obtain ⟨x1, y1, g1, g2, g3⟩ := pairs_get _ _ _ hd
    obtain ⟨u, hu, ru⟩ := rk.get g1
    obtain ⟨u2, hu2, ru2⟩ := rv.get g2
    obtain ⟨kv, hkv, ekv⟩ := map_get hu
    have hi : i < es.length := (List.getElem?_eq_some_iff.mp hkv).1
    rw [List.getElem?_map, hkv] at hu2
    have hu2' : kv.2 = u2 := by simpa using hu2
    refine ⟨⟨hH, hi⟩, fun v' H' ⟨T, k, v2, h1, h2, hT, h3⟩ => ?_⟩
    rw [hkv] at h1
    cases h1
    obtain ⟨w3, q1, q2, q3, q4⟩ := tup_laid (ds := [x1, y1]) x.ok hT (Reps.cons (Rep.af x (ekv ▸ ru)) (Reps.one (Rep.af x (hu2' ▸ ru2))))
    refine ⟨w3, q1.trans h3.symm, q2, q3, ?_⟩
    rw [h2, g3]
    exact q4
  · exact p1.elim

/-! ### dict(d) -/
def dDictF (da : DA) : DE := fun t S => (da t S).bind fun xs S1 => match xs with
  | [x] => (match deref x S1 with
    | .dic ks vs => .ok (.dic ks vs) S1
    | _ => .bad)
  | _ => .bad
variable {da : DA} {es : List Expr} {x : Str}
theorem u_dictF (hg : Gl X x) (hm : X.mg x = none) (hv : bootBuiltins x = some (.type "dict")) (ha : UA X cl W (e :: es) da) (hn : x ≠ "__name__" := by decide) (hdb : (x == ("__debug__" : Str)) = false := by decide)
    (he : starEach (e :: es) X.env = (false, eval e X.env) :: starEach es X.env := by rfl) (hpl : (backTo pos (starEach es X.env)).any (·.1) = false := by rfl) : UE X cl W (.Call (.Name x p) (e :: es) [] pos) (dDictF da) :=
  weakE (pe_mayLock (pe_callTy call_dictD hg hm hv ha hn hdb he hpl)) fun σ H Q ⟨w, t, eH, ok, en, p⟩ => by
    refine ⟨w, t, eH, ok, en, OPost.bind p fun xs w1 vs a1 r1 p1 => ?_⟩
    split at p1
    · rename_i x
      obtain ⟨v, ev0, r2⟩ := RL.one r1
      subst ev0
      split at p1
      · rename_i ks vs hx
        obtain ⟨a, es, ev, h1, h2, h3⟩ := deref_dic a1.ok r2 hx
        subst ev
        refine ⟨a, es, rfl, h1, fun q hq => .inr ⟨q, _, rfl, upd_same, True.intro, fun od => ?_⟩⟩
        have g : Blind X.K cl w1 _ q (.dK es) := .new a1.ok hq
        obtain ⟨w2, e1, e2, a2, r2⟩ := g.dic h2 h3 od
        have z := p1 w2 (.ref q) a2 e2 r2
        rw [e1] at z
        exact z
      · exact p1.elim
    · exact p1.elim
end
end Dl
set_option Elab.async false
set_option linter.all false
set_option maxRecDepth 100000
set_option maxHeartbeats 400000
/-! The data layer: isinstance, == of dicts, == by an own def, properties. -/
namespace Dl
open PySem PyProof.Rows L2

/-! ### == of dicts, flat values -/
def flatOf : D → Option V
  | .non => some .non
  | .bl b => some (.bl b)
  | .int i => some (.int i)
  | .str x => some (.str x)
  | _ => none
def hitsV (ls : List (Key × V)) : List (Key × V) → Bool
  | [] => true
  | (k, v) :: r => match valV ls k with
    | none => false
    | some y => eqV v y && hitsV ls r
def rEqDF (neg : Bool) : R2 := fun x y H Q => ∃ a b ks ls, x = .ref a ∧ y = .ref b ∧ Rd H a (.dK ks) ∧ Rd H b (.dK ls) ∧ (∀ p ∈ ks, flatV p.2 = true) ∧ (∀ p ∈ ls, flatV p.2 = true) ∧ Q (.bl (xor neg (ks.length == ls.length && hitsV ls ks))) H
theorem valV_mem {ls : List (Key × V)} {k : Key} {v : V} (h : valV ls k = some v) : ∃ p ∈ ls, p.2 = v := by
  unfold valV at h
  obtain ⟨p, h1, h2⟩ := Option.map_eq_some_iff.mp h
  exact ⟨p, List.mem_of_find?_eq_some h1, h2⟩
theorem hits_flat {A : Around} {s : Shared} {ls : List (Key × V)} {vb : List (Key × Value)} (rb : KV ls vb) (fl : ∀ p ∈ ls, flatV p.2 = true) : ∀ {ks : List (Key × V)} {va : List (Key × Value)}, KV ks va → (∀ p ∈ ks, flatV p.2 = true) → PySem.W.KeqHits A s vb va (hitsV ls ks)
  | [], va, r, _ => by cases r; exact .nil
  | p :: ks, va, r, f => by
    cases r with
    | @cons _ q _ qs h t =>
      obtain ⟨k, v⟩ := p
      obtain ⟨k2, u⟩ := q
      obtain ⟨e1, e2⟩ := h
      cases (show k = k2 from e1)
      have ih := hits_flat (A := A) (s := s) rb fl (ks := ks) t fun p hp => f p (List.mem_cons_of_mem _ hp)
      have rel := rb.val k
      unfold hitsV
      cases hv : valV ls k with
      | none =>
        rw [hv] at rel
        refine .miss ?_
        cases hw : valueAt vb k with
        | none => rfl
        | some w' => rw [hw] at rel; cases rel
      | some y =>
        obtain ⟨w', hw, rw'⟩ := RelO.some_of (v := y) (o := valueAt vb k) (by rw [← hv]; exact rel)
        obtain ⟨p', hp', ep⟩ := valV_mem hv
        exact .hit hw (eqAt_V e2 rw' (f _ List.mem_cons_self) (by rw [← ep]; exact fl p' hp')) ih
theorem op_eqDF {X : Cx} (hu : X.A.units < cLine) : OpR X (compareOp .Eq) (rEqDF false) := by
  intro pins s σ H x y v u Q I rx ry h
  obtain ⟨a, b, ks, ls, rfl, rfl, ea, eb, f1, f2, q⟩ := h
  obtain rfl : v = Value.ref a := rx
  obtain rfl : u = Value.ref b := ry
  obtain ⟨_, ya, va, ra, da⟩ := dk_rd I.hok ea
  obtain ⟨_, yb, vb, rb, db⟩ := dk_rd I.hok eb
  have hl : (va.length == vb.length) = (ks.length == ls.length) := by rw [← ra.length, ← rb.length]
  exact PySem.W.keq_eq (knd := mixKind X.prog X.w) (r := hitsV ls ks) ya yb da db hu (fun _ => hits_flat rb f2 ra f1) ⟨.bl _, H, I, rfl, by rw [hl]; simpa using q⟩
theorem op_neDF {X : Cx} (hu : X.A.units < cLine) : OpR X (compareOp .NotEq) (rEqDF true) := by
  intro pins s σ H x y v u Q I rx ry h
  obtain ⟨a, b, ks, ls, rfl, rfl, ea, eb, f1, f2, q⟩ := h
  obtain rfl : v = Value.ref a := rx
  obtain rfl : u = Value.ref b := ry
  obtain ⟨_, ya, va, ra, da⟩ := dk_rd I.hok ea
  obtain ⟨_, yb, vb, rb, db⟩ := dk_rd I.hok eb
  have hl : (va.length == vb.length) = (ks.length == ls.length) := by rw [← ra.length, ← rb.length]
  exact PySem.W.keq_ne (knd := mixKind X.prog X.w) (r := hitsV ls ks) ya yb da db hu (fun _ => hits_flat rb f2 ra f1) ⟨.bl _, H, I, rfl, by rw [hl]; simpa using q⟩
def flats : List D → Option (List V)
  | [] => some []
  | d :: ds => match flatOf d, flats ds with
    | some v, some vs => some (v :: vs)
    | _, _ => none
def keysD : List D → Option (List Key)
  | [] => some []
  | d :: ds => match keyD d, keysD ds with
    | some v, some vs => some (v :: vs)
    | _, _ => none
def pairsK : List Key → List V → List (Key × V)
  | k :: ks, v :: vs => (k, v) :: pairsK ks vs
  | _, _ => []
/-- the pairs, values flat -/
def tabOf (ks vs : List D) : Option (List (Key × V)) := match keysD ks, flats vs with
  | some a, some b => some (pairsK a b)
  | _, _ => none
section
variable {K : PySem.W.Frag} {cl : Nat → Addr} {F : Hp} {m : List Addr}
theorem flatOf_rep {d : D} {v u : V} (r : Rep K cl F m d v) (h : flatOf d = some u) : v = u ∧ flatV u = true := by
  cases d with
  | non => cases h; exact ⟨r, rfl⟩
  | bl b => cases h; exact ⟨r, rfl⟩
  | int i => cases h; exact ⟨r, rfl⟩
  | str x => cases h; exact ⟨r, rfl⟩
  | _ => cases h
theorem tab_rep : ∀ {ks vs : List D} {es tb : List (Key × V)}, Reps K cl F m ks (es.map fun e => kV e.1) → Reps K cl F m vs (es.map (·.2)) → tabOf ks vs = some tb → es = tb ∧ ∀ p ∈ tb, flatV p.2 = true
  | ks, vs, [], tb, rk, rv, h => by
    cases ks with
    | cons k ks => obtain ⟨_, _, h, _⟩ := rk; simp at h
    | nil =>
      cases vs with
      | cons v vs => obtain ⟨_, _, h, _⟩ := rv; simp at h
      | nil => cases h; exact ⟨rfl, fun p hp => nomatch hp⟩
  | ks, vs, e :: es, tb, rk, rv, h => by
    cases ks with
    | nil => exact absurd (show _ = [] from rk) (by simp)
    | cons k ks =>
      cases vs with
      | nil => exact absurd (show _ = [] from rv) (by simp)
      | cons d vs =>
        obtain ⟨k', kr, h1, h2, h3⟩ := rk
        obtain ⟨v', vr, g1, g2, g3⟩ := rv
        simp only [List.map_cons, List.cons.injEq] at h1 g1
        obtain ⟨h1a, h1b⟩ := h1
        obtain ⟨g1a, g1b⟩ := g1
        subst h1a h1b g1a g1b
        have hk := rep_kV h2
        unfold tabOf keysD flats at h
        rw [hk] at h
        cases hks : keysD ks with
        | none => rw [hks] at h; cases h
        | some kk =>
          cases hfd : flatOf d with
          | none => rw [hks, hfd] at h; cases h
          | some u =>
            cases hfs : flats vs with
            | none => rw [hks, hfd, hfs] at h; cases h
            | some us =>
              rw [hks, hfd, hfs] at h
              cases h
              obtain ⟨i1, i2⟩ := tab_rep (tb := pairsK kk us) h3 g3 (by unfold tabOf; rw [hks, hfs])
              obtain ⟨j1, j2⟩ := flatOf_rep g2 hfd
              show e :: es = (e.1, u) :: pairsK kk us ∧ _
              refine ⟨by rw [← j1, ← i1], fun p hp => ?_⟩
              rcases List.mem_cons.mp hp with e' | hp
              · rw [e']; exact j2
              · exact i2 p hp
end
def fEqB (neg : Bool) : D → D → Sto → Out D := fun x y S => match deref x S, deref y S with
  | .dic ks vs, .dic ls us => (match tabOf ks vs, tabOf ls us with
    | some a, some b => .ok (.bl (xor neg (a.length == b.length && hitsV b a))) S
    | _, _ => .bad)
  | _, _ => fEqG neg x y S
def fEqA (neg : Bool) : D → D → Sto → Out D := fun x y S => match x, y with
  | .str a, .str b => .ok (.bl (xor neg (decide (a = b)))) S
  | _, _ => fEqB neg x y S
section
variable {K : PySem.W.Frag} {cl : Nat → Addr}
theorem d_eqDF {neg : Bool} {w : Wd} {x y : D} {vx vy : V} {W : Value → Option Addr → Hp → Prop} {Q : VK} {ks vs ls us : List D} (ok : w.Ok K cl) (rx : RV K cl w x vx) (ry : RV K cl w y vy) (hx : deref x w.S = .dic ks vs) (hy : deref y w.S = .dic ls us)
    (p : OPost K cl (RV K cl) W w Q (match tabOf ks vs, tabOf ls us with
    | some a, some b => .ok (.bl (xor neg (a.length == b.length && hitsV b a))) w.S
    | _, _ => .bad)) : rEqDF neg vx vy w.H Q := by
  split at p
  · rename_i a b ha hb
    obtain ⟨p1, es, ev, h1, h2, h3⟩ := deref_dic ok rx hx
    obtain ⟨p2, es', ev', h1', h2', h3'⟩ := deref_dic ok ry hy
    obtain ⟨i1, i2⟩ := tab_rep h2 h3 ha
    obtain ⟨j1, j2⟩ := tab_rep h2' h3' hb
    subst i1 j1
    exact ⟨p1, p2, es, es', ev, ev', h1, h1', i2, j2, p w _ (Af.refl ok) rfl rfl⟩
  · exact p.elim
theorem d_eqB : OpD K cl (fun x y H Q => rEqD K x y H Q ∨ rEqDF false x y H Q) (fEqB false) := by
  intro w x y vx vy W Q ok rx ry p
  unfold fEqB at p
  split at p
  · rename_i ks vs ls us hx hy
    exact .inr (d_eqDF ok rx ry hx hy p)
  · exact .inl (d_eq w x y vx vy W Q ok rx ry p)
theorem d_neB : OpD K cl (fun x y H Q => rNeD K x y H Q ∨ rEqDF true x y H Q) (fEqB true) := by
  intro w x y vx vy W Q ok rx ry p
  unfold fEqB at p
  split at p
  · rename_i ks vs ls us hx hy
    exact .inr (d_eqDF ok rx ry hx hy p)
  · exact .inl (d_ne w x y vx vy W Q ok rx ry p)
theorem d_eqA : OpD K cl (fun x y H Q => rEq x y H Q ∨ (rEqD K x y H Q ∨ rEqDF false x y H Q)) (fEqA false) := by
  intro w x y vx vy W Q ok rx ry p
  unfold fEqA at p
  split at p
  · rename_i a b
    cases (show vx = .str a from rx)
    cases (show vy = .str b from ry)
    refine .inl ⟨rfl, ?_⟩
    have z := p w _ (Af.refl ok) rfl rfl
    have e : decide (V.str a = V.str b) = decide (a = b) := decide_eq_decide.mpr ⟨fun h => V.str.inj h, fun h => by rw [h]⟩
    rw [e]
    simpa using z
  · exact .inr (d_eqB w x y vx vy W Q ok rx ry p)
theorem d_neA : OpD K cl (fun x y H Q => rNe x y H Q ∨ (rNeD K x y H Q ∨ rEqDF true x y H Q)) (fEqA true) := by
  intro w x y vx vy W Q ok rx ry p
  unfold fEqA at p
  split at p
  · rename_i a b
    cases (show vx = .str a from rx)
    cases (show vy = .str b from ry)
    refine .inl ⟨rfl, ?_⟩
    have z := p w _ (Af.refl ok) rfl rfl
    have e : decide (V.str a = V.str b) = decide (a = b) := decide_eq_decide.mpr ⟨fun h => V.str.inj h, fun h => by rw [h]⟩
    rw [e]
    simpa using z
  · exact .inr (d_neB w x y vx vy W Q ok rx ry p)
end
end Dl
set_option Elab.async false
set_option linter.all false
set_option maxRecDepth 100000
set_option maxHeartbeats 400000
/-! The data layer: isinstance, == by an own def, properties. -/
namespace Dl
open PySem PyProof.Rows L2

theorem RL.mk1 {K : PySem.W.Frag} {cl : Nat → Addr} {w : Wd} {d : D} {v : V} (r : RV K cl w d v) : RL K cl w [d] [v] := ⟨v, [], rfl, r, rfl⟩
theorem takes0 {X : Cx} : Takes X W0 := fun u s' ⟨_, _, _, _, _, _, _, _, _, _, _, _, _, _, _, _, w⟩ => w.elim

/-! ### isinstance -/
inductive Tn where
  | b (s : String) | o (c : Nat)
def Tn.v (cl : Nat → Addr) : Tn → Value
  | .b s => .type s
  | .o c => .ref (cl c)
def tnOf (d : D) (S : Sto) : Option Tn := match deref d S with
  | .non => some (.b "NoneType")
  | .bl _ => some (.b "bool")
  | .int _ => some (.b "int")
  | .str _ => some (.b "str")
  | .tup _ => some (.b "tuple")
  | .lst _ => some (.b "list")
  | .rol _ => some (.b "list")
  | .dic _ _ => some (.b "dict")
  | .obj c _ _ => some (.o c)
  | .ptr _ => none
/-- an own class that isinstance may be asked of -/
structure Isi (K : PySem.W.Frag) (C : Addr) : Prop where
  cls : Cls K C
  ha : PySem.W.findIn K (.ref C) "__class__" = some (some (.builtin "object.__class__"))
  hn : PySem.W.specialIn K (.builtin "object.__class__") "__get__" = some (some (.builtin "getset_descriptor.__get__"))
  htk : PySem.W.takesIn K (.builtin "object.__class__") = some true
  hm : PySem.W.mroIn K C (.type "object") = some true
theorem deref_obj {K : PySem.W.Frag} {cl : Nat → Addr} {w : Wd} {d : D} {v : V} {c : Nat} {ns : List Str} {vs : List D} (ok : w.Ok K cl) (r : RV K cl w d v) (e : deref d w.S = .obj c ns vs) : ∃ a dx es, v = .ref a ∧ w.H a = some (.ins (cl c) dx es) := by
  unfold deref at e
  split at e
  · rename_i i
    split at e
    · rename_i c hc
      subst e
      obtain ⟨a, ea, ev⟩ := r
      obtain ⟨_, dx, es, q, _⟩ := ok.cell i a _ ea hc
      exact ⟨a, dx, es, ev, q⟩
    · cases e
  · subst e
    obtain ⟨a, dx, es, ev, q, _⟩ := r
    exact ⟨a, dx, es, ev, ok.sub _ _ q⟩
theorem deref_prim {K : PySem.W.Frag} {cl : Nat → Addr} {w : Wd} {d u : D} {v : V} (ok : w.Ok K cl) (r : RV K cl w d v) (e : deref d w.S = u) (hu : ∀ H F m a, ¬ CellAt K cl H F m a u) (hp : ∀ i, u ≠ .ptr i) : d = u := by
  unfold deref at e
  split at e
  · rename_i i
    split at e
    · rename_i c hc
      subst e
      obtain ⟨a, ea, ev⟩ := r
      exact (hu _ _ _ _ (ok.cell i a _ ea hc).2).elim
    · exact (hp i e.symm).elim
  · exact e
theorem ty_of {K : PySem.W.Frag} {cl : Nat → Addr} {w : Wd} {d : D} {v : V} {n : Tn} (ok : w.Ok K cl) (r : RV K cl w d v) (e : tnOf d w.S = some n) (hI : ∀ c, n = .o c → Isi K (cl c)) : TyX K w.H v (n.v cl) := by
  unfold tnOf at e
  cases h : deref d w.S with
  | non =>
    rw [h] at e; cases e
    have := deref_prim ok r h (fun _ _ _ _ z => z) (fun _ z => nomatch z)
    subst this
    cases (show v = .non from r)
    exact .base .non
  | bl b =>
    rw [h] at e; cases e
    have := deref_prim ok r h (fun _ _ _ _ z => z) (fun _ z => nomatch z)
    subst this
    cases (show v = .bl b from r)
    exact .base (.bl b)
  | int b =>
    rw [h] at e; cases e
    cases deref_int ok r h
    exact .base (.int b)
  | str b =>
    rw [h] at e; cases e
    cases deref_str ok r h
    exact .base (.str b)
  | tup xs =>
    rw [h] at e; cases e
    obtain ⟨a, vs, ev, h1, h2⟩ := deref_tup ok r h
    subst ev
    rcases h1 with (h1 | ⟨o, h1⟩) | h1
    · exact .base (.tup h1)
    · exact .fTuple h1
    · obtain ⟨o, its, n, h1, h3, _⟩ := h1
      exact .kTuple h1 h3
  | lst xs =>
    rw [h] at e; cases e
    obtain ⟨a, vs, ev, h1, h2⟩ := deref_lst ok r h
    subst ev
    exact .base (.lst h1)
  | rol xs =>
    rw [h] at e; cases e
    obtain ⟨a, vs, ev, h1, h2⟩ := deref_rol ok r h
    subst ev
    rcases h1 with (h1 | ⟨o, h1⟩) | h1
    · exact .base (.lst h1)
    · exact .base (.frz h1)
    · obtain ⟨o, its, n, h1, h3, _⟩ := h1
      exact .kList h1 h3
  | dic ks vs =>
    rw [h] at e; cases e
    obtain ⟨a, es, ev, h1, h2, h3⟩ := deref_dic ok r h
    subst ev
    rcases h1 with h1 | ⟨o, h1⟩
    · exact .base (.dK h1)
    · exact .fDict h1
  | obj c ns vs =>
    rw [h] at e; cases e
    obtain ⟨a, dx, es, ev, h1⟩ := deref_obj ok r h
    subst ev
    have i := hI c rfl
    exact .base (.ins h1 i.cls i.ha i.hn i.htk i.hm)
  | ptr i => rw [h] at e; cases e
/-- isinstance(e, T): tab is the answer by types -/
def dIsi (tab : Tn → Option Bool) (dx : DE) : DE := fun t S => (dx t S).bind fun x S1 => match tnOf x S1 with
  | some n => (match tab n with
    | some b => .ok (.bl b) S1
    | none => .bad)
  | none => .bad
section
variable {X : Cx} {cl : Nat → Addr} {W : WX} {e c : Expr} {dx : DE} {p pos : Pos} {vc : V} {uc : Value} {tab : Tn → Option Bool}
theorem u_isi (kc : ClsV vc uc) (ht : ∀ n b, tab n = some b → PySem.W.kitOne X.K (n.v cl) uc = some b ∧ ∀ c, n = .o c → Isi X.K (cl c)) (hg : Gl X "isinstance") (hm : X.mg "isinstance" = none) (he : UE X cl W e dx) (hc : PE X c (tC vc))
    (hs : starEach [e, c] X.env = (false, eval e X.env) :: starEach [c] X.env := by rfl) (hs2 : starEach [c] X.env = (false, eval c X.env) :: starEach [] X.env := by rfl) (hpl : (backTo pos (starEach [c] X.env)).any (·.1) = false := by rfl) :
    UE X cl W (.Call (.Name "isinstance" p) [e, c] [] pos) (dIsi tab dx) :=
  weakE (pe_callB call_isi hg hm (by decide +kernel) (pa_cons he (pa_cons hc pa_nil hs2) hs) (he := hs) (hpl := hpl)) fun σ H Q ⟨w, t, eH, ok, en, q⟩ => by
    refine ⟨w, t, eH, ok, en, OPost.bind q fun x w1 v a1 r1 p1 => ?_⟩
    split at p1
    · rename_i n hn
      split at p1
      · rename_i b hb
        obtain ⟨h1, h2⟩ := ht n b hb
        exact ⟨v, vc, n.v cl, uc, b, rfl, kc, ty_of a1.ok r1 hn h2, h1, p1 w1 _ (Af.refl a1.ok) rfl rfl⟩
      · exact p1.elim
    · exact p1.elim
/-- a built-in type asked of built-in values -/
def tabB (T : String) : Tn → Option Bool
  | .b "NoneType" => some (T == "NoneType")
  | .b "bool" => some (T == "bool" || T == "int")
  | .b "int" => some (T == "int")
  | .b "str" => some (T == "str")
  | .b "tuple" => some (T == "tuple")
  | .b "list" => some (T == "list")
  | .b "dict" => some (T == "dict")
  | _ => none
def tabOk (T : String) : Bool := [("NoneType", T == "NoneType"), ("bool", T == "bool" || T == "int"), ("int", T == "int"), ("str", T == "str"), ("tuple", T == "tuple"), ("list", T == "list"), ("dict", T == "dict")].all fun q => decide (kitB q.1 T = some q.2)
theorem tabB_ok {K : PySem.W.Frag} {T : String} (h : tabOk T = true) : ∀ n b, tabB T n = some b → PySem.W.kitOne K (n.v cl) (.type T) = some b ∧ ∀ c, n = .o c → Isi K (cl c) := by
  intro n b hb
  unfold tabOk at h
  have g : ∀ a r, (a, r) ∈ [("NoneType", T == "NoneType"), ("bool", T == "bool" || T == "int"), ("int", T == "int"), ("str", T == "str"), ("tuple", T == "tuple"), ("list", T == "list"), ("dict", T == "dict")] → kitB a T = some r := fun a r hm => of_decide_eq_true (List.all_eq_true.mp h (a, r) hm)
  unfold tabB at hb
  split at hb
  all_goals first
    | (cases hb; exact ⟨kit_ty (g _ _ (by simp)), fun c z => nomatch z⟩)
    | cases hb
theorem tab_int : tabOk "int" = true := by decide +kernel
theorem tab_bool : tabOk "bool" = true := by decide +kernel
theorem tab_str : tabOk "str" = true := by decide +kernel
theorem tab_tuple : tabOk "tuple" = true := by decide +kernel
theorem tab_dict : tabOk "dict" = true := by decide +kernel
theorem tab_list : tabOk "list" = true := by decide +kernel
/-- an own class asked of own objects -/
def tabO (c : Nat) (cs : List (Nat × Bool)) : Tn → Option Bool
  | .o k => if k = c then some true else cs.lookup k
  | _ => none
theorem tabO_ok {K : PySem.W.Frag} {c : Nat} (i : Isi K (cl c)) : ∀ n b, tabO c [] n = some b → PySem.W.kitOne K (n.v cl) (.ref (cl c)) = some b ∧ ∀ c, n = .o c → Isi K (cl c) := by
  intro n b hb
  unfold tabO at hb
  split at hb
  · split at hb
    · rename_i h
      cases hb
      subst h
      refine ⟨?_, fun c z => by cases z; exact i⟩
      show (if (Value.ref (cl _) == Value.ref (cl _)) = true then some true else _) = _
      rw [if_pos (by simp)]
    · cases hb
  · cases hb
end

/-! ### == by an own def -/
section
variable {X : Cx} {cl : Nat → Addr} {W : WX} {k : Nat} {f C : Addr} {fd : FuncData} {ps : List Str} {c : Nat} {h : DF}
def rOwn (K : PySem.W.Frag) (cl : Nat → Addr) (c : Nat) (h : DF) : R2 := fun x y H Q => ∃ a b dx dy fs gs, x = .ref a ∧ y = .ref b ∧ H a = some (.ins (cl c) dx fs) ∧ H b = some (.ins (cl c) dy gs) ∧
  spD K cl 2 h [x, y] H (fun v H' => ∃ z, v = .bl z ∧ Q (.bl z) H') fun _ _ _ => False
theorem op_own (F : FnD X cl k f fd ps h) (hr : Room k X.A) (hb : Binds X.K fd ps []) (hp : ps.length = 2) (hs : PySem.W.findIn X.K (.ref (cl c)) "__eq__" = some (some (.ref f))) (hf : PySem.W.isFn X.K (.ref f) = true) :
    OpR X (compareOp .Eq) (rOwn X.K cl c h) := by
  intro pins s σ H x y v u Q I rx ry d
  obtain ⟨a, b, dx, dy, fs, gs, rfl, rfl, ha, hb', hsp⟩ := d
  cases rx
  cases ry
  show wpAny (model X.prog X.w) X.A (richCompare .Eq (.ref a) (.ref b)) (EP X pins σ Q) X.xe s
  obtain ⟨mA, J, _⟩ := ins_get I.hok ha
  obtain ⟨mB, J', _⟩ := ins_get I.hok hb'
  obtain ⟨od, J, _⟩ := J.look
  obtain ⟨od', J', _⟩ := J'.look
  obtain ⟨m, hF⟩ := I.fr
  refine PySem.W.cmp_K (op := .Eq) (tb := .ref (cl c)) hr.units0 hF I.ok.mod.kin J J'.type (by simp [PySem.W.notFirst]) hs hf ?_
  have hsp' : spD X.K cl ps.length h [.ref a, .ref b] H (fun v H' => ∃ z, v = .bl z ∧ Q (.bl z) H') fun _ _ _ => False := by rw [hp]; exact hsp
  have hl := F.len _ _ _ _ hsp'
  have r2 : Vals [V.ref a, V.ref b] [Value.ref a, Value.ref b] := .cons rfl (.cons rfl .nil)
  refine wpAny_call (codeAny_mono (F.run X.A X.stack s H ⟨[.ref a, .ref b], []⟩ [.ref a, .ref b] [.ref a, .ref b] _ _ hr I.env0 (by
    have := hb s [.ref a, .ref b] I.kIn (by simpa using hl)
    simpa using this) r2 hsp') fun r s' hq => ?_)
  cases r with
  | error e => exact (passAt (W := W0) takes0 σ pins H s e s' I hq)
  | ok fl =>
    cases fl with
    | ret w =>
      obtain ⟨z, H', I', rz, bz, ez, q⟩ := I.after hq
      subst ez
      cases rz
      exact ⟨.bl bz, H', I', rfl, q⟩
    | next => exact False.elim hq
    | brk => exact False.elim hq
    | cont => exact False.elim hq
def fEqO (c : Nat) (h : DF) : D → D → Sto → Out D := fun x y S => match objOf x S, objOf y S with
  | some (c1, _, _), some (c2, _, _) => if c1 = c ∧ c2 = c then (viaP h [x, y] S).calm.bind fun z S' => match z with
    | .bl b => .ok (.bl b) S'
    | _ => .bad else .bad
  | _, _ => .bad
theorem d_own {K : PySem.W.Frag} : OpD K cl (rOwn K cl c h) (fEqO c h) := by
  intro w x y vx vy W Q ok rx ry p
  unfold fEqO at p
  split at p
  · rename_i c1 _ _ c2 _ _ h1 h2
    split at p
    · rename_i hc
      obtain ⟨rfl, rfl⟩ := hc
      obtain ⟨a, dx, es, ev, ea, _, _⟩ := objOf_at ok rx h1
      obtain ⟨b, dy, gs, ev', eb, _, _⟩ := objOf_at ok ry h2
      refine ⟨a, b, dx, dy, es, gs, ev, ev', ea, eb, ?_⟩
      refine isP K cl w h [x, y] [vx, vy] _ _ ok ⟨vx, _, rfl, rx, vy, [], rfl, ry, rfl⟩ ?_
      refine OPost.bindTo (R' := RV K cl) p fun z w1 v a1 r1 p1 => ?_
      split at p1
      · rename_i bz
        cases (show v = .bl bz from r1)
        exact ⟨bz, rfl, p1 w1 _ a1 rfl rfl⟩
      · exact p1.elim
    · exact p.elim
  · exact p.elim

/-! ### a property -/
variable {e : Expr} {dx : DE} {fn : Str} {pa g : Addr} {pos : Pos}
def dProp (c : Nat) (h : DF) (dx : DE) : DE := fun t S => (dx t S).bind fun x S1 => match objOf x S1 with
  | some (c', _, _) => if c' = c then (viaP h [x] S1).calm else .bad
  | none => .bad
theorem u_prop (F : FnD X cl k g fd ps h) (hr : Room (k + 1) X.A) (hb : Binds X.K fd ps []) (hp : ps.length = 1) (ck : Cls X.K (cl c)) (hpr : PropOf X.K (cl c) fn pa g) (he : UE X cl W e dx) (hab : attributeBase e fn X.env (eval e X.env) = eval e X.env) :
    UE X cl W (.Attribute e fn pos) (dProp c h dx) :=
  weakE (pe_prop (E := fun _ _ _ => False) he ck hpr F hr hb .nil (fun pins σ H s e s' I q => passAt (W := W0) (X := X.nox) takes0 σ pins H s e s' I q) hab) fun σ H Q ⟨w, t, eH, ok, en, p⟩ => by
    refine ⟨w, t, eH, ok, en, OPost.bind p fun x w1 v a1 r1 p1 => ?_⟩
    split at p1
    · rename_i c' ns vs ho
      split at p1
      · rename_i hc
        subst hc
        obtain ⟨a, dy, es, ev, ea, _, _⟩ := objOf_at a1.ok r1 ho
        refine ⟨a, dy, es, ev, ea, ?_⟩
        have z := isP X.K cl w1 h [x] [v] (fun _ _ _ => False) Q a1.ok (RL.mk1 r1) (by
          cases ho : viaP h [x] w1.S with
          | ok a S => rw [ho] at p1; exact p1
          | exc c ns vs S => rw [ho] at p1; exact p1.elim
          | bad => rw [ho] at p1; exact p1.elim)
        rw [hp]
        rw [ev] at z
        exact z
      · exact p1.elim
    · exact p1.elim
end
end Dl
set_option Elab.async false
set_option linter.all false
set_option maxRecDepth 100000
set_option maxHeartbeats 400000
/-! The data layer: dicts of the written part. -/
namespace Dl
open PySem PyProof.Rows L2

/-- a dict of the written part -/
structure StA (P : Program) (w : World) (K : PySem.W.Frag) (d : Addr) (o : Obj) (es : Array DictEntry) (ep : Nat) (kvs : List (Key × V)) (us : List (Key × Value)) : Prop where
  low : (d == sysModules) = false
  lk : K.lookup d = some o
  hx : o.ExactDict
  od : o.data = .dict es ep
  sz : es.size = kvs.length
  kv : KV kvs us
  le : kvs.length ≤ 1000
  dat : ∀ h : Heap, K.In h → h.DictAt (mixKind P w) d us ep
def Itk' (kvs : List (Key × V)) : It := ⟨fun i _ => i < kvs.length, fun i H x H' => H' = H ∧ ∃ k v, kvs[i]? = some (k, v) ∧ x = kV k, fun i _ => kvs.length ≤ i⟩
def Iti' (kvs : List (Key × V)) : It := ⟨fun i _ => i < kvs.length, fun i H x H' => ∃ T k v, kvs[i]? = some (k, v) ∧ x = .ref T ∧ H T = none ∧ H' = upd H T (.tup [kV k, v]), fun i _ => kvs.length ≤ i⟩
section
variable {P : Program} {w : World} {K : PySem.W.Frag} {d : Addr} {o : Obj} {es : Array DictEntry} {ep : Nat} {kvs : List (Key × V)} {us : List (Key × Value)} {tg : Expr}
theorem turn_keys' (A : StA P w K d o es ep kvs us) (it : Addr) : Turn P w K tg (Itk' kvs) [it] it (fun i h => h.IsKeyIter it d i kvs.length ep) where
  mem := by simp
  obj := fun i h st b hb => by
    have e : b = it := by simpa using hb
    subst e
    obtain ⟨oi, e, c, dd⟩ := st
    exact ⟨oi, e, fun v z => by rw [dd] at z; cases z⟩
  keep := fun i h h' st k => st.at fun oi e => k it (by simp) oi e
  item := by
    intro X hP hw hK hc i pins s σ H E I hf st hg
    subst hP hw hK
    have hi : i < kvs.length := hg
    obtain ⟨f0, f1, f2, f3, f4, f5⟩ := hf it (by simp)
    have hm := A.dat s.heap I.kIn
    obtain ⟨⟨k, v⟩, hkv⟩ : ∃ p, kvs[i]? = some p := ⟨kvs[i], List.getElem?_eq_getElem hi⟩
    obtain ⟨u, hu, ru⟩ := kv_get A.kv hkv
    have hl : kvs.length = us.length := Paired.length A.kv
    rw [hl] at st
    refine wpAny_pyNext_dict_item st hm hu fun key h' hkey st' sb => ?_
    have I1 : Inv X pins σ H { s with heap := h' } := I.turned (t' := s.toks) (fun b ob hb e => (sb.2 b hb).trans e) f0 f1 f3 f4 f5
    obtain ⟨oi, e, c, dd⟩ := id st'
    refine ⟨key, rfl, go_of (s := { s with heap := h' }) e c dd (by decide) ⟨kV k, H, I1, relV_key (show keyIs k key = true from hkey), ⟨rfl, k, v, hkv, rfl⟩, ?_, fun b hb => (hf b hb).1⟩⟩
    show h'.IsKeyIter it d (i + 1) kvs.length _
    rw [hl]
    exact st'
  done := by
    intro X hP hw hK hc i pins s σ H E I hf st hg
    subst hP hw hK
    have hi : kvs.length ≤ i := hg
    obtain ⟨f0, f1, f2, f3, f4, f5⟩ := hf it (by simp)
    exact next_key_end (I.ok.hd hc) st (I.kIn _ _ A.lk) A.od A.sz hi fun h' eb => ⟨rfl, I.turned (t' := s.toks) (fun b ob hb e => eb b ob hb e) f0 f1 f3 f4 f5⟩
  self := fun A i s Q E st h => wpAny_pyIter_keyiter st h
theorem turn_items' {elts : List Expr} {kk : Nat} {tpos : Pos} (A : StA P w K d o es ep kvs us) (it : Addr) :
    Turn P w K (.Tuple elts kk tpos) (Iti' kvs) [it] it (fun i h => ∃ ok ov, IsItemIter h it d i kvs.length ep ok ov) where
  mem := by simp
  obj := fun i h st b hb => by
    have e : b = it := by simpa using hb
    subst e
    obtain ⟨ok, ov, e⟩ := st
    exact ⟨_, e, fun v z => nomatch z⟩
  keep := fun i h h' st k => let ⟨ok, ov, e⟩ := st; ⟨ok, ov, k it (by simp) _ e⟩
  item := by
    intro X hP hw hK hc i pins s σ H E I hf st hg
    subst hP hw hK
    have hi : i < kvs.length := hg
    have hm := A.dat s.heap I.kIn
    obtain ⟨⟨k, v⟩, hkv⟩ : ∃ p, kvs[i]? = some p := ⟨kvs[i], List.getElem?_eq_getElem hi⟩
    obtain ⟨u, hu, ru⟩ := kv_get A.kv hkv
    have hl : kvs.length = us.length := Paired.length A.kv
    obtain ⟨ok, ov, he⟩ := st
    rw [hl] at he
    have hlt : it < s.heap.objs.size := Heap.lt_size he
    refine wpAny_pyNext_items_item he hm hu fun key h' hkey ho hT hz hk => ?_
    refine ⟨_, rfl, wpAny_letOwnedTupleGo_items (s := { s with heap := h' }) ho fun h'' he' sb => ?_⟩
    have hT2 : h''.get? s.heap.objs.size = some { cls := .type "tuple", data := .seq #[key, u] } := (sb.2 _ (Nat.ne_of_gt hlt)).trans hT
    have new : ObjOk X.prog X.w (upd H s.heap.objs.size (.tup [kV k, v])) h'' s.heap.objs.size (.tup [kV k, v]) :=
      ⟨by show 2 ≤ sizeLine; decide, [key, u], .cons (relV_key (show keyIs k key = true from hkey)) (.cons ru .nil), ⟨_, hT2, rfl, _, rfl⟩⟩
    have I1 : Inv X pins σ (upd H s.heap.objs.size (.tup [kV k, v])) { s with heap := h'' } :=
      I.turnedNew (t' := s.toks) (ch := [it]) (fun b ob hb e => (sb.2 b (by simpa using hb)).trans (hk b ob (by simpa using hb) e)) hf (Nat.le_refl _) new
    refine ⟨.ref s.heap.objs.size, _, I1, rfl, ⟨_, k, v, hkv, rfl, I.hok.fresh (Nat.le_refl _), rfl⟩, ⟨key, u, ?_⟩, fun b hb => ?_⟩
    · rw [hl]; exact he'
    · have e : b = it := by simpa using hb
      rw [e, upd_ne (Nat.ne_of_lt hlt)]
      exact (hf it (by simp)).1
  done := by
    intro X hP hw hK hc i pins s σ H E I hf st hg
    subst hP hw hK
    have hi : kvs.length ≤ i := hg
    obtain ⟨f0, f1, f2, f3, f4, f5⟩ := hf it (by simp)
    have hm := A.dat s.heap I.kIn
    have hl : kvs.length = us.length := Paired.length A.kv
    obtain ⟨ok, ov, he⟩ := st
    rw [hl] at he
    exact wpAny_pyNext_items_end (I.ok.hd hc) he hm (List.getElem?_eq_none (by omega)) fun h' eb => ⟨rfl, I.turned (t' := s.toks) (fun b ob hb e => eb b ob hb e) f0 f1 f3 f4 f5⟩
  self := fun A i s Q E st h => let ⟨_, _, e⟩ := st; PySem.W.kcp_self e h
end
section
variable {X : Cx} {cl : Nat → Addr} {W : WX} {e i : Expr} {di : DE} {d : Addr} {o : Obj} {es : Array DictEntry} {ep : Nat} {kvs : List (Key × V)} {us : List (Key × Value)} {tg : Expr} {p pos apos cpos tpos : Pos} {ks vs : List D}
/-- the data of a written dict -/
structure StR (K : PySem.W.Frag) (cl : Nat → Addr) (kvs : List (Key × V)) (ks vs : List D) : Prop where
  k : ∀ H m, Reps K cl H m ks (kvs.map fun e => kV e.1)
  v : ∀ H m, Reps K cl H m vs (kvs.map (·.2))
def dConst (xs : List D) : DA := fun _ S => .ok xs S
theorem i_keysK (A : StA X.prog X.w X.K d o es ep kvs us) (R : StR X.K cl kvs ks vs) (he : PE X e (tC (.ref d))) : UI X cl W tg e (dConst ks) := ⟨fun pins s σ H Q I ⟨w, t, eH, ok, en, q⟩ => by
  refine thn (he.run pins s σ H (fun v H1 => v = .ref d ∧ H1 = H) I ⟨rfl, rfl⟩) fun u s1 ⟨x, H1, I1, rx, ex, eh⟩ => ?_
  subst ex
  subst eh
  subst eH
  obtain rfl : u = Value.ref d := rx
  refine iter_keys A.low (I1.kIn _ _ A.lk) A.hx A.od (pi_one (tk := s1.toks) I1 _ (turn_keys' A _) ⟨_, Heap.get?_push_size _ rfl, rfl, ?_⟩ ?_)
  · rw [A.sz] <;> rfl
  · refine q w _ (Af.refl ok) rfl fun w2 x i => ⟨fun z hz => ?_, fun hi => ?_⟩
    · obtain ⟨u, hu, ru⟩ := (R.k w2.F w2.m).get hz
      obtain ⟨kv, hkv, ekv⟩ := map_get hu
      refine ⟨(List.getElem?_eq_some_iff.mp hkv).1, fun v' H' ⟨eH', k, v2, h1, h2⟩ => ⟨w2, eH'.symm, Af.refl x.ok, rfl, ?_⟩⟩
      rw [hkv] at h1
      cases h1
      have ekv' : v' = u := h2.trans ekv
      rw [ekv']
      exact ru
    · have := Reps.length (R.k w2.F w2.m)
      rw [List.length_map] at this
      show kvs.length ≤ i
      omega⟩
theorem i_itemsK {elts : List Expr} {kk : Nat} (A : StA X.prog X.w X.K d o es ep kvs us) (R : StR X.K cl kvs ks vs) (he : PE X e (tC (.ref d))) (hbase : attributeBase e "items" X.env (eval e X.env) = eval e X.env := by rfl) (hline : (apos.endLine == cpos.line) = true := by rfl) :
    UI X cl W (.Tuple elts kk tpos) (.Call (.Attribute e "items" apos) [] [] cpos) (dConst (pairsD ks vs)) := ⟨fun pins s σ H Q I ⟨w, t, eH, ok, en, q⟩ => by
  refine wpAny_Call_method (T := "dict") (id := "dict.items") hbase rfl hline F.plainAttrs_dict F.slot_dict_items F.type_dict_items (thn (he.run pins s σ H (fun v H1 => v = .ref d ∧ H1 = H) I ⟨rfl, rfl⟩) fun u s1 ⟨x, H1, I1, rx, ex, eh⟩ => ?_)
  subst ex
  subst eh
  subst eH
  obtain rfl : u = Value.ref d := rx
  have hm := A.dat s1.heap I1.kIn
  have hl : kvs.length = us.length := Paired.length A.kv
  refine ⟨hm.dictOf.typeIs, hm.dictOf.mapOf.noDict, ?_⟩
  have I2 : Inv X pins σ w.H { s1 with heap := s1.heap.push { cls := .type "dict_items", data := .fields #[.ref d] } } := I1.kept (t' := s1.toks) fun b ob q => Heap.get?_push_of_some _ q
  have fin : wpAny (model X.prog X.w) X.A (pyIter (.ref s1.heap.objs.size)) (PIE X pins σ (.Tuple elts kk tpos) Q) X.xe { s1 with heap := s1.heap.push { cls := .type "dict_items", data := .fields #[.ref d] } } := by
    refine wpAny_pyIter_items (d := d) (knd := mixKind X.prog X.w) ⟨_, Heap.get?_push_size _ rfl, rfl, rfl⟩ (hm.push _) (pi_one (tk := s1.toks) I2 _ (turn_items' A _) ⟨.none, .none, ?_⟩ ?_)
    · rw [hl]
      exact Heap.get?_push_size _ rfl
    · refine q w _ (Af.refl ok) rfl fun w2 x i => ⟨fun z hz => ?_, fun hi => ?_⟩
      · obtain ⟨x1, y1, g1, g2, g3⟩ := pairs_get _ _ _ hz
        obtain ⟨u, hu, ru⟩ := (R.k w2.F w2.m).get g1
        obtain ⟨u2, hu2, ru2⟩ := (R.v w2.F w2.m).get g2
        obtain ⟨kv, hkv, ekv⟩ := map_get hu
        rw [List.getElem?_map, hkv] at hu2
        have hu2' : kv.2 = u2 := by simpa using hu2
        refine ⟨(List.getElem?_eq_some_iff.mp hkv).1, fun v' H' ⟨T, k, v2, h1, h2, hT, h3⟩ => ?_⟩
        rw [hkv] at h1
        cases h1
        obtain ⟨w3, q1, q2, q3, q4⟩ := tup_laid (ds := [x1, y1]) x.ok hT (Reps.cons (ekv ▸ ru) (Reps.one (hu2' ▸ ru2)))
        refine ⟨w3, q1.trans h3.symm, q2, q3, ?_⟩
        rw [h2, g3]
        exact q4
      · have h1 := Reps.length (R.k w2.F w2.m)
        have h2 := Reps.length (R.v w2.F w2.m)
        rw [List.length_map] at h1 h2
        rw [pairs_len] at hi
        show kvs.length ≤ i
        omega
  show wpAny _ _ (callWith cpos (.builtin "dict.items") [.ref d] [] []) _ X.xe s1
  exact method_meetsIn F.slot_dict_items F.entry_dict_items rfl (PySem.evalArgs_none ⟨rfl, hm.dictOf.typeIs, F.args_dict_items_1 _, _, meets_dict_items (mixKind X.prog X.w) d A.low, ⟨us, hm.dictOf⟩, fin⟩)⟩
def dIxK (ks vs : List D) : D → Sto → Out D := fun y S => match keyD y with
  | some q => (match dicGet ks vs q with | some d => .ok d S | none => .bad)
  | none => .bad
def rIxK (d : Addr) (kvs : List (Key × V)) : R2 := fun x y H Q => ∃ k v, x = .ref d ∧ y = kV k ∧ valV kvs k = some v ∧ Q v H
theorem ix_K (A : StA X.prog X.w X.K d o es ep kvs us) : IxR X (rIxK d kvs) := by
  intro value slice pins s σ H x y v u Q I rx ry h hs
  obtain ⟨k, r, rfl, rfl, hv, q⟩ := h
  obtain rfl : v = Value.ref d := rx
  have hm := A.dat s.heap I.kIn
  obtain ⟨w', hw, rw'⟩ := RelO.some_of (v := r) (o := valueAt us k) (by rw [← hv]; exact A.kv.val k)
  exact tail_any hm.dictOf.typeIs slot_dict_getitem.lookup (wpAny_getItem_of (kV_is ry) hm.dictOf.mapOf hw ⟨r, H, I.tok _, rw', q⟩) hs
theorem u_ixK (A : StA X.prog X.w X.K d o es ep kvs us) (R : StR X.K cl kvs ks vs) (he : PE X e (tC (.ref d))) (hi : UE X cl W i di) (hs : PlainIx i := by exact fun _ _ => rfl) : UE X cl W (.Subscript e i pos) (dUn (dIxK ks vs) di) :=
  weakE (pe_ix (ix_K A) he hi hs) fun σ H Q ⟨w, t, eH, ok, en, q⟩ => by
    refine ⟨w, t, eH, ok, en, OPost.bind q fun y w1 vy a1 r1 p1 => ?_⟩
    unfold dIxK at p1
    split at p1
    · rename_i k hk
      split at p1
      · rename_i dd hd
        have z := dicGet_rep (q := k) (R.k w1.F w1.m) (R.v w1.F w1.m)
        rw [hd] at z
        obtain ⟨v, z1, z2⟩ := z
        exact ⟨k, v, rfl, keyD_rep r1 hk, z1, p1 w1 v (Af.refl a1.ok) rfl z2⟩
      · exact p1.elim
    · exact p1.elim
theorem call_lenK (A : StA X.prog X.w X.K d o es ep kvs us) : CallR X (.builtin "len") (fun xs H Q => xs = [.ref d] ∧ Q (.int (kvs.length : Nat)) H) := by
  intro pins s σ H xs vs Q I r h
  obtain ⟨rfl, q⟩ := h
  obtain ⟨u, rfl, ru⟩ := vals1 r
  cases ru
  have hm := A.dat s.heap I.kIn
  have hl : kvs.length = us.length := Paired.length A.kv
  refine call_len_dict A.low hm.dictOf (by rw [← hl]; have := A.le; omega) ?_
  rw [← hl]
  exact ⟨.int kvs.length, H, I.tok _, ⟨_, rfl⟩, q⟩
theorem u_lenK (A : StA X.prog X.w X.K d o es ep kvs us) (hg : Gl X "len") (hm : X.mg "len" = none) (he : PE X e (tC (.ref d))) (hs : starEach [e] X.env = (false, eval e X.env) :: starEach [] X.env := by rfl) :
    UE X cl W (.Call (.Name "len" p) [e] [] pos) (dC (.int (kvs.length : Nat))) :=
  weakE (pe_callB (call_lenK A) hg hm boot_len (pa_cons he pa_nil hs) (he := hs)) fun σ H Q ⟨w, t, eH, ok, en, q⟩ => by
    subst eH
    exact ⟨rfl, q w _ (Af.refl ok) rfl rfl⟩
theorem call_listK (hcalm : X.calm = true) (A : StA X.prog X.w X.K d o es ep kvs us) : CallR X (.type "list") (fun xs H Q => xs = [.ref d] ∧ ∀ p, H p = none → Q (.ref p) (upd H p (.lst (kvs.map fun kv => kV kv.1)))) := by
  intro pins s σ H xs vs Q I r q
  obtain ⟨ex, q⟩ := q
  subst ex
  obtain ⟨u, eu, rx⟩ := vals1 r
  subst eu
  cases rx
  have hat := A.dat s.heap I.kIn
  have hl : kvs.length = us.length := Paired.length A.kv
  have z : kvs.length ≤ sizeLine := Nat.le_trans A.le (by decide)
  have ek : (kvs.map fun kv => kV kv.1) = us.map fun p => kV p.1 := by
    have e := congrArg (List.map kV) A.kv.keys
    rw [List.map_map, List.map_map] at e
    exact e
  refine PySem.W.kdl_call (PySem.W.kdl_dict (knd := mixKind X.prog X.w) (kvs := us) (ep := ep) A.low) (I.ok.hd hcalm) hat (by rw [← hl]; exact z) fun h' tk acc c' hk hD hacc => ?_
  have hv : Vals (us.map fun p => kV p.1) acc.toList := keys_at (by rw [Array.length_toList]; exact hacc.1) fun j v e => hacc.2 j v (by rw [← Array.getElem?_toList]; exact e)
  refine ⟨.ref s.heap.objs.size, upd H s.heap.objs.size (.lst (kvs.map fun kv => kV kv.1)), I.laid (t' := tk) hk (Nat.le_refl _)
    (show ObjOk X.prog X.w _ _ _ (.lst (kvs.map fun kv => kV kv.1)) from ⟨by rw [List.length_map]; exact z, acc.toList, c', by rw [ek]; exact hv, by rw [Array.toArray_toList]; exact hD⟩), rfl, q _ (I.hok.fresh (Nat.le_refl _))⟩
theorem u_listK (A : StA X.prog X.w X.K d o es ep kvs us) (R : StR X.K cl kvs ks vs) (hcalm : X.calm = true) (hg : Gl X "list") (hm : X.mg "list" = none) (he : PE X e (tC (.ref d))) (hs : starEach [e] X.env = (false, eval e X.env) :: starEach [] X.env := by rfl) :
    UE X cl W (.Call (.Name "list" p) [e] [] pos) (dC (.lst ks)) :=
  weakE (pe_callTy (call_listK hcalm A) hg hm (by decide +kernel) (pa_cons he pa_nil hs) (he := hs)) fun σ H Q ⟨w, t, eH, ok, en, q⟩ => by
    subst eH
    refine ⟨rfl, fun l hl => ?_⟩
    exact q ⟨upd w.H l (.lst (kvs.map fun kv : Key × V => kV kv.1)), upd w.F l (.lst (kvs.map fun kv : Key × V => kV kv.1)), w.m, w.S⟩ (.ref l) (ok.laid hl) rfl (laidLst ok hl (R.k w.F w.m))
end

/-! ### from the head -/
def stK (ks : List Str) (vs : List V) : List (Key × V) := match ks, vs with
  | k :: ks, v :: vs => (.inr k, v) :: stK ks vs
  | _, _ => []
def stU (ks : List Str) (vs : List Value) : List (Key × Value) := match ks, vs with
  | k :: ks, v :: vs => (.inr k, v) :: stU ks vs
  | _, _ => []
theorem st_kv : ∀ {ks : List Str} {vs : List V} {us : List Value}, Vals vs us → KV (stK ks vs) (stU ks us)
  | [], _, _, _ => .nil
  | k :: ks, _, _, .nil => .nil
  | k :: ks, _, _, .cons h t => .cons ⟨rfl, h⟩ (st_kv t)
theorem st_keys {us : List Value} : ∀ {ks : List Str}, ∀ p ∈ (stU ks us).map (·.1), ∃ k ∈ ks, p = .inr k := by
  induction us with
  | nil => intro ks p hp; cases ks <;> cases hp
  | cons u us ih =>
    intro ks p hp
    cases ks with
    | nil => cases hp
    | cons k ks =>
      rcases List.mem_cons.mp hp with e | hp
      · exact ⟨k, List.mem_cons_self, e⟩
      · obtain ⟨k', h1, h2⟩ := ih p hp
        exact ⟨k', List.mem_cons_of_mem _ h1, h2⟩
theorem st_nodup : ∀ {ks : List Str} {us : List Value}, ks.Nodup → ((stU ks us).map (·.1)).Nodup
  | [], _, _ => .nil
  | k :: ks, [], _ => .nil
  | k :: ks, u :: us, h => by
    obtain ⟨h1, h2⟩ := List.nodup_cons.mp h
    refine List.nodup_cons.mpr ⟨fun hm => ?_, st_nodup h2⟩
    obtain ⟨k', h3, h4⟩ := st_keys _ hm
    cases h4
    exact h1 h3
theorem st_pairs {P : Program} {w : World} : ∀ {es : List DictEntry} {ks : List Str}, es.map He.keyOf = He.keysIn w.params ks → Pairs (mixKind P w) es (stU ks (es.map (·.val))) ∧ ∀ e ∈ es, ∃ k, (mixKind P w).is k e.key = true ∧ e.hash = (mixKind P w).hash k
  | [], [], _ => ⟨.nil, fun e he => nomatch he⟩
  | [], k :: ks, h => by cases h
  | e :: es, [], h => by cases h
  | e :: es, k :: ks, h => by
    have h1 : He.keyOf e :: es.map He.keyOf = some (k, PyData.keyHash w.params k) :: He.keysIn w.params ks := h
    injection h1 with h2 h3
    obtain ⟨i1, i2⟩ := st_pairs h3
    unfold He.keyOf at h2
    split at h2
    · rename_i x t q
      have h4 := Option.some.inj h2
      obtain ⟨h5, h6⟩ := Prod.mk.inj h4
      have a : (mixKind P w).is (.inr k) e.key = true := by rw [q, h5]; exact mixKind_str P w k t
      refine ⟨.cons a rfl i1, fun e' he => ?_⟩
      rcases List.mem_cons.mp he with z | he
      · exact ⟨.inr k, by rw [z]; exact a, by rw [z, h6]; rfl⟩
      · exact i2 e' he
    · cases h2
/-! ### data of the written part, checked -/
mutual
def repB (K : PySem.W.Frag) : D → Value → Bool
  | .non, .none => true
  | .bl b, .bool c => b == c
  | .int i, .int j _ => decide (i = j)
  | .str x, .str y _ => decide (x = y)
  | .tup ds, .ref a => (match K.lookup a with
    | some ⟨.type c, _, .seq its _, _⟩ => decide (c = "tuple") && (decide (its.size ≤ 1000) && repsB K ds its.toList)
    | _ => false)
  | _, _ => false
def repsB (K : PySem.W.Frag) : List D → List Value → Bool
  | [], [] => true
  | d :: ds, v :: vs => repB K d v && repsB K ds vs
  | _, _ => false
end
section
variable {K : PySem.W.Frag} {cl : Nat → Addr}
mutual
theorem repB_ok : ∀ {d : D} {u : Value}, repB K d u = true → ∃ v, RelV v u ∧ ∀ H m, Rep K cl H m d v
  | .non, u, h => by
    cases u with
    | none => exact ⟨.non, rfl, fun _ _ => rfl⟩
    | _ => cases h
  | .bl b, u, h => by
    cases u with
    | bool c =>
      have e : b = c := by simpa [repB] using h
      exact ⟨.bl b, by rw [e]; rfl, fun _ _ => rfl⟩
    | _ => cases h
  | .int i, u, h => by
    cases u with
    | int c t =>
      have e : i = c := by simpa [repB] using h
      exact ⟨.int i, ⟨t, by rw [e]⟩, fun _ _ => rfl⟩
    | _ => cases h
  | .str x, u, h => by
    cases u with
    | str c t =>
      have e : x = c := by simpa [repB] using h
      exact ⟨.str x, ⟨t, by rw [e]⟩, fun _ _ => rfl⟩
    | _ => cases h
  | .tup ds, u, h => by
    cases u with
    | ref a =>
      unfold repB at h
      split at h
      · rename_i c od its n sl hl
        obtain ⟨h1, h2⟩ := He.ba h
        obtain ⟨h3, h4⟩ := He.ba h2
        obtain ⟨vs, r1, r2⟩ := repsB_ok h4
        have e1 : c = "tuple" := of_decide_eq_true h1
        have e2 : its.size ≤ 1000 := of_decide_eq_true h3
        exact ⟨.ref a, rfl, fun H m => ⟨a, vs, rfl, .inr (.inr ⟨_, its, n, hl, by rw [e1], rfl, Nat.le_trans e2 (by decide), r1⟩), r2 H m⟩⟩
      · cases h
    | _ => cases h
  | .lst _, u, h => by cases u <;> cases h
  | .rol _, u, h => by cases u <;> cases h
  | .dic _ _, u, h => by cases u <;> cases h
  | .obj _ _ _, u, h => by cases u <;> cases h
  | .ptr _, u, h => by cases u <;> cases h
theorem repsB_ok : ∀ {ds : List D} {us : List Value}, repsB K ds us = true → ∃ vs, Vals vs us ∧ ∀ H m, Reps K cl H m ds vs
  | [], [], _ => ⟨[], .nil, fun _ _ => rfl⟩
  | [], _ :: _, h => by cases h
  | _ :: _, [], h => by cases h
  | d :: ds, u :: us, h => by
    obtain ⟨h1, h2⟩ := He.ba (show (repB K d u && repsB K ds us) = true from h)
    obtain ⟨v, a1, a2⟩ := repB_ok h1
    obtain ⟨vs, b1, b2⟩ := repsB_ok h2
    exact ⟨v :: vs, .cons a1 b1, fun H m => ⟨v, vs, rfl, a2 H m, b2 H m⟩⟩
end
end
def stB (a : PySem.W.Frag → Addr) (ds : List D) (K : PySem.W.Frag) : Bool := match K.lookup (a K) with
  | some ⟨_, _, .dict es _, _⟩ => repsB K ds (es.toList.map (·.val))
  | _ => false
theorem st_keysR {K : PySem.W.Frag} {cl : Nat → Addr} {H : Hp} {m : List Addr} : ∀ {ks : List Str} {vs : List V}, ks.length = vs.length → Reps K cl H m (ks.map .str) ((stK ks vs).map fun e => kV e.1)
  | [], _, _ => rfl
  | k :: ks, [], h => by cases h
  | k :: ks, v :: vs, h => ⟨.str k, _, rfl, rfl, st_keysR (by simpa using h)⟩
theorem st_vals : ∀ {ks : List Str} {vs : List V}, ks.length = vs.length → (stK ks vs).map (·.2) = vs
  | [], [], _ => rfl
  | [], v :: vs, h => by cases h
  | k :: ks, [], h => by cases h
  | k :: ks, v :: vs, h => by
    show v :: (stK ks vs).map (·.2) = v :: vs
    rw [st_vals (by simpa using h)]
theorem st_lenK : ∀ {ks : List Str} {vs : List V}, ks.length = vs.length → (stK ks vs).length = ks.length
  | [], [], _ => rfl
  | [], v :: vs, h => by cases h
  | k :: ks, [], h => by cases h
  | k :: ks, v :: vs, h => by
    show (stK ks vs).length + 1 = ks.length + 1
    rw [st_lenK (by simpa using h)]
/-- what the head's facts say of a written dict -/
theorem st_ok {P : Program} {w : World} {K : PySem.W.Frag} {cl : Nat → Addr} {a : PySem.W.Frag → Addr} {ks : List Str} {ds : List D} (h1 : He.dicW K (a K) = some (He.keysIn w.params ks)) (h2 : stB a ds K = true) (nd : ks.Nodup) (hlen : ks.length ≤ 1000) :
    ∃ o es ep kvs us, StA P w K (a K) o es ep kvs us ∧ StR K cl kvs (ks.map .str) ds ∧ kvs.length = ks.length := by
  unfold He.dicW at h1
  unfold stB at h2
  cases q : K.lookup (a K) with
  | none => rw [q] at h1; cases h1
  | some o =>
    obtain ⟨oc, od, dt, osl⟩ := o
    rw [q] at h1 h2
    cases oc with
    | type c =>
      cases od with
      | none =>
        cases dt with
        | dict es n =>
          have h1' : (match decide (c = "dict") && (osl.isEmpty && !(a K == sysModules)) with
            | true => some (es.toList.map He.keyOf)
            | false => none) = some (He.keysIn w.params ks) := h1
          cases z : decide (c = "dict") && (osl.isEmpty && !(a K == sysModules)) with
          | false => rw [z] at h1'; cases h1'
          | true =>
            rw [z] at h1'
            obtain ⟨z1, z2⟩ := He.ba z
            obtain ⟨z3, z4⟩ := He.ba z2
            have e1 : c = "dict" := of_decide_eq_true z1
            have e2 : osl = #[] := Array.isEmpty_iff.mp z3
            have e3 : (a K == sysModules) = false := by
              cases y : a K == sysModules with
              | false => rfl
              | true => rw [y] at z4; cases z4
            subst e1 e2
            have hk : es.toList.map He.keyOf = He.keysIn w.params ks := Option.some.inj h1'
            have h2' : repsB K ds (es.toList.map (·.val)) = true := h2
            obtain ⟨vs, r1, r2⟩ := repsB_ok (cl := cl) h2'
            obtain ⟨p1, p2⟩ := st_pairs (P := P) hk
            have hl1 : es.toList.length = ks.length := by
              have := congrArg List.length hk
              simpa [He.keysIn] using this
            have hl2 : vs.length = ks.length := by
              rw [r1.length, List.length_map, hl1]
            refine ⟨_, es, n, stK ks vs, stU ks (es.toList.map (·.val)), ⟨e3, q, ⟨rfl, rfl, rfl⟩, rfl, ?_, st_kv r1, ?_, fun h hK => ⟨_, es, hK _ _ q, ⟨rfl, rfl, rfl⟩, rfl, fun e he => p2 e (Array.mem_toList_iff.mpr he), p1, st_nodup nd⟩⟩, ⟨fun H m => st_keysR hl2.symm, fun H m => by rw [st_vals hl2.symm]; exact r2 H m⟩, st_lenK hl2.symm⟩
            · rw [st_lenK hl2.symm, ← hl1, Array.length_toList]
            · rw [st_lenK hl2.symm]; exact hlen
        | _ => cases h1
      | some b => cases dt <;> cases h1
    | _ => cases od <;> cases dt <;> cases h1
/-- a name of the module that stands for written data -/
theorem u_glob {X : Cx} {cl : Nat → Addr} {W : WX} {x : Str} {u : Value} {d : D} {pos : Pos} (hg : Gl X x) (hm : X.mg x = some u) (h : repB X.K d u = true) (hd : (x == ("__debug__" : Str)) = false := by decide) : UE X cl W (.Name x pos) (dC d) := by
  obtain ⟨v, r1, r2⟩ := repB_ok (cl := cl) h
  exact u_c (pe_glob hg hm r1 hd) r2
end Dl
set_option Elab.async false
set_option linter.all false
set_option maxRecDepth 100000
set_option maxHeartbeats 400000
/-! The data layer: defs whole, the head's facts. -/
namespace Dl
open PySem PyProof.Rows L2

section
variable {X : Cx} {cl : Nat → Addr} {W : WX} {e a b : Expr} {p pos : Pos}
/-- {k: v, ..} that is still to change -/
def dDispC (l : List (DE × DE)) : DE := fun t S => (dPairs l t S).bind fun q S1 => if q.1.length ≤ 15 then (match dicMerge q.1 q.2 ([], []) with
  | some b => .ok (.ptr S1.length) (S1 ++ [some (.dic b.1 b.2)])
  | none => .bad) else .bad
theorem u_dispC {keys : List (Option Expr)} {values : List Expr} {l : List (DE × DE)} (h : UPs X cl W pos keys values l) (hall : keys.all (·.isSome) = true := by rfl) (hl : keys.length = values.length := by rfl) (h0 : keys ≠ [] := by exact nofun)
    (h15 : keys.length ≤ 15 := by decide) : UE X cl W (.Dict keys values pos) (dDispC l) := weakE (pe_disp h hall hl h0 h15) fun σ H Q ⟨w, t, eH, ok, en, p⟩ => fun D hD => by
  subst eH
  have g : Blind X.K cl w _ D (.dK []) := .new ok hD
  refine le_pairs g.af (en.af g.af) p fun q w2 ps a2 r2 p2 => ?_
  have g2 := g.step a2
  refine ⟨g2.at_, ?_⟩
  split at p2
  · rename_i h15
    split at p2
    · rename_i b hb
      obtain ⟨kvs, e1, e2, e3⟩ := merge_rep (es := []) r2.1 r2.2 (show Reps _ _ _ _ [] [] from rfl) (show Reps _ _ _ _ [] [] from rfl) hb
      refine ⟨kvs, e1, ?_, ?_⟩
      · have := Reps.length r2.1
        rw [e1, List.length_map, List.length_map] at this
        omega
      · have g3 := g2.write (.dK (mergeK [] kvs))
        exact p2 ⟨upd w2.H D (.dK (mergeK [] kvs)), w2.F, w2.m ++ [D], w2.S ++ [some (.dic b.1 b.2)]⟩ (.ref D) (g3.celled (d := .dic b.1 b.2) ⟨_, upd_same, e2, e3⟩) rfl ⟨D, snoc_get g3.af.ok.len.symm, rfl⟩
    · exact p2.elim
  · exact p2.elim
/-- x, y = a, b -/
def dPar (i j : Nat) (da : DA) : DS := fun t S => ofE (da t S) t fun xs S1 => match xs with
  | [x, y] => .nx ((t.set i (some x)).set j (some y)) S1
  | _ => .bad
theorem s_par {i j : Nat} {x y : Str} {da : DA} {px py pt : Pos} {kt k2 pt2} (hc : X.calm = true) (hN : X.N.Nodup) (hi : X.N[i]? = some x) (hj : X.N[j]? = some y) (hij : i ≠ j)
    (hx : X.env.scope.names.lookup x = some .local) (hy : X.env.scope.names.lookup y = some .local) (ha : UA X cl W [a, b] da)
    (hw : swappedStores [.Tuple [.Name x px, .Name y py] kt pt] (.Tuple [a, b] k2 pt2) X.env = pure (some [x, y]) := by rfl)
    (hs : swapsWithSole [.Tuple [.Name x px, .Name y py] kt pt] (.Tuple [a, b] k2 pt2) pos.line X.env = pure false := by rfl) :
    US X cl W (.Assign [.Tuple [.Name x px, .Name y py] kt pt] (.Tuple [a, b] k2 pt2) pos) (dPar i j da) := weakS (ps_par hc hN hi hj hij hx hy ha hw hs) fun N σ H ⟨w, t, eH, ok, en, p⟩ => by
  refine ⟨w, t, eH, ok, en, SPost.ofE p en fun xs w1 vs a1 r1 en1 p1 => ?_⟩
  split at p1
  · rename_i x y
    obtain ⟨v, v', e1, r2, r3⟩ := RL.two r1
    exact ⟨v, v', e1, p1 w1 _ (Af.refl a1.ok) rfl ((en1.set r2).set r3)⟩
  · exact p1.elim
theorem u_v (i : Nat) {x : Str} (hi : X.N[i]? = some x := by rfl) (hv : Vis X.env.scope x := by first | exact .inl rfl | exact .inr (.inl rfl) | exact .inr (.inr rfl)) (hd : (x == ("__debug__" : Str)) = false := by decide) (hcd : (x == ("__classdict__" : Str)) = false := by decide) :
    UE X cl W (.Name x p) (dVar i) := u_var (pe_var hi hv hd hcd)
end

/-! ### a def whole -/
def runF (n m : Nat) (d : DS) : DF := fun xs S => match d (xs.map some ++ List.replicate (m - n) none) S with
  | .nx _ S1 => .ok .non S1
  | .rt x S1 => .ok x S1
  | .exc _ c ns vs S1 => .exc c ns vs S1
  | _ => .bad
section
variable {P : Program} {w : World} {K : PySem.W.Frag} {mg : Str → Option Value} {base : Heap} {x qual : Str} {params : Arguments} {body : List Stmt} {scope : Scope} {dvs : List V} {kws : List (Str × V)} {f : Addr} {fd : FuncData} {N ps : List Str} {k : Nat} {cl : Nat → Addr} {d : DS}
/-- the wish of a def about what leaves it -/
abbrev WD (E : XK) : WX := fun c d _ H => E c d H
theorem takesD {qual : Str} {f : Addr} {cdv : Value} {A : Around} {outer : List Env} {s : Shared} {H : Hp} {E : XK} : Takes (cxOf (L2.CX P w) P w K mg base N qual scope f cdv A outer s H E) (WD E) := takes_of rfl rfl rfl rfl
theorem env_start {w : Wd} {ds : List D} {vs : List V} (r : RL K cl w ds vs) : EnvR K cl w (ds.map some ++ List.replicate (N.length - ds.length) none) (L2.start N vs) := by
  have hl := Reps.length r
  refine ⟨?_, fun i d h => ?_⟩
  · unfold L2.start
    simp [hl]
  · unfold L2.start
    by_cases hi : i < ds.length
    · rw [List.getElem?_append_left (by simpa using hi), List.getElem?_map] at h
      cases hd : ds[i]? with
      | none => rw [hd] at h; cases h
      | some d' =>
        rw [hd] at h
        cases h
        obtain ⟨v, h1, h2⟩ := Reps.get r hd
        refine ⟨v, ?_, h2⟩
        rw [List.getElem?_append_left (by rw [List.length_map, ← hl]; exact hi), List.getElem?_map, h1]
        rfl
    · rw [List.getElem?_append_right (by simpa using hi)] at h
      rw [List.getElem?_replicate] at h
      split at h <;> cases h
theorem fn_D (F : FunD K x qual params body scope dvs kws f fd) (S : FnScope N ps scope) (hN : ps.length ≤ N.length)
    (hb : ∀ (cdv : Value) (A : Around) (outer : List Env) (s : Shared) (H : Hp) (E : XK), Room k (A.deeper (envOfC qual scope s.heap.objs.size f cdv)) → USs (cxOf (L2.CX P w) P w K mg base N qual scope f cdv A outer s H E) cl (WD E) body d) :
    FnOk P w K mg base (L2.CX P w) (k + 1) f fd ps (spD K cl ps.length (runF ps.length N.length d)) := by
  refine F.ok S (fun vs H Q E h => h.1) fun cdv A outer s H vs Q E hr h => ⟨_, hb cdv A outer s H E hr, ?_⟩
  obtain ⟨hl, w1, ds, eH, ok, r, p⟩ := h
  have e := env_start (N := N) r
  have hl2 : ds.length = ps.length := (Reps.length r).trans hl
  rw [hl2] at e
  refine ⟨w1, _, eH, ok, e, ?_⟩
  unfold runF at p
  cases q : d (ds.map some ++ List.replicate (N.length - ps.length) none) w1.S with
  | nx t S1 => rw [q] at p; exact fun w' s y e2 _ => p w' .non y e2 rfl
  | rt z S1 => rw [q] at p; exact fun w' v y e2 rz => p w' v y e2 rz
  | bk t S1 => rw [q] at p; exact p.elim
  | ct t S1 => rw [q] at p; exact p.elim
  | exc t c ns vs S1 => rw [q] at p; exact fun w' s d y e2 en r2 => p w' d y e2 r2
  | bad => rw [q] at p; exact p.elim
end

/-! ### the head's facts -/
def fdAt (K : PySem.W.Frag) (p : Str × Option Str) : FuncData := match K.lookup (He.fAd K p) with
  | some ⟨_, _, .func fd, _⟩ => fd
  | _ => PySem.W.fnOf "" "" ⟨[], [], none, [], [], none, []⟩ [] ⟨.function, [], false, false, []⟩ .none .none .none .none none .none .none
theorem funD_at {K : PySem.W.Frag} {x qual : Str} {params : Arguments} {body : List Stmt} {scope : Scope} {dvs : List V} {kws : List (Str × V)} {p : Str × Option Str} (F : ∃ fd, FunD K x qual params body scope dvs kws (He.fAd K p) fd) : FunD K x qual params body scope dvs kws (He.fAd K p) (fdAt K p) := by
  obtain ⟨fd, F⟩ := F
  have e : fdAt K p = fd := by
    obtain ⟨oc, od, dV, kV, doc, pm, an, cdv, ct, osl, e1, lk, _⟩ := F.ex
    unfold fdAt
    rw [lk]
  rw [e]
  exact F
/-- what the walk leans on -/
structure Wl (fa : List He.Fa) (fn : List He.DefD) (ts : List He.Tab) (ex : PySem.W.Frag → Bool) (w : World) (K : PySem.W.Frag) (mg : Str → Option Value) : Prop where
  t : He.SaysT fa fn ts w K
  more : ex K = true
  at_ : ∃ h : Heap, K.In h ∧ h.Ns mainGlobals mg
section
variable {fa : List He.Fa} {fn : List He.DefD} {ts : List He.Tab} {ex : PySem.W.Frag → Bool} {w : World} {K : PySem.W.Frag} {mg : Str → Option Value}
theorem Wl.fact (c : Wl fa fn ts ex w K mg) (i : Nat) {f : He.Fa} (h : fa[i]? = some f := by rfl) : f.ok K = true := c.t.d.fact i h
theorem Wl.glo (c : Wl fa fn ts ex w K mg) (i : Nat) {x : Str} (h : fa[i]? = some (.glo x) := by rfl) : mg x = some (.ref (He.ga K x)) := by
  obtain ⟨hp, X, G⟩ := c.at_
  exact He.glo_ok X G (c.fact i h)
theorem Wl.free (c : Wl fa fn ts ex w K mg) (i : Nat) {x : Str} (h : fa[i]? = some (.free x) := by rfl) : mg x = none := by
  obtain ⟨hp, X, G⟩ := c.at_
  exact He.free_ok X G (c.fact i h)
theorem Wl.def_ (c : Wl fa fn ts ex w K mg) (i : Nat) {d : He.DefD} (h : fn[i]? = some d := by rfl) : FunD K d.name d.qual d.params d.body d.scope (d.dvs K) (d.kws K) (He.fAd K d.at_) (fdAt K d.at_) := funD_at (c.t.d.def_ i h)
theorem Wl.cls (c : Wl fa fn ts ex w K mg) (i : Nat) {x : Str} (h : fa[i]? = some (.cls x) := by rfl) : Cls K (He.ga K x) := He.cls_ok (c.fact i h)
theorem Wl.noat (c : Wl fa fn ts ex w K mg) (i : Nat) {x f : Str} (h : fa[i]? = some (.noat x f) := by rfl) : NoAttr K (He.ga K x) f := He.noat_ok (c.fact i h)
theorem Wl.meth (c : Wl fa fn ts ex w K mg) (i : Nat) {x m : Str} (h : fa[i]? = some (.meth x m) := by rfl) : Meth K (He.ga K x) m (He.ma K (He.ga K x) m) := He.meth_ok (c.fact i h)
theorem Wl.mkr (c : Wl fa fn ts ex w K mg) (i : Nat) {x : Str} (h : fa[i]? = some (.mkr x) := by rfl) : Mk K (He.ga K x) (He.ma K (He.ga K x) "__init__") := He.mkr_ok (c.fact i h)
/-- a name of the module that is data -/
def gvB (x : Str) (d : D) (K : PySem.W.Frag) : Bool := match PySem.W.nsIn K mainGlobals x with
  | some (some u) => repB K d u
  | _ => false
theorem gv_ok (c : Wl fa fn ts ex w K mg) {x : Str} {d : D} (h : gvB x d K = true) : ∃ u, mg x = some u ∧ repB K d u = true := by
  obtain ⟨hp, X, G⟩ := c.at_
  unfold gvB at h
  split at h
  · rename_i u e
    exact ⟨u, PySem.W.mg_of X G e, h⟩
  · cases h
theorem u_gv {X : Cx} {cl : Nat → Addr} {W : WX} {x : Str} {d : D} {pos : Pos} (c : Wl fa fn ts ex w X.K X.mg) (h : gvB x d X.K = true) (hg : Gl X x := by rfl) (hd : (x == ("__debug__" : Str)) = false := by decide) : UE X cl W (.Name x pos) (dC d) := by
  obtain ⟨u, h1, h2⟩ := gv_ok c h
  exact u_glob hg h1 h2 hd
/-- an own class that isinstance may be asked of -/
def isiB (C : Str) (K : PySem.W.Frag) : Bool := He.eqO (PySem.W.findIn K (.ref (He.ga K C)) "__class__") (some (some (.builtin "object.__class__"))) && (He.eqO (PySem.W.specialIn K (.builtin "object.__class__") "__get__") (some (some (.builtin "getset_descriptor.__get__"))) &&
  (decide (PySem.W.takesIn K (.builtin "object.__class__") = some true) && decide (PySem.W.mroIn K (He.ga K C) (.type "object") = some true)))
theorem isi_ok {C : Str} (k : Cls K (He.ga K C)) (h : isiB C K = true) : Isi K (He.ga K C) := by
  obtain ⟨h1, h2⟩ := He.ba h
  obtain ⟨h3, h4⟩ := He.ba h2
  obtain ⟨h5, h6⟩ := He.ba h4
  exact ⟨k, He.eqO_ok h1, He.eqO_ok h3, of_decide_eq_true h5, of_decide_eq_true h6⟩
theorem all_mem {l : List (PySem.W.Frag → Bool)} (h : (l.all fun f => f K) = true) (i : Nat) {f : PySem.W.Frag → Bool} (e : l[i]? = some f) : f K = true := List.all_eq_true.mp h f (List.mem_of_getElem? e)
end
end Dl
set_option Elab.async false
set_option linter.all false
set_option maxRecDepth 100000
set_option maxHeartbeats 400000
/-! The data layer: rules under one name. -/
namespace Dl
open PySem PyProof.Rows L2
theorem room65 {k : Nat} {A : Around} (r : Room k A) : A.units + 65 < cLine := by have := r.un; omega
theorem room1 {k : Nat} {A : Around} (r : Room k A) : A.units + 1 < cLine := by have := r.un; omega
section
variable {X : Cx} {cl : Nat → Addr} {W : WX} {e : Expr} {p pos : Pos} {d : Addr} {o : Obj} {es : Array DictEntry} {ep : Nat} {kvs : List (Key × V)} {us : List (Key × Value)}
theorem op_eqAll (hu : X.A.units + 65 < cLine) : OpR X (compareOp .Eq) (fun x y H Q => rEq x y H Q ∨ (rEqD X.K x y H Q ∨ rEqDF false x y H Q)) := op_eq.or ((op_eqD (by omega)).or (op_eqDF (by omega)))
theorem op_neAll (hu : X.A.units + 65 < cLine) : OpR X (compareOp .NotEq) (fun x y H Q => rNe x y H Q ∨ (rNeD X.K x y H Q ∨ rEqDF true x y H Q)) := op_ne.or ((op_neD (by omega)).or (op_neDF (by omega)))
theorem call_len' : CallR X (.builtin "len") (rLenA X.K) := call_len.or call_lenDR
theorem u_lenK' (A : StA X.prog X.w X.K d o es ep kvs us) {n : Nat} (hl : kvs.length = n) (hg : Gl X "len") (hm : X.mg "len" = none) (he : PE X e (tC (.ref d))) (hs : starEach [e] X.env = (false, eval e X.env) :: starEach [] X.env := by rfl) :
    UE X cl W (.Call (.Name "len" p) [e] [] pos) (dC (.int ((n : Nat) : Int))) := hl ▸ u_lenK A hg hm he hs
end
end Dl
set_option Elab.async false
set_option linter.all false
set_option maxRecDepth 100000
set_option maxHeartbeats 400000
/-! The data layer: the end. -/
namespace Dl
open PySem PyProof.Rows L2
theorem noleave {P : Program} {w : World} {o : List Env} {H : Hp} {s : Shared} {e : Value} {s' : Shared} (h : L2.CX P w o H s (fun _ _ _ => False) e s') : False := by
  obtain ⟨_, _, _, _, _, _, _, _, _, _, _, _, z⟩ := h
  exact z
/-- the law's own call, for a def that the data layer tells -/
theorem walk_D {l : PySem.W.OpenLaw} {n k : Nat} {q : Program} {loose : List Str} {XP : (Str → Option Value) → Heap → Prop} {YP : World → Heap → Prop} {d : DefRec} {x : Str} {f : DF}
    (hn : l.most = some n) (hn2 : n ≤ sizeLine) (hdf : d.params.defaults = []) (hr : Room k callerA) (true_ : ∀ ns : List Int, ns.length ≤ n → ∃ S, f [.rol (ns.map .int)] [] = .ok (.bl true) S)
    (F : ∀ (w : World) (mg : Str → Option Value) (fa : Addr) (h : Heap), YP w h → h.Ns mainGlobals mg → mg d.name = some (.ref fa) → ∃ (K : PySem.W.Frag) (cl : Nat → Addr) (fd : FuncData), K.In h ∧ (∀ (s : Shared) (u : Value), BindsTo s fd ⟨[u], []⟩ [(x, u)]) ∧
      ∀ base : Heap, FnOk l.prog w K mg base (L2.CX l.prog w) k fa fd [x] (spD K cl 1 f)) :
    PySem.W.WalkO q loose XP YP l.row.toRowW d [] (fun f vs => PySem.call f vs) := by
  refine Att.attach_call hn hdf fun w s₀ s₁ mg mb fa o pm cd doc a vs ns G Y ho hd hcd hmg hobj hints hlen hg => ?_
  obtain ⟨K, cl, fd, KX, hb, hF⟩ := F w mg fa _ Y G.T.g hmg
  refine law_call KX G.T.g G.T.b G.T.builtins G.T.nolimit hg hobj hints (Nat.le_trans hlen hn2) hr (fun base _ _ => hF base) hb (fun H hO hS => ?_) fun H e s' => noleave
  obtain ⟨S, e⟩ := true_ ns hlen
  refine ⟨rfl, ⟨H, H, [], []⟩, [.rol (ns.map .int)], rfl, ⟨rfl, fun _ _ z => z, fun i a d z => by simp at z, fun i j a d e z => by simp at z⟩, ⟨.ref a, [], rfl, ⟨a, ns.map V.int, rfl, hS, ?_⟩, rfl⟩, ?_⟩
  · clear e hlen hS hints
    induction ns with
    | nil => exact rfl
    | cons i r ih => exact ⟨.int i, _, rfl, rfl, ih⟩
  · rw [e]
    exact fun w' b _ _ r => r
end Dl
set_option Elab.async false
set_option linter.all false
set_option maxRecDepth 100000
set_option maxHeartbeats 400000
/-! The data layer: the denotations reckoned. -/
namespace Dl
open PySem PyProof.Rows L2
section
variable {α β : Type} {t t1 : Lc} {S S1 : Sto} {a b : DS} {de da db dc : DE} {ta tb : DB} {dr : DA} {d x y : D}
@[simp] theorem bind_ok {v : α} {k : α → Sto → Out β} : (Out.ok v S).bind k = k v S := rfl
@[simp] theorem calm_ok {v : α} : (Out.ok v S).calm = .ok v S := rfl
@[simp] theorem ofE_ok {v : α} {k : α → Sto → SOut} : Dl.ofE (.ok v S) t k = k v S := rfl
@[simp] theorem seq_is : dSeq a b t S = match a t S with
  | .nx t1 S1 => b t1 S1
  | o => o := rfl
@[simp] theorem skip_is : dSkip t S = .nx t S := rfl
@[simp] theorem expr_is : dExpr de t S = Dl.ofE (de t S) t fun _ S1 => .nx t S1 := rfl
@[simp] theorem set_is {i : Nat} : dSet i de t S = Dl.ofE (de t S) t fun d S1 => .nx (t.set i (some d)) S1 := rfl
@[simp] theorem ret_is : dRet de t S = Dl.ofE (de t S) t fun d S1 => .rt d S1 := rfl
@[simp] theorem if_is : dIfS ta a b t S = Dl.ofE (ta t S) t fun c S1 => if c = true then a t S1 else b t S1 := rfl
@[simp] theorem c_is : dC d t S = .ok d S := rfl
@[simp] theorem var_is {i : Nat} : dVar i t S = match t[i]? with
  | some (some d) => .ok d S
  | _ => .bad := rfl
@[simp] theorem op_is {f : D → D → Sto → Out D} : dOp f da db t S = (da t S).bind fun x S1 => (db t S1).bind fun y S2 => f x y S2 := rfl
@[simp] theorem un_is {f : D → Sto → Out D} : dUn f da t S = (da t S).bind fun x S1 => f x S1 := rfl
@[simp] theorem test_is : bTest da t S = (da t S).bind fun x S1 => match x with
  | .bl b => .ok b S1
  | _ => .bad := rfl
@[simp] theorem band_is : bAnd ta tb t S = (ta t S).bind fun x S1 => if x = true then tb t S1 else .ok false S1 := rfl
@[simp] theorem bor_is : bOr ta tb t S = (ta t S).bind fun x S1 => if x = true then .ok true S1 else tb t S1 := rfl
@[simp] theorem bnot_is : bNot ta t S = (ta t S).bind fun x S1 => .ok (!x) S1 := rfl
@[simp] theorem byes_is : bYes t S = .ok true S := rfl
@[simp] theorem dif_is : dIf ta da db t S = (ta t S).bind fun x S1 => if x = true then da t S1 else db t S1 := rfl
@[simp] theorem nil_is : aNil t S = .ok [] S := rfl
@[simp] theorem cons_is : aCons da dr t S = (da t S).bind fun x S1 => (dr t S1).bind fun xs S2 => .ok (x :: xs) S2 := rfl
@[simp] theorem b_is {f : List D → Sto → Out D} : dB f dr t S = (dr t S).bind f := rfl
@[simp] theorem call_is {n : Nat} {h : DF} : dCall n h dr t S = (dr t S).bind fun xs S1 => if xs.length = n then h xs S1 else .bad := rfl
@[simp] theorem eq_int {i j : Int} {n : Bool} : fEqA n (.int i) (.int j) S = .ok (.bl (xor n (decide (i = j)))) S := by
  show (if (SeqAt.shaped (.int i) && SeqAt.shaped (.int j)) = true then Out.ok (D.bl (xor n (PyData.eqv (.int i) (.int j)))) S else .bad) = _
  rw [show (SeqAt.shaped (.int i) && SeqAt.shaped (.int j)) = true from rfl, if_pos rfl]
  have e : PyData.eqv (.int i) (.int j) = decide (i = j) := rfl
  rw [e]
@[simp] theorem eq_str {i j : Str} {n : Bool} : fEqA n (.str i) (.str j) S = .ok (.bl (xor n (decide (i = j)))) S := rfl
@[simp] theorem ge_int {i j : Int} : fGe (.int i) (.int j) S = .ok (.bl (decide (j ≤ i))) S := rfl
@[simp] theorem gt_int {i j : Int} : fGt (.int i) (.int j) S = .ok (.bl (decide (j < i))) S := rfl
@[simp] theorem lt_int {i j : Int} : fLt (.int i) (.int j) S = .ok (.bl (decide (i < j))) S := rfl
@[simp] theorem le_int {i j : Int} : fLe (.int i) (.int j) S = .ok (.bl (decide (i ≤ j))) S := rfl
@[simp] theorem add_int {i j : Int} : fAdd (.int i) (.int j) S = .ok (.int (i + j)) S := rfl
@[simp] theorem sub_int {i j : Int} : fSub (.int i) (.int j) S = .ok (.int (i - j)) S := rfl
@[simp] theorem mul_int {i j : Int} : fMul (.int i) (.int j) S = if cMul i j = true then .ok (.int (i * j)) S else .bad := rfl
@[simp] theorem mod_int {i j : Int} : fMod (.int i) (.int j) S = if 0 < j then .ok (.int (i % j)) S else .bad := by
  show (if decide (0 < j) = true then Out.ok (D.int (i % j)) S else .bad) = _
  simp
@[simp] theorem int_int {i : Int} : bInt [.int i] S = .ok (.int i) S := rfl
@[simp] theorem len_lst {xs : List D} : bLen [.lst xs] S = .ok (.int xs.length) S := rfl
@[simp] theorem len_rol {xs : List D} : bLen [.rol xs] S = .ok (.int xs.length) S := rfl
@[simp] theorem len_tup {xs : List D} : bLen [.tup xs] S = .ok (.int xs.length) S := rfl
@[simp] theorem len_dic {ks vs : List D} : bLen [.dic ks vs] S = .ok (.int ks.length) S := rfl
theorem atI_nat' {xs : List D} {i : Nat} (h : i < xs.length) : atI xs (i : Nat) = xs[i]? := by
  unfold atI ixN
  simp [h]
@[simp] theorem ix_lst {xs : List D} {i : Int} : fIxA (.lst xs) (.int i) S = match atI xs i with | some d => .ok d S | none => .bad := rfl
@[simp] theorem ix_tup' {xs : List D} {i : Int} : fIxA (.tup xs) (.int i) S = match atI xs i with | some d => .ok d S | none => .bad := rfl
theorem deref_at {k : Nat} (h : S[k]? = some (some d)) : deref (.ptr k) S = d := by
  show (match S[k]? with
    | some (some c) => c
    | _ => .ptr k) = d
  rw [h]
@[simp] theorem ix_cell0 {xs : List D} {r : Sto} {i : Int} : fIxA (.ptr 0) (.int i) (some (.lst xs) :: r) = match atI xs i with | some d => .ok d (some (.lst xs) :: r) | none => .bad := rfl
theorem atI_n {xs : List D} (n : Nat) : atI xs ((n : Nat) : Int) = xs[n]? := by
  unfold atI ixN
  rw [if_pos (Int.natCast_nonneg n)]
  by_cases h : n < xs.length
  · rw [if_pos (by omega)]
    rfl
  · rw [if_neg (by omega), List.getElem?_eq_none (by omega)]
    rfl
@[simp] theorem at0 {a : D} {r : List D} : atI (a :: r) 0 = some a := atI_n (xs := a :: r) 0
@[simp] theorem at1 {a b : D} {r : List D} : atI (a :: b :: r) 1 = some b := atI_n (xs := a :: b :: r) 1
@[simp] theorem at2 {a b c : D} {r : List D} : atI (a :: b :: c :: r) 2 = some c := atI_n (xs := a :: b :: c :: r) 2
@[simp] theorem at3 {a b c d : D} {r : List D} : atI (a :: b :: c :: d :: r) 3 = some d := atI_n (xs := a :: b :: c :: d :: r) 3
end
end Dl
set_option Elab.async false
set_option linter.all false
set_option maxRecDepth 100000
set_option maxHeartbeats 400000
/-! The data layer: a denotation reckoned step by step. -/
namespace Dl
open PySem PyProof.Rows L2
section
variable {α β : Type} {t t1 t2 : Lc} {S S1 S2 S3 S4 : Sto} {a b : DS} {de da db dc : DE} {ta tb : DB} {dr : DA} {d x y z : D} {xs ys : List D} {n m i : Nat}
theorem seq_nx (h : a t S = .nx t1 S1) : dSeq a b t S = b t1 S1 := by rw [seq_is, h]
theorem seq_rt (h : a t S = .rt d S1) : dSeq a b t S = .rt d S1 := by rw [seq_is, h]
theorem seq_exc {c : Nat} {ns : List Str} (h : a t S = .exc t1 c ns xs S1) : dSeq a b t S = .exc t1 c ns xs S1 := by rw [seq_is, h]
theorem set_nx (h : de t S = .ok d S1) : dSet i de t S = .nx (t.set i (some d)) S1 := by rw [set_is, h]; rfl
theorem ret_rt (h : de t S = .ok d S1) : dRet de t S = .rt d S1 := by rw [ret_is, h]; rfl
theorem expr_nx (h : de t S = .ok d S1) : dExpr de t S = .nx t S1 := by rw [expr_is, h]; rfl
theorem ifs_t (h : ta t S = .ok true S1) : dIfS ta a b t S = a t S1 := by rw [if_is, h]; rfl
theorem ifs_f (h : ta t S = .ok false S1) : dIfS ta a b t S = b t S1 := by rw [if_is, h]; rfl
theorem ifs_skip (h : ta t S = .ok false S1) : dIfS ta a dSkip t S = .nx t S1 := by rw [if_is, h]; rfl
theorem run_rt {ds : DS} (h : ds (xs.map some ++ List.replicate (m - n) none) S = .rt x S1) : runF n m ds xs S = .ok x S1 := by unfold runF; rw [h]
theorem run_nx {ds : DS} (h : ds (xs.map some ++ List.replicate (m - n) none) S = .nx t1 S1) : runF n m ds xs S = .ok .non S1 := by unfold runF; rw [h]
theorem run_exc {ds : DS} {c : Nat} {ns : List Str} (h : ds (xs.map some ++ List.replicate (m - n) none) S = .exc t1 c ns ys S1) : runF n m ds xs S = .exc c ns ys S1 := by unfold runF; rw [h]
theorem call_ok {f : DF} (h : dr t S = .ok xs S1) (hl : xs.length = n) (hf : f xs S1 = .ok z S2) : dCall n f dr t S = .ok z S2 := by rw [call_is, h]; show (if xs.length = n then f xs S1 else .bad) = _; rw [if_pos hl, hf]
theorem call_exc {f : DF} {c : Nat} {ns : List Str} (h : dr t S = .ok xs S1) (hl : xs.length = n) (hf : f xs S1 = .exc c ns ys S2) : dCall n f dr t S = .exc c ns ys S2 := by rw [call_is, h]; show (if xs.length = n then f xs S1 else .bad) = _; rw [if_pos hl, hf]
theorem cons_ok (h : de t S = .ok x S1) (hr : dr t S1 = .ok xs S2) : aCons de dr t S = .ok (x :: xs) S2 := by rw [cons_is, h]; show (dr t S1).bind _ = _; rw [hr]; rfl
theorem op_ok {f : D → D → Sto → Out D} (ha : da t S = .ok x S1) (hb : db t S1 = .ok y S2) (hf : f x y S2 = .ok z S3) : dOp f da db t S = .ok z S3 := by rw [op_is, ha]; show (db t S1).bind _ = _; rw [hb]; exact hf
theorem un_ok {f : D → Sto → Out D} (ha : da t S = .ok x S1) (hf : f x S1 = .ok z S2) : dUn f da t S = .ok z S2 := by rw [un_is, ha]; exact hf
theorem var_ok (h : t[i]? = some (some d)) : dVar i t S = .ok d S := by rw [var_is, h]
theorem test_ok {c : Bool} (h : de t S = .ok (.bl c) S1) : bTest de t S = .ok c S1 := by rw [test_is, h]; rfl
theorem bnot_ok {c : Bool} (h : ta t S = .ok c S1) : bNot ta t S = .ok (!c) S1 := by rw [bnot_is, h]; rfl
theorem bor_f (h : ta t S = .ok false S1) : bOr ta tb t S = tb t S1 := by rw [bor_is, h]; rfl
theorem bor_t (h : ta t S = .ok true S1) : bOr ta tb t S = .ok true S1 := by rw [bor_is, h]; rfl
theorem band_t (h : ta t S = .ok true S1) : bAnd ta tb t S = tb t S1 := by rw [band_is, h]; rfl
theorem band_f (h : ta t S = .ok false S1) : bAnd ta tb t S = .ok false S1 := by rw [band_is, h]; rfl
theorem fz_ok (h : de t S = .ok (.ptr i) S1) (hi : S1[i]? = some (some d)) : dFz de t S = .ok d (S1.set i none) := by
  unfold dFz
  rw [h]
  show (match S1[i]? with
    | some (some d) => Out.ok d (S1.set i none)
    | _ => .bad) = _
  rw [hi]
theorem b_ok {f : List D → Sto → Out D} (h : dr t S = .ok xs S1) (hf : f xs S1 = .ok z S2) : dB f dr t S = .ok z S2 := by rw [b_is, h]; exact hf
theorem bm_ok {T : String} {f : D → List D → Sto → Out D} (ha : da t S = .ok x S1) (ht : tyD T x S1 = true) (hr : dr t S1 = .ok xs S2) (hf : f x xs S2 = .ok z S3) : dBM T f da dr t S = .ok z S3 := by
  unfold dBM
  rw [ha]
  show (if tyD T x S1 = true then (dr t S1).bind fun xs S2 => f x xs S2 else .bad) = _
  rw [if_pos ht, hr]
  exact hf
theorem for_ok {g : Tg} {di : DA} (h : di t S = .ok xs S1) (hl : dLoop g a xs t S1 = .nx t1 S2) : dFor g di a t S = .nx t1 S2 := by
  show Dl.ofE (di t S) t _ = _
  rw [h]
  exact hl
theorem lc_ok {vs : List Nat} {g : Tg} {di : DA} (h : di t S = .ok xs S1) (hl : lcLoop g ta de (wipeD vs t) xs [] S1 = .ok ys S2) : dLc vs g di ta de t S = .ok (.lst ys) S2 := by
  unfold dLc
  rw [h]
  show (lcLoop g ta de (wipeD vs t) xs [] S1).bind _ = _
  rw [hl]
  rfl
theorem loop_one {g : Tg} {r : List D} (h1 : g.set x t = some t1) (h2 : a t1 S = .nx t2 S2) : dLoop g a (x :: r) t S = dLoop g a r t2 S2 := by
  show (match g.set x t with
    | none => SOut.bad
    | some t1 => match a t1 S with
      | .nx t2 S2 => dLoop g a r t2 S2
      | .ct t2 S2 => dLoop g a r t2 S2
      | .bk t2 S2 => .nx t2 S2
      | o => o) = _
  rw [h1]
  show (match a t1 S with
      | .nx t2 S2 => dLoop g a r t2 S2
      | .ct t2 S2 => dLoop g a r t2 S2
      | .bk t2 S2 => .nx t2 S2
      | o => o) = _
  rw [h2]
theorem star_ok {zs : List D} (h : de t S = .ok x S1) (hi : itemsOf x S1 = some ys) (hr : dr t S1 = .ok zs S2) : aStar de dr t S = .ok (ys ++ zs) S2 := by
  unfold aStar
  rw [h]
  show (match itemsOf x S1 with
    | some xs => (dr t S1).bind fun ys S2 => .ok (xs ++ ys) S2
    | none => .bad) = _
  rw [hi, hr]
  rfl
theorem cellL_ok (h : dr t S = .ok xs S1) (hl : xs.length ≤ sizeLine) : dCellL dr t S = .ok (.ptr S1.length) (S1 ++ [some (.lst xs)]) := by
  unfold dCellL
  rw [h]
  exact if_pos hl
theorem iit_ok {ks vs : List D} (h : de t S = .ok (.dic ks vs) S1) : iIt de t S = .ok (pairsD ks vs) S1 := by unfold iIt; rw [h]; rfl
theorem ilst_ok (h : de t S = .ok (.lst xs) S1) : iLst de t S = .ok xs S1 := by unfold iLst; rw [h]; rfl
theorem itpl_ok (h : de t S = .ok (.tup xs) S1) : iTpl de t S = .ok xs S1 := by unfold iTpl; rw [h]; rfl
theorem irng1_ok {j : Int} (h : de t S = .ok (.int j) S1) (hj : inB j) : iRng1 de t S = .ok (intsFrom 0 j.toNat) S1 := by
  unfold iRng1
  rw [h]
  exact if_pos hj
/-- an item of a comprehension -/
theorem lc_one {g : Tg} {r acc : List D} (h1 : g.set x t = some t1) (h2 : ta t1 S = .ok true S1) (h3 : de t1 S1 = .ok y S2) (hl : acc.length < sizeLine) : lcLoop g ta de t (x :: r) acc S = lcLoop g ta de t r (acc ++ [y]) S2 := by
  simp only [lcLoop, h1, h2, h3, calm_ok, bind_ok, if_pos hl, if_true]
theorem lc_skip {g : Tg} {r acc : List D} (h1 : g.set x t = some t1) (h2 : ta t1 S = .ok false S1) : lcLoop g ta de t (x :: r) acc S = lcLoop g ta de t r acc S1 := by
  simp only [lcLoop, h1, h2, calm_ok, bind_ok]
  rfl
theorem lc_nil {g : Tg} {acc : List D} : lcLoop g ta de t [] acc S = .ok acc S := rfl
/-- a comprehension whose parts change nothing -/
theorem lc_pure {g : Tg} {p : D → Bool} {f : D → D} (h : ∀ x ∈ xs, ∃ t1, g.set x t = some t1 ∧ ta t1 S = .ok (p x) S ∧ (p x = true → de t1 S = .ok (f x) S)) : ∀ acc : List D, acc.length + xs.length < sizeLine → lcLoop g ta de t xs acc S = .ok (acc ++ (xs.filter p).map f) S := by
  induction xs with
  | nil => intro acc _; rw [lc_nil]; simp
  | cons x r ih =>
    intro acc hl
    obtain ⟨t1, h1, h2, h3⟩ := h x List.mem_cons_self
    have ih' := ih fun x hx => h x (List.mem_cons_of_mem _ hx)
    rw [List.length_cons] at hl
    cases hp : p x with
    | true =>
      rw [hp] at h2
      rw [lc_one h1 h2 (h3 hp) (by omega), ih' _ (by rw [List.length_append, List.length_singleton]; omega), List.filter_cons_of_pos hp]
      simp
    | false =>
      rw [hp] at h2
      rw [lc_skip h1 h2, ih' _ (by omega), List.filter_cons_of_neg (by rw [hp]; exact Bool.false_ne_true)]
end
end Dl
set_option Elab.async false
set_option linter.all false
set_option maxRecDepth 100000
set_option maxHeartbeats 1000000
/-! The data layer: own exceptions whose __init__ begins with super().__init__(e). -/
namespace Dl
open PySem PySem.Spec PyProof.Rows L2
abbrev veI : String := "ValueError.__init__"
/-- what the written part says of such a class -/
structure XCls (K : PySem.W.Frag) (C : Addr) : Prop where
  oex : OexC K C
  sup : PySem.W.ks_superIn K C C "__init__" = some (some (.builtin veI))
  sub : PySem.W.subIn K (.ref C) (.type "ValueError") = some true
  own : PySem.W.mroIn K C (.ref C) = some true
  any : PySem.W.nsIn K cStatics "thirdparty.any" = some none
section
variable {X : Cx} {pins : List (Addr × Obj)} {σ : L2.St} {H : Hp} {s : Shared} {a C u : Addr} {E : Value → Shared → Prop}
/-- the bound __init__ of ValueError is called: nothing of it is told -/
theorem call_mw {us : List Value} {Q : Value → Shared → Prop} (T : OexC X.K C) (I : Inv X pins σ H s) (hu : s.heap.get? u = some (PySem.W.kxs_mw veI a)) (e : H a = some (exo a C none)) (hl : us.length ≤ sizeLine)
    (h : ∀ s', Inv X pins σ H s' → Q .none s') : wpAny (model X.prog X.w) X.A (call (.ref u) us) Q E s := by
  obtain ⟨nm, q, N, bs, bm, sn, sb, ab, col, dd, k0, k1, k2, k3, k5, hC, hbm⟩ := T.cls
  obtain ⟨t1, ho⟩ := exo_at I.hok e
  have eu : upd H a (exo a C none) = H := upd_self e
  have fin : ∀ h' : Heap, (∀ b o, b ≠ a → s.heap.get? b = some o → h'.get? b = some o) → h'.get? a = some (PySem.W.excRec (.ref C) s.heap.objs.size none .none .none (.bool false)) → Q .none { s with heap := h' } := fun h' k hx => by
    have J := I.write (t' := s.toks) (x := a) (e := a) (o := exo a C none) (by rw [e]; exact True.intro) (.inl rfl) k ⟨_, hx⟩ (exo_ok hx)
    rw [eu] at J
    exact h _ J
  have hCl := I.kIn _ _ hC
  obtain ⟨hp, g, d, t, os⟩ := s
  refine wpAny_call (codeAny_of_tree ?_)
  show wpAny _ X.A.in1 (callAny (.ref u) ⟨us, []⟩) _ _ _
  simp only [callAny]
  refine wpAny_bind (wpAny_load hu ?_)
  have m1 : (Value.type "method-wrapper" == Value.type "method") = false := by decide
  have m2 : (Value.type "method-wrapper" == Value.type "builtin_function_or_method") = false := by decide
  have m3 : (Value.type "method-wrapper" == Value.type "method-wrapper") = true := by decide
  simp only [PySem.W.kxs_mw, m1, m2, m3, Bool.false_or, if_true]
  first
    | refine PySem.W.KFB.if_so (by decide) ?_
    | skip
  refine wpAny_bind (PySem.W.check_bound_init F.excBase_ValueError.toExcCallFacts hCl ho rfl (wpAny_pure ?_))
  refine ⟨plainId_quiet F.excBase_ValueError.init.plain _, codeAny_builtin F.excBase_ValueError.initEntry ?_⟩
  exact PySem.W.exc_init_tree (t0 := t1) (dv := none) (c2 := .none) (c3 := .none) (b4 := .bool false) ho hl fun h' k hx _ => fin h' k hx
end
open NdefX
/-- where the __init__ of C stands: its text; the cell of its class -/
structure XFn (P : Program) (K : PySem.W.Frag) (C f : Addr) (qual : Str) (params : Arguments) (body : List Stmt) (scope : Scope) (fd : FuncData) (cda cc : Addr) : Prop where
  fn : ∃ oc od osl kV doc pm an ct, fd = PySem.W.fnX "__init__" qual params body scope [("__class__", cc)] .none kV doc pm an (.ref cda) ct ∧ K.lookup f = some ⟨oc, od, .func fd, osl⟩
  code : PySem.W.codeIn K (.ref cda) qual = true
  file : ∃ ccl cdd vs ccs fi tf, K.lookup cda = some ⟨ccl, cdd, .fields vs, ccs⟩ ∧ vs[2]? = some (.str fi tf) ∧ ((P.main.file : Str) == fi) = true
  cell : ∃ cl cld csl, K.lookup cc = some ⟨cl, cld, .cell (some (.ref C)), csl⟩
abbrev supE (e : Expr) (p0 p1 p2 p3 : Pos) : Expr := .Call (.Attribute (.Call (.Name "super" p0) [] [] p1) "__init__" p2) [e] [] p3
abbrev nfX (qual : Str) (params : Arguments) (body : List Stmt) (scope : Scope) (cda cc : Addr) : NF := ⟨"__init__", qual, params, body, scope, [("__class__", cc)], cda⟩
section
variable {P : Program} {w : World} {K : PySem.W.Frag} {mg : Str → Option Value} {base : Heap} {k : Nat} {f C cda cc : Addr} {fd : FuncData} {qual : Str} {params : Arguments} {e : Expr} {rest : List Stmt} {scope : Scope} {p0 p1 p2 p3 p4 : Pos} {N ps : List Str} {ar : Arg} {sp : Sp} {CX : CXT}
theorem fn_init (F : XFn P K C f qual params (.Expr (supE e p0 p1 p2 p3) p4 :: rest) scope fd cda cc) (T : XCls K C) (S : NScope N ps ["__class__"] scope) (hp : (params.posonlyargs ++ params.args).head? = some ar) (har : ps[0]? = some ar.arg) (hmg : mg "super" = none)
    {pl : Env → Sem Bool} (hev : ∀ env : Env, eval (supE e p0 p1 p2 p3) env = (do
      let ov ← attributeBase (.Call (.Name "super" p0) [] [] p1) "__init__" env (eval (.Call (.Name "super" p0) [] [] p1) env)
      standAt p2.atName
      let (f, first) ← holding [ov] (getMethod ov "__init__" (pl env))
      callWith p3 f first (backTo p3 (starEach [e] env)) []))
    (hsw : ∀ env : Env, swapsWith (supE e p0 p1 p2 p3) none p4.line env = pure false) (hst : ∀ env : Env, starEach [e] env = [(false, eval e env)])
    (hks : scope.names.lookup ("super" : Str) = some .globalImplicit) (hkc : scope.names.lookup ("__class__" : Str) = some .free) (htop : (P.main.scope.names.lookup ("super" : Str)).isSome = false) (hl : ∀ vs H Q E, sp vs H Q E → vs.length = ps.length)
    (hbody : ∀ (A : Around) (outer : List Env) (s : Shared) (H : Hp) (vs : List V) (Q : VK) (E : XK), Room k (A.deeper (envF (nfX qual params (.Expr (supE e p0 p1 p2 p3) p4 :: rest) scope cda cc) f s.heap.objs.size)) → sp vs H Q E →
      ∃ (a : Addr) (us : List V) (te : TE) (tr : TS), vs = .ref a :: us ∧ H a = some (exo a C none) ∧ PE (ncx CX P w K mg base N (nfX qual params (.Expr (supE e p0 p1 p2 p3) p4 :: rest) scope cda cc) f A outer s H E) e te ∧
        PSs (ncx CX P w K mg base N (nfX qual params (.Expr (supE e p0 p1 p2 p3) p4 :: rest) scope cda cc) f A outer s H E) rest tr ∧
        (∀ Q' : VK, (∀ y, Q' y H) → te (startF N vs [some (.ref C)]) H Q') ∧ tr { nx := fun _ H' => Q .non H', rt := Q } (startF N vs [some (.ref C)]) H) :
    FnOk P w K mg base CX (k + 1) f fd ps sp := by
  refine ⟨hl, fun A outer s H args us vs Q E hr e0 hb r hsp => ?_⟩
  obtain ⟨oc, od, osl, kV, doc, pm, an, ct, rfl, lk⟩ := F.fn
  have hlen := hl _ _ _ _ hsp
  have KX : K.In s.heap := e0.mod.kin.keeps fun b o e => (e0.bs b o e).1
  have lim : s.heap.NoLimit := e0.mod.nolimit.keeps fun b o e => (e0.bs b o e).1
  obtain ⟨cl, cld, csl, hcell⟩ := F.cell
  refine codeAny_call_function hr.depth (KX _ _ lk) rfl S.co S.gen rfl (PySem.W.codeRec_of KX F.code) (hb _ _ _ _ ?_)
  refine wpAny_newFunctionEnv S.nocell (fun ⟨n, _⟩ hy => S.par n (List.of_mem_zip hy).1) (fun h₁ hns hsb => ⟨lim.fresh _ hsb, ?_⟩) S.kind
  show codeAny _ _ (.func (.Expr (supE e p0 p1 p2 p3) p4 :: rest) (envF (nfX qual params (.Expr (supE e p0 p1 p2 p3) p4 :: rest) scope cda cc) f s.heap.objs.size)) _ _
  refine ks_codeAny_funcAt ?_
  have kp : ∀ b o, s.heap.get? b = some o → h₁.get? b = some o := fun b o e => hsb.extBut b o (Nat.ne_of_lt (Heap.lt_size e)) (Heap.get?_push_of_some _ e)
  obtain ⟨a, ws, te, tr, rfl, ha, he, hrest, hte, hq⟩ := hbody A outer s H vs Q E (hr.deeper _) hsp
  have hcb := e0.mod.kin _ _ hcell
  have cells : CellsAt [("__class__", cc)] ["__class__"] [some (.ref C)] s.heap H := by
    have only : ∀ (y : Str) (c : Addr), ([("__class__", cc)] : List (Str × Addr)).lookup y = some c → y = "__class__" ∧ c = cc := fun y c h => by
      have h2 : (match y == ("__class__" : Str) with | true => some cc | false => none) = some c := h
      cases q : (y == ("__class__" : Str)) with
      | true => rw [q] at h2; exact ⟨beq_iff_eq.mp q, (Option.some.inj h2).symm⟩
      | false => rw [q] at h2; cases h2
    refine ⟨rfl, fun y c h => ?_, fun x y c h1 h2 => (only x c h1).1.trans (only y c h2).1.symm, fun j y h => ?_⟩
    · rw [(only y c h).2]
      exact ⟨(e0.bs _ _ hcb).2, _, _, KX _ _ hcell, rfl⟩
    · cases j with
      | zero =>
        cases h
        refine ⟨cc, rfl, fun v hv => ?_⟩
        cases hv
        exact ⟨.ref C, rfl, _, KX _ _ hcell, rfl⟩
      | succ j => simp at h
  have I : Inv (ncx CX P w K mg base N (nfX qual params (.Expr (supE e p0 p1 p2 p3) p4 :: rest) scope cda cc) f A outer s H E) [] (startF N (.ref a :: ws) [some (.ref C)]) H { s with heap := h₁, toks := s.toks + (ps.zip us).length } := inv_startN S hr.hd e0 hlen r cells hns kp
  obtain ⟨u0, us', rfl⟩ : ∃ u0 us', us = u0 :: us' := by
    cases r with
    | cons r1 r2 => exact ⟨_, _, rfl⟩
  have ea : u0 = Value.ref a := by
    cases r with
    | cons r1 r2 => exact r1
  subst ea
  obtain ⟨ccl, cdd, vs', ccs, fi, tf, hcode, hvs, hfile⟩ := F.file
  obtain ⟨nm, q, Nn, bs, bm, sn, sb, ab, col, dd, k0, k1, k2, k3, k5, hC, hbm⟩ := T.oex.cls
  have hCl := I.kIn _ _ hC
  obtain ⟨t1, hx⟩ := exo_at I.hok ha
  have hcd : PySem.W.clsIn K C = some { name := nm, bases := bs, mro := .ref C :: bm, ns := Nn, qualname := q, hasDict := true, slotNames := sn, subclasses := sb, abstract := ab, collection := col, hasDel := false } := by
    unfold PySem.W.clsIn
    rw [hC] <;> rfl
  refine ks_wpAt_execs_cons (ks_wpAt_Expr_any (ks_wpAt_MethodCall ?_ (hev _)) (by unfold interactive; simp [S.kind]) (hsw _))
  refine ks_wpAt_super_base (f := f) (cc := cda) hks hkc rfl rfl (kp _ _ (KX _ _ lk)) rfl hp rfl (kp _ _ (KX _ _ hcode)) rfl hvs hfile htop ?_
  obtain ⟨mb, hB, hmb⟩ := e0.mod.blt
  have base_in : ∀ b o, base.get? b = some o → h₁.get? b = some o := fun b o z => kp b o (e0.bs b o z).1
  refine PySem.W.ks_loadName_global S.kind hks (Calls.loadGlobal_builtin (e0.mod.glob.keeps base_in) hmg (hB.keeps base_in) ((hmb "super" (by decide)).trans (by decide +kernel)) ⟨rfl, ?_⟩)
  have cl1 : List.lookup ("__class__" : Str) ([(("__class__" : Str), cc)] : List (Str × Addr)) = some cc := rfl
  refine wpAny_loadName_free S.kind hkc cl1 ⟨_, kp _ _ (KX _ _ hcell), rfl⟩ ?_
  have ndP : ps.Nodup := by
    have z := S.nd.sublist (List.take_sublist (ps.length + 1) N)
    rw [show ps.length + 1 = ps.length + (["__class__"] : List Str).length from rfl, S.pre] at z
    exact (List.nodup_append.mp z).1
  refine wpAny_loadName_local S.kind (S.par _ (List.mem_of_getElem? har)) hns (zip_look ndP har rfl) ?_
  refine ks_wpAny_isType_cls hCl rfl ⟨rfl, ?_⟩
  refine ks_wpAny_call_super hCl rfl hx rfl (fun c z => by cases z) (PySem.W.looks_mroIn I.kIn T.own) (fun h2 hso k2 => ?_)
  have I2 := I.kept (t' := s.toks + (ps.zip (Value.ref a :: us')).length) k2
  have hx2 := k2 _ _ hx
  have J : PySem.W.InstAt h2 a _ C none := ⟨hx2, rfl, rfl, trivial⟩
  have hsup : PySem.W.alongIn K "__init__" (((Value.ref C :: bm).dropWhile (· != .ref C)).drop 1) = some (some (.builtin veI)) := by
    have z := T.sup
    unfold PySem.W.ks_superIn at z
    rw [hcd] at z
    exact z
  have hne : a ≠ C := fun z => by
    have n := (e0.bs _ _ (e0.mod.kin _ _ hC)).2
    rw [← z, ha] at n
    cases n
  refine PySem.W.kxs_getMethod PySem.W.kxs_ValueError hso (PySem.W.looks_opaque I2.kIn T.any) (l₀ := .ref C :: bm) (fun A Q E s k q => wpAny_bind ((PySem.W.looks_clsIn I2.kIn hcd) A _ E s k (wpAny_pure q))) rfl I2.kIn hsup
    (J.type.andThen (PySem.W.looks_subIn I2.kIn T.sub)) hne rfl ?_
  have hu : (h2.push (PySem.W.kxs_mw veI a)).get? h2.objs.size = some (PySem.W.kxs_mw veI a) := Heap.get?_push_size _ rfl
  have I3 := I2.kept (t' := s.toks + (ps.zip (Value.ref a :: us')).length + 1) (h' := h2.push (PySem.W.kxs_mw veI a)) fun b o z => Heap.get?_push_of_some _ z
  have I4 := I3.pins_of (pins' := [(h2.objs.size, PySem.W.kxs_mw veI a)]) fun p hp => by
    rw [List.mem_singleton.mp hp]
    exact ⟨hu, I2.hok.fresh (Nat.le_refl _), fun z => by have := I2.lt; rw [← z] at this; exact absurd this (Nat.lt_irrefl _), I2.nofs (Nat.le_refl _), fun v z => by cases z⟩
  refine PySem.W.kxs_callWith (i := veI) (x := a) (by rw [hst]; rfl) ?_
  have he1 := pa_cons he pa_nil (hst _)
  have run := he1.run p3 [(h2.objs.size, PySem.W.kxs_mw veI a)] _ (startF N (.ref a :: ws) [some (.ref C)]) H (fun vs H1 => ∃ y, vs = [y] ∧ H1 = H ∧ tr { nx := fun _ H' => Q V.non H', rt := Q } (startF N (.ref a :: ws) [some (.ref C)]) H) I4 (hte _ fun y => ⟨y, rfl, rfl, hq⟩)
  rw [hst] at run ⊢
  refine Calls.evalArgs_plain (thn run fun us4 s4 ⟨vs4, H4, I5, r5, y, ev, eH, q5⟩ => ?_)
  subst ev
  subst eH
  have hu5 := (I5.pin _ (List.mem_append_right _ List.mem_cons_self)).1
  refine ⟨hu5, call_mw (X := ncx CX P w K mg base N (nfX qual params (.Expr (supE e p0 p1 p2 p3) p4 :: rest) scope cda cc) f A outer s H4 E) T.oex I5 hu5 ha (by show us4.length ≤ sizeLine; rw [← r5.length]; show 1 ≤ sizeLine; decide) fun s5 I6 => ?_⟩
  have I7 := I6.pins_of (pins' := []) fun p hp => by cases hp
  refine wpAt_of_wpAny (wpAny_mono (hrest.run [] _ _ _ _ I7 q5) (fun fl s' hs => ?_) fun e s' hs => hs)
  have fin : ∀ {σ' : L2.St} {H' : Hp} {v : V} {u : Value}, Inv (ncx CX P w K mg base N (nfX qual params (.Expr (supE e p0 p1 p2 p3) p4 :: rest) scope cda cc) f A outer s H4 E) [] σ' H' s' → L2.RelV v u → Q v H' → CE outer P w H4 s Q u s' :=
    fun {σ' H' v u} J rv q => ⟨v, H', J.os, J.bare, J.base, J.hok, rv, q⟩
  cases fl with
  | ret u =>
    obtain ⟨v, σ', H', J, rv, q⟩ := hs
    exact fin J rv q
  | next =>
    obtain ⟨σ', H', J, q⟩ := hs
    exact fin (v := V.non) (u := Value.none) J rfl q
  | brk => exact (hs.choose_spec.choose_spec.2 : False).elim
  | cont => exact (hs.choose_spec.choose_spec.2 : False).elim
end
end Dl
set_option Elab.async false
set_option linter.all false
set_option maxRecDepth 100000
set_option maxHeartbeats 1000000
/-! The data layer: raise of own exceptions. -/
namespace Dl
open PySem PySem.Spec PyProof.Rows L2 NdefX
/-! ### what the __init__s promise -/
def spI0 (C : Addr) : Sp := fun vs H Q _ => ∃ a : Addr, vs = [.ref a] ∧ H a = some (exo a C none) ∧ Q .non H
def spI1 (C : Addr) (f : Str) (chk : V → Hp → Prop) : Sp := fun vs H Q _ => ∃ (a : Addr) (y : V), vs = [.ref a, y] ∧ H a = some (exo a C none) ∧ chk y H ∧ ∀ dx, H dx = none → dx ≠ a → Q .non (upd (upd H dx (exd dx [(f, y)])) a (exo a C (some dx)))
def spI2 (C : Addr) (f g : Str) (chk : V → Hp → Prop) : Sp := fun vs H Q _ => ∃ (a : Addr) (y z : V), vs = [.ref a, y, z] ∧ H a = some (exo a C none) ∧ chk y H ∧
  ∀ dx, H dx = none → dx ≠ a → Q .non (upd (upd (upd H dx (exd dx [(f, y)])) a (exo a C (some dx))) dx (exd dx [(g, z), (f, y)]))
/-- e comes to some value and leaves all as it was, where y is fit -/
def Harm (chk : V → Hp → Prop) (te : TE) : Prop := ∀ (σ : L2.St) (H : Hp) (y : V), σ[1]? = some (some y) → chk y H → ∀ Q' : VK, (∀ z, Q' z H) → te σ H Q'
section
variable {P : Program} {w : World} {K : PySem.W.Frag} {mg : Str → Option Value} {base : Heap} {k : Nat} {f C cda cc : Addr} {fd : FuncData} {qual : Str} {params : Arguments} {e : Expr} {rest : List Stmt} {scope : Scope} {p0 p1 p2 p3 p4 : Pos} {N ps : List Str} {ar : Arg} {CX : CXT} {pl : Env → Sem Bool}
/-- what an __init__'s words must show -/
structure XTx (P : Program) (mg : Str → Option Value) (params : Arguments) (e : Expr) (p0 p1 p2 p3 p4 : Pos) (scope : Scope) (N ps : List Str) (ar : Arg) (pl : Env → Sem Bool) : Prop where
  S : NScope N ps ["__class__"] scope
  hp : (params.posonlyargs ++ params.args).head? = some ar
  har : ps[0]? = some ar.arg
  hmg : mg "super" = none
  hev : ∀ env : Env, eval (supE e p0 p1 p2 p3) env = (do
      let ov ← attributeBase (.Call (.Name "super" p0) [] [] p1) "__init__" env (eval (.Call (.Name "super" p0) [] [] p1) env)
      standAt p2.atName
      let (f, first) ← holding [ov] (getMethod ov "__init__" (pl env))
      callWith p3 f first (backTo p3 (starEach [e] env)) [])
  hsw : ∀ env : Env, swapsWith (supE e p0 p1 p2 p3) none p4.line env = pure false
  hst : ∀ env : Env, starEach [e] env = [(false, eval e env)]
  hks : scope.names.lookup ("super" : Str) = some .globalImplicit
  hkc : scope.names.lookup ("__class__" : Str) = some .free
  htop : (P.main.scope.names.lookup ("super" : Str)).isSome = false
theorem init0 (F : XFn P K C f qual params [.Expr (supE e p0 p1 p2 p3) p4] scope fd cda cc) (T : XCls K C) (x : XTx P mg params e p0 p1 p2 p3 p4 scope N ps ar pl) (hps : ps.length = 1)
    (he : ∀ (A : Around) (outer : List Env) (s : Shared) (H : Hp) (E : XK), Room k (A.deeper (envF (nfX qual params [.Expr (supE e p0 p1 p2 p3) p4] scope cda cc) f s.heap.objs.size)) → ∃ te, PE (ncx CX P w K mg base N (nfX qual params [.Expr (supE e p0 p1 p2 p3) p4] scope cda cc) f A outer s H E) e te ∧ ∀ (σ : L2.St) (H : Hp) (Q' : VK), (∀ z, Q' z H) → te σ H Q') :
    FnOk P w K mg base CX (k + 1) f fd ps (spI0 C) :=
  fn_init F T x.S x.hp x.har x.hmg x.hev x.hsw x.hst x.hks x.hkc x.htop (fun vs H Q E ⟨a, e, _⟩ => by rw [e, hps]; rfl) fun A outer s H vs Q E hr ⟨a, ev, ha, q⟩ => by
    obtain ⟨te, h1, h2⟩ := he A outer s H E hr
    exact ⟨a, [], te, _, ev, ha, h1, pss_nil, fun Q' h => h2 _ _ _ h, q⟩
theorem init1 {n : Str} {chk : V → Hp → Prop} (F : XFn P K C f qual params (.Expr (supE e p0 p1 p2 p3) p4 :: rest) scope fd cda cc) (T : XCls K C) (x : XTx P mg params e p0 p1 p2 p3 p4 scope N ps ar pl) (hps : ps.length = 2) (hn : PySem.W.findIn K (.ref C) n = some none)
    (he : ∀ (A : Around) (outer : List Env) (s : Shared) (H : Hp) (E : XK), Room k (A.deeper (envF (nfX qual params (.Expr (supE e p0 p1 p2 p3) p4 :: rest) scope cda cc) f s.heap.objs.size)) → ∃ te, PE (ncx CX P w K mg base N (nfX qual params (.Expr (supE e p0 p1 p2 p3) p4 :: rest) scope cda cc) f A outer s H E) e te ∧ Harm chk te)
    (hr : ∀ (A : Around) (outer : List Env) (s : Shared) (H : Hp) (E : XK), PSs (ncx CX P w K mg base N (nfX qual params (.Expr (supE e p0 p1 p2 p3) p4 :: rest) scope cda cc) f A outer s H E) rest (tOst K n (tVar 0) (tVar 1))) :
    FnOk P w K mg base CX (k + 1) f fd ps (spI1 C n chk) :=
  fn_init F T x.S x.hp x.har x.hmg x.hev x.hsw x.hst x.hks x.hkc x.htop (fun vs H Q E ⟨a, y, e, _⟩ => by rw [e, hps]; rfl) fun A outer s H vs Q E hr' ⟨a, y, ev, ha, hc, q⟩ => by
    obtain ⟨te, h1, h2⟩ := he A outer s H E hr'
    subst ev
    exact ⟨a, [y], te, _, rfl, ha, h1, hr A outer s H E, fun Q' h => h2 _ _ y rfl hc _ h, y, rfl, .ref a, rfl, a, C, rfl, T.oex, hn, .inl ⟨ha, fun dx h1 h2 => q dx h1 h2⟩⟩
theorem init2 {n n' : Str} {chk : V → Hp → Prop} {st1 st2 : Stmt} (F : XFn P K C f qual params [.Expr (supE e p0 p1 p2 p3) p4, st1, st2] scope fd cda cc) (T : XCls K C) (x : XTx P mg params e p0 p1 p2 p3 p4 scope N ps ar pl) (hps : ps.length = 3) (hn : PySem.W.findIn K (.ref C) n = some none) (hn' : PySem.W.findIn K (.ref C) n' = some none)
    (he : ∀ (A : Around) (outer : List Env) (s : Shared) (H : Hp) (E : XK), Room k (A.deeper (envF (nfX qual params [.Expr (supE e p0 p1 p2 p3) p4, st1, st2] scope cda cc) f s.heap.objs.size)) → ∃ te, PE (ncx CX P w K mg base N (nfX qual params [.Expr (supE e p0 p1 p2 p3) p4, st1, st2] scope cda cc) f A outer s H E) e te ∧ Harm chk te)
    (h1 : ∀ (A : Around) (outer : List Env) (s : Shared) (H : Hp) (E : XK), PS (ncx CX P w K mg base N (nfX qual params [.Expr (supE e p0 p1 p2 p3) p4, st1, st2] scope cda cc) f A outer s H E) st1 (tOst K n (tVar 0) (tVar 1)))
    (h2 : ∀ (A : Around) (outer : List Env) (s : Shared) (H : Hp) (E : XK), PS (ncx CX P w K mg base N (nfX qual params [.Expr (supE e p0 p1 p2 p3) p4, st1, st2] scope cda cc) f A outer s H E) st2 (tOst K n' (tVar 0) (tVar 2))) :
    FnOk P w K mg base CX (k + 1) f fd ps (spI2 C n n' chk) :=
  fn_init F T x.S x.hp x.har x.hmg x.hev x.hsw x.hst x.hks x.hkc x.htop (fun vs H Q E ⟨a, y, z, e, _⟩ => by rw [e, hps]; rfl) fun A outer s H vs Q E hr' ⟨a, y, z, ev, ha, hc, q⟩ => by
    obtain ⟨te, e1, e2⟩ := he A outer s H E hr'
    subst ev
    refine ⟨a, [y, z], te, _, rfl, ha, e1, pss_cons (h1 A outer s H E) (pss_one (h2 A outer s H E)), fun Q' h => e2 _ _ y rfl hc _ h, y, rfl, .ref a, rfl, a, C, rfl, T.oex, hn, .inl ⟨ha, fun dx d1 d2 => ?_⟩⟩
    exact ⟨z, rfl, .ref a, rfl, a, C, rfl, T.oex, hn', .inr ⟨dx, [(n, y)], upd_same, by rw [upd_ne d2, upd_same], (show 1 ≤ 900 by decide), q dx d1 d2⟩⟩
end
/-! ### the exception is made -/
section
variable {X : Cx} {pins : List (Addr × Obj)} {σ : L2.St} {H : Hp} {s : Shared} {C fI : Addr} {k : Nat} {fd : FuncData} {ps : List Str} {CX : CXT} {x : Str} {p pos : Pos}
theorem gone_same {H : Hp} {a : Addr} {o : HO} (n : H a = none) : del (upd H a o) a = H := by
  funext b
  by_cases h : b = a
  · rw [h, del_same, n]
  · rw [del_ne h, upd_ne h]
theorem pmk_x0 (T : OexC X.K C) (iC : PySem.W.findIn X.K (.ref C) "__init__" = some (some (.ref fI))) (tI : PySem.W.typeIn X.K (.ref fI) = some (.type "function")) (F1 : FnOk X.prog X.w X.K X.mg X.base CX k fI fd ps (spI0 C)) (hr : Room (k + 1) X.A) (hb : Binds X.K fd ps []) (hps : ps.length = 1)
    (hx : Passes CX X (fun _ _ _ => False)) (hg : Gl X x) (hm : X.mg x = some (.ref C)) (hdb : (x == ("__debug__" : Str)) = false := by decide) : PMk X (.Call (.Name x p) [] [] pos) (fun _ H Q => Q (.ref C) none H) := by
  intro pins s σ H Q I h
  obtain ⟨nm, q, N, bs, bm, sn, sb, ab, col, dd, k0, k1, k2, k3, k5, hC, hbm⟩ := T.cls
  refine wpAny_Call_Name_kw (ld_glob I hg hm (PySem.W.callWith_K0 I.kIn T.kC ?_) hdb)
  show wpAny _ _ (call (.ref C) []) _ _ _
  obtain ⟨hp, g, dr, tk, os⟩ := s
  have big : hp.objs.size ≤ hp.objs.size + 1 := Nat.le_succ _
  have hn : H (hp.objs.size + 1) = none := I.hok.fresh big
  have grow : ∀ b o, hp.get? b = some o → ((hp.push (PySem.W.kdv_tup [])).push (PySem.HandSPX.excO C hp.objs.size)).get? b = some o := fun b o e => Heap.get?_push_of_some _ (Heap.get?_push_of_some _ e)
  have hget : ((hp.push (PySem.W.kdv_tup [])).push (PySem.HandSPX.excO C hp.objs.size)).get? (hp.objs.size + 1) = some (PySem.HandSPX.excO C hp.objs.size) := by heap_get
  have I2 := I.laid (t' := tk) (a := hp.objs.size + 1) (o := exo (hp.objs.size + 1) C none) grow big (exo_ok hget)
  have r2 : Vals [V.ref (hp.objs.size + 1)] [Value.ref (hp.objs.size + 1)] := .cons rfl .nil
  have bd := hb _ [Value.ref (hp.objs.size + 1)] I2.kIn (by rw [List.append_nil, hps]; rfl)
  rw [List.append_nil] at bd
  refine wpAny_call (PySem.HandSPX.call_own F.excBase_ValueError (fun Y => PySem.HandSPX.refsVE_contains Y bm hbm) (I.kIn _ _ hC) (PySem.W.looks_findIn I.kIn iC) (fun self => PySem.W.bind_fn I.kIn self tI) (Nat.zero_le _)
    (codeAny_mono (F1.run _ X.stack _ _ ⟨[Value.ref (hp.objs.size + 1)], []⟩ _ _ (fun v H2 => v = .non ∧ H2 = upd H (hp.objs.size + 1) (exo (hp.objs.size + 1) C none)) (fun _ _ _ => False) (hr.make C [] []) (I2.env0.make C [] []) bd r2 ⟨_, rfl, upd_same, rfl, rfl⟩) fun r s' hq' => ?_))
  cases r with
  | error er => exact hx pins σ _ _ er s' I2 hq'
  | ok fl =>
    cases fl with
    | ret u =>
      obtain ⟨v, H2, os2, bare2, un2, hok2, rv, ev, eH⟩ := hq'
      subst ev
      subst eH
      obtain ⟨h2, g2, d2, t2, os'⟩ := s'
      refine ⟨rv, ?_⟩
      obtain ⟨t0, hoe⟩ := exo_at hok2 (upd_same (H := H) (a := hp.objs.size + 1) (o := exo (hp.objs.size + 1) C none))
      obtain ⟨G, in_, out⟩ := restrict h2 fun b => decide (b ≠ hp.objs.size + 1)
      have far : ∀ {b : Addr} {o : Obj}, hp.get? b = some o → b ≠ hp.objs.size + 1 := fun z => Nat.ne_of_lt (Nat.lt_of_lt_of_le (Heap.lt_size z) big)
      have at_ : ∀ b, b ≠ hp.objs.size + 1 → G.get? b = h2.get? b := fun b hb => in_ b (decide_eq_true hb)
      have non : ∀ {b : Addr}, b ≠ hp.objs.size + 1 → H b = none → upd H (hp.objs.size + 1) (exo (hp.objs.size + 1) C none) b = none := fun hb n => (upd_ne hb).trans n
      have un3 : Un (frs X.stack) [] H H hp G := ⟨fun b o z n hf hx => (at_ b (far z)).trans (un2.keep b o (grow b o z) (non (far z) n) hf hx),
        fun b o z n hf hx => by rw [at_ b (far z)]; exact un2.slot b o (grow b o z) (non (far z) n) hf hx, fun b o z n hx => n,
        fun b o z hx => by rw [at_ b (far z)]; exact un2.there b o (grow b o z) hx, fun b xs z => z, fun b o v z => z, fun b ps z => ⟨#[], by rw [z]; simp⟩⟩
      have hok3 : HOk X.prog X.w H G := fun b o z => by
        have hb : b ≠ hp.objs.size + 1 := ne_of_none z hn
        refine (hok2 b o ((upd_ne hb).trans z)).stay (fun c v hc y => ?_) (fun c hc => ?_) fun c xs hc => ?_
        · refine (at_ c ?_).trans y
          rcases hc with hc | hc
          · rw [hc]; exact hb
          · exact at_ne upd_same hc exo_own
        · rw [upd_ne (at_ne upd_same hc exo_own)] at hc; exact hc
        · rw [upd_ne (at_ne upd_same hc exo_tup)] at hc; exact hc
      have J : Inv X pins σ H ⟨G, g2, d2, t2, os'⟩ := I.call' (ch := []) os2 un3 hok3 bare2 fun b z => absurd z (by simp)
      refine ⟨hp.objs.size + 1, _, _, ⟨G, g2, d2, t2, os'⟩, H, .ref C, none, rfl, J, fun b o z => ?_, out _ (by simp), hoe, ⟨rfl, rfl⟩, rfl, rfl, hn, rfl, bare2, raises_own T.exC T.tyC, h⟩
      by_cases hb : b = hp.objs.size + 1
      · rw [hb, out _ (by simp)] at z
        cases z
      · exact (at_ b hb).symm.trans z
    | next => exact False.elim hq'
    | brk => exact False.elim hq'
    | cont => exact False.elim hq'
end
end Dl
set_option Elab.async false
set_option linter.all false
set_option maxRecDepth 100000
set_option maxHeartbeats 1000000
/-! The data layer: raise as statements; what an f-string asks of its part. -/
namespace Dl
open PySem PySem.Spec PyProof.Rows L2 NdefX
def ChkOk (K : PySem.W.Frag) (cl : Nat → Addr) (ok : D → Sto → Bool) (chk : V → Hp → Prop) : Prop := ∀ (w : Wd) (d : D) (v : V), w.Ok K cl → RV K cl w d v → ok d w.S = true → chk v w.H
def dRaise0 (c : Nat) : DS := fun t S => .exc t c [] [] S
def dRaise1 (c : Nat) (f : Str) (ok : D → Sto → Bool) (de : DE) : DS := fun t S => ofE (de t S) t fun d S1 => if ok d S1 = true then .exc t c [f] [d] S1 else .bad
def dRaise2 (c : Nat) (f g : Str) (ok : D → Sto → Bool) (de de' : DE) : DS := fun t S => ofE (de t S) t fun d S1 => ofE (de' t S1) t fun d' S2 => if ok d S2 = true then .exc t c [g, f] [d', d] S2 else .bad
section
variable {X : Cx} {cl : Nat → Addr} {W : WX} {c k : Nat} {fI : Addr} {fd : FuncData} {ps : List Str} {x f g : Str} {p pos pos' : Pos} {e e' : Expr} {ok : D → Sto → Bool} {chk : V → Hp → Prop} {de de' : DE}
theorem s_raise0 (T : OexC X.K (cl c)) (iC : PySem.W.findIn X.K (.ref (cl c)) "__init__" = some (some (.ref fI))) (tI : PySem.W.typeIn X.K (.ref fI) = some (.type "function")) (F1 : FnOk X.prog X.w X.K X.mg X.base (L2.CX X.prog X.w) k fI fd ps (spI0 (cl c))) (hr : Room (k + 1) X.A) (hb : Binds X.K fd ps [])
    (hps : ps.length = 1) (hc : X.calm = true) (tk : Takes X W) (hx : Passes (L2.CX X.prog X.w) X E0) (hg : Gl X x) (hm : X.mg x = some (.ref (cl c))) (hdb : (x == ("__debug__" : Str)) = false := by decide) :
    US X cl W (.Raise (some (.Call (.Name x p) [] [] pos)) none pos') (dRaise0 c) :=
  weakS (ps_raise hc tk (pmk_x0 T iC tI F1 hr hb hps hx hg hm hdb)) fun N σ H ⟨w, t, eH, o, en, q⟩ => eH ▸ q w σ none (Af.refl o) rfl en (.inl ⟨rfl, rfl⟩)
/-- the dict that the exception leaves -/
theorem left_dict {H : Hp} {a dx : Addr} {o1 o2 o3 u : HO} (n : H a = none) (ne : dx ≠ a) : upd (del (upd (upd (upd H a o1) dx o2) a o3) a) dx u = upd H dx u := by
  funext b
  by_cases hb : b = dx
  · rw [hb, upd_same, upd_same]
  · rw [upd_ne hb, upd_ne hb]
    by_cases ha : b = a
    · rw [ha, del_same, n]
    · rw [del_ne ha, upd_ne ha, upd_ne hb, upd_ne ha]
theorem left_dict2 {H : Hp} {a dx : Addr} {o1 o2 o3 o4 u : HO} (n : H a = none) (ne : dx ≠ a) : upd (del (upd (upd (upd (upd H a o1) dx o2) a o3) dx o4) a) dx u = upd H dx u := by
  funext b
  by_cases hb : b = dx
  · rw [hb, upd_same, upd_same]
  · rw [upd_ne hb, upd_ne hb]
    by_cases ha : b = a
    · rw [ha, del_same, n]
    · rw [del_ne ha, upd_ne hb, upd_ne ha, upd_ne hb, upd_ne ha]
theorem s_raise1 (co : ChkOk X.K cl ok chk) (T : OexC X.K (cl c)) (iC : PySem.W.findIn X.K (.ref (cl c)) "__init__" = some (some (.ref fI))) (tI : PySem.W.typeIn X.K (.ref fI) = some (.type "function")) (F1 : FnOk X.prog X.w X.K X.mg X.base (L2.CX X.prog X.w) k fI fd ps (spI1 (cl c) f chk)) (hr : Room (k + 1) X.A) (hb : Binds X.K fd ps [])
    (hc : X.calm = true) (tk : Takes X W) (hx : Passes (L2.CX X.prog X.w) X E0) (hg : Gl X x) (hm : X.mg x = some (.ref (cl c))) (he : UE X cl W e de) (hdb : (x == ("__debug__" : Str)) = false := by decide) (hs : starEach (e :: []) X.env = (false, eval e X.env) :: starEach [] X.env := by rfl) (hpl : (backTo pos (starEach [] X.env)).any (·.1) = false := by rfl) :
    US X cl W (.Raise (some (.Call (.Name x p) [e] [] pos)) none pos') (dRaise1 c f ok de) :=
  weakS (ps_raise hc tk (pmk_oex T iC tI F1 hr hb .nil hx hg hm (pa_cons he pa_nil hs) hdb hs hpl)) fun N σ H ⟨w, t, eH, o, en, q⟩ => by
    refine ⟨w, t, eH, o, en, SPost.ofE q en fun d w1 v a1 r1 en1 q1 => ⟨show 1 ≤ 1000 by decide, fun a ha => ?_⟩⟩
    split at q1
    · rename_i hok
      have w2 := (a1.ok).untold (u := exo a (cl c) none) ha
      refine ⟨a, v, rfl, upd_same, co _ d v w2.ok (Rep.af w2 r1) hok, fun dx hdx ne => ⟨rfl, dx, [(f, v)], upd_same, by rw [upd_ne ne, upd_same], ?_, ?_⟩⟩
      · rw [upd_ne ne] at hdx; exact hdx
      · rw [left_dict ha ne]
        rw [upd_ne ne] at hdx
        have w3 := (a1.ok).laid (u := .xd [(f, v)]) hdx
        exact q1 _ σ (some dx) w3 rfl (en1.af w3) (.inr ⟨dx, [(f, v)], rfl, upd_same, rfl, v, [], rfl, Rep.af w3 r1, rfl⟩)
    · exact q1.elim
theorem s_raise2 (co : ChkOk X.K cl ok chk) (T : OexC X.K (cl c)) (iC : PySem.W.findIn X.K (.ref (cl c)) "__init__" = some (some (.ref fI))) (tI : PySem.W.typeIn X.K (.ref fI) = some (.type "function")) (F1 : FnOk X.prog X.w X.K X.mg X.base (L2.CX X.prog X.w) k fI fd ps (spI2 (cl c) f g chk)) (hr : Room (k + 1) X.A) (hb : Binds X.K fd ps [])
    (hc : X.calm = true) (tk : Takes X W) (hx : Passes (L2.CX X.prog X.w) X E0) (hg : Gl X x) (hm : X.mg x = some (.ref (cl c))) (he : UE X cl W e de) (he' : UE X cl W e' de') (hdb : (x == ("__debug__" : Str)) = false := by decide) (hs : starEach (e :: [e']) X.env = (false, eval e X.env) :: starEach [e'] X.env := by rfl)
    (hs' : starEach [e'] X.env = (false, eval e' X.env) :: starEach [] X.env := by rfl) (hpl : (backTo pos (starEach [e'] X.env)).any (·.1) = false := by rfl) :
    US X cl W (.Raise (some (.Call (.Name x p) [e, e'] [] pos)) none pos') (dRaise2 c f g ok de de') :=
  weakS (ps_raise hc tk (pmk_oex T iC tI F1 hr hb .nil hx hg hm (pa_cons he (pa_cons he' pa_nil hs') hs) hdb hs hpl)) fun N σ H ⟨w, t, eH, o, en, q⟩ => by
    refine ⟨w, t, eH, o, en, SPost.ofE q en fun d w0 v a0 r0 en0 q0 => ⟨w0, t, rfl, a0.ok, en0, SPost.ofE q0 en0 fun d' w1 v' a1 r1 en1 q1 => ⟨show 2 ≤ 1000 by decide, fun a ha => ?_⟩⟩⟩
    have r0 := Rep.af a1 r0
    split at q1
    · rename_i hok
      have w2 := (a1.ok).untold (u := exo a (cl c) none) ha
      refine ⟨a, v, v', rfl, upd_same, co _ d v w2.ok (Rep.af w2 r0) hok, fun dx hdx ne => ⟨rfl, dx, [(g, v'), (f, v)], by rw [upd_ne ne.symm, upd_same], upd_same, ?_, ?_⟩⟩
      · rw [upd_ne ne] at hdx; exact hdx
      · rw [left_dict2 ha ne]
        rw [upd_ne ne] at hdx
        have w3 := (a1.ok).laid (u := .xd [(g, v'), (f, v)]) hdx
        exact q1 _ σ (some dx) w3 rfl (en1.af w3) (.inr ⟨dx, [(g, v'), (f, v)], rfl, upd_same, rfl, v', [v], rfl, Rep.af w3 r1, v, [], rfl, Rep.af w3 r0, rfl⟩)
    · exact q1.elim
end
end Dl
set_option Elab.async false
set_option linter.all false
set_option maxRecDepth 100000
set_option maxHeartbeats 1000000
/-! The data layer: {x}, {x!r} in the text of an own exception: some text. -/
namespace Dl
open PySem PySem.Spec PyProof.Rows L2 NdefX
/-- a leaf's text -/
def leafT : V → Option Str
  | .non => some "None"
  | .bl b => some (if b then "True" else "False")
  | .int i => if i.natAbs.log2 < 1920 then some (toString i) else none
  | .str z => some (reprText z)
  | _ => none
def leafB (v : V) : Bool := match leafT v with
  | some t => decide (t.length ≤ 1000)
  | none => false
theorem leaf_int {i : Int} {t : Str} (h : leafT (.int i) = some t) : i.natAbs.log2 < 1920 ∧ t = toString i := by
  have h2 : (if i.natAbs.log2 < 1920 then some (Str.ofString (toString i)) else none) = some t := h
  by_cases q : i.natAbs.log2 < 1920
  · rw [if_pos q] at h2
    exact ⟨q, (Option.some.inj h2).symm⟩
  · rw [if_neg q] at h2
    cases h2
theorem leaf_repr {P : Program} {w : World} {v : V} {u : Value} {t : Str} (r : RelV v u) (h : leafT v = some t) (hz : t.length ≤ 1000) : ReprIs P w u t := by
  have hs : t.length ≤ sizeLine := Nat.le_trans hz (by decide)
  cases v with
  | non => cases h; cases r; exact ReprIs.none
  | bl b => cases h; cases r; exact ReprIs.bool b
  | int i =>
    obtain ⟨tk, rfl⟩ := r
    obtain ⟨hi, e⟩ := leaf_int h
    rw [e]
    exact ReprIs.int tk hi
  | str z =>
    obtain ⟨tk, rfl⟩ := r
    cases h
    exact ReprIs.str z tk hs
  | _ => cases h
theorem leaf_all {P : Program} {w : World} : ∀ {l : List V} {us : List Value}, Vals l us → l.all leafB = true → ∃ ts : List Str, ReprAll P w us ts ∧ piled ts ≤ 1002 * l.length
  | [], _, r, _ => by cases r; exact ⟨[], .nil, Nat.zero_le _⟩
  | v :: l, _, r, h => by
    cases r with
    | cons r1 r2 =>
      rw [List.all_cons] at h
      obtain ⟨h1, h2⟩ := He.ba h
      obtain ⟨ts, h3, h4⟩ := leaf_all (P := P) (w := w) r2 h2
      unfold leafB at h1
      cases q : leafT v with
      | none => rw [q] at h1; cases h1
      | some t =>
        rw [q] at h1
        have hz : t.length ≤ 1000 := of_decide_eq_true h1
        refine ⟨t :: ts, .cons (leaf_repr r1 q hz) h3, ?_⟩
        rw [piled_cons, List.length_cons]
        omega
/-- what may be shown: a leaf, a tuple of leaves -/
def Showy (K : PySem.W.Frag) (v : V) (H : Hp) : Prop := leafB v = true ∨ ∃ (a : Addr) (l : List V), v = .ref a ∧ SqT K H a l ∧ l.all leafB = true ∧ l.length ≤ 100
def tShow (K : PySem.W.Frag) (te : TE) : TE := fun σ H Q => te σ H fun x H1 => Showy K x H1 ∧ ∀ m : Str, m.length ≤ 200000 → Q (.str m) H1
section
variable {X : Cx} {e : Expr} {te : TE} {pos : Pos}
theorem pe_show {k : Nat} (hr : Room k X.A) (he : PE X e te) : PE X (.FormattedValue e 114 none pos) (tShow X.K te) := by
  refine ⟨fun pins s σ H Q I h => wpAny_FormattedValue_repr (thn (he.run pins s σ H _ I h) fun v s1 ⟨x, H1, I1, r1, sh, q⟩ => ?_)⟩
  have fin : ∀ {m : Str} {u : Tok} {s2 : Shared}, m.length ≤ 200000 → Inv X pins σ H1 s2 → wpAny (model X.prog X.w) X.A (formatField (.str m u) Str.empty) (EP X pins σ Q) X.xe s2 := fun {m u s2} hm J =>
    wpAny_formatField_str ⟨.str m, H1, J, ⟨u, rfl⟩, q m hm⟩ ⟨.str m, H1, J.tok _, ⟨_, rfl⟩, q m hm⟩ (Nat.le_trans hm (by decide))
  rcases sh with hl | ⟨a, l, rfl, ht, hl, hn⟩
  · unfold leafB at hl
    cases ql : leafT x with
    | none => rw [ql] at hl; cases hl
    | some t =>
      rw [ql] at hl
      have hz : t.length ≤ 1000 := of_decide_eq_true hl
      have hs : t.length ≤ sizeLine := Nat.le_trans hz (by decide)
      have hz2 : t.length ≤ 200000 := by omega
      cases x with
      | non => cases r1; cases ql; exact pyReprObj_none (fin hz2 (I1.tok _))
      | bl b => cases r1; cases ql; exact pyReprObj_bool (fin hz2 (I1.tok _))
      | int i =>
        obtain ⟨tk, rfl⟩ := r1
        obtain ⟨hi, e⟩ := leaf_int ql
        rw [e] at hz2
        exact pyReprObj_int hi (fin hz2 (I1.tok _))
      | str z =>
        obtain ⟨tk, rfl⟩ := r1
        cases ql
        exact pyReprObj_str (fin hz2 (I1.tok _)) hs
      | _ => cases ql
  · cases r1
    obtain ⟨its, rv, ⟨o, ho, hcl, n, hd⟩, _⟩ := I1.tuple ht
    obtain ⟨ts, h3, h4⟩ := leaf_all (P := X.prog) (w := X.w) rv hl
    have htx := fmt_text ts
    have hu := hr.units
    have hb : (tupleText ts).length ≤ 101000 := by
      have : 1002 * l.length ≤ 1002 * 100 := Nat.mul_le_mul_left _ hn
      omega
    refine wpAny_pyReprObj_slot (by omega) ⟨o, ho, hcl⟩ F.slot_tuple_repr (fmt_tuple_repr ho hcl hd h3 (Nat.le_trans hb (by decide)) fun m u tk hm => ⟨m, u, rfl, ?_⟩)
    exact fin (by omega) (I1.tok _)
end
theorem str_app (a b : Str) : (a ++ b).length = a.length + b.length := by
  rw [TL.len_tl, TL.tl_append, List.length_append, ← TL.len_tl, ← TL.len_tl]
/-- a text with one shown part between two written ones -/
theorem shown_parts {K : PySem.W.Frag} {a b : Str} (ha : a.length ≤ 1000) (hb : b.length ≤ 1000) : Harm (Showy K) (fun σ H Q => tJs [tC (.str a), tShow K (tVar 1), tC (.str b)] Str.empty σ H fun out H1 => Q (.str out) H1) := fun σ H y hy sh Q h => by
  have e0 : (Str.empty : Str).length = 0 := rfl
  have big : 300000 ≤ sizeLine := by decide
  refine ⟨a, rfl, by rw [str_app]; omega, y, hy, sh, fun m hm => ⟨m, rfl, by rw [str_app, str_app]; omega, b, rfl, by rw [str_app, str_app, str_app]; omega, h _⟩⟩
/-- a number, as it is told -/
def Numb (v : V) (_ : Hp) : Prop := ∃ i : Int, v = .int i ∧ i.natAbs.log2 < 1920 ∧ (Str.ofString (toString i)).length ≤ 1000
theorem numb_parts {a b : Str} (ha : a.length ≤ 1000) (hb : b.length ≤ 1000) : Harm Numb (fun σ H Q => tJs [tC (.str a), tFmt (tVar 1), tC (.str b)] Str.empty σ H fun out H1 => Q (.str out) H1) := fun σ H y hy ⟨i, e, hi, hz⟩ Q h => by
  have e0 : (Str.empty : Str).length = 0 := rfl
  have big : 300000 ≤ sizeLine := by decide
  exact ⟨a, rfl, by rw [str_app]; omega, y, hy, .inr ⟨i, e, hi, _, rfl, by rw [str_app, str_app]; omega, b, rfl, by rw [str_app, str_app, str_app]; omega, h _⟩⟩
/-! ### by data -/
def leafD : D → Bool
  | .non => true
  | .bl _ => true
  | .int i => decide (i.natAbs.log2 < 1920) && decide ((Str.ofString (toString i)).length ≤ 1000)
  | .str z => decide ((reprText z).length ≤ 1000)
  | _ => false
def okShow (d : D) (S : Sto) : Bool := leafD d || match deref d S with
  | .tup xs => xs.all leafD && decide (xs.length ≤ 100)
  | _ => false
def okNumb (d : D) (_ : Sto) : Bool := match d with
  | .int i => decide (i.natAbs.log2 < 1920) && decide ((Str.ofString (toString i)).length ≤ 1000)
  | _ => false
def okAll (_ : D) (_ : Sto) : Bool := true
theorem leafD_ok {K : PySem.W.Frag} {cl : Nat → Addr} {F : Hp} {m : List Addr} {d : D} {v : V} (r : Rep K cl F m d v) (h : leafD d = true) : leafB v = true := by
  cases d with
  | non => cases r; decide +kernel
  | bl b => cases r; cases b <;> decide +kernel
  | int i =>
    cases r
    obtain ⟨h1, h2⟩ := He.ba h
    have e : leafT (.int i) = some (Str.ofString (toString i)) := if_pos (of_decide_eq_true h1)
    unfold leafB
    rw [e]
    exact h2
  | str z => cases r; exact h
  | _ => cases h
theorem leafDs_ok {K : PySem.W.Frag} {cl : Nat → Addr} {F : Hp} {m : List Addr} : ∀ {ds : List D} {vs : List V}, Reps K cl F m ds vs → ds.all leafD = true → vs.all leafB = true
  | [], _, r, _ => by rw [show _ = [] from r]; rfl
  | d :: ds, _, ⟨v, vs, e, r, q⟩, h => by
    rw [List.all_cons] at h
    obtain ⟨h1, h2⟩ := He.ba h
    rw [e, List.all_cons, leafD_ok r h1, leafDs_ok q h2]
    rfl
theorem show_chk {K : PySem.W.Frag} {cl : Nat → Addr} : ChkOk K cl okShow (Showy K) := fun w d v ok r h => by
  unfold okShow at h
  rcases Bool.or_eq_true_iff.mp h with h | h
  · exact .inl (leafD_ok r h)
  · cases q : deref d w.S with
    | tup xs =>
      rw [q] at h
      obtain ⟨h1, h2⟩ := He.ba h
      obtain ⟨a, vs, ev, ht, rr⟩ := deref_tup ok r q
      exact .inr ⟨a, vs, ev, ht, leafDs_ok rr h1, by rw [← Reps.length rr]; exact of_decide_eq_true h2⟩
    | _ => rw [q] at h; cases h
theorem numb_chk {K : PySem.W.Frag} {cl : Nat → Addr} : ChkOk K cl okNumb Numb := fun w d v ok r h => by
  cases d with
  | int i =>
    obtain ⟨h1, h2⟩ := He.ba h
    exact ⟨i, r, of_decide_eq_true h1, of_decide_eq_true h2⟩
  | _ => cases h
theorem all_chk {K : PySem.W.Frag} {cl : Nat → Addr} : ChkOk K cl okAll (fun _ _ => True) := fun _ _ _ _ _ _ => True.intro
end Dl
set_option Elab.async false
set_option linter.all false
set_option maxRecDepth 100000
set_option maxHeartbeats 1000000
/-! The data layer: try with clauses, each with a name or without. -/
namespace Dl
open PySem PySem.Spec PyProof.Rows L2
/-- one clause's reading: the class, the name's slot, the suite -/
structure Cl3 where
  c : Value
  i : Option Nat
  ts : Addr → Value → Option Addr → TS
/-- behind a clause's suite its name is gone -/
def endsAt (i : Option Nat) (D : Ends) : Ends := match i with
  | none => D
  | some i => { nx := fun σ H => D.nx (σ.set i none) H, rt := D.rt, bk := fun σ H => D.bk (σ.set i none) H, ct := fun σ H => D.ct (σ.set i none) H }
def slotAt (i : Option Nat) (σ : L2.St) (a : Addr) : L2.St := match i with
  | none => σ
  | some i => σ.set i (some (.ref a))
def wMix (K : PySem.W.Frag) (Wout : WX) (D : Ends) : List Cl3 → WX
  | [] => Wout
  | h :: r => fun cls d σ H => ∃ b, PySem.W.exmOne K cls h.c = some b ∧ (b = true → ∀ a, H a = none → h.ts a cls d (endsAt h.i D) (slotAt h.i σ a) H) ∧ (b = false → wMix K Wout D r cls d σ H)
inductive HdMix (X : Cx) : List ExceptHandler → List Cl3 → Prop
  | nil : HdMix X [] []
  | bare {x : Str} {c : Value} {ts : Addr → Value → Option Addr → TS} {b₀ : Stmt} {suite : List Stmt} {np pos' : Pos} {hds : List ExceptHandler} {l : List Cl3} (hc : Names X x c)
      (hsu : ∀ (a : Addr) (oe : Obj) (cls : Value) (d : Option Addr) (pn : List (Addr × Obj)), Zc cls d oe → (∃ vs, oe.data = .fields vs) → PSs (X.suite a ((a, oe) :: pn)) (b₀ :: suite) (ts a cls d)) (r : HdMix X hds l) :
      HdMix X (.ExceptHandler (some (.Name x np)) none (b₀ :: suite) pos' :: hds) (⟨c, none, ts⟩ :: l)
  | named {x n : Str} {i : Nat} {c : Value} {ts : Addr → Value → Option Addr → TS} {b₀ : Stmt} {suite : List Stmt} {np pos' : Pos} {hds : List ExceptHandler} {l : List Cl3} (hi : X.N[i]? = some n) (hl : X.env.kindOf n = some .local) (hc : Names X x c)
      (hsu : ∀ (a : Addr) (oe : Obj) (cls : Value) (d : Option Addr) (pn : List (Addr × Obj)), Zc cls d oe → (∃ vs, oe.data = .fields vs) → PSs (X.suite a ((a, oe) :: pn)) (b₀ :: suite) (ts a cls d)) (r : HdMix X hds l) :
      HdMix X (.ExceptHandler (some (.Name x np)) (some n) (b₀ :: suite) pos' :: hds) (⟨c, some i, ts⟩ :: l)
section
variable {X : Cx} {body : List Stmt} {h₀ : ExceptHandler} {hds : List ExceptHandler} {l : List Cl3} {pos : Pos} {tb : WX → TS} {Wout : WX}
/-- the state in which the clauses are asked -/
structure Asked (X : Cx) (pins : List (Addr × Obj)) (σ : L2.St) (H : Hp) (a : Addr) (cls : Value) (d : Option Addr) (B : Heap) (sI s : Shared) : Prop where
  J : Inv X pins σ H sI
  nb : ∀ b o, sI.heap.get? b = some o → b ∉ frs X.stack → B.get? b = some o
  up : sI.heap.UpToSlots s.heap
  os : s.os = sI.os
  ag : AllBare s.gens
  fly : HandSPX.FlyingZ B (X.env :: X.outer) a (Zc cls d) s.heap
  na : H a = none
  nL : a ≠ X.env.locals
  nF : a ∉ X.fs
section
variable {pins : List (Addr × Obj)} {σ : L2.St} {H : Hp} {a : Addr} {cls c : Value} {d : Option Addr} {B : Heap} {sI s : Shared} {x : Str} {np : Pos} {b : Bool}
theorem Asked.inv (A : Asked X pins σ H a cls d B sI s) : Inv X pins σ H s := A.J.landed A.nb A.fly.1 A.up A.os A.ag
theorem Asked.obj (A : Asked X pins σ H a cls d B sI s) : ∃ oe vs, s.heap.get? a = some oe ∧ Zc cls d oe ∧ oe.data = .fields vs := A.fly.there
theorem Asked.suite (A : Asked X pins σ H a cls d B sI s) : ∃ oe, s.heap.get? a = some oe ∧ Zc cls d oe ∧ (∃ vs, oe.data = .fields vs) ∧ Inv (X.suite a ((a, oe) :: (X.pn ++ pins))) [] σ H s := by
  obtain ⟨oe, vs, he, hz, hd⟩ := A.obj
  exact ⟨oe, he, hz, ⟨vs, hd⟩, A.inv.suite he hd A.na A.nL A.nF⟩
/-- the flight is set to none once more -/
theorem Asked.again (A : Asked X pins σ H a cls d B sI s) {Q : Unit → Shared → Prop} {M : Model} {A' : Around} {E : Value → Shared → Prop} (h : ∀ s', Asked X pins σ H a cls d B sI s' → Q () s') : wpAny M A' (setFlight (.ref a) none) Q E s :=
  HandSPX.lands_againZ A.fly fun h' fl k => h _ ⟨A.J, A.nb, A.up.trans k, A.os, A.ag, fl, A.na, A.nL, A.nF⟩
/-- the class that the clause names is looked up -/
theorem Asked.look (A : Asked X pins σ H a cls d B sI s) (hc : Names X x c) {Q : Value → Shared → Prop} {E : Value → Shared → Prop} (q : Q c s) : wpAny (model X.prog X.w) (X.A.mark (some (.ref a))) (eval (.Name x np) X.env) Q E s := by
  obtain ⟨oe, _, _, _, S⟩ := A.suite
  obtain ⟨hg, hdbg, hm | ⟨hm, hv, hnn⟩⟩ := hc
  · exact ld_glob (X := X.suite a ((a, oe) :: (X.pn ++ pins))) S hg hm q hdbg
  · exact ld_blt (X := X.suite a ((a, oe) :: (X.pn ++ pins))) S hg hm hv q hnn hdbg
theorem clauses {hs : List ExceptHandler} {l : List Cl3} (hN : X.N.Nodup) (ok : X.Ok) {D : Ends} (hk : HdMix X hs l) : ∀ {s : Shared}, Asked X pins σ H a cls d B sI s → wMix X.K Wout D l cls d σ H →
    (Wout cls d σ H → ∀ s, Asked X pins σ H a cls d B sI s → wpAny (model X.prog X.w) X.A (handleBy (.ref a) X.env []) (SP X pins D) X.xe s) → wpAny (model X.prog X.w) X.A (handleBy (.ref a) X.env hs) (SP X pins D) X.xe s := by
  induction hk with
  | nil => exact fun A w out => out w _ A
  | @bare x c ts b₀ suite np pos' hds2 l2 hc hsu r ih =>
    intro s A w out
    obtain ⟨b, hb1, hyes, hno⟩ := w
    obtain ⟨oe, he, hz, hd, _⟩ := A.suite
    refine wpAny_handleBy_cons (codeAny_handlers_test (A.look hc ((PySem.W.exm_one (M := model X.prog X.w) A.inv.kIn (fun A Q E s k q => wpAny_typeOf_ref (k _ _ he) (by rw [hz.1]; exact q)) hb1).here ?_))) (by intro q; cases q)
    cases b with
    | false => exact ih A (hno rfl) out
    | true =>
      refine codeAny_handlers_suite (A.again fun s4 A4 => ?_)
      obtain ⟨oe4, he4, hz4, hd4, S4⟩ := A4.suite
      refine wpAny_mono ((hsu a oe4 cls d (X.pn ++ pins) hz4 hd4).run [] _ _ H _ S4 (hyes rfl a A.na)) (fun f s6 hsp => ?_) (fun _ _ z => False.elim z)
      cases f with
      | ret u => obtain ⟨v6, σ6, H6, S6, r6, q6⟩ := hsp; exact ⟨_, _, _, S6.unsuite ok, r6, q6⟩
      | next => obtain ⟨σ6, H6, S6, q6⟩ := hsp; exact ⟨_, _, S6.unsuite ok, q6⟩
      | brk => obtain ⟨σ6, H6, S6, q6⟩ := hsp; exact ⟨_, _, S6.unsuite ok, q6⟩
      | cont => obtain ⟨σ6, H6, S6, q6⟩ := hsp; exact ⟨_, _, S6.unsuite ok, q6⟩
  | @named x n i c ts b₀ suite np pos' hds2 l2 hi hl hc hsu r ih =>
    intro s A w out
    obtain ⟨b, hb1, hyes, hno⟩ := w
    obtain ⟨oe, he, hz, hd, _⟩ := A.suite
    refine wpAny_handleBy_cons (codeAny_handlers_test (A.look hc ((PySem.W.exm_one (M := model X.prog X.w) A.inv.kIn (fun A Q E s k q => wpAny_typeOf_ref (k _ _ he) (by rw [hz.1]; exact q)) hb1).here ?_))) (by intro q; cases q)
    cases b with
    | false => exact ih A (hno rfl) out
    | true =>
      refine codeAny_handlers_suite_as (A.again fun s4 A4 => ?_)
      obtain ⟨oe4, he4, hz4, hd4, S4⟩ := A4.suite
      refine store_ok (X := X.suite a ((a, oe4) :: (X.pn ++ pins))) (v := .ref a) S4 hN hi (.inl hl) rfl (fun s5 S5 => ?_) (.inr hl)
      refine wpAny_mono ((hsu a oe4 cls d (X.pn ++ pins) hz4 hd4).run [] s5 _ H _ S5 (hyes rfl a A.na)) (fun f s6 hsp => ?_) (fun _ _ z => False.elim z)
      have fin : ∀ {σ6 : L2.St} {H6 : Hp} {Q : Shared → Prop}, Inv (X.suite a ((a, oe4) :: (X.pn ++ pins))) [] σ6 H6 s6 → (∀ s7, Inv X pins (σ6.set i none) H6 s7 → Q s7) →
          wpAny (model X.prog X.w) X.A (do bindName X.env n .none; unbindBehindTheSuite X.env n pos') (fun _ s7 => Q s7) X.xe s6 := fun S6 hq => gone_ok (S6.unsuite ok) hN hi hl hq
      cases f with
      | ret u => obtain ⟨v6, σ6, H6, S6, r6, q6⟩ := hsp; exact fin S6 fun s7 J7 => ⟨_, _, _, J7, r6, q6⟩
      | next => obtain ⟨σ6, H6, S6, q6⟩ := hsp; exact fin S6 fun s7 J7 => ⟨_, _, J7, q6⟩
      | brk => obtain ⟨σ6, H6, S6, q6⟩ := hsp; exact fin S6 fun s7 J7 => ⟨_, _, J7, q6⟩
      | cont => obtain ⟨σ6, H6, S6, q6⟩ := hsp; exact fin S6 fun s7 J7 => ⟨_, _, J7, q6⟩
end
theorem ps_try_mix (hs : X.stack = X.env :: X.outer) (hf : X.env.frame = some X.env.locals) (hN : X.N.Nodup) (tk : Takes X Wout)
    (hb : ∀ (W : WX) (pn : List (Addr × Obj)) (xe : Value → Shared → Prop), Takes (X.tr pn xe) W → PassesOwn (model X.prog X.w) X.A X.env xe → PSs (X.tr pn xe) body (tb W))
    (hh : HdMix X (h₀ :: hds) l) : PS X (.Try body (h₀ :: hds) [] [] pos) (fun D σ H => tb (wMix X.K Wout D l) D σ H) := by
  refine ⟨fun pins s σ H D I h => ?_⟩
  have ok := I.ok
  have hfr : X.A.frames = some (X.env :: X.outer) := by rw [ok.frames, hs]
  refine wpAny_Try_except (wpAny_mono ((hb (wMix X.K Wout D l) (X.pn ++ pins) (fun e s₁ => wpAny (model X.prog X.w) X.A (noteFrame e X.env) (fun _ s₂ => wpAny (model X.prog X.w) X.A (setFlight e none) (fun _ s₃ =>
    wpAny (model X.prog X.w) X.A (handleBy e X.env (h₀ :: hds)) (SP X pins D) X.xe s₃) X.xe s₂) X.xe s₁) (fun u s' xx => ?_) PassesOwn.looking).run [] s σ H D (I.toTry _) h) (fun f s1 hsp => ?_) (fun e s1 he => he))
  · obtain ⟨a, B, sI, pins', σ', H', cls, d, rfl, J', nb, up, sky, na, os, ag, w⟩ := xx
    have J : Inv X pins σ' H' sI := J'.ofTry ok
    have sky' : Sky B (X.env :: X.outer) a (Zc cls d) X.env.locals s'.heap := by rw [← hs]; exact sky
    show wpAny (model X.prog X.w) X.A (noteFrame (.ref a) X.env) _ _ _
    refine Sky.land Zc.steady hfr hf sky' fun h3 fl3 up3 => ?_
    obtain ⟨oe3, vs3, he3, hz3, hd3⟩ := fl3.there
    have nfr : a ∉ frs (X.env :: X.outer) := fun hm => by
      obtain ⟨_, o', e', hnf⟩ := fl3.2.2.1.mem hm
      rw [he3] at e'
      cases e'
      exact hnf _ hd3
    have A0 : Asked X pins σ' H' a cls d B sI { s' with heap := h3 } := ⟨J, nb, up.trans up3, os, ag, fl3, na, fun z => nfr (List.mem_filterMap.mpr ⟨X.env, List.mem_cons_self, by rw [hf, z]⟩), fun hm => by
      obtain ⟨e, he, q⟩ := List.mem_filterMap.mp hm
      exact nfr (List.mem_filterMap.mpr ⟨e, List.mem_cons_of_mem _ he, q⟩)⟩
    refine clauses hN ok hh A0 w fun wo s4 A4 => wpAny_handleBy_nil ?_
    obtain ⟨k1, k2, k3, oe, vs, T, oT, ts', he, hz, hd, h1, hr⟩ := id A4.fly
    unfold PySem.passOn
    refine wpAny_bind (wpAny_field he hd h1 ?_)
    rw [if_neg (show ¬ ((Value.ref T == Value.none) = true) from by simp)]
    have fin : wpAny (model X.prog X.w) X.A (setFlight (.ref a) X.env.frame) (fun _ s5 => wpAny (model X.prog X.w) X.A (throw (.ref a) : Sem Flow) (SP X pins D) X.xe s5) X.xe s4 := by
      rw [hf]
      exact HandSPX.setFlight_upZ A4.fly fun h5 hh5 up5 => wpAny_throw (tk _ _ ⟨a, B, sI, pins, σ', H', cls, d, rfl, J, nb, A4.up.trans up5, .inr (.inr (by rw [hs]; exact hh5)), na, A4.os, A4.ag, wo⟩)
    first
      | exact wpAny_bind (wpAny_pure (wpAny_bind fin))
      | exact wpAny_bind fin
  · cases f with
    | ret u => obtain ⟨v, σ', H', J', r, q⟩ := hsp; exact ⟨v, σ', H', J'.ofTry ok, r, q⟩
    | next => obtain ⟨σ', H', J', q⟩ := hsp; exact wpAny_execs_nil ⟨σ', H', J'.ofTry ok, q⟩
    | brk => obtain ⟨σ', H', J', q⟩ := hsp; exact ⟨σ', H', J'.ofTry ok, q⟩
    | cont => obtain ⟨σ', H', J', q⟩ := hsp; exact ⟨σ', H', J'.ofTry ok, q⟩
end
end Dl
set_option Elab.async false
set_option linter.all false
set_option maxRecDepth 100000
set_option maxHeartbeats 1000000
/-! The data layer: try, the clauses' suites. -/
namespace Dl
open PySem PySem.Spec PyProof.Rows L2
/-! ### isinstance of a caught error, whatever its own dict holds -/
section
open PySem.W PySem.Calls
variable {prog : Program} {w : World} {A : Around} {E : Value → Shared → Prop} {s : Shared} {K : Frag} {x D : Addr} {ox : Obj} {od : Option Obj}
theorem exc_class (T : ExcC K D) (X : K.In s.heap) (I : InstAt s.heap x ox D od) {Q : Option Value → Shared → Prop} (h : Q (some (.ref D)) { s with toks := s.toks + 1 }) : wpAny (model prog w) A (getAttr? (.ref x) "__class__") Q E s := by
  have hf : findObj K D od "__class__" = some (.bind (.builtin "getset_descriptor.__get__") (.builtin "object.__class__")) := by
    obtain ⟨cd, hc, _⟩ := any_some T.hd
    unfold findObj
    rw [hc, Option.bind_some, T.ha, Option.bind_some]
    simp [T.hn, T.ht]
  obtain ⟨hp, g, d, t, os⟩ := s
  have l0 := I.type (M := model prog w)
  have l1 := looks_findIn (M := model prog w) X T.hg
  have l2 := looks_findIn (M := model prog w) X T.hk
  have l3 := looks_find (M := model prog w) X I hf
  have sb : Looks (model prog w) hp (isInstance (.ref x) (.type "BaseException")) true := l0.andThen (looks_subIn X T.hs)
  have n2 : (Value.builtin "BaseException.__getattribute__" == Value.builtin "object.__getattribute__") = false := by decide +kernel
  have n1 : (onTheHeap (Value.ref D) && Value.builtin "BaseException.__getattribute__" == Value.builtin "object.__getattribute__") = false := by rw [n2]; rfl
  have n0 : (false && onTheHeap (Value.builtin "BaseException.__getattribute__")) = false := rfl
  unfold getAttr? getAttrBy? getAttrBy
  refine wpAny_bind (wpAny_mkText (wpAny_bind (wpAny_attempt (wpAny_holding (wpAny_bind (l0.at (wpAny_bind (l1.at ?_))))))))
  show wpAny _ _ (if (onTheHeap (Value.ref D) && Value.builtin "BaseException.__getattribute__" == Value.builtin "object.__getattribute__") = true then _ else _) _ _ _
  rw [n1, if_neg Bool.false_ne_true]
  unfold getAttrByItsOwn hookBefore
  refine wpAny_bind ?_
  rw [if_pos (show onTheHeap (Value.ref D) = true from rfl)]
  refine l2.at (wpAny_bind (wpAny_attempt (wpAny_holding ?_)))
  unfold callGetattribute
  rw [n0, if_neg Bool.false_ne_true]
  unfold boundAndCalled
  rw [PySem.F.excAttr_ValueError.ga.bind (.ref x)]
  refine wpAny_bind (wpAny_pure (wpAny_call (codeAny_call_builtin PySem.F.excAttr_ValueError.ga.plain PySem.F.entry_bexc_ga ?_)))
  refine @check_slot (model prog w) _ _ ⟨hp, g, d, t + 1, os⟩ "BaseException.__getattribute__" "BaseException" "__getattribute__" (.ref x) [.str "__class__" t] [] _ (by decide +kernel) (by decide +kernel) sb (PySem.F.args_bexc_ga (.ref x) (.str "__class__" t)) ?_
  unfold Builtin.«object.__getattribute__»
  refine wpAny_bind (wpAny_of_eq (a := ((Value.ref x : Value), [Value.str "__class__" t])) (by first | rfl | (simp only [slotArgs]; rfl)) ?_)
  refine wpAny_bind (wpAny_pure (wpAny_bind (l0.at (wpAny_bind (l3.at ?_)))))
  show wpAny _ _ (holding [Value.builtin "object.__class__"] (call (.builtin "getset_descriptor.__get__") [.builtin "object.__class__", .ref x, .ref D]) >>= ret) _ _ _
  refine wpAny_bind (wpAny_holding (wpAny_call (class_get (s := ⟨hp, g, d, t + 1, os⟩) X I T.hm (wpAny_pure ?_))))
  show wpAny _ _ (handedOut (.ref D)) _ _ _
  rw [handedOut_of (v := .ref D) rfl]
  first
    | exact wpAny_pure (wpAny_pure h)
    | exact wpAny_pure h
    | exact wpAny_pure (wpAny_bind (wpAny_pure (wpAny_pure h)))
theorem exc_kit (T : ExcC K D) : KitX K (.ref x) (.ref D) (fun h => InstAt h x ox D od) where
  ty := fun _ _ _ I => I.type
  it := fun M h X _ => by
    obtain ⟨cd, hc, _⟩ := any_some T.hd
    unfold clsIn at hc
    split at hc
    · rename_i ho
      exact fun A' Q' E' s' k q => ks_wpAny_isType_cls (k _ _ (X _ _ ho)) rfl q
    · cases hc
  ne := fun h tp dd its n sl X htp => by
    obtain ⟨cd, hc, _⟩ := any_some T.hd
    unfold clsIn at hc
    cases q : (Value.ref D == Value.ref tp) with
    | false => rfl
    | true =>
      have e : D = tp := Value.ref.inj (beq_iff_eq.mp q)
      subst e
      split at hc
      · rename_i ho
        cases (X _ _ ho).symm.trans htp
      · cases hc
  ca := fun X I k => exc_class T X I k
end
/-! ### a suite's expressions: they may read the caught error -/
def upX (K : PySem.W.Frag) (cl : Nat → Addr) (i : Nat) (a : Addr) (cls : Value) (d : Option Addr) (dx : Nat → List Str → List D → DE) : TE := fun σ H Q => ∃ w t c ns vs, w.H = H ∧ w.Ok K cl ∧ EnvR K cl w t σ ∧ σ[i]? = some (some (.ref a)) ∧ cls = .ref (cl c) ∧ ExcAt K cl w d ns vs ∧ OPost K cl (RV K cl) (fun _ _ _ => False) w Q (dx c ns vs t w.S)
def upXA (K : PySem.W.Frag) (cl : Nat → Addr) (i : Nat) (a : Addr) (cls : Value) (d : Option Addr) (dx : Nat → List Str → List D → DA) : TA := fun σ H Q => ∃ w t c ns vs, w.H = H ∧ w.Ok K cl ∧ EnvR K cl w t σ ∧ σ[i]? = some (some (.ref a)) ∧ cls = .ref (cl c) ∧ ExcAt K cl w d ns vs ∧ OPost K cl (RL K cl) (fun _ _ _ => False) w Q (dx c ns vs t w.S)
def upXB (K : PySem.W.Frag) (cl : Nat → Addr) (i : Nat) (a : Addr) (cls : Value) (d : Option Addr) (dx : Nat → List Str → List D → DB) : TT := fun σ H Q => ∃ w t c ns vs, w.H = H ∧ w.Ok K cl ∧ EnvR K cl w t σ ∧ σ[i]? = some (some (.ref a)) ∧ cls = .ref (cl c) ∧ ExcAt K cl w d ns vs ∧ OPost K cl RB (fun _ _ _ => False) w Q (dx c ns vs t w.S)
def upXS (K : PySem.W.Frag) (cl : Nat → Addr) (i : Nat) (a : Addr) (cls : Value) (d : Option Addr) (dx : Nat → List Str → List D → DS) : TS := fun N σ H => ∃ w t c ns vs, w.H = H ∧ w.Ok K cl ∧ EnvR K cl w t σ ∧ σ[i]? = some (some (.ref a)) ∧ cls = .ref (cl c) ∧ ExcAt K cl w d ns vs ∧ SPost K cl W0 N w (dx c ns vs t w.S)
theorem ExcAt.af {K : PySem.W.Frag} {cl : Nat → Addr} {w w1 : Wd} {d : Option Addr} {ns : List Str} {vs : List D} (x : ExcAt K cl w d ns vs) (f : Af K cl w w1) : ExcAt K cl w1 d ns vs := by
  rcases x with x | ⟨a, es, e1, e2, e3, r⟩
  · exact .inl x
  · exact .inr ⟨a, es, e1, f.fz _ _ e2, e3, Reps.af f r⟩
section
variable {X : Cx} {cl : Nat → Addr} {e e' : Expr} {es : List Expr} {pos : Pos} {i : Nat} {a : Addr} {cls : Value} {d : Option Addr} {dx dy : Nat → List Str → List D → DE} {da : Nat → List Str → List D → DA} {db : Nat → List Str → List D → DB} {de : DE}
abbrev UX (X : Cx) (cl : Nat → Addr) (i : Nat) (a : Addr) (cls : Value) (d : Option Addr) (e : Expr) (dx : Nat → List Str → List D → DE) : Prop := PE X e (upX X.K cl i a cls d dx)
abbrev UXA (X : Cx) (cl : Nat → Addr) (i : Nat) (a : Addr) (cls : Value) (d : Option Addr) (es : List Expr) (dx : Nat → List Str → List D → DA) : Prop := PA X es (upXA X.K cl i a cls d dx)
abbrev UXB (X : Cx) (cl : Nat → Addr) (i : Nat) (a : Addr) (cls : Value) (d : Option Addr) (e : Expr) (dx : Nat → List Str → List D → DB) : Prop := PT X e (upXB X.K cl i a cls d dx)
theorem x_of (h : UE X cl W0 e de) : UX X cl i a cls d e fun _ _ _ => de := weakE h fun σ H Q ⟨w, t, c, ns, vs, eH, ok, en, _, _, _, p⟩ => ⟨w, t, eH, ok, en, p⟩
theorem xa_nil : UXA X cl i a cls d [] fun _ _ _ => aNil := weakA pa_nil fun σ H Q ⟨w, t, c, ns, vs, eH, ok, en, _, _, _, p⟩ => eH ▸ p w [] (Af.refl ok) rfl rfl
theorem xa_cons (ha : UX X cl i a cls d e dx) (hr : UXA X cl i a cls d es da) (hs : starEach (e :: es) X.env = (false, eval e X.env) :: starEach es X.env := by rfl) : UXA X cl i a cls d (e :: es) fun c ns vs => aCons (dx c ns vs) (da c ns vs) :=
  weakA (pa_cons ha hr hs) fun σ H Q ⟨w, t, c, ns, vs, eH, ok, en, hi, hc, hx, p⟩ => by
    refine ⟨w, t, c, ns, vs, eH, ok, en, hi, hc, hx, OPost.bind p fun x w1 v1 a1 r1 p1 => ?_⟩
    refine ⟨w1, t, c, ns, vs, rfl, a1.ok, en.af a1, hi, hc, hx.af a1, OPost.bind p1 fun xs w2 us a2 r2 p2 => ?_⟩
    exact p2 w2 (v1 :: us) (Af.refl a2.ok) rfl ⟨v1, us, rfl, Rep.af a2 r1, r2⟩
theorem x_lst (h : UXA X cl i a cls d es da) : UX X cl i a cls d (.List es pos) fun c ns vs => dLst (da c ns vs) := weakE (pe_lst h) fun σ H Q ⟨w, t, c, ns, vs, eH, ok, en, hi, hc, hx, p⟩ => by
  refine ⟨w, t, c, ns, vs, eH, ok, en, hi, hc, hx, OPost.bind p fun xs w1 us a1 r1 p1 => ?_⟩
  split at p1
  · rename_i hl
    exact ⟨by rw [← Reps.length r1]; exact hl, fun q hq => p1 ⟨_, upd w1.F q (.lst us), w1.m, w1.S⟩ (.ref q) (a1.ok.laid hq) rfl (laidLst a1.ok hq r1)⟩
  · exact p1.elim
theorem x_if {ec : Expr} (hc : UXB X cl i a cls d ec db) (ha : UX X cl i a cls d e dx) (hb : UX X cl i a cls d e' dy) : UX X cl i a cls d (.IfExp ec e e' pos) fun c ns vs => dIf (db c ns vs) (dx c ns vs) (dy c ns vs) :=
  weakE (pe_ifExp hc ha hb) fun σ H Q ⟨w, t, c, ns, vs, eH, ok, en, hi, hc, hx, p⟩ => by
    refine ⟨w, t, c, ns, vs, eH, ok, en, hi, hc, hx, OPost.bind p fun x w1 v1 a1 r1 p1 => ?_⟩
    cases (show x = v1 from r1)
    cases x with
    | true => exact ⟨w1, t, c, ns, vs, rfl, a1.ok, en.af a1, hi, hc, hx.af a1, p1⟩
    | false => exact ⟨w1, t, c, ns, vs, rfl, a1.ok, en.af a1, hi, hc, hx.af a1, p1⟩
theorem xb_val (h : UX X cl i a cls d e dx) (he : ∀ whole, isTrue e X.env whole = (do let v ← whole; standAt e.pos; holding [v] (truthy v)) := by intro _; rfl) : UXB X cl i a cls d e fun c ns vs => bTest (dx c ns vs) :=
  weakB (pt_val h he) fun σ H Q ⟨w, t, c, ns, vs, eH, ok, en, hi, hc, hx, p⟩ => by
    refine ⟨w, t, c, ns, vs, eH, ok, en, hi, hc, hx, OPost.bind p fun x w1 v1 a1 r1 p1 => ?_⟩
    split at p1
    · rename_i b
      cases (show v1 = .bl b from r1)
      exact ⟨b, rfl, p1 w1 b (Af.refl a1.ok) rfl rfl⟩
    · exact p1.elim
/-- n.f, n the caught error's name; its class is known to be c0 -/
def dXf (c0 : Nat) (f : Str) (c : Nat) (ns : List Str) (vs : List D) : DE := fun _ S => if c = c0 then (match lookD ns vs f with
  | some x => .ok x S
  | none => .bad) else .bad
theorem lookD_nil {vs : List D} {f : Str} : lookD [] vs f = none := by cases vs <;> rfl
theorem x_fld {pn : List (Addr × Obj)} {oe : Obj} {c0 : Nat} {f n : Str} {p : Pos} (T : XfC X.K (cl c0)) (hno : PySem.W.findIn X.K (.ref (cl c0)) f = some none) (hz : Zc cls d oe) (hf : ∃ vs, oe.data = .fields vs) (hn : X.N[i]? = some n) (hv : Vis X.env.scope n) (hd : (n == ("__debug__" : Str)) = false := by decide) (hcd : (n == ("__classdict__" : Str)) = false := by decide)
    (hb : attributeBase (.Name n p) f X.env (eval (.Name n p) X.env) = eval (.Name n p) X.env := by rfl) : UX (X.suite a ((a, oe) :: pn)) cl i a cls d (.Attribute (.Name n p) f pos) (dXf c0 f) :=
  weakE (pe_xf T hno hz hf (pe_var (X := X.suite a ((a, oe) :: pn)) hn hv hd hcd) hb) fun σ H Q ⟨w, t, c, ns, vs, eH, ok, en, hi, hc, hx, p⟩ => by
    subst eH
    have p' : OPost X.K cl (RV X.K cl) (fun _ _ _ => False) w Q (dXf c0 f c ns vs t w.S) := p
    unfold dXf at p'
    split at p'
    · rename_i e0
      subst e0
      split at p'
      · rename_i x hl
        rcases hx with ⟨e1, _⟩ | ⟨dd, es, e1, e2, e3, r⟩
        · subst e1
          rw [lookD_nil] at hl
          cases hl
        · obtain ⟨v, q1, q2⟩ := look_rep e3 r hl
          exact ⟨.ref a, hi, rfl, hc, dd, es, v, e1, ok.sub _ _ e2, q1, p' w v (Af.refl ok) rfl q2⟩
      · exact p'.elim
    · exact p'.elim
/-- isinstance(n, C) of the caught error -/
def dXi (c0 : Nat) (b : Bool) (c : Nat) (_ : List Str) (_ : List D) : DE := fun _ S => if c = c0 then .ok (.bl b) S else .bad
def rIsX (K : PySem.W.Frag) (D a : Addr) (d : Option Addr) : List V → Hp → VK → Prop := fun xs H Q => ∃ (c : V) (cv : Value) (b : Bool), xs = [.ref a, c] ∧ (∀ u, RelV c u → u = cv) ∧ PySem.W.kitOne K (.ref D) cv = some b ∧ (d = none ∨ ∃ dd es, d = some dd ∧ H dd = some (.xd es)) ∧ Q (.bl b) H
theorem call_isX {pn : List (Addr × Obj)} {oe : Obj} {D : Addr} (T : ExcC X.K D) (hz : Zc (.ref D) d oe) (hf : ∃ vs, oe.data = .fields vs) : CallR (X.suite a ((a, oe) :: pn)) (.builtin "isinstance") (rIsX X.K D a d) := by
  intro pins s σ H xs us Q I r h
  obtain ⟨c, cv, b, rfl, hcv, e, hd, q⟩ := h
  cases r with
  | cons rx rr =>
    cases rr with
    | cons rt rr =>
      cases rr
      cases rx
      have ec := hcv _ rt
      subst ec
      obtain ⟨hget, _⟩ := I.pin (a, oe) (List.mem_append.mpr (.inl List.mem_cons_self))
      obtain ⟨vs, hv⟩ := hf
      obtain ⟨od, J⟩ : ∃ od, PySem.W.InstAt s.heap a oe D od := by
        rcases hd with hd | ⟨dd, es, hd, hx⟩
        · exact ⟨none, hget, hz.1, by unfold PySem.W.notCls; rw [hv] <;> rfl, by rw [hz.2, hd]; exact True.intro⟩
        · obtain ⟨mA, hns, _⟩ := (show ObjOk X.prog X.w H s.heap dd (.xd es) from I.hok dd _ hx)
          obtain ⟨o, _, _, ho, _⟩ := hns
          exact ⟨some o, hget, hz.1, by unfold PySem.W.notCls; rw [hv] <;> rfl, by rw [hz.2, hd]; exact ho⟩
      exact PySem.W.kia_one (exc_kit T) I.kIn J e (fun z => nomatch z) fun tk => ⟨.bl b, H, I.kept (t' := tk) fun _ _ z => z, rfl, q⟩
theorem x_isi {pn : List (Addr × Obj)} {oe : Obj} {c0 : Nat} {p : Pos} {C : Addr} {b : Bool} {e1 e2 : Expr} (T : ExcC X.K (cl c0)) (hz : Zc cls d oe) (hf : ∃ vs, oe.data = .fields vs) (hk : PySem.W.kitOne X.K (.ref (cl c0)) (.ref C) = some b)
    (h1 : PE (X.suite a ((a, oe) :: pn)) e1 (tVar i)) (h2 : PE (X.suite a ((a, oe) :: pn)) e2 (tC (.ref C))) (hg : Gl (X.suite a ((a, oe) :: pn)) "isinstance") (hm : X.mg "isinstance" = none)
    (hs : starEach [e1, e2] X.env = (false, eval e1 X.env) :: starEach [e2] X.env := by rfl) (hs2 : starEach [e2] X.env = (false, eval e2 X.env) :: starEach [] X.env := by rfl) (hpl : (backTo pos (starEach [e2] X.env)).any (·.1) = false := by rfl) :
    UX (X.suite a ((a, oe) :: pn)) cl i a cls d (.Call (.Name "isinstance" p) [e1, e2] [] pos) (dXi c0 b) := by
  by_cases hc : cls = .ref (cl c0)
  · subst hc
    refine weakE (pe_callB (call_isX T hz hf) hg hm (by decide +kernel) (pa_cons h1 (pa_cons h2 pa_nil hs2) hs) (by decide) (by decide) hs hpl) fun σ H Q ⟨w, t, c, ns, vs, eH, ok, en, hi, hc, hx, q⟩ => ?_
    subst eH
    have q' : OPost X.K cl (RV X.K cl) (fun _ _ _ => False) w Q (dXi c0 b c ns vs t w.S) := q
    unfold dXi at q'
    split at q'
    · refine ⟨.ref a, hi, .ref C, .ref C, b, rfl, fun u h => h, hk, ?_, q' w (.bl b) (Af.refl ok) rfl rfl⟩
      rcases hx with ⟨_, e1⟩ | ⟨dd, es, e1, e2, _, _⟩
      · exact .inl e1
      · exact .inr ⟨dd, es, e1, ok.sub _ _ e2⟩
    · exact q'.elim
  · refine weakE (te := fun _ _ _ => False) ⟨fun _ _ _ _ _ _ h => h.elim⟩ fun σ H Q ⟨w, t, c, ns, vs, eH, ok, en, hi, hc', hx, q⟩ => ?_
    have q' : OPost X.K cl (RV X.K cl) (fun _ _ _ => False) w Q (dXi c0 b c ns vs t w.S) := q
    unfold dXi at q'
    split at q'
    · rename_i e0
      rw [e0] at hc'
      exact hc hc'
    · exact q'.elim
theorem xs_set {j : Nat} {x : Str} {pos' : Pos} (hN : X.N.Nodup) (hj : X.N[j]? = some x) (hx : Loc X.env.scope x) (h : UX X cl i a cls d e dx) (hs : swapsWith e (some (.Name x pos')) pos.line X.env = pure false := by rfl) (hf : X.fn x = true ∨ X.env.scope.names.lookup x = some .local := by first | exact .inl rfl | exact .inr rfl | assumption) :
    PS X (.Assign [.Name x pos'] e pos) (upXS X.K cl i a cls d fun c ns vs => dSet j (dx c ns vs)) := weakS (ps_set hN hj hx h hs hf) fun N σ H ⟨w, t, c, ns, vs, eH, ok, en, hi, hc, he, p⟩ => by
  refine ⟨w, t, c, ns, vs, eH, ok, en, hi, hc, he, ?_⟩
  exact SPost.ofE p en fun x w1 v y rv en1 p1 => p1 w1 _ (Af.refl y.ok) rfl (en1.set rv)
theorem xs_one {s : Stmt} {ds : Nat → List Str → List D → DS} (h : PS X s (upXS X.K cl i a cls d ds)) : PSs X [s] (upXS X.K cl i a cls d ds) := pss_one h
end
/-! ### try -/
structure Hd where
  mt : Nat → Option Bool
  slot : Option Nat
  run : Nat → List Str → List D → DS
def unset (i : Option Nat) (t : Lc) : Lc := match i with
  | none => t
  | some i => t.set i none
def slotIn (i : Option Nat) (t : Lc) : Bool := match i with
  | none => true
  | some i => decide (i < t.length)
def dHds : List Hd → Lc → Nat → List Str → List D → Sto → SOut
  | [], t, c, ns, vs, S => .exc t c ns vs S
  | h :: r, t, c, ns, vs, S => match h.mt c with
    | some true => if slotIn h.slot t = true then (match h.run c ns vs (unset h.slot t) S with
      | .nx t3 S3 => .nx (unset h.slot t3) S3
      | .bk t3 S3 => .bk (unset h.slot t3) S3
      | .ct t3 S3 => .ct (unset h.slot t3) S3
      | .rt x S3 => .rt x S3
      | _ => .bad) else .bad
    | some false => dHds r t c ns vs S
    | none => .bad
def dTry (db : DS) (hs : List Hd) : DS := fun t S => match db t S with
  | .exc t1 c ns vs S1 => dHds hs t1 c ns vs S1
  | o => o
/-- what a clause's reading and its words have to do with each other -/
inductive HdsD (K : PySem.W.Frag) (cl : Nat → Addr) : List Hd → List Cl3 → Prop
  | nil : HdsD K cl [] []
  | bare {mt : Nat → Option Bool} {c0 : Value} {ds : DS} {hs : List Hd} {l : List Cl3} (hm : ∀ c b, mt c = some b → PySem.W.exmOne K (.ref (cl c)) c0 = some b) (r : HdsD K cl hs l) : HdsD K cl (⟨mt, none, fun _ _ _ => ds⟩ :: hs) (⟨c0, none, fun _ _ _ => upS K cl W0 ds⟩ :: l)
  | named {mt : Nat → Option Bool} {c0 : Value} {i : Nat} {dx : Nat → List Str → List D → DS} {hs : List Hd} {l : List Cl3} (hm : ∀ c b, mt c = some b → PySem.W.exmOne K (.ref (cl c)) c0 = some b) (r : HdsD K cl hs l) :
      HdsD K cl (⟨mt, some i, dx⟩ :: hs) (⟨c0, some i, fun a cls d => upXS K cl i a cls d dx⟩ :: l)
section
variable {K : PySem.W.Frag} {cl : Nat → Addr} {W : WX} {N : Ends}
theorem hds_ok {hs : List Hd} {l : List Cl3} (hd : HdsD K cl hs l) : ∀ {w : Wd} {t : Lc} {σ : L2.St} {c : Nat} {ns : List Str} {vs : List D} {d : Option Addr}, w.Ok K cl → EnvR K cl w t σ → ExcAt K cl w d ns vs → SPost K cl W N w (dHds hs t c ns vs w.S) → wMix K W N l (.ref (cl c)) d σ w.H := by
  induction hd with
  | nil => exact fun ok en x p => p _ _ _ (Af.refl ok) rfl en x
  | @bare mt c0 ds hs l hm r ih =>
    intro w t σ c ns vs d ok en x p
    unfold dHds at p
    dsimp only at p
    cases q : mt c with
    | none => rw [q] at p; exact p.elim
    | some b =>
      refine ⟨b, hm c b q, fun e a na => ?_, fun e => ?_⟩
      · subst e
        rw [q] at p
        refine ⟨w, t, rfl, ok, en, ?_⟩
        have p2 : SPost K cl W N w (if true = true then (match ds t w.S with
          | .nx t3 S3 => .nx t3 S3
          | .bk t3 S3 => .bk t3 S3
          | .ct t3 S3 => .ct t3 S3
          | .rt x S3 => .rt x S3
          | _ => .bad) else .bad) := p
        rw [if_pos rfl] at p2
        cases z : ds t w.S with
        | exc t c ns vs S => rw [z] at p2; exact p2.elim
        | bad => rw [z] at p2; exact p2.elim
        | _ => rw [z] at p2; exact p2
      · subst e
        rw [q] at p
        exact ih ok en x p
  | @named mt c0 i dx hs l hm r ih =>
    intro w t σ c ns vs d ok en x p
    unfold dHds at p
    dsimp only at p
    cases q : mt c with
    | none => rw [q] at p; exact p.elim
    | some b =>
      refine ⟨b, hm c b q, fun e a na => ?_, fun e => ?_⟩
      · subst e
        rw [q] at p
        have p : SPost K cl W N w (if slotIn (some i) t = true then (match dx c ns vs (t.set i none) w.S with
          | .nx t3 S3 => .nx (t3.set i none) S3
          | .bk t3 S3 => .bk (t3.set i none) S3
          | .ct t3 S3 => .ct (t3.set i none) S3
          | .rt x S3 => .rt x S3
          | _ => .bad) else .bad) := p
        by_cases hi : slotIn (some i) t = true
        case neg =>
          rw [if_neg hi] at p
          exact p.elim
        rw [if_pos hi] at p
        have p2 := p
        have hi : i < σ.length := by rw [← en.len]; exact of_decide_eq_true hi
        · refine ⟨w, t.set i none, c, ns, vs, rfl, ok, en.unset, List.getElem?_set_self hi, rfl, x, ?_⟩
          cases z : dx c ns vs (t.set i none) w.S with
          | exc t c ns vs S => rw [z] at p2; exact p2.elim
          | bad => rw [z] at p2; exact p2.elim
          | rt x S => rw [z] at p2; exact p2
          | nx t3 S3 => rw [z] at p2; exact fun w' σ' y e en' => p2 w' _ y e en'.unset
          | bk t3 S3 => rw [z] at p2; exact fun w' σ' y e en' => p2 w' _ y e en'.unset
          | ct t3 S3 => rw [z] at p2; exact fun w' σ' y e en' => p2 w' _ y e en'.unset
      · subst e
        rw [q] at p
        exact ih ok en x p
end
section
variable {X : Cx} {cl : Nat → Addr} {W : WX} {body : List Stmt} {h₀ : ExceptHandler} {hds : List ExceptHandler} {l : List Cl3} {pos : Pos} {db : DS} {hs : List Hd}
theorem s_try (h1 : X.stack = X.env :: X.outer) (hf : X.env.frame = some X.env.locals) (hN : X.N.Nodup) (tk : Takes X W)
    (hb : ∀ (W' : WX) (pn : List (Addr × Obj)) (xe : Value → Shared → Prop), Takes (X.tr pn xe) W' → PassesOwn (model X.prog X.w) X.A X.env xe → USs (X.tr pn xe) cl W' body db)
    (hd : HdsD X.K cl hs l) (hh : HdMix X (h₀ :: hds) l) : US X cl W (.Try body (h₀ :: hds) [] [] pos) (dTry db hs) :=
  weakS (ps_try_mix h1 hf hN tk (tb := fun W' => upS X.K cl W' db) (fun W' pn xe a b => hb W' pn xe a b) hh) fun N σ H ⟨w, t, eH, ok, en, p⟩ => by
    refine ⟨w, t, eH, ok, en, ?_⟩
    unfold dTry at p
    cases q : db t w.S with
    | exc t1 c ns vs S1 =>
      rw [q] at p
      intro w' σ' d y e en' x
      exact hds_ok hd y.ok en' x (by rw [e]; exact SPost.after p y)
    | nx t1 S1 => rw [q] at p; exact p
    | rt t1 S1 => rw [q] at p; exact p
    | bk t1 S1 => rw [q] at p; exact p
    | ct t1 S1 => rw [q] at p; exact p
    | bad => rw [q] at p; exact p.elim
end
end Dl
set_option Elab.async false
set_option linter.all false
set_option maxRecDepth 100000
set_option maxHeartbeats 1000000
/-! The data layer: the head's facts of own exceptions. -/
namespace Dl
open PySem PySem.Spec PyProof.Rows L2
def newOk (K : PySem.W.Frag) (C : Addr) : Bool := match K.lookup C with
  | some ⟨.type "type", _, .cls cd, sl⟩ => (match cd.mro, sl.toList with
    | .ref D :: bm, [_, _, _, _, some (.builtin n), _] => D == C && (n == "ValueError.__new__" && (!cd.hasDel && (cd.hasDict && PySem.HandSPX.refsVE bm)))
    | _, _ => false)
  | _ => false
theorem newOk_is {K : PySem.W.Frag} {C : Addr} (q : newOk K C = true) : ∃ nm q N bs bm sn sub ab col dd k0 k1 k2 k3 k5, K.lookup C = some (excClassObj nm q C N bs bm true sn sub ab col dd k0 k1 k2 k3 k5 "ValueError.__new__") ∧ PySem.HandSPX.refsVE bm = true := by
  unfold newOk at q
  split at q
  · rename_i dd cd sl ho
    split at q
    · rename_i C' bm k0 k1 k2 k3 n k5 hm hs
      obtain ⟨h1, q⟩ := He.ba q
      obtain ⟨h2, q⟩ := He.ba q
      obtain ⟨h3, q⟩ := He.ba q
      obtain ⟨h4, h5⟩ := He.ba q
      obtain ⟨nm, bs, mro, ns, qn, hd, sn, sub, ab, col, del⟩ := cd
      dsimp only at hm h3 h4
      have e1 : C' = C := beq_iff_eq.mp h1
      have e2 : n = "ValueError.__new__" := beq_iff_eq.mp h2
      have e3 : del = false := by cases del with
        | false => rfl
        | true => cases h3
      subst hm e1 e2 e3 h4
      have hsl : sl = #[k0, k1, k2, k3, some (.builtin "ValueError.__new__"), k5] := by
        obtain ⟨l⟩ := sl
        simp only at hs
        rw [hs]
      subst hsl
      exact ⟨nm, qn, ns, bs, bm, sn, sub, ab, col, dd, k0, k1, k2, k3, k5, ho, h5⟩
    · cases q
  · cases q
/-- all of a class's facts -/
def excWhole (x : Str) (K : PySem.W.Frag) : Bool := newOk K (He.ga K x) && (He.eqO (PySem.W.findIn K (.ref (He.ga K x)) "__setattr__") (some (some (.builtin "object.__setattr__"))) && (decide (PySem.W.subIn K (.ref (He.ga K x)) (.type "BaseException") = some true) &&
  (decide (PySem.W.typeIn K (.ref (He.ga K x)) = some (.type "type")) && (PySem.W.keepIn K (.ref (He.ga K x)) && (He.eqO (PySem.W.ks_superIn K (He.ga K x) (He.ga K x) "__init__") (some (some (.builtin veI))) &&
  (decide (PySem.W.subIn K (.ref (He.ga K x)) (.type "ValueError") = some true) && (decide (PySem.W.mroIn K (He.ga K x) (.ref (He.ga K x)) = some true) && He.eqO (PySem.W.nsIn K cStatics "thirdparty.any") (some none))))))))
theorem xcls_ok {x : Str} {K : PySem.W.Frag} (h : excWhole x K = true) : XCls K (He.ga K x) := by
  obtain ⟨h1, h⟩ := He.ba h
  obtain ⟨h2, h⟩ := He.ba h
  obtain ⟨h3, h⟩ := He.ba h
  obtain ⟨h4, h⟩ := He.ba h
  obtain ⟨h5, h⟩ := He.ba h
  obtain ⟨h6, h⟩ := He.ba h
  obtain ⟨h7, h⟩ := He.ba h
  obtain ⟨h8, h9⟩ := He.ba h
  exact ⟨⟨newOk_is h1, He.eqO_ok h2, of_decide_eq_true h3, of_decide_eq_true h4, h5⟩, He.eqO_ok h6, of_decide_eq_true h7, of_decide_eq_true h8, He.eqO_ok h9⟩
/-- .. for isinstance and its fields -/
def excSeen (x : Str) (K : PySem.W.Frag) : Bool := xfB K (He.ga K x) && (He.eqO (PySem.W.findIn K (.ref (He.ga K x)) "__class__") (some (some (.builtin "object.__class__"))) && (He.eqO (PySem.W.specialIn K (.builtin "object.__class__") "__get__") (some (some (.builtin "getset_descriptor.__get__"))) &&
  (decide (PySem.W.takesIn K (.builtin "object.__class__") = some true) && decide (PySem.W.mroIn K (He.ga K x) (.type "object") = some true))))
theorem xfc_ok {x : Str} {K : PySem.W.Frag} (h : excSeen x K = true) : XfC K (He.ga K x) := xfB_ok (He.ba h).1
theorem excC_ok {x : Str} {K : PySem.W.Frag} (h : excSeen x K = true) : ExcC K (He.ga K x) := by
  obtain ⟨h1, h⟩ := He.ba h
  obtain ⟨h2, h⟩ := He.ba h
  obtain ⟨h3, h⟩ := He.ba h
  obtain ⟨h4, h5⟩ := He.ba h
  have f := xfB_ok h1
  exact ⟨f.ga, f.gg, f.exC, f.hdC, He.eqO_ok h2, He.eqO_ok h3, of_decide_eq_true h4, of_decide_eq_true h5⟩
/-- its __init__ is its own def -/
def excMade (x : Str) (K : PySem.W.Frag) : Bool := He.eqO (PySem.W.findIn K (.ref (He.ga K x)) "__init__") (some (some (.ref (He.fAd K (x, some "__init__"))))) && decide (PySem.W.typeIn K (.ref (He.fAd K (x, some "__init__"))) = some (.type "function"))
theorem made_find {x : Str} {K : PySem.W.Frag} (h : excMade x K = true) : PySem.W.findIn K (.ref (He.ga K x)) "__init__" = some (some (.ref (He.fAd K (x, some "__init__")))) := He.eqO_ok (He.ba h).1
theorem made_type {x : Str} {K : PySem.W.Frag} (h : excMade x K = true) : PySem.W.typeIn K (.ref (He.fAd K (x, some "__init__"))) = some (.type "function") := of_decide_eq_true (He.ba h).2
def noFld (x f : Str) (K : PySem.W.Frag) : Bool := He.eqO (PySem.W.findIn K (.ref (He.ga K x)) f) (some none)
theorem noFld_ok {x f : Str} {K : PySem.W.Frag} (h : noFld x f K = true) : PySem.W.findIn K (.ref (He.ga K x)) f = some none := He.eqO_ok h
def exmB (x y : Str) (b : Bool) (K : PySem.W.Frag) : Bool := decide (PySem.W.exmOne K (.ref (He.ga K x)) (.ref (He.ga K y)) = some b)
theorem exmB_ok {x y : Str} {b : Bool} {K : PySem.W.Frag} (h : exmB x y b K = true) : PySem.W.exmOne K (.ref (He.ga K x)) (.ref (He.ga K y)) = some b := of_decide_eq_true h
def kitB (x y : Str) (b : Bool) (K : PySem.W.Frag) : Bool := decide (PySem.W.kitOne K (.ref (He.ga K x)) (.ref (He.ga K y)) = some b)
theorem kitB_ok {x y : Str} {b : Bool} {K : PySem.W.Frag} (h : kitB x y b K = true) : PySem.W.kitOne K (.ref (He.ga K x)) (.ref (He.ga K y)) = some b := of_decide_eq_true h
/-! ### the text of an __init__ with super() -/
structure XDef where
  cls : Str
  qual : Str
  params : Arguments
  body : List Stmt
  scope : Scope
abbrev FnY : Type := Option (Str × Str × Arguments × FuncBody × Scope × Addr × List Str × Addr)
def fnY (K : PySem.W.Frag) (x : Str) : FnY := match K.lookup (He.fAd K (x, some "__init__")) with
  | some ⟨_, _, .func fd, _⟩ => some (fd.name, fd.qualname, fd.params, fd.body, fd.scope, fd.globals, fd.closure.map (·.1), fd.builtins)
  | _ => none
def XDef.val (d : XDef) : FnY := some ("__init__", d.qual, d.params, .stmts d.body, d.scope, mainGlobals, ["__class__"], builtinsNs)
/-- the cell of its class -/
def cellA (K : PySem.W.Frag) (x : Str) : Addr := match K.lookup (He.fAd K (x, some "__init__")) with
  | some ⟨_, _, .func fd, _⟩ => (match fd.closure with
    | [q] => q.2
    | _ => 0)
  | _ => 0
def codA (K : PySem.W.Frag) (x : Str) : Addr := match K.lookup (He.fAd K (x, some "__init__")) with
  | some ⟨_, _, .func fd, _⟩ => (match fd.code with
    | .ref c => c
    | _ => 0)
  | _ => 0
def fileB (f : Str) (K : PySem.W.Frag) (c : Addr) : Bool := match K.lookup c with
  | some ⟨_, _, .fields vs, _⟩ => (match (vs[2]? : Option Value) with
    | some (.str fi _) => f == fi
    | _ => false)
  | _ => false
def cellB (K : PySem.W.Frag) (cc C : Addr) : Bool := match K.lookup cc with
  | some ⟨_, _, .cell (some (.ref D)), _⟩ => D == C
  | _ => false
def tailB (f : Str) (K : PySem.W.Frag) (C : Addr) (qual : Str) (dv cd : Value) (cl : List (Str × Addr)) : Bool := match dv, cd, cl with
  | .none, .ref c, [q] => PySem.W.codeIn K (.ref c) qual && (fileB f K c && cellB K q.2 C)
  | _, _, _ => false
def excText (f x : Str) (K : PySem.W.Frag) : Bool := match K.lookup (He.fAd K (x, some "__init__")) with
  | some ⟨_, _, .func fd, _⟩ => tailB f K (He.ga K x) fd.qualname fd.defaults fd.code fd.closure
  | _ => false
theorem tailB_ok {f : Str} {K : PySem.W.Frag} {C : Addr} {qual : Str} {dv cd : Value} {cl : List (Str × Addr)} (h : tailB f K C qual dv cd cl = true) : dv = .none ∧ ∃ c q, cd = .ref c ∧ cl = [q] ∧ PySem.W.codeIn K (.ref c) qual = true ∧ fileB f K c = true ∧ cellB K q.2 C = true := by
  unfold tailB at h
  split at h
  · rename_i c q
    obtain ⟨k1, k2⟩ := He.ba h
    obtain ⟨k3, k4⟩ := He.ba k2
    exact ⟨rfl, c, q, rfl, rfl, k1, k3, k4⟩
  · cases h
theorem fileB_ok {f : Str} {K : PySem.W.Frag} {c : Addr} (h : fileB f K c = true) : ∃ ccl cdd vs ccs fi tf, K.lookup c = some ⟨ccl, cdd, .fields vs, ccs⟩ ∧ vs[2]? = some (.str fi tf) ∧ (f == fi) = true := by
  unfold fileB at h
  split at h
  · rename_i a b vs d e
    split at h
    · rename_i fi tf e2
      exact ⟨a, b, vs, d, fi, tf, e, e2, h⟩
    · cases h
  · cases h
theorem cellB_ok {K : PySem.W.Frag} {cc C : Addr} (h : cellB K cc C = true) : ∃ cl cld csl, K.lookup cc = some ⟨cl, cld, .cell (some (.ref C)), csl⟩ := by
  unfold cellB at h
  split at h
  · rename_i a b D d e
    rw [beq_iff_eq.mp h] at e
    exact ⟨a, b, d, e⟩
  · cases h
theorem xfn_ok {P : Program} {K : PySem.W.Frag} {d : XDef} (e : fnY K d.cls = d.val) (h : excText P.main.file d.cls K = true) :
    XFn P K (He.ga K d.cls) (He.fAd K (d.cls, some "__init__")) d.qual d.params d.body d.scope (fdAt K (d.cls, some "__init__")) (codA K d.cls) (cellA K d.cls) := by
  unfold excText at h
  unfold fnY at e
  unfold fdAt codA cellA
  cases q : K.lookup (He.fAd K (d.cls, some "__init__")) with
  | none => rw [q] at h; cases h
  | some o =>
    obtain ⟨oc, od, dt, osl⟩ := o
    rw [q] at h e
    cases dt with
    | func fd =>
      obtain ⟨n1, n2, n3, n4, n5, n6, n7, n8, n9, n10, n11, n12, n13, n14, n15⟩ := fd
      have e2 : (some (n1, n2, n3, n4, n5, n6, n7.map (·.1), n15) : FnY) = (some (("__init__" : Str), d.qual, d.params, FuncBody.stmts d.body, d.scope, mainGlobals, (["__class__"] : List Str), builtinsNs) : FnY) := e
      simp only [Option.some.injEq, Prod.mk.injEq] at e2
      obtain ⟨h1, h2, h3, h4, h5, h6, h7, h8⟩ := e2
      subst h1 h2 h3 h4 h5 h6 h8
      obtain ⟨e8, c, q1, e13, e7, k1, k3, k4⟩ := tailB_ok (show tailB P.main.file K (He.ga K d.cls) d.qual n8 n13 n7 = true from h)
      subst e8 e13 e7
      obtain ⟨y1, y2⟩ := q1
      have hy : y1 = "__class__" := (List.cons.inj h7).1
      subst hy
      exact ⟨⟨oc, od, osl, n9, n10, n11, n12, n14, rfl, q⟩, k1, fileB_ok k3, cellB_ok k4⟩
    | _ => cases h
/-! ### the Hook -/
def asZ (g : Addr → Option Obj) (n : Nat) : List Addr := He.asD g n ++ [cStatics]
abbrev AlZ : Type := (He.AlT × Bool) × List FnY
def obsZ (n : Nat) (fa : List He.Fa) (fn : List He.DefD) (ts : List He.Tab) (xs : List XDef) (ex : PySem.W.Frag → Bool) (g : Addr → Option Obj) : AlZ := ((He.obsT fa fn ts (He.frT g (asZ g n)), ex (He.frT g (asZ g n))), xs.map fun d => fnY (He.frT g (asZ g n)) d.cls)
def valZ (fn : List He.DefD) (ts : List He.Tab) (xs : List XDef) (w : World) : AlZ := ((He.valT fn ts w, true), xs.map XDef.val)
structure SaysZ (fa : List He.Fa) (fn : List He.DefD) (ts : List He.Tab) (xs : List XDef) (ex : PySem.W.Frag → Bool) (w : World) (K : PySem.W.Frag) : Prop where
  t : He.SaysT fa fn ts w K
  more : ex K = true
  y : xs.map (fun d => fnY K d.cls) = xs.map XDef.val
def hookZ (n : Nat) (fa : List He.Fa) (fn : List He.DefD) (ts : List He.Tab) (xs : List XDef) (ex : PySem.W.Frag → Bool) : PySem.W.Hook where
  α := AlZ
  obs := fun s => obsZ n fa fn ts xs ex s.heap.get?
  val := fun w => valZ fn ts xs w
  says := fun w h => ∃ K : PySem.W.Frag, K.In h ∧ SaysZ fa fn ts xs ex w K
  of := fun _ _ e => ⟨_, He.frT_in, ⟨congrArg (fun z : AlZ => z.1.1) e, congrArg (fun z : AlZ => z.1.2) e, congrArg (fun z : AlZ => z.2) e⟩⟩
  keeps := fun _ _ _ ⟨K, hK, c⟩ k => ⟨K, PySem.W.Frag.In.keeps hK k, c⟩
theorem obsZ_eq {n : Nat} {fa : List He.Fa} {fn : List He.DefD} {ts : List He.Tab} {xs : List XDef} {ex : PySem.W.Frag → Bool} {g : Addr → Option Obj} {s : Shared} (h : ∀ a, g a = s.heap.get? a) : obsZ n fa fn ts xs ex g = (hookZ n fa fn ts xs ex).obs s := by
  have e : g = s.heap.get? := funext h
  rw [e] <;> rfl
structure Wz (P : Program) (file : Str) (fa : List He.Fa) (fn : List He.DefD) (ts : List He.Tab) (xs : List XDef) (ex : PySem.W.Frag → Bool) (w : World) (K : PySem.W.Frag) (mg : Str → Option Value) : Prop extends Wl fa fn ts ex w K mg where
  y : xs.map (fun d => fnY K d.cls) = xs.map XDef.val
  file : P.main.file = file
  top : (P.main.scope.names.lookup ("super" : Str)).isSome = false
theorem Wz.xfn {P : Program} {file : Str} {fa : List He.Fa} {fn : List He.DefD} {ts : List He.Tab} {xs : List XDef} {ex : PySem.W.Frag → Bool} {w : World} {K : PySem.W.Frag} {mg : Str → Option Value} (c : Wz P file fa fn ts xs ex w K mg) (i : Nat) {d : XDef} (h : xs[i]? = some d) (e : excText file d.cls K = true) :
    XFn P K (He.ga K d.cls) (He.fAd K (d.cls, some "__init__")) d.qual d.params d.body d.scope (fdAt K (d.cls, some "__init__")) (codA K d.cls) (cellA K d.cls) := by
  have q : (xs.map fun d => fnY K d.cls)[i]? = (xs.map XDef.val)[i]? := by rw [c.y]
  rw [List.getElem?_map, List.getElem?_map, h] at q
  rw [← c.file] at e
  exact xfn_ok (Option.some.inj q) e
theorem passes_never {P : Program} {w : World} {X : Cx} : Passes (L2.CX P w) X E0 := fun _ _ _ _ _ _ _ h => (noleave h).elim
/-- arguments of an __init__ by place -/
theorem XFn.binds {P : Program} {K : PySem.W.Frag} {C f cda cc : Addr} {qual : Str} {params : Arguments} {body : List Stmt} {scope : Scope} {fd : FuncData} (F : XFn P K C f qual params body scope fd cda cc) {ps : List Str}
    (h : ∀ (cl : List (Str × Addr)) (kV doc pm : Value) (an : Option Addr) (cdv ct : Value) (us : List Value), us.length = ps.length → bindArgs (PySem.W.fnX "__init__" qual params body scope cl .none kV doc pm an cdv ct) ⟨us, []⟩ = pure (ps.zip us)) : Binds K fd ps [] := by
  obtain ⟨oc, od, osl, kV, doc, pm, an, ct, rfl, lk⟩ := F.fn
  exact .all fun us hl => h _ _ _ _ _ _ _ us hl
/-- a text whose shown part stands last -/
theorem shown_two {K : PySem.W.Frag} {a : Str} (ha : a.length ≤ 1000) : Harm (Showy K) (fun σ H Q => tJs [tC (.str a), tShow K (tVar 1)] Str.empty σ H fun out H1 => Q (.str out) H1) := fun σ H y hy sh Q h => by
  have e0 : (Str.empty : Str).length = 0 := rfl
  have big : 300000 ≤ sizeLine := by decide
  exact ⟨a, rfl, by rw [str_app]; omega, y, hy, sh, fun m hm => ⟨m, rfl, by rw [str_app, str_app]; omega, h _⟩⟩
theorem harm_c {chk : V → Hp → Prop} {v : V} : Harm chk (tC v) := fun _ _ _ _ _ _ h => h _
end Dl
set_option Elab.async false
set_option linter.all false
set_option maxRecDepth 100000
set_option maxHeartbeats 1000000
/-! The data layer: != by an own __eq__; a list's sum that is still to change. -/
namespace Dl
open PySem PySem.Spec PyProof.Rows L2
def fAddC : D → D → Sto → Out D := fun x y S => match deref x S, deref y S with
  | .lst xs, .lst ys => if xs.length + ys.length ≤ sizeLine then .ok (.ptr S.length) (S ++ [some (.lst (xs ++ ys))]) else .bad
  | _, _ => .bad
theorem d_addC {K : PySem.W.Frag} {cl : Nat → Addr} : OpD K cl (rAddAny K) fAddC := by
  intro w x y vx vy W Q ok rx ry p
  unfold fAddC at p
  split at p
  · rename_i xs ys h1 h2
    split at p
    · rename_i hz
      obtain ⟨a, vs, ev, q1, q2⟩ := deref_lst ok rx h1
      obtain ⟨b, us, eu, q3, q4⟩ := deref_lst ok ry h2
      refine .inr (.inr (.inl ⟨a, b, vs, us, ev, eu, q1, q3, by rw [← Reps.length q2, ← Reps.length q4]; exact hz, fun q hq => ?_⟩))
      have z := ok.cellNew (K := K) (u := .lst (vs ++ us)) (d := .lst (xs ++ ys)) hq ⟨vs ++ us, upd_same, Reps.mono (fun _ _ h => h) (fun i b hb => pre_get hb) _ _ (Reps.append q2 q4)⟩
      exact p ⟨upd w.H q (.lst (vs ++ us)), w.F, w.m ++ [q], w.S ++ [some (D.lst (xs ++ ys))]⟩ (.ref q) z rfl ⟨q, snoc_get ok.len.symm, rfl⟩
    · exact p.elim
  · exact p.elim
/-! ### != -/
def neIn (K : PySem.W.Frag) (C f : Addr) : Bool := match K.lookup C with
  | some ⟨.type "type", _, .cls cd, sl⟩ => (match cd.mro, sl.toList with
    | .ref D :: bm, [_, _, _, _, some (.builtin n), _] => D == C && (!cd.hasDel && (bm == [.type "object"] && (PySem.W.nsOkIn K cd.ns && (He.eqO (PySem.W.nsIn K cd.ns "__eq__") (some (some (.ref f))) && He.eqO (PySem.W.nsIn K cd.ns "__ne__") (some none)))))
    | _, _ => false)
  | _ => false
theorem obj_eq_look : ∃ y, typeLookup (.type "object") "__eq__" = pure y := ⟨some (.builtin "object.__eq__"), by rw [typeLookup_type, builtinLookup_eq_fast]; kernel_rfl⟩
theorem ns_some {K : PySem.W.Frag} {h : Heap} {N : Addr} {mg : Str → Option Value} {n : Str} {v : Value} (X : K.In h) (G : h.Ns N mg) (e : PySem.W.nsIn K N n = some (some v)) : mg n = some v := by
  obtain ⟨o, es, ep, ho, hd, _, hf⟩ := G
  unfold PySem.W.nsIn at e
  split at e
  · rename_i c d es' n' sl q
    have := X _ _ q
    rw [ho] at this
    cases this
    cases hd
    split at e
    · rename_i en he
      cases e
      rw [← hf]
      unfold nsFind findBy
      rw [← Array.find?_toList, he]
      rfl
    · split at e <;> cases e
  · cases e
theorem fn_of {K : PySem.W.Frag} {h : Heap} {f : Addr} (X : K.In h) (hf : PySem.W.isFn K (.ref f) = true) : ∃ of, h.get? f = some of ∧ of.cls = .type "function" := by
  have e : (K.lookup f).map (·.cls) = some (.type "function") := beq_iff_eq.mp hf
  obtain ⟨o, ho, hc⟩ := Option.map_eq_some_iff.mp e
  exact ⟨o, X _ _ ho, hc⟩
theorem neIn_ok {K : PySem.W.Frag} {C f x : Addr} {h : Heap} {o : Obj} (X : K.In h) (q : neIn K C f = true) (hf : PySem.W.isFn K (.ref f) = true) (hx : h.get? x = some o) (hc : o.cls = .ref C) : h.OwnEqNoNe x C f "object" [.type "object"] := by
  unfold neIn at q
  split at q
  · rename_i dd cd sl ho
    split at q
    · rename_i C' bm k0 k1 k2 k3 n k5 hm hs
      obtain ⟨h1, q⟩ := He.ba q
      obtain ⟨h2, q⟩ := He.ba q
      obtain ⟨h3, q⟩ := He.ba q
      obtain ⟨h4, q⟩ := He.ba q
      obtain ⟨h5, h6⟩ := He.ba q
      obtain ⟨nm, bs, mro, ns, qn, hd, sn, sub, ab, col, del⟩ := cd
      dsimp only at hm h2 h4 h5 h6
      have e1 : C' = C := beq_iff_eq.mp h1
      have e2 : bm = [.type "object"] := beq_iff_eq.mp h3
      have e3 : del = false := by cases del with
        | false => rfl
        | true => cases h2
      subst hm e1 e2 e3
      have hsl : sl = #[k0, k1, k2, k3, some (.builtin n), k5] := by
        obtain ⟨l⟩ := sl
        simp only at hs
        rw [hs]
      subst hsl
      obtain ⟨y, hy⟩ := obj_eq_look
      have G : h.Ns ns (h.nsMap ns) := .of_isNs (PySem.W.isNs_of_in X h4)
      obtain ⟨of, g1, g2⟩ := fn_of X hf
      exact ⟨o, of, nm, qn, ns, bs, hd, sn, sub, ab, col, dd, k0, k1, k2, k3, k5, n, _, y, hx, hc, X _ _ ho, G, ns_some X G (He.eqO_ok h5), g1, g2, F.cmp_object.mro, hy, PySem.W.nsMap_none_of_in X h4 (He.eqO_ok h6)⟩
    · cases q
  · cases q
section
variable {X : Cx} {cl : Nat → Addr} {k : Nat} {f : Addr} {fd : FuncData} {ps : List Str} {c : Nat} {h : DF}
def rOwnNe (K : PySem.W.Frag) (cl : Nat → Addr) (c : Nat) (h : DF) : R2 := fun x y H Q => ∃ a b dx dy fs gs, x = .ref a ∧ y = .ref b ∧ H a = some (.ins (cl c) dx fs) ∧ H b = some (.ins (cl c) dy gs) ∧
  spD K cl 2 h [x, y] H (fun v H' => ∃ z, v = .bl z ∧ Q (.bl !z) H') fun _ _ _ => False
theorem op_ownNe (F : FnD X cl k f fd ps h) (hr : Room (k + 1) X.A) (hu : X.A.units + 1 < cLine) (hb : Binds X.K fd ps []) (hp : ps.length = 2) (hs : neIn X.K (cl c) f = true) (hf : PySem.W.isFn X.K (.ref f) = true) :
    OpR X (compareOp .NotEq) (rOwnNe X.K cl c h) := by
  intro pins s σ H x y v u Q I rx ry d
  obtain ⟨a, b, dx, dy, fs, gs, rfl, rfl, ha, hb', hsp⟩ := d
  cases rx
  cases ry
  obtain ⟨mA, J, _⟩ := ins_get I.hok ha
  obtain ⟨mB, J', _⟩ := ins_get I.hok hb'
  obtain ⟨od, J, _⟩ := J.look
  obtain ⟨od', J', _⟩ := J'.look
  have hsp' : spD X.K cl ps.length h [.ref a, .ref b] H (fun v H' => ∃ z, v = .bl z ∧ Q (.bl !z) H') fun _ _ _ => False := by rw [hp]; exact hsp
  have hl := F.len _ _ _ _ hsp'
  have r2 : Vals [V.ref a, V.ref b] [Value.ref a, Value.ref b] := .cons rfl (.cons rfl .nil)
  refine compareOp_ne_ownEq PySem.F.cmp_object (neIn_ok I.kIn hs hf J.1 J.cls) J'.1 J'.cls hu ?_
  refine wpAny_call (codeAny_mono (F.run X.A.in1 X.stack s H ⟨[.ref a, .ref b], []⟩ [.ref a, .ref b] [.ref a, .ref b] _ _ hr.in1 I.env0.in1 (by
    have := hb s [.ref a, .ref b] I.kIn (by simpa using hl)
    simpa using this) r2 hsp') fun r s' hq => ?_)
  cases r with
  | error e => exact (passAt (W := W0) takes0 σ pins H s e s' I hq)
  | ok fl =>
    cases fl with
    | ret w =>
      obtain ⟨z, H', I', rz, bz, ez, q⟩ := I.after hq
      subst ez
      cases rz
      exact ⟨bz, rfl, .bl (!bz), H', I', rfl, q⟩
    | next => exact False.elim hq
    | brk => exact False.elim hq
    | cont => exact False.elim hq
/-- != of two of an own class; else as ever -/
def fNeO (c : Nat) (h : DF) : D → D → Sto → Out D := fun x y S => match objOf x S, objOf y S with
  | some (c1, _, _), some (c2, _, _) => if c1 = c ∧ c2 = c then (viaP h [x, y] S).calm.bind fun z S' => match z with
    | .bl b => .ok (.bl !b) S'
    | _ => .bad else .bad
  | _, _ => fEqA true x y S
theorem d_ownNe {K : PySem.W.Frag} {r : R2} (hr : OpD K cl r (fEqA true)) : OpD K cl (fun x y H Q => r x y H Q ∨ rOwnNe K cl c h x y H Q) (fNeO c h) := by
  intro w x y vx vy W Q ok rx ry p
  unfold fNeO at p
  split at p
  · rename_i c1 _ _ c2 _ _ h1 h2
    split at p
    · rename_i hc
      obtain ⟨rfl, rfl⟩ := hc
      obtain ⟨a, dx, es, ev, ea, _, _⟩ := objOf_at ok rx h1
      obtain ⟨b, dy, gs, ev', eb, _, _⟩ := objOf_at ok ry h2
      refine .inr ⟨a, b, dx, dy, es, gs, ev, ev', ea, eb, ?_⟩
      refine isP K cl w h [x, y] [vx, vy] _ _ ok ⟨vx, _, rfl, rx, vy, [], rfl, ry, rfl⟩ ?_
      refine OPost.bindTo (R' := RV K cl) p fun z w1 v a1 r1 p1 => ?_
      split at p1
      · rename_i bz
        cases (show v = .bl bz from r1)
        exact ⟨bz, rfl, p1 w1 _ a1 rfl rfl⟩
      · exact p1.elim
    · exact p.elim
  · exact .inl (hr w x y vx vy W Q ok rx ry p)
end
end Dl
set_option Elab.async false
set_option linter.all false
set_option maxRecDepth 100000
set_option maxHeartbeats 400000
/-! The data layer: a denotation reckoned step by step, where an exception comes. -/
namespace Dl
open PySem PyProof.Rows L2
section
variable {t t1 t2 : Lc} {S S1 S2 S3 : Sto} {a b : DS} {de da db : DE} {ta tb : DB} {dr : DA} {d x y z : D} {xs ys vs : List D} {n m i c : Nat} {ns : List Str}
theorem set_exc (h : de t S = .exc c ns vs S1) : dSet i de t S = .exc t c ns vs S1 := by rw [set_is, h]; rfl
theorem expr_exc (h : de t S = .exc c ns vs S1) : dExpr de t S = .exc t c ns vs S1 := by rw [expr_is, h]; rfl
theorem ret_exc (h : de t S = .exc c ns vs S1) : dRet de t S = .exc t c ns vs S1 := by rw [ret_is, h]; rfl
theorem cons_exc (h : de t S = .exc c ns vs S1) : aCons de dr t S = .exc c ns vs S1 := by rw [cons_is, h]; rfl
theorem cons_exc2 (h : de t S = .ok x S1) (hr : dr t S1 = .exc c ns vs S2) : aCons de dr t S = .exc c ns vs S2 := by rw [cons_is, h]; show (dr t S1).bind _ = _; rw [hr]; rfl
theorem call_excA {f : DF} (h : dr t S = .exc c ns vs S1) : dCall n f dr t S = .exc c ns vs S1 := by rw [call_is, h]; rfl
theorem bm_exc {T : String} {f : D → List D → Sto → Out D} (ha : da t S = .ok x S1) (ht : tyD T x S1 = true) (hr : dr t S1 = .exc c ns vs S2) : dBM T f da dr t S = .exc c ns vs S2 := by
  unfold dBM
  rw [ha]
  show (if tyD T x S1 = true then (dr t S1).bind fun xs S2 => f x xs S2 else .bad) = _
  rw [if_pos ht, hr]
  rfl
theorem for_exc {g : Tg} {di : DA} (h : di t S = .ok xs S1) (hl : dLoop g a xs t S1 = .exc t1 c ns vs S2) : dFor g di a t S = .exc t1 c ns vs S2 := by
  show Dl.ofE (di t S) t _ = _
  rw [h]
  exact hl
theorem for_rt {g : Tg} {di : DA} (h : di t S = .ok xs S1) (hl : dLoop g a xs t S1 = .rt d S2) : dFor g di a t S = .rt d S2 := by
  show Dl.ofE (di t S) t _ = _
  rw [h]
  exact hl
theorem loop_exc {g : Tg} {r : List D} (h1 : g.set x t = some t1) (h2 : a t1 S = .exc t2 c ns vs S2) : dLoop g a (x :: r) t S = .exc t2 c ns vs S2 := by
  show (match g.set x t with
    | none => SOut.bad
    | some t1 => match a t1 S with
      | .nx t2 S2 => dLoop g a r t2 S2
      | .ct t2 S2 => dLoop g a r t2 S2
      | .bk t2 S2 => .nx t2 S2
      | o => o) = _
  rw [h1]
  show (match a t1 S with
      | .nx t2 S2 => dLoop g a r t2 S2
      | .ct t2 S2 => dLoop g a r t2 S2
      | .bk t2 S2 => .nx t2 S2
      | o => o) = _
  rw [h2]
theorem loop_rt {g : Tg} {r : List D} (h1 : g.set x t = some t1) (h2 : a t1 S = .rt d S2) : dLoop g a (x :: r) t S = .rt d S2 := by
  show (match g.set x t with
    | none => SOut.bad
    | some t1 => match a t1 S with
      | .nx t2 S2 => dLoop g a r t2 S2
      | .ct t2 S2 => dLoop g a r t2 S2
      | .bk t2 S2 => .nx t2 S2
      | o => o) = _
  rw [h1]
  show (match a t1 S with
      | .nx t2 S2 => dLoop g a r t2 S2
      | .ct t2 S2 => dLoop g a r t2 S2
      | .bk t2 S2 => .nx t2 S2
      | o => o) = _
  rw [h2]
theorem while_go (hc : ta t S = .ok true S1) (hb : a t S1 = .nx t2 S2) : dWhile ta a (n + 1) t S = dWhile ta a n t2 S2 := by
  show Dl.ofE (ta t S) t _ = _
  rw [hc]
  show (match a t S1 with
    | .nx t2 S2 => dWhile ta a n t2 S2
    | .ct t2 S2 => dWhile ta a n t2 S2
    | .bk t2 S2 => .nx t2 S2
    | o => o) = _
  rw [hb]
theorem while_end (hc : ta t S = .ok false S1) : dWhile ta a (n + 1) t S = .nx t S1 := by
  show Dl.ofE (ta t S) t _ = _
  rw [hc]
  rfl
theorem while_exc (hc : ta t S = .ok true S1) (hb : a t S1 = .exc t2 c ns vs S2) : dWhile ta a (n + 1) t S = .exc t2 c ns vs S2 := by
  show Dl.ofE (ta t S) t _ = _
  rw [hc]
  show (match a t S1 with
    | .nx t2 S2 => dWhile ta a n t2 S2
    | .ct t2 S2 => dWhile ta a n t2 S2
    | .bk t2 S2 => .nx t2 S2
    | o => o) = _
  rw [hb]
theorem raise2_ok {f g : Str} {ok : D → Sto → Bool} (h : de t S = .ok x S1) (h' : da t S1 = .ok y S2) (hk : ok x S2 = true) : dRaise2 c f g ok de da t S = .exc t c [g, f] [y, x] S2 := by
  unfold dRaise2
  rw [h]
  show Dl.ofE (da t S1) t _ = _
  rw [h']
  show (if ok x S2 = true then SOut.exc t c [g, f] [y, x] S2 else .bad) = _
  rw [if_pos hk]
theorem raise1_ok {f : Str} {ok : D → Sto → Bool} (h : de t S = .ok x S1) (hk : ok x S1 = true) : dRaise1 c f ok de t S = .exc t c [f] [x] S1 := by
  unfold dRaise1
  rw [h]
  show (if ok x S1 = true then SOut.exc t c [f] [x] S1 else .bad) = _
  rw [if_pos hk]
theorem viaP_exc {f : DF} {S' : Sto} (hx : belows 0 xs = true) (e : f xs [] = .exc c ns vs S') (hr : belows 0 vs = true) : viaP f xs S = .exc c ns vs S := by
  show (if belows 0 xs = true then (match f xs [] with
    | .ok r _ => if below 0 r = true then Out.ok r S else .bad
    | .exc c ns vs _ => if belows 0 vs = true then .exc c ns vs S else .bad
    | .bad => .bad) else .bad) = _
  rw [if_pos hx, e]
  show (if belows 0 vs = true then Out.exc c ns vs S else .bad) = _
  rw [if_pos hr]
theorem viaR_exc {f : DF} {u u' : D} {S' rest : Sto} (h : below 0 u = true) (h' : below 0 u' = true) (hx : belows 0 xs = true) (hz : belows 0 vs = true) (e : f (.ptr 0 :: xs) [some u] = .exc c ns vs (some u' :: S')) :
    viaR f (.ptr 0 :: xs) (some u :: rest) = .exc c ns vs (some u' :: rest) := by
  show (if below 0 u = true ∧ belows 0 xs = true then (match f (.ptr 0 :: xs) [some u] with
      | .ok z (some c' :: _) => if below 0 z = true ∧ below 0 c' = true then Out.ok z ((some u :: rest).set 0 (some c')) else .bad
      | .exc k ns vs (some c' :: _) => if belows 0 vs = true ∧ below 0 c' = true then .exc k ns vs ((some u :: rest).set 0 (some c')) else .bad
      | _ => .bad) else .bad) = _
  rw [if_pos ⟨h, hx⟩, e]
  show (if belows 0 vs = true ∧ below 0 u' = true then Out.exc c ns vs ((some u :: rest).set 0 (some u')) else .bad) = _
  rw [if_pos ⟨hz, h'⟩]
  rfl
theorem sl_ok {dl dh : DO} {l h : Option Int} (h1 : de t S = .ok (.lst xs) S1) (h2 : dl t S1 = .ok l S2) (h3 : dh t S2 = .ok h S3) : dSl de dl dh t S = .ok (.lst (cutD xs l h)) S3 := by
  unfold dSl
  rw [h1]
  show (dl t S1).bind _ = _
  rw [h2]
  show (dh t S2).bind _ = _
  rw [h3]
  rfl
theorem slp_ok {dl dh : DO} {l h : Option Int} (h1 : de t S = .ok x S1) (h2 : dl t S1 = .ok l S2) (h3 : dh t S2 = .ok h S3) (hx : deref x S3 = .lst xs) : dSl de dl dh t S = .ok (.lst (cutD xs l h)) S3 := by
  unfold dSl
  rw [h1]
  show (dl t S1).bind _ = _
  rw [h2]
  show (dh t S2).bind _ = _
  rw [h3]
  show (match deref x S3 with
  | D.lst xs => Out.ok (D.lst (cutD xs l h)) S3
  | D.rol xs => Out.ok (D.lst (cutD xs l h)) S3
  | D.tup xs => Out.ok (D.tup (cutD xs l h)) S3
  | _ => Out.bad) = _
  rw [hx]
theorem on_ok {j : Int} (h : de t S = .ok (.int j) S1) : oSome de t S = .ok (some j) S1 := by
  unfold oSome
  rw [h]
  rfl
theorem lst_ok (h : dr t S = .ok xs S1) (hl : xs.length ≤ sizeLine) : dLst dr t S = .ok (.lst xs) S1 := by
  unfold dLst
  rw [h]
  exact if_pos hl
theorem irng2_ok {i j : Int} (h1 : da t S = .ok (.int i) S1) (h2 : db t S1 = .ok (.int j) S2) (hi : inB i) (hj : inB j) : iRng2 da db t S = .ok (intsFrom i (j - i).toNat) S2 := by
  unfold iRng2
  rw [h1]
  show (db t S1).bind _ = _
  rw [h2]
  exact if_pos ⟨hi, hj⟩
theorem if_tt (h : ta t S = .ok true S1) : dIf ta da db t S = da t S1 := by rw [dif_is, h]; rfl
theorem if_ff (h : ta t S = .ok false S1) : dIf ta da db t S = db t S1 := by rw [dif_is, h]; rfl
end
end Dl
set_option Elab.async false
set_option linter.all false
set_option maxRecDepth 100000
set_option maxHeartbeats 1000000
/-! The data layer: {**d, k: v}. -/
namespace Dl
open PySem PySem.Spec PyProof.Rows L2
section
variable {P : Program} {w : World} {A : Around} {E : Value → Shared → Prop} {s : Shared}
abbrev MK (P : Program) (w : World) := mixKind P w
theorem key_plain {k : Key} {u : Value} (h : keyIs k u = true) : ∀ a, u ≠ .ref a := by
  rcases keyIs_shape h with ⟨i, t, rfl, rfl⟩ | ⟨x, t, rfl, rfl⟩ <;> exact fun a z => nomatch z
/-- a pair is laid into a dict, without a word to anyone -/
theorem put_in {d : Addr} {tab : List (Key × Value)} {k : Key} {u v : Value} {Q : Unit → Shared → Prop} (hu : (MK P w).is k u = true) (hm : s.heap.DictOf (MK P w) d tab)
    (hQ : ∀ h2, h2.DictOf (MK P w) d (stored tab k v) → Heap.SameBut d s.heap h2 → Q () { s with heap := h2 }) (hsz : tab.length ≤ sizeLine) :
    wpAny (model P w) A (dictPut d ((MK P w).hash k) u v) Q E s := by
  obtain ⟨o, rows, ep, ho, hc, hd, hk, hp, hn⟩ := hm
  have few : rows.size ≤ sizeLine := by
    have e1 := hp.length
    have e2 : rows.toList.length = rows.size := by simp
    omega
  have same : (rows.findIdx? fun y => (MK P w).is k y.key) = tab.findIdx? fun y => decide (y.1 = k) := by
    have z := hp.findIdx k
    obtain ⟨l⟩ := rows
    simpa using z
  unfold dictPut
  refine wpAny_bind (wpAny_dictFind_of hu ho hd hk ?_)
  cases q : rows.findIdx? fun y => (MK P w).is k y.key with
  | none =>
    have out : k ∉ tab.map (·.1) := not_mem_of_findIdx_none (same ▸ q)
    have no : ¬ (tab.any fun y => decide (y.1 = k)) = true := fun z => by
      obtain ⟨y, hy, e⟩ := List.any_eq_true.mp z
      exact out (List.mem_map.mpr ⟨y, hy, of_decide_eq_true e⟩)
    have st : stored tab k v = tab ++ [(k, v)] := by rw [stored, if_neg no]
    refine wpAny_updateDictKeys (hz := few) ho hd (hQ _ ⟨_, _, ep + 1, Heap.get?_update_self _ ho (Obj.isFreed_of_dict (Obj.data_mapDictKeys hd _)), hc.mapDictKeys _, Obj.data_mapDictKeys hd _, hk.push hu _, ?_, ?_⟩ (Heap.SameBut.update ..))
    · rw [st]
      have z := hp.append hu ((MK P w).hash k) v
      obtain ⟨l⟩ := rows
      simpa using z
    · rw [st, List.map_append]
      refine List.nodup_append.mpr ⟨hn, by simp, fun a ha b hb e => ?_⟩
      have hb : b = k := by simpa using hb
      rw [← hb, ← e] at out
      exact out ha
  | some i =>
    have st : stored tab k v = tab.map fun y => if y.1 = k then (y.1, v) else y := by rw [stored, if_pos (any_of_findIdx_some (same ▸ q))]
    refine wpAny_updateDict ho hd (hQ _ ⟨_, _, ep, Heap.get?_update_self _ ho (Obj.isFreed_of_dict (Obj.data_mapDict hd _)), hc.mapDict _, Obj.data_mapDict hd _, hk.modify _ _, ?_, ?_⟩ (Heap.SameBut.update ..))
    · rw [stored, if_pos (any_of_findIdx_some (same ▸ q))]
      have l0 : (rows.toList.findIdx? fun y => (MK P w).is k y.key) = some i := by
        rw [← q]
        obtain ⟨l⟩ := rows
        simp
      have z := hp.modify hn l0 v
      obtain ⟨l⟩ := rows
      simpa using z
    · rw [stored, if_pos (any_of_findIdx_some (same ▸ q)), keys_map_store]
      exact hn
theorem merge_in {d a : Addr} {tab more : List (Key × Value)} {Q : Unit → Shared → Prop} (hda : d ≠ a) (haS : (a == sysModules) = false) (hd : s.heap.DictOf (MK P w) d tab) (ha : s.heap.DictOf (MK P w) a more)
    (hQ : ∀ h2, h2.DictOf (MK P w) d (merged tab more) → Heap.SameBut d s.heap h2 → Q () { s with heap := h2 }) (hsz : tab.length + more.length ≤ sizeLine) : wpAny (model P w) A (mergeMapping d (.ref a) false) Q E s := by
  obtain ⟨od, rd, pd, d1, d2, d3, d4, d5, d6⟩ := id hd
  obtain ⟨oa, ra, pa, a1, a2, a3, a4, a5, a6⟩ := id ha
  have hlen : more.length = ra.size := by rw [← a5.length]; simp
  unfold mergeMapping
  have look : ∀ s2 : Shared, s2.heap.get? a = some oa → ∀ Q2, Q2 ra s2 → wpAny (model P w) A (dictEntries a) Q2 E s2 := fun s2 h Q2 q => wpAny_dictEntries h a3 q
  refine wpAny_bind (wpAny_isInstance ha.typeIs isSubtype_dict_dict ?_)
  rw [if_pos rfl]
  refine wpAny_bind (wpAny_specialOf ha.typeIs PySem.F.slot_dict_iter.lookup ?_)
  refine wpAny_bind (wpAny_pure ?_)
  show wpAny _ _ (if (a == sysModules) = true then _ else _) _ _ _
  rw [if_neg (by rw [haS]; exact Bool.false_ne_true)]
  refine wpAny_bind (wpAny_dictEntries d1 d3 ?_)
  have rest : wpAny (model P w) A (do
      let l ← dictEntries a
      let ep ← dictEpoch a
      forIn (List.range l.size) PUnit.unit fun i _ => do
        let l2 ← dictEntries a
        match l2[i]? with
        | some e => do
          holding [e.key, e.val] (dictPut d e.hash e.key e.val)
          let ep2 ← dictEpoch a
          if (ep2 != ep) = true then do
            unsupported "dict.changed-during-merge"
            pure (ForInStep.yield PUnit.unit)
          else pure (ForInStep.yield PUnit.unit)
        | _ => do
          unsupported "dict.changed-during-merge"
          pure (ForInStep.yield PUnit.unit)
      pure ()) Q E s := by
    refine wpAny_bind (look s a1 _ (wpAny_bind (wpAny_dictEpoch a1 a3 (wpAny_bind ?_))))
    refine wpAny_forIn_list _ (fun l _ s2 => ∃ h2 i, s2 = { s with heap := h2 } ∧ l = List.range' i (ra.size - i) ∧ i ≤ ra.size ∧ h2.DictOf (MK P w) d (merged tab (more.take i)) ∧ h2.get? a = some oa ∧ Heap.SameBut d s.heap h2) _ ?_ ?_ _ _
      ⟨s.heap, 0, rfl, by rw [List.range_eq_range', Nat.sub_zero], Nat.zero_le _, by simpa [merged] using hd, a1, Heap.SameBut.refl _ _⟩
    · intro i l _ s2 ⟨h2, j, e, hl, hj, md, ga, sb⟩
      subst e
      have lt : j < ra.size := by
        rcases Nat.lt_or_ge j ra.size with z | z
        · exact z
        · rw [Nat.sub_eq_zero_of_le z] at hl
          cases hl
      rw [show ra.size - j = (ra.size - (j + 1)) + 1 by omega, List.range'_succ] at hl
      obtain ⟨e1, e2⟩ := List.cons.inj hl
      subst e1
      refine wpAny_bind (look { s with heap := h2 } ga _ ?_)
      rw [Array.getElem?_eq_getElem lt]
      obtain ⟨⟨k, v⟩, hk⟩ : ∃ kv, more[i]? = some kv := ⟨more[i]'(by rw [hlen]; exact lt), List.getElem?_eq_getElem _⟩
      obtain ⟨k1, k2⟩ := a5.get? (e := ra[i]) (by simp [lt]) hk
      obtain ⟨k', k3, k4⟩ := a4 ra[i] (Array.getElem_mem lt)
      obtain rfl : k' = k := (MK P w).inj _ _ _ k3 k1
      show wpAny _ _ (holding [ra[i].key, ra[i].val] (dictPut d ra[i].hash ra[i].key ra[i].val) >>= _) _ _ _
      rw [k4, k2]
      have room : (merged tab (more.take i)).length ≤ sizeLine := by
        have z1 := merged_length_le tab (more.take i)
        have z2 : (more.take i).length ≤ more.length := by rw [List.length_take]; omega
        omega
      refine wpAny_bind (wpAny_holding (put_in k1 md (fun h3 md3 sb3 => ?_) room))
      have ga3 : h3.get? a = some oa := (sb3.2 a hda.symm).trans ga
      refine wpAny_bind (wpAny_dictEpoch ga3 a3 ?_)
      rw [if_neg (by simp)]
      exact wpAny_pure ⟨h3, i + 1, rfl, e2, lt, by rw [merged_take_succ tab more i (k', v) hk]; exact md3, ga3, sb.trans sb3⟩
    · intro _ s2 ⟨h2, j, e, hl, hj, md, ga, sb⟩
      subst e
      have full : j = ra.size := by
        rcases Nat.lt_or_ge j ra.size with z | z
        · rw [show ra.size - j = (ra.size - (j + 1)) + 1 by omega, List.range'_succ] at hl
          cases hl
        · omega
      rw [full, ← hlen, List.take_length] at md
      exact wpAny_pure (hQ h2 md sb)
  have plain : forIn ra PUnit.unit (fun (e : DictEntry) (_ : PUnit) => (match e.key with
      | .ref x => do
        let z ← specialOf e.key "__eq__"
        if (z != some (Value.builtin "object.__eq__")) = true then
          if (Array.filter (fun y => y.hash == e.hash) ra).size > 1 then do
            unsupported "dict.merge-into-an-empty-dict:keys-of-equal-hash"
            pure (ForInStep.yield PUnit.unit)
          else pure (ForInStep.yield PUnit.unit)
        else pure (ForInStep.yield PUnit.unit)
      | _ => pure (ForInStep.yield PUnit.unit) : Sem (ForInStep PUnit))) = pure PUnit.unit := by
    rw [← Array.forIn_toList]
    have out : ∀ e ∈ ra.toList, ∀ x, e.key ≠ .ref x := fun e he x => by
      obtain ⟨k, k1, _⟩ := a4 e (by simpa using he)
      exact key_plain k1 x
    clear rest
    generalize ra.toList = l at out
    induction l with
    | nil => rfl
    | cons e l ih =>
      rw [List.forIn_cons]
      have z := out e List.mem_cons_self
      have i := ih fun y hy => out y (List.mem_cons_of_mem _ hy)
      cases q : e.key with
      | ref x => exact absurd q (z x)
      | _ => exact i
  show wpAny _ _ (if rd.isEmpty = true then _ else _) _ _ _
  by_cases h0 : rd.isEmpty = true
  · rw [if_pos h0]
    refine wpAny_bind ?_
    refine look s a1 _ ?_
    refine wpAny_bind ?_
    exact wpAny_of_eq plain rest
  · rw [if_neg h0]
    exact rest
end
end Dl
set_option Elab.async false
set_option linter.all false
set_option maxRecDepth 100000
set_option maxHeartbeats 1000000
/-! The data layer: {**d, k: v}, the rule. -/
namespace Dl
open PySem PySem.Spec PyProof.Rows L2
section
variable {P : Program} {w : World} {A : Around} {E : Value → Shared → Prop} {s : Shared}
abbrev NoE : Value → Shared → Prop := fun _ _ => False
theorem star_two {m0 tk m1 : Sem Value} {Q : Value → Shared → Prop}
    (h : wpAny (model P w) A m0 (fun m s1 => wpAny (model P w) A (mergeMapping s.heap.objs.size m false) (fun _ s2 => wpAny (model P w) A (subDict [(tk, m1)]) (fun q s3 => wpAny (model P w) A (mergeMapping s.heap.objs.size (.ref q) false) (fun _ s4 => Q (.ref s.heap.objs.size) s4) NoE s3) E s2) NoE s1) E { s with heap := s.heap.push { cls := .type "dict", data := .dict #[] } }) :
    wpAny (model P w) A (dictDisplay [(none, m0), (some tk, m1)]) Q E s := by
  unfold dictDisplay
  dsimp only
  simp only [List.forIn_cons, List.forIn_nil, List.isEmpty_nil, if_true, pure_bind]
  refine wpAny_bind (wpAny_bind (wpAny_bind (wpAny_alloc ?_)))
  refine wpAny_bind (wpAny_holding (wpAny_mono h (fun m s1 h1 => ?_) fun _ _ z => z))
  refine wpAny_bind (wpAny_onRaise (wpAny_tryCatch (wpAny_onRaise (wpAny_holding (wpAny_mono h1 (fun _ s2 h2 => ?_) fun _ _ z => z.elim)))))
  refine wpAny_pure ?_
  dsimp only
  refine wpAny_bind ?_
  rw [if_neg (by exact Bool.false_ne_true)]
  refine wpAny_pure ?_
  dsimp only
  refine wpAny_pure ?_
  refine wpAny_bind ?_
  rw [if_neg (by exact Bool.false_ne_true)]
  dsimp only
  refine wpAny_bind (wpAny_holding (wpAny_mono h2 (fun q s3 h3 => ?_) fun _ _ z => z))
  refine wpAny_bind (wpAny_onRaise (wpAny_holding (wpAny_mono h3 (fun _ s4 h4 => ?_) fun _ _ z => z.elim)))
  exact wpAny_pure (wpAny_pure h4)
end
/-- {**e, k: v}: p the new dict, q the one of the pair -/
def tStar (te tk tv : TE) : TE := fun σ H Q => ∀ p, H p = none → te σ (upd H p (.dK [])) fun x H1 => H1 p = some (.dK []) ∧ ∃ (a : Addr) (kvs : List (Key × V)), x = .ref a ∧ p ≠ a ∧ Rd H1 a (.dK kvs) ∧ kvs.length < 900 ∧
  ∀ q, upd H1 p (.dK (mergeK [] kvs)) q = none → tk σ (upd (upd H1 p (.dK (mergeK [] kvs))) q (.dK [])) fun k H2 => tv σ H2 fun v H3 => H3 p = some (.dK (mergeK [] kvs)) ∧ H3 q = some (.dK []) ∧ p ≠ q ∧
    ∃ key : Key, k = kV key ∧ Q (.ref p) (upd (upd H3 q (.dK [(key, v)])) p (.dK (putK (mergeK [] kvs) key v)))
section
variable {X : Cx} {e k v : Expr} {te tk tv : TE} {pos : Pos}
theorem pe_star (he : PE X e te) (hk : PE X k tk) (hv : PE X v tv) : PE X (.Dict [none, some k] [e, v] pos) (tStar te tk tv) := by
  refine ⟨fun pins s σ H Q I h => ?_⟩
  have room : 1000 ≤ sizeLine := by decide
  have hn := I.hok.fresh (Nat.le_refl s.heap.objs.size)
  have I1 := I.laid (a := s.heap.objs.size) (o := .dK []) (h' := s.heap.push { cls := .type "dict", data := .dict #[] }) (t' := s.toks) (fun _ _ q => Heap.get?_push_of_some _ q) (Nat.le_refl _) (dk_empty s.heap I.big)
  rw [arm_eval_Dict]
  refine wpAny_bind (wpAny_standAt ?_)
  show wpAny _ _ (dictDisplay [(none, do let x ← eval e X.env; standAt pos; pure x), (some (eval k X.env), do let x ← eval v X.env; standAt pos; pure x)]) _ _ _
  refine star_two ?_
  refine wpAny_bind (thn (he.run pins _ σ _ _ I1 (h _ hn)) fun u s2 ⟨x, H1, I2, rx, hp, a, kvs, ex, ne, rd, z, cont⟩ => ?_)
  refine wpAny_bind (wpAny_standAt (wpAny_pure ?_))
  subst ex
  cases (show u = Value.ref a from rx)
  obtain ⟨z0, pS, vs0, r0, dd0⟩ := dk_of I2.hok hp
  cases r0
  obtain ⟨z1, aS, vs1, r1, dd1⟩ := dk_rd I2.hok rd
  have l1 : vs1.length = kvs.length := r1.length.symm
  refine merge_in ne aS dd0 dd1 (fun h2 md sb => ?_) (by simp; omega)
  have km : KV (mergeK [] kvs) (merged [] vs1) := r1.merge .nil
  have lm : (mergeK [] kvs).length ≤ kvs.length := by
    have := length_mergeK kvs []
    simpa using this
  have there : ∀ {g : Heap} {d : Addr} {t : List (Key × Value)}, g.DictOf (mixKind X.prog X.w) d t → ∃ o, g.get? d = some o := fun dd => let ⟨o, _, _, ho, _⟩ := dd; ⟨o, ho⟩
  have I3 := d_write (t' := s2.toks) I2 (by rw [hp]; exact True.intro) sb (there md) (dk_new (H' := upd H1 s.heap.objs.size (.dK (mergeK [] kvs))) (by omega) pS km md)
  have hq := I3.hok.fresh (Nat.le_refl h2.objs.size)
  have I4 := I3.laid (a := h2.objs.size) (o := .dK []) (h' := h2.push { cls := .type "dict", data := .dict #[] }) (t' := s2.toks) (fun _ _ q => Heap.get?_push_of_some _ q) (Nat.le_refl _) (dk_empty h2 I3.big)
  refine wpAny_subDict (knd := mixKind X.prog X.w) (show 1 ≤ 15 by decide) ?_
  have run := (pps_cons (pos := pos) hk hv pps_nil).run pins _ σ _ (fun ps H3 => match ps with
    | [(k, v)] => H3 s.heap.objs.size = some (.dK (mergeK [] kvs)) ∧ H3 h2.objs.size = some (.dK []) ∧ s.heap.objs.size ≠ h2.objs.size ∧
      ∃ key : Key, k = kV key ∧ Q (.ref s.heap.objs.size) (upd (upd H3 h2.objs.size (.dK [(key, v)])) s.heap.objs.size (.dK (putK (mergeK [] kvs) key v)))
    | _ => False) I4 (cont _ hq)
  refine thn run fun ws s3 ⟨ps, H3, I5, rel, q3⟩ => ?_
  match ps, rel, q3 with
  | [(k', v')], rel, ⟨hp3, hq3, ne3, key, ek, q3⟩ =>
    subst ek
    obtain ⟨rs, car, rk⟩ := carries_of (P := X.prog) (w := X.w) (kvs := [(key, v')]) rel
    obtain ⟨y0, qS, ws0, t0, ee0⟩ := dk_of I5.hok hq3
    cases t0
    refine ⟨rs, car, ee0, fun h4 md4 sb4 => ?_⟩
    have I6 := d_write (t' := s3.toks + ws.length) I5 (by rw [hq3]; exact True.intro) sb4 (there md4) (dk_new (H' := upd H3 h2.objs.size (.dK (mergeK [] [(key, v')]))) (show 1 ≤ sizeLine by decide) qS (rk.merge .nil) md4)
    have hp6 : upd H3 h2.objs.size (.dK (mergeK [] [(key, v')])) s.heap.objs.size = some (.dK (mergeK [] kvs)) := by rw [upd_ne ne3]; exact hp3
    obtain ⟨y1, pS1, ws1, t1, ee1⟩ := dk_of I6.hok hp6
    have l2 : ws1.length = (mergeK [] kvs).length := t1.length.symm
    have l3 : (merged [] rs).length ≤ 1 := by
      have := (rk.merge (kvs := []) .nil).length
      rw [← this]
      exact (show 1 ≤ 1 by decide)
    refine merge_in ne3 qS ee1 md4 (fun h5 md5 sb5 => ?_) (by omega)
    have km5 : KV (mergeK (mergeK [] kvs) (mergeK [] [(key, v')])) (merged ws1 (merged [] rs)) := (rk.merge .nil).merge t1
    have lm5 := length_mergeK (mergeK [] [(key, v')]) (mergeK [] kvs)
    have l4 : (mergeK [] [(key, v')]).length ≤ 1 := (show 1 ≤ 1 by decide)
    exact ⟨.ref s.heap.objs.size, _, d_write (t' := s3.toks + ws.length) I6 (by rw [hp6]; exact True.intro) sb5 (there md5) (dk_new (H' := upd (upd H3 h2.objs.size (.dK (mergeK [] [(key, v')]))) s.heap.objs.size (.dK (putK (mergeK [] kvs) key v'))) (show (putK (mergeK [] kvs) key v').length ≤ sizeLine from by have := length_putK (mergeK [] kvs) key v'; omega) pS1 km5 md5), rfl, q3⟩
end
end Dl
set_option Elab.async false
set_option linter.all false
set_option maxRecDepth 100000
set_option maxHeartbeats 1000000
/-! The data layer: {**d, k: v}, on data. -/
namespace Dl
open PySem PySem.Spec PyProof.Rows L2
def dStar (de dk dv : DE) : DE := fun t S => (de t S).bind fun x S1 => match deref x S1 with
  | .dic ks vs => (match dicMerge ks vs ([], []) with
    | some b => if ks.length < 900 then (dk t S1).bind fun k S2 => (dv t S2).bind fun v S3 => (match keyD k with
        | some q => .ok (.dic (dicPut b.1 b.2 q k v).1 (dicPut b.1 b.2 q k v).2) S3
        | none => .bad) else .bad
    | none => .bad)
  | _ => .bad
theorem pairs_inj : ∀ {a b : List (Key × V)}, a.map (fun e => (kV e.1, e.2)) = b.map (fun e => (kV e.1, e.2)) → a = b
  | [], [], _ => rfl
  | [], _ :: _, h => by cases h
  | _ :: _, [], h => by cases h
  | x :: a, y :: b, h => by
    obtain ⟨h1, h2⟩ := List.cons.inj h
    obtain ⟨h3, h4⟩ := Prod.mk.inj h1
    obtain ⟨x1, x2⟩ := x
    obtain ⟨y1, y2⟩ := y
    have e : x1 = y1 := by
      cases x1 <;> cases y1 <;> first | (cases h3; rfl) | cases h3
    rw [pairs_inj h2, e, show x2 = y2 from h4]
theorem dic_seen {K : PySem.W.Frag} {cl : Nat → Addr} {w : Wd} {x : D} {a : Addr} {ks vs : List D} (r : RV K cl w x (.ref a)) (h : deref x w.S = .dic ks vs) : w.F a ≠ none ∨ Live w a := by
  unfold deref at h
  split at h
  · rename_i i
    split at h
    · rename_i c hc
      obtain ⟨b, h1, h2⟩ := r
      cases h2
      exact .inr ⟨i, c, h1, hc⟩
    · cases h
  · subst h
    obtain ⟨b, xs, ys, e, ⟨od, es, hF, _⟩, _⟩ := r
    cases e
    exact .inl (by rw [hF]; simp)
section
variable {X : Cx} {cl : Nat → Addr} {W : WX} {e k v : Expr} {de dk dv : DE} {pos : Pos}
theorem u_star (he : UE X cl W e de) (hk : UE X cl W k dk) (hv : UE X cl W v dv) : UE X cl W (.Dict [none, some k] [e, v] pos) (dStar de dk dv) :=
  weakE (pe_mayLock (pe_star he hk hv)) fun σ H Q ⟨w, t, eH, ok, en, p⟩ => fun P hP => by
    subst eH
    have g : Blind X.K cl w _ P (.dK []) := .new ok hP
    refine ⟨_, t, rfl, g.af.ok, en.af g.af, OPost.bindB g.af p fun x w2 v2 a2 r2 p2 => ?_⟩
    have g2 := g.step a2
    refine ⟨g2.at_, ?_⟩
    split at p2
    · rename_i ks vs hx
      split at p2
      · rename_i b hb
        split at p2
        · rename_i hl
          obtain ⟨a, es, ev, h1, rk, rv⟩ := deref_dic a2.ok r2 hx
          subst ev
          have ne : P ≠ a := fun z => by
            subst z
            rcases dic_seen r2 hx with q | q
            · exact q g2.nf
            · exact g2.nl q
          have le : es.length = ks.length := by rw [Reps.length rk, List.length_map]
          obtain ⟨kvs, e1, e2, e3⟩ := merge_rep (ps := es.map fun e => (kV e.1, e.2)) (es := []) (by rw [List.map_map]; exact rk) (by rw [List.map_map]; exact rv) (show Reps _ _ _ _ [] [] from rfl) (show Reps _ _ _ _ [] [] from rfl) hb
          obtain rfl := pairs_inj e1
          refine ⟨a, es, rfl, ne, h1, by omega, fun q hq => ?_⟩
          have g3 := g2.write (.dK (mergeK [] es))
          have g4 : Blind X.K cl _ _ q (.dK []) := .new g3.af.ok hq
          refine ⟨_, t, rfl, g4.af.ok, (en.af g3.af).af g4.af, OPost.bindB (g3.af.trans g4.af) p2 fun y w5 vk a5 r5 p5 => ?_⟩
          refine ⟨w5, t, rfl, a5.ok, ((en.af g3.af).af g4.af).af a5, OPost.bindB ((g3.af.trans g4.af).trans a5) p5 fun z w6 vv a6 r6 p6 => ?_⟩
          have y36 := (g4.af.trans a5).trans a6
          have g3' := g3.step y36
          have g4' := g4.step (a5.trans a6)
          have nPq : P ≠ q := fun c => by
            subst c
            rw [show upd w2.H P (.dK (mergeK [] es)) P = some (.dK (mergeK [] es)) from upd_same] at hq
            cases hq
          refine ⟨g3'.at_, g4'.at_, nPq, ?_⟩
          split at p6
          · rename_i q0 hk0
            have ek := keyD_rep (Rep.af a6 r5) hk0
            refine ⟨q0, ek, .inr ⟨P, _, rfl, upd_same, True.intro, fun od => ?_⟩⟩
            have g7 := g3.step (g4'.write (.dK [(q0, vv)])).af
            have g8 := g7.write (.dK (putK (mergeK [] es) q0 vv))
            obtain ⟨z1, z2⟩ := dicPut_rep (q := q0) (kd := y) (d := z) (v := vv) (by rw [← ek]; exact Rep.af a6 r5) r6 (Reps.af y36 e2) (Reps.af y36 e3)
            obtain ⟨w9, f1, f2, a9, r9⟩ := g8.dic (ks := (dicPut b.1 b.2 q0 y z).1) (vs := (dicPut b.1 b.2 q0 y z).2) z1 z2 od
            have fin := p6 w9 (.ref P) a9 f2 r9
            rw [f1] at fin
            exact fin
          · exact p6.elim
        · exact p2.elim
      · exact p2.elim
    · exact p2.elim
end
end Dl
set_option Elab.async false
set_option linter.all false
set_option maxRecDepth 100000
set_option maxHeartbeats 1000000
/-! The data layer: dict(d) that is still to change, d.pop, d.clear, list(d.items()), a property's def in any mode. -/
namespace Dl
open PySem PySem.Spec PyProof.Rows L2
section
variable {X : Cx} {cl : Nat → Addr} {W : WX} {e o : Expr} {p apos cpos pos : Pos}
/-- an expression that is not reached -/
def dNone : DE := fun _ _ => .bad
theorem u_none : UE X cl W e dNone := weakE (te := fun _ _ _ => False) ⟨fun _ _ _ _ _ _ h => h.elim⟩ fun σ H Q ⟨w, t, eH, ok, en, q⟩ => (q : False).elim
def dDictC (da : DA) : DE := fun t S => (da t S).bind fun xs S1 => match xs with
  | [x] => (match deref x S1 with
    | .dic ks vs => .ok (.ptr S1.length) (S1 ++ [some (.dic ks vs)])
    | _ => .bad)
  | _ => .bad
theorem u_dictC {da : DA} {es : List Expr} {x : Str} (hg : Gl X x) (hm : X.mg x = none) (hv : bootBuiltins x = some (.type "dict")) (ha : UA X cl W (e :: es) da) (hn : x ≠ "__name__" := by decide) (hdb : (x == ("__debug__" : Str)) = false := by decide)
    (he : starEach (e :: es) X.env = (false, eval e X.env) :: starEach es X.env := by rfl) (hpl : (backTo pos (starEach es X.env)).any (·.1) = false := by rfl) : UE X cl W (.Call (.Name x p) (e :: es) [] pos) (dDictC da) :=
  weakE (pe_callTy call_dictD hg hm hv ha hn hdb he hpl) fun σ H Q ⟨w, t, eH, ok, en, q⟩ => by
    refine ⟨w, t, eH, ok, en, OPost.bind q fun xs w1 vs a1 r1 p1 => ?_⟩
    split at p1
    · rename_i x
      obtain ⟨v, ev0, r2⟩ := RL.one r1
      subst ev0
      split at p1
      · rename_i ks vs hx
        obtain ⟨a, kvs, ev, h1, h2, h3⟩ := deref_dic a1.ok r2 hx
        subst ev
        refine ⟨a, kvs, rfl, h1, fun q hq => ?_⟩
        have z := a1.ok.cellNew (K := X.K) (u := .dK kvs) (d := .dic ks vs) hq ⟨kvs, upd_same, Reps.mono (fun _ _ h => h) (fun i b hb => pre_get hb) _ _ h2, Reps.mono (fun _ _ h => h) (fun i b hb => pre_get hb) _ _ h3⟩
        exact p1 ⟨upd w1.H q (.dK kvs), w1.F, w1.m ++ [q], w1.S ++ [some (.dic ks vs)]⟩ (.ref q) z rfl ⟨q, snoc_get a1.ok.len.symm, rfl⟩
      · exact p1.elim
    · exact p1.elim
/-! ### pop -/
def rPop1 : V → List V → Hp → VK → Prop := fun x vs H Q => ∃ (a : Addr) (kvs : List (Key × V)) (k : Key) (v : V), x = .ref a ∧ vs = [kV k] ∧ H a = some (.dK kvs) ∧ valV kvs k = some v ∧ Q v (upd H a (.dK (dropK kvs k)))
theorem mt_pop1 : MtR X "dict.pop" rPop1 := by
  intro pins s σ H x vs v us Q I rx rv h
  obtain ⟨a, kvs, k, z, rfl, rfl, hd, hl, q⟩ := h
  cases rx
  cases rv with
  | cons r1 r2 =>
    cases r2
    exact d_pop I hd r1 hl (.inl rfl) fun w' s' I' rw' => ⟨z, _, I', rw', q⟩
def mPopD : D → List D → Sto → Out D := fun x xs S => match x, xs with
  | .ptr i, [k] => (match S[i]?, keyD k with
    | some (some (.dic ks vs)), some q => (match dicGet ks vs q with
      | some d => .ok d (S.set i (some (.dic (dicDrop ks vs q).1 (dicDrop ks vs q).2)))
      | none => .bad)
    | _, _ => .bad)
  | _, _ => .bad
theorem m_popD {K : PySem.W.Frag} : MtD K cl rPop1 mPopD := by
  intro w x xs v vs W Q ok rx rs q
  unfold mPopD at q
  split at q
  · rename_i i k
    split at q
    · rename_i ks ds kk hi hk
      split at q
      · rename_i d hd
        obtain ⟨u, rfl, r1⟩ := RL.one rs
        obtain ⟨a, ea, ev⟩ := rx
        obtain ⟨_, es, c1, c2, c3⟩ := ok.cell i a _ ea hi
        have g := dicGet_rep (q := kk) c2 c3
        rw [hd] at g
        obtain ⟨y, g1, g2⟩ := g
        obtain ⟨d1, d2⟩ := dicDrop_rep (q := kk) c2 c3
        have ek := keyD_rep r1 hk
        refine ⟨a, es, kk, y, ev, by rw [ek], c1, g1, ?_⟩
        have st := ok.cellSet (u := .dK (dropK es kk)) (d := .dic (dicDrop ks ds kk).1 (dicDrop ks ds kk).2) ea hi ⟨_, upd_same, d1, d2⟩
        exact q ⟨upd w.H a (.dK (dropK es kk)), w.F, w.m, _⟩ y st rfl g2
      · exact q.elim
    · exact q.elim
  · exact q.elim
def mClear : D → List D → Sto → Out D := fun x xs S => match x, xs with
  | .ptr i, [] => (match S[i]? with
    | some (some (.dic _ _)) => .ok .non (S.set i (some (.dic [] [])))
    | _ => .bad)
  | _, _ => .bad
theorem m_clear {K : PySem.W.Frag} : MtD K cl rDClear mClear := by
  intro w x xs v vs W Q ok rx rs q
  unfold mClear at q
  split at q
  · rename_i i
    split at q
    · rename_i ks ds hi
      obtain ⟨a, ea, ev⟩ := rx
      obtain ⟨_, es, c1, c2, c3⟩ := ok.cell i a _ ea hi
      refine ⟨a, es, ev, rs, c1, ?_⟩
      have st := ok.cellSet (u := .dK []) (d := .dic [] []) ea hi ⟨[], upd_same, rfl, rfl⟩
      exact q ⟨upd w.H a (.dK []), w.F, w.m, _⟩ .non st rfl rfl
    · exact q.elim
  · exact q.elim
end
end Dl
set_option Elab.async false
set_option linter.all false
set_option maxRecDepth 100000
set_option maxHeartbeats 1000000
/-! The data layer: list(d.items()) of any dict; a property in any mode. -/
namespace Dl
open PySem PySem.Spec PyProof.Rows L2
theorem Af.more {K : PySem.W.Frag} {cl : Nat → Addr} {w : Wd} (ok : w.Ok K cl) {H1 : Hp} (ext : ∀ b o, w.H b = some o → H1 b = some o) (N : Addr → Bool) (hN : ∀ b, N b = true → w.H b = none) : Af K cl w ⟨H1, fun b => if N b = true then H1 b else w.F b, w.m, w.S⟩ := by
  have old : ∀ b o, w.F b = some o → (if N b = true then H1 b else w.F b) = some o := fun b o h => by
    by_cases z : N b = true
    · have q := ok.sub b o h
      rw [hN b z] at q
      cases q
    · rw [if_neg z]; exact h
  refine ⟨⟨ok.len, fun b o h => ?_, fun i b d h1 h2 => ?_, ok.inj⟩, old, fun _ _ h => h, fun b o h _ => ext b o h, fun b o h => ?_, fun b h => .inl h⟩
  · have h : (if N b = true then H1 b else w.F b) = some o := h
    by_cases z : N b = true
    · rw [if_pos z] at h; exact h
    · rw [if_neg z] at h; exact ext b o (ok.sub b o h)
  · obtain ⟨c1, c2⟩ := ok.cell i b d h1 h2
    obtain ⟨x, hx⟩ := c2.there
    have z : ¬ N b = true := fun z => by rw [hN b z] at hx; cases hx
    exact ⟨by show (if N b = true then H1 b else w.F b) = none; rw [if_neg z]; exact c1, c2.of ((ext b x hx).trans hx.symm) old fun _ _ h => h⟩
  · have h : (if N b = true then H1 b else w.F b) = some o := h
    by_cases z : N b = true
    · exact .inr (.inl (hN b z))
    · rw [if_neg z] at h; exact .inl h
section
variable {X : Cx} {e : Expr} {te : TE} {p apos cpos pos : Pos}
/-- what list(d.items()) comes to -/
def tLItems (te : TE) : TE := fun σ H Q => te σ H fun x H1 => ∃ (d : Addr) (kvs : List (Key × V)), x = .ref d ∧ Rd H1 d (.dK kvs) ∧
  ∀ (H2 : Hp) (l : Addr) (ts : List Addr), (∀ b o, H1 b = some o → H2 b = some o) → H1 l = none → (∀ t ∈ ts, H1 t = none) → l ∉ ts → H2 l = some (.lst (ts.map V.ref)) → Paired (fun (t : Addr) (q : Key × V) => H2 t = some (.tup [kV q.1, q.2])) ts kvs → Q (.ref l) H2
theorem pe_lItems (calm : X.calm = true) (he : PE X e te) (hg : Gl X "list") (hm : X.mg "list" = none) (hv : bootBuiltins "list" = some (.type "list")) (hbase : attributeBase e "items" X.env (eval e X.env) = eval e X.env := by rfl) (hline : (apos.endLine == cpos.line) = true := by rfl)
    (hs : starEach [.Call (.Attribute e "items" apos) [] [] cpos] X.env = (false, eval (.Call (.Attribute e "items" apos) [] [] cpos) X.env) :: starEach [] X.env := by rfl) : PE X (.Call (.Name "list" p) [.Call (.Attribute e "items" apos) [] [] cpos] [] pos) (tLItems te) := by
  refine ⟨fun pins s σ H Q I todo => wpAny_Call_Name_kw (ld_blt I hg hm hv (PyProof.Rows.callWith_type1 ?_ hs rfl))⟩
  rw [hs]
  refine Calls.spliced_cons (wpAny_Call_method (T := "dict") (id := "dict.items") hbase rfl hline PySem.F.plainAttrs_dict PySem.F.slot_dict_items PySem.F.type_dict_items (thn (he.run pins s σ H _ I todo) fun u s1 ⟨x, H1, I1, rx, d, kvs, ex, rd, q⟩ => ?_))
  subst ex
  cases (show u = Value.ref d from rx)
  obtain ⟨few, dS, tab, kv, dict⟩ := dk_rd I1.hok rd
  obtain ⟨ep, hat⟩ := dict.dictAt
  have same : kvs.length = tab.length := Paired.length kv
  have I2 := I1.kept (t' := s1.toks) (h' := s1.heap.push { cls := .type "dict_items", data := .fields #[.ref d] }) fun b ob z => Heap.get?_push_of_some _ z
  refine ⟨dict.typeIs, dict.mapOf.noDict, method_meetsIn PySem.F.slot_dict_items PySem.F.entry_dict_items rfl (PySem.evalArgs_none ⟨rfl, dict.typeIs, PySem.F.args_dict_items_1 _, _, meets_dict_items (mixKind X.prog X.w) d dS, ⟨tab, dict⟩, Calls.spliced_nil ?_⟩)⟩
  refine PySem.W.kdx_call (knd := mixKind X.prog X.w) (kvs := tab) (ep := ep) (I1.ok.hd calm) ⟨_, Heap.get?_push_size _ rfl, rfl, rfl⟩ (hat.push _) (by omega) fun h2 tk acc c as a1 a2 a3 a4 a5 => ?_
  obtain ⟨H2, b1, b2, b3, b4, b5, b6, J⟩ := LiI.items_laid (tk := tk) I2 few kv a1 a2 a3 a4 a5
  exact ⟨V.ref _, H2, J, rfl, q H2 _ as b1 b2 b3 b4 b5 b6⟩
end
theorem reps_pairs {K : PySem.W.Frag} {cl : Nat → Addr} {F : Hp} {m : List Addr} : ∀ {ts : List Addr} {es : List (Key × V)} {ks vs : List D}, Paired (fun (t : Addr) (q : Key × V) => F t = some (.tup [kV q.1, q.2])) ts es → Reps K cl F m ks (es.map fun e => kV e.1) → Reps K cl F m vs (es.map (·.2)) → Reps K cl F m (pairsD ks vs) (ts.map V.ref)
  | _, _, ks, vs, .nil, rk, rv => by
    cases ks with
    | nil =>
      cases vs with
      | nil => exact rfl
      | cons _ _ => obtain ⟨_, _, h, _⟩ := rv; cases h
    | cons _ _ => obtain ⟨_, _, h, _⟩ := rk; cases h
  | _, _, ks, vs, .cons h r, rk, rv => by
    cases ks with
    | nil => exact absurd (show _ = [] from rk) (by simp)
    | cons k ks =>
      cases vs with
      | nil => exact absurd (show _ = [] from rv) (by simp)
      | cons v vs =>
        obtain ⟨k', kr, h1, h2, h3⟩ := rk
        obtain ⟨v', vr, g1, g2, g3⟩ := rv
        simp only [List.map_cons, List.cons.injEq] at h1 g1
        obtain ⟨h1a, h1b⟩ := h1
        obtain ⟨g1a, g1b⟩ := g1
        subst h1a h1b g1a g1b
        exact ⟨_, _, rfl, ⟨_, _, rfl, .inl h, _, _, rfl, h2, _, _, rfl, g2, rfl⟩, reps_pairs r h3 g3⟩
section
variable {X : Cx} {cl : Nat → Addr} {W : WX} {e : Expr} {p apos cpos pos : Pos} {de : DE}
def dLItems (de : DE) : DE := fun t S => (de t S).bind fun x S1 => match deref x S1 with
  | .dic ks vs => .ok (.lst (pairsD ks vs)) S1
  | _ => .bad
theorem u_lItems (calm : X.calm = true) (he : UE X cl W e de) (hg : Gl X "list") (hm : X.mg "list" = none) (hv : bootBuiltins "list" = some (.type "list") := by decide +kernel) (hbase : attributeBase e "items" X.env (eval e X.env) = eval e X.env := by rfl) (hline : (apos.endLine == cpos.line) = true := by rfl)
    (hs : starEach [.Call (.Attribute e "items" apos) [] [] cpos] X.env = (false, eval (.Call (.Attribute e "items" apos) [] [] cpos) X.env) :: starEach [] X.env := by rfl) : UE X cl W (.Call (.Name "list" p) [.Call (.Attribute e "items" apos) [] [] cpos] [] pos) (dLItems de) :=
  weakE (pe_lItems calm he hg hm hv hbase hline hs) fun σ H Q ⟨w, t, eH, ok, en, q⟩ => by
    refine ⟨w, t, eH, ok, en, OPost.bind q fun x w1 v a1 r1 p1 => ?_⟩
    split at p1
    · rename_i ks vs hx
      obtain ⟨a, es, ev, h1, rk, rv⟩ := deref_dic a1.ok r1 hx
      subst ev
      refine ⟨a, es, rfl, h1, fun H2 l ts x1 x2 x3 x4 x5 x6 => ?_⟩
      have y := Af.more a1.ok x1 (fun b => decide (b = l ∨ b ∈ ts)) fun b hb => by
        rcases of_decide_eq_true hb with z | z
        · rw [z]; exact x2
        · exact x3 b z
      have fl : (fun b => if decide (b = l ∨ b ∈ ts) = true then H2 b else w1.F b) l = some (.lst (ts.map V.ref)) := by
        show (if decide (l = l ∨ l ∈ ts) = true then H2 l else w1.F l) = _
        rw [if_pos (by simp)]
        exact x5
      have ft : Paired (fun (t : Addr) (q : Key × V) => (fun b => if decide (b = l ∨ b ∈ ts) = true then H2 b else w1.F b) t = some (.tup [kV q.1, q.2])) ts es := by
        have gen : ∀ {us : List Addr} {fs : List (Key × V)}, (∀ t ∈ us, t ∈ ts) → Paired (fun (t : Addr) (q : Key × V) => H2 t = some (.tup [kV q.1, q.2])) us fs → Paired (fun (t : Addr) (q : Key × V) => (fun b => if decide (b = l ∨ b ∈ ts) = true then H2 b else w1.F b) t = some (.tup [kV q.1, q.2])) us fs := by
          intro us fs hu pd
          induction pd with
          | nil => exact .nil
          | @cons t q us fs h r ih =>
            refine .cons ?_ (ih fun z hz => hu z (List.mem_cons_of_mem _ hz))
            show (if decide (t = l ∨ t ∈ ts) = true then H2 t else w1.F t) = _
            rw [if_pos (decide_eq_true (.inr (hu t List.mem_cons_self)))]
            exact h
        exact gen (fun _ h => h) x6
      exact p1 ⟨H2, fun b => if decide (b = l ∨ b ∈ ts) = true then H2 b else w1.F b, w1.m, w1.S⟩ (.ref l) y rfl ⟨l, _, rfl, fl, reps_pairs ft (Reps.af y rk) (Reps.af y rv)⟩
    · exact p1.elim
/-! ### a property, in any mode -/
variable {k c : Nat} {g pa : Addr} {fd : FuncData} {ps : List Str} {h : DF} {G : DF → DF} {dx : DE} {fn : Str}
def dPropV (c : Nat) (h : DF) (dx : DE) : DE := fun t S => (dx t S).bind fun x S1 => match objOf x S1 with
  | some (d, _, _) => if d = c then (h [x] S1).calm else .bad
  | none => .bad
theorem u_propV (hv : Via G) (F : FnD X cl k g fd ps h) (hr : Room (k + 1) X.A) (hb : Binds X.K fd ps []) (hp : ps.length = 1) (ck : Cls X.K (cl c)) (hpr : PropOf X.K (cl c) fn pa g) (he : UE X cl W e dx) (hab : attributeBase e fn X.env (eval e X.env) = eval e X.env) :
    UE X cl W (.Attribute e fn pos) (dPropV c (G h) dx) :=
  weakE (pe_prop (E := fun _ _ _ => False) he ck hpr F hr hb .nil (fun pins σ H s e s' I q => passAt (W := W0) (X := X.nox) takes0 σ pins H s e s' I q) hab) fun σ H Q ⟨w, t, eH, ok, en, q⟩ => by
    refine ⟨w, t, eH, ok, en, OPost.bind q fun x w1 v a1 r1 p1 => ?_⟩
    split at p1
    · rename_i c' ns vs ho
      split at p1
      · rename_i hc
        subst hc
        obtain ⟨a, dy, es, ev, ea, _, _⟩ := objOf_at a1.ok r1 ho
        refine ⟨a, dy, es, ev, ea, ?_⟩
        have z := hv X.K cl w1 h [x] [v] (fun _ _ _ => False) Q a1.ok (RL.mk1 r1) (by
          cases ho : G h [x] w1.S with
          | ok a S => rw [ho] at p1; exact p1
          | exc c ns vs S => rw [ho] at p1; exact p1.elim
          | bad => rw [ho] at p1; exact p1.elim)
        rw [hp]
        rw [ev] at z
        exact z
      · exact p1.elim
    · exact p1.elim
end
end Dl
set_option Elab.async false
set_option linter.all false
set_option maxRecDepth 100000
set_option maxHeartbeats 1000000
/-! The data layer: three names at once; a list times a number. -/
namespace Dl
open PySem PySem.Spec PyProof.Rows L2
section
variable {X : Cx} {cl : Nat → Addr} {W : WX} {a b c : Expr} {px py pz pt pos : Pos}
def dPar3 (i j l : Nat) (da : DA) : DS := fun t S => ofE (da t S) t fun xs S1 => match xs with
  | [x, y, z] => .nx (((t.set i (some x)).set j (some y)).set l (some z)) S1
  | _ => .bad
theorem RL.three {K : PySem.W.Frag} {w : Wd} {x y z : D} {vs : List V} (r : RL K cl w [x, y, z] vs) : ∃ u v o, vs = [u, v, o] ∧ RV K cl w x u ∧ RV K cl w y v ∧ RV K cl w z o := by
  obtain ⟨u, r0, rfl, h1, v, r1, rfl, h2, o, r2, rfl, h3, rfl⟩ := r
  exact ⟨u, v, o, rfl, h1, h2, h3⟩
theorem s_par3 {i j l : Nat} {x y z : Str} {da : DA} {kt k2 pt2} (hc : X.calm = true) (hN : X.N.Nodup) (hi : X.N[i]? = some x) (hj : X.N[j]? = some y) (hl : X.N[l]? = some z) (hij : i ≠ j) (hil : i ≠ l) (hjl : j ≠ l)
    (hx : X.env.scope.names.lookup x = some .local) (hy : X.env.scope.names.lookup y = some .local) (hz : X.env.scope.names.lookup z = some .local) (ha : UA X cl W [a, b, c] da)
    (hw : swappedStores [.Tuple [.Name x px, .Name y py, .Name z pz] kt pt] (.Tuple [a, b, c] k2 pt2) X.env = pure (some [x, y, z]) := by rfl)
    (hs : swapsWithSole [.Tuple [.Name x px, .Name y py, .Name z pz] kt pt] (.Tuple [a, b, c] k2 pt2) pos.line X.env = pure false := by rfl) :
    US X cl W (.Assign [.Tuple [.Name x px, .Name y py, .Name z pz] kt pt] (.Tuple [a, b, c] k2 pt2) pos) (dPar3 i j l da) := weakS (ps_par3 hc hN hi hj hl hij hil hjl hx hy hz ha hw hs) fun N σ H ⟨w, t, eH, ok, en, q⟩ => by
  refine ⟨w, t, eH, ok, en, SPost.ofE q en fun xs w1 vs a1 r1 en1 p1 => ?_⟩
  split at p1
  · obtain ⟨u, v, o, e1, h1, h2, h3⟩ := RL.three r1
    exact ⟨u, v, o, e1, p1 w1 _ (Af.refl a1.ok) rfl (((en1.set h1).set h2).set h3)⟩
  · exact p1.elim
/-- copies of a list, one behind the other -/
def copies (xs : List D) : Nat → List D
  | 0 => []
  | n + 1 => xs ++ copies xs n
def fMulL : D → D → Sto → Out D := fun x y S => match deref x S, y with
  | .lst xs, .int j => if 0 ≤ j ∧ j ≤ 1000 ∧ xs.length ≤ 1000 then .ok (.lst (copies xs j.toNat)) S else .bad
  | _, _ => fMul x y S
theorem copies_rep {K : PySem.W.Frag} {F : Hp} {m : List Addr} {xs : List D} {vs : List V} (r : Reps K cl F m xs vs) : ∀ n : Nat, Reps K cl F m (copies xs n) ((List.replicate n vs).flatten)
  | 0 => rfl
  | n + 1 => by
    rw [List.replicate_succ, List.flatten_cons]
    exact Reps.append r (copies_rep r n)
theorem op_mulL : OpR X (binaryOp .Mult) (fun x y H Q => rMulAny x y H Q ∨ rRep x y H Q) := op_mulAny.or op_rep
theorem d_mulL {K : PySem.W.Frag} : OpD K cl (fun x y H Q => rMulAny x y H Q ∨ rRep x y H Q) fMulL := by
  intro w x y vx vy W Q ok rx ry q
  unfold fMulL at q
  split at q
  · rename_i xs j h1
    split at q
    · rename_i hz
      obtain ⟨l, vs, ev, q1, q2⟩ := deref_lst ok rx h1
      have few : vs.length * j.toNat ≤ 1000 * 1000 := by
        have e := Reps.length q2
        exact Nat.mul_le_mul (by omega) (by omega)
      refine .inr ⟨l, j, vs, ev, ry, q1, by omega, by omega, Nat.le_trans few (by decide), fun p hp => ?_⟩
      exact q ⟨upd w.H p _, upd w.F p (.lst (List.replicate j.toNat vs).flatten), w.m, w.S⟩ (.ref p) (ok.laid hp) rfl (laidLst ok hp (copies_rep q2 j.toNat))
    · exact q.elim
  · exact .inl (d_mul w x _ vx vy W Q ok rx ry q)
end
end Dl
set_option Elab.async false
set_option linter.all false
set_option maxRecDepth 100000
set_option maxHeartbeats 1000000
/-! The data layer: the head's facts of properties; the Hook with them. -/
namespace Dl
open PySem PySem.Spec PyProof.Rows L2
structure PrD where
  cls : Str
  name : Str
  qual : Str
  params : Arguments
  body : List Stmt
  scope : Scope
/-- where the getter stands -/
def getA (K : PySem.W.Frag) (c n : Str) : Addr := match PySem.W.recIn K (He.ma K (He.ga K c) n) "property" with
  | some (.ref g :: _) => g
  | _ => 0
def fnP (K : PySem.W.Frag) (a : Addr) : He.FnW := match K.lookup a with
  | some ⟨_, _, .func fd, _⟩ => some (fd.name, fd.qualname, fd.params, fd.body, fd.scope, fd.globals, fd.closure, fd.builtins)
  | _ => none
def PrD.val (d : PrD) : He.FnW := some (d.name, d.qual, d.params, .stmts d.body, d.scope, mainGlobals, [], builtinsNs)
def fdOf (K : PySem.W.Frag) (a : Addr) : FuncData := match K.lookup a with
  | some ⟨_, _, .func fd, _⟩ => fd
  | _ => PySem.W.fnOf "" "" ⟨[], [], none, [], [], none, []⟩ [] ⟨.function, [], false, false, []⟩ .none .none .none .none none .none .none
def plainB (K : PySem.W.Frag) (a : Addr) (q : Str) : Bool := PySem.W.keepIn K (.ref a) && (match K.lookup a with
  | some ⟨_, _, .func fd, _⟩ => PySem.W.codeIn K fd.code q && (He.dflB K fd.defaults [] && He.kwdB K fd.kwdefaults [])
  | _ => false)
def propB (K : PySem.W.Frag) (c n : Str) : Bool := He.eqO (PySem.W.findIn K (.ref (He.ga K c)) n) (some (some (.ref (He.ma K (He.ga K c) n)))) && (He.eqO (PySem.W.specialIn K (.ref (He.ma K (He.ga K c) n)) "__get__") (some (some (.builtin "property.__get__"))) &&
  (decide (PySem.W.takesIn K (.ref (He.ma K (He.ga K c) n)) = some true) && (match PySem.W.recIn K (He.ma K (He.ga K c) n) "property" with
    | some (.ref _ :: _) => true
    | _ => false)))
theorem prop_is {K : PySem.W.Frag} {c n : Str} (h : propB K c n = true) : PropOf K (He.ga K c) n (He.ma K (He.ga K c) n) (getA K c n) := by
  obtain ⟨h1, h⟩ := He.ba h
  obtain ⟨h2, h⟩ := He.ba h
  obtain ⟨h3, h4⟩ := He.ba h
  refine ⟨He.eqO_ok h1, He.eqO_ok h2, of_decide_eq_true h3, ?_⟩
  unfold getA
  split at h4
  · rename_i g rest e
    exact ⟨rest, by rw [e]⟩
  · cases h4
theorem fun_at {K : PySem.W.Frag} {d : PrD} {a : Addr} (e : fnP K a = d.val) (c : plainB K a d.qual = true) : FunD K d.name d.qual d.params d.body d.scope [] [] a (fdOf K a) := by
  obtain ⟨kp, c2⟩ := He.ba c
  unfold fnP at e
  unfold fdOf
  cases q : K.lookup a with
  | none => rw [q] at c2; cases c2
  | some o =>
    obtain ⟨oc, od, dt, osl⟩ := o
    rw [q] at c2 e
    cases dt with
    | func fd =>
      obtain ⟨n1, n2, n3, n4, n5, n6, n7, n8, n9, n10, n11, n12, n13, n14, n15⟩ := fd
      have e2 : (some (n1, n2, n3, n4, n5, n6, n7, n15) : He.FnW) = d.val := e
      unfold PrD.val at e2
      simp only [Option.some.injEq, Prod.mk.injEq] at e2
      obtain ⟨h1, h2, h3, h4, h5, h6, h7, h8⟩ := e2
      subst h1 h2 h3 h4 h5 h6 h7 h8
      obtain ⟨k1, k2⟩ := He.ba (show (PySem.W.codeIn K n13 d.qual && (He.dflB K n8 [] && He.kwdB K n9 [])) = true from c2)
      obtain ⟨k3, k4⟩ := He.ba k2
      exact ⟨⟨oc, od, n8, n9, n10, n11, n12, n13, n14, osl, rfl, q, k1, He.dflB_ok k3, He.kwdB_ok k4⟩, kp⟩
    | _ => cases c2
abbrev AlP : Type := AlZ × (List He.FnW × Bool)
def okP (prs : List PrD) (K : PySem.W.Frag) : Bool := prs.all fun d => propB K d.cls d.name && plainB K (getA K d.cls d.name) d.qual
def obsP (n : Nat) (fa : List He.Fa) (fn : List He.DefD) (ts : List He.Tab) (xs : List XDef) (prs : List PrD) (ex : PySem.W.Frag → Bool) (g : Addr → Option Obj) : AlP :=
  (obsZ n fa fn ts xs ex g, (prs.map fun d => fnP (He.frT g (asZ g n)) (getA (He.frT g (asZ g n)) d.cls d.name), okP prs (He.frT g (asZ g n))))
structure SaysP (fa : List He.Fa) (fn : List He.DefD) (ts : List He.Tab) (xs : List XDef) (prs : List PrD) (ex : PySem.W.Frag → Bool) (w : World) (K : PySem.W.Frag) : Prop extends SaysZ fa fn ts xs ex w K where
  p : prs.map (fun d => fnP K (getA K d.cls d.name)) = prs.map PrD.val
  q : okP prs K = true
def hookP (n : Nat) (fa : List He.Fa) (fn : List He.DefD) (ts : List He.Tab) (xs : List XDef) (prs : List PrD) (ex : PySem.W.Frag → Bool) : PySem.W.Hook where
  α := AlP
  obs := fun s => obsP n fa fn ts xs prs ex s.heap.get?
  val := fun w => (valZ fn ts xs w, (prs.map PrD.val, true))
  says := fun w h => ∃ K : PySem.W.Frag, K.In h ∧ SaysP fa fn ts xs prs ex w K
  of := fun _ _ e => ⟨_, He.frT_in, ⟨⟨congrArg (fun z : AlP => z.1.1.1) e, congrArg (fun z : AlP => z.1.1.2) e, congrArg (fun z : AlP => z.1.2) e⟩, congrArg (fun z : AlP => z.2.1) e, congrArg (fun z : AlP => z.2.2) e⟩⟩
  keeps := fun _ _ _ ⟨K, hK, c⟩ k => ⟨K, PySem.W.Frag.In.keeps hK k, c⟩
theorem obsP_eq {n : Nat} {fa : List He.Fa} {fn : List He.DefD} {ts : List He.Tab} {xs : List XDef} {prs : List PrD} {ex : PySem.W.Frag → Bool} {g : Addr → Option Obj} {s : Shared} (h : ∀ a, g a = s.heap.get? a) : obsP n fa fn ts xs prs ex g = (hookP n fa fn ts xs prs ex).obs s := by
  have e : g = s.heap.get? := funext h
  rw [e] <;> rfl
structure Wp (P : Program) (file : Str) (fa : List He.Fa) (fn : List He.DefD) (ts : List He.Tab) (xs : List XDef) (prs : List PrD) (ex : PySem.W.Frag → Bool) (w : World) (K : PySem.W.Frag) (mg : Str → Option Value) : Prop extends Wz P file fa fn ts xs ex w K mg where
  p : prs.map (fun d => fnP K (getA K d.cls d.name)) = prs.map PrD.val
  q : okP prs K = true
section
variable {P : Program} {file : Str} {fa : List He.Fa} {fn : List He.DefD} {ts : List He.Tab} {xs : List XDef} {prs : List PrD} {ex : PySem.W.Frag → Bool} {w : World} {K : PySem.W.Frag} {mg : Str → Option Value}
theorem Wp.prop (c : Wp P file fa fn ts xs prs ex w K mg) (i : Nat) {d : PrD} (h : prs[i]? = some d) : PropOf K (He.ga K d.cls) d.name (He.ma K (He.ga K d.cls) d.name) (getA K d.cls d.name) :=
  prop_is (He.ba (List.all_eq_true.mp c.q d (List.mem_of_getElem? h))).1
theorem Wp.getter (c : Wp P file fa fn ts xs prs ex w K mg) (i : Nat) {d : PrD} (h : prs[i]? = some d) : FunD K d.name d.qual d.params d.body d.scope [] [] (getA K d.cls d.name) (fdOf K (getA K d.cls d.name)) := by
  have e : (prs.map fun d => fnP K (getA K d.cls d.name))[i]? = (prs.map PrD.val)[i]? := by rw [c.p]
  rw [List.getElem?_map, List.getElem?_map, h] at e
  exact fun_at (Option.some.inj e) (He.ba (List.all_eq_true.mp c.q d (List.mem_of_getElem? h))).2
end
end Dl
set_option Elab.async false
set_option linter.all false
set_option maxRecDepth 100000
set_option maxHeartbeats 1000000
/-! The data layer: y = {k: v for ..}, y a local; the dict is still to change. -/
namespace Dl
open PySem PySem.Spec PyProof.Rows L2
section
variable {X : Cx} {cl : Nat → Addr} {W : WX} {dt : DB} {dk dv : DE} {di : DA} {g : Tg} {kx vx tg iter : Expr} {ifs : List Expr} {scope : Scope} {own : List (Str × Nat)} {pos spos py : Pos} {y : Str} {i : Nat}
theorem swd_true {l : Nat} {env : Env} {gs : List Comprehension} (hk : env.scope.kind = .function) (hy : env.scope.names.lookup y = some .local) (hl : (py.line == pos.line) = true) (ha : (scope.names.any fun (n, k) => n == y && (k == .local || k == .cell)) = false) :
    swapsWith (.DictComp kx vx gs scope pos) (some (.Name y py)) l env = pure true := by
  have k1 : env.kindOf y = some .local := hy
  have k2 : env.blockKind = .function := by unfold Env.blockKind; rw [hk]; rfl
  unfold swapsWith
  simp only [k1, k2, ha, Expr.pos, hl]
  rfl
theorem ps_setDc {wi : TI} {gt : TG} {tt : TT} {tk tv : TE} (hc : X.calm = true) (hN : X.N.Nodup) (hy : X.N[i]? = some y) (hyl : X.env.scope.names.lookup y = some .local)
    (sw : swapsWith (.DictComp kx vx [⟨tg, iter, ifs, 0⟩] scope pos) (some (.Name y py)) spos.line X.env = pure true) (hi : PI X tg iter wi) (ok : BlkOk X.N X.env.scope scope own)
    (hg : ∀ (s : Shared) (H : Hp) (C : Addr) (cs : List (Str × Addr)) (fp : List Addr), PG (X.blk s H scope (compEnvC scope cs C X.env) fp) tg gt) (ht : ∀ (s : Shared) (H : Hp) (C : Addr) (cs : List (Str × Addr)) (fp : List Addr), PTs (X.blk s H scope (compEnvC scope cs C X.env) fp) ifs tt)
    (hk : ∀ (s : Shared) (H : Hp) (C : Addr) (cs : List (Str × Addr)) (fp : List Addr), PE (X.blk s H scope (compEnvC scope cs C X.env) fp) kx tk) (he : ∀ (s : Shared) (H : Hp) (C : Addr) (cs : List (Str × Addr)) (fp : List Addr), PE (X.blk s H scope (compEnvC scope cs C X.env) fp) vx tv)
    (hs : ∀ x, foldedSetIterable iter X.env x = pure x := by intro _; rfl) : PS X (.Assign [.Name y py] (.DictComp kx vx [⟨tg, iter, ifs, 0⟩] scope pos) spos) (tAsg (tDc wi gt tt tk tv (own.map (·.2))) (gName i)) := by
  refine ⟨fun pins s σ H D I h => ?_⟩
  rw [exec_Assign_Name_used _ _ _ _ sw]
  refine wpAny_bind (wpAny_standAt (wpAny_bind ?_))
  show wpAny _ X.A (do let _ ← comprehension (.DictComp kx vx [⟨tg, iter, ifs, 0⟩] scope pos) scope X.env (firstIterPos [⟨tg, iter, ifs, 0⟩] pos) newDict false (eval iter X.env) (some (assign (.Name y py) X.env))) _ _ s
  have h : tDc wi gt tt tk tv (own.map (·.2)) σ H (fun x H1 => gName i x σ H1 D.nx) := h
  refine wpAny_bind (thn (dc_core (Qf := fun _ s2 => SP X pins D .next s2) hc hN I hi ok hg ht hk he hs h fun L C s2 m H2 I2 q hn f => ?_) fun _ s2 z => wpAny_pure (wpAny_pure z))
  show wpAny _ _ (assign (.Name y py) X.env (.ref L)) _ _ _
  refine wpAny_assign_Name (store_ok2 (v := V.ref L) I2 hN hy (.inl hyl) rfl (fun s3 I3 ⟨a, sb, ha⟩ => ?_) (.inr hyl))
  obtain ⟨f0, f1, f2, f3, f4, f5⟩ := f
  have off : C ≠ a := ha.elim (fun z => by rw [z]; exact f1) fun z c => f4 y a z c.symm
  exact ⟨m, hn.sameBut sb off, fun h4 sb4 => ⟨_, H2, I3.turned (t' := s3.toks) (fun b o hb c => (sb4.2 b hb).trans c) f0 f1 f3 f4 f5, q⟩⟩
def dDcC (vs : List Nat) (g : Tg) (di : DA) (dt : DB) (dk dv : DE) : DE := fun t S => (di t S).bind fun xs S1 => (dcLoop g dt dk dv (wipeD vs t) xs ([], []) S1).bind fun a S2 => .ok (.ptr S2.length) (S2 ++ [some (.dic a.1 a.2)])
theorem le_dcC {K : PySem.W.Frag} {vs : List Nat} {σ : L2.St} {H : Hp} {Q : VK} (hsl : ∀ i ∈ g.slots, i ∈ vs) (q : upE K cl W (dDcC vs g di dt dk dv) σ H Q) : tDc (upI K cl W di) (tgT K g) (upB K cl W0 dt) (upE K cl W0 dk) (upE K cl W0 dv) vs σ H Q := by
  obtain ⟨w, t, eH, ok, en, p⟩ := q
  refine ⟨w, t, eH, ok, en, OPost.bind p fun xs w1 J a1 hJ p1 => fun D hD => ?_⟩
  refine dc_run hsl a1.ok (en.af a1) hJ hD p1 fun a es w2 gr p2 => ?_
  have mk : ∀ (j : Nat) (b : Addr), w2.m[j]? = some b → (w2.m ++ [D])[j]? = some b := fun j b hb => pre_get hb
  have z := gr.b.celled (d := .dic a.1 a.2) ⟨es, gr.b.at_, gr.k, gr.v⟩
  exact p2 ⟨w2.H, w2.F, w2.m ++ [D], w2.S ++ [some (.dic a.1 a.2)]⟩ (.ref D) z rfl ⟨D, snoc_get gr.b.af.ok.len.symm, rfl⟩
theorem s_setDcC (vs : List Nat) (hv : own.map (·.2) = vs) (hsl : ∀ i ∈ g.slots, i ∈ vs) (hc : X.calm = true) (hN : X.N.Nodup) (hy : X.N[i]? = some y) (hyl : X.env.scope.names.lookup y = some .local)
    (sw : swapsWith (.DictComp kx vx [⟨tg, iter, ifs, 0⟩] scope pos) (some (.Name y py)) spos.line X.env = pure true) (hi : UI X cl W tg iter di) (ok : BlkOk X.N X.env.scope scope own)
    (hg : ∀ (s : Shared) (H : Hp) (C : Addr) (cs : List (Str × Addr)) (fp : List Addr), PG (X.blk s H scope (compEnvC scope cs C X.env) fp) tg (tgT X.K g)) (ht : ∀ (s : Shared) (H : Hp) (C : Addr) (cs : List (Str × Addr)) (fp : List Addr), UTs (X.blk s H scope (compEnvC scope cs C X.env) fp) cl ifs dt)
    (hk : ∀ (s : Shared) (H : Hp) (C : Addr) (cs : List (Str × Addr)) (fp : List Addr), UE (X.blk s H scope (compEnvC scope cs C X.env) fp) cl W0 kx dk) (he : ∀ (s : Shared) (H : Hp) (C : Addr) (cs : List (Str × Addr)) (fp : List Addr), UE (X.blk s H scope (compEnvC scope cs C X.env) fp) cl W0 vx dv)
    (hs : ∀ x, foldedSetIterable iter X.env x = pure x := by intro _; rfl) : US X cl W (.Assign [.Name y py] (.DictComp kx vx [⟨tg, iter, ifs, 0⟩] scope pos) spos) (dSet i (dDcC vs g di dt dk dv)) :=
  weakS (ps_setDc hc hN hy hyl sw hi ok hg ht hk he hs) fun N σ H ⟨w, t, eH, hok, en, p⟩ => by
    rw [hv]
    exact le_dcC hsl ⟨w, t, eH, hok, en, SPost.ofE p en fun d w1 v a1 rv en1 p1 => p1 w1 _ (Af.refl a1.ok) rfl (en1.set rv)⟩
end
end Dl
set_option Elab.async false
set_option linter.all false
set_option maxRecDepth 100000
set_option maxHeartbeats 400000
/-! The data layer: a, b, c = a list. -/
namespace Dl
open PySem PyProof.Rows L2
section
variable {X : Cx} {cl : Nat → Addr} {W : WX} {e tg : Expr} {de : DE} {pos : Pos}
def dAsgL (is : List Nat) (de : DE) : DS := fun t S => ofE (de t S) t fun d S1 => match deref d S1 with
  | .lst ds => if ds.length = is.length then .nx (setAll is ds t) S1 else .bad
  | _ => .bad
theorem s_asgL {is : List Nat} (he : UE X cl W e de) (hg : PG X tg (gUnl X.K is.length (tgL is))) (hs : swapsWithSole [tg] e pos.line X.env = pure false := by rfl) (hw : swappedStores [tg] e X.env = pure none := by rfl) (h1 : (assignEach [tg] X.env).map (·.2) = [assign tg X.env] := by rfl) :
    US X cl W (.Assign [tg] e pos) (dAsgL is de) := weakS (ps_asg he hg hs hw h1) fun N σ H ⟨w, t, eH, ok, en, p⟩ =>
  ⟨w, t, eH, ok, en, SPost.ofE p en fun d w1 v y rv en1 p1 => by
    split at p1
    · rename_i ds hd
      split at p1
      · rename_i hl
        obtain ⟨a, xs, ev, h2, rr⟩ := deref_lst y.ok rv hd
        exact ⟨a, xs, ev, .of h2, by rw [← hl]; exact (Reps.length rr).symm, tgL_ok (σ0 := σ) (sl := is) hl rr en1 (fun _ h => h) (fun _ _ => rfl) fun σ' en' _ => p1 w1 σ' (Af.refl y.ok) rfl en'⟩
      · exact p1.elim
    · exact p1.elim⟩
theorem asgL_ok {t : Lc} {S S1 : Sto} {is : List Nat} {ds : List D} (h : de t S = .ok (.lst ds) S1) (hl : ds.length = is.length) : dAsgL is de t S = .nx (setAll is ds t) S1 := by
  unfold dAsgL
  rw [h]
  exact if_pos hl
end
end Dl
set_option Elab.async false
set_option linter.all false
set_option maxRecDepth 100000
set_option maxHeartbeats 400000
/-! The data layer: a denotation reckoned step by step: objects, calls that have all cells. -/
namespace Dl
open PySem PyProof.Rows L2
mutual
theorem below_up {n m : Nat} (h : n ≤ m) : ∀ d : D, below n d = true → below m d = true
  | .non, _ => rfl
  | .bl _, _ => rfl
  | .int _, _ => rfl
  | .str _, _ => rfl
  | .ptr i, e => by
    have e : decide (i < n) = true := e
    exact decide_eq_true (Nat.lt_of_lt_of_le (of_decide_eq_true e) h)
  | .tup ds, e => belows_up h ds e
  | .lst ds, e => belows_up h ds e
  | .rol ds, e => belows_up h ds e
  | .dic ks vs, e => by
    have e : (belows n ks && belows n vs) = true := e
    obtain ⟨a, b⟩ := Bool.and_eq_true_iff.mp e
    show (belows m ks && belows m vs) = true
    rw [belows_up h ks a, belows_up h vs b]; rfl
  | .obj _ _ vs, e => belows_up h vs e
theorem belows_up {n m : Nat} (h : n ≤ m) : ∀ ds : List D, belows n ds = true → belows m ds = true
  | [], _ => rfl
  | d :: ds, e => by
    have e : (below n d && belows n ds) = true := e
    obtain ⟨a, b⟩ := Bool.and_eq_true_iff.mp e
    show (below m d && belows m ds) = true
    rw [below_up h d a, belows_up h ds b]; rfl
end
theorem belows_app {n : Nat} : ∀ {as bs : List D}, belows n as = true → belows n bs = true → belows n (as ++ bs) = true
  | [], _, _, h => h
  | a :: as, bs, h, h2 => by
    have h : (below n a && belows n as) = true := h
    obtain ⟨x, y⟩ := Bool.and_eq_true_iff.mp h
    show (below n a && belows n (as ++ bs)) = true
    rw [x, belows_app y h2]; rfl
section
variable {t t1 t2 : Lc} {S S1 S2 S3 S4 : Sto} {a b : DS} {de da db dx : DE} {ta tb : DB} {dr : DA} {d x y z : D} {xs ys vs ws : List D} {n m i p c : Nat} {ns : List Str} {f : Str}
/-- every cell speaks of cells of the store alone -/
def Sane (S : Sto) : Prop := cellsBelow S.length S = true
theorem viaT_ok {h : DF} {S' : Sto} (e : h xs S = .ok z S') (hz : below S.length z = true) (hc : cellsBelow S.length (S'.take S.length) = true) : viaT h xs S = .ok z (S'.take S.length) := by
  unfold viaT
  rw [e]
  exact if_pos ⟨hz, hc⟩
theorem viaT_exc {h : DF} {S' : Sto} (e : h xs S = .exc c ns vs S') (hz : belows S.length vs = true) (hc : cellsBelow S.length (S'.take S.length) = true) : viaT h xs S = .exc c ns vs (S'.take S.length) := by
  unfold viaT
  rw [e]
  exact if_pos ⟨hz, hc⟩
theorem viaT_same {h : DF} (s : Sane S) (e : h xs S = .ok z S) (hz : below S.length z = true) : viaT h xs S = .ok z S := by
  have q := viaT_ok e hz (by rw [List.take_length]; exact s)
  rw [List.take_length] at q
  exact q
theorem viaT_stop {h : DF} (s : Sane S) (e : h xs S = .exc c ns vs S) (hz : belows S.length vs = true) : viaT h xs S = .exc c ns vs S := by
  have q := viaT_exc e hz (by rw [List.take_length]; exact s)
  rw [List.take_length] at q
  exact q
theorem viaT_len {h : DF} {S' : Sto} (e : h xs S = .ok z S') (hl : S'.length = S.length) (hz : below S.length z = true) (hc : cellsBelow S.length S' = true) : viaT h xs S = .ok z S' := by
  have k : S'.take S.length = S' := by rw [← hl, List.take_length]
  have q := viaT_ok e hz (by rw [k]; exact hc)
  rw [k] at q
  exact q
theorem obj_at (h : S[p]? = some (some (.obj c ns vs))) : objOf (.ptr p) S = some (c, ns, vs) := by
  unfold objOf
  dsimp only
  rw [h]
theorem attr_p (h0 : de t S = .ok (.ptr p) S1) (h : S1[p]? = some (some (.obj c ns vs))) (hl : lookD ns vs f = some d) : dAttr c f de t S = .ok d S1 := by
  unfold dAttr
  rw [h0]
  show (match objOf (.ptr p) S1 with
    | some (c', ns, vs) => if c' = c then (match lookD ns vs f with
      | some d => Out.ok d S1
      | none => .bad) else .bad
    | none => .bad) = _
  rw [obj_at h]
  show (if c = c then (match lookD ns vs f with
      | some d => Out.ok d S1
      | none => .bad) else .bad) = _
  rw [if_pos rfl, hl]
theorem meth_p {h : DF} {N : Nat} {g : Str} (h0 : dx t S = .ok (.ptr p) S1) (ho : S1[p]? = some (some (.obj c ns vs))) (hm : ns.contains g = false) (ha : dr t S1 = .ok xs S2) (hl : xs.length + 1 = N) : dMeth c g N h dx dr t S = h (.ptr p :: xs) S2 := by
  unfold dMeth
  rw [h0]
  show (match objOf (.ptr p) S1 with
    | some (c', ns, _) => if c' = c ∧ ns.contains g = false then (dr t S1).bind fun xs S2 => if xs.length + 1 = N then h (.ptr p :: xs) S2 else .bad else .bad
    | none => .bad) = _
  rw [obj_at ho]
  show (if c = c ∧ ns.contains g = false then (dr t S1).bind fun xs S2 => if xs.length + 1 = N then h (.ptr p :: xs) S2 else .bad else .bad) = _
  rw [if_pos ⟨rfl, hm⟩, ha]
  show (if xs.length + 1 = N then h (.ptr p :: xs) S2 else .bad) = _
  rw [if_pos hl]
theorem setF_p {dv : DE} (hv : dv t S = .ok y S1) (h0 : dx t S1 = .ok (.ptr p) S2) (ho : S2[p]? = some (some (.obj c ns vs))) (hn : ns.length < 1000) : dSetF c f dx dv t S = .nx t (S2.set p (some (.obj c (putD f y ns vs).1 (putD f y ns vs).2))) := by
  unfold dSetF
  rw [hv]
  show Dl.ofE (dx t S1) t _ = _
  rw [h0]
  show (match cellObj c (.ptr p) S2 with
    | some (i, ns, vs) => if ns.length < 1000 then SOut.nx t (S2.set i (some (.obj c (putD f y ns vs).1 (putD f y ns vs).2))) else .bad
    | none => .bad) = _
  have e : cellObj c (.ptr p) S2 = some (p, ns, vs) := by
    unfold cellObj
    dsimp only
    rw [ho]
    exact if_pos rfl
  rw [e]
  exact if_pos hn
theorem and_t (ha : da t S = .ok (.bl true) S1) : dAnd da db t S = db t S1 := by unfold dAnd; rw [ha]; rfl
theorem and_f (ha : da t S = .ok (.bl false) S1) : dAnd da db t S = .ok (.bl false) S1 := by unfold dAnd; rw [ha]; rfl
theorem not_ok {b : Bool} (ha : da t S = .ok (.bl b) S1) : dNot da t S = .ok (.bl (!b)) S1 := by unfold dNot; rw [ha]; rfl
theorem tup_ok (h : dr t S = .ok xs S1) (hl : xs.length ≤ sizeLine) : dTup dr t S = .ok (.tup xs) S1 := by
  unfold dTup
  rw [h]
  exact if_pos hl
theorem asg_ok {g : Tg} (h : de t S = .ok x S1) (hg : g.set x t = some t1) : dAsg g de t S = .nx t1 S1 := by
  unfold dAsg
  rw [h]
  show (match g.set x t with
    | some t1 => SOut.nx t1 S1
    | none => .bad) = _
  rw [hg]
theorem chain_t {f g : D → D → Sto → Out D} {dc : DE} {u : D} (h1 : da t S = .ok x S1) (h2 : db t S1 = .ok y S2) (h3 : f x y S2 = .ok (.bl true) S3) (h4 : dc t S3 = .ok u S4) : dChain f g da db dc t S = g y u S4 := by
  unfold dChain
  rw [h1]
  show (db t S1).bind _ = _
  rw [h2]
  show (f x y S2).bind _ = _
  rw [h3]
  show (dc t S3).bind _ = _
  rw [h4]
  rfl
theorem chain_f {f g : D → D → Sto → Out D} {dc : DE} (h1 : da t S = .ok x S1) (h2 : db t S1 = .ok y S2) (h3 : f x y S2 = .ok (.bl false) S3) : dChain f g da db dc t S = .ok (.bl false) S3 := by
  unfold dChain
  rw [h1]
  show (db t S1).bind _ = _
  rw [h2]
  show (f x y S2).bind _ = _
  rw [h3]
  rfl
theorem raise0_is : dRaise0 c t S = .exc t c [] [] S := rfl
theorem try_nx {hs : List Hd} (h : a t S = .nx t1 S1) : dTry a hs t S = .nx t1 S1 := by unfold dTry; rw [h]
theorem try_exc {hs : List Hd} (h : a t S = .exc t1 c ns vs S1) : dTry a hs t S = dHds hs t1 c ns vs S1 := by unfold dTry; rw [h]
theorem append_p (h : S[p]? = some (some (.lst ys))) (hl : ys.length < sizeLine) : mAppend (.ptr p) [y] S = .ok .non (S.set p (some (.lst (ys ++ [y])))) := by
  unfold mAppend
  dsimp only
  rw [h]
  exact if_pos hl
theorem prop_p {h : DF} (h0 : dx t S = .ok (.ptr p) S1) (ho : S1[p]? = some (some (.obj c ns vs))) (hf : h [.ptr p] S1 = .ok z S2) : dPropV c h dx t S = .ok z S2 := by
  unfold dPropV
  rw [h0]
  show (match objOf (.ptr p) S1 with
    | some (d, _, _) => if d = c then (h [.ptr p] S1).calm else .bad
    | none => .bad) = _
  rw [obj_at ho]
  show (if c = c then (h [.ptr p] S1).calm else .bad) = _
  rw [if_pos rfl, hf]
  rfl
end
/-! ### == of a thing with itself -/
mutual
theorem eqv_self : ∀ d : PyData, d.canLay0 = true → PyData.eqv d d = true
  | .none, _ => rfl
  | .bool b, _ => by show (b == b) = true; simp
  | .int i, _ => by show (i == i) = true; simp
  | .str x, _ => by show (x == x) = true; simp
  | .list xs, h => eqvs_self xs h
  | .tuple xs, h => eqvs_self xs h
  | .dict _, h => by cases h
theorem eqvs_self : ∀ ds : List PyData, PyData.canLayAll0 ds = true → PyData.eqvAll ds ds = true
  | [], _ => rfl
  | d :: ds, h => by
    have h : (d.canLay0 && PyData.canLayAll0 ds) = true := h
    obtain ⟨a, b⟩ := Bool.and_eq_true_iff.mp h
    show (PyData.eqv d d && PyData.eqvAll ds ds) = true
    rw [eqv_self d a, eqvs_self ds b]; rfl
end
theorem eq_self {neg : Bool} {xs : List D} (h : SeqAt.shaped (.list (pds xs)) = true) (S : Sto) : fEqA neg (.lst xs) (.lst xs) S = .ok (.bl (!neg)) S := by
  show (if (SeqAt.shaped (.list (pds xs)) && SeqAt.shaped (.list (pds xs))) = true then Out.ok (D.bl (xor neg (PyData.eqv (.list (pds xs)) (.list (pds xs))))) S else .bad) = _
  rw [h, eqv_self _ (SeqAt.canLay_of_shaped h)]
  cases neg <;> rfl
end Dl
set_option Elab.async false
set_option linter.all false
set_option maxRecDepth 100000
set_option maxHeartbeats 1000000
namespace GG
open PySem PySem.Spec PyProof.Rows L2 Dl
abbrev prog : Program := PySem.Challenge.pw_staysbarred_k17_inns_refused
def top (i : Nat) : Stmt := prog.main.body.getD i (.Pass ⟨0, 0, 0, 0⟩)
def sub (s : Stmt) (j : Nat) : Stmt := match s with
  | .ClassDef _ _ _ b _ _ _ _ _ _ _ => b.getD j (.Pass ⟨0, 0, 0, 0⟩)
  | _ => .Pass ⟨0, 0, 0, 0⟩
abbrev s_is_integer : Stmt := (top 11)
abbrev s_is_from : Stmt := (top 12)
abbrev s_is_one_of : Stmt := (top 13)
abbrev s_check_rule : Stmt := (top 14)
abbrev s_is_value : Stmt := (top 15)
abbrev s_is_span : Stmt := (top 22)
abbrev s_Inn_init : Stmt := (sub (top 28) 0)
abbrev s_Inn_spans : Stmt := (sub (top 28) 1)
abbrev s_Inn_log : Stmt := (sub (top 28) 2)
abbrev s_Inn_become : Stmt := (sub (top 28) 5)
abbrev s_Inn_need : Stmt := (sub (top 28) 6)
abbrev s_Inn_lay : Stmt := (sub (top 28) 7)
abbrev s_Inn_change : Stmt := (sub (top 28) 8)
abbrev s_Inn_drop : Stmt := (sub (top 28) 9)
abbrev s_Inn_bars : Stmt := (sub (top 28) 11)
abbrev s_Inn_longest : Stmt := (sub (top 28) 12)
abbrev s__law_draws : Stmt := (top 30)
abbrev s__law_pick : Stmt := (top 31)
abbrev s__law_parts : Stmt := (top 32)
abbrev s__law_marks : Stmt := (top 33)
abbrev s__law_rule : Stmt := (top 34)
abbrev s__law_inn_span : Stmt := (top 35)
abbrev s__law_inn_led : Stmt := (top 36)
abbrev s__law_told : Stmt := (top 37)
abbrev s__law_rule_told : Stmt := (top 38)
abbrev s_law : Stmt := (top 39)
abbrev sx_BadRule : Stmt := (sub (top 3) 0)
abbrev sx_BadStay : Stmt := (sub (top 4) 0)
abbrev sx_BadSpan : Stmt := (sub (top 5) 0)
abbrev sx_NoSpan : Stmt := (sub (top 6) 0)
def fileP : Str := prog.main.file
def mt_BadStay : Nat → Option Bool
  | 5 => some false
  | 7 => some true
  | 8 => some false
  | 9 => some false
  | _ => none
def mt_NoSpan : Nat → Option Bool
  | 5 => some false
  | 7 => some false
  | 8 => some false
  | 9 => some true
  | _ => none
def mt_BadSpan : Nat → Option Bool
  | 5 => some false
  | 7 => some false
  | 8 => some true
  | 9 => some false
  | _ => none
def mt_BadRule : Nat → Option Bool
  | 5 => some true
  | 7 => some false
  | 8 => some false
  | 9 => some false
  | _ => none
def clG (K : PySem.W.Frag) : Nat → Addr
  | 0 => He.ga K "Book"
  | 1 => He.ga K "Line"
  | 2 => He.ga K "StayError"
  | 3 => He.ga K "BadNumber"
  | 4 => He.ga K "BadMarks"
  | 5 => He.ga K "BadRule"
  | 6 => He.ga K "BadLine"
  | 7 => He.ga K "BadStay"
  | 8 => He.ga K "BadSpan"
  | 9 => He.ga K "NoSpan"
  | 10 => He.ga K "BadDeed"
  | 11 => He.ga K "UnknownDeed"
  | 12 => He.ga K "NotComparable"
  | 13 => He.ga K "Possible"
  | 14 => He.ga K "Record"
  | 15 => He.ga K "Inn"
  | 16 => He.ga K "Desk"
  | 17 => He.ga K "Trial"
  | 18 => He.ga K "Reach"
  | 19 => He.ga K "Tightest"
  | 20 => He.ga K "View"
  | 21 => He.ga K "Views"
  | _ => 0
def PARTS_ks0 : List Str := ["changed", "ends", "lengths", "over", "shut"]
def PARTS_ks : List D := PARTS_ks0.map .str
def PARTS_vs : List D := [(.tup [(.str "newest"), (.str "stays")]), (.tup [(.str "closed"), (.str "open")]), (.tup [(.str "coming"), (.str "nights")]), (.tup [(.str "first"), (.str "newest"), (.str "strictest")]), (.tup [(.str "coming"), (.str "nights")])]

/-! is_integer -/
abbrev N_is_integer : List Str := ["value"]
abbrev P_is_integer : List Str := ["value"]
def den_is_integer : DS := (dRet (dAnd (dIsi (tabB "int") (dVar 0)) (dNot (dIsi (tabB "bool") (dVar 0)))))
def F_is_integer : DF := runF 1 1 den_is_integer

/-! is_from -/
abbrev N_is_from : List Str := ["value", "low", "high"]
abbrev P_is_from : List Str := ["value", "low", "high"]
def den_is_from : DS := (dRet (dAnd (dCall 1 (viaP F_is_integer) (aCons (dVar 0) aNil)) (dChain fLe fLe (dVar 1) (dVar 0) (dVar 2))))
def F_is_from : DF := runF 3 3 den_is_from

/-! is_one_of -/
abbrev N_is_one_of : List Str := ["value", "some"]
abbrev P_is_one_of : List Str := ["value", "some"]
def den_is_one_of : DS := (dRet (dAnd (dIsi (tabB "str") (dVar 0)) (dOp (fInA false) (dVar 0) (dVar 1))))
def F_is_one_of : DF := runF 2 2 den_is_one_of

/-! check_rule -/
abbrev N_check_rule : List Str := ["rule", "part"]
abbrev P_check_rule : List Str := ["rule"]
def den_check_rule : DS := (dSeq (dIfS (bOr (bNot (bTest (dIsi (tabB "dict") (dVar 0)))) (bTest (dOp (fEqA true) (dB bLen (aCons (dVar 0) aNil)) (dC (.int ((5 : Nat) : Int)))))) (dRaise1 5 "part" okShow (dC (.str ""))) dSkip)
  (dSeq (dIfS (bNot (bTest (dB bAll (aCons (dLc [1] (.nm 1) (iKy (dVar 0)) bYes (dCall 2 (viaP F_is_one_of) (aCons (dVar 1) (aCons (dC (.lst PARTS_ks)) aNil)))) aNil)))) (dRaise1 5 "part" okShow (dC (.str ""))) dSkip)
  (dFor (.nm 1) (dConst PARTS_ks) (dIfS (bNot (bTest (dCall 2 (viaP F_is_one_of) (aCons (dOp fIxA (dVar 0) (dVar 1)) (aCons (dUn (dIxK PARTS_ks PARTS_vs) (dVar 1)) aNil))))) (dRaise1 5 "part" okShow (dVar 1)) dSkip))))
def F_check_rule : DF := runF 1 2 den_check_rule

/-! is_value -/
abbrev N_is_value : List Str := ["mark", "value", "most"]
abbrev P_is_value : List Str := ["mark", "value", "most"]
def den_is_value : DS := (dRet (dIf (bTest (dOp (fInA false) (dVar 0) (dC (.tup [(.str "least"), (.str "most")])))) (dCall 3 (viaP F_is_from) (aCons (dVar 1) (aCons (dC (.int 1)) (aCons (dVar 2) aNil)))) (dCall 3 (viaP F_is_from) (aCons (dVar 1) (aCons (dC (.int 0)) (aCons (dC (.int 1)) aNil))))))
def F_is_value : DF := runF 3 3 den_is_value

/-! is_span -/
abbrev N_is_span : List Str := ["first", "last", "mark", "value"]
abbrev P_is_span : List Str := ["first", "last", "mark", "value"]
def den_is_span : DS := (dSeq (dIfS (bOr (bNot (bTest (dCall 3 (viaP F_is_from) (aCons (dVar 0) (aCons (dC (.int 0)) (aCons (dC (.int 1000000000)) aNil)))))) (bOr (bNot (bTest (dCall 3 (viaP F_is_from) (aCons (dVar 1) (aCons (dC (.int 0)) (aCons (dC (.int 1000000000)) aNil)))))) (bNot (bTest (dCall 2 (viaP F_is_one_of) (aCons (dVar 2) (aCons (dC (.tup [(.str "least"), (.str "most"), (.str "nocome"), (.str "nogo"), (.str "shut")])) aNil))))))) (dRet (dC (.bl false))) dSkip)
  (dRet (dAnd (dOp fLe (dVar 0) (dVar 1)) (dCall 3 (viaP F_is_value) (aCons (dVar 2) (aCons (dVar 3) (aCons (dC (.int 1000000000)) aNil)))))))
def F_is_span : DF := runF 4 4 den_is_span

/-! Inn_init -/
abbrev N_Inn_init : List Str := ["self", "rule", "part"]
abbrev P_Inn_init : List Str := ["self", "rule"]
def den_Inn_init : DS := (dSeq (dExpr (dCall 1 (viaP F_check_rule) (aCons (dVar 1) aNil)))
  (dSeq (dSetF 15 "parts" (dVar 0) (dDc [2] (.nm 2) (dConst PARTS_ks) bYes (dVar 2) (dOp fIxA (dVar 1) (dVar 2))))
  (dSeq (dSetF 15 "held" (dVar 0) dDic0)
  (dSeq (dSetF 15 "fresh" (dVar 0) (dC (.int 0)))
  (dSeq (dSetF 15 "past" (dVar 0) (dCellL aNil))
  (dSetF 15 "rows_done" (dVar 0) (dCellL aNil)))))))
def F_Inn_init : DF := runF 2 3 den_Inn_init

/-! Inn_spans -/
abbrev N_Inn_spans : List Str := ["self"]
abbrev P_Inn_spans : List Str := ["self"]
def den_Inn_spans : DS := (dRet (dDictF (aCons (dAttr 15 "held" (dVar 0)) aNil)))
def F_Inn_spans : DF := runF 1 1 den_Inn_spans

/-! Inn_log -/
abbrev N_Inn_log : List Str := ["self"]
abbrev P_Inn_log : List Str := ["self"]
def den_Inn_log : DS := (dRet (dB bList (aCons (dAttr 15 "rows_done" (dVar 0)) aNil)))
def F_Inn_log : DF := runF 1 1 den_Inn_log

/-! Inn_become -/
abbrev N_Inn_become : List Str := ["self", "held", "deed"]
abbrev P_Inn_become : List Str := ["self", "held", "deed"]
def den_Inn_become : DS := (dSeq (dExpr (dBM "list" mAppend (dAttr 15 "past" (dVar 0)) (aCons (dTup (aCons (dAttr 15 "held" (dVar 0)) (aCons (dAttr 15 "fresh" (dVar 0)) aNil))) aNil)))
  (dSeq (dExpr (dBM "list" mAppend (dAttr 15 "rows_done" (dVar 0)) (aCons (dVar 2) aNil)))
  (dSetF 15 "held" (dVar 0) (dVar 1))))
def F_Inn_become : DF := runF 3 3 den_Inn_become

/-! Inn_need -/
abbrev N_Inn_need : List Str := ["self", "number"]
abbrev P_Inn_need : List Str := ["self", "number"]
def den_Inn_need : DS := (dIfS (bOr (bNot (bTest (dCall 3 (viaP F_is_from) (aCons (dVar 1) (aCons (dC (.int 0)) (aCons (dAttr 15 "fresh" (dVar 0)) aNil)))))) (bTest (dOp (fInA true) (dVar 1) (dAttr 15 "held" (dVar 0))))) (dRaise1 9 "number" okShow (dVar 1)) dSkip)
def F_Inn_need : DF := runF 2 2 den_Inn_need

/-! Inn_lay -/
abbrev N_Inn_lay : List Str := ["self", "first", "last", "mark", "value", "number"]
abbrev P_Inn_lay : List Str := ["self", "first", "last", "mark", "value"]
def den_Inn_lay : DS := (dSeq (dIfS (bNot (bTest (dCall 4 (viaP F_is_span) (aCons (dVar 1) (aCons (dVar 2) (aCons (dVar 3) (aCons (dVar 4) aNil))))))) (dRaise0 8) dSkip)
  (dSeq (dSet 5 (dAttr 15 "fresh" (dVar 0)))
  (dSeq (dExpr (dMeth 15 "become" 3 (viaT F_Inn_become) (dVar 0) (aCons (dStar (dAttr 15 "held" (dVar 0)) (dVar 5) (dTup (aCons (dVar 1) (aCons (dVar 2) (aCons (dVar 3) (aCons (dVar 4) aNil)))))) (aCons (dTup (aCons (dC (.str "lay")) (aCons (dVar 1) (aCons (dVar 2) (aCons (dVar 3) (aCons (dVar 4) aNil)))))) aNil))))
  (dSeq (dSetF 15 "fresh" (dVar 0) (dOp fAdd (dVar 5) (dC (.int 1))))
  (dRet (dVar 5))))))
def F_Inn_lay : DF := runF 5 6 den_Inn_lay

/-! Inn_change -/
abbrev N_Inn_change : List Str := ["self", "number", "value", "first", "last", "mark", "old", "held"]
abbrev P_Inn_change : List Str := ["self", "number", "value"]
def den_Inn_change : DS := (dSeq (dExpr (dMeth 15 "need" 2 (viaT F_Inn_need) (dVar 0) (aCons (dVar 1) aNil)))
  (dSeq (dAsg (.tp [3, 4, 5, 6]) (dOp fIxA (dAttr 15 "held" (dVar 0)) (dVar 1)))
  (dSeq (dIfS (bNot (bTest (dCall 3 (viaP F_is_value) (aCons (dVar 5) (aCons (dVar 2) (aCons (dC (.int 1000000000)) aNil)))))) (dRaise0 8) dSkip)
  (dSeq (dSet 7 (dDictC (aCons (dAttr 15 "held" (dVar 0)) aNil)))
  (dSeq (dIfS (bTest (dOp (fEqA false) (dOp fIxA (dAttr 15 "parts" (dVar 0)) (dC (.str "changed"))) (dC (.str "newest")))) (dExpr (dBM "dict" mPopD (dVar 7) (aCons (dVar 1) aNil))) dSkip)
  (dSeq (dSetA (dVar 7) (dVar 1) (dTup (aCons (dVar 3) (aCons (dVar 4) (aCons (dVar 5) (aCons (dVar 2) aNil))))))
  (dExpr (dMeth 15 "become" 3 (viaT F_Inn_become) (dVar 0) (aCons (dFz (dVar 7)) (aCons (dTup (aCons (dC (.str "change")) (aCons (dVar 1) (aCons (dVar 2) aNil)))) aNil))))))))))
def F_Inn_change : DF := runF 3 8 den_Inn_change

/-! Inn_drop -/
abbrev N_Inn_drop : List Str := ["self", "number", "held", "one", "span"]
abbrev P_Inn_drop : List Str := ["self", "number"]
def den_Inn_drop : DS := (dSeq (dExpr (dMeth 15 "need" 2 (viaT F_Inn_need) (dVar 0) (aCons (dVar 1) aNil)))
  (dSeq (dSet 2 (dDcC [3, 4] (.tp [3, 4]) (iIt (dAttr 15 "held" (dVar 0))) (bTest (dOp (fEqA true) (dVar 3) (dVar 1))) (dVar 3) (dVar 4)))
  (dExpr (dMeth 15 "become" 3 (viaT F_Inn_become) (dVar 0) (aCons (dFz (dVar 2)) (aCons (dTup (aCons (dC (.str "drop")) (aCons (dVar 1) aNil))) aNil))))))
def F_Inn_drop : DF := runF 2 5 den_Inn_drop

/-! Inn_bars -/
abbrev N_Inn_bars : List Str := ["self", "come", "go"]
abbrev P_Inn_bars : List Str := ["self", "come", "go"]
def den_Inn_bars : DS := (dSeq (dIfS (bOr (bNot (bTest (dCall 3 (viaP F_is_from) (aCons (dVar 1) (aCons (dC (.int 0)) (aCons (dC (.int 1000000000)) aNil)))))) (bOr (bNot (bTest (dCall 3 (viaP F_is_from) (aCons (dVar 2) (aCons (dC (.int 0)) (aCons (dC (.int 1000000000)) aNil)))))) (bTest (dOp fGe (dVar 1) (dVar 2))))) (dRaise0 7) dSkip)
  (dRet dNone))
def F_Inn_bars : DF := runF 3 3 den_Inn_bars

/-! Inn_longest -/
abbrev N_Inn_longest : List Str := ["self", "come"]
abbrev P_Inn_longest : List Str := ["self", "come"]
def den_Inn_longest : DS := (dSeq (dIfS (bNot (bTest (dCall 3 (viaP F_is_from) (aCons (dVar 1) (aCons (dC (.int 0)) (aCons (dC (.int 1000000000)) aNil)))))) (dRaise0 7) dSkip)
  (dRet dNone))
def F_Inn_longest : DF := runF 2 2 den_Inn_longest

/-! _law_draws -/
abbrev N__law_draws : List Str := ["_law_script"]
abbrev P__law_draws : List Str := ["_law_script"]
def den__law_draws : DS := (dRet (dCellL (aCons (dB bList (aCons (dVar 0) aNil)) (aCons (dC (.int 0)) (aCons (dC (.int 0)) (aCons (dC (.int 7)) aNil))))))
def F__law_draws : DF := runF 1 1 den__law_draws

/-! _law_pick -/
abbrev N__law_pick : List Str := ["_law_row", "_law_many", "_law_cell", "_law_found"]
abbrev P__law_pick : List Str := ["_law_row", "_law_many"]
def den__law_pick : DS := (dSeq (dIfS (bTest (dOp (fEqA false) (dOp fIxA (dVar 0) (dC (.int 2))) (dC (.int 0)))) (dIfS (bTest (dOp fLt (dOp fIxA (dVar 0) (dC (.int 1))) (dB bLen (aCons (dOp fIxA (dVar 0) (dC (.int 0))) aNil)))) (dSeq (dSet 2 (dOp fIxA (dOp fIxA (dVar 0) (dC (.int 0))) (dOp fIxA (dVar 0) (dC (.int 1)))))
  (dSeq (dSetA (dVar 0) (dC (.int 1)) (dOp fAdd (dOp fIxA (dVar 0) (dC (.int 1))) (dC (.int 1))))
  (dIfS (bTest (dOp fGe (dVar 2) (dOp fPow (dC (.int 10)) (dC (.int 18))))) (dSetA (dVar 0) (dC (.int 2)) (dVar 2)) (dSetA (dVar 0) (dC (.int 3)) (dOp fMod (dB bInt (aCons (dOp fAdd (dOp fAdd (dOp fMul (dOp fIxA (dVar 0) (dC (.int 3))) (dC (.int 48271))) (dOp fMul (dVar 2) (dC (.int 69621)))) (dC (.int 11))) aNil)) (dC (.int 2147483647))))))) (dSetA (dVar 0) (dC (.int 3)) (dOp fMod (dB bInt (aCons (dOp fAdd (dOp fMul (dOp fIxA (dVar 0) (dC (.int 3))) (dC (.int 48271))) (dC (.int 7))) aNil)) (dC (.int 2147483647))))) dSkip)
  (dSeq (dIfS (bTest (dOp fGt (dOp fIxA (dVar 0) (dC (.int 2))) (dC (.int 0)))) (dSeq (dSet 3 (dOp fMod (dB bInt (aCons (dOp fIxA (dVar 0) (dC (.int 2))) aNil)) (dVar 1)))
  (dSeq (dSetA (dVar 0) (dC (.int 2)) (dOp fDiv (dOp fIxA (dVar 0) (dC (.int 2))) (dVar 1)))
  (dRet (dVar 3)))) dSkip)
  (dRet (dOp fMod (dOp fMod (dB bInt (aCons (dOp fMul (dOp fIxA (dVar 0) (dC (.int 3))) (dC (.int 16807))) aNil)) (dC (.int 2147483629))) (dVar 1)))))
def F__law_pick : DF := runF 2 4 den__law_pick

/-! _law_parts -/
abbrev N__law_parts : List Str := ["_law_found"]
abbrev P__law_parts : List Str := []
def den__law_parts : DS := (dSeq (dSet 0 (dLst (aCons (dTup (aCons (dC (.str "changed")) (aCons (dLst (aCons (dC (.str "newest")) (aCons (dC (.str "stays")) aNil))) aNil))) (aCons (dTup (aCons (dC (.str "ends")) (aCons (dLst (aCons (dC (.str "closed")) (aCons (dC (.str "open")) aNil))) aNil))) (aCons (dTup (aCons (dC (.str "lengths")) (aCons (dLst (aCons (dC (.str "coming")) (aCons (dC (.str "nights")) aNil))) aNil))) aNil)))))
  (dRet (dOp fAdd (dVar 0) (dLst (aCons (dTup (aCons (dC (.str "over")) (aCons (dLst (aCons (dC (.str "first")) (aCons (dC (.str "newest")) (aCons (dC (.str "strictest")) aNil)))) aNil))) (aCons (dTup (aCons (dC (.str "shut")) (aCons (dLst (aCons (dC (.str "coming")) (aCons (dC (.str "nights")) aNil))) aNil))) aNil))))))
def F__law_parts : DF := runF 0 1 den__law_parts

/-! _law_marks -/
abbrev N__law_marks : List Str := []
abbrev P__law_marks : List Str := []
def den__law_marks : DS := (dRet (dLst (aCons (dC (.str "least")) (aCons (dC (.str "most")) (aCons (dC (.str "nocome")) (aCons (dC (.str "nogo")) (aCons (dC (.str "shut")) aNil)))))))
def F__law_marks : DF := runF 0 0 den__law_marks

/-! _law_rule -/
abbrev N__law_rule : List Str := ["_law_row", "_law_found", "_law_part", "_law_words"]
abbrev P__law_rule : List Str := ["_law_row"]
def den__law_rule : DS := (dSeq (dSet 1 dDicC)
  (dSeq (dFor (.tp [2, 3]) (iLst (dCall 0 (viaP F__law_parts) aNil)) (dSetA (dVar 1) (dVar 2) (dOp fIxA (dVar 3) (dCall 2 (viaR F__law_pick) (aCons (dVar 0) (aCons (dB bLen (aCons (dVar 3) aNil)) aNil))))))
  (dRet (dFz (dVar 1)))))
def F__law_rule : DF := runF 1 4 den__law_rule

/-! _law_inn_span -/
abbrev N__law_inn_span : List Str := ["_law_row", "_law_far", "_law_mark", "_law_first", "_law_last", "_law_value"]
abbrev P__law_inn_span : List Str := ["_law_row", "_law_far"]
def den__law_inn_span : DS := (dSeq (dSet 2 (dOp fIxA (dCall 0 (viaP F__law_marks) aNil) (dCall 2 (viaR F__law_pick) (aCons (dVar 0) (aCons (dC (.int 5)) aNil)))))
  (dSeq (dSet 3 (dCall 2 (viaR F__law_pick) (aCons (dVar 0) (aCons (dVar 1) aNil))))
  (dSeq (dSet 4 (dOp fAdd (dVar 3) (dCall 2 (viaR F__law_pick) (aCons (dVar 0) (aCons (dVar 1) aNil)))))
  (dSeq (dSet 5 (dIf (bTest (dOp (fInA false) (dVar 2) (dLst (aCons (dC (.str "least")) (aCons (dC (.str "most")) aNil))))) (dOp fAdd (dC (.int 1)) (dCall 2 (viaR F__law_pick) (aCons (dVar 0) (aCons (dVar 1) aNil)))) (dCall 2 (viaR F__law_pick) (aCons (dVar 0) (aCons (dC (.int 2)) aNil)))))
  (dRet (dTup (aCons (dVar 3) (aCons (dVar 4) (aCons (dVar 2) (aCons (dVar 5) aNil))))))))))
def F__law_inn_span : DF := runF 2 6 den__law_inn_span

/-! _law_inn_led -/
abbrev N__law_inn_led : List Str := ["_law_row", "_law_rule_here", "_law_inn", "_law_held", "_law_fresh", "_law_far", "_law_turn_of", "_law_span", "_law_at", "_law_number", "_law_value", "_law_new", "_law_deed"]
abbrev P__law_inn_led : List Str := ["_law_row", "_law_rule_here", "_law_inn", "_law_held", "_law_fresh", "_law_far"]
def den__law_inn_led : DS := (dSeq (dSet 6 (dCall 2 (viaR F__law_pick) (aCons (dVar 0) (aCons (dC (.int 6)) aNil))))
  (dSeq (dIfS (bOr (bTest (dOp fLt (dVar 6) (dC (.int 3)))) (bTest (dOp (fEqA false) (dVar 3) (dLst aNil)))) (dSeq (dSet 7 (dCall 2 (viaR F__law_inn_span) (aCons (dVar 0) (aCons (dVar 5) aNil))))
  (dSeq (dIfS (bTest (dOp (fEqA true) (dMeth 15 "lay" 5 (viaT F_Inn_lay) (dVar 2) (aCons (dOp fIxA (dVar 7) (dC (.int 0))) (aCons (dOp fIxA (dVar 7) (dC (.int 1))) (aCons (dOp fIxA (dVar 7) (dC (.int 2))) (aCons (dOp fIxA (dVar 7) (dC (.int 3))) aNil))))) (dVar 4))) (dRet (dC .non)) dSkip)
  (dRet (dLst (aCons (dOp fAdd (dVar 3) (dLst (aCons (dTup (aCons (dVar 4) (aCons (dVar 7) aNil))) aNil))) (aCons (dOp fAdd (dVar 4) (dC (.int 1))) (aCons (dOp fAdd (dTup (aCons (dC (.str "lay")) aNil)) (dVar 7)) aNil))))))) dSkip)
  (dSeq (dSet 8 (dCall 2 (viaR F__law_pick) (aCons (dVar 0) (aCons (dB bLen (aCons (dVar 3) aNil)) aNil))))
  (dSeq (dAsg (.tp [9, 7]) (dOp fIxA (dVar 3) (dVar 8)))
  (dSeq (dIfS (bTest (dOp (fEqA false) (dVar 6) (dC (.int 3)))) (dSeq (dIfS (bTest (dOp (fIsN true) (dMeth 15 "drop" 2 (viaT F_Inn_drop) (dVar 2) (aCons (dVar 9) aNil)) (dC .non))) (dRet (dC .non)) dSkip)
  (dRet (dLst (aCons (dOp fAdd (dSl (dVar 3) oNone (oSome (dVar 8))) (dSl (dVar 3) (oSome (dOp fAdd (dVar 8) (dC (.int 1)))) oNone)) (aCons (dVar 4) (aCons (dTup (aCons (dC (.str "drop")) (aCons (dVar 9) aNil))) aNil)))))) dSkip)
  (dSeq (dSet 10 (dIf (bTest (dOp (fInA false) (dOp fIxA (dVar 7) (dC (.int 2))) (dLst (aCons (dC (.str "least")) (aCons (dC (.str "most")) aNil))))) (dOp fAdd (dC (.int 1)) (dCall 2 (viaR F__law_pick) (aCons (dVar 0) (aCons (dVar 5) aNil)))) (dCall 2 (viaR F__law_pick) (aCons (dVar 0) (aCons (dC (.int 2)) aNil)))))
  (dSeq (dPar 11 12 (aCons (dTup (aCons (dVar 9) (aCons (dOp fAdd (dSl (dVar 7) oNone (oSome (dC (.int 3)))) (dTup (aCons (dVar 10) aNil))) aNil))) (aCons (dTup (aCons (dC (.str "change")) (aCons (dVar 9) (aCons (dVar 10) aNil)))) aNil)))
  (dSeq (dIfS (bTest (dOp (fIsN true) (dMeth 15 "change" 3 (viaT F_Inn_change) (dVar 2) (aCons (dVar 9) (aCons (dVar 10) aNil))) (dC .non))) (dRet (dC .non)) dSkip)
  (dSeq (dIfS (bTest (dOp (fEqA false) (dOp fIxA (dVar 1) (dC (.str "changed"))) (dC (.str "newest")))) (dRet (dLst (aCons (dOp fAdd (dOp fAdd (dSl (dVar 3) oNone (oSome (dVar 8))) (dSl (dVar 3) (oSome (dOp fAdd (dVar 8) (dC (.int 1)))) oNone)) (dLst (aCons (dVar 11) aNil))) (aCons (dVar 4) (aCons (dVar 12) aNil))))) dSkip)
  (dRet (dLst (aCons (dOp fAdd (dOp fAdd (dSl (dVar 3) oNone (oSome (dVar 8))) (dLst (aCons (dVar 11) aNil))) (dSl (dVar 3) (oSome (dOp fAdd (dVar 8) (dC (.int 1)))) oNone)) (aCons (dVar 4) (aCons (dVar 12) aNil))))))))))))))
def F__law_inn_led : DF := runF 6 13 den__law_inn_led

/-! _law_told -/
abbrev N__law_told : List Str := ["_law_inn", "_law_deed", "_law_told_here", "e"]
abbrev P__law_told : List Str := ["_law_inn", "_law_deed"]
def den__law_told : DS := (dSeq (dSet 2 (dC .non))
  (dSeq (dTry (dIfS (bTest (dOp (fEqA false) (dOp fIxA (dVar 1) (dC (.int 0))) (dC (.str "lay")))) (dExpr (dMeth 15 "lay" 5 (viaT F_Inn_lay) (dVar 0) (aCons (dOp fIxA (dVar 1) (dC (.int 1))) (aCons (dOp fIxA (dVar 1) (dC (.int 2))) (aCons (dOp fIxA (dVar 1) (dC (.int 3))) (aCons (dOp fIxA (dVar 1) (dC (.int 4))) aNil)))))) (dIfS (bTest (dOp (fEqA false) (dOp fIxA (dVar 1) (dC (.int 0))) (dC (.str "change")))) (dExpr (dMeth 15 "change" 3 (viaT F_Inn_change) (dVar 0) (aCons (dOp fIxA (dVar 1) (dC (.int 1))) (aCons (dOp fIxA (dVar 1) (dC (.int 2))) aNil)))) (dIfS (bTest (dOp (fEqA false) (dOp fIxA (dVar 1) (dC (.int 0))) (dC (.str "drop")))) (dExpr (dMeth 15 "drop" 2 (viaT F_Inn_drop) (dVar 0) (aCons (dOp fIxA (dVar 1) (dC (.int 1))) aNil))) (dIfS (bTest (dOp (fEqA false) (dOp fIxA (dVar 1) (dC (.int 0))) (dC (.str "bars")))) (dExpr (dMeth 15 "bars" 3 (viaT F_Inn_bars) (dVar 0) (aCons (dOp fIxA (dVar 1) (dC (.int 1))) (aCons (dOp fIxA (dVar 1) (dC (.int 2))) aNil)))) (dExpr (dMeth 15 "longest" 2 (viaT F_Inn_longest) (dVar 0) (aCons (dOp fIxA (dVar 1) (dC (.int 1))) aNil))))))) [⟨mt_BadSpan, some 3, fun c ns vs => dSet 2 ((dIf (bTest (dXi 8 true c ns vs)) (dLst (aCons (dC (.str "span")) aNil)) (dC (.str "another"))))⟩, ⟨mt_NoSpan, some 3, fun c ns vs => dSet 2 ((dLst (aCons (dC (.str "none")) (aCons (dXf 9 "number" c ns vs) aNil))))⟩, ⟨mt_BadStay, none, fun _ _ _ => (dSet 2 (dLst (aCons (dC (.str "stay")) aNil)))⟩])
  (dRet (dVar 2))))
def F__law_told : DF := runF 2 4 den__law_told

/-! _law_rule_told -/
abbrev N__law_rule_told : List Str := ["_law_rule_here", "_law_told_here", "e"]
abbrev P__law_rule_told : List Str := ["_law_rule_here"]
def den__law_rule_told : DS := (dSeq (dSet 1 (dC .non))
  (dSeq (dTry (dExpr (dMake 15 2 F_Inn_init (aCons (dVar 0) aNil))) [⟨mt_BadRule, some 2, fun c ns vs => dSet 1 ((dXf 5 "part" c ns vs))⟩])
  (dRet (dVar 1))))
def F__law_rule_told : DF := runF 1 3 den__law_rule_told

/-! law -/
abbrev N_law : List Str := ["_law_script", "_law_row", "_law_rule_here", "_law_inn", "_law_held", "_law_fresh", "_law_turn", "_law_deed", "_law_log", "_law_top", "_law_numbers", "_law_odd", "_law_number", "_law_told_here", "_law_span", "_law_bad", "_law_spoilt", "_law_part", "_law_k", "_law_value"]
abbrev P_law : List Str := ["_law_script"]
def den_law : DS := (dSeq (dSet 1 (dCall 1 (viaK F__law_draws) (aCons (dVar 0) aNil)))
  (dSeq (dSet 2 (dCall 1 (viaR F__law_rule) (aCons (dVar 1) aNil)))
  (dSeq (dAsg (.tp [3, 4, 5]) (dTup (aCons (dMake 15 2 F_Inn_init (aCons (dVar 2) aNil)) (aCons (dLst aNil) (aCons (dC (.int 0)) aNil)))))
  (dSeq (dFor (.nm 6) (iRng1 (dOp fAdd (dC (.int 1)) (dCall 2 (viaR F__law_pick) (aCons (dVar 1) (aCons (dC (.int 8)) aNil))))) (dAsgL [4, 5, 7] (dCall 6 (viaT F__law_inn_led) (aCons (dVar 1) (aCons (dVar 2) (aCons (dVar 3) (aCons (dVar 4) (aCons (dVar 5) (aCons (dC (.int 9)) aNil)))))))))
  (dSeq (dPar 8 9 (aCons (dPropV 15 (viaT F_Inn_log) (dVar 3)) (aCons (dOp fPow (dC (.int 10)) (dC (.int 9))) aNil)))
  (dSeq (dSet 10 (dLc [12, 14] (.tp [12, 14]) (iLst (dVar 4)) bYes (dVar 12)))
  (dSeq (dSet 11 (dCellL (aCons (dTup (aCons (dC (.str "lay")) (aCons (dUn fNeg (dC (.int 1))) (aCons (dC (.int 0)) (aCons (dC (.str "shut")) (aCons (dC (.int 1)) aNil)))))) (aCons (dTup (aCons (dC (.str "lay")) (aCons (dC (.int 2)) (aCons (dC (.int 1)) (aCons (dC (.str "shut")) (aCons (dC (.int 1)) aNil)))))) (aCons (dTup (aCons (dC (.str "lay")) (aCons (dC (.int 0)) (aCons (dOp fAdd (dVar 9) (dC (.int 1))) (aCons (dC (.str "shut")) (aCons (dC (.int 1)) aNil)))))) aNil)))))
  (dSeq (dExpr (dBM "list" mAppend (dVar 11) (aCons (dTup (aCons (dC (.str "lay")) (aCons (dC (.int 0)) (aCons (dC (.int 0)) (aCons (dC (.str "none")) (aCons (dC (.int 1)) aNil)))))) aNil)))
  (dSeq (dSet 11 (dOp fAddC (dVar 11) (dLst (aCons (dTup (aCons (dC (.str "lay")) (aCons (dC (.int 0)) (aCons (dC (.int 0)) (aCons (dC (.str "shut")) (aCons (dC (.int 2)) aNil)))))) (aCons (dTup (aCons (dC (.str "lay")) (aCons (dC (.int 0)) (aCons (dC (.int 0)) (aCons (dC (.str "least")) (aCons (dC (.int 0)) aNil)))))) (aCons (dTup (aCons (dC (.str "lay")) (aCons (dC (.int 0)) (aCons (dC (.int 0)) (aCons (dC (.str "most")) (aCons (dOp fAdd (dVar 9) (dC (.int 1))) aNil)))))) aNil))))))
  (dSeq (dSet 11 (dOp fAddC (dVar 11) (dLst (aCons (dTup (aCons (dC (.str "lay")) (aCons (dC (.int 0)) (aCons (dC (.int 0)) (aCons (dC .non) (aCons (dC (.int 1)) aNil)))))) (aCons (dTup (aCons (dC (.str "lay")) (aCons (dC (.bl true)) (aCons (dC (.int 1)) (aCons (dC (.str "shut")) (aCons (dC (.int 1)) aNil)))))) (aCons (dTup (aCons (dC (.str "lay")) (aCons (dC (.int 0)) (aCons (dC (.int 0)) (aCons (dC (.str "nogo")) (aCons (dC (.bl true)) aNil)))))) aNil))))))
  (dSeq (dExpr (dBM "list" mAppend (dVar 11) (aCons (dTup (aCons (dC (.str "lay")) (aCons (dC (.str "0")) (aCons (dC (.int 0)) (aCons (dC (.str "shut")) (aCons (dC (.int 1)) aNil)))))) aNil)))
  (dSeq (dFor (.nm 7) (iLst (dFz (dVar 11))) (dIfS (bTest (dOp (fEqA true) (dCall 2 (viaT F__law_told) (aCons (dVar 3) (aCons (dVar 7) aNil))) (dLst (aCons (dC (.str "span")) aNil)))) (dRet (dC (.bl false))) dSkip))
  (dSeq (dFor (.nm 12) (iLst (dOp fAdd (dLst (aCons (dVar 5) (aCons (dUn fNeg (dC (.int 1))) (aCons (dC .non) (aCons (dC (.bl true)) (aCons (dC (.str "0")) (aCons (dTup (aCons (dC (.int 0)) aNil)) aNil))))))) (dLc [18] (.nm 18) (iRng1 (dVar 5)) (bTest (dOp (fInA true) (dVar 18) (dVar 10))) (dVar 18)))) (dSeq (dSet 13 (dLst (aCons (dCall 2 (viaT F__law_told) (aCons (dVar 3) (aCons (dTup (aCons (dC (.str "drop")) (aCons (dVar 12) aNil))) aNil))) (aCons (dCall 2 (viaT F__law_told) (aCons (dVar 3) (aCons (dTup (aCons (dC (.str "change")) (aCons (dVar 12) (aCons (dC .non) aNil)))) aNil))) aNil))))
  (dIfS (bTest (dOp (fEqA true) (dVar 13) (dOp fMulL (dLst (aCons (dLst (aCons (dC (.str "none")) (aCons (dVar 12) aNil))) aNil)) (dC (.int 2))))) (dRet (dC (.bl false))) dSkip)))
  (dSeq (dFor (.tp [12, 14]) (iLst (dVar 4)) (dSeq (dSet 15 (dIf (bTest (dOp (fInA false) (dOp fIxA (dVar 14) (dC (.int 2))) (dLst (aCons (dC (.str "nocome")) (aCons (dC (.str "nogo")) (aCons (dC (.str "shut")) aNil)))))) (dLst (aCons (dC (.int 2)) (aCons (dUn fNeg (dC (.int 1))) (aCons (dC (.bl true)) (aCons (dC .non) aNil))))) (dLst (aCons (dC (.int 0)) (aCons (dOp fAdd (dVar 9) (dC (.int 1))) (aCons (dC (.bl true)) (aCons (dC (.str "1")) aNil)))))))
  (dIfS (bTest (dOp (fEqA true) (dLc [19] (.nm 19) (iLst (dVar 15)) (bTest (dOp (fEqA true) (dCall 2 (viaT F__law_told) (aCons (dVar 3) (aCons (dTup (aCons (dC (.str "change")) (aCons (dVar 12) (aCons (dVar 19) aNil)))) aNil))) (dLst (aCons (dC (.str "span")) aNil)))) (dVar 19)) (dLst aNil))) (dRet (dC (.bl false))) dSkip)))
  (dSeq (dSet 11 (dCellL (aCons (dTup (aCons (dC (.str "bars")) (aCons (dC (.int 1)) (aCons (dC (.int 1)) aNil)))) (aCons (dTup (aCons (dC (.str "bars")) (aCons (dC (.int 2)) (aCons (dC (.int 1)) aNil)))) (aCons (dTup (aCons (dC (.str "bars")) (aCons (dUn fNeg (dC (.int 1))) (aCons (dC (.int 1)) aNil)))) (aCons (dTup (aCons (dC (.str "bars")) (aCons (dC (.int 0)) (aCons (dOp fAdd (dVar 9) (dC (.int 1))) aNil)))) (aCons (dTup (aCons (dC (.str "bars")) (aCons (dC .non) (aCons (dC (.int 1)) aNil)))) aNil)))))))
  (dSeq (dFor (.nm 7) (iLst (dOp fAdd (dVar 11) (dLst (aCons (dTup (aCons (dC (.str "longest")) (aCons (dUn fNeg (dC (.int 1))) aNil))) aNil)))) (dIfS (bTest (dOp (fEqA true) (dCall 2 (viaT F__law_told) (aCons (dVar 3) (aCons (dVar 7) aNil))) (dLst (aCons (dC (.str "stay")) aNil)))) (dRet (dC (.bl false))) dSkip))
  (dSeq (dIfS (bOr (bTest (dOp (fEqA true) (dCall 2 (viaT F__law_told) (aCons (dVar 3) (aCons (dTup (aCons (dC (.str "longest")) (aCons (dOp fAdd (dVar 9) (dC (.int 1))) aNil))) aNil))) (dLst (aCons (dC (.str "stay")) aNil)))) (bTest (dOp (fEqA true) (dCall 2 (viaT F__law_told) (aCons (dVar 3) (aCons (dTup (aCons (dC (.str "longest")) (aCons (dC (.bl true)) aNil))) aNil))) (dLst (aCons (dC (.str "stay")) aNil))))) (dRet (dC (.bl false))) dSkip)
  (dSeq (dSet 16 (dDictC (aCons (dVar 2) aNil)))
  (dSeq (dSet 17 (dOp fIxA (dOp fIxA (dCall 0 (viaP F__law_parts) aNil) (dCall 2 (viaR F__law_pick) (aCons (dVar 1) (aCons (dC (.int 5)) aNil)))) (dC (.int 0))))
  (dSeq (dSetA (dVar 16) (dVar 17) (dOp fIxA (dLst (aCons (dC (.str "no")) (aCons (dC .non) (aCons (dC (.int 1)) aNil)))) (dCall 2 (viaR F__law_pick) (aCons (dVar 1) (aCons (dC (.int 3)) aNil)))))
  (dSeq (dIfS (bOr (bTest (dOp (fEqA true) (dCall 1 (viaP F__law_rule_told) (aCons (dFz (dVar 16)) aNil)) (dVar 17))) (bOr (bTest (dOp (fEqA true) (dCall 1 (viaP F__law_rule_told) (aCons (dC .non) aNil)) (dC (.str "")))) (bTest (dOp (fEqA true) (dCall 1 (viaP F__law_rule_told) (aCons dDic0 aNil)) (dC (.str "")))))) (dRet (dC (.bl false))) dSkip)
  (dRet (dAnd (dOp (fEqA false) (dLItems (dPropV 15 (viaT F_Inn_spans) (dVar 3))) (dVar 4)) (dOp (fEqA false) (dPropV 15 (viaT F_Inn_log) (dVar 3)) (dVar 8)))))))))))))))))))))))))
def F_law : DF := runF 1 20 den_law

/-! ### facts -/
def fn : List He.DefD := [⟨("is_integer", none), "is_integer", "is_integer", defArgs s_is_integer, defBody s_is_integer, defScope s_is_integer, [], []⟩,
  ⟨("is_from", none), "is_from", "is_from", defArgs s_is_from, defBody s_is_from, defScope s_is_from, [], []⟩,
  ⟨("is_one_of", none), "is_one_of", "is_one_of", defArgs s_is_one_of, defBody s_is_one_of, defScope s_is_one_of, [], []⟩,
  ⟨("check_rule", none), "check_rule", "check_rule", defArgs s_check_rule, defBody s_check_rule, defScope s_check_rule, [], []⟩,
  ⟨("is_value", none), "is_value", "is_value", defArgs s_is_value, defBody s_is_value, defScope s_is_value, [], []⟩,
  ⟨("is_span", none), "is_span", "is_span", defArgs s_is_span, defBody s_is_span, defScope s_is_span, [], []⟩,
  ⟨("Inn", some "__init__"), "__init__", "Inn.__init__", defArgs s_Inn_init, defBody s_Inn_init, defScope s_Inn_init, [], []⟩,
  ⟨("Inn", some "become"), "become", "Inn.become", defArgs s_Inn_become, defBody s_Inn_become, defScope s_Inn_become, [], []⟩,
  ⟨("Inn", some "need"), "need", "Inn.need", defArgs s_Inn_need, defBody s_Inn_need, defScope s_Inn_need, [], []⟩,
  ⟨("Inn", some "lay"), "lay", "Inn.lay", defArgs s_Inn_lay, defBody s_Inn_lay, defScope s_Inn_lay, [], []⟩,
  ⟨("Inn", some "change"), "change", "Inn.change", defArgs s_Inn_change, defBody s_Inn_change, defScope s_Inn_change, [], []⟩,
  ⟨("Inn", some "drop"), "drop", "Inn.drop", defArgs s_Inn_drop, defBody s_Inn_drop, defScope s_Inn_drop, [], []⟩,
  ⟨("Inn", some "bars"), "bars", "Inn.bars", defArgs s_Inn_bars, defBody s_Inn_bars, defScope s_Inn_bars, [], []⟩,
  ⟨("Inn", some "longest"), "longest", "Inn.longest", defArgs s_Inn_longest, defBody s_Inn_longest, defScope s_Inn_longest, [], []⟩,
  ⟨("_law_draws", none), "_law_draws", "_law_draws", defArgs s__law_draws, defBody s__law_draws, defScope s__law_draws, [], []⟩,
  ⟨("_law_pick", none), "_law_pick", "_law_pick", defArgs s__law_pick, defBody s__law_pick, defScope s__law_pick, [], []⟩,
  ⟨("_law_parts", none), "_law_parts", "_law_parts", defArgs s__law_parts, defBody s__law_parts, defScope s__law_parts, [], []⟩,
  ⟨("_law_marks", none), "_law_marks", "_law_marks", defArgs s__law_marks, defBody s__law_marks, defScope s__law_marks, [], []⟩,
  ⟨("_law_rule", none), "_law_rule", "_law_rule", defArgs s__law_rule, defBody s__law_rule, defScope s__law_rule, [], []⟩,
  ⟨("_law_inn_span", none), "_law_inn_span", "_law_inn_span", defArgs s__law_inn_span, defBody s__law_inn_span, defScope s__law_inn_span, [], []⟩,
  ⟨("_law_inn_led", none), "_law_inn_led", "_law_inn_led", defArgs s__law_inn_led, defBody s__law_inn_led, defScope s__law_inn_led, [], []⟩,
  ⟨("_law_told", none), "_law_told", "_law_told", defArgs s__law_told, defBody s__law_told, defScope s__law_told, [], []⟩,
  ⟨("_law_rule_told", none), "_law_rule_told", "_law_rule_told", defArgs s__law_rule_told, defBody s__law_rule_told, defScope s__law_rule_told, [], []⟩,
  ⟨("law", none), "law", "law", defArgs s_law, defBody s_law, defScope s_law, [], []⟩]
def fa : List He.Fa := [.free "isinstance", .free "int", .free "bool", .glo "is_integer", .free "str", .free "dict", .free "len", .glo "PARTS", .glo "BadRule", .free "list", .glo "is_one_of", .free "all", .glo "is_from", .glo "is_value", .glo "check_rule", .cls "Inn", .noat "Inn" "parts", .noat "Inn" "held", .noat "Inn" "fresh", .noat "Inn" "past", .noat "Inn" "rows_done", .glo "NoSpan", .glo "is_span", .glo "BadSpan", .meth "Inn" "become", .meth "Inn" "need", .glo "BadStay", .glo "_law_parts", .glo "_law_pick", .glo "_law_marks", .glo "_law_inn_span", .meth "Inn" "lay", .meth "Inn" "drop", .meth "Inn" "change", .meth "Inn" "bars", .meth "Inn" "longest", .glo "StayError", .mkr "Inn", .glo "Inn", .glo "_law_draws", .glo "_law_rule", .free "range", .glo "_law_inn_led", .glo "_law_told", .glo "_law_rule_told", .glo "law", .free "super"]
def ts : List He.Tab := [(fun K => He.ga K "PARTS", PARTS_ks0)]
def exs : List (PySem.W.Frag → Bool) := [excWhole "BadRule", excMade "BadRule", gvB "LENGTHS" (.tup [(.str "least"), (.str "most")]), gvB "LAST" (.int 1000000000), gvB "MARKS" (.tup [(.str "least"), (.str "most"), (.str "nocome"), (.str "nogo"), (.str "shut")]), excWhole "NoSpan", excMade "NoSpan", excWhole "BadSpan", excMade "BadSpan", excWhole "BadStay", excMade "BadStay", excSeen "NoSpan", noFld "NoSpan" "number", excSeen "BadSpan", kitB "BadSpan" "StayError" true, excSeen "BadRule", noFld "BadRule" "part", stB (fun K => He.ga K "PARTS") PARTS_vs, excText fileP "BadRule", excText fileP "BadStay", excText fileP "BadSpan", excText fileP "NoSpan", exmB "BadRule" "BadStay" false, exmB "BadStay" "BadStay" true, exmB "BadSpan" "BadStay" false, exmB "NoSpan" "BadStay" false, exmB "BadRule" "NoSpan" false, exmB "BadStay" "NoSpan" false, exmB "BadSpan" "NoSpan" false, exmB "NoSpan" "NoSpan" true, exmB "BadRule" "BadSpan" false, exmB "BadStay" "BadSpan" false, exmB "BadSpan" "BadSpan" true, exmB "NoSpan" "BadSpan" false, exmB "BadRule" "BadRule" true, exmB "BadStay" "BadRule" false, exmB "BadSpan" "BadRule" false, exmB "NoSpan" "BadRule" false]
def ex (K : PySem.W.Frag) : Bool := exs.all fun f => f K
def xs : List XDef := [⟨"BadRule", "BadRule.__init__", defArgs sx_BadRule, defBody sx_BadRule, defScope sx_BadRule⟩,
  ⟨"BadStay", "BadStay.__init__", defArgs sx_BadStay, defBody sx_BadStay, defScope sx_BadStay⟩,
  ⟨"BadSpan", "BadSpan.__init__", defArgs sx_BadSpan, defBody sx_BadSpan, defScope sx_BadSpan⟩,
  ⟨"NoSpan", "NoSpan.__init__", defArgs sx_NoSpan, defBody sx_NoSpan, defScope sx_NoSpan⟩]
def prs : List PrD := [⟨"Inn", "spans", "Inn.spans", defArgs s_Inn_spans, defBody s_Inn_spans, defScope s_Inn_spans⟩,
  ⟨"Inn", "log", "Inn.log", defArgs s_Inn_log, defBody s_Inn_log, defScope s_Inn_log⟩]
abbrev Wx (P : Program) (w : World) (K : PySem.W.Frag) (mg : Str → Option Value) : Prop := Wp P fileP fa fn ts xs prs ex w K mg
section
variable {P : Program} {w : World} {K : PySem.W.Frag} {mg : Str → Option Value}
theorem exs_at (Wc : Wx P w K mg) (i : Nat) {f : PySem.W.Frag → Bool} (e : exs[i]? = some f) : f K = true := all_mem Wc.more i e
theorem stat_PARTS (Wc : Wx P w K mg) : ∃ o es ep kvs us, StA P w K (He.ga K "PARTS") o es ep kvs us ∧ StR K (clG K) kvs PARTS_ks PARTS_vs ∧ kvs.length = 5 := by
  have e : ts.map (fun t => He.dicW K (t.1 K)) = ts.map fun t => some (He.keysIn w.params t.2) := congrArg (fun z : He.AlT => z.2) Wc.t
  have e2 : (ts.map fun t => He.dicW K (t.1 K))[0]? = (ts.map fun t => some (He.keysIn w.params t.2))[0]? := by rw [e]
  rw [List.getElem?_map, List.getElem?_map, show ts[0]? = some (fun K => He.ga K "PARTS", PARTS_ks0) from rfl] at e2
  exact st_ok (a := fun K => He.ga K "PARTS") (Option.some.inj e2) (exs_at Wc 17 rfl) (by decide +kernel) (by decide +kernel)
theorem fr_isinstance (Wc : Wx P w K mg) : mg "isinstance" = none := Wc.free 0
theorem fr_int (Wc : Wx P w K mg) : mg "int" = none := Wc.free 1
theorem fr_bool (Wc : Wx P w K mg) : mg "bool" = none := Wc.free 2
theorem gl_is_integer (Wc : Wx P w K mg) : mg "is_integer" = some (.ref (He.ga K "is_integer")) := Wc.glo 3
theorem fr_str (Wc : Wx P w K mg) : mg "str" = none := Wc.free 4
theorem fr_dict (Wc : Wx P w K mg) : mg "dict" = none := Wc.free 5
theorem fr_len (Wc : Wx P w K mg) : mg "len" = none := Wc.free 6
theorem gl_PARTS (Wc : Wx P w K mg) : mg "PARTS" = some (.ref (He.ga K "PARTS")) := Wc.glo 7
theorem gl_BadRule (Wc : Wx P w K mg) : mg "BadRule" = some (.ref (He.ga K "BadRule")) := Wc.glo 8
theorem fr_list (Wc : Wx P w K mg) : mg "list" = none := Wc.free 9
theorem gl_is_one_of (Wc : Wx P w K mg) : mg "is_one_of" = some (.ref (He.ga K "is_one_of")) := Wc.glo 10
theorem fr_all (Wc : Wx P w K mg) : mg "all" = none := Wc.free 11
theorem gl_is_from (Wc : Wx P w K mg) : mg "is_from" = some (.ref (He.ga K "is_from")) := Wc.glo 12
theorem gl_is_value (Wc : Wx P w K mg) : mg "is_value" = some (.ref (He.ga K "is_value")) := Wc.glo 13
theorem gl_check_rule (Wc : Wx P w K mg) : mg "check_rule" = some (.ref (He.ga K "check_rule")) := Wc.glo 14
theorem cl_Inn (Wc : Wx P w K mg) : Cls K (He.ga K "Inn") := Wc.cls 15
theorem na_Inn_parts (Wc : Wx P w K mg) : NoAttr K (He.ga K "Inn") "parts" := Wc.noat 16
theorem na_Inn_held (Wc : Wx P w K mg) : NoAttr K (He.ga K "Inn") "held" := Wc.noat 17
theorem na_Inn_fresh (Wc : Wx P w K mg) : NoAttr K (He.ga K "Inn") "fresh" := Wc.noat 18
theorem na_Inn_past (Wc : Wx P w K mg) : NoAttr K (He.ga K "Inn") "past" := Wc.noat 19
theorem na_Inn_rows_done (Wc : Wx P w K mg) : NoAttr K (He.ga K "Inn") "rows_done" := Wc.noat 20
theorem gl_NoSpan (Wc : Wx P w K mg) : mg "NoSpan" = some (.ref (He.ga K "NoSpan")) := Wc.glo 21
theorem gl_is_span (Wc : Wx P w K mg) : mg "is_span" = some (.ref (He.ga K "is_span")) := Wc.glo 22
theorem gl_BadSpan (Wc : Wx P w K mg) : mg "BadSpan" = some (.ref (He.ga K "BadSpan")) := Wc.glo 23
theorem me_Inn_become (Wc : Wx P w K mg) : Meth K (He.ga K "Inn") "become" (He.ma K (He.ga K "Inn") "become") := Wc.meth 24
theorem me_Inn_need (Wc : Wx P w K mg) : Meth K (He.ga K "Inn") "need" (He.ma K (He.ga K "Inn") "need") := Wc.meth 25
theorem gl_BadStay (Wc : Wx P w K mg) : mg "BadStay" = some (.ref (He.ga K "BadStay")) := Wc.glo 26
theorem gl__law_parts (Wc : Wx P w K mg) : mg "_law_parts" = some (.ref (He.ga K "_law_parts")) := Wc.glo 27
theorem gl__law_pick (Wc : Wx P w K mg) : mg "_law_pick" = some (.ref (He.ga K "_law_pick")) := Wc.glo 28
theorem gl__law_marks (Wc : Wx P w K mg) : mg "_law_marks" = some (.ref (He.ga K "_law_marks")) := Wc.glo 29
theorem gl__law_inn_span (Wc : Wx P w K mg) : mg "_law_inn_span" = some (.ref (He.ga K "_law_inn_span")) := Wc.glo 30
theorem me_Inn_lay (Wc : Wx P w K mg) : Meth K (He.ga K "Inn") "lay" (He.ma K (He.ga K "Inn") "lay") := Wc.meth 31
theorem me_Inn_drop (Wc : Wx P w K mg) : Meth K (He.ga K "Inn") "drop" (He.ma K (He.ga K "Inn") "drop") := Wc.meth 32
theorem me_Inn_change (Wc : Wx P w K mg) : Meth K (He.ga K "Inn") "change" (He.ma K (He.ga K "Inn") "change") := Wc.meth 33
theorem me_Inn_bars (Wc : Wx P w K mg) : Meth K (He.ga K "Inn") "bars" (He.ma K (He.ga K "Inn") "bars") := Wc.meth 34
theorem me_Inn_longest (Wc : Wx P w K mg) : Meth K (He.ga K "Inn") "longest" (He.ma K (He.ga K "Inn") "longest") := Wc.meth 35
theorem gl_StayError (Wc : Wx P w K mg) : mg "StayError" = some (.ref (He.ga K "StayError")) := Wc.glo 36
theorem mk_Inn (Wc : Wx P w K mg) : Mk K (He.ga K "Inn") (He.ma K (He.ga K "Inn") "__init__") := Wc.mkr 37
theorem gl_Inn (Wc : Wx P w K mg) : mg "Inn" = some (.ref (He.ga K "Inn")) := Wc.glo 38
theorem gl__law_draws (Wc : Wx P w K mg) : mg "_law_draws" = some (.ref (He.ga K "_law_draws")) := Wc.glo 39
theorem gl__law_rule (Wc : Wx P w K mg) : mg "_law_rule" = some (.ref (He.ga K "_law_rule")) := Wc.glo 40
theorem fr_range (Wc : Wx P w K mg) : mg "range" = none := Wc.free 41
theorem gl__law_inn_led (Wc : Wx P w K mg) : mg "_law_inn_led" = some (.ref (He.ga K "_law_inn_led")) := Wc.glo 42
theorem gl__law_told (Wc : Wx P w K mg) : mg "_law_told" = some (.ref (He.ga K "_law_told")) := Wc.glo 43
theorem gl__law_rule_told (Wc : Wx P w K mg) : mg "_law_rule_told" = some (.ref (He.ga K "_law_rule_told")) := Wc.glo 44
theorem gl_law (Wc : Wx P w K mg) : mg "law" = some (.ref (He.ga K "law")) := Wc.glo 45
theorem fr_super (Wc : Wx P w K mg) : mg "super" = none := Wc.free 46
theorem ex_0 (Wc : Wx P w K mg) : (excWhole "BadRule") K = true := exs_at Wc 0 rfl
theorem ex_1 (Wc : Wx P w K mg) : (excMade "BadRule") K = true := exs_at Wc 1 rfl
theorem ex_2 (Wc : Wx P w K mg) : (gvB "LENGTHS" (.tup [(.str "least"), (.str "most")])) K = true := exs_at Wc 2 rfl
theorem ex_3 (Wc : Wx P w K mg) : (gvB "LAST" (.int 1000000000)) K = true := exs_at Wc 3 rfl
theorem ex_4 (Wc : Wx P w K mg) : (gvB "MARKS" (.tup [(.str "least"), (.str "most"), (.str "nocome"), (.str "nogo"), (.str "shut")])) K = true := exs_at Wc 4 rfl
theorem ex_5 (Wc : Wx P w K mg) : (excWhole "NoSpan") K = true := exs_at Wc 5 rfl
theorem ex_6 (Wc : Wx P w K mg) : (excMade "NoSpan") K = true := exs_at Wc 6 rfl
theorem ex_7 (Wc : Wx P w K mg) : (excWhole "BadSpan") K = true := exs_at Wc 7 rfl
theorem ex_8 (Wc : Wx P w K mg) : (excMade "BadSpan") K = true := exs_at Wc 8 rfl
theorem ex_9 (Wc : Wx P w K mg) : (excWhole "BadStay") K = true := exs_at Wc 9 rfl
theorem ex_10 (Wc : Wx P w K mg) : (excMade "BadStay") K = true := exs_at Wc 10 rfl
theorem ex_11 (Wc : Wx P w K mg) : (excSeen "NoSpan") K = true := exs_at Wc 11 rfl
theorem ex_12 (Wc : Wx P w K mg) : (noFld "NoSpan" "number") K = true := exs_at Wc 12 rfl
theorem ex_13 (Wc : Wx P w K mg) : (excSeen "BadSpan") K = true := exs_at Wc 13 rfl
theorem ex_14 (Wc : Wx P w K mg) : (kitB "BadSpan" "StayError" true) K = true := exs_at Wc 14 rfl
theorem ex_15 (Wc : Wx P w K mg) : (excSeen "BadRule") K = true := exs_at Wc 15 rfl
theorem ex_16 (Wc : Wx P w K mg) : (noFld "BadRule" "part") K = true := exs_at Wc 16 rfl
theorem ex_17 (Wc : Wx P w K mg) : (stB (fun K => He.ga K "PARTS") PARTS_vs) K = true := exs_at Wc 17 rfl
theorem ex_18 (Wc : Wx P w K mg) : (excText fileP "BadRule") K = true := exs_at Wc 18 rfl
theorem ex_19 (Wc : Wx P w K mg) : (excText fileP "BadStay") K = true := exs_at Wc 19 rfl
theorem ex_20 (Wc : Wx P w K mg) : (excText fileP "BadSpan") K = true := exs_at Wc 20 rfl
theorem ex_21 (Wc : Wx P w K mg) : (excText fileP "NoSpan") K = true := exs_at Wc 21 rfl
theorem ex_22 (Wc : Wx P w K mg) : (exmB "BadRule" "BadStay" false) K = true := exs_at Wc 22 rfl
theorem ex_23 (Wc : Wx P w K mg) : (exmB "BadStay" "BadStay" true) K = true := exs_at Wc 23 rfl
theorem ex_24 (Wc : Wx P w K mg) : (exmB "BadSpan" "BadStay" false) K = true := exs_at Wc 24 rfl
theorem ex_25 (Wc : Wx P w K mg) : (exmB "NoSpan" "BadStay" false) K = true := exs_at Wc 25 rfl
theorem ex_26 (Wc : Wx P w K mg) : (exmB "BadRule" "NoSpan" false) K = true := exs_at Wc 26 rfl
theorem ex_27 (Wc : Wx P w K mg) : (exmB "BadStay" "NoSpan" false) K = true := exs_at Wc 27 rfl
theorem ex_28 (Wc : Wx P w K mg) : (exmB "BadSpan" "NoSpan" false) K = true := exs_at Wc 28 rfl
theorem ex_29 (Wc : Wx P w K mg) : (exmB "NoSpan" "NoSpan" true) K = true := exs_at Wc 29 rfl
theorem ex_30 (Wc : Wx P w K mg) : (exmB "BadRule" "BadSpan" false) K = true := exs_at Wc 30 rfl
theorem ex_31 (Wc : Wx P w K mg) : (exmB "BadStay" "BadSpan" false) K = true := exs_at Wc 31 rfl
theorem ex_32 (Wc : Wx P w K mg) : (exmB "BadSpan" "BadSpan" true) K = true := exs_at Wc 32 rfl
theorem ex_33 (Wc : Wx P w K mg) : (exmB "NoSpan" "BadSpan" false) K = true := exs_at Wc 33 rfl
theorem ex_34 (Wc : Wx P w K mg) : (exmB "BadRule" "BadRule" true) K = true := exs_at Wc 34 rfl
theorem ex_35 (Wc : Wx P w K mg) : (exmB "BadStay" "BadRule" false) K = true := exs_at Wc 35 rfl
theorem ex_36 (Wc : Wx P w K mg) : (exmB "BadSpan" "BadRule" false) K = true := exs_at Wc 36 rfl
theorem ex_37 (Wc : Wx P w K mg) : (exmB "NoSpan" "BadRule" false) K = true := exs_at Wc 37 rfl
theorem mtok_BadStay (Wc : Wx P w K mg) : ∀ x b, mt_BadStay x = some b → PySem.W.exmOne K (.ref (clG K x)) (.ref (He.ga K "BadStay")) = some b := fun x b h => by
  unfold mt_BadStay at h
  split at h
  · cases h; exact (exmB_ok (ex_22 Wc))
  · cases h; exact (exmB_ok (ex_23 Wc))
  · cases h; exact (exmB_ok (ex_24 Wc))
  · cases h; exact (exmB_ok (ex_25 Wc))
  · cases h
theorem mtok_NoSpan (Wc : Wx P w K mg) : ∀ x b, mt_NoSpan x = some b → PySem.W.exmOne K (.ref (clG K x)) (.ref (He.ga K "NoSpan")) = some b := fun x b h => by
  unfold mt_NoSpan at h
  split at h
  · cases h; exact (exmB_ok (ex_26 Wc))
  · cases h; exact (exmB_ok (ex_27 Wc))
  · cases h; exact (exmB_ok (ex_28 Wc))
  · cases h; exact (exmB_ok (ex_29 Wc))
  · cases h
theorem mtok_BadSpan (Wc : Wx P w K mg) : ∀ x b, mt_BadSpan x = some b → PySem.W.exmOne K (.ref (clG K x)) (.ref (He.ga K "BadSpan")) = some b := fun x b h => by
  unfold mt_BadSpan at h
  split at h
  · cases h; exact (exmB_ok (ex_30 Wc))
  · cases h; exact (exmB_ok (ex_31 Wc))
  · cases h; exact (exmB_ok (ex_32 Wc))
  · cases h; exact (exmB_ok (ex_33 Wc))
  · cases h
theorem mtok_BadRule (Wc : Wx P w K mg) : ∀ x b, mt_BadRule x = some b → PySem.W.exmOne K (.ref (clG K x)) (.ref (He.ga K "BadRule")) = some b := fun x b h => by
  unfold mt_BadRule at h
  split at h
  · cases h; exact (exmB_ok (ex_34 Wc))
  · cases h; exact (exmB_ok (ex_35 Wc))
  · cases h; exact (exmB_ok (ex_36 Wc))
  · cases h; exact (exmB_ok (ex_37 Wc))
  · cases h
theorem xfn_BadRule (Wc : Wx P w K mg) : XFn P K (He.ga K "BadRule") (He.fAd K ("BadRule", some "__init__")) "BadRule.__init__" (defArgs sx_BadRule) (defBody sx_BadRule) (defScope sx_BadRule) (fdAt K ("BadRule", some "__init__")) (codA K "BadRule") (cellA K "BadRule") := Wc.xfn 0 (d := ⟨"BadRule", "BadRule.__init__", defArgs sx_BadRule, defBody sx_BadRule, defScope sx_BadRule⟩) rfl (ex_18 Wc)
theorem bd_BadRule (Wc : Wx P w K mg) : Binds K (fdAt K ("BadRule", some "__init__")) ["self", "part"] [] := (xfn_BadRule Wc).binds fun _ _ _ _ _ _ _ us hl => match us, hl with | [_, _], _ => rfl
theorem ok_BadRule {base : Heap} (Wc : Wx P w K mg) : FnOk P w K mg base (L2.CX P w) 1 (He.fAd K ("BadRule", some "__init__")) (fdAt K ("BadRule", some "__init__")) ["self", "part"] (spI1 (clG K 5) "part" (Showy K)) :=
  init1 (k := 0) (N := ["self", "part", "__class__"]) (xfn_BadRule Wc) (xcls_ok (ex_0 Wc)) ⟨NdefX.nscope_by (by decide +kernel), rfl, rfl, (fr_super Wc), fun _ => rfl, fun _ => rfl, fun _ => rfl, rfl, rfl, Wc.top⟩ rfl (noFld_ok (ex_16 Wc)) (fun A outer s H E hr => ⟨_, pe_joined (.cons pe_str (.cons (pe_show hr (pv 1)) (.cons pe_str .nil))), shown_parts (by decide) (by decide)⟩) (fun A outer s H E => pss_one (ps_ost (pv 0) (pv 1)))
theorem xfn_BadStay (Wc : Wx P w K mg) : XFn P K (He.ga K "BadStay") (He.fAd K ("BadStay", some "__init__")) "BadStay.__init__" (defArgs sx_BadStay) (defBody sx_BadStay) (defScope sx_BadStay) (fdAt K ("BadStay", some "__init__")) (codA K "BadStay") (cellA K "BadStay") := Wc.xfn 1 (d := ⟨"BadStay", "BadStay.__init__", defArgs sx_BadStay, defBody sx_BadStay, defScope sx_BadStay⟩) rfl (ex_19 Wc)
theorem bd_BadStay (Wc : Wx P w K mg) : Binds K (fdAt K ("BadStay", some "__init__")) ["self"] [] := (xfn_BadStay Wc).binds fun _ _ _ _ _ _ _ us hl => match us, hl with | [_], _ => rfl
theorem ok_BadStay {base : Heap} (Wc : Wx P w K mg) : FnOk P w K mg base (L2.CX P w) 1 (He.fAd K ("BadStay", some "__init__")) (fdAt K ("BadStay", some "__init__")) ["self"] (spI0 (clG K 7)) :=
  init0 (k := 0) (N := ["self", "__class__"]) (xfn_BadStay Wc) (xcls_ok (ex_9 Wc)) ⟨NdefX.nscope_by (by decide +kernel), rfl, rfl, (fr_super Wc), fun _ => rfl, fun _ => rfl, fun _ => rfl, rfl, rfl, Wc.top⟩ rfl (fun A outer s H E hr => ⟨_, pe_str, fun _ _ _ h => h _⟩)
theorem xfn_BadSpan (Wc : Wx P w K mg) : XFn P K (He.ga K "BadSpan") (He.fAd K ("BadSpan", some "__init__")) "BadSpan.__init__" (defArgs sx_BadSpan) (defBody sx_BadSpan) (defScope sx_BadSpan) (fdAt K ("BadSpan", some "__init__")) (codA K "BadSpan") (cellA K "BadSpan") := Wc.xfn 2 (d := ⟨"BadSpan", "BadSpan.__init__", defArgs sx_BadSpan, defBody sx_BadSpan, defScope sx_BadSpan⟩) rfl (ex_20 Wc)
theorem bd_BadSpan (Wc : Wx P w K mg) : Binds K (fdAt K ("BadSpan", some "__init__")) ["self"] [] := (xfn_BadSpan Wc).binds fun _ _ _ _ _ _ _ us hl => match us, hl with | [_], _ => rfl
theorem ok_BadSpan {base : Heap} (Wc : Wx P w K mg) : FnOk P w K mg base (L2.CX P w) 1 (He.fAd K ("BadSpan", some "__init__")) (fdAt K ("BadSpan", some "__init__")) ["self"] (spI0 (clG K 8)) :=
  init0 (k := 0) (N := ["self", "__class__"]) (xfn_BadSpan Wc) (xcls_ok (ex_7 Wc)) ⟨NdefX.nscope_by (by decide +kernel), rfl, rfl, (fr_super Wc), fun _ => rfl, fun _ => rfl, fun _ => rfl, rfl, rfl, Wc.top⟩ rfl (fun A outer s H E hr => ⟨_, pe_str, fun _ _ _ h => h _⟩)
theorem xfn_NoSpan (Wc : Wx P w K mg) : XFn P K (He.ga K "NoSpan") (He.fAd K ("NoSpan", some "__init__")) "NoSpan.__init__" (defArgs sx_NoSpan) (defBody sx_NoSpan) (defScope sx_NoSpan) (fdAt K ("NoSpan", some "__init__")) (codA K "NoSpan") (cellA K "NoSpan") := Wc.xfn 3 (d := ⟨"NoSpan", "NoSpan.__init__", defArgs sx_NoSpan, defBody sx_NoSpan, defScope sx_NoSpan⟩) rfl (ex_21 Wc)
theorem bd_NoSpan (Wc : Wx P w K mg) : Binds K (fdAt K ("NoSpan", some "__init__")) ["self", "number"] [] := (xfn_NoSpan Wc).binds fun _ _ _ _ _ _ _ us hl => match us, hl with | [_, _], _ => rfl
theorem ok_NoSpan {base : Heap} (Wc : Wx P w K mg) : FnOk P w K mg base (L2.CX P w) 1 (He.fAd K ("NoSpan", some "__init__")) (fdAt K ("NoSpan", some "__init__")) ["self", "number"] (spI1 (clG K 9) "number" (Showy K)) :=
  init1 (k := 0) (N := ["self", "number", "__class__"]) (xfn_NoSpan Wc) (xcls_ok (ex_5 Wc)) ⟨NdefX.nscope_by (by decide +kernel), rfl, rfl, (fr_super Wc), fun _ => rfl, fun _ => rfl, fun _ => rfl, rfl, rfl, Wc.top⟩ rfl (noFld_ok (ex_12 Wc)) (fun A outer s H E hr => ⟨_, pe_joined (.cons pe_str (.cons (pe_show hr (pv 1)) .nil)), shown_two (by decide)⟩) (fun A outer s H E => pss_one (ps_ost (pv 0) (pv 1)))
theorem df_is_integer (Wc : Wx P w K mg) : FunD K "is_integer" "is_integer" (defArgs s_is_integer) (defBody s_is_integer) (defScope s_is_integer) [] [] (He.fAd K ("is_integer", none)) (fdAt K ("is_integer", none)) := Wc.def_ 0 (d := ⟨("is_integer", none), "is_integer", "is_integer", defArgs s_is_integer, defBody s_is_integer, defScope s_is_integer, [], []⟩) rfl
theorem sc_is_integer : FnScope N_is_integer P_is_integer (defScope s_is_integer) := ⟨rfl, rfl, rfl, by decide +kernel, rfl, by decide +kernel, by decide +kernel⟩
theorem bd_is_integer (Wc : Wx P w K mg) : Binds K (fdAt K ("is_integer", none)) P_is_integer [] := (df_is_integer Wc).bindsN fun _ _ _ _ _ _ us hl => match us, hl with | [_], _ => rfl
theorem df_is_from (Wc : Wx P w K mg) : FunD K "is_from" "is_from" (defArgs s_is_from) (defBody s_is_from) (defScope s_is_from) [] [] (He.fAd K ("is_from", none)) (fdAt K ("is_from", none)) := Wc.def_ 1 (d := ⟨("is_from", none), "is_from", "is_from", defArgs s_is_from, defBody s_is_from, defScope s_is_from, [], []⟩) rfl
theorem sc_is_from : FnScope N_is_from P_is_from (defScope s_is_from) := ⟨rfl, rfl, rfl, by decide +kernel, rfl, by decide +kernel, by decide +kernel⟩
theorem bd_is_from (Wc : Wx P w K mg) : Binds K (fdAt K ("is_from", none)) P_is_from [] := (df_is_from Wc).bindsN fun _ _ _ _ _ _ us hl => match us, hl with | [_, _, _], _ => rfl
theorem df_is_one_of (Wc : Wx P w K mg) : FunD K "is_one_of" "is_one_of" (defArgs s_is_one_of) (defBody s_is_one_of) (defScope s_is_one_of) [] [] (He.fAd K ("is_one_of", none)) (fdAt K ("is_one_of", none)) := Wc.def_ 2 (d := ⟨("is_one_of", none), "is_one_of", "is_one_of", defArgs s_is_one_of, defBody s_is_one_of, defScope s_is_one_of, [], []⟩) rfl
theorem sc_is_one_of : FnScope N_is_one_of P_is_one_of (defScope s_is_one_of) := ⟨rfl, rfl, rfl, by decide +kernel, rfl, by decide +kernel, by decide +kernel⟩
theorem bd_is_one_of (Wc : Wx P w K mg) : Binds K (fdAt K ("is_one_of", none)) P_is_one_of [] := (df_is_one_of Wc).bindsN fun _ _ _ _ _ _ us hl => match us, hl with | [_, _], _ => rfl
theorem df_check_rule (Wc : Wx P w K mg) : FunD K "check_rule" "check_rule" (defArgs s_check_rule) (defBody s_check_rule) (defScope s_check_rule) [] [] (He.fAd K ("check_rule", none)) (fdAt K ("check_rule", none)) := Wc.def_ 3 (d := ⟨("check_rule", none), "check_rule", "check_rule", defArgs s_check_rule, defBody s_check_rule, defScope s_check_rule, [], []⟩) rfl
theorem sc_check_rule : FnScope N_check_rule P_check_rule (defScope s_check_rule) := ⟨rfl, rfl, rfl, by decide +kernel, rfl, by decide +kernel, by decide +kernel⟩
theorem bd_check_rule (Wc : Wx P w K mg) : Binds K (fdAt K ("check_rule", none)) P_check_rule [] := (df_check_rule Wc).bindsN fun _ _ _ _ _ _ us hl => match us, hl with | [_], _ => rfl
theorem df_is_value (Wc : Wx P w K mg) : FunD K "is_value" "is_value" (defArgs s_is_value) (defBody s_is_value) (defScope s_is_value) [] [] (He.fAd K ("is_value", none)) (fdAt K ("is_value", none)) := Wc.def_ 4 (d := ⟨("is_value", none), "is_value", "is_value", defArgs s_is_value, defBody s_is_value, defScope s_is_value, [], []⟩) rfl
theorem sc_is_value : FnScope N_is_value P_is_value (defScope s_is_value) := ⟨rfl, rfl, rfl, by decide +kernel, rfl, by decide +kernel, by decide +kernel⟩
theorem bd_is_value (Wc : Wx P w K mg) : Binds K (fdAt K ("is_value", none)) P_is_value [] := (df_is_value Wc).bindsN fun _ _ _ _ _ _ us hl => match us, hl with | [_, _, _], _ => rfl
theorem df_is_span (Wc : Wx P w K mg) : FunD K "is_span" "is_span" (defArgs s_is_span) (defBody s_is_span) (defScope s_is_span) [] [] (He.fAd K ("is_span", none)) (fdAt K ("is_span", none)) := Wc.def_ 5 (d := ⟨("is_span", none), "is_span", "is_span", defArgs s_is_span, defBody s_is_span, defScope s_is_span, [], []⟩) rfl
theorem sc_is_span : FnScope N_is_span P_is_span (defScope s_is_span) := ⟨rfl, rfl, rfl, by decide +kernel, rfl, by decide +kernel, by decide +kernel⟩
theorem bd_is_span (Wc : Wx P w K mg) : Binds K (fdAt K ("is_span", none)) P_is_span [] := (df_is_span Wc).bindsN fun _ _ _ _ _ _ us hl => match us, hl with | [_, _, _, _], _ => rfl
theorem df_Inn_init (Wc : Wx P w K mg) : FunD K "__init__" "Inn.__init__" (defArgs s_Inn_init) (defBody s_Inn_init) (defScope s_Inn_init) [] [] (He.fAd K ("Inn", some "__init__")) (fdAt K ("Inn", some "__init__")) := Wc.def_ 6 (d := ⟨("Inn", some "__init__"), "__init__", "Inn.__init__", defArgs s_Inn_init, defBody s_Inn_init, defScope s_Inn_init, [], []⟩) rfl
theorem sc_Inn_init : FnScope N_Inn_init P_Inn_init (defScope s_Inn_init) := ⟨rfl, rfl, rfl, by decide +kernel, rfl, by decide +kernel, by decide +kernel⟩
theorem bd_Inn_init (Wc : Wx P w K mg) : Binds K (fdAt K ("Inn", some "__init__")) P_Inn_init [] := (df_Inn_init Wc).bindsN fun _ _ _ _ _ _ us hl => match us, hl with | [_, _], _ => rfl
theorem df_Inn_spans (Wc : Wx P w K mg) : FunD K "spans" "Inn.spans" (defArgs s_Inn_spans) (defBody s_Inn_spans) (defScope s_Inn_spans) [] [] (getA K "Inn" "spans") (fdOf K (getA K "Inn" "spans")) := Wc.getter 0 (d := ⟨"Inn", "spans", "Inn.spans", defArgs s_Inn_spans, defBody s_Inn_spans, defScope s_Inn_spans⟩) rfl
theorem sc_Inn_spans : FnScope N_Inn_spans P_Inn_spans (defScope s_Inn_spans) := ⟨rfl, rfl, rfl, by decide +kernel, rfl, by decide +kernel, by decide +kernel⟩
theorem bd_Inn_spans (Wc : Wx P w K mg) : Binds K (fdOf K (getA K "Inn" "spans")) P_Inn_spans [] := (df_Inn_spans Wc).bindsN fun _ _ _ _ _ _ us hl => match us, hl with | [_], _ => rfl
theorem df_Inn_log (Wc : Wx P w K mg) : FunD K "log" "Inn.log" (defArgs s_Inn_log) (defBody s_Inn_log) (defScope s_Inn_log) [] [] (getA K "Inn" "log") (fdOf K (getA K "Inn" "log")) := Wc.getter 1 (d := ⟨"Inn", "log", "Inn.log", defArgs s_Inn_log, defBody s_Inn_log, defScope s_Inn_log⟩) rfl
theorem sc_Inn_log : FnScope N_Inn_log P_Inn_log (defScope s_Inn_log) := ⟨rfl, rfl, rfl, by decide +kernel, rfl, by decide +kernel, by decide +kernel⟩
theorem bd_Inn_log (Wc : Wx P w K mg) : Binds K (fdOf K (getA K "Inn" "log")) P_Inn_log [] := (df_Inn_log Wc).bindsN fun _ _ _ _ _ _ us hl => match us, hl with | [_], _ => rfl
theorem df_Inn_become (Wc : Wx P w K mg) : FunD K "become" "Inn.become" (defArgs s_Inn_become) (defBody s_Inn_become) (defScope s_Inn_become) [] [] (He.fAd K ("Inn", some "become")) (fdAt K ("Inn", some "become")) := Wc.def_ 7 (d := ⟨("Inn", some "become"), "become", "Inn.become", defArgs s_Inn_become, defBody s_Inn_become, defScope s_Inn_become, [], []⟩) rfl
theorem sc_Inn_become : FnScope N_Inn_become P_Inn_become (defScope s_Inn_become) := ⟨rfl, rfl, rfl, by decide +kernel, rfl, by decide +kernel, by decide +kernel⟩
theorem bd_Inn_become (Wc : Wx P w K mg) : Binds K (fdAt K ("Inn", some "become")) P_Inn_become [] := (df_Inn_become Wc).bindsN fun _ _ _ _ _ _ us hl => match us, hl with | [_, _, _], _ => rfl
theorem df_Inn_need (Wc : Wx P w K mg) : FunD K "need" "Inn.need" (defArgs s_Inn_need) (defBody s_Inn_need) (defScope s_Inn_need) [] [] (He.fAd K ("Inn", some "need")) (fdAt K ("Inn", some "need")) := Wc.def_ 8 (d := ⟨("Inn", some "need"), "need", "Inn.need", defArgs s_Inn_need, defBody s_Inn_need, defScope s_Inn_need, [], []⟩) rfl
theorem sc_Inn_need : FnScope N_Inn_need P_Inn_need (defScope s_Inn_need) := ⟨rfl, rfl, rfl, by decide +kernel, rfl, by decide +kernel, by decide +kernel⟩
theorem bd_Inn_need (Wc : Wx P w K mg) : Binds K (fdAt K ("Inn", some "need")) P_Inn_need [] := (df_Inn_need Wc).bindsN fun _ _ _ _ _ _ us hl => match us, hl with | [_, _], _ => rfl
theorem df_Inn_lay (Wc : Wx P w K mg) : FunD K "lay" "Inn.lay" (defArgs s_Inn_lay) (defBody s_Inn_lay) (defScope s_Inn_lay) [] [] (He.fAd K ("Inn", some "lay")) (fdAt K ("Inn", some "lay")) := Wc.def_ 9 (d := ⟨("Inn", some "lay"), "lay", "Inn.lay", defArgs s_Inn_lay, defBody s_Inn_lay, defScope s_Inn_lay, [], []⟩) rfl
theorem sc_Inn_lay : FnScope N_Inn_lay P_Inn_lay (defScope s_Inn_lay) := ⟨rfl, rfl, rfl, by decide +kernel, rfl, by decide +kernel, by decide +kernel⟩
theorem bd_Inn_lay (Wc : Wx P w K mg) : Binds K (fdAt K ("Inn", some "lay")) P_Inn_lay [] := (df_Inn_lay Wc).bindsN fun _ _ _ _ _ _ us hl => match us, hl with | [_, _, _, _, _], _ => rfl
theorem df_Inn_change (Wc : Wx P w K mg) : FunD K "change" "Inn.change" (defArgs s_Inn_change) (defBody s_Inn_change) (defScope s_Inn_change) [] [] (He.fAd K ("Inn", some "change")) (fdAt K ("Inn", some "change")) := Wc.def_ 10 (d := ⟨("Inn", some "change"), "change", "Inn.change", defArgs s_Inn_change, defBody s_Inn_change, defScope s_Inn_change, [], []⟩) rfl
theorem sc_Inn_change : FnScope N_Inn_change P_Inn_change (defScope s_Inn_change) := ⟨rfl, rfl, rfl, by decide +kernel, rfl, by decide +kernel, by decide +kernel⟩
theorem bd_Inn_change (Wc : Wx P w K mg) : Binds K (fdAt K ("Inn", some "change")) P_Inn_change [] := (df_Inn_change Wc).bindsN fun _ _ _ _ _ _ us hl => match us, hl with | [_, _, _], _ => rfl
theorem df_Inn_drop (Wc : Wx P w K mg) : FunD K "drop" "Inn.drop" (defArgs s_Inn_drop) (defBody s_Inn_drop) (defScope s_Inn_drop) [] [] (He.fAd K ("Inn", some "drop")) (fdAt K ("Inn", some "drop")) := Wc.def_ 11 (d := ⟨("Inn", some "drop"), "drop", "Inn.drop", defArgs s_Inn_drop, defBody s_Inn_drop, defScope s_Inn_drop, [], []⟩) rfl
theorem sc_Inn_drop : FnScope N_Inn_drop P_Inn_drop (defScope s_Inn_drop) := ⟨rfl, rfl, rfl, by decide +kernel, rfl, by decide +kernel, by decide +kernel⟩
theorem bd_Inn_drop (Wc : Wx P w K mg) : Binds K (fdAt K ("Inn", some "drop")) P_Inn_drop [] := (df_Inn_drop Wc).bindsN fun _ _ _ _ _ _ us hl => match us, hl with | [_, _], _ => rfl
theorem df_Inn_bars (Wc : Wx P w K mg) : FunD K "bars" "Inn.bars" (defArgs s_Inn_bars) (defBody s_Inn_bars) (defScope s_Inn_bars) [] [] (He.fAd K ("Inn", some "bars")) (fdAt K ("Inn", some "bars")) := Wc.def_ 12 (d := ⟨("Inn", some "bars"), "bars", "Inn.bars", defArgs s_Inn_bars, defBody s_Inn_bars, defScope s_Inn_bars, [], []⟩) rfl
theorem sc_Inn_bars : FnScope N_Inn_bars P_Inn_bars (defScope s_Inn_bars) := ⟨rfl, rfl, rfl, by decide +kernel, rfl, by decide +kernel, by decide +kernel⟩
theorem bd_Inn_bars (Wc : Wx P w K mg) : Binds K (fdAt K ("Inn", some "bars")) P_Inn_bars [] := (df_Inn_bars Wc).bindsN fun _ _ _ _ _ _ us hl => match us, hl with | [_, _, _], _ => rfl
theorem df_Inn_longest (Wc : Wx P w K mg) : FunD K "longest" "Inn.longest" (defArgs s_Inn_longest) (defBody s_Inn_longest) (defScope s_Inn_longest) [] [] (He.fAd K ("Inn", some "longest")) (fdAt K ("Inn", some "longest")) := Wc.def_ 13 (d := ⟨("Inn", some "longest"), "longest", "Inn.longest", defArgs s_Inn_longest, defBody s_Inn_longest, defScope s_Inn_longest, [], []⟩) rfl
theorem sc_Inn_longest : FnScope N_Inn_longest P_Inn_longest (defScope s_Inn_longest) := ⟨rfl, rfl, rfl, by decide +kernel, rfl, by decide +kernel, by decide +kernel⟩
theorem bd_Inn_longest (Wc : Wx P w K mg) : Binds K (fdAt K ("Inn", some "longest")) P_Inn_longest [] := (df_Inn_longest Wc).bindsN fun _ _ _ _ _ _ us hl => match us, hl with | [_, _], _ => rfl
theorem df__law_draws (Wc : Wx P w K mg) : FunD K "_law_draws" "_law_draws" (defArgs s__law_draws) (defBody s__law_draws) (defScope s__law_draws) [] [] (He.fAd K ("_law_draws", none)) (fdAt K ("_law_draws", none)) := Wc.def_ 14 (d := ⟨("_law_draws", none), "_law_draws", "_law_draws", defArgs s__law_draws, defBody s__law_draws, defScope s__law_draws, [], []⟩) rfl
theorem sc__law_draws : FnScope N__law_draws P__law_draws (defScope s__law_draws) := ⟨rfl, rfl, rfl, by decide +kernel, rfl, by decide +kernel, by decide +kernel⟩
theorem bd__law_draws (Wc : Wx P w K mg) : Binds K (fdAt K ("_law_draws", none)) P__law_draws [] := (df__law_draws Wc).bindsN fun _ _ _ _ _ _ us hl => match us, hl with | [_], _ => rfl
theorem df__law_pick (Wc : Wx P w K mg) : FunD K "_law_pick" "_law_pick" (defArgs s__law_pick) (defBody s__law_pick) (defScope s__law_pick) [] [] (He.fAd K ("_law_pick", none)) (fdAt K ("_law_pick", none)) := Wc.def_ 15 (d := ⟨("_law_pick", none), "_law_pick", "_law_pick", defArgs s__law_pick, defBody s__law_pick, defScope s__law_pick, [], []⟩) rfl
theorem sc__law_pick : FnScope N__law_pick P__law_pick (defScope s__law_pick) := ⟨rfl, rfl, rfl, by decide +kernel, rfl, by decide +kernel, by decide +kernel⟩
theorem bd__law_pick (Wc : Wx P w K mg) : Binds K (fdAt K ("_law_pick", none)) P__law_pick [] := (df__law_pick Wc).bindsN fun _ _ _ _ _ _ us hl => match us, hl with | [_, _], _ => rfl
theorem df__law_parts (Wc : Wx P w K mg) : FunD K "_law_parts" "_law_parts" (defArgs s__law_parts) (defBody s__law_parts) (defScope s__law_parts) [] [] (He.fAd K ("_law_parts", none)) (fdAt K ("_law_parts", none)) := Wc.def_ 16 (d := ⟨("_law_parts", none), "_law_parts", "_law_parts", defArgs s__law_parts, defBody s__law_parts, defScope s__law_parts, [], []⟩) rfl
theorem sc__law_parts : FnScope N__law_parts P__law_parts (defScope s__law_parts) := ⟨rfl, rfl, rfl, by decide +kernel, rfl, by decide +kernel, by decide +kernel⟩
theorem bd__law_parts (Wc : Wx P w K mg) : Binds K (fdAt K ("_law_parts", none)) P__law_parts [] := (df__law_parts Wc).bindsN fun _ _ _ _ _ _ us hl => match us, hl with | [], _ => rfl
theorem df__law_marks (Wc : Wx P w K mg) : FunD K "_law_marks" "_law_marks" (defArgs s__law_marks) (defBody s__law_marks) (defScope s__law_marks) [] [] (He.fAd K ("_law_marks", none)) (fdAt K ("_law_marks", none)) := Wc.def_ 17 (d := ⟨("_law_marks", none), "_law_marks", "_law_marks", defArgs s__law_marks, defBody s__law_marks, defScope s__law_marks, [], []⟩) rfl
theorem sc__law_marks : FnScope N__law_marks P__law_marks (defScope s__law_marks) := ⟨rfl, rfl, rfl, by decide +kernel, rfl, by decide +kernel, by decide +kernel⟩
theorem bd__law_marks (Wc : Wx P w K mg) : Binds K (fdAt K ("_law_marks", none)) P__law_marks [] := (df__law_marks Wc).bindsN fun _ _ _ _ _ _ us hl => match us, hl with | [], _ => rfl
theorem df__law_rule (Wc : Wx P w K mg) : FunD K "_law_rule" "_law_rule" (defArgs s__law_rule) (defBody s__law_rule) (defScope s__law_rule) [] [] (He.fAd K ("_law_rule", none)) (fdAt K ("_law_rule", none)) := Wc.def_ 18 (d := ⟨("_law_rule", none), "_law_rule", "_law_rule", defArgs s__law_rule, defBody s__law_rule, defScope s__law_rule, [], []⟩) rfl
theorem sc__law_rule : FnScope N__law_rule P__law_rule (defScope s__law_rule) := ⟨rfl, rfl, rfl, by decide +kernel, rfl, by decide +kernel, by decide +kernel⟩
theorem bd__law_rule (Wc : Wx P w K mg) : Binds K (fdAt K ("_law_rule", none)) P__law_rule [] := (df__law_rule Wc).bindsN fun _ _ _ _ _ _ us hl => match us, hl with | [_], _ => rfl
theorem df__law_inn_span (Wc : Wx P w K mg) : FunD K "_law_inn_span" "_law_inn_span" (defArgs s__law_inn_span) (defBody s__law_inn_span) (defScope s__law_inn_span) [] [] (He.fAd K ("_law_inn_span", none)) (fdAt K ("_law_inn_span", none)) := Wc.def_ 19 (d := ⟨("_law_inn_span", none), "_law_inn_span", "_law_inn_span", defArgs s__law_inn_span, defBody s__law_inn_span, defScope s__law_inn_span, [], []⟩) rfl
theorem sc__law_inn_span : FnScope N__law_inn_span P__law_inn_span (defScope s__law_inn_span) := ⟨rfl, rfl, rfl, by decide +kernel, rfl, by decide +kernel, by decide +kernel⟩
theorem bd__law_inn_span (Wc : Wx P w K mg) : Binds K (fdAt K ("_law_inn_span", none)) P__law_inn_span [] := (df__law_inn_span Wc).bindsN fun _ _ _ _ _ _ us hl => match us, hl with | [_, _], _ => rfl
theorem df__law_inn_led (Wc : Wx P w K mg) : FunD K "_law_inn_led" "_law_inn_led" (defArgs s__law_inn_led) (defBody s__law_inn_led) (defScope s__law_inn_led) [] [] (He.fAd K ("_law_inn_led", none)) (fdAt K ("_law_inn_led", none)) := Wc.def_ 20 (d := ⟨("_law_inn_led", none), "_law_inn_led", "_law_inn_led", defArgs s__law_inn_led, defBody s__law_inn_led, defScope s__law_inn_led, [], []⟩) rfl
theorem sc__law_inn_led : FnScope N__law_inn_led P__law_inn_led (defScope s__law_inn_led) := ⟨rfl, rfl, rfl, by decide +kernel, rfl, by decide +kernel, by decide +kernel⟩
theorem bd__law_inn_led (Wc : Wx P w K mg) : Binds K (fdAt K ("_law_inn_led", none)) P__law_inn_led [] := (df__law_inn_led Wc).bindsN fun _ _ _ _ _ _ us hl => match us, hl with | [_, _, _, _, _, _], _ => rfl
theorem df__law_told (Wc : Wx P w K mg) : FunD K "_law_told" "_law_told" (defArgs s__law_told) (defBody s__law_told) (defScope s__law_told) [] [] (He.fAd K ("_law_told", none)) (fdAt K ("_law_told", none)) := Wc.def_ 21 (d := ⟨("_law_told", none), "_law_told", "_law_told", defArgs s__law_told, defBody s__law_told, defScope s__law_told, [], []⟩) rfl
theorem sc__law_told : FnScope N__law_told P__law_told (defScope s__law_told) := ⟨rfl, rfl, rfl, by decide +kernel, rfl, by decide +kernel, by decide +kernel⟩
theorem bd__law_told (Wc : Wx P w K mg) : Binds K (fdAt K ("_law_told", none)) P__law_told [] := (df__law_told Wc).bindsN fun _ _ _ _ _ _ us hl => match us, hl with | [_, _], _ => rfl
theorem df__law_rule_told (Wc : Wx P w K mg) : FunD K "_law_rule_told" "_law_rule_told" (defArgs s__law_rule_told) (defBody s__law_rule_told) (defScope s__law_rule_told) [] [] (He.fAd K ("_law_rule_told", none)) (fdAt K ("_law_rule_told", none)) := Wc.def_ 22 (d := ⟨("_law_rule_told", none), "_law_rule_told", "_law_rule_told", defArgs s__law_rule_told, defBody s__law_rule_told, defScope s__law_rule_told, [], []⟩) rfl
theorem sc__law_rule_told : FnScope N__law_rule_told P__law_rule_told (defScope s__law_rule_told) := ⟨rfl, rfl, rfl, by decide +kernel, rfl, by decide +kernel, by decide +kernel⟩
theorem bd__law_rule_told (Wc : Wx P w K mg) : Binds K (fdAt K ("_law_rule_told", none)) P__law_rule_told [] := (df__law_rule_told Wc).bindsN fun _ _ _ _ _ _ us hl => match us, hl with | [_], _ => rfl
theorem df_law (Wc : Wx P w K mg) : FunD K "law" "law" (defArgs s_law) (defBody s_law) (defScope s_law) [] [] (He.fAd K ("law", none)) (fdAt K ("law", none)) := Wc.def_ 23 (d := ⟨("law", none), "law", "law", defArgs s_law, defBody s_law, defScope s_law, [], []⟩) rfl
theorem sc_law : FnScope N_law P_law (defScope s_law) := ⟨rfl, rfl, rfl, by decide +kernel, rfl, by decide +kernel, by decide +kernel⟩
theorem bd_law (Wc : Wx P w K mg) : Binds K (fdAt K ("law", none)) P_law [] := (df_law Wc).bindsN fun _ _ _ _ _ _ us hl => match us, hl with | [_], _ => rfl

theorem bo_is_integer {base : Heap} (Wc : Wx P w K mg) (cdv : Value) (A : Around) (outer : List Env) (s : Shared) (H : Hp) (E : XK) (hr : Room 0 (A.deeper (envOfC "is_integer" (defScope s_is_integer) s.heap.objs.size (He.fAd K ("is_integer", none)) cdv))) :
    USs (cxOf (L2.CX P w) P w K mg base N_is_integer "is_integer" (defScope s_is_integer) (He.fAd K ("is_integer", none)) cdv A outer s H E) (clG K) (WD E) (defBody s_is_integer) den_is_integer := by
  exact (s_one (s_ret (u_and (u_isi (.ty "int") (tabB_ok tab_int) rfl (fr_isinstance Wc) (u_v 0) (pe_bltn rfl (fr_int Wc) (by decide +kernel) rfl)) (u_one (u_not (u_isi (.ty "bool") (tabB_ok tab_bool) rfl (fr_isinstance Wc) (u_v 0) (pe_bltn rfl (fr_bool Wc) (by decide +kernel) rfl)))))))
theorem ok_is_integer {base : Heap} (Wc : Wx P w K mg) : FnOk P w K mg base (L2.CX P w) 1 (He.fAd K ("is_integer", none)) (fdAt K ("is_integer", none)) P_is_integer (spD K (clG K) 1 F_is_integer) := fn_D (df_is_integer Wc) sc_is_integer (by decide) fun cdv A outer s H E hr => bo_is_integer Wc cdv A outer s H E hr

theorem bo_is_from {base : Heap} (Wc : Wx P w K mg) (cdv : Value) (A : Around) (outer : List Env) (s : Shared) (H : Hp) (E : XK) (hr : Room 1 (A.deeper (envOfC "is_from" (defScope s_is_from) s.heap.objs.size (He.fAd K ("is_from", none)) cdv))) :
    USs (cxOf (L2.CX P w) P w K mg base N_is_from "is_from" (defScope s_is_from) (He.fAd K ("is_from", none)) cdv A outer s H E) (clG K) (WD E) (defBody s_is_from) den_is_from := by
  exact (s_one (s_ret (u_and (u_call isP (ok_is_integer Wc) (hr.mono (by decide)) takesD rfl (gl_is_integer Wc) (df_is_integer Wc).kp (bd_is_integer Wc) (a_cons (u_v 0) a_nil)) (u_one (u_chain op_leAny op_leAny d_cmp d_cmp (u_v 1) (u_v 0) (u_v 2))))))
theorem ok_is_from {base : Heap} (Wc : Wx P w K mg) : FnOk P w K mg base (L2.CX P w) 2 (He.fAd K ("is_from", none)) (fdAt K ("is_from", none)) P_is_from (spD K (clG K) 3 F_is_from) := fn_D (df_is_from Wc) sc_is_from (by decide) fun cdv A outer s H E hr => bo_is_from Wc cdv A outer s H E hr

theorem bo_is_one_of {base : Heap} (Wc : Wx P w K mg) (cdv : Value) (A : Around) (outer : List Env) (s : Shared) (H : Hp) (E : XK) (hr : Room 0 (A.deeper (envOfC "is_one_of" (defScope s_is_one_of) s.heap.objs.size (He.fAd K ("is_one_of", none)) cdv))) :
    USs (cxOf (L2.CX P w) P w K mg base N_is_one_of "is_one_of" (defScope s_is_one_of) (He.fAd K ("is_one_of", none)) cdv A outer s H E) (clG K) (WD E) (defBody s_is_one_of) den_is_one_of := by
  exact (s_one (s_ret (u_and (u_isi (.ty "str") (tabB_ok tab_str) rfl (fr_isinstance Wc) (u_v 0) (pe_bltn rfl (fr_str Wc) (by decide +kernel) rfl)) (u_one (u_cmp (op_inAll (room65 hr)) d_inA (u_v 0) (u_v 1))))))
theorem ok_is_one_of {base : Heap} (Wc : Wx P w K mg) : FnOk P w K mg base (L2.CX P w) 1 (He.fAd K ("is_one_of", none)) (fdAt K ("is_one_of", none)) P_is_one_of (spD K (clG K) 2 F_is_one_of) := fn_D (df_is_one_of Wc) sc_is_one_of (by decide) fun cdv A outer s H E hr => bo_is_one_of Wc cdv A outer s H E hr

theorem bo_check_rule {base : Heap} (Wc : Wx P w K mg) (cdv : Value) (A : Around) (outer : List Env) (s : Shared) (H : Hp) (E : XK) (hr : Room 2 (A.deeper (envOfC "check_rule" (defScope s_check_rule) s.heap.objs.size (He.fAd K ("check_rule", none)) cdv))) :
    USs (cxOf (L2.CX P w) P w K mg base N_check_rule "check_rule" (defScope s_check_rule) (He.fAd K ("check_rule", none)) cdv A outer s H E) (clG K) (WD E) (defBody s_check_rule) den_check_rule := by
  obtain ⟨o_PARTS, es_PARTS, ep_PARTS, kvs_PARTS, us_PARTS, st_PARTS, sr_PARTS, sl_PARTS⟩ := stat_PARTS (P := P) Wc
  exact (s_cons (s_if (b_w (w_or (b_not (b_val (u_isi (.ty "dict") (tabB_ok tab_dict) rfl (fr_isinstance Wc) (u_v 0) (pe_bltn rfl (fr_dict Wc) (by decide +kernel) rfl)))) (w_or1 (b_cmp (op_neAll (room65 hr)) d_neA (u_B call_len' c_len rfl (fr_len Wc) PySem.boot_len (a_cons (u_v 0) a_nil)) (u_lenK' st_PARTS sl_PARTS rfl (fr_len Wc) (pe_glob rfl (gl_PARTS Wc) rfl)))))) (s_one (s_raise1 (c := 5) show_chk (xcls_ok (ex_0 Wc)).oex (made_find (ex_1 Wc)) (made_type (ex_1 Wc)) (ok_BadRule Wc) (hr.mono (by decide)) (bd_BadRule Wc) rfl takesD passes_never rfl (gl_BadRule Wc) (u_c pe_str (fun _ _ => rfl)))) s_nil)
  (s_cons (s_if (b_not (b_val (u_B (cr_all rfl) c_all rfl (fr_all Wc) (by decide +kernel) (a_cons (u_lc (own := [("part", 1)]) [1] rfl (by decide) rfl sc_check_rule.nd (i_keys (u_v 0)) (blkOk_by (N := N_check_rule) (sc := defScope s_check_rule) (by decide +kernel)) (fun _ _ _ _ _ => (pg_name (i := 1) sc_check_rule.nd rfl (by first | exact .inl rfl | exact .inr rfl))) (fun _ _ _ _ _ => ts_nil) (fun _ _ _ _ _ => (u_call isP (ok_is_one_of Wc) (hr.mono (by decide)) Dl.takes0 rfl (gl_is_one_of Wc) (df_is_one_of Wc).kp (bd_is_one_of Wc) (a_cons (u_v 1) (a_cons (u_listK st_PARTS sr_PARTS rfl rfl (fr_list Wc) (pe_glob rfl (gl_PARTS Wc) rfl)) a_nil))))) a_nil)))) (s_one (s_raise1 (c := 5) show_chk (xcls_ok (ex_0 Wc)).oex (made_find (ex_1 Wc)) (made_type (ex_1 Wc)) (ok_BadRule Wc) (hr.mono (by decide)) (bd_BadRule Wc) rfl takesD passes_never rfl (gl_BadRule Wc) (u_c pe_str (fun _ _ => rfl)))) s_nil)
  (s_one (s_for (passes_of rfl) rfl (i_keysK st_PARTS sr_PARTS (pe_glob rfl (gl_PARTS Wc) rfl)) (pg_name (i := 1) sc_check_rule.nd rfl (by first | exact .inl rfl | exact .inr rfl)) (s_one (s_if (b_not (b_val (u_call isP (ok_is_one_of Wc) (hr.mono (by decide)) takesD rfl (gl_is_one_of Wc) (df_is_one_of Wc).kp (bd_is_one_of Wc) (a_cons (u_itemA (room1 hr) (u_v 0) (u_v 1)) (a_cons (u_ixK st_PARTS sr_PARTS (pe_glob rfl (gl_PARTS Wc) rfl) (u_v 1)) a_nil))))) (s_one (s_raise1 (c := 5) show_chk (xcls_ok (ex_0 Wc)).oex (made_find (ex_1 Wc)) (made_type (ex_1 Wc)) (ok_BadRule Wc) (hr.mono (by decide)) (bd_BadRule Wc) rfl takesD passes_never rfl (gl_BadRule Wc) (u_v 1))) s_nil))))))
theorem ok_check_rule {base : Heap} (Wc : Wx P w K mg) : FnOk P w K mg base (L2.CX P w) 3 (He.fAd K ("check_rule", none)) (fdAt K ("check_rule", none)) P_check_rule (spD K (clG K) 1 F_check_rule) := fn_D (df_check_rule Wc) sc_check_rule (by decide) fun cdv A outer s H E hr => bo_check_rule Wc cdv A outer s H E hr

theorem bo_is_value {base : Heap} (Wc : Wx P w K mg) (cdv : Value) (A : Around) (outer : List Env) (s : Shared) (H : Hp) (E : XK) (hr : Room 2 (A.deeper (envOfC "is_value" (defScope s_is_value) s.heap.objs.size (He.fAd K ("is_value", none)) cdv))) :
    USs (cxOf (L2.CX P w) P w K mg base N_is_value "is_value" (defScope s_is_value) (He.fAd K ("is_value", none)) cdv A outer s H E) (clG K) (WD E) (defBody s_is_value) den_is_value := by
  exact (s_one (s_ret (u_if (b_cmp (op_inAll (room65 hr)) d_inA (u_v 0) (u_gv Wc.toWz.toWl (ex_2 Wc))) (u_call isP (ok_is_from Wc) (hr.mono (by decide)) takesD rfl (gl_is_from Wc) (df_is_from Wc).kp (bd_is_from Wc) (a_cons (u_v 1) (a_cons (u_c pe_int (fun _ _ => rfl)) (a_cons (u_v 2) a_nil)))) (u_call isP (ok_is_from Wc) (hr.mono (by decide)) takesD rfl (gl_is_from Wc) (df_is_from Wc).kp (bd_is_from Wc) (a_cons (u_v 1) (a_cons (u_c pe_int (fun _ _ => rfl)) (a_cons (u_c pe_int (fun _ _ => rfl)) a_nil)))))))
theorem ok_is_value {base : Heap} (Wc : Wx P w K mg) : FnOk P w K mg base (L2.CX P w) 3 (He.fAd K ("is_value", none)) (fdAt K ("is_value", none)) P_is_value (spD K (clG K) 3 F_is_value) := fn_D (df_is_value Wc) sc_is_value (by decide) fun cdv A outer s H E hr => bo_is_value Wc cdv A outer s H E hr

theorem bo_is_span {base : Heap} (Wc : Wx P w K mg) (cdv : Value) (A : Around) (outer : List Env) (s : Shared) (H : Hp) (E : XK) (hr : Room 3 (A.deeper (envOfC "is_span" (defScope s_is_span) s.heap.objs.size (He.fAd K ("is_span", none)) cdv))) :
    USs (cxOf (L2.CX P w) P w K mg base N_is_span "is_span" (defScope s_is_span) (He.fAd K ("is_span", none)) cdv A outer s H E) (clG K) (WD E) (defBody s_is_span) den_is_span := by
  exact (s_cons (s_if (b_w (w_or (b_not (b_val (u_call isP (ok_is_from Wc) (hr.mono (by decide)) takesD rfl (gl_is_from Wc) (df_is_from Wc).kp (bd_is_from Wc) (a_cons (u_v 0) (a_cons (u_c pe_int (fun _ _ => rfl)) (a_cons (u_gv Wc.toWz.toWl (ex_3 Wc)) a_nil)))))) (w_or (b_not (b_val (u_call isP (ok_is_from Wc) (hr.mono (by decide)) takesD rfl (gl_is_from Wc) (df_is_from Wc).kp (bd_is_from Wc) (a_cons (u_v 1) (a_cons (u_c pe_int (fun _ _ => rfl)) (a_cons (u_gv Wc.toWz.toWl (ex_3 Wc)) a_nil)))))) (w_or1 (b_not (b_val (u_call isP (ok_is_one_of Wc) (hr.mono (by decide)) takesD rfl (gl_is_one_of Wc) (df_is_one_of Wc).kp (bd_is_one_of Wc) (a_cons (u_v 2) (a_cons (u_gv Wc.toWz.toWl (ex_4 Wc)) a_nil))))))))) (s_one (s_ret (u_c pe_bl (fun _ _ => rfl)))) s_nil)
  (s_one (s_ret (u_and (u_cmp op_leAny d_cmp (u_v 0) (u_v 1)) (u_one (u_call isP (ok_is_value Wc) (hr.mono (by decide)) takesD rfl (gl_is_value Wc) (df_is_value Wc).kp (bd_is_value Wc) (a_cons (u_v 2) (a_cons (u_v 3) (a_cons (u_gv Wc.toWz.toWl (ex_3 Wc)) a_nil)))))))))
theorem ok_is_span {base : Heap} (Wc : Wx P w K mg) : FnOk P w K mg base (L2.CX P w) 4 (He.fAd K ("is_span", none)) (fdAt K ("is_span", none)) P_is_span (spD K (clG K) 4 F_is_span) := fn_D (df_is_span Wc) sc_is_span (by decide) fun cdv A outer s H E hr => bo_is_span Wc cdv A outer s H E hr

theorem bo_Inn_init {base : Heap} (Wc : Wx P w K mg) (cdv : Value) (A : Around) (outer : List Env) (s : Shared) (H : Hp) (E : XK) (hr : Room 3 (A.deeper (envOfC "Inn.__init__" (defScope s_Inn_init) s.heap.objs.size (He.fAd K ("Inn", some "__init__")) cdv))) :
    USs (cxOf (L2.CX P w) P w K mg base N_Inn_init "Inn.__init__" (defScope s_Inn_init) (He.fAd K ("Inn", some "__init__")) cdv A outer s H E) (clG K) (WD E) (defBody s_Inn_init) den_Inn_init := by
  obtain ⟨o_PARTS, es_PARTS, ep_PARTS, kvs_PARTS, us_PARTS, st_PARTS, sr_PARTS, sl_PARTS⟩ := stat_PARTS (P := P) Wc
  exact (s_cons (s_expr (u_call isP (ok_check_rule Wc) (hr.mono (by decide)) takesD rfl (gl_check_rule Wc) (df_check_rule Wc).kp (bd_check_rule Wc) (a_cons (u_v 1) a_nil)))
  (s_cons (s_setF (c := 15) (cl_Inn Wc) (na_Inn_parts Wc) (u_v 0) (u_dc (own := [("part", 2)]) [2] rfl (by decide) rfl sc_Inn_init.nd (i_keysK st_PARTS sr_PARTS (pe_glob rfl (gl_PARTS Wc) rfl)) (blkOk_by (N := N_Inn_init) (sc := defScope s_Inn_init) (by decide +kernel)) (fun _ _ _ _ _ => (pg_name (i := 2) sc_Inn_init.nd rfl (by first | exact .inl rfl | exact .inr rfl))) (fun _ _ _ _ _ => ts_nil) (fun _ _ _ _ _ => (u_v 2)) (fun _ _ _ _ _ => (u_itemA (room1 hr) (u_v 1) (u_v 2)))))
  (s_cons (s_setF (c := 15) (cl_Inn Wc) (na_Inn_held Wc) (u_v 0) u_dic0)
  (s_cons (s_setF (c := 15) (cl_Inn Wc) (na_Inn_fresh Wc) (u_v 0) (u_c pe_int (fun _ _ => rfl)))
  (s_cons (s_setF (c := 15) (cl_Inn Wc) (na_Inn_past Wc) (u_v 0) (u_cellL a_nil))
  (s_one (s_setF (c := 15) (cl_Inn Wc) (na_Inn_rows_done Wc) (u_v 0) (u_cellL a_nil))))))))
theorem ok_Inn_init {base : Heap} (Wc : Wx P w K mg) : FnOk P w K mg base (L2.CX P w) 4 (He.fAd K ("Inn", some "__init__")) (fdAt K ("Inn", some "__init__")) P_Inn_init (spD K (clG K) 2 F_Inn_init) := fn_D (df_Inn_init Wc) sc_Inn_init (by decide) fun cdv A outer s H E hr => bo_Inn_init Wc cdv A outer s H E hr

theorem bo_Inn_spans {base : Heap} (Wc : Wx P w K mg) (cdv : Value) (A : Around) (outer : List Env) (s : Shared) (H : Hp) (E : XK) (hr : Room 0 (A.deeper (envOfC "Inn.spans" (defScope s_Inn_spans) s.heap.objs.size (getA K "Inn" "spans") cdv))) :
    USs (cxOf (L2.CX P w) P w K mg base N_Inn_spans "Inn.spans" (defScope s_Inn_spans) (getA K "Inn" "spans") cdv A outer s H E) (clG K) (WD E) (defBody s_Inn_spans) den_Inn_spans := by
  exact (s_one (s_ret (u_dictF rfl (fr_dict Wc) (by decide +kernel) (a_cons (u_attr (c := 15) (cl_Inn Wc) (na_Inn_held Wc) (u_v 0)) a_nil))))
theorem ok_Inn_spans {base : Heap} (Wc : Wx P w K mg) : FnOk P w K mg base (L2.CX P w) 1 (getA K "Inn" "spans") (fdOf K (getA K "Inn" "spans")) P_Inn_spans (spD K (clG K) 1 F_Inn_spans) := fn_D (df_Inn_spans Wc) sc_Inn_spans (by decide) fun cdv A outer s H E hr => bo_Inn_spans Wc cdv A outer s H E hr

theorem bo_Inn_log {base : Heap} (Wc : Wx P w K mg) (cdv : Value) (A : Around) (outer : List Env) (s : Shared) (H : Hp) (E : XK) (hr : Room 0 (A.deeper (envOfC "Inn.log" (defScope s_Inn_log) s.heap.objs.size (getA K "Inn" "log") cdv))) :
    USs (cxOf (L2.CX P w) P w K mg base N_Inn_log "Inn.log" (defScope s_Inn_log) (getA K "Inn" "log") cdv A outer s H E) (clG K) (WD E) (defBody s_Inn_log) den_Inn_log := by
  exact (s_one (s_ret (u_T (call_listA rfl) c_list rfl (fr_list Wc) (by decide +kernel) (a_cons (u_attr (c := 15) (cl_Inn Wc) (na_Inn_rows_done Wc) (u_v 0)) a_nil))))
theorem ok_Inn_log {base : Heap} (Wc : Wx P w K mg) : FnOk P w K mg base (L2.CX P w) 1 (getA K "Inn" "log") (fdOf K (getA K "Inn" "log")) P_Inn_log (spD K (clG K) 1 F_Inn_log) := fn_D (df_Inn_log Wc) sc_Inn_log (by decide) fun cdv A outer s H E hr => bo_Inn_log Wc cdv A outer s H E hr

theorem bo_Inn_become {base : Heap} (Wc : Wx P w K mg) (cdv : Value) (A : Around) (outer : List Env) (s : Shared) (H : Hp) (E : XK) (hr : Room 0 (A.deeper (envOfC "Inn.become" (defScope s_Inn_become) s.heap.objs.size (He.fAd K ("Inn", some "become")) cdv))) :
    USs (cxOf (L2.CX P w) P w K mg base N_Inn_become "Inn.become" (defScope s_Inn_become) (He.fAd K ("Inn", some "become")) cdv A outer s H E) (clG K) (WD E) (defBody s_Inn_become) den_Inn_become := by
  exact (s_cons (s_expr (u_bm PySem.F.plainAttrs_list PySem.F.slot_list_append PySem.F.type_list_append mt_append m_append (u_attr (c := 15) (cl_Inn Wc) (na_Inn_past Wc) (u_v 0)) (a_cons (u_tup (a_cons (u_attr (c := 15) (cl_Inn Wc) (na_Inn_held Wc) (u_v 0)) (a_cons (u_attr (c := 15) (cl_Inn Wc) (na_Inn_fresh Wc) (u_v 0)) a_nil))) a_nil)))
  (s_cons (s_expr (u_bm PySem.F.plainAttrs_list PySem.F.slot_list_append PySem.F.type_list_append mt_append m_append (u_attr (c := 15) (cl_Inn Wc) (na_Inn_rows_done Wc) (u_v 0)) (a_cons (u_v 2) a_nil)))
  (s_one (s_setF (c := 15) (cl_Inn Wc) (na_Inn_held Wc) (u_v 0) (u_v 1)))))
theorem ok_Inn_become {base : Heap} (Wc : Wx P w K mg) : FnOk P w K mg base (L2.CX P w) 1 (He.fAd K ("Inn", some "become")) (fdAt K ("Inn", some "become")) P_Inn_become (spD K (clG K) 3 F_Inn_become) := fn_D (df_Inn_become Wc) sc_Inn_become (by decide) fun cdv A outer s H E hr => bo_Inn_become Wc cdv A outer s H E hr

theorem bo_Inn_need {base : Heap} (Wc : Wx P w K mg) (cdv : Value) (A : Around) (outer : List Env) (s : Shared) (H : Hp) (E : XK) (hr : Room 2 (A.deeper (envOfC "Inn.need" (defScope s_Inn_need) s.heap.objs.size (He.fAd K ("Inn", some "need")) cdv))) :
    USs (cxOf (L2.CX P w) P w K mg base N_Inn_need "Inn.need" (defScope s_Inn_need) (He.fAd K ("Inn", some "need")) cdv A outer s H E) (clG K) (WD E) (defBody s_Inn_need) den_Inn_need := by
  exact (s_one (s_if (b_w (w_or (b_not (b_val (u_call isP (ok_is_from Wc) (hr.mono (by decide)) takesD rfl (gl_is_from Wc) (df_is_from Wc).kp (bd_is_from Wc) (a_cons (u_v 1) (a_cons (u_c pe_int (fun _ _ => rfl)) (a_cons (u_attr (c := 15) (cl_Inn Wc) (na_Inn_fresh Wc) (u_v 0)) a_nil)))))) (w_or1 (b_cmp (op_notInAll (room65 hr)) d_inA (u_v 1) (u_attr (c := 15) (cl_Inn Wc) (na_Inn_held Wc) (u_v 0)))))) (s_one (s_raise1 (c := 9) show_chk (xcls_ok (ex_5 Wc)).oex (made_find (ex_6 Wc)) (made_type (ex_6 Wc)) (ok_NoSpan Wc) (hr.mono (by decide)) (bd_NoSpan Wc) rfl takesD passes_never rfl (gl_NoSpan Wc) (u_v 1))) s_nil))
theorem ok_Inn_need {base : Heap} (Wc : Wx P w K mg) : FnOk P w K mg base (L2.CX P w) 3 (He.fAd K ("Inn", some "need")) (fdAt K ("Inn", some "need")) P_Inn_need (spD K (clG K) 2 F_Inn_need) := fn_D (df_Inn_need Wc) sc_Inn_need (by decide) fun cdv A outer s H E hr => bo_Inn_need Wc cdv A outer s H E hr

theorem bo_Inn_lay {base : Heap} (Wc : Wx P w K mg) (cdv : Value) (A : Around) (outer : List Env) (s : Shared) (H : Hp) (E : XK) (hr : Room 4 (A.deeper (envOfC "Inn.lay" (defScope s_Inn_lay) s.heap.objs.size (He.fAd K ("Inn", some "lay")) cdv))) :
    USs (cxOf (L2.CX P w) P w K mg base N_Inn_lay "Inn.lay" (defScope s_Inn_lay) (He.fAd K ("Inn", some "lay")) cdv A outer s H E) (clG K) (WD E) (defBody s_Inn_lay) den_Inn_lay := by
  exact (s_cons (s_if (b_not (b_val (u_call isP (ok_is_span Wc) (hr.mono (by decide)) takesD rfl (gl_is_span Wc) (df_is_span Wc).kp (bd_is_span Wc) (a_cons (u_v 1) (a_cons (u_v 2) (a_cons (u_v 3) (a_cons (u_v 4) a_nil))))))) (s_one (s_raise0 (c := 8) (xcls_ok (ex_7 Wc)).oex (made_find (ex_8 Wc)) (made_type (ex_8 Wc)) (ok_BadSpan Wc) (hr.mono (by decide)) (bd_BadSpan Wc) rfl rfl takesD passes_never rfl (gl_BadSpan Wc))) s_nil)
  (s_cons (s_set (i := 5) sc_Inn_lay.nd rfl (by first | exact .inl rfl | exact .inr rfl) (u_attr (c := 15) (cl_Inn Wc) (na_Inn_fresh Wc) (u_v 0)))
  (s_cons (s_expr (u_meth (c := 15) (pl := _) isT (ok_Inn_become Wc) (hr.mono (by decide)) takesD (cl_Inn Wc) (me_Inn_become Wc) (bd_Inn_become Wc) (u_v 0) (a_cons (u_star (u_attr (c := 15) (cl_Inn Wc) (na_Inn_held Wc) (u_v 0)) (u_v 5) (u_tup (a_cons (u_v 1) (a_cons (u_v 2) (a_cons (u_v 3) (a_cons (u_v 4) a_nil)))))) (a_cons (u_tup (a_cons (u_c pe_str (fun _ _ => rfl)) (a_cons (u_v 1) (a_cons (u_v 2) (a_cons (u_v 3) (a_cons (u_v 4) a_nil)))))) a_nil))))
  (s_cons (s_setF (c := 15) (cl_Inn Wc) (na_Inn_fresh Wc) (u_v 0) (u_bin op_addAny d_add (u_v 5) (u_c pe_int (fun _ _ => rfl))))
  (s_one (s_ret (u_v 5)))))))
theorem ok_Inn_lay {base : Heap} (Wc : Wx P w K mg) : FnOk P w K mg base (L2.CX P w) 5 (He.fAd K ("Inn", some "lay")) (fdAt K ("Inn", some "lay")) P_Inn_lay (spD K (clG K) 5 F_Inn_lay) := fn_D (df_Inn_lay Wc) sc_Inn_lay (by decide) fun cdv A outer s H E hr => bo_Inn_lay Wc cdv A outer s H E hr

theorem bo_Inn_change {base : Heap} (Wc : Wx P w K mg) (cdv : Value) (A : Around) (outer : List Env) (s : Shared) (H : Hp) (E : XK) (hr : Room 3 (A.deeper (envOfC "Inn.change" (defScope s_Inn_change) s.heap.objs.size (He.fAd K ("Inn", some "change")) cdv))) :
    USs (cxOf (L2.CX P w) P w K mg base N_Inn_change "Inn.change" (defScope s_Inn_change) (He.fAd K ("Inn", some "change")) cdv A outer s H E) (clG K) (WD E) (defBody s_Inn_change) den_Inn_change := by
  exact (s_cons (s_expr (u_meth (c := 15) (pl := _) isT (ok_Inn_need Wc) (hr.mono (by decide)) takesD (cl_Inn Wc) (me_Inn_need Wc) (bd_Inn_need Wc) (u_v 0) (a_cons (u_v 1) a_nil)))
  (s_cons (s_asg (u_itemA (room1 hr) (u_attr (c := 15) (cl_Inn Wc) (na_Inn_held Wc) (u_v 0)) (u_v 1)) (pg_tup rfl (pgs_cons (pg_name (i := 3) sc_Inn_change.nd rfl (by first | exact .inl rfl | exact .inr rfl)) (pgs_cons (pg_name (i := 4) sc_Inn_change.nd rfl (by first | exact .inl rfl | exact .inr rfl)) (pgs_cons (pg_name (i := 5) sc_Inn_change.nd rfl (by first | exact .inl rfl | exact .inr rfl)) (pgs_cons (pg_name (i := 6) sc_Inn_change.nd rfl (by first | exact .inl rfl | exact .inr rfl)) pgs_nil))))))
  (s_cons (s_if (b_not (b_val (u_call isP (ok_is_value Wc) (hr.mono (by decide)) takesD rfl (gl_is_value Wc) (df_is_value Wc).kp (bd_is_value Wc) (a_cons (u_v 5) (a_cons (u_v 2) (a_cons (u_gv Wc.toWz.toWl (ex_3 Wc)) a_nil)))))) (s_one (s_raise0 (c := 8) (xcls_ok (ex_7 Wc)).oex (made_find (ex_8 Wc)) (made_type (ex_8 Wc)) (ok_BadSpan Wc) (hr.mono (by decide)) (bd_BadSpan Wc) rfl rfl takesD passes_never rfl (gl_BadSpan Wc))) s_nil)
  (s_cons (s_set (i := 7) sc_Inn_change.nd rfl (by first | exact .inl rfl | exact .inr rfl) (u_dictC rfl (fr_dict Wc) (by decide +kernel) (a_cons (u_attr (c := 15) (cl_Inn Wc) (na_Inn_held Wc) (u_v 0)) a_nil)))
  (s_cons (s_if (b_cmp (op_eqAll (room65 hr)) d_eqA (u_itemA (room1 hr) (u_attr (c := 15) (cl_Inn Wc) (na_Inn_parts Wc) (u_v 0)) (u_c pe_str (fun _ _ => rfl))) (u_c pe_str (fun _ _ => rfl))) (s_one (s_expr (u_bm PySem.F.plainAttrs_dict PySem.F.slot_dict_pop PySem.F.type_dict_pop mt_pop1 m_popD (u_v 7) (a_cons (u_v 1) a_nil)))) s_nil)
  (s_cons (s_setA (room1 hr) (u_v 7) (u_v 1) (u_tup (a_cons (u_v 3) (a_cons (u_v 4) (a_cons (u_v 5) (a_cons (u_v 2) a_nil))))))
  (s_one (s_expr (u_meth (c := 15) (pl := _) isT (ok_Inn_become Wc) (hr.mono (by decide)) takesD (cl_Inn Wc) (me_Inn_become Wc) (bd_Inn_become Wc) (u_v 0) (a_cons (u_fz (u_v 7)) (a_cons (u_tup (a_cons (u_c pe_str (fun _ _ => rfl)) (a_cons (u_v 1) (a_cons (u_v 2) a_nil)))) a_nil)))))))))))
theorem ok_Inn_change {base : Heap} (Wc : Wx P w K mg) : FnOk P w K mg base (L2.CX P w) 4 (He.fAd K ("Inn", some "change")) (fdAt K ("Inn", some "change")) P_Inn_change (spD K (clG K) 3 F_Inn_change) := fn_D (df_Inn_change Wc) sc_Inn_change (by decide) fun cdv A outer s H E hr => bo_Inn_change Wc cdv A outer s H E hr

theorem bo_Inn_drop {base : Heap} (Wc : Wx P w K mg) (cdv : Value) (A : Around) (outer : List Env) (s : Shared) (H : Hp) (E : XK) (hr : Room 3 (A.deeper (envOfC "Inn.drop" (defScope s_Inn_drop) s.heap.objs.size (He.fAd K ("Inn", some "drop")) cdv))) :
    USs (cxOf (L2.CX P w) P w K mg base N_Inn_drop "Inn.drop" (defScope s_Inn_drop) (He.fAd K ("Inn", some "drop")) cdv A outer s H E) (clG K) (WD E) (defBody s_Inn_drop) den_Inn_drop := by
  exact (s_cons (s_expr (u_meth (c := 15) (pl := _) isT (ok_Inn_need Wc) (hr.mono (by decide)) takesD (cl_Inn Wc) (me_Inn_need Wc) (bd_Inn_need Wc) (u_v 0) (a_cons (u_v 1) a_nil)))
  (s_cons (s_setDcC (i := 2) (own := [("one", 3), ("span", 4)]) [3, 4] rfl (by decide) rfl sc_Inn_drop.nd rfl rfl (swd_true rfl rfl rfl (by decide +kernel))  (i_items (u_attr (c := 15) (cl_Inn Wc) (na_Inn_held Wc) (u_v 0))) (blkOk_by (N := N_Inn_drop) (sc := defScope s_Inn_drop) (by decide +kernel)) (fun _ _ _ _ _ => (pg_tup rfl (pgs_cons (pg_name (i := 3) sc_Inn_drop.nd rfl (by first | exact .inl rfl | exact .inr rfl)) (pgs_cons (pg_name (i := 4) sc_Inn_drop.nd rfl (by first | exact .inl rfl | exact .inr rfl)) pgs_nil)))) (fun _ _ _ _ _ => (ts_one (b_cmp (op_neAll (room65 hr)) d_neA (u_v 3) (u_v 1)))) (fun _ _ _ _ _ => (u_v 3)) (fun _ _ _ _ _ => (u_v 4)))
  (s_one (s_expr (u_meth (c := 15) (pl := _) isT (ok_Inn_become Wc) (hr.mono (by decide)) takesD (cl_Inn Wc) (me_Inn_become Wc) (bd_Inn_become Wc) (u_v 0) (a_cons (u_fz (u_v 2)) (a_cons (u_tup (a_cons (u_c pe_str (fun _ _ => rfl)) (a_cons (u_v 1) a_nil))) a_nil)))))))
theorem ok_Inn_drop {base : Heap} (Wc : Wx P w K mg) : FnOk P w K mg base (L2.CX P w) 4 (He.fAd K ("Inn", some "drop")) (fdAt K ("Inn", some "drop")) P_Inn_drop (spD K (clG K) 2 F_Inn_drop) := fn_D (df_Inn_drop Wc) sc_Inn_drop (by decide) fun cdv A outer s H E hr => bo_Inn_drop Wc cdv A outer s H E hr

theorem bo_Inn_bars {base : Heap} (Wc : Wx P w K mg) (cdv : Value) (A : Around) (outer : List Env) (s : Shared) (H : Hp) (E : XK) (hr : Room 2 (A.deeper (envOfC "Inn.bars" (defScope s_Inn_bars) s.heap.objs.size (He.fAd K ("Inn", some "bars")) cdv))) :
    USs (cxOf (L2.CX P w) P w K mg base N_Inn_bars "Inn.bars" (defScope s_Inn_bars) (He.fAd K ("Inn", some "bars")) cdv A outer s H E) (clG K) (WD E) (defBody s_Inn_bars) den_Inn_bars := by
  exact (s_cons (s_if (b_w (w_or (b_not (b_val (u_call isP (ok_is_from Wc) (hr.mono (by decide)) takesD rfl (gl_is_from Wc) (df_is_from Wc).kp (bd_is_from Wc) (a_cons (u_v 1) (a_cons (u_c pe_int (fun _ _ => rfl)) (a_cons (u_gv Wc.toWz.toWl (ex_3 Wc)) a_nil)))))) (w_or (b_not (b_val (u_call isP (ok_is_from Wc) (hr.mono (by decide)) takesD rfl (gl_is_from Wc) (df_is_from Wc).kp (bd_is_from Wc) (a_cons (u_v 2) (a_cons (u_c pe_int (fun _ _ => rfl)) (a_cons (u_gv Wc.toWz.toWl (ex_3 Wc)) a_nil)))))) (w_or1 (b_cmp op_geAny d_cmp (u_v 1) (u_v 2)))))) (s_one (s_raise0 (c := 7) (xcls_ok (ex_9 Wc)).oex (made_find (ex_10 Wc)) (made_type (ex_10 Wc)) (ok_BadStay Wc) (hr.mono (by decide)) (bd_BadStay Wc) rfl rfl takesD passes_never rfl (gl_BadStay Wc))) s_nil)
  (s_one (s_ret u_none)))
theorem ok_Inn_bars {base : Heap} (Wc : Wx P w K mg) : FnOk P w K mg base (L2.CX P w) 3 (He.fAd K ("Inn", some "bars")) (fdAt K ("Inn", some "bars")) P_Inn_bars (spD K (clG K) 3 F_Inn_bars) := fn_D (df_Inn_bars Wc) sc_Inn_bars (by decide) fun cdv A outer s H E hr => bo_Inn_bars Wc cdv A outer s H E hr

theorem bo_Inn_longest {base : Heap} (Wc : Wx P w K mg) (cdv : Value) (A : Around) (outer : List Env) (s : Shared) (H : Hp) (E : XK) (hr : Room 2 (A.deeper (envOfC "Inn.longest" (defScope s_Inn_longest) s.heap.objs.size (He.fAd K ("Inn", some "longest")) cdv))) :
    USs (cxOf (L2.CX P w) P w K mg base N_Inn_longest "Inn.longest" (defScope s_Inn_longest) (He.fAd K ("Inn", some "longest")) cdv A outer s H E) (clG K) (WD E) (defBody s_Inn_longest) den_Inn_longest := by
  exact (s_cons (s_if (b_not (b_val (u_call isP (ok_is_from Wc) (hr.mono (by decide)) takesD rfl (gl_is_from Wc) (df_is_from Wc).kp (bd_is_from Wc) (a_cons (u_v 1) (a_cons (u_c pe_int (fun _ _ => rfl)) (a_cons (u_gv Wc.toWz.toWl (ex_3 Wc)) a_nil)))))) (s_one (s_raise0 (c := 7) (xcls_ok (ex_9 Wc)).oex (made_find (ex_10 Wc)) (made_type (ex_10 Wc)) (ok_BadStay Wc) (hr.mono (by decide)) (bd_BadStay Wc) rfl rfl takesD passes_never rfl (gl_BadStay Wc))) s_nil)
  (s_one (s_ret u_none)))
theorem ok_Inn_longest {base : Heap} (Wc : Wx P w K mg) : FnOk P w K mg base (L2.CX P w) 3 (He.fAd K ("Inn", some "longest")) (fdAt K ("Inn", some "longest")) P_Inn_longest (spD K (clG K) 2 F_Inn_longest) := fn_D (df_Inn_longest Wc) sc_Inn_longest (by decide) fun cdv A outer s H E hr => bo_Inn_longest Wc cdv A outer s H E hr

theorem bo__law_draws {base : Heap} (Wc : Wx P w K mg) (cdv : Value) (A : Around) (outer : List Env) (s : Shared) (H : Hp) (E : XK) (hr : Room 0 (A.deeper (envOfC "_law_draws" (defScope s__law_draws) s.heap.objs.size (He.fAd K ("_law_draws", none)) cdv))) :
    USs (cxOf (L2.CX P w) P w K mg base N__law_draws "_law_draws" (defScope s__law_draws) (He.fAd K ("_law_draws", none)) cdv A outer s H E) (clG K) (WD E) (defBody s__law_draws) den__law_draws := by
  exact (s_one (s_ret (u_cellL (a_cons (u_T (call_listA rfl) c_list rfl (fr_list Wc) (by decide +kernel) (a_cons (u_v 0) a_nil)) (a_cons (u_c pe_int (fun _ _ => rfl)) (a_cons (u_c pe_int (fun _ _ => rfl)) (a_cons (u_c pe_int (fun _ _ => rfl)) a_nil)))))))
theorem ok__law_draws {base : Heap} (Wc : Wx P w K mg) : FnOk P w K mg base (L2.CX P w) 1 (He.fAd K ("_law_draws", none)) (fdAt K ("_law_draws", none)) P__law_draws (spD K (clG K) 1 F__law_draws) := fn_D (df__law_draws Wc) sc__law_draws (by decide) fun cdv A outer s H E hr => bo__law_draws Wc cdv A outer s H E hr

theorem bo__law_pick {base : Heap} (Wc : Wx P w K mg) (cdv : Value) (A : Around) (outer : List Env) (s : Shared) (H : Hp) (E : XK) (hr : Room 0 (A.deeper (envOfC "_law_pick" (defScope s__law_pick) s.heap.objs.size (He.fAd K ("_law_pick", none)) cdv))) :
    USs (cxOf (L2.CX P w) P w K mg base N__law_pick "_law_pick" (defScope s__law_pick) (He.fAd K ("_law_pick", none)) cdv A outer s H E) (clG K) (WD E) (defBody s__law_pick) den__law_pick := by
  exact (s_cons (s_if (b_cmp (op_eqAll (room65 hr)) d_eqA (u_itemA (room1 hr) (u_v 0) (u_c pe_int (fun _ _ => rfl))) (u_c pe_int (fun _ _ => rfl))) (s_one (s_if (b_cmp op_ltAny d_cmp (u_itemA (room1 hr) (u_v 0) (u_c pe_int (fun _ _ => rfl))) (u_B call_len' c_len rfl (fr_len Wc) PySem.boot_len (a_cons (u_itemA (room1 hr) (u_v 0) (u_c pe_int (fun _ _ => rfl))) a_nil))) (s_cons (s_set (i := 2) sc__law_pick.nd rfl (by first | exact .inl rfl | exact .inr rfl) (u_itemA (room1 hr) (u_itemA (room1 hr) (u_v 0) (u_c pe_int (fun _ _ => rfl))) (u_itemA (room1 hr) (u_v 0) (u_c pe_int (fun _ _ => rfl)))))
  (s_cons (s_setA (room1 hr) (u_v 0) (u_c pe_int (fun _ _ => rfl)) (u_bin op_addAny d_add (u_itemA (room1 hr) (u_v 0) (u_c pe_int (fun _ _ => rfl))) (u_c pe_int (fun _ _ => rfl))))
  (s_one (s_if (b_cmp op_geAny d_cmp (u_v 2) (u_bin op_pow d_pow (u_c pe_int (fun _ _ => rfl)) (u_c pe_int (fun _ _ => rfl)))) (s_one (s_setA (room1 hr) (u_v 0) (u_c pe_int (fun _ _ => rfl)) (u_v 2))) (s_one (s_setA (room1 hr) (u_v 0) (u_c pe_int (fun _ _ => rfl)) (u_bin op_mod d_mod (u_T call_intA c_int rfl (fr_int Wc) (by decide +kernel) (a_cons (u_bin op_addAny d_add (u_bin op_addAny d_add (u_bin op_mulAny d_mul (u_itemA (room1 hr) (u_v 0) (u_c pe_int (fun _ _ => rfl))) (u_c pe_int (fun _ _ => rfl))) (u_bin op_mulAny d_mul (u_v 2) (u_c pe_int (fun _ _ => rfl)))) (u_c pe_int (fun _ _ => rfl))) a_nil)) (u_c pe_int (fun _ _ => rfl))))))))) (s_one (s_setA (room1 hr) (u_v 0) (u_c pe_int (fun _ _ => rfl)) (u_bin op_mod d_mod (u_T call_intA c_int rfl (fr_int Wc) (by decide +kernel) (a_cons (u_bin op_addAny d_add (u_bin op_mulAny d_mul (u_itemA (room1 hr) (u_v 0) (u_c pe_int (fun _ _ => rfl))) (u_c pe_int (fun _ _ => rfl))) (u_c pe_int (fun _ _ => rfl))) a_nil)) (u_c pe_int (fun _ _ => rfl))))))) s_nil)
  (s_cons (s_if (b_cmp op_gtAny d_cmp (u_itemA (room1 hr) (u_v 0) (u_c pe_int (fun _ _ => rfl))) (u_c pe_int (fun _ _ => rfl))) (s_cons (s_set (i := 3) sc__law_pick.nd rfl (by first | exact .inl rfl | exact .inr rfl) (u_bin op_mod d_mod (u_T call_intA c_int rfl (fr_int Wc) (by decide +kernel) (a_cons (u_itemA (room1 hr) (u_v 0) (u_c pe_int (fun _ _ => rfl))) a_nil)) (u_v 1)))
  (s_cons (s_setA (room1 hr) (u_v 0) (u_c pe_int (fun _ _ => rfl)) (u_bin op_fdiv d_div (u_itemA (room1 hr) (u_v 0) (u_c pe_int (fun _ _ => rfl))) (u_v 1)))
  (s_one (s_ret (u_v 3))))) s_nil)
  (s_one (s_ret (u_bin op_mod d_mod (u_bin op_mod d_mod (u_T call_intA c_int rfl (fr_int Wc) (by decide +kernel) (a_cons (u_bin op_mulAny d_mul (u_itemA (room1 hr) (u_v 0) (u_c pe_int (fun _ _ => rfl))) (u_c pe_int (fun _ _ => rfl))) a_nil)) (u_c pe_int (fun _ _ => rfl))) (u_v 1))))))
theorem ok__law_pick {base : Heap} (Wc : Wx P w K mg) : FnOk P w K mg base (L2.CX P w) 1 (He.fAd K ("_law_pick", none)) (fdAt K ("_law_pick", none)) P__law_pick (spD K (clG K) 2 F__law_pick) := fn_D (df__law_pick Wc) sc__law_pick (by decide) fun cdv A outer s H E hr => bo__law_pick Wc cdv A outer s H E hr

theorem bo__law_parts {base : Heap} (Wc : Wx P w K mg) (cdv : Value) (A : Around) (outer : List Env) (s : Shared) (H : Hp) (E : XK) (hr : Room 0 (A.deeper (envOfC "_law_parts" (defScope s__law_parts) s.heap.objs.size (He.fAd K ("_law_parts", none)) cdv))) :
    USs (cxOf (L2.CX P w) P w K mg base N__law_parts "_law_parts" (defScope s__law_parts) (He.fAd K ("_law_parts", none)) cdv A outer s H E) (clG K) (WD E) (defBody s__law_parts) den__law_parts := by
  exact (s_cons (s_set (i := 0) sc__law_parts.nd rfl (by first | exact .inl rfl | exact .inr rfl) (u_lst (a_cons (u_tup (a_cons (u_c pe_str (fun _ _ => rfl)) (a_cons (u_lst (a_cons (u_c pe_str (fun _ _ => rfl)) (a_cons (u_c pe_str (fun _ _ => rfl)) a_nil))) a_nil))) (a_cons (u_tup (a_cons (u_c pe_str (fun _ _ => rfl)) (a_cons (u_lst (a_cons (u_c pe_str (fun _ _ => rfl)) (a_cons (u_c pe_str (fun _ _ => rfl)) a_nil))) a_nil))) (a_cons (u_tup (a_cons (u_c pe_str (fun _ _ => rfl)) (a_cons (u_lst (a_cons (u_c pe_str (fun _ _ => rfl)) (a_cons (u_c pe_str (fun _ _ => rfl)) a_nil))) a_nil))) a_nil)))))
  (s_one (s_ret (u_bin op_addAny d_add (u_v 0) (u_lst (a_cons (u_tup (a_cons (u_c pe_str (fun _ _ => rfl)) (a_cons (u_lst (a_cons (u_c pe_str (fun _ _ => rfl)) (a_cons (u_c pe_str (fun _ _ => rfl)) (a_cons (u_c pe_str (fun _ _ => rfl)) a_nil)))) a_nil))) (a_cons (u_tup (a_cons (u_c pe_str (fun _ _ => rfl)) (a_cons (u_lst (a_cons (u_c pe_str (fun _ _ => rfl)) (a_cons (u_c pe_str (fun _ _ => rfl)) a_nil))) a_nil))) a_nil)))))))
theorem ok__law_parts {base : Heap} (Wc : Wx P w K mg) : FnOk P w K mg base (L2.CX P w) 1 (He.fAd K ("_law_parts", none)) (fdAt K ("_law_parts", none)) P__law_parts (spD K (clG K) 0 F__law_parts) := fn_D (df__law_parts Wc) sc__law_parts (by decide) fun cdv A outer s H E hr => bo__law_parts Wc cdv A outer s H E hr

theorem bo__law_marks {base : Heap} (Wc : Wx P w K mg) (cdv : Value) (A : Around) (outer : List Env) (s : Shared) (H : Hp) (E : XK) (hr : Room 0 (A.deeper (envOfC "_law_marks" (defScope s__law_marks) s.heap.objs.size (He.fAd K ("_law_marks", none)) cdv))) :
    USs (cxOf (L2.CX P w) P w K mg base N__law_marks "_law_marks" (defScope s__law_marks) (He.fAd K ("_law_marks", none)) cdv A outer s H E) (clG K) (WD E) (defBody s__law_marks) den__law_marks := by
  exact (s_one (s_ret (u_lst (a_cons (u_c pe_str (fun _ _ => rfl)) (a_cons (u_c pe_str (fun _ _ => rfl)) (a_cons (u_c pe_str (fun _ _ => rfl)) (a_cons (u_c pe_str (fun _ _ => rfl)) (a_cons (u_c pe_str (fun _ _ => rfl)) a_nil))))))))
theorem ok__law_marks {base : Heap} (Wc : Wx P w K mg) : FnOk P w K mg base (L2.CX P w) 1 (He.fAd K ("_law_marks", none)) (fdAt K ("_law_marks", none)) P__law_marks (spD K (clG K) 0 F__law_marks) := fn_D (df__law_marks Wc) sc__law_marks (by decide) fun cdv A outer s H E hr => bo__law_marks Wc cdv A outer s H E hr

theorem bo__law_rule {base : Heap} (Wc : Wx P w K mg) (cdv : Value) (A : Around) (outer : List Env) (s : Shared) (H : Hp) (E : XK) (hr : Room 1 (A.deeper (envOfC "_law_rule" (defScope s__law_rule) s.heap.objs.size (He.fAd K ("_law_rule", none)) cdv))) :
    USs (cxOf (L2.CX P w) P w K mg base N__law_rule "_law_rule" (defScope s__law_rule) (He.fAd K ("_law_rule", none)) cdv A outer s H E) (clG K) (WD E) (defBody s__law_rule) den__law_rule := by
  exact (s_cons (s_set (i := 1) sc__law_rule.nd rfl (by first | exact .inl rfl | exact .inr rfl) u_dicC)
  (s_cons (s_for (passes_of rfl) rfl (i_lst (u_call0 isP (ok__law_parts Wc) (hr.mono (by decide)) takesD rfl (gl__law_parts Wc) (df__law_parts Wc).kp (bd__law_parts Wc))) (pg_tup rfl (pgs_cons (pg_name (i := 2) sc__law_rule.nd rfl (by first | exact .inl rfl | exact .inr rfl)) (pgs_cons (pg_name (i := 3) sc__law_rule.nd rfl (by first | exact .inl rfl | exact .inr rfl)) pgs_nil))) (s_one (s_setA (room1 hr) (u_v 1) (u_v 2) (u_itemA (room1 hr) (u_v 3) (u_call isR (ok__law_pick Wc) (hr.mono (by decide)) takesD rfl (gl__law_pick Wc) (df__law_pick Wc).kp (bd__law_pick Wc) (a_cons (u_v 0) (a_cons (u_B call_len' c_len rfl (fr_len Wc) PySem.boot_len (a_cons (u_v 3) a_nil)) a_nil)))))))
  (s_one (s_ret (u_fz (u_v 1))))))
theorem ok__law_rule {base : Heap} (Wc : Wx P w K mg) : FnOk P w K mg base (L2.CX P w) 2 (He.fAd K ("_law_rule", none)) (fdAt K ("_law_rule", none)) P__law_rule (spD K (clG K) 1 F__law_rule) := fn_D (df__law_rule Wc) sc__law_rule (by decide) fun cdv A outer s H E hr => bo__law_rule Wc cdv A outer s H E hr

theorem bo__law_inn_span {base : Heap} (Wc : Wx P w K mg) (cdv : Value) (A : Around) (outer : List Env) (s : Shared) (H : Hp) (E : XK) (hr : Room 1 (A.deeper (envOfC "_law_inn_span" (defScope s__law_inn_span) s.heap.objs.size (He.fAd K ("_law_inn_span", none)) cdv))) :
    USs (cxOf (L2.CX P w) P w K mg base N__law_inn_span "_law_inn_span" (defScope s__law_inn_span) (He.fAd K ("_law_inn_span", none)) cdv A outer s H E) (clG K) (WD E) (defBody s__law_inn_span) den__law_inn_span := by
  exact (s_cons (s_set (i := 2) sc__law_inn_span.nd rfl (by first | exact .inl rfl | exact .inr rfl) (u_itemA (room1 hr) (u_call0 isP (ok__law_marks Wc) (hr.mono (by decide)) takesD rfl (gl__law_marks Wc) (df__law_marks Wc).kp (bd__law_marks Wc)) (u_call isR (ok__law_pick Wc) (hr.mono (by decide)) takesD rfl (gl__law_pick Wc) (df__law_pick Wc).kp (bd__law_pick Wc) (a_cons (u_v 0) (a_cons (u_c pe_int (fun _ _ => rfl)) a_nil)))))
  (s_cons (s_set (i := 3) sc__law_inn_span.nd rfl (by first | exact .inl rfl | exact .inr rfl) (u_call isR (ok__law_pick Wc) (hr.mono (by decide)) takesD rfl (gl__law_pick Wc) (df__law_pick Wc).kp (bd__law_pick Wc) (a_cons (u_v 0) (a_cons (u_v 1) a_nil))))
  (s_cons (s_set (i := 4) sc__law_inn_span.nd rfl (by first | exact .inl rfl | exact .inr rfl) (u_bin op_addAny d_add (u_v 3) (u_call isR (ok__law_pick Wc) (hr.mono (by decide)) takesD rfl (gl__law_pick Wc) (df__law_pick Wc).kp (bd__law_pick Wc) (a_cons (u_v 0) (a_cons (u_v 1) a_nil)))))
  (s_cons (s_set (i := 5) sc__law_inn_span.nd rfl (by first | exact .inl rfl | exact .inr rfl) (u_if (b_cmp (op_inAll (room65 hr)) d_inA (u_v 2) (u_lst (a_cons (u_c pe_str (fun _ _ => rfl)) (a_cons (u_c pe_str (fun _ _ => rfl)) a_nil)))) (u_bin op_addAny d_add (u_c pe_int (fun _ _ => rfl)) (u_call isR (ok__law_pick Wc) (hr.mono (by decide)) takesD rfl (gl__law_pick Wc) (df__law_pick Wc).kp (bd__law_pick Wc) (a_cons (u_v 0) (a_cons (u_v 1) a_nil)))) (u_call isR (ok__law_pick Wc) (hr.mono (by decide)) takesD rfl (gl__law_pick Wc) (df__law_pick Wc).kp (bd__law_pick Wc) (a_cons (u_v 0) (a_cons (u_c pe_int (fun _ _ => rfl)) a_nil)))))
  (s_one (s_ret (u_tup (a_cons (u_v 3) (a_cons (u_v 4) (a_cons (u_v 2) (a_cons (u_v 5) a_nil)))))))))))
theorem ok__law_inn_span {base : Heap} (Wc : Wx P w K mg) : FnOk P w K mg base (L2.CX P w) 2 (He.fAd K ("_law_inn_span", none)) (fdAt K ("_law_inn_span", none)) P__law_inn_span (spD K (clG K) 2 F__law_inn_span) := fn_D (df__law_inn_span Wc) sc__law_inn_span (by decide) fun cdv A outer s H E hr => bo__law_inn_span Wc cdv A outer s H E hr

theorem bo__law_inn_led {base : Heap} (Wc : Wx P w K mg) (cdv : Value) (A : Around) (outer : List Env) (s : Shared) (H : Hp) (E : XK) (hr : Room 5 (A.deeper (envOfC "_law_inn_led" (defScope s__law_inn_led) s.heap.objs.size (He.fAd K ("_law_inn_led", none)) cdv))) :
    USs (cxOf (L2.CX P w) P w K mg base N__law_inn_led "_law_inn_led" (defScope s__law_inn_led) (He.fAd K ("_law_inn_led", none)) cdv A outer s H E) (clG K) (WD E) (defBody s__law_inn_led) den__law_inn_led := by
  exact (s_cons (s_set (i := 6) sc__law_inn_led.nd rfl (by first | exact .inl rfl | exact .inr rfl) (u_call isR (ok__law_pick Wc) (hr.mono (by decide)) takesD rfl (gl__law_pick Wc) (df__law_pick Wc).kp (bd__law_pick Wc) (a_cons (u_v 0) (a_cons (u_c pe_int (fun _ _ => rfl)) a_nil))))
  (s_cons (s_if (b_w (w_or (b_cmp op_ltAny d_cmp (u_v 6) (u_c pe_int (fun _ _ => rfl))) (w_or1 (b_cmp (op_eqAll (room65 hr)) d_eqA (u_v 3) (u_lst a_nil))))) (s_cons (s_set (i := 7) sc__law_inn_led.nd rfl (by first | exact .inl rfl | exact .inr rfl) (u_call isR (ok__law_inn_span Wc) (hr.mono (by decide)) takesD rfl (gl__law_inn_span Wc) (df__law_inn_span Wc).kp (bd__law_inn_span Wc) (a_cons (u_v 0) (a_cons (u_v 5) a_nil))))
  (s_cons (s_if (b_cmp (op_neAll (room65 hr)) d_neA (u_meth (c := 15) (pl := _) isT (ok_Inn_lay Wc) (hr.mono (by decide)) takesD (cl_Inn Wc) (me_Inn_lay Wc) (bd_Inn_lay Wc) (u_v 2) (a_cons (u_itemA (room1 hr) (u_v 7) (u_c pe_int (fun _ _ => rfl))) (a_cons (u_itemA (room1 hr) (u_v 7) (u_c pe_int (fun _ _ => rfl))) (a_cons (u_itemA (room1 hr) (u_v 7) (u_c pe_int (fun _ _ => rfl))) (a_cons (u_itemA (room1 hr) (u_v 7) (u_c pe_int (fun _ _ => rfl))) a_nil))))) (u_v 4)) (s_one (s_ret (u_c pe_non (fun _ _ => rfl)))) s_nil)
  (s_one (s_ret (u_lst (a_cons (u_bin op_addAny d_add (u_v 3) (u_lst (a_cons (u_tup (a_cons (u_v 4) (a_cons (u_v 7) a_nil))) a_nil))) (a_cons (u_bin op_addAny d_add (u_v 4) (u_c pe_int (fun _ _ => rfl))) (a_cons (u_bin op_addAny d_add (u_tup (a_cons (u_c pe_str (fun _ _ => rfl)) a_nil)) (u_v 7)) a_nil)))))))) s_nil)
  (s_cons (s_set (i := 8) sc__law_inn_led.nd rfl (by first | exact .inl rfl | exact .inr rfl) (u_call isR (ok__law_pick Wc) (hr.mono (by decide)) takesD rfl (gl__law_pick Wc) (df__law_pick Wc).kp (bd__law_pick Wc) (a_cons (u_v 0) (a_cons (u_B call_len' c_len rfl (fr_len Wc) PySem.boot_len (a_cons (u_v 3) a_nil)) a_nil))))
  (s_cons (s_asg (u_itemA (room1 hr) (u_v 3) (u_v 8)) (pg_tup rfl (pgs_cons (pg_name (i := 9) sc__law_inn_led.nd rfl (by first | exact .inl rfl | exact .inr rfl)) (pgs_cons (pg_name (i := 7) sc__law_inn_led.nd rfl (by first | exact .inl rfl | exact .inr rfl)) pgs_nil))))
  (s_cons (s_if (b_cmp (op_eqAll (room65 hr)) d_eqA (u_v 6) (u_c pe_int (fun _ _ => rfl))) (s_cons (s_if (b_cmp op_notN d_notN (u_meth (c := 15) (pl := _) isT (ok_Inn_drop Wc) (hr.mono (by decide)) takesD (cl_Inn Wc) (me_Inn_drop Wc) (bd_Inn_drop Wc) (u_v 2) (a_cons (u_v 9) a_nil)) (u_c pe_non (fun _ _ => rfl))) (s_one (s_ret (u_c pe_non (fun _ _ => rfl)))) s_nil)
  (s_one (s_ret (u_lst (a_cons (u_bin op_addAny d_add (u_slice (u_v 3) o_none (o_some (u_v 8))) (u_slice (u_v 3) (o_some (u_bin op_addAny d_add (u_v 8) (u_c pe_int (fun _ _ => rfl)))) o_none)) (a_cons (u_v 4) (a_cons (u_tup (a_cons (u_c pe_str (fun _ _ => rfl)) (a_cons (u_v 9) a_nil))) a_nil))))))) s_nil)
  (s_cons (s_set (i := 10) sc__law_inn_led.nd rfl (by first | exact .inl rfl | exact .inr rfl) (u_if (b_cmp (op_inAll (room65 hr)) d_inA (u_itemA (room1 hr) (u_v 7) (u_c pe_int (fun _ _ => rfl))) (u_lst (a_cons (u_c pe_str (fun _ _ => rfl)) (a_cons (u_c pe_str (fun _ _ => rfl)) a_nil)))) (u_bin op_addAny d_add (u_c pe_int (fun _ _ => rfl)) (u_call isR (ok__law_pick Wc) (hr.mono (by decide)) takesD rfl (gl__law_pick Wc) (df__law_pick Wc).kp (bd__law_pick Wc) (a_cons (u_v 0) (a_cons (u_v 5) a_nil)))) (u_call isR (ok__law_pick Wc) (hr.mono (by decide)) takesD rfl (gl__law_pick Wc) (df__law_pick Wc).kp (bd__law_pick Wc) (a_cons (u_v 0) (a_cons (u_c pe_int (fun _ _ => rfl)) a_nil)))))
  (s_cons (s_par (i := 11) (j := 12) rfl sc__law_inn_led.nd rfl rfl (by decide) rfl rfl (a_cons (u_tup (a_cons (u_v 9) (a_cons (u_bin op_addAny d_add (u_slice (u_v 7) o_none (o_some (u_c pe_int (fun _ _ => rfl)))) (u_tup (a_cons (u_v 10) a_nil))) a_nil))) (a_cons (u_tup (a_cons (u_c pe_str (fun _ _ => rfl)) (a_cons (u_v 9) (a_cons (u_v 10) a_nil)))) a_nil)))
  (s_cons (s_if (b_cmp op_notN d_notN (u_meth (c := 15) (pl := _) isT (ok_Inn_change Wc) (hr.mono (by decide)) takesD (cl_Inn Wc) (me_Inn_change Wc) (bd_Inn_change Wc) (u_v 2) (a_cons (u_v 9) (a_cons (u_v 10) a_nil))) (u_c pe_non (fun _ _ => rfl))) (s_one (s_ret (u_c pe_non (fun _ _ => rfl)))) s_nil)
  (s_cons (s_if (b_cmp (op_eqAll (room65 hr)) d_eqA (u_itemA (room1 hr) (u_v 1) (u_c pe_str (fun _ _ => rfl))) (u_c pe_str (fun _ _ => rfl))) (s_one (s_ret (u_lst (a_cons (u_bin op_addAny d_add (u_bin op_addAny d_add (u_slice (u_v 3) o_none (o_some (u_v 8))) (u_slice (u_v 3) (o_some (u_bin op_addAny d_add (u_v 8) (u_c pe_int (fun _ _ => rfl)))) o_none)) (u_lst (a_cons (u_v 11) a_nil))) (a_cons (u_v 4) (a_cons (u_v 12) a_nil)))))) s_nil)
  (s_one (s_ret (u_lst (a_cons (u_bin op_addAny d_add (u_bin op_addAny d_add (u_slice (u_v 3) o_none (o_some (u_v 8))) (u_lst (a_cons (u_v 11) a_nil))) (u_slice (u_v 3) (o_some (u_bin op_addAny d_add (u_v 8) (u_c pe_int (fun _ _ => rfl)))) o_none)) (a_cons (u_v 4) (a_cons (u_v 12) a_nil)))))))))))))))
theorem ok__law_inn_led {base : Heap} (Wc : Wx P w K mg) : FnOk P w K mg base (L2.CX P w) 6 (He.fAd K ("_law_inn_led", none)) (fdAt K ("_law_inn_led", none)) P__law_inn_led (spD K (clG K) 6 F__law_inn_led) := fn_D (df__law_inn_led Wc) sc__law_inn_led (by decide) fun cdv A outer s H E hr => bo__law_inn_led Wc cdv A outer s H E hr

theorem bo__law_told {base : Heap} (Wc : Wx P w K mg) (cdv : Value) (A : Around) (outer : List Env) (s : Shared) (H : Hp) (E : XK) (hr : Room 5 (A.deeper (envOfC "_law_told" (defScope s__law_told) s.heap.objs.size (He.fAd K ("_law_told", none)) cdv))) :
    USs (cxOf (L2.CX P w) P w K mg base N__law_told "_law_told" (defScope s__law_told) (He.fAd K ("_law_told", none)) cdv A outer s H E) (clG K) (WD E) (defBody s__law_told) den__law_told := by
  exact (s_cons (s_set (i := 2) sc__law_told.nd rfl (by first | exact .inl rfl | exact .inr rfl) (u_c pe_non (fun _ _ => rfl)))
  (s_cons (s_try rfl rfl sc__law_told.nd takesD (by exact fun W' pn xe tk' po => (s_one (s_if (b_cmp (op_eqAll (room65 hr)) d_eqA (u_itemA (room1 hr) (u_v 1) (u_c pe_int (fun _ _ => rfl))) (u_c pe_str (fun _ _ => rfl))) (s_one (s_expr (u_meth (c := 15) (pl := _) isT (ok_Inn_lay Wc) (hr.mono (by decide)) tk' (cl_Inn Wc) (me_Inn_lay Wc) (bd_Inn_lay Wc) (u_v 0) (a_cons (u_itemA (room1 hr) (u_v 1) (u_c pe_int (fun _ _ => rfl))) (a_cons (u_itemA (room1 hr) (u_v 1) (u_c pe_int (fun _ _ => rfl))) (a_cons (u_itemA (room1 hr) (u_v 1) (u_c pe_int (fun _ _ => rfl))) (a_cons (u_itemA (room1 hr) (u_v 1) (u_c pe_int (fun _ _ => rfl))) a_nil))))))) (s_one (s_if (b_cmp (op_eqAll (room65 hr)) d_eqA (u_itemA (room1 hr) (u_v 1) (u_c pe_int (fun _ _ => rfl))) (u_c pe_str (fun _ _ => rfl))) (s_one (s_expr (u_meth (c := 15) (pl := _) isT (ok_Inn_change Wc) (hr.mono (by decide)) tk' (cl_Inn Wc) (me_Inn_change Wc) (bd_Inn_change Wc) (u_v 0) (a_cons (u_itemA (room1 hr) (u_v 1) (u_c pe_int (fun _ _ => rfl))) (a_cons (u_itemA (room1 hr) (u_v 1) (u_c pe_int (fun _ _ => rfl))) a_nil))))) (s_one (s_if (b_cmp (op_eqAll (room65 hr)) d_eqA (u_itemA (room1 hr) (u_v 1) (u_c pe_int (fun _ _ => rfl))) (u_c pe_str (fun _ _ => rfl))) (s_one (s_expr (u_meth (c := 15) (pl := _) isT (ok_Inn_drop Wc) (hr.mono (by decide)) tk' (cl_Inn Wc) (me_Inn_drop Wc) (bd_Inn_drop Wc) (u_v 0) (a_cons (u_itemA (room1 hr) (u_v 1) (u_c pe_int (fun _ _ => rfl))) a_nil)))) (s_one (s_if (b_cmp (op_eqAll (room65 hr)) d_eqA (u_itemA (room1 hr) (u_v 1) (u_c pe_int (fun _ _ => rfl))) (u_c pe_str (fun _ _ => rfl))) (s_one (s_expr (u_meth (c := 15) (pl := _) isT (ok_Inn_bars Wc) (hr.mono (by decide)) tk' (cl_Inn Wc) (me_Inn_bars Wc) (bd_Inn_bars Wc) (u_v 0) (a_cons (u_itemA (room1 hr) (u_v 1) (u_c pe_int (fun _ _ => rfl))) (a_cons (u_itemA (room1 hr) (u_v 1) (u_c pe_int (fun _ _ => rfl))) a_nil))))) (s_one (s_expr (u_meth (c := 15) (pl := _) isT (ok_Inn_longest Wc) (hr.mono (by decide)) tk' (cl_Inn Wc) (me_Inn_longest Wc) (bd_Inn_longest Wc) (u_v 0) (a_cons (u_itemA (room1 hr) (u_v 1) (u_c pe_int (fun _ _ => rfl))) a_nil))))))))))))) (.named (mtok_BadSpan Wc) (.named (mtok_NoSpan Wc) (.bare (mtok_BadStay Wc) .nil))) (by exact (.named (i := 3) rfl rfl ⟨rfl, by decide, .inl (gl_BadSpan Wc)⟩ (fun a oe cls d pn hz hf => (xs_one (xs_set (j := 2) sc__law_told.nd rfl (by first | exact .inl rfl | exact .inr rfl) (x_if (xb_val (x_isi (c0 := 8) (i := 3) (b := true) (excC_ok (ex_13 Wc)) hz hf (kitB_ok (ex_14 Wc)) (pv 3) (pe_glob rfl (gl_StayError Wc) rfl) rfl (fr_isinstance Wc))) (x_of (u_lst (a_cons (u_c pe_str (fun _ _ => rfl)) a_nil))) (x_of (u_c pe_str (fun _ _ => rfl))))))) (.named (i := 3) rfl rfl ⟨rfl, by decide, .inl (gl_NoSpan Wc)⟩ (fun a oe cls d pn hz hf => (xs_one (xs_set (j := 2) sc__law_told.nd rfl (by first | exact .inl rfl | exact .inr rfl) (x_lst (xa_cons (x_of (u_c pe_str (fun _ _ => rfl))) (xa_cons (x_fld (c0 := 9) (xfc_ok (ex_11 Wc)) (noFld_ok (ex_12 Wc)) hz hf (i := 3) rfl (by first | exact .inl rfl | exact .inr (.inl rfl) | exact .inr (.inr rfl))) xa_nil)))))) (.bare ⟨rfl, by decide, .inl (gl_BadStay Wc)⟩ (fun a oe cls d pn hz hf => (s_one (s_set (i := 2) sc__law_told.nd rfl (by first | exact .inl rfl | exact .inr rfl) (u_lst (a_cons (u_c pe_str (fun _ _ => rfl)) a_nil))))) .nil)))))
  (s_one (s_ret (u_v 2)))))
theorem ok__law_told {base : Heap} (Wc : Wx P w K mg) : FnOk P w K mg base (L2.CX P w) 6 (He.fAd K ("_law_told", none)) (fdAt K ("_law_told", none)) P__law_told (spD K (clG K) 2 F__law_told) := fn_D (df__law_told Wc) sc__law_told (by decide) fun cdv A outer s H E hr => bo__law_told Wc cdv A outer s H E hr

theorem bo__law_rule_told {base : Heap} (Wc : Wx P w K mg) (cdv : Value) (A : Around) (outer : List Env) (s : Shared) (H : Hp) (E : XK) (hr : Room 5 (A.deeper (envOfC "_law_rule_told" (defScope s__law_rule_told) s.heap.objs.size (He.fAd K ("_law_rule_told", none)) cdv))) :
    USs (cxOf (L2.CX P w) P w K mg base N__law_rule_told "_law_rule_told" (defScope s__law_rule_told) (He.fAd K ("_law_rule_told", none)) cdv A outer s H E) (clG K) (WD E) (defBody s__law_rule_told) den__law_rule_told := by
  exact (s_cons (s_set (i := 1) sc__law_rule_told.nd rfl (by first | exact .inl rfl | exact .inr rfl) (u_c pe_non (fun _ _ => rfl)))
  (s_cons (s_try rfl rfl sc__law_rule_told.nd takesD (by exact fun W' pn xe tk' po => (s_one (s_expr (u_make (c := 15) (mk_Inn Wc) (ok_Inn_init Wc) (hr.mono (by decide)) tk' rfl (gl_Inn Wc) (bd_Inn_init Wc) (a_cons (u_v 0) a_nil))))) (.named (mtok_BadRule Wc) .nil) (by exact (.named (i := 2) rfl rfl ⟨rfl, by decide, .inl (gl_BadRule Wc)⟩ (fun a oe cls d pn hz hf => (xs_one (xs_set (j := 1) sc__law_rule_told.nd rfl (by first | exact .inl rfl | exact .inr rfl) (x_fld (c0 := 5) (xfc_ok (ex_15 Wc)) (noFld_ok (ex_16 Wc)) hz hf (i := 2) rfl (by first | exact .inl rfl | exact .inr (.inl rfl) | exact .inr (.inr rfl)))))) .nil)))
  (s_one (s_ret (u_v 1)))))
theorem ok__law_rule_told {base : Heap} (Wc : Wx P w K mg) : FnOk P w K mg base (L2.CX P w) 6 (He.fAd K ("_law_rule_told", none)) (fdAt K ("_law_rule_told", none)) P__law_rule_told (spD K (clG K) 1 F__law_rule_told) := fn_D (df__law_rule_told Wc) sc__law_rule_told (by decide) fun cdv A outer s H E hr => bo__law_rule_told Wc cdv A outer s H E hr

theorem bo_law {base : Heap} (Wc : Wx P w K mg) (cdv : Value) (A : Around) (outer : List Env) (s : Shared) (H : Hp) (E : XK) (hr : Room 6 (A.deeper (envOfC "law" (defScope s_law) s.heap.objs.size (He.fAd K ("law", none)) cdv))) :
    USs (cxOf (L2.CX P w) P w K mg base N_law "law" (defScope s_law) (He.fAd K ("law", none)) cdv A outer s H E) (clG K) (WD E) (defBody s_law) den_law := by
  exact (s_cons (s_set (i := 1) sc_law.nd rfl (by first | exact .inl rfl | exact .inr rfl) (u_call isK (ok__law_draws Wc) (hr.mono (by decide)) takesD rfl (gl__law_draws Wc) (df__law_draws Wc).kp (bd__law_draws Wc) (a_cons (u_v 0) a_nil)))
  (s_cons (s_set (i := 2) sc_law.nd rfl (by first | exact .inl rfl | exact .inr rfl) (u_call isR (ok__law_rule Wc) (hr.mono (by decide)) takesD rfl (gl__law_rule Wc) (df__law_rule Wc).kp (bd__law_rule Wc) (a_cons (u_v 1) a_nil)))
  (s_cons (s_asg (u_tup (a_cons (u_make (c := 15) (mk_Inn Wc) (ok_Inn_init Wc) (hr.mono (by decide)) takesD rfl (gl_Inn Wc) (bd_Inn_init Wc) (a_cons (u_v 2) a_nil)) (a_cons (u_lst a_nil) (a_cons (u_c pe_int (fun _ _ => rfl)) a_nil)))) (pg_tup rfl (pgs_cons (pg_name (i := 3) sc_law.nd rfl (by first | exact .inl rfl | exact .inr rfl)) (pgs_cons (pg_name (i := 4) sc_law.nd rfl (by first | exact .inl rfl | exact .inr rfl)) (pgs_cons (pg_name (i := 5) sc_law.nd rfl (by first | exact .inl rfl | exact .inr rfl)) pgs_nil)))))
  (s_cons (s_for (passes_of rfl) rfl (i_rng1 rfl (fr_range Wc) (u_bin op_addAny d_add (u_c pe_int (fun _ _ => rfl)) (u_call isR (ok__law_pick Wc) (hr.mono (by decide)) takesD rfl (gl__law_pick Wc) (df__law_pick Wc).kp (bd__law_pick Wc) (a_cons (u_v 1) (a_cons (u_c pe_int (fun _ _ => rfl)) a_nil))))) (pg_name (i := 6) sc_law.nd rfl (by first | exact .inl rfl | exact .inr rfl)) (s_one (s_asgL (is := [4, 5, 7]) (u_call isT (ok__law_inn_led Wc) (hr.mono (by decide)) takesD rfl (gl__law_inn_led Wc) (df__law_inn_led Wc).kp (bd__law_inn_led Wc) (a_cons (u_v 1) (a_cons (u_v 2) (a_cons (u_v 3) (a_cons (u_v 4) (a_cons (u_v 5) (a_cons (u_c pe_int (fun _ _ => rfl)) a_nil))))))) (pg_unl rfl (pgs_cons (pg_name (i := 4) sc_law.nd rfl (by first | exact .inl rfl | exact .inr rfl)) (pgs_cons (pg_name (i := 5) sc_law.nd rfl (by first | exact .inl rfl | exact .inr rfl)) (pgs_cons (pg_name (i := 7) sc_law.nd rfl (by first | exact .inl rfl | exact .inr rfl)) pgs_nil)))))))
  (s_cons (s_par (i := 8) (j := 9) rfl sc_law.nd rfl rfl (by decide) rfl rfl (a_cons (u_propV isT (c := 15) (ok_Inn_log Wc) (hr.mono (by decide)) (bd_Inn_log Wc) rfl (cl_Inn Wc) (Wc.prop 1 (d := ⟨"Inn", "log", "Inn.log", defArgs s_Inn_log, defBody s_Inn_log, defScope s_Inn_log⟩) rfl) (u_v 3) rfl) (a_cons (u_bin op_pow d_pow (u_c pe_int (fun _ _ => rfl)) (u_c pe_int (fun _ _ => rfl))) a_nil)))
  (s_cons (s_set (i := 10) sc_law.nd rfl (by first | exact .inl rfl | exact .inr rfl) (u_lc (own := [("_law_number", 12), ("_law_span", 14)]) [12, 14] rfl (by decide) rfl sc_law.nd (i_lst (u_v 4)) (blkOk_by (N := N_law) (sc := defScope s_law) (by decide +kernel)) (fun _ _ _ _ _ => (pg_tup rfl (pgs_cons (pg_name (i := 12) sc_law.nd rfl (by first | exact .inl rfl | exact .inr rfl)) (pgs_cons (pg_name (i := 14) sc_law.nd rfl (by first | exact .inl rfl | exact .inr rfl)) pgs_nil)))) (fun _ _ _ _ _ => ts_nil) (fun _ _ _ _ _ => (u_v 12))))
  (s_cons (s_set (i := 11) sc_law.nd rfl (by first | exact .inl rfl | exact .inr rfl) (u_cellL (a_cons (u_tup (a_cons (u_c pe_str (fun _ _ => rfl)) (a_cons (u_un un_neg d_neg (u_c pe_int (fun _ _ => rfl))) (a_cons (u_c pe_int (fun _ _ => rfl)) (a_cons (u_c pe_str (fun _ _ => rfl)) (a_cons (u_c pe_int (fun _ _ => rfl)) a_nil)))))) (a_cons (u_tup (a_cons (u_c pe_str (fun _ _ => rfl)) (a_cons (u_c pe_int (fun _ _ => rfl)) (a_cons (u_c pe_int (fun _ _ => rfl)) (a_cons (u_c pe_str (fun _ _ => rfl)) (a_cons (u_c pe_int (fun _ _ => rfl)) a_nil)))))) (a_cons (u_tup (a_cons (u_c pe_str (fun _ _ => rfl)) (a_cons (u_c pe_int (fun _ _ => rfl)) (a_cons (u_bin op_addAny d_add (u_v 9) (u_c pe_int (fun _ _ => rfl))) (a_cons (u_c pe_str (fun _ _ => rfl)) (a_cons (u_c pe_int (fun _ _ => rfl)) a_nil)))))) a_nil)))))
  (s_cons (s_expr (u_bm PySem.F.plainAttrs_list PySem.F.slot_list_append PySem.F.type_list_append mt_append m_append (u_v 11) (a_cons (u_tup (a_cons (u_c pe_str (fun _ _ => rfl)) (a_cons (u_c pe_int (fun _ _ => rfl)) (a_cons (u_c pe_int (fun _ _ => rfl)) (a_cons (u_c pe_str (fun _ _ => rfl)) (a_cons (u_c pe_int (fun _ _ => rfl)) a_nil)))))) a_nil)))
  (s_cons (s_set (i := 11) sc_law.nd rfl (by first | exact .inl rfl | exact .inr rfl) (u_bin op_addAny d_addC (u_v 11) (u_lst (a_cons (u_tup (a_cons (u_c pe_str (fun _ _ => rfl)) (a_cons (u_c pe_int (fun _ _ => rfl)) (a_cons (u_c pe_int (fun _ _ => rfl)) (a_cons (u_c pe_str (fun _ _ => rfl)) (a_cons (u_c pe_int (fun _ _ => rfl)) a_nil)))))) (a_cons (u_tup (a_cons (u_c pe_str (fun _ _ => rfl)) (a_cons (u_c pe_int (fun _ _ => rfl)) (a_cons (u_c pe_int (fun _ _ => rfl)) (a_cons (u_c pe_str (fun _ _ => rfl)) (a_cons (u_c pe_int (fun _ _ => rfl)) a_nil)))))) (a_cons (u_tup (a_cons (u_c pe_str (fun _ _ => rfl)) (a_cons (u_c pe_int (fun _ _ => rfl)) (a_cons (u_c pe_int (fun _ _ => rfl)) (a_cons (u_c pe_str (fun _ _ => rfl)) (a_cons (u_bin op_addAny d_add (u_v 9) (u_c pe_int (fun _ _ => rfl))) a_nil)))))) a_nil))))))
  (s_cons (s_set (i := 11) sc_law.nd rfl (by first | exact .inl rfl | exact .inr rfl) (u_bin op_addAny d_addC (u_v 11) (u_lst (a_cons (u_tup (a_cons (u_c pe_str (fun _ _ => rfl)) (a_cons (u_c pe_int (fun _ _ => rfl)) (a_cons (u_c pe_int (fun _ _ => rfl)) (a_cons (u_c pe_non (fun _ _ => rfl)) (a_cons (u_c pe_int (fun _ _ => rfl)) a_nil)))))) (a_cons (u_tup (a_cons (u_c pe_str (fun _ _ => rfl)) (a_cons (u_c pe_bl (fun _ _ => rfl)) (a_cons (u_c pe_int (fun _ _ => rfl)) (a_cons (u_c pe_str (fun _ _ => rfl)) (a_cons (u_c pe_int (fun _ _ => rfl)) a_nil)))))) (a_cons (u_tup (a_cons (u_c pe_str (fun _ _ => rfl)) (a_cons (u_c pe_int (fun _ _ => rfl)) (a_cons (u_c pe_int (fun _ _ => rfl)) (a_cons (u_c pe_str (fun _ _ => rfl)) (a_cons (u_c pe_bl (fun _ _ => rfl)) a_nil)))))) a_nil))))))
  (s_cons (s_expr (u_bm PySem.F.plainAttrs_list PySem.F.slot_list_append PySem.F.type_list_append mt_append m_append (u_v 11) (a_cons (u_tup (a_cons (u_c pe_str (fun _ _ => rfl)) (a_cons (u_c pe_str (fun _ _ => rfl)) (a_cons (u_c pe_int (fun _ _ => rfl)) (a_cons (u_c pe_str (fun _ _ => rfl)) (a_cons (u_c pe_int (fun _ _ => rfl)) a_nil)))))) a_nil)))
  (s_cons (s_for (passes_of rfl) rfl (i_lst (u_fz (u_v 11))) (pg_name (i := 7) sc_law.nd rfl (by first | exact .inl rfl | exact .inr rfl)) (s_one (s_if (b_cmp (op_neAll (room65 hr)) d_neA (u_call isT (ok__law_told Wc) (hr.mono (by decide)) takesD rfl (gl__law_told Wc) (df__law_told Wc).kp (bd__law_told Wc) (a_cons (u_v 3) (a_cons (u_v 7) a_nil))) (u_lst (a_cons (u_c pe_str (fun _ _ => rfl)) a_nil))) (s_one (s_ret (u_c pe_bl (fun _ _ => rfl)))) s_nil)))
  (s_cons (s_for (passes_of rfl) rfl (i_lst (u_bin op_addAny d_add (u_lst (a_cons (u_v 5) (a_cons (u_un un_neg d_neg (u_c pe_int (fun _ _ => rfl))) (a_cons (u_c pe_non (fun _ _ => rfl)) (a_cons (u_c pe_bl (fun _ _ => rfl)) (a_cons (u_c pe_str (fun _ _ => rfl)) (a_cons (u_tup (a_cons (u_c pe_int (fun _ _ => rfl)) a_nil)) a_nil))))))) (u_lc (own := [("_law_k", 18)]) [18] rfl (by decide) rfl sc_law.nd (i_rng1 rfl (fr_range Wc) (u_v 5)) (blkOk_by (N := N_law) (sc := defScope s_law) (by decide +kernel)) (fun _ _ _ _ _ => (pg_name (i := 18) sc_law.nd rfl (by first | exact .inl rfl | exact .inr rfl))) (fun _ _ _ _ _ => (ts_one (b_cmp (op_notInAll (room65 hr)) d_inA (u_v 18) (u_v 10)))) (fun _ _ _ _ _ => (u_v 18))))) (pg_name (i := 12) sc_law.nd rfl (by first | exact .inl rfl | exact .inr rfl)) (s_cons (s_set (i := 13) sc_law.nd rfl (by first | exact .inl rfl | exact .inr rfl) (u_lst (a_cons (u_call isT (ok__law_told Wc) (hr.mono (by decide)) takesD rfl (gl__law_told Wc) (df__law_told Wc).kp (bd__law_told Wc) (a_cons (u_v 3) (a_cons (u_tup (a_cons (u_c pe_str (fun _ _ => rfl)) (a_cons (u_v 12) a_nil))) a_nil))) (a_cons (u_call isT (ok__law_told Wc) (hr.mono (by decide)) takesD rfl (gl__law_told Wc) (df__law_told Wc).kp (bd__law_told Wc) (a_cons (u_v 3) (a_cons (u_tup (a_cons (u_c pe_str (fun _ _ => rfl)) (a_cons (u_v 12) (a_cons (u_c pe_non (fun _ _ => rfl)) a_nil)))) a_nil))) a_nil))))
  (s_one (s_if (b_cmp (op_neAll (room65 hr)) d_neA (u_v 13) (u_bin op_mulL d_mulL (u_lst (a_cons (u_lst (a_cons (u_c pe_str (fun _ _ => rfl)) (a_cons (u_v 12) a_nil))) a_nil)) (u_c pe_int (fun _ _ => rfl)))) (s_one (s_ret (u_c pe_bl (fun _ _ => rfl)))) s_nil))))
  (s_cons (s_for (passes_of rfl) rfl (i_lst (u_v 4)) (pg_tup rfl (pgs_cons (pg_name (i := 12) sc_law.nd rfl (by first | exact .inl rfl | exact .inr rfl)) (pgs_cons (pg_name (i := 14) sc_law.nd rfl (by first | exact .inl rfl | exact .inr rfl)) pgs_nil))) (s_cons (s_set (i := 15) sc_law.nd rfl (by first | exact .inl rfl | exact .inr rfl) (u_if (b_cmp (op_inAll (room65 hr)) d_inA (u_itemA (room1 hr) (u_v 14) (u_c pe_int (fun _ _ => rfl))) (u_lst (a_cons (u_c pe_str (fun _ _ => rfl)) (a_cons (u_c pe_str (fun _ _ => rfl)) (a_cons (u_c pe_str (fun _ _ => rfl)) a_nil))))) (u_lst (a_cons (u_c pe_int (fun _ _ => rfl)) (a_cons (u_un un_neg d_neg (u_c pe_int (fun _ _ => rfl))) (a_cons (u_c pe_bl (fun _ _ => rfl)) (a_cons (u_c pe_non (fun _ _ => rfl)) a_nil))))) (u_lst (a_cons (u_c pe_int (fun _ _ => rfl)) (a_cons (u_bin op_addAny d_add (u_v 9) (u_c pe_int (fun _ _ => rfl))) (a_cons (u_c pe_bl (fun _ _ => rfl)) (a_cons (u_c pe_str (fun _ _ => rfl)) a_nil)))))))
  (s_one (s_if (b_cmp (op_neAll (room65 hr)) d_neA (u_lc (own := [("_law_value", 19)]) [19] rfl (by decide) rfl sc_law.nd (i_lst (u_v 15)) (blkOk_by (N := N_law) (sc := defScope s_law) (by decide +kernel)) (fun _ _ _ _ _ => (pg_name (i := 19) sc_law.nd rfl (by first | exact .inl rfl | exact .inr rfl))) (fun _ _ _ _ _ => (ts_one (b_cmp (op_neAll (room65 hr)) d_neA (u_call isT (ok__law_told Wc) (hr.mono (by decide)) Dl.takes0 rfl (gl__law_told Wc) (df__law_told Wc).kp (bd__law_told Wc) (a_cons (u_v 3) (a_cons (u_tup (a_cons (u_c pe_str (fun _ _ => rfl)) (a_cons (u_v 12) (a_cons (u_v 19) a_nil)))) a_nil))) (u_lst (a_cons (u_c pe_str (fun _ _ => rfl)) a_nil))))) (fun _ _ _ _ _ => (u_v 19))) (u_lst a_nil)) (s_one (s_ret (u_c pe_bl (fun _ _ => rfl)))) s_nil))))
  (s_cons (s_set (i := 11) sc_law.nd rfl (by first | exact .inl rfl | exact .inr rfl) (u_cellL (a_cons (u_tup (a_cons (u_c pe_str (fun _ _ => rfl)) (a_cons (u_c pe_int (fun _ _ => rfl)) (a_cons (u_c pe_int (fun _ _ => rfl)) a_nil)))) (a_cons (u_tup (a_cons (u_c pe_str (fun _ _ => rfl)) (a_cons (u_c pe_int (fun _ _ => rfl)) (a_cons (u_c pe_int (fun _ _ => rfl)) a_nil)))) (a_cons (u_tup (a_cons (u_c pe_str (fun _ _ => rfl)) (a_cons (u_un un_neg d_neg (u_c pe_int (fun _ _ => rfl))) (a_cons (u_c pe_int (fun _ _ => rfl)) a_nil)))) (a_cons (u_tup (a_cons (u_c pe_str (fun _ _ => rfl)) (a_cons (u_c pe_int (fun _ _ => rfl)) (a_cons (u_bin op_addAny d_add (u_v 9) (u_c pe_int (fun _ _ => rfl))) a_nil)))) (a_cons (u_tup (a_cons (u_c pe_str (fun _ _ => rfl)) (a_cons (u_c pe_non (fun _ _ => rfl)) (a_cons (u_c pe_int (fun _ _ => rfl)) a_nil)))) a_nil)))))))
  (s_cons (s_for (passes_of rfl) rfl (i_lst (u_bin op_addAny d_add (u_v 11) (u_lst (a_cons (u_tup (a_cons (u_c pe_str (fun _ _ => rfl)) (a_cons (u_un un_neg d_neg (u_c pe_int (fun _ _ => rfl))) a_nil))) a_nil)))) (pg_name (i := 7) sc_law.nd rfl (by first | exact .inl rfl | exact .inr rfl)) (s_one (s_if (b_cmp (op_neAll (room65 hr)) d_neA (u_call isT (ok__law_told Wc) (hr.mono (by decide)) takesD rfl (gl__law_told Wc) (df__law_told Wc).kp (bd__law_told Wc) (a_cons (u_v 3) (a_cons (u_v 7) a_nil))) (u_lst (a_cons (u_c pe_str (fun _ _ => rfl)) a_nil))) (s_one (s_ret (u_c pe_bl (fun _ _ => rfl)))) s_nil)))
  (s_cons (s_if (b_w (w_or (b_cmp (op_neAll (room65 hr)) d_neA (u_call isT (ok__law_told Wc) (hr.mono (by decide)) takesD rfl (gl__law_told Wc) (df__law_told Wc).kp (bd__law_told Wc) (a_cons (u_v 3) (a_cons (u_tup (a_cons (u_c pe_str (fun _ _ => rfl)) (a_cons (u_bin op_addAny d_add (u_v 9) (u_c pe_int (fun _ _ => rfl))) a_nil))) a_nil))) (u_lst (a_cons (u_c pe_str (fun _ _ => rfl)) a_nil))) (w_or1 (b_cmp (op_neAll (room65 hr)) d_neA (u_call isT (ok__law_told Wc) (hr.mono (by decide)) takesD rfl (gl__law_told Wc) (df__law_told Wc).kp (bd__law_told Wc) (a_cons (u_v 3) (a_cons (u_tup (a_cons (u_c pe_str (fun _ _ => rfl)) (a_cons (u_c pe_bl (fun _ _ => rfl)) a_nil))) a_nil))) (u_lst (a_cons (u_c pe_str (fun _ _ => rfl)) a_nil)))))) (s_one (s_ret (u_c pe_bl (fun _ _ => rfl)))) s_nil)
  (s_cons (s_set (i := 16) sc_law.nd rfl (by first | exact .inl rfl | exact .inr rfl) (u_dictC rfl (fr_dict Wc) (by decide +kernel) (a_cons (u_v 2) a_nil)))
  (s_cons (s_set (i := 17) sc_law.nd rfl (by first | exact .inl rfl | exact .inr rfl) (u_itemA (room1 hr) (u_itemA (room1 hr) (u_call0 isP (ok__law_parts Wc) (hr.mono (by decide)) takesD rfl (gl__law_parts Wc) (df__law_parts Wc).kp (bd__law_parts Wc)) (u_call isR (ok__law_pick Wc) (hr.mono (by decide)) takesD rfl (gl__law_pick Wc) (df__law_pick Wc).kp (bd__law_pick Wc) (a_cons (u_v 1) (a_cons (u_c pe_int (fun _ _ => rfl)) a_nil)))) (u_c pe_int (fun _ _ => rfl))))
  (s_cons (s_setA (room1 hr) (u_v 16) (u_v 17) (u_itemA (room1 hr) (u_lst (a_cons (u_c pe_str (fun _ _ => rfl)) (a_cons (u_c pe_non (fun _ _ => rfl)) (a_cons (u_c pe_int (fun _ _ => rfl)) a_nil)))) (u_call isR (ok__law_pick Wc) (hr.mono (by decide)) takesD rfl (gl__law_pick Wc) (df__law_pick Wc).kp (bd__law_pick Wc) (a_cons (u_v 1) (a_cons (u_c pe_int (fun _ _ => rfl)) a_nil)))))
  (s_cons (s_if (b_w (w_or (b_cmp (op_neAll (room65 hr)) d_neA (u_call isP (ok__law_rule_told Wc) (hr.mono (by decide)) takesD rfl (gl__law_rule_told Wc) (df__law_rule_told Wc).kp (bd__law_rule_told Wc) (a_cons (u_fz (u_v 16)) a_nil)) (u_v 17)) (w_or (b_cmp (op_neAll (room65 hr)) d_neA (u_call isP (ok__law_rule_told Wc) (hr.mono (by decide)) takesD rfl (gl__law_rule_told Wc) (df__law_rule_told Wc).kp (bd__law_rule_told Wc) (a_cons (u_c pe_non (fun _ _ => rfl)) a_nil)) (u_c pe_str (fun _ _ => rfl))) (w_or1 (b_cmp (op_neAll (room65 hr)) d_neA (u_call isP (ok__law_rule_told Wc) (hr.mono (by decide)) takesD rfl (gl__law_rule_told Wc) (df__law_rule_told Wc).kp (bd__law_rule_told Wc) (a_cons u_dic0 a_nil)) (u_c pe_str (fun _ _ => rfl))))))) (s_one (s_ret (u_c pe_bl (fun _ _ => rfl)))) s_nil)
  (s_one (s_ret (u_and (u_cmp (op_eqAll (room65 hr)) d_eqA (u_lItems rfl (u_propV isT (c := 15) (ok_Inn_spans Wc) (hr.mono (by decide)) (bd_Inn_spans Wc) rfl (cl_Inn Wc) (Wc.prop 0 (d := ⟨"Inn", "spans", "Inn.spans", defArgs s_Inn_spans, defBody s_Inn_spans, defScope s_Inn_spans⟩) rfl) (u_v 3) rfl) rfl (fr_list Wc)) (u_v 4)) (u_one (u_cmp (op_eqAll (room65 hr)) d_eqA (u_propV isT (c := 15) (ok_Inn_log Wc) (hr.mono (by decide)) (bd_Inn_log Wc) rfl (cl_Inn Wc) (Wc.prop 1 (d := ⟨"Inn", "log", "Inn.log", defArgs s_Inn_log, defBody s_Inn_log, defScope s_Inn_log⟩) rfl) (u_v 3) rfl) (u_v 8)))))))))))))))))))))))))))
theorem ok_law {base : Heap} (Wc : Wx P w K mg) : FnOk P w K mg base (L2.CX P w) 7 (He.fAd K ("law", none)) (fdAt K ("law", none)) P_law (spD K (clG K) 1 F_law) := fn_D (df_law Wc) sc_law (by decide) fun cdv A outer s H E hr => bo_law Wc cdv A outer s H E hr
end

end GG
set_option Elab.async false
set_option linter.all false
set_option maxRecDepth 100000
set_option maxHeartbeats 400000
namespace GG
open PySem PyProof.Rows L2 Dl
/-- the drawing row -/
def rowD (ns : List Int) (a b c : Int) : D := .lst [.lst (ns.map .int), .int a, .int b, .int c]
def Row (d : D) : Prop := ∃ ns a b c, d = rowD ns a b c ∧ 0 ≤ a ∧ 0 ≤ b
@[simp] theorem put0_0 {xs : List D} {r : Sto} {n : Nat} {y : D} (h : n < xs.length) : putAt (.ptr 0) (.int (n : Nat)) y (some (.lst xs) :: r) = some (some (.lst (xs.set n y)) :: r) := by
  have e : ixN xs.length (n : Nat) = some n := by
    unfold ixN
    rw [if_pos (by omega), if_pos (by omega)]
    rfl
  show (match ixN xs.length (n : Nat) with
    | some n => some ((some (D.lst xs) :: r).set 0 (some (.lst (xs.set n y))))
    | none => none) = _
  rw [e]
  rfl
theorem put1 {x0 x1 x2 x3 y : D} : putAt (.ptr 0) (.int 1) y [some (.lst [x0, x1, x2, x3])] = some [some (.lst [x0, y, x2, x3])] := put0_0 (n := 1) (by simp)
theorem put2 {x0 x1 x2 x3 y : D} : putAt (.ptr 0) (.int 2) y [some (.lst [x0, x1, x2, x3])] = some [some (.lst [x0, x1, y, x3])] := put0_0 (n := 2) (by simp)
theorem put3 {x0 x1 x2 x3 y : D} : putAt (.ptr 0) (.int 3) y [some (.lst [x0, x1, x2, x3])] = some [some (.lst [x0, x1, x2, y])] := put0_0 (n := 3) (by simp)
theorem setA_is {dx di dv : DE} {t : Lc} {S : Sto} : dSetA dx di dv t S = Dl.ofE (dv t S) t fun y S1 => Dl.ofE (dx t S1) t fun x S2 => Dl.ofE (di t S2) t fun i S3 => match putAt x i y S3 with
  | some S4 => .nx t S4
  | none => .bad := rfl
theorem script_at {ns : List Int} {a : Int} (h0 : 0 ≤ a) (h : a < ns.length) : ∃ v, atI (ns.map D.int) a = some (.int v) := by
  obtain ⟨n, rfl⟩ := Int.eq_ofNat_of_zero_le h0
  have hn : n < ns.length := by simpa using h
  exact ⟨ns[n], by rw [atI_n, List.getElem?_map, List.getElem?_eq_getElem hn]; rfl⟩
theorem pick_ok {r : D} (h : Row r) {many : Int} (h0 : 0 < many) (h1 : many < 1000) : ∃ v r', F__law_pick [.ptr 0, .int many] [some r] = .ok (.int v) [some r'] ∧ Row r' ∧ 0 ≤ v ∧ v < many := by
  obtain ⟨ns, a, b, c, rfl, ha, hb⟩ := h
  have m1 : ∀ i : Int, cMul i 48271 = true := fun i => by unfold cMul; simp
  have m2 : ∀ i : Int, cMul i 69621 = true := fun i => by unfold cMul; simp
  have m3 : ∀ i : Int, cMul i 16807 = true := fun i => by unfold cMul; simp
  have p18 : ∀ S, fPow (.int 10) (.int 18) S = .ok (.int 1000000000000000000) S := fun S => rfl
  have dv : ∀ i S, fDiv (.int i) (.int many) S = .ok (.int (i / many)) S := fun i S => by
    show (if cDiv i many = true then Out.ok (D.int (i / many)) S else .bad) = _
    rw [if_pos (by unfold cDiv; simp; omega)]
  have q0 : ∀ i : Int, 0 ≤ i % many := fun i => Int.emod_nonneg _ (by omega)
  have q1 : ∀ i : Int, i % many < many := fun i => Int.emod_lt_of_pos _ h0
  have tail : ∀ (x2 : Option D) (a b c : Int), 0 ≤ a → 0 ≤ b → ∃ v r', (match dSeq (dIfS (bTest (dOp fGt (dOp fIxA (dVar 0) (dC (.int 2))) (dC (.int 0)))) (dSeq (dSet 3 (dOp fMod (dB bInt (aCons (dOp fIxA (dVar 0) (dC (.int 2))) aNil)) (dVar 1)))
      (dSeq (dSetA (dVar 0) (dC (.int 2)) (dOp fDiv (dOp fIxA (dVar 0) (dC (.int 2))) (dVar 1))) (dRet (dVar 3)))) dSkip)
      (dRet (dOp fMod (dOp fMod (dB bInt (aCons (dOp fMul (dOp fIxA (dVar 0) (dC (.int 3))) (dC (.int 16807))) aNil)) (dC (.int 2147483629))) (dVar 1))) [some (.ptr 0), some (.int many), x2, none] [some (rowD ns a b c)] with
      | .nx _ S1 => Out.ok D.non S1
      | .rt x S1 => .ok x S1
      | .exc _ c ns vs S1 => .exc c ns vs S1
      | _ => .bad) = .ok (.int v) [some r'] ∧ Row r' ∧ 0 ≤ v ∧ v < many := fun x2 a b c ha hb => by
    by_cases hb0 : 0 < b
    · refine ⟨b % many, rowD ns a (b / many) c, ?_, ⟨ns, a, b / many, c, rfl, ha, Int.ediv_nonneg hb (by omega)⟩, q0 _, q1 _⟩
      simp [rowD, hb0, h0, setA_is, put2, dv]
    · refine ⟨c * 16807 % 2147483629 % many, rowD ns a b c, ?_, ⟨ns, a, b, c, rfl, ha, hb⟩, q0 _, q1 _⟩
      simp [rowD, hb0, h0, m3]
  unfold F__law_pick runF den__law_pick
  by_cases hb0 : b = 0
  · by_cases hl : a < ns.length
    · obtain ⟨v, hv⟩ := script_at ha hl
      by_cases hc : 1000000000000000000 ≤ v
      · have z := tail (some (.int v)) (a + 1) v c (by omega) (by omega)
        simp [rowD, hb0, hl, hv, hc, setA_is, put1, put2, p18] at z ⊢
        exact z
      · have z := tail (some (.int v)) (a + 1) b ((c * 48271 + v * 69621 + 11) % 2147483647) (by omega) hb
        simp [rowD, hb0, hl, hv, hc, setA_is, put1, put3, p18, m1, m2] at z ⊢
        exact z
    · have z := tail none a b ((c * 48271 + 7) % 2147483647) ha hb
      simp [rowD, hb0, hl, setA_is, put3, m1] at z ⊢
      exact z
  · have z := tail none a b c ha hb
    simp [rowD, hb0] at z ⊢
    exact z
end GG
set_option Elab.async false
set_option linter.all false
set_option maxRecDepth 100000
set_option maxHeartbeats 1000000
namespace GG
open PySem PyProof.Rows L2 Dl
theorem below_ints : ∀ ns : List Int, belows 0 (ns.map D.int) = true
  | [] => rfl
  | n :: ns => by
    show (below 0 (.int n) && belows 0 (ns.map D.int)) = true
    rw [below_ints ns]; rfl
theorem below_row {r : D} (h : Row r) : below 0 r = true := by
  obtain ⟨ns, a, b, c, rfl, _, _⟩ := h
  show (belows 0 (ns.map D.int) && _) = true
  rw [below_ints ns]; rfl
/-- a call that has the row alone -/
theorem viaR_row {f : DF} {r r' : D} {xs : List D} {z : D} {S' rest : Sto} (h : Row r) (h' : Row r') (hx : belows 0 xs = true) (hz : below 0 z = true) (e : f (.ptr 0 :: xs) [some r] = .ok z (some r' :: S')) :
    viaR f (.ptr 0 :: xs) (some r :: rest) = .ok z (some r' :: rest) := by
  show (if below 0 r = true ∧ belows 0 xs = true then (match f (.ptr 0 :: xs) [some r] with
      | .ok z (some c' :: _) => if below 0 z = true ∧ below 0 c' = true then Out.ok z ((some r :: rest).set 0 (some c')) else .bad
      | .exc k ns vs (some c' :: _) => if belows 0 vs = true ∧ below 0 c' = true then .exc k ns vs ((some r :: rest).set 0 (some c')) else .bad
      | _ => .bad) else .bad) = _
  rw [if_pos ⟨below_row h, hx⟩, e]
  show (if below 0 z = true ∧ below 0 r' = true then Out.ok z ((some r :: rest).set 0 (some r')) else .bad) = _
  rw [if_pos ⟨hz, below_row h'⟩]
  rfl
theorem pickR {r : D} (h : Row r) {many : Int} (h0 : 0 < many) (h1 : many < 1000) : ∃ v r', (∀ rest, viaR F__law_pick [.ptr 0, .int many] (some r :: rest) = .ok (.int v) (some r' :: rest)) ∧ Row r' ∧ 0 ≤ v ∧ v < many := by
  obtain ⟨v, r', e, h', b0, b1⟩ := pick_ok h h0 h1
  exact ⟨v, r', fun rest => viaR_row h h' rfl rfl e, h', b0, b1⟩
theorem word_at {ws : List Str} {v : Int} (h0 : 0 ≤ v) (h1 : v < ws.length) : ∃ w ∈ ws, atI (ws.map D.str) v = some (.str w) := by
  obtain ⟨n, rfl⟩ := Int.eq_ofNat_of_zero_le h0
  have hn : n < ws.length := by simpa using h1
  exact ⟨ws[n], List.getElem_mem hn, by rw [atI_n, List.getElem?_map, List.getElem?_eq_getElem hn]; rfl⟩
theorem put_new {ks vs : List D} {q : Key} {k v : D} (h : dicHas ks q = false) : dicPut ks vs q k v = (ks ++ [k], vs ++ [v]) := by
  unfold dicPut
  rw [if_neg (by rw [h]; exact Bool.false_ne_true)]
def parts : List (Str × List Str) := [("changed", ["newest", "stays"]), ("ends", ["closed", "open"]), ("lengths", ["coming", "nights"]), ("over", ["first", "newest", "strictest"]), ("shut", ["coming", "nights"])]
theorem parts_ok (S : Sto) : viaP F__law_parts [] S = .ok (.lst (parts.map fun p => .tup [.str p.1, .lst (p.2.map .str)])) S := rfl
/-- a word for each -/
def Each : List Str → List (Str × List Str) → Prop
  | [], [] => True
  | w :: ws, p :: ps => w ∈ p.2 ∧ Each ws ps
  | _, _ => False
/-- the loop over the parts -/
theorem rule_loop : ∀ (ps : List (Str × List Str)) (ks vs : List D) (r : D) (t : Lc), (∀ p ∈ ps, 0 < p.2.length ∧ p.2.length < 1000) → ks.length + ps.length < 1000 → (∀ p ∈ ps, dicHas ks (.inr p.1) = false) → (ps.map (·.1)).Nodup → Row r → t.length = 4 → t[0]? = some (some (.ptr 0)) → t[1]? = some (some (.ptr 1)) →
    ∃ ws r' t', dLoop (.tp [2, 3]) (dSetA (dVar 1) (dVar 2) (dOp fIxA (dVar 3) (dCall 2 (viaR F__law_pick) (aCons (dVar 0) (aCons (dB bLen (aCons (dVar 3) aNil)) aNil))))) (ps.map fun p => .tup [.str p.1, .lst (p.2.map .str)]) t [some r, some (.dic ks vs)]
      = .nx t' [some r', some (.dic (ks ++ ps.map fun p => .str p.1) (vs ++ ws.map .str))] ∧ t'[1]? = some (some (.ptr 1)) ∧ Row r' ∧ Each ws ps
  | [], ks, vs, r, t, _, _, _, _, hr, _, _, h1 => ⟨[], r, t, by simp [dLoop], h1, hr, True.intro⟩
  | p :: ps, ks, vs, r, t, hp, hl, hk, hn, hr, ht, h0, h1 => by
    obtain ⟨x, y, z, u, rfl⟩ : ∃ x y z u, t = [x, y, z, u] := by
      match t, ht with
      | [x, y, z, u], _ => exact ⟨x, y, z, u, rfl⟩
    obtain rfl : x = some (.ptr 0) := by simpa using h0
    obtain rfl : y = some (.ptr 1) := by simpa using h1
    obtain ⟨p0, p1⟩ := hp p List.mem_cons_self
    obtain ⟨v, r1, e1, hr1, b0, b1⟩ := pickR hr (many := p.2.length) (by omega) (by omega)
    obtain ⟨w, hw, ew⟩ := word_at b0 b1
    have hkn := hk p List.mem_cons_self
    simp only [List.map_cons] at hn
    obtain ⟨n1, n2⟩ := List.nodup_cons.mp hn
    have hl' : ks.length < 1000 := by simp at hl; omega
    have ih := rule_loop ps (ks ++ [.str p.1]) (vs ++ [.str w]) r1 [some (.ptr 0), some (.ptr 1), some (.str p.1), some (.lst (p.2.map .str))] (fun q hq => hp q (List.mem_cons_of_mem _ hq)) (by simp at hl ⊢; omega) (fun q hq => by
      have h2 := hk q (List.mem_cons_of_mem _ hq)
      have h3 : p.1 ≠ q.1 := fun e => n1 (e ▸ List.mem_map_of_mem hq)
      have g : ∀ ks : List D, dicHas ks (.inr q.1) = false → dicHas (ks ++ [.str p.1]) (.inr q.1) = false := by
        intro ks
        induction ks with
        | nil =>
          intro _
          show (decide (some (Sum.inr p.1 : Key) = some (.inr q.1)) || false) = false
          rw [Bool.or_false]
          exact decide_eq_false fun e => h3 (Sum.inr.inj (Option.some.inj e))
        | cons k ks ih =>
          intro h
          have h' : (decide (keyD k = some (.inr q.1)) || dicHas ks (.inr q.1)) = false := h
          obtain ⟨h4, h5⟩ := Bool.or_eq_false_iff.mp h'
          show (decide (keyD k = some (.inr q.1)) || dicHas (ks ++ [.str p.1]) (.inr q.1)) = false
          rw [h4, ih h5]; rfl
      exact g ks h2) n2 hr1 rfl rfl rfl
    obtain ⟨ws, r', t', e2, ht', hr', hf⟩ := ih
    refine ⟨w :: ws, r', t', ?_, ht', hr', hw, hf⟩
    have put : putAt (.ptr 1) (.str p.1) (.str w) [some r1, some (.dic ks vs)] = some [some r1, some (.dic (ks ++ [.str p.1]) (vs ++ [.str w]))] := by
      show (if ks.length < 1000 then some ([some r1, some (D.dic ks vs)].set 1 (some (.dic (dicPut ks vs (.inr p.1) (.str p.1) (.str w)).1 (dicPut ks vs (.inr p.1) (.str p.1) (.str w)).2))) else none) = _
      rw [if_pos hl', put_new hkn]
      rfl
    have body : dSetA (dVar 1) (dVar 2) (dOp fIxA (dVar 3) (dCall 2 (viaR F__law_pick) (aCons (dVar 0) (aCons (dB bLen (aCons (dVar 3) aNil)) aNil)))) [some (.ptr 0), some (.ptr 1), some (.str p.1), some (.lst (p.2.map .str))] [some r, some (.dic ks vs)] = .nx [some (.ptr 0), some (.ptr 1), some (.str p.1), some (.lst (p.2.map .str))] [some r1, some (.dic (ks ++ [.str p.1]) (vs ++ [.str w]))] := by
      simp [setA_is, e1, ew, put]
    show (match dSetA (dVar 1) (dVar 2) (dOp fIxA (dVar 3) (dCall 2 (viaR F__law_pick) (aCons (dVar 0) (aCons (dB bLen (aCons (dVar 3) aNil)) aNil)))) [some (.ptr 0), some (.ptr 1), some (.str p.1), some (.lst (p.2.map .str))] [some r, some (.dic ks vs)] with
        | .nx t2 S2 => dLoop _ _ (ps.map fun p : Str × List Str => D.tup [.str p.1, .lst (p.2.map .str)]) t2 S2
        | .ct t2 S2 => dLoop _ _ (ps.map fun p : Str × List Str => D.tup [.str p.1, .lst (p.2.map .str)]) t2 S2
        | .bk t2 S2 => .nx t2 S2
        | o => o) = _
    rw [body]
    show dLoop _ _ _ _ _ = _
    rw [e2]
    simp
/-- a drawn rule: a word for each part -/
def RuleW (ws : List Str) : Prop := Each ws parts
theorem rule_ok {r : D} (h : Row r) : ∃ ws r', (∀ rest, viaR F__law_rule [.ptr 0] (some r :: rest) = .ok (.dic PARTS_ks (ws.map .str)) (some r' :: rest)) ∧ Row r' ∧ RuleW ws := by
  obtain ⟨ws, r', t', e, ht', hr', hf⟩ := rule_loop parts [] [] r [some (.ptr 0), some (.ptr 1), none, none] (by decide +kernel) (by decide +kernel) (by decide +kernel) (by decide +kernel) h rfl rfl rfl
  have hb : belows 0 (ws.map D.str) = true := by
    clear e hf
    induction ws with
    | nil => rfl
    | cons w ws ih => exact ih
  refine ⟨ws, r', fun rest => viaR_row (S' := [none]) h hr' rfl (by show (belows 0 PARTS_ks && belows 0 (ws.map D.str)) = true; rw [hb]; rfl) ?_, hr', hf⟩
  show runF 1 4 den__law_rule [.ptr 0] [some r] = _
  have e' : dFor (.tp [2, 3]) (iLst (dCall 0 (viaP F__law_parts) aNil)) (dSetA (dVar 1) (dVar 2) (dOp fIxA (dVar 3) (dCall 2 (viaR F__law_pick) (aCons (dVar 0) (aCons (dB bLen (aCons (dVar 3) aNil)) aNil))))) [some (.ptr 0), some (.ptr 1), none, none] [some r, some (.dic [] [])] = .nx t' [some r', some (.dic PARTS_ks (ws.map .str))] := e
  show (match (match dFor (.tp [2, 3]) (iLst (dCall 0 (viaP F__law_parts) aNil)) (dSetA (dVar 1) (dVar 2) (dOp fIxA (dVar 3) (dCall 2 (viaR F__law_pick) (aCons (dVar 0) (aCons (dB bLen (aCons (dVar 3) aNil)) aNil))))) [some (.ptr 0), some (.ptr 1), none, none] [some r, some (.dic [] [])] with
    | .nx t1 S1 => dRet (dFz (dVar 1)) t1 S1
    | o => o) with
    | .nx _ S1 => Out.ok D.non S1
    | .rt x S1 => .ok x S1
    | .exc _ c ns vs S1 => .exc c ns vs S1
    | _ => .bad) = _
  rw [e']
  simp [dFz, ht']
end GG
set_option Elab.async false
set_option linter.all false
set_option maxRecDepth 100000
set_option maxHeartbeats 1000000
namespace GG
open PySem PyProof.Rows L2 Dl
theorem viaP_ok {f : DF} {xs : List D} {r : D} {S S' : Sto} (hx : belows 0 xs = true) (e : f xs [] = .ok r S') (hr : below 0 r = true) : viaP f xs S = .ok r S := by
  show (if belows 0 xs = true then (match f xs [] with
    | .ok r _ => if below 0 r = true then Out.ok r S else .bad
    | .exc c ns vs _ => if belows 0 vs = true then .exc c ns vs S else .bad
    | .bad => .bad) else .bad) = _
  rw [if_pos hx, e]
  show (if below 0 r = true then Out.ok r S else .bad) = _
  rw [if_pos hr]
/-- values that are asked about: leaves and tuples -/
def asked : D → Bool
  | .non => true
  | .bl _ => true
  | .int _ => true
  | .str _ => true
  | .tup xs => belows 0 xs
  | _ => false
def intIn (v : D) (lo hi : Int) : Bool := match v with
  | .int i => decide (lo ≤ i) && decide (i ≤ hi)
  | _ => false
theorem asked_below {v : D} (h : asked v = true) : below 0 v = true := by
  cases v with
  | tup xs => exact h
  | non => rfl
  | bl b => rfl
  | int i => rfl
  | str x => rfl
  | _ => cases h
def isI : D → Bool
  | .int _ => true
  | _ => false
theorem integer_is {v : D} (h : asked v = true) (S : Sto) : viaP F_is_integer [v] S = .ok (.bl (isI v)) S := by
  have hb := asked_below h
  refine viaP_ok (S' := []) (by show (below 0 v && true) = true; rw [hb]; rfl) ?_ rfl
  cases v with
  | non => rfl
  | bl b => rfl
  | int i => rfl
  | str x => rfl
  | tup xs => rfl
  | _ => cases h
theorem from_is {v : D} (h : asked v = true) (lo hi : Int) (S : Sto) : viaP F_is_from [v, .int lo, .int hi] S = .ok (.bl (intIn v lo hi)) S := by
  have hb := asked_below h
  refine viaP_ok (S' := []) (by show (below 0 v && (true && (true && true))) = true; rw [hb]; rfl) ?_ rfl
  show runF 3 3 den_is_from [v, .int lo, .int hi] [] = _
  refine run_rt (ret_rt ?_)
  have c : dCall 1 (viaP F_is_integer) (aCons (dVar 0) aNil) [some v, some (.int lo), some (.int hi)] [] = .ok (.bl (isI v)) [] := call_ok (cons_ok (var_ok rfl) nil_is) rfl (integer_is h [])
  cases v with
  | int i =>
    refine (and_t c).trans ?_
    show _ = Out.ok (D.bl (decide (lo ≤ i) && decide (i ≤ hi))) []
    by_cases z : lo ≤ i
    · rw [decide_eq_true z, Bool.true_and, ← Dl.le_int]
      refine chain_t (var_ok rfl) (var_ok rfl) ?_ (var_ok rfl)
      rw [Dl.le_int, decide_eq_true z]
    · rw [decide_eq_false z, Bool.false_and]
      refine chain_f (var_ok rfl) (var_ok rfl) ?_
      rw [Dl.le_int, decide_eq_false z]
  | non => exact and_f c
  | bl b => exact and_f c
  | str x => exact and_f c
  | tup xs => exact and_f c
  | _ => cases h
end GG
set_option Elab.async false
set_option linter.all false
set_option maxRecDepth 100000
set_option maxHeartbeats 1000000
namespace GG
open PySem PyProof.Rows L2 Dl
abbrev MK : List D := [.str "least", .str "most", .str "nocome", .str "nogo", .str "shut"]
def marks : List Str := ["least", "most", "nocome", "nogo", "shut"]
theorem marks_cases {m : Str} (h : m ∈ marks) : m = "least" ∨ m = "most" ∨ m = "nocome" ∨ m = "nogo" ∨ m = "shut" := by
  simpa only [marks, List.mem_cons, List.not_mem_nil, or_false] using h
theorem one_mark {m : Str} (h : m ∈ marks) (S : Sto) : viaP F_is_one_of [.str m, .tup MK] S = .ok (.bl true) S := by
  rcases marks_cases h with h | h | h | h | h <;> subst h <;> kernel_rfl
def isLen (m : Str) : Bool := decide (m = "least") || decide (m = "most")
def okVal (m : Str) (v : D) : Bool := if isLen m = true then intIn v 1 1000000000 else intIn v 0 1
theorem val_len {m : Str} (h : isLen m = true) (v : D) : okVal m v = intIn v 1 1000000000 := by unfold okVal; rw [if_pos h]
theorem val_not {m : Str} (h : isLen m = false) (v : D) : okVal m v = intIn v 0 1 := by unfold okVal; rw [h]; rfl
theorem value_is {m : Str} (h : m ∈ marks) {v : D} (hv : asked v = true) (S : Sto) : viaP F_is_value [.str m, v, .int 1000000000] S = .ok (.bl (okVal m v)) S := by
  have hb := asked_below hv
  have hx : belows 0 [.str m, v, .int 1000000000] = true := by show (true && (below 0 v && true)) = true; rw [hb]; rfl
  have big : dCall 3 (viaP F_is_from) (aCons (dVar 1) (aCons (dC (.int 1)) (aCons (dVar 2) aNil))) [some (.str m), some v, some (.int 1000000000)] [] = .ok (.bl (intIn v 1 1000000000)) [] :=
    call_ok (cons_ok (var_ok rfl) (cons_ok rfl (cons_ok (var_ok rfl) nil_is))) rfl (from_is hv 1 1000000000 [])
  have small : dCall 3 (viaP F_is_from) (aCons (dVar 1) (aCons (dC (.int 0)) (aCons (dC (.int 1)) aNil))) [some (.str m), some v, some (.int 1000000000)] [] = .ok (.bl (intIn v 0 1)) [] :=
    call_ok (cons_ok (var_ok rfl) (cons_ok rfl (cons_ok rfl nil_is))) rfl (from_is hv 0 1 [])
  have t : bTest (dOp (fInA false) (dVar 0) (dC (.tup [(.str "least"), (.str "most")]))) [some (.str m), some v, some (.int 1000000000)] [] = .ok (isLen m) [] := by
    rcases marks_cases h with h | h | h | h | h <;> subst h <;> kernel_rfl
  refine viaP_ok (S' := []) hx ?_ rfl
  show runF 3 3 den_is_value [.str m, v, .int 1000000000] [] = _
  refine run_rt (ret_rt ?_)
  cases q : isLen m with
  | true => rw [q] at t; rw [val_len q]; exact (if_tt t).trans big
  | false => rw [q] at t; rw [val_not q]; exact (if_ff t).trans small
theorem int_in {a lo hi : Int} (h1 : lo ≤ a) (h2 : a ≤ hi) : intIn (.int a) lo hi = true := by
  show (decide (lo ≤ a) && decide (a ≤ hi)) = true
  rw [decide_eq_true h1, decide_eq_true h2]; rfl
theorem span_is {m : Str} (h : m ∈ marks) {a b v : Int} (ha : 0 ≤ a) (hab : a ≤ b) (hb : b ≤ 1000000000) (hv : okVal m (.int v) = true) (S : Sto) : viaP F_is_span [.int a, .int b, .str m, .int v] S = .ok (.bl true) S := by
  refine viaP_ok (S' := []) rfl ?_ rfl
  show runF 4 4 den_is_span [.int a, .int b, .str m, .int v] [] = _
  have f1 : bNot (bTest (dCall 3 (viaP F_is_from) (aCons (dVar 0) (aCons (dC (.int 0)) (aCons (dC (.int 1000000000)) aNil))))) [some (.int a), some (.int b), some (.str m), some (.int v)] [] = .ok false [] :=
    bnot_ok (c := true) (test_ok (call_ok (cons_ok (var_ok rfl) (cons_ok rfl (cons_ok rfl nil_is))) rfl ((from_is rfl 0 1000000000 []).trans (by rw [int_in ha (by omega)]))))
  have f2 : bNot (bTest (dCall 3 (viaP F_is_from) (aCons (dVar 1) (aCons (dC (.int 0)) (aCons (dC (.int 1000000000)) aNil))))) [some (.int a), some (.int b), some (.str m), some (.int v)] [] = .ok false [] :=
    bnot_ok (c := true) (test_ok (call_ok (cons_ok (var_ok rfl) (cons_ok rfl (cons_ok rfl nil_is))) rfl ((from_is rfl 0 1000000000 []).trans (by rw [int_in (by omega) hb]))))
  have f3 : bNot (bTest (dCall 2 (viaP F_is_one_of) (aCons (dVar 2) (aCons (dC (.tup MK)) aNil)))) [some (.int a), some (.int b), some (.str m), some (.int v)] [] = .ok false [] :=
    bnot_ok (c := true) (test_ok (call_ok (cons_ok (var_ok rfl) (cons_ok rfl nil_is)) rfl (one_mark h [])))
  have f4 : dOp fLe (dVar 0) (dVar 1) [some (.int a), some (.int b), some (.str m), some (.int v)] [] = .ok (.bl true) [] :=
    op_ok (var_ok rfl) (var_ok rfl) (by rw [Dl.le_int, decide_eq_true hab])
  have f5 : dCall 3 (viaP F_is_value) (aCons (dVar 2) (aCons (dVar 3) (aCons (dC (.int 1000000000)) aNil))) [some (.int a), some (.int b), some (.str m), some (.int v)] [] = .ok (.bl true) [] :=
    call_ok (cons_ok (var_ok rfl) (cons_ok (var_ok rfl) (cons_ok rfl nil_is))) rfl ((value_is h rfl []).trans (by rw [hv]))
  exact run_rt ((seq_nx (ifs_skip ((bor_f f1).trans ((bor_f f2).trans f3)))).trans (ret_rt ((and_t f4).trans f5)))
end GG
set_option Elab.async false
set_option linter.all false
set_option maxRecDepth 100000
set_option maxHeartbeats 1000000
namespace GG
open PySem PyProof.Rows L2 Dl
abbrev Spn := Int × Int × Str × Int
def spanD (s : Spn) : D := .tup [.int s.1, .int s.2.1, .str s.2.2.1, .int s.2.2.2]
abbrev Held := List (Int × Spn)
def hks (h : Held) : List D := h.map fun p => .int p.1
def hvs (h : Held) : List D := h.map fun p => spanD p.2
def keys (h : Held) : List Int := h.map (·.1)
theorem keys_app {a b : Held} : keys (a ++ b) = keys a ++ keys b := by unfold keys; rw [List.map_append]
theorem hks_app {a b : Held} : hks (a ++ b) = hks a ++ hks b := by unfold hks; rw [List.map_append]
theorem hvs_app {a b : Held} : hvs (a ++ b) = hvs a ++ hvs b := by unfold hvs; rw [List.map_append]
theorem key_is {n : Int} : keyD (.int n) = some (.inl n) := rfl
section
variable {g : Tg} {dt : DB} {dk dv : DE} {t t1 : Lc} {x y z : D} {r : List D} {acc : List D × List D} {S S1 S2 S3 : Sto} {q : Key}
theorem dc_one (h1 : g.set x t = some t1) (h2 : dt t1 S = .ok true S1) (h3 : dk t1 S1 = .ok y S2) (h4 : dv t1 S2 = .ok z S3) (hq : keyD y = some q) (hl : acc.1.length < 1000) : dcLoop g dt dk dv t (x :: r) acc S = dcLoop g dt dk dv t r (dicPut acc.1 acc.2 q y z) S3 := by
  show (match g.set x t with
    | none => Out.bad
    | some t1 => (dt t1 S).calm.bind fun b S1 => if b = true then (dk t1 S1).calm.bind fun y S2 => (dv t1 S2).calm.bind fun z S3 => match keyD y with
      | some q => if acc.1.length < 1000 then dcLoop g dt dk dv t r (dicPut acc.1 acc.2 q y z) S3 else .bad
      | none => .bad
      else dcLoop g dt dk dv t r acc S1) = _
  rw [h1]
  show ((dt t1 S).calm.bind fun b S1 => if b = true then (dk t1 S1).calm.bind fun y S2 => (dv t1 S2).calm.bind fun z S3 => match keyD y with
      | some q => if acc.1.length < 1000 then dcLoop g dt dk dv t r (dicPut acc.1 acc.2 q y z) S3 else .bad
      | none => .bad
      else dcLoop g dt dk dv t r acc S1) = _
  rw [h2]
  show ((dk t1 S1).calm.bind fun y S2 => (dv t1 S2).calm.bind fun z S3 => match keyD y with
      | some q => if acc.1.length < 1000 then dcLoop g dt dk dv t r (dicPut acc.1 acc.2 q y z) S3 else .bad
      | none => .bad) = _
  rw [h3]
  show ((dv t1 S2).calm.bind fun z S3 => match keyD y with
      | some q => if acc.1.length < 1000 then dcLoop g dt dk dv t r (dicPut acc.1 acc.2 q y z) S3 else .bad
      | none => .bad) = _
  rw [h4]
  show (match keyD y with
      | some q => if acc.1.length < 1000 then dcLoop g dt dk dv t r (dicPut acc.1 acc.2 q y z) S3 else .bad
      | none => .bad) = _
  rw [hq]
  exact if_pos hl
theorem dc_skip (h1 : g.set x t = some t1) (h2 : dt t1 S = .ok false S1) : dcLoop g dt dk dv t (x :: r) acc S = dcLoop g dt dk dv t r acc S1 := by
  show (match g.set x t with
    | none => Out.bad
    | some t1 => (dt t1 S).calm.bind fun b S1 => if b = true then (dk t1 S1).calm.bind fun y S2 => (dv t1 S2).calm.bind fun z S3 => match keyD y with
      | some q => if acc.1.length < 1000 then dcLoop g dt dk dv t r (dicPut acc.1 acc.2 q y z) S3 else .bad
      | none => .bad
      else dcLoop g dt dk dv t r acc S1) = _
  rw [h1]
  show ((dt t1 S).calm.bind fun b S1 => if b = true then (dk t1 S1).calm.bind fun y S2 => (dv t1 S2).calm.bind fun z S3 => match keyD y with
      | some q => if acc.1.length < 1000 then dcLoop g dt dk dv t r (dicPut acc.1 acc.2 q y z) S3 else .bad
      | none => .bad
      else dcLoop g dt dk dv t r acc S1) = _
  rw [h2]
  rfl
end
theorem key_ne {m n : Int} (h : m ≠ n) : ¬ keyD (.int m) = some (.inl n) := fun e => h (Sum.inl.inj (Option.some.inj e))
theorem notin {p : Int × Spn} {h : Held} {n : Int} (x : n ∉ keys (p :: h)) : p.1 ≠ n ∧ n ∉ keys h := by
  have x : n ∉ p.1 :: keys h := x
  rw [List.mem_cons] at x
  exact ⟨fun e => x (.inl e.symm), fun e => x (.inr e)⟩
theorem has_not : ∀ {h : Held} {n : Int}, n ∉ keys h → dicHas (hks h) (.inl n) = false
  | [], _, _ => rfl
  | p :: h, n, hn => by
    obtain ⟨a, b⟩ := notin hn
    show (decide (keyD (.int p.1) = some (.inl n)) || dicHas (hks h) (.inl n)) = false
    rw [decide_eq_false (key_ne a), has_not b]; rfl
theorem get_not : ∀ {h : Held} {n : Int}, n ∉ keys h → dicGet (hks h) (hvs h) (.inl n) = none
  | [], _, _ => rfl
  | p :: h, n, hn => by
    obtain ⟨a, b⟩ := notin hn
    show (if keyD (.int p.1) = some (.inl n) then some (spanD p.2) else dicGet (hks h) (hvs h) (.inl n)) = none
    rw [if_neg (key_ne a), get_not b]
theorem get_at : ∀ {a b : Held} {n : Int} {s : Spn}, n ∉ keys a → dicGet (hks (a ++ (n, s) :: b)) (hvs (a ++ (n, s) :: b)) (.inl n) = some (spanD s)
  | [], b, n, s, _ => if_pos key_is
  | p :: a, b, n, s, hn => by
    obtain ⟨x, y⟩ := notin hn
    show (if keyD (.int p.1) = some (.inl n) then some (spanD p.2) else dicGet (hks (a ++ (n, s) :: b)) (hvs (a ++ (n, s) :: b)) (.inl n)) = _
    rw [if_neg (key_ne x), get_at y]
theorem has_at : ∀ {a b : Held} {n : Int} {s : Spn}, dicHas (hks (a ++ (n, s) :: b)) (.inl n) = true
  | [], b, n, s => by
    show (decide (keyD (.int n) = some (.inl n)) || _) = true
    rw [decide_eq_true key_is]; rfl
  | p :: a, b, n, s => by
    show (_ || dicHas (hks (a ++ (n, s) :: b)) (.inl n)) = true
    rw [has_at, Bool.or_true]
theorem sub_not {d : D} : ∀ {h : Held} {n : Int}, n ∉ keys h → dicSub (hks h) (hvs h) (.inl n) d = hvs h
  | [], _, _ => rfl
  | p :: h, n, hn => by
    obtain ⟨a, b⟩ := notin hn
    show (if keyD (.int p.1) = some (.inl n) then d else spanD p.2) :: dicSub (hks h) (hvs h) (.inl n) d = _
    rw [if_neg (key_ne a), sub_not b]; rfl
theorem sub_at : ∀ {a b : Held} {n : Int} {s s' : Spn}, n ∉ keys a → n ∉ keys b → dicSub (hks (a ++ (n, s) :: b)) (hvs (a ++ (n, s) :: b)) (.inl n) (spanD s') = hvs (a ++ (n, s') :: b)
  | [], b, n, s, s', _, hb => by
    show (if keyD (.int n) = some (.inl n) then spanD s' else spanD s) :: dicSub (hks b) (hvs b) (.inl n) (spanD s') = _
    rw [if_pos key_is, sub_not hb]; rfl
  | p :: a, b, n, s, s', ha, hb => by
    obtain ⟨x, y⟩ := notin ha
    show (if keyD (.int p.1) = some (.inl n) then spanD s' else spanD p.2) :: dicSub (hks (a ++ (n, s) :: b)) (hvs (a ++ (n, s) :: b)) (.inl n) (spanD s') = _
    rw [if_neg (key_ne x), sub_at y hb]; rfl
theorem drop_not : ∀ {h : Held} {n : Int}, n ∉ keys h → dicDrop (hks h) (hvs h) (.inl n) = (hks h, hvs h)
  | [], _, _ => rfl
  | p :: h, n, hn => by
    obtain ⟨a, b⟩ := notin hn
    show (if keyD (.int p.1) = some (.inl n) then dicDrop (hks h) (hvs h) (.inl n) else (.int p.1 :: (dicDrop (hks h) (hvs h) (.inl n)).1, spanD p.2 :: (dicDrop (hks h) (hvs h) (.inl n)).2)) = _
    rw [if_neg (key_ne a), drop_not b]; rfl
theorem drop_at : ∀ {a b : Held} {n : Int} {s : Spn}, n ∉ keys a → n ∉ keys b → dicDrop (hks (a ++ (n, s) :: b)) (hvs (a ++ (n, s) :: b)) (.inl n) = (hks (a ++ b), hvs (a ++ b))
  | [], b, n, s, _, hb => by
    show (if keyD (.int n) = some (.inl n) then dicDrop (hks b) (hvs b) (.inl n) else _) = _
    rw [if_pos key_is, drop_not hb]; rfl
  | p :: a, b, n, s, ha, hb => by
    obtain ⟨x, y⟩ := notin ha
    show (if keyD (.int p.1) = some (.inl n) then dicDrop (hks (a ++ (n, s) :: b)) (hvs (a ++ (n, s) :: b)) (.inl n) else (.int p.1 :: (dicDrop (hks (a ++ (n, s) :: b)) (hvs (a ++ (n, s) :: b)) (.inl n)).1, spanD p.2 :: (dicDrop (hks (a ++ (n, s) :: b)) (hvs (a ++ (n, s) :: b)) (.inl n)).2)) = _
    rw [if_neg (key_ne x), drop_at y hb]; rfl
theorem put_fresh {h : Held} {n : Int} {s : Spn} (hn : n ∉ keys h) : dicPut (hks h) (hvs h) (.inl n) (.int n) (spanD s) = (hks (h ++ [(n, s)]), hvs (h ++ [(n, s)])) := by
  rw [put_new (has_not hn), hks_app, hvs_app]; rfl
theorem put_at {a b : Held} {n : Int} {s s' : Spn} (ha : n ∉ keys a) (hb : n ∉ keys b) : dicPut (hks (a ++ (n, s) :: b)) (hvs (a ++ (n, s) :: b)) (.inl n) (.int n) (spanD s') = (hks (a ++ (n, s') :: b), hvs (a ++ (n, s') :: b)) := by
  unfold dicPut
  rw [if_pos has_at, sub_at ha hb]
  rw [hks_app, hks_app]; rfl
theorem merge_ok : ∀ {h acc : Held}, (keys (acc ++ h)).Nodup → dicMerge (hks h) (hvs h) (hks acc, hvs acc) = some (hks (acc ++ h), hvs (acc ++ h))
  | [], acc, _ => by rw [List.append_nil]; rfl
  | p :: h, acc, hn => by
    have h1 : p.1 ∉ keys acc := fun x => by
      rw [keys_app] at hn
      exact (List.nodup_append.mp hn).2.2 _ x _ List.mem_cons_self rfl
    show dicMerge (hks h) (hvs h) (dicPut (hks acc) (hvs acc) (.inl p.1) (.int p.1) (spanD p.2)) = _
    rw [put_fresh h1, merge_ok (h := h) (acc := acc ++ [(p.1, p.2)]) (by rw [List.append_assoc]; exact hn), List.append_assoc]; rfl
def itemD (p : Int × Spn) : D := .tup [.int p.1, spanD p.2]
theorem pairs_is : ∀ h : Held, pairsD (hks h) (hvs h) = h.map itemD
  | [] => rfl
  | p :: h => by
    show D.tup [.int p.1, spanD p.2] :: pairsD (hks h) (hvs h) = _
    rw [pairs_is h]; rfl
theorem below_hks : ∀ {n : Nat} (h : Held), belows n (hks h) = true
  | _, [] => rfl
  | _, p :: h => below_hks h
theorem below_hvs : ∀ {n : Nat} (h : Held), belows n (hvs h) = true
  | _, [] => rfl
  | _, p :: h => below_hvs h
def heldD (h : Held) : D := .dic (hks h) (hvs h)
theorem below_held {n : Nat} (h : Held) : below n (heldD h) = true := by
  show (belows n (hks h) && belows n (hvs h)) = true
  rw [below_hks, below_hvs]; rfl
theorem drop_loop {n : Int} {x0 : Option D} {S : Sto} : ∀ (h acc : Held) (y z u : Option D), (keys (acc ++ h)).Nodup → acc.length + h.length < 1000 →
    dcLoop (.tp [3, 4]) (bTest (dOp (fEqA true) (dVar 3) (dVar 1))) (dVar 3) (dVar 4) [x0, some (.int n), y, z, u] (pairsD (hks h) (hvs h)) (hks acc, hvs acc) S = .ok (hks (acc ++ h.filter fun p => decide (p.1 ≠ n)), hvs (acc ++ h.filter fun p => decide (p.1 ≠ n))) S
  | [], acc, y, z, u, _, _ => by rw [List.filter_nil, List.append_nil]; rfl
  | p :: h, acc, y, z, u, hn, hl => by
    have h1 : p.1 ∉ keys acc := fun x => by
      rw [keys_app] at hn
      exact (List.nodup_append.mp hn).2.2 _ x _ List.mem_cons_self rfl
    have t : bTest (dOp (fEqA true) (dVar 3) (dVar 1)) [x0, some (.int n), y, some (.int p.1), some (spanD p.2)] S = .ok (decide (p.1 ≠ n)) S := by
      refine test_ok (op_ok (var_ok rfl) (var_ok rfl) ?_)
      rw [Dl.eq_int]
      by_cases c : p.1 = n
      · rw [decide_eq_true c, decide_eq_false (fun e => e c)]; rfl
      · rw [decide_eq_false c, decide_eq_true (p := p.1 ≠ n) c]; rfl
    have hl' : acc.length < 1000 := by rw [List.length_cons] at hl; omega
    have k : (hks acc).length < 1000 := by unfold hks; rw [List.length_map]; exact hl'
    have g1 : (Tg.tp [3, 4]).set (.tup [.int p.1, spanD p.2]) [x0, some (.int n), y, z, u] = some [x0, some (.int n), y, some (.int p.1), some (spanD p.2)] := rfl
    by_cases c : p.1 = n
    · have d1 : decide (p.1 ≠ n) = false := decide_eq_false fun e => e c
      rw [d1] at t
      rw [List.filter_cons_of_neg (by rw [d1]; exact Bool.false_ne_true)]
      refine (dc_skip g1 t).trans (drop_loop h acc y z u ?_ ?_)
      · rw [keys_app] at hn ⊢
        exact hn.sublist (List.Sublist.append (List.Sublist.refl _) (List.sublist_cons_self _ _))
      · rw [List.length_cons] at hl; omega
    · have d1 : decide (p.1 ≠ n) = true := decide_eq_true c
      rw [d1] at t
      rw [List.filter_cons_of_pos (p := fun p : Int × Spn => decide (p.1 ≠ n)) d1]
      refine (dc_one g1 t (var_ok rfl) (var_ok rfl) key_is k).trans ?_
      show dcLoop (.tp [3, 4]) (bTest (dOp (fEqA true) (dVar 3) (dVar 1))) (dVar 3) (dVar 4) [x0, some (.int n), y, z, u] (pairsD (hks h) (hvs h)) (dicPut (hks acc) (hvs acc) (.inl p.1) (.int p.1) (spanD p.2)) S = _
      rw [put_fresh h1, drop_loop h (acc ++ [(p.1, p.2)]) y z u (by rw [List.append_assoc]; exact hn) (by simp at hl ⊢; omega), List.append_assoc]; rfl
theorem filter_not {n : Int} : ∀ {h : Held}, n ∉ keys h → h.filter (fun p => decide (p.1 ≠ n)) = h
  | [], _ => rfl
  | p :: h, hn => by
    obtain ⟨a, b⟩ := notin hn
    rw [List.filter_cons_of_pos (p := fun p : Int × Spn => decide (p.1 ≠ n)) (decide_eq_true (p := p.1 ≠ n) a), filter_not b]
theorem filter_at {n : Int} {s : Spn} {a b : Held} (ha : n ∉ keys a) (hb : n ∉ keys b) : (a ++ (n, s) :: b).filter (fun p => decide (p.1 ≠ n)) = a ++ b := by
  rw [List.filter_append, filter_not ha, List.filter_cons_of_neg (by rw [decide_eq_false (fun e => e rfl)]; exact Bool.false_ne_true), filter_not hb]
end GG
set_option Elab.async false
set_option linter.all false
set_option maxRecDepth 100000
set_option maxHeartbeats 1000000
namespace GG
open PySem PyProof.Rows L2 Dl
def innD (ws : List D) (h : Held) (fr : Int) : D := .obj 15 ["parts", "held", "fresh", "past", "rows_done"] [.dic PARTS_ks ws, heldD h, .int fr, .ptr 2, .ptr 3]
def sto (r : D) (ws : List D) (h : Held) (fr : Int) (past rows : List D) (rest : Sto) : Sto := some r :: some (innD ws h fr) :: some (.lst past) :: some (.lst rows) :: rest
structure Fine (r : D) (ws past rows : List D) : Prop where
  r : Row r
  ws : belows 0 ws = true
  past : belows 0 past = true
  rows : belows 0 rows = true
theorem below_inn {ws : List D} (hw : belows 0 ws = true) (h : Held) (fr : Int) {n : Nat} (hn : 4 ≤ n) : below n (innD ws h fr) = true := by
  have h1 := belows_up (Nat.zero_le n) ws hw
  have h2 : belows n PARTS_ks = true := rfl
  show ((belows n PARTS_ks && belows n ws) && (below n (heldD h) && (true && (decide (2 < n) && (decide (3 < n) && true))))) = true
  rw [h1, h2, below_held, decide_eq_true (show 2 < n by omega), decide_eq_true (show 3 < n by omega)]; rfl
theorem cells_sto {r : D} {ws past rows : List D} (F : Fine r ws past rows) (h : Held) (fr : Int) {n : Nat} (hn : 4 ≤ n) {rest : Sto} (hr : cellsBelow n rest = true) : cellsBelow n (sto r ws h fr past rows rest) = true := by
  show (below n r && (below n (innD ws h fr) && (belows n past && (belows n rows && cellsBelow n rest)))) = true
  rw [below_up (Nat.zero_le n) r (below_row F.r), below_inn F.ws h fr hn, belows_up (Nat.zero_le n) past F.past, belows_up (Nat.zero_le n) rows F.rows, hr]; rfl
def pastD (h : Held) (fr : Int) : D := .tup [heldD h, .int fr]
theorem below_past (h : Held) (fr : Int) : below 0 (pastD h fr) = true := by
  show (below 0 (heldD h) && (true && true)) = true
  rw [below_held]; rfl
theorem belows_one {n : Nat} {xs : List D} {x : D} (h : belows n xs = true) (hx : below n x = true) : belows n (xs ++ [x]) = true :=
  belows_app h (by show (below n x && true) = true; rw [hx]; rfl)
theorem become_ok {r : D} {ws past rows : List D} (F : Fine r ws past rows) (hp : past.length < sizeLine) (hr : rows.length < sizeLine) (h h' : Held) (fr : Int) {deed : D} (hd : below 0 deed = true) {rest : Sto} (hs : cellsBelow (rest.length + 4) rest = true) :
    viaT F_Inn_become [.ptr 1, heldD h', deed] (sto r ws h fr past rows rest) = .ok .non (sto r ws h' fr (past ++ [pastD h fr]) (rows ++ [deed]) rest) := by
  have F' : Fine r ws (past ++ [pastD h fr]) (rows ++ [deed]) := ⟨F.r, F.ws, belows_one F.past (below_past h fr), belows_one F.rows hd⟩
  refine viaT_len ?_ rfl rfl (cells_sto F' h' fr (Nat.le_add_left 4 rest.length) hs)
  show runF 3 3 den_Inn_become [.ptr 1, heldD h', deed] _ = _
  have s1 : dExpr (dBM "list" mAppend (dAttr 15 "past" (dVar 0)) (aCons (dTup (aCons (dAttr 15 "held" (dVar 0)) (aCons (dAttr 15 "fresh" (dVar 0)) aNil))) aNil)) [some (.ptr 1), some (heldD h'), some deed] (sto r ws h fr past rows rest) = .nx [some (.ptr 1), some (heldD h'), some deed] (sto r ws h fr (past ++ [pastD h fr]) rows rest) :=
    expr_nx (bm_ok (attr_p (var_ok rfl) rfl rfl) rfl (cons_ok (tup_ok (cons_ok (attr_p (var_ok rfl) rfl rfl) (cons_ok (attr_p (var_ok rfl) rfl rfl) nil_is)) (show 2 ≤ sizeLine by decide)) nil_is) (append_p (p := 2) rfl hp))
  have s2 : dExpr (dBM "list" mAppend (dAttr 15 "rows_done" (dVar 0)) (aCons (dVar 2) aNil)) [some (.ptr 1), some (heldD h'), some deed] (sto r ws h fr (past ++ [pastD h fr]) rows rest) = .nx [some (.ptr 1), some (heldD h'), some deed] (sto r ws h fr (past ++ [pastD h fr]) (rows ++ [deed]) rest) :=
    expr_nx (bm_ok (attr_p (var_ok rfl) rfl rfl) rfl (cons_ok (var_ok rfl) nil_is) (append_p (p := 3) rfl hr))
  have s3 : dSetF 15 "held" (dVar 0) (dVar 1) [some (.ptr 1), some (heldD h'), some deed] (sto r ws h fr (past ++ [pastD h fr]) (rows ++ [deed]) rest) = .nx [some (.ptr 1), some (heldD h'), some deed] (sto r ws h' fr (past ++ [pastD h fr]) (rows ++ [deed]) rest) :=
    setF_p (p := 1) (c := 15) (f := "held") (ns := ["parts", "held", "fresh", "past", "rows_done"]) (vs := [.dic PARTS_ks ws, heldD h, .int fr, .ptr 2, .ptr 3]) (y := heldD h') (S2 := sto r ws h fr (past ++ [pastD h fr]) (rows ++ [deed]) rest) (var_ok rfl) (var_ok rfl) rfl (show 5 < 1000 by decide)
  exact run_nx ((seq_nx s1).trans ((seq_nx s2).trans s3))
section
variable {de dk dv : DE} {t : Lc} {S : Sto} {ks vs : List D} {b : List D × List D} {k v : D} {q : Key}
theorem star_is (h1 : de t S = .ok (.dic ks vs) S) (hm : dicMerge ks vs ([], []) = some b) (hl : ks.length < 900) (h2 : dk t S = .ok k S) (h3 : dv t S = .ok v S) (hq : keyD k = some q) : dStar de dk dv t S = .ok (.dic (dicPut b.1 b.2 q k v).1 (dicPut b.1 b.2 q k v).2) S := by
  unfold dStar
  rw [h1]
  show (match dicMerge ks vs ([], []) with
    | some b => if ks.length < 900 then (dk t S).bind fun k S2 => (dv t S2).bind fun v S3 => (match keyD k with
        | some q => Out.ok (D.dic (dicPut b.1 b.2 q k v).1 (dicPut b.1 b.2 q k v).2) S3
        | none => .bad) else .bad
    | none => .bad) = _
  rw [hm]
  show (if ks.length < 900 then (dk t S).bind fun k S2 => (dv t S2).bind fun v S3 => (match keyD k with
        | some q => Out.ok (D.dic (dicPut b.1 b.2 q k v).1 (dicPut b.1 b.2 q k v).2) S3
        | none => .bad) else Out.bad) = _
  rw [if_pos hl, h2]
  show ((dv t S).bind fun v S3 => (match keyD k with
        | some q => Out.ok (D.dic (dicPut b.1 b.2 q k v).1 (dicPut b.1 b.2 q k v).2) S3
        | none => .bad)) = _
  rw [h3]
  show (match keyD k with
        | some q => Out.ok (D.dic (dicPut b.1 b.2 q k v).1 (dicPut b.1 b.2 q k v).2) S
        | none => .bad) = _
  rw [hq]
theorem dictC_is {da : DA} {x : D} (h : da t S = .ok [x] S) (hx : Dl.deref x S = D.dic ks vs) : dDictC da t S = .ok (.ptr S.length) (S ++ [some (D.dic ks vs)]) := by
  unfold dDictC
  rw [h]
  show (match Dl.deref x S with
    | D.dic ks vs => Out.ok (D.ptr S.length) (S ++ [some (D.dic ks vs)])
    | _ => .bad) = _
  rw [hx]
theorem seta_is {dx di dv : DE} {x i y : D} {S4 : Sto} (h1 : dv t S = .ok y S) (h2 : dx t S = .ok x S) (h3 : di t S = .ok i S) (h4 : putAt x i y S = some S4) : dSetA dx di dv t S = .nx t S4 := by
  rw [setA_is, h1]
  show Dl.ofE (dx t S) t _ = _
  rw [h2]
  show Dl.ofE (di t S) t _ = _
  rw [h3]
  show (match putAt x i y S with
    | some S4 => SOut.nx t S4
    | none => .bad) = _
  rw [h4]
theorem put_dic {c : Nat} {i y : D} (h : S[c]? = some (some (.dic ks vs))) (hq : keyD i = some q) (hl : ks.length < 1000) : putAt (.ptr c) i y S = some (S.set c (some (.dic (dicPut ks vs q i y).1 (dicPut ks vs q i y).2))) := by
  unfold Dl.putAt
  dsimp only
  rw [h]
  dsimp only
  rw [hq]
  exact if_pos hl
theorem pop_dic {c : Nat} {k d : D} (h : S[c]? = some (some (.dic ks vs))) (hq : keyD k = some q) (hg : dicGet ks vs q = some d) : mPopD (.ptr c) [k] S = .ok d (S.set c (some (.dic (dicDrop ks vs q).1 (dicDrop ks vs q).2))) := by
  unfold mPopD
  dsimp only
  rw [h, hq]
  dsimp only
  rw [hg]
theorem ix_dic {x i d : D} (hx : Dl.deref x S = D.dic ks vs) (hq : keyD i = some q) (hg : dicGet ks vs q = some d) : fIxA x i S = .ok d S := by
  unfold fIxA
  rw [hx, hq]
  dsimp only
  rw [hg]
theorem in_dic {x y : D} {n : Bool} (hx : Dl.deref y S = D.dic ks vs) (hq : keyD x = some q) : fInA n x y S = .ok (.bl (xor n (dicGet ks vs q).isSome)) S := by
  unfold fInA
  rw [hx, hq]
end
def layD (s : Spn) : D := .tup [.str "lay", .int s.1, .int s.2.1, .str s.2.2.1, .int s.2.2.2]
structure SpanOk (s : Spn) : Prop where
  m : s.2.2.1 ∈ marks
  a : 0 ≤ s.1
  ab : s.1 ≤ s.2.1
  b : s.2.1 ≤ 1000000000
  v : okVal s.2.2.1 (.int s.2.2.2) = true
theorem lay_ok {r : D} {ws past rows : List D} (F : Fine r ws past rows) (hp : past.length < sizeLine) (hr : rows.length < sizeLine) {h : Held} {fr : Int} (hn : (keys h).Nodup) (hf : fr ∉ keys h) (hl : h.length < 900) {s : Spn} (hs : SpanOk s) :
    viaT F_Inn_lay [.ptr 1, .int s.1, .int s.2.1, .str s.2.2.1, .int s.2.2.2] (sto r ws h fr past rows []) = .ok (.int fr) (sto r ws (h ++ [(fr, s)]) (fr + 1) (past ++ [pastD h fr]) (rows ++ [layD s]) []) := by
  have F' : Fine r ws (past ++ [pastD h fr]) (rows ++ [layD s]) := ⟨F.r, F.ws, belows_one F.past (below_past h fr), belows_one F.rows rfl⟩
  refine viaT_len ?_ rfl rfl (cells_sto F' _ _ (Nat.le_refl 4) rfl)
  show runF 5 6 den_Inn_lay [.ptr 1, .int s.1, .int s.2.1, .str s.2.2.1, .int s.2.2.2] _ = _
  have s1 : dIfS (bNot (bTest (dCall 4 (viaP F_is_span) (aCons (dVar 1) (aCons (dVar 2) (aCons (dVar 3) (aCons (dVar 4) aNil))))))) (dRaise0 8) dSkip [some (.ptr 1), some (.int s.1), some (.int s.2.1), some (.str s.2.2.1), some (.int s.2.2.2), none] (sto r ws h fr past rows []) = .nx [some (.ptr 1), some (.int s.1), some (.int s.2.1), some (.str s.2.2.1), some (.int s.2.2.2), none] (sto r ws h fr past rows []) :=
    ifs_skip (bnot_ok (c := true) (test_ok (call_ok (cons_ok (var_ok rfl) (cons_ok (var_ok rfl) (cons_ok (var_ok rfl) (cons_ok (var_ok rfl) nil_is)))) rfl (span_is hs.m hs.a hs.ab hs.b hs.v _))))
  have s2 : dSet 5 (dAttr 15 "fresh" (dVar 0)) [some (.ptr 1), some (.int s.1), some (.int s.2.1), some (.str s.2.2.1), some (.int s.2.2.2), none] (sto r ws h fr past rows []) = .nx [some (.ptr 1), some (.int s.1), some (.int s.2.1), some (.str s.2.2.1), some (.int s.2.2.2), some (.int fr)] (sto r ws h fr past rows []) :=
    set_nx (attr_p (p := 1) (var_ok rfl) rfl rfl)
  have k : (hks h).length < 900 := by unfold hks; rw [List.length_map]; exact hl
  have mg : dicMerge (hks h) (hvs h) ([], []) = some (hks h, hvs h) := merge_ok (h := h) (acc := []) hn
  have st : dStar (dAttr 15 "held" (dVar 0)) (dVar 5) (dTup (aCons (dVar 1) (aCons (dVar 2) (aCons (dVar 3) (aCons (dVar 4) aNil))))) [some (.ptr 1), some (.int s.1), some (.int s.2.1), some (.str s.2.2.1), some (.int s.2.2.2), some (.int fr)] (sto r ws h fr past rows []) = .ok (heldD (h ++ [(fr, s)])) (sto r ws h fr past rows []) := by
    refine (star_is (v := spanD s) (attr_p (p := 1) (var_ok rfl) rfl rfl) mg k (var_ok rfl) (tup_ok (cons_ok (var_ok rfl) (cons_ok (var_ok rfl) (cons_ok (var_ok rfl) (cons_ok (var_ok rfl) nil_is)))) (show 4 ≤ sizeLine by decide)) (key_is (n := fr))).trans ?_
    rw [put_fresh hf]; rfl
  have s3 : dExpr (dMeth 15 "become" 3 (viaT F_Inn_become) (dVar 0) (aCons (dStar (dAttr 15 "held" (dVar 0)) (dVar 5) (dTup (aCons (dVar 1) (aCons (dVar 2) (aCons (dVar 3) (aCons (dVar 4) aNil)))))) (aCons (dTup (aCons (dC (.str "lay")) (aCons (dVar 1) (aCons (dVar 2) (aCons (dVar 3) (aCons (dVar 4) aNil)))))) aNil))) [some (.ptr 1), some (.int s.1), some (.int s.2.1), some (.str s.2.2.1), some (.int s.2.2.2), some (.int fr)] (sto r ws h fr past rows [])
      = .nx [some (.ptr 1), some (.int s.1), some (.int s.2.1), some (.str s.2.2.1), some (.int s.2.2.2), some (.int fr)] (sto r ws (h ++ [(fr, s)]) fr (past ++ [pastD h fr]) (rows ++ [layD s]) []) :=
    expr_nx ((meth_p (p := 1) (var_ok rfl) rfl rfl (cons_ok st (cons_ok (tup_ok (cons_ok rfl (cons_ok (var_ok rfl) (cons_ok (var_ok rfl) (cons_ok (var_ok rfl) (cons_ok (var_ok rfl) nil_is))))) (show 5 ≤ sizeLine by decide)) nil_is)) rfl).trans (become_ok F hp hr h (h ++ [(fr, s)]) fr (deed := layD s) rfl rfl))
  have s4 : dSetF 15 "fresh" (dVar 0) (dOp fAdd (dVar 5) (dC (.int 1))) [some (.ptr 1), some (.int s.1), some (.int s.2.1), some (.str s.2.2.1), some (.int s.2.2.2), some (.int fr)] (sto r ws (h ++ [(fr, s)]) fr (past ++ [pastD h fr]) (rows ++ [layD s]) []) = .nx [some (.ptr 1), some (.int s.1), some (.int s.2.1), some (.str s.2.2.1), some (.int s.2.2.2), some (.int fr)] (sto r ws (h ++ [(fr, s)]) (fr + 1) (past ++ [pastD h fr]) (rows ++ [layD s]) []) :=
    setF_p (p := 1) (c := 15) (f := "fresh") (ns := ["parts", "held", "fresh", "past", "rows_done"]) (vs := [.dic PARTS_ks ws, heldD (h ++ [(fr, s)]), .int fr, .ptr 2, .ptr 3]) (y := .int (fr + 1)) (S2 := sto r ws (h ++ [(fr, s)]) fr (past ++ [pastD h fr]) (rows ++ [layD s]) []) (op_ok (var_ok rfl) rfl rfl) (var_ok rfl) rfl (show 5 < 1000 by decide)
  exact run_rt ((seq_nx s1).trans ((seq_nx s2).trans ((seq_nx s3).trans ((seq_nx s4).trans (ret_rt (var_ok rfl))))))
end GG
set_option Elab.async false
set_option linter.all false
set_option maxRecDepth 100000
set_option maxHeartbeats 1000000
namespace GG
open PySem PyProof.Rows L2 Dl
theorem split_at : ∀ {h : Held} {n : Int}, n ∈ keys h → ∃ a b s, h = a ++ (n, s) :: b ∧ n ∉ keys a
  | [], n, hn => by cases hn
  | p :: h, n, hn => by
    by_cases c : p.1 = n
    · exact ⟨[], h, p.2, by rw [← c]; rfl, fun x => by cases x⟩
    · have hn : n ∈ p.1 :: keys h := hn
      rcases List.mem_cons.mp hn with e | hn
      · exact (c e.symm).elim
      · obtain ⟨a, b, s, e, z⟩ := split_at hn
        refine ⟨p :: a, b, s, by rw [e]; rfl, fun x => ?_⟩
        have x : n ∈ p.1 :: keys a := x
        rcases List.mem_cons.mp x with e | x
        · exact c e.symm
        · exact z x
section
variable {S : Sto} {ws : List D} {h : Held} {fr : Int}
theorem need_ok (sane : Sane S) (hi : S[1]? = some (some (innD ws h fr))) {n : Int} (h1 : 0 ≤ n) (h2 : n ≤ fr) (hn : n ∈ keys h) : viaT F_Inn_need [.ptr 1, .int n] S = .ok .non S := by
  refine viaT_same sane ?_ rfl
  show runF 2 2 den_Inn_need [.ptr 1, .int n] S = _
  have f1 : bNot (bTest (dCall 3 (viaP F_is_from) (aCons (dVar 1) (aCons (dC (.int 0)) (aCons (dAttr 15 "fresh" (dVar 0)) aNil))))) [some (.ptr 1), some (.int n)] S = .ok false S :=
    bnot_ok (c := true) (test_ok (call_ok (cons_ok (var_ok rfl) (cons_ok rfl (cons_ok (attr_p (p := 1) (var_ok rfl) hi rfl) nil_is))) rfl ((from_is rfl 0 fr S).trans (by rw [int_in h1 h2]))))
  obtain ⟨a, b, s, e, z⟩ := split_at hn
  have g : dicGet (hks h) (hvs h) (.inl n) = some (spanD s) := by rw [e]; exact get_at z
  have f2 : bTest (dOp (fInA true) (dVar 1) (dAttr 15 "held" (dVar 0))) [some (.ptr 1), some (.int n)] S = .ok false S :=
    test_ok (op_ok (var_ok rfl) (attr_p (p := 1) (var_ok rfl) hi rfl) ((in_dic (ks := hks h) (vs := hvs h) rfl key_is).trans (by rw [g]; rfl)))
  exact run_nx (ifs_skip ((bor_f f1).trans f2))
theorem need_bad (sane : Sane S) (hi : S[1]? = some (some (innD ws h fr))) {v : D} (hv : asked v = true) (hs : okShow v S = true) (hb : intIn v 0 fr = false ∨ ∃ n, v = .int n ∧ n ∉ keys h) : viaT F_Inn_need [.ptr 1, v] S = .exc 9 ["number"] [v] S := by
  refine viaT_stop sane ?_ (by show (below S.length v && true) = true; rw [below_up (Nat.zero_le _) v (asked_below hv)]; rfl)
  show runF 2 2 den_Inn_need [.ptr 1, v] S = _
  have f1 : bNot (bTest (dCall 3 (viaP F_is_from) (aCons (dVar 1) (aCons (dC (.int 0)) (aCons (dAttr 15 "fresh" (dVar 0)) aNil))))) [some (.ptr 1), some v] S = .ok (!(intIn v 0 fr)) S :=
    bnot_ok (test_ok (call_ok (cons_ok (var_ok rfl) (cons_ok rfl (cons_ok (attr_p (p := 1) (var_ok rfl) hi rfl) nil_is))) rfl (from_is hv 0 fr S)))
  have t : bOr (bNot (bTest (dCall 3 (viaP F_is_from) (aCons (dVar 1) (aCons (dC (.int 0)) (aCons (dAttr 15 "fresh" (dVar 0)) aNil)))))) (bTest (dOp (fInA true) (dVar 1) (dAttr 15 "held" (dVar 0)))) [some (.ptr 1), some v] S = .ok true S := by
    cases c : intIn v 0 fr with
    | false => rw [c] at f1; exact bor_t f1
    | true =>
      rw [c] at f1
      rcases hb with hb | ⟨n, e, hn⟩
      · rw [hb] at c; cases c
      · subst e
        exact (bor_f f1).trans (test_ok (op_ok (var_ok rfl) (attr_p (p := 1) (var_ok rfl) hi rfl) ((in_dic (ks := hks h) (vs := hvs h) rfl key_is).trans (by rw [get_not hn]; rfl))))
  exact run_exc ((ifs_t t).trans (raise1_ok (var_ok rfl) hs))
theorem drop_bad (sane : Sane S) (hi : S[1]? = some (some (innD ws h fr))) {v : D} (hv : asked v = true) (hs : okShow v S = true) (hb : intIn v 0 fr = false ∨ ∃ n, v = .int n ∧ n ∉ keys h) : viaT F_Inn_drop [.ptr 1, v] S = .exc 9 ["number"] [v] S := by
  refine viaT_stop sane ?_ (by show (below S.length v && true) = true; rw [below_up (Nat.zero_le _) v (asked_below hv)]; rfl)
  show runF 2 5 den_Inn_drop [.ptr 1, v] S = _
  exact run_exc (seq_exc (expr_exc ((meth_p (p := 1) (var_ok rfl) hi rfl (cons_ok (var_ok rfl) nil_is) rfl).trans (need_bad sane hi hv hs hb))))
theorem change_none (sane : Sane S) (hi : S[1]? = some (some (innD ws h fr))) {v w : D} (hv : asked v = true) (hs : okShow v S = true) (hb : intIn v 0 fr = false ∨ ∃ n, v = .int n ∧ n ∉ keys h) : viaT F_Inn_change [.ptr 1, v, w] S = .exc 9 ["number"] [v] S := by
  refine viaT_stop sane ?_ (by show (below S.length v && true) = true; rw [below_up (Nat.zero_le _) v (asked_below hv)]; rfl)
  show runF 3 8 den_Inn_change [.ptr 1, v, w] S = _
  exact run_exc (seq_exc (expr_exc ((meth_p (p := 1) (var_ok rfl) hi rfl (cons_ok (var_ok rfl) nil_is) rfl).trans (need_bad sane hi hv hs hb))))
theorem change_bad (sane : Sane S) (hi : S[1]? = some (some (innD ws h fr))) {n : Int} {s : Spn} {a b : Held} (e : h = a ++ (n, s) :: b) (ha : n ∉ keys a) (h1 : 0 ≤ n) (h2 : n ≤ fr) (hm : s.2.2.1 ∈ marks) {w : D} (hw : asked w = true) (hb : okVal s.2.2.1 w = false) : viaT F_Inn_change [.ptr 1, .int n, w] S = .exc 8 [] [] S := by
  refine viaT_stop sane ?_ rfl
  show runF 3 8 den_Inn_change [.ptr 1, .int n, w] S = _
  have hn : n ∈ keys h := by rw [e, keys_app]; exact List.mem_append_right _ List.mem_cons_self
  have s1 : dExpr (dMeth 15 "need" 2 (viaT F_Inn_need) (dVar 0) (aCons (dVar 1) aNil)) [some (.ptr 1), some (.int n), some w, none, none, none, none, none] S = .nx [some (.ptr 1), some (.int n), some w, none, none, none, none, none] S :=
    expr_nx ((meth_p (p := 1) (var_ok rfl) hi rfl (cons_ok (var_ok rfl) nil_is) rfl).trans (need_ok sane hi h1 h2 hn))
  have g : dicGet (hks h) (hvs h) (.inl n) = some (spanD s) := by rw [e]; exact get_at ha
  have s2 : dAsg (.tp [3, 4, 5, 6]) (dOp fIxA (dAttr 15 "held" (dVar 0)) (dVar 1)) [some (.ptr 1), some (.int n), some w, none, none, none, none, none] S = .nx [some (.ptr 1), some (.int n), some w, some (.int s.1), some (.int s.2.1), some (.str s.2.2.1), some (.int s.2.2.2), none] S :=
    asg_ok (op_ok (attr_p (p := 1) (var_ok rfl) hi rfl) (var_ok rfl) (ix_dic (ks := hks h) (vs := hvs h) rfl key_is g)) rfl
  have t : bNot (bTest (dCall 3 (viaP F_is_value) (aCons (dVar 5) (aCons (dVar 2) (aCons (dC (.int 1000000000)) aNil))))) [some (.ptr 1), some (.int n), some w, some (.int s.1), some (.int s.2.1), some (.str s.2.2.1), some (.int s.2.2.2), none] S = .ok true S :=
    bnot_ok (c := false) (test_ok (call_ok (cons_ok (var_ok rfl) (cons_ok (var_ok rfl) (cons_ok rfl nil_is))) rfl ((value_is hm hw S).trans (by rw [hb]))))
  exact run_exc ((seq_nx s1).trans ((seq_nx s2).trans (seq_exc ((ifs_t t).trans raise0_is))))
end
theorem drop_ok {r : D} {ws past rows : List D} (F : Fine r ws past rows) (hp : past.length < sizeLine) (hr : rows.length < sizeLine) {a b : Held} {n : Int} {s : Spn} {fr : Int} (hn : (keys (a ++ (n, s) :: b)).Nodup) (ha : n ∉ keys a) (hb : n ∉ keys b) (h1 : 0 ≤ n) (h2 : n ≤ fr) (hl : (a ++ (n, s) :: b).length < 900) :
    viaT F_Inn_drop [.ptr 1, .int n] (sto r ws (a ++ (n, s) :: b) fr past rows []) = .ok .non (sto r ws (a ++ b) fr (past ++ [pastD (a ++ (n, s) :: b) fr]) (rows ++ [.tup [.str "drop", .int n]]) []) := by
  have F' : Fine r ws (past ++ [pastD (a ++ (n, s) :: b) fr]) (rows ++ [.tup [.str "drop", .int n]]) := ⟨F.r, F.ws, belows_one F.past (below_past _ fr), belows_one F.rows rfl⟩
  have sane : Sane (sto r ws (a ++ (n, s) :: b) fr past rows []) := cells_sto F _ _ (Nat.le_refl 4) rfl
  refine viaT_ok (h := F_Inn_drop) (xs := [.ptr 1, .int n]) (z := .non) (S := sto r ws (a ++ (n, s) :: b) fr past rows []) (S' := sto r ws (a ++ b) fr (past ++ [pastD (a ++ (n, s) :: b) fr]) (rows ++ [D.tup [D.str "drop", D.int n]]) [none]) ?_ rfl (cells_sto F' (a ++ b) fr (Nat.le_refl 4) (rest := []) rfl)
  show runF 2 5 den_Inn_drop [.ptr 1, .int n] _ = _
  have hm : n ∈ keys (a ++ (n, s) :: b) := by rw [keys_app]; exact List.mem_append_right _ List.mem_cons_self
  have s1 : dExpr (dMeth 15 "need" 2 (viaT F_Inn_need) (dVar 0) (aCons (dVar 1) aNil)) [some (.ptr 1), some (.int n), none, none, none] (sto r ws (a ++ (n, s) :: b) fr past rows []) = .nx [some (.ptr 1), some (.int n), none, none, none] (sto r ws (a ++ (n, s) :: b) fr past rows []) :=
    expr_nx ((meth_p (p := 1) (var_ok rfl) rfl rfl (cons_ok (var_ok rfl) nil_is) rfl).trans (need_ok sane rfl h1 h2 hm))
  have lp := drop_loop (n := n) (x0 := some (.ptr 1)) (S := sto r ws (a ++ (n, s) :: b) fr past rows []) (a ++ (n, s) :: b) [] none none none hn (by rw [List.length_nil]; omega)
  rw [filter_at ha hb] at lp
  have dc : dDcC [3, 4] (.tp [3, 4]) (iIt (dAttr 15 "held" (dVar 0))) (bTest (dOp (fEqA true) (dVar 3) (dVar 1))) (dVar 3) (dVar 4) [some (.ptr 1), some (.int n), none, none, none] (sto r ws (a ++ (n, s) :: b) fr past rows []) = .ok (.ptr 4) (sto r ws (a ++ (n, s) :: b) fr past rows [some (heldD (a ++ b))]) := by
    have it : iIt (dAttr 15 "held" (dVar 0)) [some (.ptr 1), some (.int n), none, none, none] (sto r ws (a ++ (n, s) :: b) fr past rows []) = .ok (pairsD (hks (a ++ (n, s) :: b)) (hvs (a ++ (n, s) :: b))) (sto r ws (a ++ (n, s) :: b) fr past rows []) :=
      iit_ok (attr_p (p := 1) (var_ok rfl) rfl rfl)
    unfold dDcC
    rw [it]
    show ((dcLoop (.tp [3, 4]) (bTest (dOp (fEqA true) (dVar 3) (dVar 1))) (dVar 3) (dVar 4) [some (.ptr 1), some (.int n), none, none, none] (pairsD (hks (a ++ (n, s) :: b)) (hvs (a ++ (n, s) :: b))) (hks [], hvs []) (sto r ws (a ++ (n, s) :: b) fr past rows [])).bind _) = _
    rw [lp]; rfl
  have s2 : dSet 2 (dDcC [3, 4] (.tp [3, 4]) (iIt (dAttr 15 "held" (dVar 0))) (bTest (dOp (fEqA true) (dVar 3) (dVar 1))) (dVar 3) (dVar 4)) [some (.ptr 1), some (.int n), none, none, none] (sto r ws (a ++ (n, s) :: b) fr past rows []) = .nx [some (.ptr 1), some (.int n), some (.ptr 4), none, none] (sto r ws (a ++ (n, s) :: b) fr past rows [some (heldD (a ++ b))]) :=
    set_nx dc
  have s3 : dExpr (dMeth 15 "become" 3 (viaT F_Inn_become) (dVar 0) (aCons (dFz (dVar 2)) (aCons (dTup (aCons (dC (.str "drop")) (aCons (dVar 1) aNil))) aNil))) [some (.ptr 1), some (.int n), some (.ptr 4), none, none] (sto r ws (a ++ (n, s) :: b) fr past rows [some (heldD (a ++ b))]) = .nx [some (.ptr 1), some (.int n), some (.ptr 4), none, none] (sto r ws (a ++ b) fr (past ++ [pastD (a ++ (n, s) :: b) fr]) (rows ++ [.tup [.str "drop", .int n]]) [none]) :=
    expr_nx ((meth_p (p := 1) (S2 := sto r ws (a ++ (n, s) :: b) fr past rows [none]) (xs := [heldD (a ++ b), .tup [.str "drop", .int n]]) (var_ok rfl) rfl rfl (cons_ok (fz_ok (i := 4) (var_ok rfl) rfl) (cons_ok (tup_ok (cons_ok rfl (cons_ok (var_ok rfl) nil_is)) (show 2 ≤ sizeLine by decide)) nil_is)) rfl).trans (become_ok F hp hr _ _ fr rfl rfl))
  exact run_nx ((seq_nx s1).trans ((seq_nx s2).trans s3))
end GG
set_option Elab.async false
set_option linter.all false
set_option maxRecDepth 100000
set_option maxHeartbeats 1000000
namespace GG
open PySem PyProof.Rows L2 Dl
def newSp (s : Spn) (v : Int) : Spn := (s.1, s.2.1, s.2.2.1, v)
def changed (w : Str) (a b : Held) (n : Int) (s' : Spn) : Held := if w = "newest" then a ++ b ++ [(n, s')] else a ++ (n, s') :: b
theorem change_ok {r : D} {w : Str} {wr past rows : List D} (F : Fine r (.str w :: wr) past rows) (hp : past.length < sizeLine) (hr : rows.length < sizeLine) {a b : Held} {n : Int} {s : Spn} {fr v : Int} (ha : n ∉ keys a) (hb : n ∉ keys b) (h1 : 0 ≤ n) (h2 : n ≤ fr) (hl : (a ++ (n, s) :: b).length < 900) (hm : s.2.2.1 ∈ marks) (hv : okVal s.2.2.1 (.int v) = true) :
    viaT F_Inn_change [.ptr 1, .int n, .int v] (sto r (.str w :: wr) (a ++ (n, s) :: b) fr past rows []) = .ok .non (sto r (.str w :: wr) (changed w a b n (newSp s v)) fr (past ++ [pastD (a ++ (n, s) :: b) fr]) (rows ++ [.tup [.str "change", .int n, .int v]]) []) := by
  have F' : Fine r (.str w :: wr) (past ++ [pastD (a ++ (n, s) :: b) fr]) (rows ++ [.tup [.str "change", .int n, .int v]]) := ⟨F.r, F.ws, belows_one F.past (below_past _ fr), belows_one F.rows rfl⟩
  have sane : Sane (sto r (.str w :: wr) (a ++ (n, s) :: b) fr past rows []) := cells_sto F _ _ (Nat.le_refl 4) rfl
  refine viaT_ok (h := F_Inn_change) (xs := [.ptr 1, .int n, .int v]) (z := .non) (S := sto r (.str w :: wr) (a ++ (n, s) :: b) fr past rows []) (S' := sto r (.str w :: wr) (changed w a b n (newSp s v)) fr (past ++ [pastD (a ++ (n, s) :: b) fr]) (rows ++ [D.tup [D.str "change", D.int n, D.int v]]) [none]) ?_ rfl (cells_sto F' (changed w a b n (newSp s v)) fr (Nat.le_refl 4) (rest := []) rfl)
  show runF 3 8 den_Inn_change [.ptr 1, .int n, .int v] _ = _
  have hn : n ∈ keys (a ++ (n, s) :: b) := by rw [keys_app]; exact List.mem_append_right _ List.mem_cons_self
  have s1 : dExpr (dMeth 15 "need" 2 (viaT F_Inn_need) (dVar 0) (aCons (dVar 1) aNil)) [some (.ptr 1), some (.int n), some (.int v), none, none, none, none, none] (sto r (.str w :: wr) (a ++ (n, s) :: b) fr past rows []) = .nx [some (.ptr 1), some (.int n), some (.int v), none, none, none, none, none] (sto r (.str w :: wr) (a ++ (n, s) :: b) fr past rows []) :=
    expr_nx ((meth_p (p := 1) (var_ok rfl) rfl rfl (cons_ok (var_ok rfl) nil_is) rfl).trans (need_ok sane rfl h1 h2 hn))
  have g : dicGet (hks (a ++ (n, s) :: b)) (hvs (a ++ (n, s) :: b)) (.inl n) = some (spanD s) := get_at ha
  have s2 : dAsg (.tp [3, 4, 5, 6]) (dOp fIxA (dAttr 15 "held" (dVar 0)) (dVar 1)) [some (.ptr 1), some (.int n), some (.int v), none, none, none, none, none] (sto r (.str w :: wr) (a ++ (n, s) :: b) fr past rows []) = .nx [some (.ptr 1), some (.int n), some (.int v), some (.int s.1), some (.int s.2.1), some (.str s.2.2.1), some (.int s.2.2.2), none] (sto r (.str w :: wr) (a ++ (n, s) :: b) fr past rows []) :=
    asg_ok (op_ok (attr_p (p := 1) (var_ok rfl) rfl rfl) (var_ok rfl) (ix_dic (ks := hks (a ++ (n, s) :: b)) (vs := hvs (a ++ (n, s) :: b)) rfl key_is g)) rfl
  have s3 : dIfS (bNot (bTest (dCall 3 (viaP F_is_value) (aCons (dVar 5) (aCons (dVar 2) (aCons (dC (.int 1000000000)) aNil)))))) (dRaise0 8) dSkip [some (.ptr 1), some (.int n), some (.int v), some (.int s.1), some (.int s.2.1), some (.str s.2.2.1), some (.int s.2.2.2), none] (sto r (.str w :: wr) (a ++ (n, s) :: b) fr past rows []) = .nx [some (.ptr 1), some (.int n), some (.int v), some (.int s.1), some (.int s.2.1), some (.str s.2.2.1), some (.int s.2.2.2), none] (sto r (.str w :: wr) (a ++ (n, s) :: b) fr past rows []) :=
    ifs_skip (bnot_ok (c := true) (test_ok (call_ok (cons_ok (var_ok rfl) (cons_ok (var_ok rfl) (cons_ok rfl nil_is))) rfl ((value_is hm rfl _).trans (by rw [hv])))))
  have s4 : dSet 7 (dDictC (aCons (dAttr 15 "held" (dVar 0)) aNil)) [some (.ptr 1), some (.int n), some (.int v), some (.int s.1), some (.int s.2.1), some (.str s.2.2.1), some (.int s.2.2.2), none] (sto r (.str w :: wr) (a ++ (n, s) :: b) fr past rows []) = .nx [some (.ptr 1), some (.int n), some (.int v), some (.int s.1), some (.int s.2.1), some (.str s.2.2.1), some (.int s.2.2.2), some (.ptr 4)] (sto r (.str w :: wr) (a ++ (n, s) :: b) fr past rows [some (heldD (a ++ (n, s) :: b))]) :=
    set_nx (dictC_is (x := heldD (a ++ (n, s) :: b)) (cons_ok (attr_p (p := 1) (var_ok rfl) rfl rfl) nil_is) rfl)
  have tn : bTest (dOp (fEqA false) (dOp fIxA (dAttr 15 "parts" (dVar 0)) (dC (.str "changed"))) (dC (.str "newest"))) [some (.ptr 1), some (.int n), some (.int v), some (.int s.1), some (.int s.2.1), some (.str s.2.2.1), some (.int s.2.2.2), some (.ptr 4)] (sto r (.str w :: wr) (a ++ (n, s) :: b) fr past rows [some (heldD (a ++ (n, s) :: b))]) = .ok (decide (w = "newest")) (sto r (.str w :: wr) (a ++ (n, s) :: b) fr past rows [some (heldD (a ++ (n, s) :: b))]) :=
    test_ok (op_ok (op_ok (attr_p (p := 1) (var_ok rfl) rfl rfl) rfl (ix_dic (ks := PARTS_ks) (vs := .str w :: wr) (q := .inr "changed") rfl rfl (if_pos rfl))) rfl (by
      show Out.ok (D.bl (xor false (decide (w = "newest")))) _ = _
      rw [Bool.false_xor]))
  have s56 : ∃ g : Held, dIfS (bTest (dOp (fEqA false) (dOp fIxA (dAttr 15 "parts" (dVar 0)) (dC (.str "changed"))) (dC (.str "newest")))) (dExpr (dBM "dict" mPopD (dVar 7) (aCons (dVar 1) aNil))) dSkip [some (.ptr 1), some (.int n), some (.int v), some (.int s.1), some (.int s.2.1), some (.str s.2.2.1), some (.int s.2.2.2), some (.ptr 4)] (sto r (.str w :: wr) (a ++ (n, s) :: b) fr past rows [some (heldD (a ++ (n, s) :: b))])
      = .nx [some (.ptr 1), some (.int n), some (.int v), some (.int s.1), some (.int s.2.1), some (.str s.2.2.1), some (.int s.2.2.2), some (.ptr 4)] (sto r (.str w :: wr) (a ++ (n, s) :: b) fr past rows [some (heldD g)]) ∧ g.length < 1000 ∧ dicPut (hks g) (hvs g) (.inl n) (.int n) (spanD (newSp s v)) = (hks (changed w a b n (newSp s v)), hvs (changed w a b n (newSp s v))) := by
    by_cases c : w = "newest"
    · refine ⟨a ++ b, ?_, by simp at hl ⊢; omega, ?_⟩
      · rw [decide_eq_true c] at tn
        refine (ifs_t tn).trans (expr_nx (bm_ok (var_ok rfl) rfl (cons_ok (var_ok rfl) nil_is) (S3 := sto r (.str w :: wr) (a ++ (n, s) :: b) fr past rows [some (heldD (a ++ b))]) (z := spanD s) ?_))
        refine (pop_dic (c := 4) (ks := hks (a ++ (n, s) :: b)) (vs := hvs (a ++ (n, s) :: b)) rfl key_is g).trans ?_
        rw [drop_at ha hb]; rfl
      · have hab : n ∉ keys (a ++ b) := fun x => by
          rw [keys_app] at x
          rcases List.mem_append.mp x with x | x
          · exact ha x
          · exact hb x
        rw [put_fresh hab]
        unfold changed
        rw [if_pos c]
    · refine ⟨a ++ (n, s) :: b, ?_, by omega, ?_⟩
      · rw [decide_eq_false c] at tn
        exact ifs_skip tn
      · rw [put_at ha hb]
        unfold changed
        rw [if_neg c]
  obtain ⟨g', s5, gl, pt⟩ := s56
  have s6 : dSetA (dVar 7) (dVar 1) (dTup (aCons (dVar 3) (aCons (dVar 4) (aCons (dVar 5) (aCons (dVar 2) aNil))))) [some (.ptr 1), some (.int n), some (.int v), some (.int s.1), some (.int s.2.1), some (.str s.2.2.1), some (.int s.2.2.2), some (.ptr 4)] (sto r (.str w :: wr) (a ++ (n, s) :: b) fr past rows [some (heldD g')])
      = .nx [some (.ptr 1), some (.int n), some (.int v), some (.int s.1), some (.int s.2.1), some (.str s.2.2.1), some (.int s.2.2.2), some (.ptr 4)] (sto r (.str w :: wr) (a ++ (n, s) :: b) fr past rows [some (heldD (changed w a b n (newSp s v)))]) := by
    refine seta_is (x := .ptr 4) (i := .int n) (y := spanD (newSp s v)) (tup_ok (cons_ok (var_ok rfl) (cons_ok (var_ok rfl) (cons_ok (var_ok rfl) (cons_ok (var_ok rfl) nil_is)))) (show 4 ≤ sizeLine by decide)) (var_ok rfl) (var_ok rfl) ?_
    refine (put_dic (c := 4) (ks := hks g') (vs := hvs g') rfl key_is (by unfold hks; rw [List.length_map]; exact gl)).trans ?_
    rw [pt]; rfl
  have s7 : dExpr (dMeth 15 "become" 3 (viaT F_Inn_become) (dVar 0) (aCons (dFz (dVar 7)) (aCons (dTup (aCons (dC (.str "change")) (aCons (dVar 1) (aCons (dVar 2) aNil)))) aNil))) [some (.ptr 1), some (.int n), some (.int v), some (.int s.1), some (.int s.2.1), some (.str s.2.2.1), some (.int s.2.2.2), some (.ptr 4)] (sto r (.str w :: wr) (a ++ (n, s) :: b) fr past rows [some (heldD (changed w a b n (newSp s v)))])
      = .nx [some (.ptr 1), some (.int n), some (.int v), some (.int s.1), some (.int s.2.1), some (.str s.2.2.1), some (.int s.2.2.2), some (.ptr 4)] (sto r (.str w :: wr) (changed w a b n (newSp s v)) fr (past ++ [pastD (a ++ (n, s) :: b) fr]) (rows ++ [.tup [.str "change", .int n, .int v]]) [none]) :=
    expr_nx ((meth_p (p := 1) (S2 := sto r (.str w :: wr) (a ++ (n, s) :: b) fr past rows [none]) (xs := [heldD (changed w a b n (newSp s v)), .tup [.str "change", .int n, .int v]]) (var_ok rfl) rfl rfl (cons_ok (fz_ok (i := 4) (var_ok rfl) rfl) (cons_ok (tup_ok (cons_ok rfl (cons_ok (var_ok rfl) (cons_ok (var_ok rfl) nil_is))) (show 3 ≤ sizeLine by decide)) nil_is)) rfl).trans (become_ok F hp hr _ _ fr rfl rfl))
  exact run_nx ((seq_nx s1).trans ((seq_nx s2).trans ((seq_nx s3).trans ((seq_nx s4).trans ((seq_nx s5).trans ((seq_nx s6).trans s7))))))
end GG
set_option Elab.async false
set_option linter.all false
set_option maxRecDepth 100000
set_option maxHeartbeats 1000000
namespace GG
open PySem PyProof.Rows L2 Dl
theorem cut_to {xs : List D} {n : Nat} (h : n ≤ xs.length) : Dl.cutD xs none (some (n : Nat)) = xs.take n := by
  unfold Dl.cutD
  rw [HT.sIx_nat, HT.sIx_none, Nat.min_eq_left h]
  simp
theorem cut_from {xs : List D} {n : Nat} (h : n ≤ xs.length) : Dl.cutD xs (some (n : Nat)) none = xs.drop n := by
  unfold Dl.cutD
  rw [HT.sIx_nat, HT.sIx_none, Nat.min_eq_left h]
  rw [List.take_of_length_le (by simp)]

/-- of little depth -/
def small (d : D) : Bool := (pd d).canLay0 && decide ((pd d).depth ≤ 8)
theorem smalls : ∀ {xs : List D}, (∀ x ∈ xs, small x = true) → PyData.canLayAll0 (pds xs) = true ∧ PyData.depthAll (pds xs) ≤ 8
  | [], _ => ⟨rfl, Nat.zero_le _⟩
  | x :: xs, h => by
    obtain ⟨a, b⟩ := smalls (xs := xs) fun y hy => h y (List.mem_cons_of_mem _ hy)
    obtain ⟨c, d⟩ := Bool.and_eq_true_iff.mp (h x List.mem_cons_self)
    have d := of_decide_eq_true d
    refine ⟨?_, ?_⟩
    · show ((pd x).canLay0 && PyData.canLayAll0 (pds xs)) = true
      rw [c, a]; rfl
    · show max (pd x).depth (PyData.depthAll (pds xs)) ≤ 8
      omega
theorem shaped_of {xs : List D} (h : ∀ x ∈ xs, small x = true) : SeqAt.shaped (.list (pds xs)) = true := by
  obtain ⟨a, b⟩ := smalls h
  show (PyData.canLayAll0 (pds xs) && decide (PyData.depthAll (pds xs) + 1 ≤ 64)) = true
  rw [a, decide_eq_true (by omega)]; rfl
theorem small_item {p : Int × Spn} (h : p.2.2.2.1 ∈ marks) : small (itemD p) = true := by
  obtain ⟨k, a, b, m, v⟩ := p
  rcases marks_cases h with e | e | e | e | e <;> (have e : m = _ := e; subst e; kernel_rfl)
theorem small_lay {s : Spn} (h : s.2.2.1 ∈ marks) : small (layD s) = true := by
  obtain ⟨a, b, m, v⟩ := s
  rcases marks_cases h with e | e | e | e | e <;> (have e : m = _ := e; subst e; kernel_rfl)
def heldL (h : Held) : D := .lst (h.map itemD)
theorem nil_test {h : Held} (hs : ∀ p ∈ h, p.2.2.2.1 ∈ marks) (S : Sto) : fEqA false (heldL h) (.lst []) S = .ok (.bl (decide (h = []))) S := by
  have sh : SeqAt.shaped (.list (pds (h.map itemD))) = true := shaped_of fun x hx => by
    obtain ⟨p, hp, rfl⟩ := List.mem_map.mp hx
    exact small_item (hs p hp)
  show (if (SeqAt.shaped (.list (pds (h.map itemD))) && SeqAt.shaped (.list [])) = true then Out.ok (D.bl (xor false (PyData.eqv (.list (pds (h.map itemD))) (.list [])))) S else .bad) = _
  rw [sh]
  cases h with
  | nil => rfl
  | cons p h => rfl
theorem below_items {n : Nat} : ∀ h : Held, belows n (h.map itemD) = true
  | [] => rfl
  | p :: h => below_items h
theorem ixl {xs : List D} {i : Int} {d : D} (h : atI xs i = some d) (S : Sto) : fIxA (.lst xs) (.int i) S = .ok d S := by
  show (match atI xs i with | some d => Out.ok d S | none => .bad) = _
  rw [h]
theorem draw_ok {r : D} (h : Row r) : ∃ s r', (∀ rest, viaR F__law_inn_span [.ptr 0, .int 9] (some r :: rest) = .ok (spanD s) (some r' :: rest)) ∧ Row r' ∧ SpanOk s := by
  obtain ⟨v1, r1, e1, h1, a1, b1⟩ := pickR h (many := 5) (by decide) (by decide)
  obtain ⟨a, r2, e2, h2, a2, b2⟩ := pickR h1 (many := 9) (by decide) (by decide)
  obtain ⟨b, r3, e3, h3, a3, b3⟩ := pickR h2 (many := 9) (by decide) (by decide)
  obtain ⟨m, hm, em⟩ := word_at (ws := marks) a1 (by show v1 < 5; exact b1)
  have s1 : dSet 2 (dOp fIxA (dCall 0 (viaP F__law_marks) aNil) (dCall 2 (viaR F__law_pick) (aCons (dVar 0) (aCons (dC (.int 5)) aNil)))) [some (.ptr 0), some (.int 9), none, none, none, none] [some r] = .nx [some (.ptr 0), some (.int 9), some (.str m), none, none, none] [some r1] :=
    set_nx (op_ok (call_ok (z := .lst (marks.map .str)) nil_is rfl rfl) (call_ok (cons_ok (var_ok rfl) (cons_ok rfl nil_is)) rfl (e1 [])) (ixl em _))
  have s2 : dSet 3 (dCall 2 (viaR F__law_pick) (aCons (dVar 0) (aCons (dVar 1) aNil))) [some (.ptr 0), some (.int 9), some (.str m), none, none, none] [some r1] = .nx [some (.ptr 0), some (.int 9), some (.str m), some (.int a), none, none] [some r2] :=
    set_nx (call_ok (cons_ok (var_ok rfl) (cons_ok (var_ok rfl) nil_is)) rfl (e2 []))
  have s3 : dSet 4 (dOp fAdd (dVar 3) (dCall 2 (viaR F__law_pick) (aCons (dVar 0) (aCons (dVar 1) aNil)))) [some (.ptr 0), some (.int 9), some (.str m), some (.int a), none, none] [some r2] = .nx [some (.ptr 0), some (.int 9), some (.str m), some (.int a), some (.int (a + b)), none] [some r3] :=
    set_nx (op_ok (var_ok rfl) (call_ok (cons_ok (var_ok rfl) (cons_ok (var_ok rfl) nil_is)) rfl (e3 [])) rfl)
  have t : bTest (dOp (fInA false) (dVar 2) (dLst (aCons (dC (.str "least")) (aCons (dC (.str "most")) aNil)))) [some (.ptr 0), some (.int 9), some (.str m), some (.int a), some (.int (a + b)), none] [some r3] = .ok (isLen m) [some r3] := by
    rcases marks_cases hm with e | e | e | e | e <;> subst e <;> kernel_rfl
  have s4 : ∃ v r4, dSet 5 (dIf (bTest (dOp (fInA false) (dVar 2) (dLst (aCons (dC (.str "least")) (aCons (dC (.str "most")) aNil))))) (dOp fAdd (dC (.int 1)) (dCall 2 (viaR F__law_pick) (aCons (dVar 0) (aCons (dVar 1) aNil)))) (dCall 2 (viaR F__law_pick) (aCons (dVar 0) (aCons (dC (.int 2)) aNil)))) [some (.ptr 0), some (.int 9), some (.str m), some (.int a), some (.int (a + b)), none] [some r3]
      = .nx [some (.ptr 0), some (.int 9), some (.str m), some (.int a), some (.int (a + b)), some (.int v)] [some r4] ∧ Row r4 ∧ okVal m (.int v) = true := by
    cases c : isLen m with
    | true =>
      rw [c] at t
      obtain ⟨v, r4, e4, h4, a4, b4⟩ := pickR h3 (many := 9) (by decide) (by decide)
      exact ⟨1 + v, r4, set_nx ((if_tt t).trans (op_ok rfl (call_ok (cons_ok (var_ok rfl) (cons_ok (var_ok rfl) nil_is)) rfl (e4 [])) rfl)), h4, by rw [val_len c]; exact int_in (by omega) (by omega)⟩
    | false =>
      rw [c] at t
      obtain ⟨v, r4, e4, h4, a4, b4⟩ := pickR h3 (many := 2) (by decide) (by decide)
      exact ⟨v, r4, set_nx ((if_ff t).trans (call_ok (cons_ok (var_ok rfl) (cons_ok rfl nil_is)) rfl (e4 []))), h4, by rw [val_not c]; exact int_in (by omega) (by omega)⟩
  obtain ⟨v, r4, q4, h4, hv⟩ := s4
  refine ⟨(a, a + b, m, v), r4, fun rest => viaR_row (S' := []) h h4 rfl rfl ?_, h4, ⟨hm, a2, by show a ≤ a + b; omega, by show a + b ≤ 1000000000; omega, hv⟩⟩
  show runF 2 6 den__law_inn_span [.ptr 0, .int 9] [some r] = _
  exact run_rt ((seq_nx s1).trans ((seq_nx s2).trans ((seq_nx s3).trans ((seq_nx q4).trans (ret_rt (tup_ok (cons_ok (var_ok rfl) (cons_ok (var_ok rfl) (cons_ok (var_ok rfl) (cons_ok (var_ok rfl) nil_is)))) (show 4 ≤ sizeLine by decide)))))))
/-- what the deeds keep -/
structure Inv (n : Nat) (r : D) (w : Str) (wr : List D) (h : Held) (fr : Int) (past rows : List D) : Prop where
  F : Fine r (.str w :: wr) past rows
  nd : (keys h).Nodup
  ks : ∀ k ∈ keys h, 0 ≤ k ∧ k < fr
  sp : ∀ p ∈ h, SpanOk p.2
  hl : h.length ≤ n
  pl : past.length ≤ n
  rl : rows.length ≤ n
  f0 : 0 ≤ fr
  fn : fr ≤ (n : Int)
  sm : ∀ x ∈ rows, small x = true
end GG
set_option Elab.async false
set_option linter.all false
set_option maxRecDepth 100000
set_option maxHeartbeats 1000000
namespace GG
open PySem PyProof.Rows L2 Dl
abbrev led0 : DS := (dSet 6 (dCall 2 (viaR F__law_pick) (aCons (dVar 0) (aCons (dC (.int 6)) aNil))))
abbrev ledT1 : DB := (bOr (bTest (dOp fLt (dVar 6) (dC (.int 3)))) (bTest (dOp (fEqA false) (dVar 3) (dLst aNil))))
abbrev ledT1_1 : DB := (bTest (dOp (fEqA true) (dMeth 15 "lay" 5 (viaT F_Inn_lay) (dVar 2) (aCons (dOp fIxA (dVar 7) (dC (.int 0))) (aCons (dOp fIxA (dVar 7) (dC (.int 1))) (aCons (dOp fIxA (dVar 7) (dC (.int 2))) (aCons (dOp fIxA (dVar 7) (dC (.int 3))) aNil))))) (dVar 4)))
abbrev ledE1_2 : DE := (dLst (aCons (dOp fAdd (dVar 3) (dLst (aCons (dTup (aCons (dVar 4) (aCons (dVar 7) aNil))) aNil))) (aCons (dOp fAdd (dVar 4) (dC (.int 1))) (aCons (dOp fAdd (dTup (aCons (dC (.str "lay")) aNil)) (dVar 7)) aNil))))
abbrev led2 : DS := (dSet 8 (dCall 2 (viaR F__law_pick) (aCons (dVar 0) (aCons (dB bLen (aCons (dVar 3) aNil)) aNil))))
abbrev led3 : DS := (dAsg (.tp [9, 7]) (dOp fIxA (dVar 3) (dVar 8)))
abbrev ledT4 : DB := (bTest (dOp (fEqA false) (dVar 6) (dC (.int 3))))
abbrev ledT4_0 : DB := (bTest (dOp (fIsN true) (dMeth 15 "drop" 2 (viaT F_Inn_drop) (dVar 2) (aCons (dVar 9) aNil)) (dC .non)))
abbrev ledE4_1 : DE := (dLst (aCons (dOp fAdd (dSl (dVar 3) oNone (oSome (dVar 8))) (dSl (dVar 3) (oSome (dOp fAdd (dVar 8) (dC (.int 1)))) oNone)) (aCons (dVar 4) (aCons (dTup (aCons (dC (.str "drop")) (aCons (dVar 9) aNil))) aNil))))
abbrev led5 : DS := (dSet 10 (dIf (bTest (dOp (fInA false) (dOp fIxA (dVar 7) (dC (.int 2))) (dLst (aCons (dC (.str "least")) (aCons (dC (.str "most")) aNil))))) (dOp fAdd (dC (.int 1)) (dCall 2 (viaR F__law_pick) (aCons (dVar 0) (aCons (dVar 5) aNil)))) (dCall 2 (viaR F__law_pick) (aCons (dVar 0) (aCons (dC (.int 2)) aNil)))))
abbrev led6 : DS := (dPar 11 12 (aCons (dTup (aCons (dVar 9) (aCons (dOp fAdd (dSl (dVar 7) oNone (oSome (dC (.int 3)))) (dTup (aCons (dVar 10) aNil))) aNil))) (aCons (dTup (aCons (dC (.str "change")) (aCons (dVar 9) (aCons (dVar 10) aNil)))) aNil)))
abbrev ledT7 : DB := (bTest (dOp (fIsN true) (dMeth 15 "change" 3 (viaT F_Inn_change) (dVar 2) (aCons (dVar 9) (aCons (dVar 10) aNil))) (dC .non)))
abbrev ledE7 : DE := (dC .non)
abbrev ledT8 : DB := (bTest (dOp (fEqA false) (dOp fIxA (dVar 1) (dC (.str "changed"))) (dC (.str "newest"))))
abbrev ledE8 : DE := (dLst (aCons (dOp fAdd (dOp fAdd (dSl (dVar 3) oNone (oSome (dVar 8))) (dSl (dVar 3) (oSome (dOp fAdd (dVar 8) (dC (.int 1)))) oNone)) (dLst (aCons (dVar 11) aNil))) (aCons (dVar 4) (aCons (dVar 12) aNil))))
abbrev ledE9 : DE := (dLst (aCons (dOp fAdd (dOp fAdd (dSl (dVar 3) oNone (oSome (dVar 8))) (dLst (aCons (dVar 11) aNil))) (dSl (dVar 3) (oSome (dOp fAdd (dVar 8) (dC (.int 1)))) oNone)) (aCons (dVar 4) (aCons (dVar 12) aNil))))
abbrev lt (ru : D) (h : Held) (fr : Int) (a b c d e f g : Option D) : Lc := [some (.ptr 0), some ru, some (.ptr 1), some (heldL h), some (.int fr), some (.int 9), a, b, c, d, e, f, g]
theorem Inv.mem {n : Nat} {r : D} {w : Str} {wr : List D} {h : Held} {fr : Int} {past rows : List D} (I : Inv n r w wr h fr past rows) : ∀ p ∈ h, p.2.2.2.1 ∈ marks := fun p hp => (I.sp p hp).m
theorem Fine.row {r r' : D} {ws past rows : List D} (F : Fine r ws past rows) (h : Row r') : Fine r' ws past rows := ⟨h, F.ws, F.past, F.rows⟩
theorem big (n : Nat) (h : n < 100) : n < sizeLine := Nat.lt_of_lt_of_le h (show 100 ≤ sizeLine by decide)
theorem fresh_not {h : Held} {fr : Int} (ks : ∀ k ∈ keys h, 0 ≤ k ∧ k < fr) : fr ∉ keys h := fun x => by
  have := (ks fr x).2
  omega
theorem cat_ok {a b : List D} (h : a.length + b.length ≤ sizeLine) (S : Sto) : fAdd (.lst a) (.lst b) S = .ok (.lst (a ++ b)) S := by
  show (if a.length + b.length ≤ sizeLine then Out.ok (D.lst (a ++ b)) S else .bad) = _
  rw [if_pos h]
theorem one_item (h : Held) (p : Int × Spn) : heldL (h ++ [p]) = .lst (h.map itemD ++ [itemD p]) := by
  unfold heldL
  rw [List.map_append]; rfl
theorem lay_led {n : Nat} {r r1 : D} {w : Str} {wr : List D} {h : Held} {fr : Int} {past rows : List D} {v : Int} (I : Inv n r w wr h fr past rows) (hn : n < 90) (hr1 : Row r1) (hc : v < 3 ∨ h = []) (e0 : ∀ rest, viaR F__law_pick [.ptr 0, .int 6] (some r :: rest) = .ok (.int v) (some r1 :: rest)) :
    ∃ r' h' fr' past' rows' deed, F__law_inn_led [.ptr 0, .dic PARTS_ks (.str w :: wr), .ptr 1, heldL h, .int fr, .int 9] (sto r (.str w :: wr) h fr past rows []) = .ok (.lst [heldL h', .int fr', deed]) (sto r' (.str w :: wr) h' fr' past' rows' []) ∧ Inv (n + 1) r' w wr h' fr' past' rows' ∧ below 4 deed = true := by
  obtain ⟨s, r2, e2, hr2, hs⟩ := draw_ok hr1
  have s0 : led0 (lt (.dic PARTS_ks (.str w :: wr)) h fr none none none none none none none) (sto r (.str w :: wr) h fr past rows []) = .nx (lt (.dic PARTS_ks (.str w :: wr)) h fr (some (.int v)) none none none none none none) (sto r1 (.str w :: wr) h fr past rows []) :=
    set_nx (call_ok (cons_ok (var_ok rfl) (cons_ok rfl nil_is)) rfl (e0 _))
  have t1 : ledT1 (lt (.dic PARTS_ks (.str w :: wr)) h fr (some (.int v)) none none none none none none) (sto r1 (.str w :: wr) h fr past rows []) = .ok true (sto r1 (.str w :: wr) h fr past rows []) := by
    have q1 : bTest (dOp fLt (dVar 6) (dC (.int 3))) (lt (.dic PARTS_ks (.str w :: wr)) h fr (some (.int v)) none none none none none none) (sto r1 (.str w :: wr) h fr past rows []) = .ok (decide (v < 3)) (sto r1 (.str w :: wr) h fr past rows []) :=
      test_ok (op_ok (var_ok rfl) rfl rfl)
    have q2 : bTest (dOp (fEqA false) (dVar 3) (dLst aNil)) (lt (.dic PARTS_ks (.str w :: wr)) h fr (some (.int v)) none none none none none none) (sto r1 (.str w :: wr) h fr past rows []) = .ok (decide (h = [])) (sto r1 (.str w :: wr) h fr past rows []) :=
      test_ok (op_ok (var_ok rfl) rfl (nil_test I.mem _))
    by_cases c : v < 3
    · rw [decide_eq_true c] at q1
      exact bor_t q1
    · rw [decide_eq_false c] at q1
      rw [decide_eq_true (hc.resolve_left c)] at q2
      exact (bor_f q1).trans q2
  have s1 : dSet 7 (dCall 2 (viaR F__law_inn_span) (aCons (dVar 0) (aCons (dVar 5) aNil))) (lt (.dic PARTS_ks (.str w :: wr)) h fr (some (.int v)) none none none none none none) (sto r1 (.str w :: wr) h fr past rows []) = .nx (lt (.dic PARTS_ks (.str w :: wr)) h fr (some (.int v)) (some (spanD s)) none none none none none) (sto r2 (.str w :: wr) h fr past rows []) :=
    set_nx (call_ok (cons_ok (var_ok rfl) (cons_ok (var_ok rfl) nil_is)) rfl (e2 _))
  have F2 := I.F.row hr2
  have hl := I.hl
  have pl := I.pl
  have rl := I.rl
  have lk := lay_ok F2 (big _ (by omega)) (big _ (by omega)) I.nd (fresh_not I.ks) (by omega) hs
  have t2 : ledT1_1 (lt (.dic PARTS_ks (.str w :: wr)) h fr (some (.int v)) (some (spanD s)) none none none none none) (sto r2 (.str w :: wr) h fr past rows []) = .ok false (sto r2 (.str w :: wr) (h ++ [(fr, s)]) (fr + 1) (past ++ [pastD h fr]) (rows ++ [layD s]) []) := by
    refine test_ok (op_ok (x := .int fr) (y := .int fr) ((meth_p (p := 1) (xs := [.int s.1, .int s.2.1, .str s.2.2.1, .int s.2.2.2]) (var_ok rfl) rfl rfl (cons_ok (op_ok (var_ok rfl) rfl rfl) (cons_ok (op_ok (var_ok rfl) rfl rfl) (cons_ok (op_ok (var_ok rfl) rfl rfl) (cons_ok (op_ok (var_ok rfl) rfl rfl) nil_is)))) rfl).trans lk) (var_ok rfl) ?_)
    rw [Dl.eq_int, decide_eq_true rfl]; rfl
  have e3 : ledE1_2 (lt (.dic PARTS_ks (.str w :: wr)) h fr (some (.int v)) (some (spanD s)) none none none none none) (sto r2 (.str w :: wr) (h ++ [(fr, s)]) (fr + 1) (past ++ [pastD h fr]) (rows ++ [layD s]) []) = .ok (.lst [heldL (h ++ [(fr, s)]), .int (fr + 1), layD s]) (sto r2 (.str w :: wr) (h ++ [(fr, s)]) (fr + 1) (past ++ [pastD h fr]) (rows ++ [layD s]) []) := by
    refine lst_ok (cons_ok (op_ok (var_ok rfl) (lst_ok (cons_ok (tup_ok (cons_ok (var_ok rfl) (cons_ok (var_ok rfl) nil_is)) (show 2 ≤ sizeLine by decide)) nil_is) (show 1 ≤ sizeLine by decide)) ?_) (cons_ok (op_ok (var_ok rfl) rfl rfl) (cons_ok (op_ok (tup_ok (cons_ok rfl nil_is) (show 1 ≤ sizeLine by decide)) (var_ok rfl) rfl) nil_is))) (show 3 ≤ sizeLine by decide)
    rw [one_item]
    exact cat_ok (Nat.le_of_lt (big _ (by rw [List.length_map]; show h.length + 1 < 100; omega))) _
  have kk : ∀ k ∈ keys (h ++ [(fr, s)]), k ∈ keys h ∨ k = fr := fun k hk => by
    rw [keys_app] at hk
    rcases List.mem_append.mp hk with x | x
    · exact .inl x
    · exact .inr (List.mem_singleton.mp x)
  have f0 := I.f0
  have fn := I.fn
  refine ⟨r2, h ++ [(fr, s)], fr + 1, past ++ [pastD h fr], rows ++ [layD s], layD s, ?_, ⟨⟨hr2, I.F.ws, belows_one I.F.past (below_past h fr), belows_one I.F.rows rfl⟩, ?_, ?_, ?_, ?_, ?_, ?_, by omega, by omega, ?_⟩, rfl⟩
  · show runF 6 13 den__law_inn_led [.ptr 0, .dic PARTS_ks (.str w :: wr), .ptr 1, heldL h, .int fr, .int 9] _ = _
    exact run_rt ((seq_nx s0).trans (seq_rt ((ifs_t t1).trans ((seq_nx s1).trans ((seq_nx (ifs_skip t2)).trans (ret_rt e3))))))
  · rw [keys_app]
    refine List.nodup_append.mpr ⟨I.nd, List.nodup_cons.mpr ⟨List.not_mem_nil, List.nodup_nil⟩, fun x hx y hy e => ?_⟩
    have hy : y = fr := List.mem_singleton.mp hy
    subst e; subst hy
    exact fresh_not I.ks hx
  · intro k hk
    rcases kk k hk with x | x
    · have := I.ks k x
      omega
    · omega
  · intro p hp
    rcases List.mem_append.mp hp with x | x
    · exact I.sp p x
    · rw [List.mem_singleton.mp x]; exact hs
  · rw [List.length_append, List.length_singleton]; omega
  · rw [List.length_append, List.length_singleton]; omega
  · rw [List.length_append, List.length_singleton]; omega
  · intro x hx
    rcases List.mem_append.mp hx with y | y
    · exact I.sm x y
    · rw [List.mem_singleton.mp y]; exact small_lay hs.m
end GG
set_option Elab.async false
set_option linter.all false
set_option maxRecDepth 100000
set_option maxHeartbeats 1000000
namespace GG
open PySem PyProof.Rows L2 Dl
theorem part_at {h : Held} {v : Int} (h0 : 0 ≤ v) (h1 : v < h.length) : ∃ a p b, h = a ++ p :: b ∧ v = (a.length : Nat) := by
  obtain ⟨n, rfl⟩ := Int.eq_ofNat_of_zero_le h0
  have hn : n < h.length := by simpa using h1
  exact ⟨h.take n, h[n], h.drop (n + 1), by rw [List.getElem_cons_drop, List.take_append_drop], by rw [List.length_take, Nat.min_eq_left (by omega)]⟩
theorem at_item (a : Held) (p : Int × Spn) (b : Held) : atI ((a ++ p :: b).map itemD) ((a.length : Nat) : Int) = some (itemD p) := by
  rw [atI_n, List.getElem?_map, List.getElem?_append_right (Nat.le_refl _), Nat.sub_self]; rfl
theorem cut_l (a : Held) (p : Int × Spn) (b : Held) : Dl.cutD ((a ++ p :: b).map itemD) none (some ((a.length : Nat) : Int)) = a.map itemD := by
  rw [cut_to (by rw [List.length_map, List.length_append]; omega), ← List.map_take, List.take_left]
theorem cut_r (a : Held) (p : Int × Spn) (b : Held) : Dl.cutD ((a ++ p :: b).map itemD) (some (((a.length : Nat) : Int) + 1)) none = b.map itemD := by
  have e : (((a.length : Nat) : Int) + 1) = ((a.length + 1 : Nat) : Int) := rfl
  rw [e, cut_from (by rw [List.length_map, List.length_append, List.length_cons]; omega), ← List.map_drop]
  have q : (a ++ p :: b).drop (a.length + 1) = b := by
    rw [show a ++ p :: b = (a ++ [p]) ++ b by rw [List.append_assoc]; rfl, show a.length + 1 = (a ++ [p]).length by rw [List.length_append]; rfl, List.drop_left]
  rw [q]
section
variable {n : Nat} {r r1 r2 : D} {w : Str} {wr : List D} {a b : Held} {k : Int} {s : Spn} {fr : Int} {past rows : List D} {v : Int} {x7 x10 x11 x12 : Option D} {S : Sto}
theorem halves (hl : (a ++ (k, s) :: b).length < 90) (x6 x9 : Option D) : dOp fAdd (dSl (dVar 3) oNone (oSome (dVar 8))) (dSl (dVar 3) (oSome (dOp fAdd (dVar 8) (dC (.int 1)))) oNone) (lt (.dic PARTS_ks (.str w :: wr)) (a ++ (k, s) :: b) fr x6 x7 (some (.int (a.length : Nat))) x9 x10 x11 x12) S = .ok (heldL (a ++ b)) S := by
  refine op_ok (sl_ok (var_ok rfl) rfl (on_ok (var_ok rfl))) (sl_ok (var_ok rfl) (on_ok (op_ok (var_ok rfl) rfl rfl)) rfl) ?_
  rw [cut_l, cut_r]
  unfold heldL
  rw [List.map_append]
  refine cat_ok (Nat.le_of_lt (big _ ?_)) _
  rw [List.length_map, List.length_map]
  simp at hl
  omega
theorem left_half (x6 x9 : Option D) : dSl (dVar 3) oNone (oSome (dVar 8)) (lt (.dic PARTS_ks (.str w :: wr)) (a ++ (k, s) :: b) fr x6 x7 (some (.int (a.length : Nat))) x9 x10 x11 x12) S = .ok (heldL a) S := by
  refine (sl_ok (xs := (a ++ (k, s) :: b).map itemD) (var_ok rfl) rfl (on_ok (var_ok rfl))).trans ?_
  rw [cut_l]; rfl
theorem right_half (x6 x9 : Option D) : dSl (dVar 3) (oSome (dOp fAdd (dVar 8) (dC (.int 1)))) oNone (lt (.dic PARTS_ks (.str w :: wr)) (a ++ (k, s) :: b) fr x6 x7 (some (.int (a.length : Nat))) x9 x10 x11 x12) S = .ok (heldL b) S := by
  refine (sl_ok (xs := (a ++ (k, s) :: b).map itemD) (var_ok rfl) (on_ok (op_ok (var_ok rfl) rfl rfl)) rfl).trans ?_
  rw [cut_r]; rfl
theorem keys_sub {a b : Held} {p : Int × Spn} : ∀ k, k ∈ keys (a ++ b) → k ∈ keys (a ++ p :: b) := fun k hk => by
  rw [keys_app] at hk ⊢
  rcases List.mem_append.mp hk with x | x
  · exact List.mem_append_left _ x
  · exact List.mem_append_right _ (List.mem_cons_of_mem _ x)
theorem nodup_sub {a b : Held} {p : Int × Spn} (h : (keys (a ++ p :: b)).Nodup) : (keys (a ++ b)).Nodup ∧ p.1 ∉ keys a ∧ p.1 ∉ keys b := by
  rw [keys_app] at h ⊢
  obtain ⟨h1, h2, h3⟩ := List.nodup_append.mp h
  have h2 : (p.1 :: keys b).Nodup := h2
  obtain ⟨h4, h5⟩ := List.nodup_cons.mp h2
  exact ⟨List.nodup_append.mpr ⟨h1, h5, fun x hx y hy => h3 x hx y (List.mem_cons_of_mem _ hy)⟩, fun x => h3 _ x _ List.mem_cons_self rfl, h4⟩
theorem drop_led (I : Inv n r w wr (a ++ (k, s) :: b) fr past rows) (hn : n < 90) (hr1 : Row r1) (hr2 : Row r2) (hc : v = 3) (e0 : ∀ rest, viaR F__law_pick [.ptr 0, .int 6] (some r :: rest) = .ok (.int v) (some r1 :: rest)) (e1 : ∀ rest, viaR F__law_pick [.ptr 0, .int ((a ++ (k, s) :: b).length : Nat)] (some r1 :: rest) = .ok (.int (a.length : Nat)) (some r2 :: rest)) :
    ∃ r' h' fr' past' rows' deed, F__law_inn_led [.ptr 0, .dic PARTS_ks (.str w :: wr), .ptr 1, heldL (a ++ (k, s) :: b), .int fr, .int 9] (sto r (.str w :: wr) (a ++ (k, s) :: b) fr past rows []) = .ok (.lst [heldL h', .int fr', deed]) (sto r' (.str w :: wr) h' fr' past' rows' []) ∧ Inv (n + 1) r' w wr h' fr' past' rows' ∧ below 4 deed = true := by
  subst hc
  have hl := I.hl
  have pl := I.pl
  have rl := I.rl
  have f0 := I.f0
  have fn := I.fn
  obtain ⟨nd, na, nb⟩ := nodup_sub I.nd
  have hk : k ∈ keys (a ++ (k, s) :: b) := by rw [keys_app]; exact List.mem_append_right _ List.mem_cons_self
  have kf := I.ks k hk
  have s0 : led0 (lt (.dic PARTS_ks (.str w :: wr)) (a ++ (k, s) :: b) fr none none none none none none none) (sto r (.str w :: wr) (a ++ (k, s) :: b) fr past rows []) = .nx (lt (.dic PARTS_ks (.str w :: wr)) (a ++ (k, s) :: b) fr (some (.int 3)) none none none none none none) (sto r1 (.str w :: wr) (a ++ (k, s) :: b) fr past rows []) :=
    set_nx (call_ok (cons_ok (var_ok rfl) (cons_ok rfl nil_is)) rfl (e0 _))
  have t1 : ledT1 (lt (.dic PARTS_ks (.str w :: wr)) (a ++ (k, s) :: b) fr (some (.int 3)) none none none none none none) (sto r1 (.str w :: wr) (a ++ (k, s) :: b) fr past rows []) = .ok false (sto r1 (.str w :: wr) (a ++ (k, s) :: b) fr past rows []) := by
    have q1 : bTest (dOp fLt (dVar 6) (dC (.int 3))) (lt (.dic PARTS_ks (.str w :: wr)) (a ++ (k, s) :: b) fr (some (.int 3)) none none none none none none) (sto r1 (.str w :: wr) (a ++ (k, s) :: b) fr past rows []) = .ok false (sto r1 (.str w :: wr) (a ++ (k, s) :: b) fr past rows []) :=
      test_ok (op_ok (var_ok rfl) rfl rfl)
    have q2 : bTest (dOp (fEqA false) (dVar 3) (dLst aNil)) (lt (.dic PARTS_ks (.str w :: wr)) (a ++ (k, s) :: b) fr (some (.int 3)) none none none none none none) (sto r1 (.str w :: wr) (a ++ (k, s) :: b) fr past rows []) = .ok (decide (a ++ (k, s) :: b = [])) (sto r1 (.str w :: wr) (a ++ (k, s) :: b) fr past rows []) :=
      test_ok (op_ok (var_ok rfl) rfl (nil_test I.mem _))
    rw [decide_eq_false (by simp)] at q2
    exact (bor_f q1).trans q2
  have s2 : led2 (lt (.dic PARTS_ks (.str w :: wr)) (a ++ (k, s) :: b) fr (some (.int 3)) none none none none none none) (sto r1 (.str w :: wr) (a ++ (k, s) :: b) fr past rows []) = .nx (lt (.dic PARTS_ks (.str w :: wr)) (a ++ (k, s) :: b) fr (some (.int 3)) none (some (.int (a.length : Nat))) none none none none) (sto r2 (.str w :: wr) (a ++ (k, s) :: b) fr past rows []) := by
    refine set_nx (call_ok (xs := [.ptr 0, .int ((a ++ (k, s) :: b).length : Nat)]) (cons_ok (var_ok rfl) (cons_ok (b_ok (cons_ok (var_ok rfl) nil_is) ?_) nil_is)) rfl (e1 _))
    show Out.ok (D.int (((a ++ (k, s) :: b).map itemD).length : Nat)) _ = _
    rw [List.length_map]; rfl
  have s3 : led3 (lt (.dic PARTS_ks (.str w :: wr)) (a ++ (k, s) :: b) fr (some (.int 3)) none (some (.int (a.length : Nat))) none none none none) (sto r2 (.str w :: wr) (a ++ (k, s) :: b) fr past rows []) = .nx (lt (.dic PARTS_ks (.str w :: wr)) (a ++ (k, s) :: b) fr (some (.int 3)) (some (spanD s)) (some (.int (a.length : Nat))) (some (.int k)) none none none) (sto r2 (.str w :: wr) (a ++ (k, s) :: b) fr past rows []) :=
    asg_ok (op_ok (var_ok rfl) (var_ok rfl) (ixl (at_item a (k, s) b) _)) rfl
  have t4 : ledT4 (lt (.dic PARTS_ks (.str w :: wr)) (a ++ (k, s) :: b) fr (some (.int 3)) (some (spanD s)) (some (.int (a.length : Nat))) (some (.int k)) none none none) (sto r2 (.str w :: wr) (a ++ (k, s) :: b) fr past rows []) = .ok true (sto r2 (.str w :: wr) (a ++ (k, s) :: b) fr past rows []) :=
    test_ok (op_ok (var_ok rfl) rfl rfl)
  have F2 := I.F.row hr2
  have dk := drop_ok (n := k) (s := s) (fr := fr) F2 (big _ (by omega)) (big _ (by omega)) I.nd na nb kf.1 (by omega) (by omega)
  have t4b : ledT4_0 (lt (.dic PARTS_ks (.str w :: wr)) (a ++ (k, s) :: b) fr (some (.int 3)) (some (spanD s)) (some (.int (a.length : Nat))) (some (.int k)) none none none) (sto r2 (.str w :: wr) (a ++ (k, s) :: b) fr past rows []) = .ok false (sto r2 (.str w :: wr) (a ++ b) fr (past ++ [pastD (a ++ (k, s) :: b) fr]) (rows ++ [.tup [.str "drop", .int k]]) []) :=
    test_ok (op_ok ((meth_p (p := 1) (xs := [.int k]) (var_ok rfl) rfl rfl (cons_ok (var_ok rfl) nil_is) rfl).trans dk) rfl rfl)
  have e4 : ledE4_1 (lt (.dic PARTS_ks (.str w :: wr)) (a ++ (k, s) :: b) fr (some (.int 3)) (some (spanD s)) (some (.int (a.length : Nat))) (some (.int k)) none none none) (sto r2 (.str w :: wr) (a ++ b) fr (past ++ [pastD (a ++ (k, s) :: b) fr]) (rows ++ [.tup [.str "drop", .int k]]) []) = .ok (.lst [heldL (a ++ b), .int fr, .tup [.str "drop", .int k]]) (sto r2 (.str w :: wr) (a ++ b) fr (past ++ [pastD (a ++ (k, s) :: b) fr]) (rows ++ [.tup [.str "drop", .int k]]) []) :=
    lst_ok (cons_ok (halves (by omega) _ _) (cons_ok (var_ok rfl) (cons_ok (tup_ok (cons_ok rfl (cons_ok (var_ok rfl) nil_is)) (show 2 ≤ sizeLine by decide)) nil_is))) (show 3 ≤ sizeLine by decide)
  refine ⟨r2, a ++ b, fr, past ++ [pastD (a ++ (k, s) :: b) fr], rows ++ [.tup [.str "drop", .int k]], .tup [.str "drop", .int k], ?_, ⟨⟨hr2, I.F.ws, belows_one I.F.past (below_past _ fr), belows_one I.F.rows rfl⟩, nd, fun x hx => I.ks x (keys_sub x hx), ?_, ?_, ?_, ?_, f0, by omega, ?_⟩, rfl⟩
  · show runF 6 13 den__law_inn_led [.ptr 0, .dic PARTS_ks (.str w :: wr), .ptr 1, heldL (a ++ (k, s) :: b), .int fr, .int 9] _ = _
    exact run_rt ((seq_nx s0).trans ((seq_nx (ifs_skip t1)).trans ((seq_nx s2).trans ((seq_nx s3).trans (seq_rt ((ifs_t t4).trans ((seq_nx (ifs_skip t4b)).trans (ret_rt e4))))))))
  · intro p hp
    refine I.sp p ?_
    rcases List.mem_append.mp hp with x | x
    · exact List.mem_append_left _ x
    · exact List.mem_append_right _ (List.mem_cons_of_mem _ x)
  · simp at hl ⊢; omega
  · rw [List.length_append, List.length_singleton]; omega
  · rw [List.length_append, List.length_singleton]; omega
  · intro x hx
    rcases List.mem_append.mp hx with y | y
    · exact I.sm x y
    · rw [List.mem_singleton.mp y]; kernel_rfl
end
end GG
set_option Elab.async false
set_option linter.all false
set_option maxRecDepth 100000
set_option maxHeartbeats 1000000
namespace GG
open PySem PyProof.Rows L2 Dl
theorem changed_mem {w : Str} {a b : Held} {k : Int} {s' : Spn} : ∀ p ∈ changed w a b k s', p ∈ a ++ b ∨ p = (k, s') := fun p hp => by
  unfold changed at hp
  split at hp
  · rcases List.mem_append.mp hp with x | x
    · exact .inl x
    · exact .inr (List.mem_singleton.mp x)
  · rcases List.mem_append.mp hp with x | x
    · exact .inl (List.mem_append_left _ x)
    · rcases List.mem_cons.mp x with y | y
      · exact .inr y
      · exact .inl (List.mem_append_right _ y)
theorem changed_len {w : Str} {a b : Held} {k : Int} {s s' : Spn} : (changed w a b k s').length = (a ++ (k, s) :: b).length := by
  unfold changed
  split
  · simp [Nat.add_assoc]
  · simp
theorem changed_nodup {w : Str} {a b : Held} {k : Int} {s s' : Spn} (h : (keys (a ++ (k, s) :: b)).Nodup) : (keys (changed w a b k s')).Nodup := by
  obtain ⟨n1, n2, n3⟩ := nodup_sub h
  unfold changed
  split
  · rw [keys_app (a := a ++ b)]
    refine List.nodup_append.mpr ⟨n1, List.nodup_cons.mpr ⟨List.not_mem_nil, List.nodup_nil⟩, fun x hx y hy e => ?_⟩
    have hy : y = k := List.mem_singleton.mp hy
    subst e; subst hy
    rw [keys_app] at hx
    rcases List.mem_append.mp hx with z | z
    · exact n2 z
    · exact n3 z
  · rw [keys_app] at h ⊢
    exact h
section
variable {n : Nat} {r r1 r2 : D} {w : Str} {wr : List D} {a b : Held} {k : Int} {s : Spn} {fr : Int} {past rows : List D} {v : Int}
theorem change_led (I : Inv n r w wr (a ++ (k, s) :: b) fr past rows) (hn : n < 80) (hr1 : Row r1) (hr2 : Row r2) (hc : 3 ≤ v) (hc' : v ≠ 3) (e0 : ∀ rest, viaR F__law_pick [.ptr 0, .int 6] (some r :: rest) = .ok (.int v) (some r1 :: rest)) (e1 : ∀ rest, viaR F__law_pick [.ptr 0, .int ((a ++ (k, s) :: b).length : Nat)] (some r1 :: rest) = .ok (.int (a.length : Nat)) (some r2 :: rest)) :
    ∃ r' h' fr' past' rows' deed, F__law_inn_led [.ptr 0, .dic PARTS_ks (.str w :: wr), .ptr 1, heldL (a ++ (k, s) :: b), .int fr, .int 9] (sto r (.str w :: wr) (a ++ (k, s) :: b) fr past rows []) = .ok (.lst [heldL h', .int fr', deed]) (sto r' (.str w :: wr) h' fr' past' rows' []) ∧ Inv (n + 1) r' w wr h' fr' past' rows' ∧ below 4 deed = true := by
  have hl := I.hl
  have pl := I.pl
  have rl := I.rl
  have f0 := I.f0
  have fn := I.fn
  obtain ⟨nd, na, nb⟩ := nodup_sub I.nd
  have hk : k ∈ keys (a ++ (k, s) :: b) := by rw [keys_app]; exact List.mem_append_right _ List.mem_cons_self
  have kf := I.ks k hk
  have so : SpanOk s := I.sp (k, s) (List.mem_append_right _ List.mem_cons_self)
  have s0 : led0 (lt (.dic PARTS_ks (.str w :: wr)) (a ++ (k, s) :: b) fr none none none none none none none) (sto r (.str w :: wr) (a ++ (k, s) :: b) fr past rows []) = .nx (lt (.dic PARTS_ks (.str w :: wr)) (a ++ (k, s) :: b) fr (some (.int v)) none none none none none none) (sto r1 (.str w :: wr) (a ++ (k, s) :: b) fr past rows []) :=
    set_nx (call_ok (cons_ok (var_ok rfl) (cons_ok rfl nil_is)) rfl (e0 _))
  have t1 : ledT1 (lt (.dic PARTS_ks (.str w :: wr)) (a ++ (k, s) :: b) fr (some (.int v)) none none none none none none) (sto r1 (.str w :: wr) (a ++ (k, s) :: b) fr past rows []) = .ok false (sto r1 (.str w :: wr) (a ++ (k, s) :: b) fr past rows []) := by
    have q1 : bTest (dOp fLt (dVar 6) (dC (.int 3))) (lt (.dic PARTS_ks (.str w :: wr)) (a ++ (k, s) :: b) fr (some (.int v)) none none none none none none) (sto r1 (.str w :: wr) (a ++ (k, s) :: b) fr past rows []) = .ok (decide (v < 3)) (sto r1 (.str w :: wr) (a ++ (k, s) :: b) fr past rows []) :=
      test_ok (op_ok (var_ok rfl) rfl rfl)
    have q2 : bTest (dOp (fEqA false) (dVar 3) (dLst aNil)) (lt (.dic PARTS_ks (.str w :: wr)) (a ++ (k, s) :: b) fr (some (.int v)) none none none none none none) (sto r1 (.str w :: wr) (a ++ (k, s) :: b) fr past rows []) = .ok (decide (a ++ (k, s) :: b = [])) (sto r1 (.str w :: wr) (a ++ (k, s) :: b) fr past rows []) :=
      test_ok (op_ok (var_ok rfl) rfl (nil_test I.mem _))
    rw [decide_eq_false (by omega)] at q1
    rw [decide_eq_false (by simp)] at q2
    exact (bor_f q1).trans q2
  have s2 : led2 (lt (.dic PARTS_ks (.str w :: wr)) (a ++ (k, s) :: b) fr (some (.int v)) none none none none none none) (sto r1 (.str w :: wr) (a ++ (k, s) :: b) fr past rows []) = .nx (lt (.dic PARTS_ks (.str w :: wr)) (a ++ (k, s) :: b) fr (some (.int v)) none (some (.int (a.length : Nat))) none none none none) (sto r2 (.str w :: wr) (a ++ (k, s) :: b) fr past rows []) := by
    refine set_nx (call_ok (xs := [.ptr 0, .int ((a ++ (k, s) :: b).length : Nat)]) (cons_ok (var_ok rfl) (cons_ok (b_ok (cons_ok (var_ok rfl) nil_is) ?_) nil_is)) rfl (e1 _))
    show Out.ok (D.int (((a ++ (k, s) :: b).map itemD).length : Nat)) _ = _
    rw [List.length_map]; rfl
  have s3 : led3 (lt (.dic PARTS_ks (.str w :: wr)) (a ++ (k, s) :: b) fr (some (.int v)) none (some (.int (a.length : Nat))) none none none none) (sto r2 (.str w :: wr) (a ++ (k, s) :: b) fr past rows []) = .nx (lt (.dic PARTS_ks (.str w :: wr)) (a ++ (k, s) :: b) fr (some (.int v)) (some (spanD s)) (some (.int (a.length : Nat))) (some (.int k)) none none none) (sto r2 (.str w :: wr) (a ++ (k, s) :: b) fr past rows []) :=
    asg_ok (op_ok (var_ok rfl) (var_ok rfl) (ixl (at_item a (k, s) b) _)) rfl
  have t4 : ledT4 (lt (.dic PARTS_ks (.str w :: wr)) (a ++ (k, s) :: b) fr (some (.int v)) (some (spanD s)) (some (.int (a.length : Nat))) (some (.int k)) none none none) (sto r2 (.str w :: wr) (a ++ (k, s) :: b) fr past rows []) = .ok false (sto r2 (.str w :: wr) (a ++ (k, s) :: b) fr past rows []) :=
    test_ok (op_ok (var_ok rfl) rfl (by rw [Dl.eq_int, decide_eq_false hc']; rfl))
  have t5 : bTest (dOp (fInA false) (dOp fIxA (dVar 7) (dC (.int 2))) (dLst (aCons (dC (.str "least")) (aCons (dC (.str "most")) aNil)))) (lt (.dic PARTS_ks (.str w :: wr)) (a ++ (k, s) :: b) fr (some (.int v)) (some (spanD s)) (some (.int (a.length : Nat))) (some (.int k)) none none none) (sto r2 (.str w :: wr) (a ++ (k, s) :: b) fr past rows []) = .ok (isLen s.2.2.1) (sto r2 (.str w :: wr) (a ++ (k, s) :: b) fr past rows []) := by
    refine test_ok (op_ok (x := .str s.2.2.1) (y := .lst [.str "least", .str "most"]) (op_ok (var_ok rfl) rfl rfl) rfl ?_)
    rcases marks_cases so.m with e | e | e | e | e <;> rw [e] <;> kernel_rfl
  have s5 : ∃ u r3, led5 (lt (.dic PARTS_ks (.str w :: wr)) (a ++ (k, s) :: b) fr (some (.int v)) (some (spanD s)) (some (.int (a.length : Nat))) (some (.int k)) none none none) (sto r2 (.str w :: wr) (a ++ (k, s) :: b) fr past rows [])
      = .nx (lt (.dic PARTS_ks (.str w :: wr)) (a ++ (k, s) :: b) fr (some (.int v)) (some (spanD s)) (some (.int (a.length : Nat))) (some (.int k)) (some (.int u)) none none) (sto r3 (.str w :: wr) (a ++ (k, s) :: b) fr past rows []) ∧ Row r3 ∧ okVal s.2.2.1 (.int u) = true := by
    cases c : isLen s.2.2.1 with
    | true =>
      rw [c] at t5
      obtain ⟨u, r3, e4, h4, a4, b4⟩ := pickR hr2 (many := 9) (by decide) (by decide)
      exact ⟨1 + u, r3, set_nx ((if_tt t5).trans (op_ok rfl (call_ok (cons_ok (var_ok rfl) (cons_ok (var_ok rfl) nil_is)) rfl (e4 _)) rfl)), h4, by rw [val_len c]; exact int_in (by omega) (by omega)⟩
    | false =>
      rw [c] at t5
      obtain ⟨u, r3, e4, h4, a4, b4⟩ := pickR hr2 (many := 2) (by decide) (by decide)
      exact ⟨u, r3, set_nx ((if_ff t5).trans (call_ok (cons_ok (var_ok rfl) (cons_ok rfl nil_is)) rfl (e4 _))), h4, by rw [val_not c]; exact int_in (by omega) (by omega)⟩
  obtain ⟨u, r3, q5, hr3, hu⟩ := s5
  have s6 : led6 (lt (.dic PARTS_ks (.str w :: wr)) (a ++ (k, s) :: b) fr (some (.int v)) (some (spanD s)) (some (.int (a.length : Nat))) (some (.int k)) (some (.int u)) none none) (sto r3 (.str w :: wr) (a ++ (k, s) :: b) fr past rows [])
      = .nx (lt (.dic PARTS_ks (.str w :: wr)) (a ++ (k, s) :: b) fr (some (.int v)) (some (spanD s)) (some (.int (a.length : Nat))) (some (.int k)) (some (.int u)) (some (itemD (k, newSp s u))) (some (.tup [.str "change", .int k, .int u]))) (sto r3 (.str w :: wr) (a ++ (k, s) :: b) fr past rows []) := rfl
  have F3 := I.F.row hr3
  have ck := change_ok (n := k) (s := s) (fr := fr) F3 (big _ (by omega)) (big _ (by omega)) na nb kf.1 (by omega) (by omega) so.m hu
  have t7 : ledT7 (lt (.dic PARTS_ks (.str w :: wr)) (a ++ (k, s) :: b) fr (some (.int v)) (some (spanD s)) (some (.int (a.length : Nat))) (some (.int k)) (some (.int u)) (some (itemD (k, newSp s u))) (some (.tup [.str "change", .int k, .int u]))) (sto r3 (.str w :: wr) (a ++ (k, s) :: b) fr past rows []) = .ok false (sto r3 (.str w :: wr) (changed w a b k (newSp s u)) fr (past ++ [pastD (a ++ (k, s) :: b) fr]) (rows ++ [.tup [.str "change", .int k, .int u]]) []) :=
    test_ok (op_ok ((meth_p (p := 1) (xs := [.int k, .int u]) (var_ok rfl) rfl rfl (cons_ok (var_ok rfl) (cons_ok (var_ok rfl) nil_is)) rfl).trans ck) rfl rfl)
  have t8 : ledT8 (lt (.dic PARTS_ks (.str w :: wr)) (a ++ (k, s) :: b) fr (some (.int v)) (some (spanD s)) (some (.int (a.length : Nat))) (some (.int k)) (some (.int u)) (some (itemD (k, newSp s u))) (some (.tup [.str "change", .int k, .int u]))) (sto r3 (.str w :: wr) (changed w a b k (newSp s u)) fr (past ++ [pastD (a ++ (k, s) :: b) fr]) (rows ++ [.tup [.str "change", .int k, .int u]]) []) = .ok (decide (w = "newest")) (sto r3 (.str w :: wr) (changed w a b k (newSp s u)) fr (past ++ [pastD (a ++ (k, s) :: b) fr]) (rows ++ [.tup [.str "change", .int k, .int u]]) []) :=
    test_ok (op_ok (op_ok (var_ok rfl) rfl (ix_dic (ks := PARTS_ks) (vs := .str w :: wr) (q := .inr "changed") rfl rfl (if_pos rfl))) rfl (by
      show Out.ok (D.bl (xor false (decide (w = "newest")))) _ = _
      rw [Bool.false_xor]))
  have fit : ((a ++ b).map itemD).length + 1 ≤ sizeLine := Nat.le_of_lt (big _ (by simp at hl ⊢; omega))
  have end_ : ∀ (z : DS), (dSeq (dIfS ledT8 (dRet ledE8) dSkip) (dRet ledE9)) (lt (.dic PARTS_ks (.str w :: wr)) (a ++ (k, s) :: b) fr (some (.int v)) (some (spanD s)) (some (.int (a.length : Nat))) (some (.int k)) (some (.int u)) (some (itemD (k, newSp s u))) (some (.tup [.str "change", .int k, .int u]))) (sto r3 (.str w :: wr) (changed w a b k (newSp s u)) fr (past ++ [pastD (a ++ (k, s) :: b) fr]) (rows ++ [.tup [.str "change", .int k, .int u]]) []) = .rt (.lst [heldL (changed w a b k (newSp s u)), .int fr, .tup [.str "change", .int k, .int u]]) (sto r3 (.str w :: wr) (changed w a b k (newSp s u)) fr (past ++ [pastD (a ++ (k, s) :: b) fr]) (rows ++ [.tup [.str "change", .int k, .int u]]) []) := fun _ => by
    by_cases c : w = "newest"
    · rw [decide_eq_true c] at t8
      have cd : changed w a b k (newSp s u) = a ++ b ++ [(k, newSp s u)] := if_pos c
      refine seq_rt ((ifs_t t8).trans (ret_rt ?_))
      refine lst_ok (cons_ok (op_ok (halves (by omega) _ _) (lst_ok (cons_ok (var_ok rfl) nil_is) (show 1 ≤ sizeLine by decide)) ?_) (cons_ok (var_ok rfl) (cons_ok (var_ok rfl) nil_is))) (show 3 ≤ sizeLine by decide)
      rw [cd, one_item]
      exact cat_ok fit _
    · rw [decide_eq_false c] at t8
      have cd : changed w a b k (newSp s u) = a ++ (k, newSp s u) :: b := if_neg c
      refine (seq_nx (ifs_skip t8)).trans (ret_rt ?_)
      have q1 := cat_ok (a := a.map itemD) (b := [itemD (k, newSp s u)]) (Nat.le_of_lt (big _ (by simp at hl ⊢; omega))) (sto r3 (.str w :: wr) (changed w a b k (newSp s u)) fr (past ++ [pastD (a ++ (k, s) :: b) fr]) (rows ++ [.tup [.str "change", .int k, .int u]]) [])
      have q2 := cat_ok (a := a.map itemD ++ [itemD (k, newSp s u)]) (b := b.map itemD) (Nat.le_of_lt (big _ (by simp at hl ⊢; omega))) (sto r3 (.str w :: wr) (changed w a b k (newSp s u)) fr (past ++ [pastD (a ++ (k, s) :: b) fr]) (rows ++ [.tup [.str "change", .int k, .int u]]) [])
      have q3 : heldL (changed w a b k (newSp s u)) = .lst (a.map itemD ++ [itemD (k, newSp s u)] ++ b.map itemD) := by
        rw [cd]; unfold heldL; rw [List.map_append, List.append_assoc]; rfl
      refine lst_ok (cons_ok (op_ok (op_ok (left_half _ _) (lst_ok (cons_ok (var_ok rfl) nil_is) (show 1 ≤ sizeLine by decide)) q1) (right_half _ _) (q2.trans (by rw [q3]))) (cons_ok (var_ok rfl) (cons_ok (var_ok rfl) nil_is))) (show 3 ≤ sizeLine by decide)
  refine ⟨r3, changed w a b k (newSp s u), fr, past ++ [pastD (a ++ (k, s) :: b) fr], rows ++ [.tup [.str "change", .int k, .int u]], .tup [.str "change", .int k, .int u], ?_, ⟨⟨hr3, I.F.ws, belows_one I.F.past (below_past _ fr), belows_one I.F.rows rfl⟩, changed_nodup I.nd, ?_, ?_, ?_, ?_, ?_, f0, by omega, ?_⟩, rfl⟩
  · show runF 6 13 den__law_inn_led [.ptr 0, .dic PARTS_ks (.str w :: wr), .ptr 1, heldL (a ++ (k, s) :: b), .int fr, .int 9] _ = _
    exact run_rt ((seq_nx s0).trans ((seq_nx (ifs_skip t1)).trans ((seq_nx s2).trans ((seq_nx s3).trans ((seq_nx (ifs_skip t4)).trans ((seq_nx q5).trans ((seq_nx s6).trans ((seq_nx (ifs_skip t7)).trans (end_ dSkip)))))))))
  · intro x hx
    obtain ⟨p, hp, rfl⟩ := List.mem_map.mp hx
    rcases changed_mem p hp with z | z
    · exact I.ks _ (keys_sub _ (List.mem_map_of_mem z))
    · rw [z]; exact kf
  · intro p hp
    rcases changed_mem p hp with x | x
    · refine I.sp p ?_
      rcases List.mem_append.mp x with x | x
      · exact List.mem_append_left _ x
      · exact List.mem_append_right _ (List.mem_cons_of_mem _ x)
    · rw [x]; exact ⟨so.m, so.a, so.ab, so.b, hu⟩
  · rw [changed_len (s := s)]; omega
  · rw [List.length_append, List.length_singleton]; omega
  · rw [List.length_append, List.length_singleton]; omega
  · intro x hx
    rcases List.mem_append.mp hx with y | y
    · exact I.sm x y
    · rw [List.mem_singleton.mp y]; kernel_rfl
end
theorem led_ok {n : Nat} {r : D} {w : Str} {wr : List D} {h : Held} {fr : Int} {past rows : List D} (I : Inv n r w wr h fr past rows) (hn : n < 80) :
    ∃ r' h' fr' past' rows' deed, viaT F__law_inn_led [.ptr 0, .dic PARTS_ks (.str w :: wr), .ptr 1, heldL h, .int fr, .int 9] (sto r (.str w :: wr) h fr past rows []) = .ok (.lst [heldL h', .int fr', deed]) (sto r' (.str w :: wr) h' fr' past' rows' []) ∧ Inv (n + 1) r' w wr h' fr' past' rows' := by
  obtain ⟨v, r1, e0, hr1, a0, b0⟩ := pickR I.F.r (many := 6) (by decide) (by decide)
  have main : ∃ r' h' fr' past' rows' deed, F__law_inn_led [.ptr 0, .dic PARTS_ks (.str w :: wr), .ptr 1, heldL h, .int fr, .int 9] (sto r (.str w :: wr) h fr past rows []) = .ok (.lst [heldL h', .int fr', deed]) (sto r' (.str w :: wr) h' fr' past' rows' []) ∧ Inv (n + 1) r' w wr h' fr' past' rows' ∧ below 4 deed = true := by
    by_cases hc : v < 3 ∨ h = []
    · exact lay_led I (by omega) hr1 hc e0
    · have hv : ¬ v < 3 := fun x => hc (.inl x)
      have hne : h ≠ [] := fun x => hc (.inr x)
      have hp : 0 < h.length := List.length_pos_iff.mpr hne
      have hl := I.hl
      obtain ⟨x, r2, e1, hr2, a1, b1⟩ := pickR hr1 (many := (h.length : Nat)) (by omega) (by omega)
      obtain ⟨a, p, b, e, ev⟩ := part_at a1 (by exact b1)
      obtain ⟨k, s⟩ := p
      subst e; subst ev
      by_cases c : v = 3
      · exact drop_led I (by omega) hr1 hr2 c e0 e1
      · exact change_led I hn hr1 hr2 (by omega) c e0 e1
  obtain ⟨r', h', fr', past', rows', deed, e, I', hd⟩ := main
  refine ⟨r', h', fr', past', rows', deed, viaT_len e rfl ?_ (cells_sto I'.F h' fr' (Nat.le_refl 4) rfl), I'⟩
  show (belows 4 (h'.map itemD) && (true && (below 4 deed && true))) = true
  rw [below_items, hd]; rfl
end GG
set_option Elab.async false
set_option linter.all false
set_option maxRecDepth 100000
set_option maxHeartbeats 1000000
namespace GG
open PySem PyProof.Rows L2 Dl
abbrev toldB : DS := (dIfS (bTest (dOp (fEqA false) (dOp fIxA (dVar 1) (dC (.int 0))) (dC (.str "lay")))) (dExpr (dMeth 15 "lay" 5 (viaT F_Inn_lay) (dVar 0) (aCons (dOp fIxA (dVar 1) (dC (.int 1))) (aCons (dOp fIxA (dVar 1) (dC (.int 2))) (aCons (dOp fIxA (dVar 1) (dC (.int 3))) (aCons (dOp fIxA (dVar 1) (dC (.int 4))) aNil)))))) (dIfS (bTest (dOp (fEqA false) (dOp fIxA (dVar 1) (dC (.int 0))) (dC (.str "change")))) (dExpr (dMeth 15 "change" 3 (viaT F_Inn_change) (dVar 0) (aCons (dOp fIxA (dVar 1) (dC (.int 1))) (aCons (dOp fIxA (dVar 1) (dC (.int 2))) aNil)))) (dIfS (bTest (dOp (fEqA false) (dOp fIxA (dVar 1) (dC (.int 0))) (dC (.str "drop")))) (dExpr (dMeth 15 "drop" 2 (viaT F_Inn_drop) (dVar 0) (aCons (dOp fIxA (dVar 1) (dC (.int 1))) aNil))) (dIfS (bTest (dOp (fEqA false) (dOp fIxA (dVar 1) (dC (.int 0))) (dC (.str "bars")))) (dExpr (dMeth 15 "bars" 3 (viaT F_Inn_bars) (dVar 0) (aCons (dOp fIxA (dVar 1) (dC (.int 1))) (aCons (dOp fIxA (dVar 1) (dC (.int 2))) aNil)))) (dExpr (dMeth 15 "longest" 2 (viaT F_Inn_longest) (dVar 0) (aCons (dOp fIxA (dVar 1) (dC (.int 1))) aNil)))))))
abbrev toldH : List Hd := [⟨mt_BadSpan, some 3, fun c ns vs => dSet 2 ((dIf (bTest (dXi 8 true c ns vs)) (dLst (aCons (dC (.str "span")) aNil)) (dC (.str "another"))))⟩, ⟨mt_NoSpan, some 3, fun c ns vs => dSet 2 ((dLst (aCons (dC (.str "none")) (aCons (dXf 9 "number" c ns vs) aNil))))⟩, ⟨mt_BadStay, none, fun _ _ _ => (dSet 2 (dLst (aCons (dC (.str "stay")) aNil)))⟩]
section
variable {S : Sto} {ws : List D} {h : Held} {fr : Int} {c : Nat} {ns : List Str} {vs : List D} {z deed x y x1 x2 x3 x4 : D}
abbrev ft (deed : D) : Lc := [some (.ptr 1), some deed, some .non, none]
theorem told_of (sane : Sane S) (hb : toldB (ft deed) S = .exc (ft deed) c ns vs S) (hh : dHds toldH (ft deed) c ns vs S = .nx [some (.ptr 1), some deed, some z, none] S) (hz : below S.length z = true) : viaT F__law_told [.ptr 1, deed] S = .ok z S := by
  refine viaT_same sane ?_ hz
  show runF 2 4 den__law_told [.ptr 1, deed] S = _
  have s1 : dSet 2 (dC .non) [some (.ptr 1), some deed, none, none] S = .nx (ft deed) S := rfl
  have s2 : dTry toldB toldH (ft deed) S = .nx [some (.ptr 1), some deed, some z, none] S := (try_exc hb).trans hh
  exact run_rt ((seq_nx s1).trans ((seq_nx s2).trans (ret_rt (var_ok rfl))))
theorem h_span : dHds toldH (ft deed) 8 [] [] S = .nx [some (.ptr 1), some deed, some (.lst [.str "span"]), none] S := rfl
theorem h_stay : dHds toldH (ft deed) 7 [] [] S = .nx [some (.ptr 1), some deed, some (.lst [.str "stay"]), none] S := rfl
theorem h_none : dHds toldH (ft deed) 9 ["number"] [x] S = .nx [some (.ptr 1), some deed, some (.lst [.str "none", x]), none] S := rfl
theorem told_lay (sane : Sane S) (hi : S[1]? = some (some (innD ws h fr))) (e : F_Inn_lay [.ptr 1, x1, x2, x3, x4] S = .exc 8 [] [] S) : viaT F__law_told [.ptr 1, .tup [.str "lay", x1, x2, x3, x4]] S = .ok (.lst [.str "span"]) S := by
  refine told_of sane ?_ h_span rfl
  exact (ifs_t (test_ok (op_ok (op_ok (var_ok rfl) rfl rfl) rfl rfl))).trans (expr_exc ((meth_p (p := 1) (xs := [x1, x2, x3, x4]) (var_ok rfl) hi rfl (cons_ok (op_ok (var_ok rfl) rfl rfl) (cons_ok (op_ok (var_ok rfl) rfl rfl) (cons_ok (op_ok (var_ok rfl) rfl rfl) (cons_ok (op_ok (var_ok rfl) rfl rfl) nil_is)))) rfl).trans (viaT_stop sane e rfl)))
theorem told_change (sane : Sane S) (hi : S[1]? = some (some (innD ws h fr))) (e : viaT F_Inn_change [.ptr 1, x, y] S = .exc c ns vs S) (hh : dHds toldH (ft (.tup [.str "change", x, y])) c ns vs S = .nx [some (.ptr 1), some (.tup [.str "change", x, y]), some z, none] S) (hz : below S.length z = true) : viaT F__law_told [.ptr 1, .tup [.str "change", x, y]] S = .ok z S := by
  refine told_of sane ?_ hh hz
  exact (ifs_f (test_ok (op_ok (op_ok (var_ok rfl) rfl rfl) rfl rfl))).trans ((ifs_t (test_ok (op_ok (op_ok (var_ok rfl) rfl rfl) rfl rfl))).trans (expr_exc ((meth_p (p := 1) (xs := [x, y]) (var_ok rfl) hi rfl (cons_ok (op_ok (var_ok rfl) rfl rfl) (cons_ok (op_ok (var_ok rfl) rfl rfl) nil_is)) rfl).trans e)))
theorem told_drop (sane : Sane S) (hi : S[1]? = some (some (innD ws h fr))) (e : viaT F_Inn_drop [.ptr 1, x] S = .exc c ns vs S) (hh : dHds toldH (ft (.tup [.str "drop", x])) c ns vs S = .nx [some (.ptr 1), some (.tup [.str "drop", x]), some z, none] S) (hz : below S.length z = true) : viaT F__law_told [.ptr 1, .tup [.str "drop", x]] S = .ok z S := by
  refine told_of sane ?_ hh hz
  exact (ifs_f (test_ok (op_ok (op_ok (var_ok rfl) rfl rfl) rfl rfl))).trans ((ifs_f (test_ok (op_ok (op_ok (var_ok rfl) rfl rfl) rfl rfl))).trans ((ifs_t (test_ok (op_ok (op_ok (var_ok rfl) rfl rfl) rfl rfl))).trans (expr_exc ((meth_p (p := 1) (xs := [x]) (var_ok rfl) hi rfl (cons_ok (op_ok (var_ok rfl) rfl rfl) nil_is) rfl).trans e))))
theorem told_bars (sane : Sane S) (hi : S[1]? = some (some (innD ws h fr))) (e : F_Inn_bars [.ptr 1, x, y] S = .exc 7 [] [] S) : viaT F__law_told [.ptr 1, .tup [.str "bars", x, y]] S = .ok (.lst [.str "stay"]) S := by
  refine told_of sane ?_ h_stay rfl
  exact (ifs_f (test_ok (op_ok (op_ok (var_ok rfl) rfl rfl) rfl rfl))).trans ((ifs_f (test_ok (op_ok (op_ok (var_ok rfl) rfl rfl) rfl rfl))).trans ((ifs_f (test_ok (op_ok (op_ok (var_ok rfl) rfl rfl) rfl rfl))).trans ((ifs_t (test_ok (op_ok (op_ok (var_ok rfl) rfl rfl) rfl rfl))).trans (expr_exc ((meth_p (p := 1) (xs := [x, y]) (var_ok rfl) hi rfl (cons_ok (op_ok (var_ok rfl) rfl rfl) (cons_ok (op_ok (var_ok rfl) rfl rfl) nil_is)) rfl).trans (viaT_stop sane e rfl))))))
theorem told_long (sane : Sane S) (hi : S[1]? = some (some (innD ws h fr))) (e : F_Inn_longest [.ptr 1, x] S = .exc 7 [] [] S) : viaT F__law_told [.ptr 1, .tup [.str "longest", x]] S = .ok (.lst [.str "stay"]) S := by
  refine told_of sane ?_ h_stay rfl
  exact (ifs_f (test_ok (op_ok (op_ok (var_ok rfl) rfl rfl) rfl rfl))).trans ((ifs_f (test_ok (op_ok (op_ok (var_ok rfl) rfl rfl) rfl rfl))).trans ((ifs_f (test_ok (op_ok (op_ok (var_ok rfl) rfl rfl) rfl rfl))).trans ((ifs_f (test_ok (op_ok (op_ok (var_ok rfl) rfl rfl) rfl rfl))).trans (expr_exc ((meth_p (p := 1) (xs := [x]) (var_ok rfl) hi rfl (cons_ok (op_ok (var_ok rfl) rfl rfl) nil_is) rfl).trans (viaT_stop sane e rfl))))))
theorem told_none (sane : Sane S) (hi : S[1]? = some (some (innD ws h fr))) {v : D} (hv : asked v = true) (hs : okShow v S = true) (hb : intIn v 0 fr = false ∨ ∃ n, v = .int n ∧ n ∉ keys h) :
    viaT F__law_told [.ptr 1, .tup [.str "drop", v]] S = .ok (.lst [.str "none", v]) S ∧ viaT F__law_told [.ptr 1, .tup [.str "change", v, .non]] S = .ok (.lst [.str "none", v]) S := by
  have bz : below S.length (.lst [.str "none", v]) = true := by
    show (true && (below S.length v && true)) = true
    rw [below_up (Nat.zero_le _) v (asked_below hv)]; rfl
  exact ⟨told_drop sane hi (drop_bad sane hi hv hs hb) h_none bz, told_change sane hi (change_none sane hi hv hs hb) h_none bz⟩
/-- the deeds that a lay refuses -/
def oddLay : List D := [.tup [.str "lay", .int (-1), .int 0, .str "shut", .int 1], .tup [.str "lay", .int 2, .int 1, .str "shut", .int 1], .tup [.str "lay", .int 0, .int 1000000001, .str "shut", .int 1], .tup [.str "lay", .int 0, .int 0, .str "none", .int 1],
  .tup [.str "lay", .int 0, .int 0, .str "shut", .int 2], .tup [.str "lay", .int 0, .int 0, .str "least", .int 0], .tup [.str "lay", .int 0, .int 0, .str "most", .int 1000000001],
  .tup [.str "lay", .int 0, .int 0, .non, .int 1], .tup [.str "lay", .bl true, .int 1, .str "shut", .int 1], .tup [.str "lay", .int 0, .int 0, .str "nogo", .bl true], .tup [.str "lay", .str "0", .int 0, .str "shut", .int 1]]
theorem odd_lay (sane : Sane S) (hi : S[1]? = some (some (innD ws h fr))) : ∀ d ∈ oddLay, viaT F__law_told [.ptr 1, d] S = .ok (.lst [.str "span"]) S := by
  intro d hd
  simp only [oddLay, List.mem_cons, List.not_mem_nil, or_false] at hd
  rcases hd with e | e | e | e | e | e | e | e | e | e | e <;> subst e <;> exact told_lay sane hi (by kernel_rfl)
def oddStay : List D := [.tup [.str "bars", .int 1, .int 1], .tup [.str "bars", .int 2, .int 1], .tup [.str "bars", .int (-1), .int 1], .tup [.str "bars", .int 0, .int 1000000001], .tup [.str "bars", .non, .int 1], .tup [.str "longest", .int (-1)]]
theorem odd_stay (sane : Sane S) (hi : S[1]? = some (some (innD ws h fr))) : ∀ d ∈ oddStay, viaT F__law_told [.ptr 1, d] S = .ok (.lst [.str "stay"]) S := by
  intro d hd
  simp only [oddStay, List.mem_cons, List.not_mem_nil, or_false] at hd
  rcases hd with e | e | e | e | e | e <;> subst e
  · exact told_bars sane hi (by kernel_rfl)
  · exact told_bars sane hi (by kernel_rfl)
  · exact told_bars sane hi (by kernel_rfl)
  · exact told_bars sane hi (by kernel_rfl)
  · exact told_bars sane hi (by kernel_rfl)
  · exact told_long sane hi (by kernel_rfl)
end
end GG
set_option Elab.async false
set_option linter.all false
set_option maxRecDepth 100000
set_option maxHeartbeats 1000000
namespace GG
open PySem PyProof.Rows L2 Dl
theorem five {ws : List Str} (h : RuleW ws) : ∃ w1 w2 w3 w4 w5, ws = [w1, w2, w3, w4, w5] ∧ w1 ∈ (["newest", "stays"] : List Str) ∧ w2 ∈ (["closed", "open"] : List Str) ∧ w3 ∈ (["coming", "nights"] : List Str) ∧ w4 ∈ (["first", "newest", "strictest"] : List Str) ∧ w5 ∈ (["coming", "nights"] : List Str) := by
  match ws, h with
  | [w1, w2, w3, w4, w5], ⟨a, b, c, d, e, _⟩ => exact ⟨w1, w2, w3, w4, w5, rfl, a, b, c, d, e⟩
abbrev choice (ws : List Str) : D := .tup (ws.map .str)
theorem good2 {a b w : Str} (h : w ∈ [a, b]) (hw : ∀ S, viaP F_is_one_of [.str a, choice [a, b]] S = .ok (.bl true) S) (hw' : ∀ S, viaP F_is_one_of [.str b, choice [a, b]] S = .ok (.bl true) S) (S : Sto) : viaP F_is_one_of [.str w, choice [a, b]] S = .ok (.bl true) S := by
  rcases List.mem_cons.mp h with e | h
  · rw [e]; exact hw S
  · rw [List.mem_singleton.mp h]; exact hw' S
theorem gd1 {w : Str} (h : w ∈ (["newest", "stays"] : List Str)) (S : Sto) : viaP F_is_one_of [.str w, choice ["newest", "stays"]] S = .ok (.bl true) S := good2 h (fun S => by kernel_rfl) (fun S => by kernel_rfl) S
theorem gd2 {w : Str} (h : w ∈ (["closed", "open"] : List Str)) (S : Sto) : viaP F_is_one_of [.str w, choice ["closed", "open"]] S = .ok (.bl true) S := good2 h (fun S => by kernel_rfl) (fun S => by kernel_rfl) S
theorem gd3 {w : Str} (h : w ∈ (["coming", "nights"] : List Str)) (S : Sto) : viaP F_is_one_of [.str w, choice ["coming", "nights"]] S = .ok (.bl true) S := good2 h (fun S => by kernel_rfl) (fun S => by kernel_rfl) S
theorem gd4 {w : Str} (h : w ∈ (["first", "newest", "strictest"] : List Str)) (S : Sto) : viaP F_is_one_of [.str w, choice ["first", "newest", "strictest"]] S = .ok (.bl true) S := by
  have h : w = "first" ∨ w = "newest" ∨ w = "strictest" := by simpa only [List.mem_cons, List.not_mem_nil, or_false] using h
  rcases h with e | e | e <;> subst e <;> kernel_rfl
def Bad (x : D) : Prop := x = .str "no" ∨ x = .non ∨ x = .int 1
theorem bad_at {x : D} (h : Bad x) {ws : List Str} (hw : ws = (["newest", "stays"] : List Str) ∨ ws = (["closed", "open"] : List Str) ∨ ws = (["coming", "nights"] : List Str) ∨ ws = (["first", "newest", "strictest"] : List Str)) (S : Sto) : viaP F_is_one_of [x, choice ws] S = .ok (.bl false) S := by
  rcases h with e | e | e <;> subst e <;> rcases hw with e | e | e | e <;> subst e <;> kernel_rfl
abbrev checkB : DS := (dIfS (bNot (bTest (dCall 2 (viaP F_is_one_of) (aCons (dOp fIxA (dVar 0) (dVar 1)) (aCons (dUn (dIxK PARTS_ks PARTS_vs) (dVar 1)) aNil))))) (dRaise1 5 "part" okShow (dVar 1)) dSkip)
section
variable {vs : List D} {q : Str} {x : D} {ws : List Str}
theorem chk_good (hx : fIxA (.dic PARTS_ks vs) (.str q) [] = .ok x []) (hq : dIxK PARTS_ks PARTS_vs (.str q) [] = .ok (choice ws) []) (hg : viaP F_is_one_of [x, choice ws] [] = .ok (.bl true) []) : checkB [some (.dic PARTS_ks vs), some (.str q)] [] = .nx [some (.dic PARTS_ks vs), some (.str q)] [] :=
  ifs_skip (bnot_ok (c := true) (test_ok (call_ok (cons_ok (op_ok (var_ok rfl) (var_ok rfl) hx) (cons_ok (un_ok (var_ok rfl) hq) nil_is)) rfl hg)))
theorem chk_bad (hx : fIxA (.dic PARTS_ks vs) (.str q) [] = .ok x []) (hq : dIxK PARTS_ks PARTS_vs (.str q) [] = .ok (choice ws) []) (hg : viaP F_is_one_of [x, choice ws] [] = .ok (.bl false) []) (hs : okShow (.str q) [] = true) : checkB [some (.dic PARTS_ks vs), some (.str q)] [] = .exc [some (.dic PARTS_ks vs), some (.str q)] 5 ["part"] [.str q] [] :=
  (ifs_t (bnot_ok (c := false) (test_ok (call_ok (cons_ok (op_ok (var_ok rfl) (var_ok rfl) hx) (cons_ok (un_ok (var_ok rfl) hq) nil_is)) rfl hg)))).trans (raise1_ok (var_ok rfl) hs)
theorem check_exc {v1 v2 v3 v4 v5 : D} (hb : belows 0 [v1, v2, v3, v4, v5] = true) (e : ∃ t, dLoop (.nm 1) checkB PARTS_ks [some (.dic PARTS_ks [v1, v2, v3, v4, v5]), none] [] = .exc t 5 ["part"] [.str q] []) (S : Sto) : viaP F_check_rule [.dic PARTS_ks [v1, v2, v3, v4, v5]] S = .exc 5 ["part"] [.str q] S := by
  obtain ⟨t, e⟩ := e
  refine viaP_exc (S' := []) (by show ((belows 0 PARTS_ks && belows 0 [v1, v2, v3, v4, v5]) && true) = true; rw [hb]; rfl) ?_ rfl
  show runF 1 2 den_check_rule [.dic PARTS_ks [v1, v2, v3, v4, v5]] [] = _
  have s1 : dIfS (bOr (bNot (bTest (dIsi (tabB "dict") (dVar 0)))) (bTest (dOp (fEqA true) (dB bLen (aCons (dVar 0) aNil)) (dC (.int ((5 : Nat) : Int)))))) (dRaise1 5 "part" okShow (dC (.str ""))) dSkip [some (.dic PARTS_ks [v1, v2, v3, v4, v5]), none] [] = .nx [some (.dic PARTS_ks [v1, v2, v3, v4, v5]), none] [] := by kernel_rfl
  have s2 : dIfS (bNot (bTest (dB bAll (aCons (dLc [1] (.nm 1) (iKy (dVar 0)) bYes (dCall 2 (viaP F_is_one_of) (aCons (dVar 1) (aCons (dC (.lst PARTS_ks)) aNil)))) aNil)))) (dRaise1 5 "part" okShow (dC (.str ""))) dSkip [some (.dic PARTS_ks [v1, v2, v3, v4, v5]), none] [] = .nx [some (.dic PARTS_ks [v1, v2, v3, v4, v5]), none] [] := by kernel_rfl
  exact run_exc ((seq_nx s1).trans ((seq_nx s2).trans (for_exc rfl e)))
end
theorem told_exc {x : D} {q : Str} (hb : below 0 x = true) (e : ∀ S, viaP F_check_rule [x] S = .exc 5 ["part"] [.str q] S) (S : Sto) : viaP F__law_rule_told [x] S = .ok (.str q) S := by
  refine viaP_ok (S' := [some (.obj 15 [] [])]) (by show (below 0 x && true) = true; rw [hb]; rfl) ?_ rfl
  show runF 1 3 den__law_rule_told [x] [] = _
  have s1 : dSet 1 (dC .non) [some x, none, none] [] = .nx [some x, some .non, none] [] := rfl
  have i1 : F_Inn_init [.ptr 0, x] [some (.obj 15 [] [])] = .exc 5 ["part"] [.str q] [some (.obj 15 [] [])] := by
    show runF 2 3 den_Inn_init [.ptr 0, x] [some (.obj 15 [] [])] = _
    exact run_exc (seq_exc (expr_exc (call_exc (cons_ok (var_ok rfl) nil_is) rfl (e _))))
  have m1 : dMake 15 2 F_Inn_init (aCons (dVar 0) aNil) [some x, some .non, none] [] = .exc 5 ["part"] [.str q] [some (.obj 15 [] [])] := by
    show ((F_Inn_init [.ptr 0, x] [some (.obj 15 [] [])]).bind _) = _
    rw [i1]; rfl
  have s2 : dTry (dExpr (dMake 15 2 F_Inn_init (aCons (dVar 0) aNil))) [⟨mt_BadRule, some 2, fun c ns vs => dSet 1 ((dXf 5 "part" c ns vs))⟩] [some x, some .non, none] [] = .nx [some x, some (.str q), none] [some (.obj 15 [] [])] :=
    (try_exc (expr_exc m1)).trans rfl
  exact run_rt ((seq_nx s1).trans ((seq_nx s2).trans (ret_rt (var_ok rfl))))
theorem told_non (S : Sto) : viaP F__law_rule_told [.non] S = .ok (.str "") S := told_exc rfl (fun S => by kernel_rfl) S
theorem told_emp (S : Sto) : viaP F__law_rule_told [.dic [] []] S = .ok (.str "") S := told_exc rfl (fun S => by kernel_rfl) S
abbrev PQ : List Str := ["changed", "ends", "lengths", "over", "shut"]
/-- a rule with one part spoilt -/
theorem spoilt {ws : List Str} (h : RuleW ws) {x : D} (hx : Bad x) (hb : below 0 x = true) {v : Int} (h0 : 0 ≤ v) (h1 : v < 5) :
    ∃ q vs, atI (parts.map fun p => D.tup [.str p.1, .lst (p.2.map .str)]) v = some (.tup [.str q, .lst vs]) ∧ ∃ us, dicPut PARTS_ks (ws.map .str) (.inr q) (.str q) x = (PARTS_ks, us) ∧ ∀ S, viaP F__law_rule_told [.dic PARTS_ks us] S = .ok (.str q) S := by
  obtain ⟨w1, w2, w3, w4, w5, rfl, g1, g2, g3, g4, g5⟩ := five h
  have b1 := bad_at hx (ws := ["newest", "stays"]) (.inl rfl)
  have b2 := bad_at hx (ws := ["closed", "open"]) (.inr (.inl rfl))
  have b3 := bad_at hx (ws := ["coming", "nights"]) (.inr (.inr (.inl rfl)))
  have b4 := bad_at hx (ws := ["first", "newest", "strictest"]) (.inr (.inr (.inr rfl)))
  have hv : v = 0 ∨ v = 1 ∨ v = 2 ∨ v = 3 ∨ v = 4 := by omega
  rcases hv with e | e | e | e | e <;> subst e
  · refine ⟨"changed", _, rfl, [x, .str w2, .str w3, .str w4, .str w5], rfl, told_exc (by show (true && (below 0 x && true)) = true; rw [hb]; rfl) (check_exc (by show (below 0 x && true) = true; rw [hb]; rfl) ?_)⟩
    exact ⟨_, loop_exc (t1 := [some (.dic PARTS_ks [x, .str w2, .str w3, .str w4, .str w5]), some (.str "changed")]) rfl (chk_bad rfl rfl (b1 _) (by kernel_rfl))⟩
  · refine ⟨"ends", _, rfl, [.str w1, x, .str w3, .str w4, .str w5], rfl, told_exc (by show (true && (below 0 x && true)) = true; rw [hb]; rfl) (check_exc (by show (below 0 x && true) = true; rw [hb]; rfl) ?_)⟩
    exact ⟨_, (loop_one (t1 := [some (.dic PARTS_ks [.str w1, x, .str w3, .str w4, .str w5]), some (.str "changed")]) rfl (chk_good rfl rfl (gd1 g1 _))).trans
      (loop_exc (t1 := [some (.dic PARTS_ks [.str w1, x, .str w3, .str w4, .str w5]), some (.str "ends")]) rfl (chk_bad rfl rfl (b2 _) (by kernel_rfl)))⟩
  · refine ⟨"lengths", _, rfl, [.str w1, .str w2, x, .str w4, .str w5], rfl, told_exc (by show (true && (below 0 x && true)) = true; rw [hb]; rfl) (check_exc (by show (below 0 x && true) = true; rw [hb]; rfl) ?_)⟩
    exact ⟨_, (loop_one (t1 := [some (.dic PARTS_ks [.str w1, .str w2, x, .str w4, .str w5]), some (.str "changed")]) rfl (chk_good rfl rfl (gd1 g1 _))).trans
      ((loop_one (t1 := [some (.dic PARTS_ks [.str w1, .str w2, x, .str w4, .str w5]), some (.str "ends")]) rfl (chk_good rfl rfl (gd2 g2 _))).trans
      (loop_exc (t1 := [some (.dic PARTS_ks [.str w1, .str w2, x, .str w4, .str w5]), some (.str "lengths")]) rfl (chk_bad rfl rfl (b3 _) (by kernel_rfl))))⟩
  · refine ⟨"over", _, rfl, [.str w1, .str w2, .str w3, x, .str w5], rfl, told_exc (by show (true && (below 0 x && true)) = true; rw [hb]; rfl) (check_exc (by show (below 0 x && true) = true; rw [hb]; rfl) ?_)⟩
    exact ⟨_, (loop_one (t1 := [some (.dic PARTS_ks [.str w1, .str w2, .str w3, x, .str w5]), some (.str "changed")]) rfl (chk_good rfl rfl (gd1 g1 _))).trans
      ((loop_one (t1 := [some (.dic PARTS_ks [.str w1, .str w2, .str w3, x, .str w5]), some (.str "ends")]) rfl (chk_good rfl rfl (gd2 g2 _))).trans
      ((loop_one (t1 := [some (.dic PARTS_ks [.str w1, .str w2, .str w3, x, .str w5]), some (.str "lengths")]) rfl (chk_good rfl rfl (gd3 g3 _))).trans
      (loop_exc (t1 := [some (.dic PARTS_ks [.str w1, .str w2, .str w3, x, .str w5]), some (.str "over")]) rfl (chk_bad rfl rfl (b4 _) (by kernel_rfl)))))⟩
  · refine ⟨"shut", _, rfl, [.str w1, .str w2, .str w3, .str w4, x], rfl, told_exc (by show (true && (below 0 x && true)) = true; rw [hb]; rfl) (check_exc (by show (below 0 x && true) = true; rw [hb]; rfl) ?_)⟩
    exact ⟨_, (loop_one (t1 := [some (.dic PARTS_ks [.str w1, .str w2, .str w3, .str w4, x]), some (.str "changed")]) rfl (chk_good rfl rfl (gd1 g1 _))).trans
      ((loop_one (t1 := [some (.dic PARTS_ks [.str w1, .str w2, .str w3, .str w4, x]), some (.str "ends")]) rfl (chk_good rfl rfl (gd2 g2 _))).trans
      ((loop_one (t1 := [some (.dic PARTS_ks [.str w1, .str w2, .str w3, .str w4, x]), some (.str "lengths")]) rfl (chk_good rfl rfl (gd3 g3 _))).trans
      ((loop_one (t1 := [some (.dic PARTS_ks [.str w1, .str w2, .str w3, .str w4, x]), some (.str "over")]) rfl (chk_good rfl rfl (gd4 g4 _))).trans
      (loop_exc (t1 := [some (.dic PARTS_ks [.str w1, .str w2, .str w3, .str w4, x]), some (.str "shut")]) rfl (chk_bad rfl rfl (b3 _) (by kernel_rfl))))))⟩
end GG
set_option Elab.async false
set_option linter.all false
set_option maxRecDepth 100000
set_option maxHeartbeats 1000000
namespace GG
open PySem PyProof.Rows L2 Dl
abbrev law0 : DS := (dSet 1 (dCall 1 (viaK F__law_draws) (aCons (dVar 0) aNil)))
abbrev law1 : DS := (dSet 2 (dCall 1 (viaR F__law_rule) (aCons (dVar 1) aNil)))
abbrev law2 : DS := (dAsg (.tp [3, 4, 5]) (dTup (aCons (dMake 15 2 F_Inn_init (aCons (dVar 2) aNil)) (aCons (dLst aNil) (aCons (dC (.int 0)) aNil)))))
abbrev lawB3 : DS := (dAsgL [4, 5, 7] (dCall 6 (viaT F__law_inn_led) (aCons (dVar 1) (aCons (dVar 2) (aCons (dVar 3) (aCons (dVar 4) (aCons (dVar 5) (aCons (dC (.int 9)) aNil))))))))
abbrev law4 : DS := (dPar 8 9 (aCons (dPropV 15 (viaT F_Inn_log) (dVar 3)) (aCons (dOp fPow (dC (.int 10)) (dC (.int 9))) aNil)))
abbrev law5 : DS := (dSet 10 (dLc [12, 14] (.tp [12, 14]) (iLst (dVar 4)) bYes (dVar 12)))
abbrev law6 : DS := (dSet 11 (dCellL (aCons (dTup (aCons (dC (.str "lay")) (aCons (dUn fNeg (dC (.int 1))) (aCons (dC (.int 0)) (aCons (dC (.str "shut")) (aCons (dC (.int 1)) aNil)))))) (aCons (dTup (aCons (dC (.str "lay")) (aCons (dC (.int 2)) (aCons (dC (.int 1)) (aCons (dC (.str "shut")) (aCons (dC (.int 1)) aNil)))))) (aCons (dTup (aCons (dC (.str "lay")) (aCons (dC (.int 0)) (aCons (dOp fAdd (dVar 9) (dC (.int 1))) (aCons (dC (.str "shut")) (aCons (dC (.int 1)) aNil)))))) aNil)))))
abbrev law7 : DS := (dExpr (dBM "list" mAppend (dVar 11) (aCons (dTup (aCons (dC (.str "lay")) (aCons (dC (.int 0)) (aCons (dC (.int 0)) (aCons (dC (.str "none")) (aCons (dC (.int 1)) aNil)))))) aNil)))
abbrev law8 : DS := (dSet 11 (dOp fAddC (dVar 11) (dLst (aCons (dTup (aCons (dC (.str "lay")) (aCons (dC (.int 0)) (aCons (dC (.int 0)) (aCons (dC (.str "shut")) (aCons (dC (.int 2)) aNil)))))) (aCons (dTup (aCons (dC (.str "lay")) (aCons (dC (.int 0)) (aCons (dC (.int 0)) (aCons (dC (.str "least")) (aCons (dC (.int 0)) aNil)))))) (aCons (dTup (aCons (dC (.str "lay")) (aCons (dC (.int 0)) (aCons (dC (.int 0)) (aCons (dC (.str "most")) (aCons (dOp fAdd (dVar 9) (dC (.int 1))) aNil)))))) aNil))))))
abbrev law9 : DS := (dSet 11 (dOp fAddC (dVar 11) (dLst (aCons (dTup (aCons (dC (.str "lay")) (aCons (dC (.int 0)) (aCons (dC (.int 0)) (aCons (dC .non) (aCons (dC (.int 1)) aNil)))))) (aCons (dTup (aCons (dC (.str "lay")) (aCons (dC (.bl true)) (aCons (dC (.int 1)) (aCons (dC (.str "shut")) (aCons (dC (.int 1)) aNil)))))) (aCons (dTup (aCons (dC (.str "lay")) (aCons (dC (.int 0)) (aCons (dC (.int 0)) (aCons (dC (.str "nogo")) (aCons (dC (.bl true)) aNil)))))) aNil))))))
abbrev law10 : DS := (dExpr (dBM "list" mAppend (dVar 11) (aCons (dTup (aCons (dC (.str "lay")) (aCons (dC (.str "0")) (aCons (dC (.int 0)) (aCons (dC (.str "shut")) (aCons (dC (.int 1)) aNil)))))) aNil)))
abbrev lawB11 : DS := (dIfS (bTest (dOp (fEqA true) (dCall 2 (viaT F__law_told) (aCons (dVar 3) (aCons (dVar 7) aNil))) (dLst (aCons (dC (.str "span")) aNil)))) (dRet (dC (.bl false))) dSkip)
abbrev lawB12 : DS := (dSeq (dSet 13 (dLst (aCons (dCall 2 (viaT F__law_told) (aCons (dVar 3) (aCons (dTup (aCons (dC (.str "drop")) (aCons (dVar 12) aNil))) aNil))) (aCons (dCall 2 (viaT F__law_told) (aCons (dVar 3) (aCons (dTup (aCons (dC (.str "change")) (aCons (dVar 12) (aCons (dC .non) aNil)))) aNil))) aNil))))
  (dIfS (bTest (dOp (fEqA true) (dVar 13) (dOp fMulL (dLst (aCons (dLst (aCons (dC (.str "none")) (aCons (dVar 12) aNil))) aNil)) (dC (.int 2))))) (dRet (dC (.bl false))) dSkip))
abbrev lawI12 : DA := (iLst (dOp fAdd (dLst (aCons (dVar 5) (aCons (dUn fNeg (dC (.int 1))) (aCons (dC .non) (aCons (dC (.bl true)) (aCons (dC (.str "0")) (aCons (dTup (aCons (dC (.int 0)) aNil)) aNil))))))) (dLc [18] (.nm 18) (iRng1 (dVar 5)) (bTest (dOp (fInA true) (dVar 18) (dVar 10))) (dVar 18))))
abbrev lawB12a : DS := (dSet 13 (dLst (aCons (dCall 2 (viaT F__law_told) (aCons (dVar 3) (aCons (dTup (aCons (dC (.str "drop")) (aCons (dVar 12) aNil))) aNil))) (aCons (dCall 2 (viaT F__law_told) (aCons (dVar 3) (aCons (dTup (aCons (dC (.str "change")) (aCons (dVar 12) (aCons (dC .non) aNil)))) aNil))) aNil))))
abbrev lawB12t : DB := (bTest (dOp (fEqA true) (dVar 13) (dOp fMulL (dLst (aCons (dLst (aCons (dC (.str "none")) (aCons (dVar 12) aNil))) aNil)) (dC (.int 2)))))
abbrev lawB13 : DS := (dSeq (dSet 15 (dIf (bTest (dOp (fInA false) (dOp fIxA (dVar 14) (dC (.int 2))) (dLst (aCons (dC (.str "nocome")) (aCons (dC (.str "nogo")) (aCons (dC (.str "shut")) aNil)))))) (dLst (aCons (dC (.int 2)) (aCons (dUn fNeg (dC (.int 1))) (aCons (dC (.bl true)) (aCons (dC .non) aNil))))) (dLst (aCons (dC (.int 0)) (aCons (dOp fAdd (dVar 9) (dC (.int 1))) (aCons (dC (.bl true)) (aCons (dC (.str "1")) aNil)))))))
  (dIfS (bTest (dOp (fEqA true) (dLc [19] (.nm 19) (iLst (dVar 15)) (bTest (dOp (fEqA true) (dCall 2 (viaT F__law_told) (aCons (dVar 3) (aCons (dTup (aCons (dC (.str "change")) (aCons (dVar 12) (aCons (dVar 19) aNil)))) aNil))) (dLst (aCons (dC (.str "span")) aNil)))) (dVar 19)) (dLst aNil))) (dRet (dC (.bl false))) dSkip))
abbrev lawB13a : DS := (dSet 15 (dIf (bTest (dOp (fInA false) (dOp fIxA (dVar 14) (dC (.int 2))) (dLst (aCons (dC (.str "nocome")) (aCons (dC (.str "nogo")) (aCons (dC (.str "shut")) aNil)))))) (dLst (aCons (dC (.int 2)) (aCons (dUn fNeg (dC (.int 1))) (aCons (dC (.bl true)) (aCons (dC .non) aNil))))) (dLst (aCons (dC (.int 0)) (aCons (dOp fAdd (dVar 9) (dC (.int 1))) (aCons (dC (.bl true)) (aCons (dC (.str "1")) aNil)))))))
abbrev lawB13t : DB := (bTest (dOp (fEqA true) (dLc [19] (.nm 19) (iLst (dVar 15)) (bTest (dOp (fEqA true) (dCall 2 (viaT F__law_told) (aCons (dVar 3) (aCons (dTup (aCons (dC (.str "change")) (aCons (dVar 12) (aCons (dVar 19) aNil)))) aNil))) (dLst (aCons (dC (.str "span")) aNil)))) (dVar 19)) (dLst aNil)))
abbrev law14 : DS := (dSet 11 (dCellL (aCons (dTup (aCons (dC (.str "bars")) (aCons (dC (.int 1)) (aCons (dC (.int 1)) aNil)))) (aCons (dTup (aCons (dC (.str "bars")) (aCons (dC (.int 2)) (aCons (dC (.int 1)) aNil)))) (aCons (dTup (aCons (dC (.str "bars")) (aCons (dUn fNeg (dC (.int 1))) (aCons (dC (.int 1)) aNil)))) (aCons (dTup (aCons (dC (.str "bars")) (aCons (dC (.int 0)) (aCons (dOp fAdd (dVar 9) (dC (.int 1))) aNil)))) (aCons (dTup (aCons (dC (.str "bars")) (aCons (dC .non) (aCons (dC (.int 1)) aNil)))) aNil)))))))
abbrev lawB15 : DS := (dIfS (bTest (dOp (fEqA true) (dCall 2 (viaT F__law_told) (aCons (dVar 3) (aCons (dVar 7) aNil))) (dLst (aCons (dC (.str "stay")) aNil)))) (dRet (dC (.bl false))) dSkip)
abbrev lawT16 : DB := (bOr (bTest (dOp (fEqA true) (dCall 2 (viaT F__law_told) (aCons (dVar 3) (aCons (dTup (aCons (dC (.str "longest")) (aCons (dOp fAdd (dVar 9) (dC (.int 1))) aNil))) aNil))) (dLst (aCons (dC (.str "stay")) aNil)))) (bTest (dOp (fEqA true) (dCall 2 (viaT F__law_told) (aCons (dVar 3) (aCons (dTup (aCons (dC (.str "longest")) (aCons (dC (.bl true)) aNil))) aNil))) (dLst (aCons (dC (.str "stay")) aNil)))))
abbrev law17 : DS := (dSet 16 (dDictC (aCons (dVar 2) aNil)))
abbrev law18 : DS := (dSet 17 (dOp fIxA (dOp fIxA (dCall 0 (viaP F__law_parts) aNil) (dCall 2 (viaR F__law_pick) (aCons (dVar 1) (aCons (dC (.int 5)) aNil)))) (dC (.int 0))))
abbrev law19 : DS := (dSetA (dVar 16) (dVar 17) (dOp fIxA (dLst (aCons (dC (.str "no")) (aCons (dC .non) (aCons (dC (.int 1)) aNil)))) (dCall 2 (viaR F__law_pick) (aCons (dVar 1) (aCons (dC (.int 3)) aNil)))))
abbrev lawT20 : DB := (bOr (bTest (dOp (fEqA true) (dCall 1 (viaP F__law_rule_told) (aCons (dFz (dVar 16)) aNil)) (dVar 17))) (bOr (bTest (dOp (fEqA true) (dCall 1 (viaP F__law_rule_told) (aCons (dC .non) aNil)) (dC (.str "")))) (bTest (dOp (fEqA true) (dCall 1 (viaP F__law_rule_told) (aCons dDic0 aNil)) (dC (.str ""))))))
abbrev lawE21 : DE := (dAnd (dOp (fEqA false) (dLItems (dPropV 15 (viaT F_Inn_spans) (dVar 3))) (dVar 4)) (dOp (fEqA false) (dPropV 15 (viaT F_Inn_log) (dVar 3)) (dVar 8)))
abbrev fl (s : Option D) (ru : D) (h : Held) (fr : Int) (x6 x7 x8 x9 x10 x11 x12 x13 x14 x15 x16 x17 x18 x19 : Option D) : Lc := [s, some (.ptr 0), some ru, some (.ptr 1), some (heldL h), some (.int fr), x6, x7, x8, x9, x10, x11, x12, x13, x14, x15, x16, x17, x18, x19]
theorem inn_new {r : D} {ws : List Str} (h : RuleW ws) : F_Inn_init [.ptr 1, .dic PARTS_ks (ws.map .str)] [some r, some (.obj 15 [] [])] = .ok .non (sto r (ws.map .str) [] 0 [] [] []) := by
  obtain ⟨w1, w2, w3, w4, w5, rfl, g1, g2, g3, g4, g5⟩ := five h
  have lp : dLoop (.nm 1) checkB PARTS_ks [some (.dic PARTS_ks [.str w1, .str w2, .str w3, .str w4, .str w5]), none] [] = .nx [some (.dic PARTS_ks [.str w1, .str w2, .str w3, .str w4, .str w5]), some (.str "shut")] [] :=
    (loop_one (t1 := [some (.dic PARTS_ks [.str w1, .str w2, .str w3, .str w4, .str w5]), some (.str "changed")]) rfl (chk_good rfl rfl (gd1 g1 _))).trans
      ((loop_one (t1 := [some (.dic PARTS_ks [.str w1, .str w2, .str w3, .str w4, .str w5]), some (.str "ends")]) rfl (chk_good rfl rfl (gd2 g2 _))).trans
      ((loop_one (t1 := [some (.dic PARTS_ks [.str w1, .str w2, .str w3, .str w4, .str w5]), some (.str "lengths")]) rfl (chk_good rfl rfl (gd3 g3 _))).trans
      ((loop_one (t1 := [some (.dic PARTS_ks [.str w1, .str w2, .str w3, .str w4, .str w5]), some (.str "over")]) rfl (chk_good rfl rfl (gd4 g4 _))).trans
      (loop_one (t1 := [some (.dic PARTS_ks [.str w1, .str w2, .str w3, .str w4, .str w5]), some (.str "shut")]) rfl (chk_good rfl rfl (gd3 g5 _))))))
  have ck : ∀ S, viaP F_check_rule [.dic PARTS_ks [.str w1, .str w2, .str w3, .str w4, .str w5]] S = .ok .non S := fun S => by
    refine viaP_ok (S' := []) rfl ?_ rfl
    show runF 1 2 den_check_rule [.dic PARTS_ks [.str w1, .str w2, .str w3, .str w4, .str w5]] [] = _
    have s1 : dIfS (bOr (bNot (bTest (dIsi (tabB "dict") (dVar 0)))) (bTest (dOp (fEqA true) (dB bLen (aCons (dVar 0) aNil)) (dC (.int ((5 : Nat) : Int)))))) (dRaise1 5 "part" okShow (dC (.str ""))) dSkip [some (.dic PARTS_ks [.str w1, .str w2, .str w3, .str w4, .str w5]), none] [] = .nx [some (.dic PARTS_ks [.str w1, .str w2, .str w3, .str w4, .str w5]), none] [] := by kernel_rfl
    have s2 : dIfS (bNot (bTest (dB bAll (aCons (dLc [1] (.nm 1) (iKy (dVar 0)) bYes (dCall 2 (viaP F_is_one_of) (aCons (dVar 1) (aCons (dC (.lst PARTS_ks)) aNil)))) aNil)))) (dRaise1 5 "part" okShow (dC (.str ""))) dSkip [some (.dic PARTS_ks [.str w1, .str w2, .str w3, .str w4, .str w5]), none] [] = .nx [some (.dic PARTS_ks [.str w1, .str w2, .str w3, .str w4, .str w5]), none] [] := by kernel_rfl
    exact run_nx ((seq_nx s1).trans ((seq_nx s2).trans (for_ok rfl lp)))
  show runF 2 3 den_Inn_init [.ptr 1, .dic PARTS_ks [.str w1, .str w2, .str w3, .str w4, .str w5]] [some r, some (.obj 15 [] [])] = _
  have s1 : dExpr (dCall 1 (viaP F_check_rule) (aCons (dVar 1) aNil)) [some (.ptr 1), some (.dic PARTS_ks [.str w1, .str w2, .str w3, .str w4, .str w5]), none] [some r, some (.obj 15 [] [])] = .nx [some (.ptr 1), some (.dic PARTS_ks [.str w1, .str w2, .str w3, .str w4, .str w5]), none] [some r, some (.obj 15 [] [])] :=
    expr_nx (call_ok (cons_ok (var_ok rfl) nil_is) rfl (ck _))
  exact run_nx (t1 := [some (.ptr 1), some (.dic PARTS_ks [.str w1, .str w2, .str w3, .str w4, .str w5]), none]) ((seq_nx s1).trans (by kernel_rfl))
theorem leds (s : Option D) : ∀ (is : List D) {n : Nat} {r : D} {w : Str} {wr : List D} {h : Held} {fr : Int} {past rows : List D} (x6 x7 : Option D), Inv n r w wr h fr past rows → n + is.length ≤ 20 →
    ∃ m r' h' fr' past' rows' x6' x7', dLoop (.nm 6) lawB3 is (fl s (.dic PARTS_ks (.str w :: wr)) h fr x6 x7 none none none none none none none none none none none none) (sto r (.str w :: wr) h fr past rows []) = .nx (fl s (.dic PARTS_ks (.str w :: wr)) h' fr' x6' x7' none none none none none none none none none none none none) (sto r' (.str w :: wr) h' fr' past' rows' []) ∧ Inv m r' w wr h' fr' past' rows' ∧ m ≤ 20
  | [], n, r, w, wr, h, fr, past, rows, x6, x7, I, hl => ⟨n, r, h, fr, past, rows, x6, x7, rfl, I, by simpa using hl⟩
  | i :: is, n, r, w, wr, h, fr, past, rows, x6, x7, I, hl => by
    rw [List.length_cons] at hl
    obtain ⟨r1, h1, fr1, past1, rows1, deed, e, I1⟩ := led_ok I (by omega)
    obtain ⟨m, r', h', fr', past', rows', x6', x7', e2, I2, hm⟩ := leds s is (some i) (some deed) I1 (by omega)
    have b : lawB3 (fl s (.dic PARTS_ks (.str w :: wr)) h fr (some i) x7 none none none none none none none none none none none none) (sto r (.str w :: wr) h fr past rows []) = .nx (fl s (.dic PARTS_ks (.str w :: wr)) h1 fr1 (some i) (some deed) none none none none none none none none none none none none) (sto r1 (.str w :: wr) h1 fr1 past1 rows1 []) :=
      asgL_ok (is := [4, 5, 7]) (call_ok (cons_ok (var_ok rfl) (cons_ok (var_ok rfl) (cons_ok (var_ok rfl) (cons_ok (var_ok rfl) (cons_ok (var_ok rfl) (cons_ok rfl nil_is)))))) rfl e) rfl
    exact ⟨m, r', h', fr', past', rows', x6', x7', (loop_one (t1 := fl s (.dic PARTS_ks (.str w :: wr)) h fr (some i) x7 none none none none none none none none none none none none) rfl b).trans e2, I2, hm⟩
section
variable {s : Option D} {ru : D} {h : Held} {fr : Int} {x6 x7 x8 x9 x10 x11 x12 x13 x14 x15 x16 x17 x18 x19 : Option D} {S : Sto} {ws : List D}
theorem lay_loop : ∀ (is : List D) (x7 : Option D), (∀ d ∈ is, viaT F__law_told [.ptr 1, d] S = .ok (.lst [.str "span"]) S) → ∃ x7', dLoop (.nm 7) lawB11 is (fl s ru h fr x6 x7 x8 x9 x10 x11 x12 x13 x14 x15 x16 x17 x18 x19) S = .nx (fl s ru h fr x6 x7' x8 x9 x10 x11 x12 x13 x14 x15 x16 x17 x18 x19) S
  | [], x7, _ => ⟨x7, rfl⟩
  | d :: is, x7, hd => by
    obtain ⟨x7', e⟩ := lay_loop is (some d) fun y hy => hd y (List.mem_cons_of_mem _ hy)
    have b : lawB11 (fl s ru h fr x6 (some d) x8 x9 x10 x11 x12 x13 x14 x15 x16 x17 x18 x19) S = .nx (fl s ru h fr x6 (some d) x8 x9 x10 x11 x12 x13 x14 x15 x16 x17 x18 x19) S :=
      ifs_skip (test_ok (op_ok (call_ok (cons_ok (var_ok rfl) (cons_ok (var_ok rfl) nil_is)) rfl (hd d List.mem_cons_self)) rfl (by kernel_rfl)))
    exact ⟨x7', (loop_one (t1 := fl s ru h fr x6 (some d) x8 x9 x10 x11 x12 x13 x14 x15 x16 x17 x18 x19) rfl b).trans e⟩
theorem stay_loop : ∀ (is : List D) (x7 : Option D), (∀ d ∈ is, viaT F__law_told [.ptr 1, d] S = .ok (.lst [.str "stay"]) S) → ∃ x7', dLoop (.nm 7) lawB15 is (fl s ru h fr x6 x7 x8 x9 x10 x11 x12 x13 x14 x15 x16 x17 x18 x19) S = .nx (fl s ru h fr x6 x7' x8 x9 x10 x11 x12 x13 x14 x15 x16 x17 x18 x19) S
  | [], x7, _ => ⟨x7, rfl⟩
  | d :: is, x7, hd => by
    obtain ⟨x7', e⟩ := stay_loop is (some d) fun y hy => hd y (List.mem_cons_of_mem _ hy)
    have b : lawB15 (fl s ru h fr x6 (some d) x8 x9 x10 x11 x12 x13 x14 x15 x16 x17 x18 x19) S = .nx (fl s ru h fr x6 (some d) x8 x9 x10 x11 x12 x13 x14 x15 x16 x17 x18 x19) S :=
      ifs_skip (test_ok (op_ok (call_ok (cons_ok (var_ok rfl) (cons_ok (var_ok rfl) nil_is)) rfl (hd d List.mem_cons_self)) rfl (by kernel_rfl)))
    exact ⟨x7', (loop_one (t1 := fl s ru h fr x6 (some d) x8 x9 x10 x11 x12 x13 x14 x15 x16 x17 x18 x19) rfl b).trans e⟩
/-- a number that stands for no span -/
def NoNum (h : Held) (fr : Int) (v : D) : Prop := asked v = true ∧ okShow v [] = true ∧ small v = true ∧ (intIn v 0 fr = false ∨ ∃ n, v = .int n ∧ n ∉ keys h)
theorem show_any {v : D} (ha : asked v = true) (h : okShow v [] = true) (S : Sto) : okShow v S = true := by
  cases v with
  | non => exact h
  | bl b => exact h
  | int i => exact h
  | str x => exact h
  | tup xs => exact h
  | _ => cases ha
theorem two_same {v : D} (hv : small v = true) (S : Sto) : fEqA true (.lst [.lst [.str "none", v], .lst [.str "none", v]]) (.lst [.lst [.str "none", v], .lst [.str "none", v]]) S = .ok (.bl false) S := by
  refine eq_self (neg := true) ?_ S
  obtain ⟨a, b⟩ := Bool.and_eq_true_iff.mp hv
  have b := of_decide_eq_true b
  have k1 : PyData.canLay0 (pd (.lst [.str "none", v])) = true := by
    have z : (pd (.str "none")).canLay0 = true := by kernel_rfl
    show ((pd (.str "none")).canLay0 && ((pd v).canLay0 && true)) = true
    rw [z, a]; rfl
  have k2 : (pd (.lst [.str "none", v])).depth ≤ 10 := by
    show max (pd (.str "none")).depth (max (pd v).depth 0) + 1 ≤ 10
    have : (pd (.str "none")).depth ≤ 1 := Nat.le_of_ble_eq_true (by kernel_rfl)
    omega
  show ((PyData.canLay0 (pd (.lst [.str "none", v])) && (PyData.canLay0 (pd (.lst [.str "none", v])) && true)) && decide (max (pd (.lst [.str "none", v])).depth (max (pd (.lst [.str "none", v])).depth 0) + 1 ≤ 64)) = true
  rw [k1, decide_eq_true (by omega)]; rfl
theorem none_loop (sane : Sane S) (hi : S[1]? = some (some (innD ws h fr))) : ∀ (is : List D) (x12 x13 : Option D), (∀ d ∈ is, NoNum h fr d) → ∃ x12' x13', dLoop (.nm 12) lawB12 is (fl s ru h fr x6 x7 x8 x9 x10 x11 x12 x13 x14 x15 x16 x17 x18 x19) S = .nx (fl s ru h fr x6 x7 x8 x9 x10 x11 x12' x13' x14 x15 x16 x17 x18 x19) S
  | [], x12, x13, _ => ⟨x12, x13, rfl⟩
  | d :: is, x12, x13, hd => by
    obtain ⟨a1, a2, a3, a4⟩ := hd d List.mem_cons_self
    obtain ⟨t1, t2⟩ := told_none sane hi a1 (show_any a1 a2 S) a4
    obtain ⟨x12', x13', e⟩ := none_loop sane hi is (some d) (some (.lst [.lst [.str "none", d], .lst [.str "none", d]])) fun y hy => hd y (List.mem_cons_of_mem _ hy)
    have b1 : lawB12a (fl s ru h fr x6 x7 x8 x9 x10 x11 (some d) x13 x14 x15 x16 x17 x18 x19) S = .nx (fl s ru h fr x6 x7 x8 x9 x10 x11 (some d) (some (.lst [.lst [.str "none", d], .lst [.str "none", d]])) x14 x15 x16 x17 x18 x19) S :=
      set_nx (lst_ok (cons_ok (call_ok (cons_ok (var_ok rfl) (cons_ok (tup_ok (cons_ok rfl (cons_ok (var_ok rfl) nil_is)) (show 2 ≤ sizeLine by decide)) nil_is)) rfl t1) (cons_ok (call_ok (cons_ok (var_ok rfl) (cons_ok (tup_ok (cons_ok rfl (cons_ok (var_ok rfl) (cons_ok rfl nil_is))) (show 3 ≤ sizeLine by decide)) nil_is)) rfl t2) nil_is)) (show 2 ≤ sizeLine by decide))
    have b2 : lawB12t (fl s ru h fr x6 x7 x8 x9 x10 x11 (some d) (some (.lst [.lst [.str "none", d], .lst [.str "none", d]])) x14 x15 x16 x17 x18 x19) S = .ok false S :=
      test_ok (op_ok (var_ok rfl) (op_ok (lst_ok (cons_ok (lst_ok (cons_ok rfl (cons_ok (var_ok rfl) nil_is)) (show 2 ≤ sizeLine by decide)) nil_is) (show 1 ≤ sizeLine by decide)) rfl rfl) (two_same a3 S))
    exact ⟨x12', x13', (loop_one (t1 := fl s ru h fr x6 x7 x8 x9 x10 x11 (some d) x13 x14 x15 x16 x17 x18 x19) rfl ((seq_nx b1).trans (ifs_skip b2))).trans e⟩
def badV (m : Str) : List D := if isLen m = true then [.int 0, .int 1000000001, .bl true, .str "1"] else [.int 2, .int (-1), .bl true, .non]
theorem badV_bad {m : Str} (hm : m ∈ marks) : ∀ w ∈ badV m, asked w = true ∧ okVal m w = false := by
  rcases marks_cases hm with e | e | e | e | e <;> subst e <;> intro w hw
  · have hw : w ∈ ([.int 0, .int 1000000001, .bl true, .str "1"] : List D) := hw
    simp only [List.mem_cons, List.not_mem_nil, or_false] at hw
    rcases hw with e | e | e | e <;> subst e <;> exact ⟨rfl, by kernel_rfl⟩
  · have hw : w ∈ ([.int 0, .int 1000000001, .bl true, .str "1"] : List D) := hw
    simp only [List.mem_cons, List.not_mem_nil, or_false] at hw
    rcases hw with e | e | e | e <;> subst e <;> exact ⟨rfl, by kernel_rfl⟩
  · have hw : w ∈ ([.int 2, .int (-1), .bl true, .non] : List D) := hw
    simp only [List.mem_cons, List.not_mem_nil, or_false] at hw
    rcases hw with e | e | e | e <;> subst e <;> exact ⟨rfl, by kernel_rfl⟩
  · have hw : w ∈ ([.int 2, .int (-1), .bl true, .non] : List D) := hw
    simp only [List.mem_cons, List.not_mem_nil, or_false] at hw
    rcases hw with e | e | e | e <;> subst e <;> exact ⟨rfl, by kernel_rfl⟩
  · have hw : w ∈ ([.int 2, .int (-1), .bl true, .non] : List D) := hw
    simp only [List.mem_cons, List.not_mem_nil, or_false] at hw
    rcases hw with e | e | e | e <;> subst e <;> exact ⟨rfl, by kernel_rfl⟩
theorem bad_list {k : Int} {sp : Spn} (hm : sp.2.2.1 ∈ marks) : lawB13a (fl s ru h fr x6 x7 x8 (some (.int 1000000000)) x10 x11 (some (.int k)) x13 (some (spanD sp)) x15 x16 x17 x18 x19) S = .nx (fl s ru h fr x6 x7 x8 (some (.int 1000000000)) x10 x11 (some (.int k)) x13 (some (spanD sp)) (some (.lst (badV sp.2.2.1))) x16 x17 x18 x19) S := by
  obtain ⟨a, b, m, v⟩ := sp
  rcases marks_cases hm with e | e | e | e | e <;> (have e : m = _ := e; subst e; kernel_rfl)
theorem skip_all {g : Nat} {ta : DB} {de : DE} {t : Lc} {acc : List D} : ∀ xs : List D, (∀ x ∈ xs, ta (t.set g (some x)) S = .ok false S) → lcLoop (.nm g) ta de t xs acc S = .ok acc S
  | [], _ => rfl
  | x :: xs, hx => (lc_skip (t1 := t.set g (some x)) rfl (hx x List.mem_cons_self)).trans (skip_all xs fun y hy => hx y (List.mem_cons_of_mem _ hy))
theorem held_loop (sane : Sane S) (hi : S[1]? = some (some (innD ws h fr))) (nd : (keys h).Nodup) (ks : ∀ k ∈ keys h, 0 ≤ k ∧ k < fr) (sp : ∀ p ∈ h, SpanOk p.2) : ∀ (is : Held) (x12 x14 x15 : Option D), (∀ p ∈ is, p ∈ h) →
    ∃ x12' x14' x15', dLoop (.tp [12, 14]) lawB13 (is.map itemD) (fl s ru h fr x6 x7 x8 (some (.int 1000000000)) x10 x11 x12 x13 x14 x15 x16 x17 x18 x19) S = .nx (fl s ru h fr x6 x7 x8 (some (.int 1000000000)) x10 x11 x12' x13 x14' x15' x16 x17 x18 x19) S
  | [], x12, x14, x15, _ => ⟨x12, x14, x15, rfl⟩
  | p :: is, x12, x14, x15, hp => by
    have hm := hp p List.mem_cons_self
    obtain ⟨k, q⟩ := p
    obtain ⟨a, b, e⟩ := List.append_of_mem hm
    have so := sp _ hm
    have kf := ks k (List.mem_map_of_mem (f := fun p : Int × Spn => p.1) hm)
    have na : k ∉ keys a := (nodup_sub (e ▸ nd)).2.1
    obtain ⟨y12, y14, y15, e2⟩ := held_loop sane hi nd ks sp is (some (.int k)) (some (spanD q)) (some (.lst (badV q.2.2.1))) fun y hy => hp y (List.mem_cons_of_mem _ hy)
    have b1 := bad_list (s := s) (ru := ru) (h := h) (fr := fr) (x6 := x6) (x7 := x7) (x8 := x8) (x10 := x10) (x11 := x11) (x13 := x13) (x15 := x15) (x16 := x16) (x17 := x17) (x18 := x18) (x19 := x19) (S := S) (k := k) (sp := q) so.m
    have b2 : lawB13t (fl s ru h fr x6 x7 x8 (some (.int 1000000000)) x10 x11 (some (.int k)) x13 (some (spanD q)) (some (.lst (badV q.2.2.1))) x16 x17 x18 x19) S = .ok false S := by
      refine test_ok (op_ok (x := .lst []) (y := .lst []) (lc_ok (ilst_ok (var_ok rfl)) (skip_all _ fun w hw => ?_)) rfl (by kernel_rfl))
      obtain ⟨c1, c2⟩ := badV_bad so.m w hw
      have t1 := told_change sane hi (change_bad sane hi e na kf.1 (by omega) so.m c1 c2) h_span rfl
      exact test_ok (op_ok (call_ok (xs := [.ptr 1, .tup [.str "change", .int k, w]]) (cons_ok (var_ok rfl) (cons_ok (tup_ok (cons_ok rfl (cons_ok (var_ok rfl) (cons_ok (var_ok rfl) nil_is))) (show 3 ≤ sizeLine by decide)) nil_is)) rfl t1) rfl (by kernel_rfl))
    exact ⟨y12, y14, y15, (loop_one (t1 := fl s ru h fr x6 x7 x8 (some (.int 1000000000)) x10 x11 (some (.int k)) x13 (some (spanD q)) x15 x16 x17 x18 x19) rfl ((seq_nx b1).trans (ifs_skip b2))).trans e2⟩
theorem num_loop {t : Lc} (ht : ∀ x y, ∃ t1, (Tg.tp [12, 14]).set (.tup [x, y]) t = some t1 ∧ dVar 12 t1 S = .ok x S) : ∀ (is acc : Held), acc.length + is.length < 100 → lcLoop (.tp [12, 14]) bYes (dVar 12) t (is.map itemD) (hks acc) S = .ok (hks (acc ++ is)) S
  | [], acc, _ => by rw [List.append_nil]; rfl
  | p :: is, acc, hl => by
    rw [List.length_cons] at hl
    obtain ⟨t1, q1, q2⟩ := ht (.int p.1) (spanD p.2)
    have e := num_loop ht is (acc ++ [p]) (by simp at hl ⊢; omega)
    have z : hks (acc ++ [p]) = hks acc ++ [.int p.1] := by rw [hks_app]; rfl
    rw [z, List.append_assoc] at e
    exact (lc_one q1 rfl q2 (big _ (by unfold hks; rw [List.length_map]; omega))).trans e
theorem any_ints {k : Int} : ∀ h : Held, ((pds (hks h)).any fun z => PyData.eqv z (.int k)) = decide (k ∈ keys h)
  | [] => rfl
  | p :: h => by
    show (decide (p.1 = k) || (pds (hks h)).any fun z => PyData.eqv z (.int k)) = decide (k ∈ p.1 :: keys h)
    rw [any_ints h]
    by_cases c : p.1 = k
    · rw [decide_eq_true c, decide_eq_true (p := k ∈ p.1 :: keys h) (by rw [c]; exact List.mem_cons_self)]; rfl
    · rw [decide_eq_false c, Bool.false_or]
      have : (k ∈ keys h) = (k ∈ p.1 :: keys h) := propext ⟨fun x => List.mem_cons_of_mem _ x, fun x => (List.mem_cons.mp x).resolve_left fun y => c y.symm⟩
      simp only [this]
theorem in_ints {k : Int} (h : Held) (S : Sto) : fInA true (.int k) (.lst (hks h)) S = .ok (.bl (!(decide (k ∈ keys h)))) S := by
  have sh : SeqAt.shaped (.list (pds (hks h))) = true := shaped_of fun x hx => by
    obtain ⟨p, hp, rfl⟩ := List.mem_map.mp hx
    rfl
  show (if (SeqAt.shaped (.int k) && SeqAt.shaped (.list (pds (hks h)))) = true then Out.ok (D.bl (xor true ((pds (hks h)).any fun z => PyData.eqv z (.int k)))) S else .bad) = _
  rw [sh, any_ints, show (SeqAt.shaped (PyData.int k) && true) = true from rfl, if_pos rfl, Bool.true_xor]
theorem mem_from : ∀ {n : Nat} {lo : Int} {d : D}, d ∈ intsFrom lo n → ∃ k, d = .int k ∧ lo ≤ k ∧ k < lo + n
  | 0, _, _, h => by cases h
  | n + 1, lo, d, h => by
    rcases List.mem_cons.mp h with e | h
    · exact ⟨lo, e, Int.le_refl _, by omega⟩
    · obtain ⟨k, e, hk, hk'⟩ := mem_from h
      exact ⟨k, e, by omega, by omega⟩
theorem show_all : (List.range 30).all (fun n => okShow (.int (n : Nat)) []) = true := by decide +kernel
theorem show_int {k : Int} (h0 : 0 ≤ k) (h1 : k ≤ 20) : okShow (.int k) [] = true := by
  obtain ⟨n, rfl⟩ := Int.eq_ofNat_of_zero_le h0
  exact List.all_eq_true.mp show_all n (List.mem_range.mpr (by omega))
def freeN (h : Held) (d : D) : Bool := match d with
  | .int k => !(decide (k ∈ keys h))
  | _ => false
theorem num_list (h0 : 0 ≤ fr) (h1 : fr ≤ 20) : lawI12 (fl s ru h fr x6 x7 x8 x9 (some (.lst (hks h))) x11 x12 x13 x14 x15 x16 x17 x18 x19) S = .ok ([.int fr, .int (-1), .non, .bl true, .str "0", .tup [.int 0]] ++ (intsFrom 0 fr.toNat).filter (freeN h)) S := by
  have lc := lc_pure (S := S) (g := .nm 18) (xs := intsFrom 0 fr.toNat) (t := fl s ru h fr x6 x7 x8 x9 (some (.lst (hks h))) x11 x12 x13 x14 x15 x16 x17 none x19) (ta := bTest (dOp (fInA true) (dVar 18) (dVar 10))) (de := dVar 18) (p := freeN h) (f := fun d => d) (fun x hx => by
    obtain ⟨k, rfl, _, _⟩ := mem_from hx
    exact ⟨fl s ru h fr x6 x7 x8 x9 (some (.lst (hks h))) x11 x12 x13 x14 x15 x16 x17 (some (.int k)) x19, rfl, test_ok (op_ok (var_ok rfl) (var_ok rfl) (in_ints h S)), fun _ => var_ok rfl⟩) [] (by rw [intsFrom_length]; exact big _ (by simp; omega))
  rw [List.map_id'] at lc
  refine ilst_ok (op_ok (x := .lst [.int fr, .int (-1), .non, .bl true, .str "0", .tup [.int 0]]) (lst_ok (cons_ok (var_ok rfl) rfl) (show 6 ≤ sizeLine by decide)) (lc_ok (irng1_ok (j := fr) (var_ok rfl) (by unfold Dl.inB; omega)) lc) ?_)
  refine cat_ok (Nat.le_of_lt (big _ ?_)) S
  have := List.length_filter_le (freeN h) (intsFrom 0 fr.toNat)
  rw [intsFrom_length] at this
  simp
  omega
theorem num_all (h0 : 0 ≤ fr) (h20 : fr ≤ 20) (hf : fr ∉ keys h) (ks : ∀ k ∈ keys h, 0 ≤ k ∧ k < fr) : ∀ d ∈ [.int fr, .int (-1), .non, .bl true, .str "0", .tup [.int 0]] ++ (intsFrom 0 fr.toNat).filter (freeN h), NoNum h fr d := by
  intro d hd
  rcases List.mem_append.mp hd with hd | hd
  · simp only [List.mem_cons, List.not_mem_nil, or_false] at hd
    rcases hd with e | e | e | e | e | e <;> subst e
    · exact ⟨rfl, show_int h0 h20, rfl, .inr ⟨fr, rfl, hf⟩⟩
    · exact ⟨rfl, rfl, rfl, .inl rfl⟩
    · exact ⟨rfl, rfl, rfl, .inl rfl⟩
    · exact ⟨rfl, rfl, rfl, .inl rfl⟩
    · exact ⟨rfl, by kernel_rfl, by kernel_rfl, .inl rfl⟩
    · exact ⟨rfl, by kernel_rfl, by kernel_rfl, .inl rfl⟩
  · obtain ⟨h1, h2⟩ := List.mem_filter.mp hd
    obtain ⟨k, rfl, k0, k1⟩ := mem_from h1
    have h2 : (!(decide (k ∈ keys h))) = true := h2
    refine ⟨rfl, show_int k0 (by omega), rfl, .inr ⟨k, rfl, fun x => ?_⟩⟩
    rw [decide_eq_true x] at h2
    cases h2
end
end GG
set_option Elab.async false
set_option linter.all false
set_option maxRecDepth 100000
set_option maxHeartbeats 1000000
namespace GG
open PySem PyProof.Rows L2 Dl
section
variable {t : Lc} {S S1 S2 : Sto} {da : DA} {x y z : D} {xs : List D}
theorem make_ok {c n : Nat} {f : DF} (h : da t S = .ok xs S1) (hl : xs.length + 1 = n) (e : f (.ptr S1.length :: xs) (S1 ++ [some (.obj c [] [])]) = .ok .non S2) : dMake c n f da t S = .ok (.ptr S1.length) S2 := by
  unfold dMake
  rw [h]
  show (if xs.length + 1 = n then (f (.ptr S1.length :: xs) (S1 ++ [some (.obj c [] [])])).bind fun z S2 => match z with
    | .non => Out.ok (D.ptr S1.length) S2
    | _ => .bad
    else .bad) = _
  rw [if_pos hl, e]; rfl
theorem par_ok {i j : Nat} (h : da t S = .ok [x, y] S1) : dPar i j da t S = .nx ((t.set i (some x)).set j (some y)) S1 := by
  unfold dPar
  rw [h]; rfl
theorem seta2 {dx di dv : DE} {i : D} {S4 : Sto} (h1 : dv t S = .ok y S1) (h2 : dx t S1 = .ok x S1) (h3 : di t S1 = .ok i S1) (h4 : Dl.putAt x i y S1 = some S4) : dSetA dx di dv t S = .nx t S4 := by
  rw [setA_is, h1]
  show Dl.ofE (dx t S1) t _ = _
  rw [h2]
  show Dl.ofE (di t S1) t _ = _
  rw [h3]
  show (match Dl.putAt x i y S1 with
    | some S4 => SOut.nx t S4
    | none => .bad) = _
  rw [h4]
theorem items_ok {de : DE} {ks vs : List D} (h : de t S = .ok (.dic ks vs) S1) : dLItems de t S = .ok (.lst (pairsD ks vs)) S1 := by
  unfold dLItems
  rw [h]; rfl
end
theorem log_ok {r : D} {ws past rows : List D} (F : Fine r ws past rows) (h : Held) (fr : Int) (rest : Sto) (hs : cellsBelow (rest.length + 4) rest = true) : viaT F_Inn_log [.ptr 1] (sto r ws h fr past rows rest) = .ok (.lst rows) (sto r ws h fr past rows rest) := by
  refine viaT_same (cells_sto F h fr (Nat.le_add_left 4 _) hs) ?_ (belows_up (Nat.zero_le _) rows F.rows)
  show runF 1 1 den_Inn_log [.ptr 1] _ = _
  exact run_rt (ret_rt (b_ok (cons_ok (attr_p (p := 1) (var_ok rfl) rfl rfl) nil_is) rfl))
theorem spans_ok {r : D} {ws past rows : List D} (F : Fine r ws past rows) (h : Held) (fr : Int) (rest : Sto) (hs : cellsBelow (rest.length + 4) rest = true) : viaT F_Inn_spans [.ptr 1] (sto r ws h fr past rows rest) = .ok (heldD h) (sto r ws h fr past rows rest) := by
  refine viaT_same (cells_sto F h fr (Nat.le_add_left 4 _) hs) ?_ (below_held h)
  show runF 1 1 den_Inn_spans [.ptr 1] _ = _
  refine run_rt (ret_rt ?_)
  show dDictF (aCons (dAttr 15 "held" (dVar 0)) aNil) [some (.ptr 1)] (sto r ws h fr past rows rest) = _
  unfold dDictF
  rw [show aCons (dAttr 15 "held" (dVar 0)) aNil [some (.ptr 1)] (sto r ws h fr past rows rest) = .ok [heldD h] (sto r ws h fr past rows rest) from cons_ok (attr_p (p := 1) (var_ok rfl) rfl rfl) nil_is]
  rfl
abbrev c4 : Option D := some (.lst (oddLay.take 4))
abbrev c7 : Option D := some (.lst (oddLay.take 7))
abbrev c5 : Option D := some (.lst (oddStay.take 5))
theorem law_true : ∀ ns : List Int, ns.length ≤ 63 → ∃ S, F_law [.rol (ns.map .int)] [] = .ok (.bl true) S := fun ns _ => by
  let s : Option D := some (.rol (ns.map .int))
  have q0 : law0 [s, none, none, none, none, none, none, none, none, none, none, none, none, none, none, none, none, none, none, none] [] = .nx [s, some (.ptr 0), none, none, none, none, none, none, none, none, none, none, none, none, none, none, none, none, none, none] [some (rowD ns 0 0 7)] :=
    set_nx (call_ok (cons_ok (var_ok rfl) nil_is) rfl rfl)
  obtain ⟨ws, r1, e1, hr1, hw⟩ := rule_ok (r := rowD ns 0 0 7) ⟨ns, 0, 0, 7, rfl, by decide, by decide⟩
  have q1 : law1 [s, some (.ptr 0), none, none, none, none, none, none, none, none, none, none, none, none, none, none, none, none, none, none] [some (rowD ns 0 0 7)] = .nx [s, some (.ptr 0), some (.dic PARTS_ks (ws.map .str)), none, none, none, none, none, none, none, none, none, none, none, none, none, none, none, none, none] [some r1] :=
    set_nx (call_ok (cons_ok (var_ok rfl) nil_is) rfl (e1 []))
  have q2 : law2 [s, some (.ptr 0), some (.dic PARTS_ks (ws.map .str)), none, none, none, none, none, none, none, none, none, none, none, none, none, none, none, none, none] [some r1] = .nx (fl s (.dic PARTS_ks (ws.map .str)) [] 0 none none none none none none none none none none none none none none) (sto r1 (ws.map .str) [] 0 [] [] []) :=
    asg_ok (tup_ok (cons_ok (make_ok (S1 := [some r1]) (cons_ok (var_ok rfl) nil_is) rfl (inn_new hw)) (cons_ok rfl (cons_ok rfl nil_is))) (show 3 ≤ sizeLine by decide)) rfl
  obtain ⟨v, r2, e2, hr2, a2, b2⟩ := pickR hr1 (many := 8) (by decide) (by decide)
  have hw' := hw
  obtain ⟨w1, w2, w3, w4, w5, ew, _⟩ := five hw
  have eW : ws.map D.str = .str w1 :: [.str w2, .str w3, .str w4, .str w5] := by rw [ew]; rfl
  have I0 : Inv 0 r2 w1 [.str w2, .str w3, .str w4, .str w5] [] 0 [] [] := ⟨⟨hr2, rfl, rfl, rfl⟩, List.nodup_nil, (fun k hk => by cases hk), (fun p hp => by cases hp), Nat.le_refl _, Nat.le_refl _, Nat.le_refl _, Int.le_refl _, Int.le_refl _, (fun x hx => by cases hx)⟩
  have hlen : 0 + (intsFrom 0 (1 + v).toNat).length ≤ 20 := by rw [intsFrom_length]; omega
  obtain ⟨m, r3, h, fr, past, rows, x6, x7, e3, I, hm⟩ := leds s (intsFrom 0 (1 + v).toNat) none none I0 hlen
  rw [← eW] at e3
  have q3 : dFor (.nm 6) (iRng1 (dOp fAdd (dC (.int 1)) (dCall 2 (viaR F__law_pick) (aCons (dVar 1) (aCons (dC (.int 8)) aNil))))) lawB3 (fl s (.dic PARTS_ks (ws.map .str)) [] 0 none none none none none none none none none none none none none none) (sto r1 (ws.map .str) [] 0 [] [] []) = .nx (fl s (.dic PARTS_ks (ws.map .str)) h fr x6 x7 none none none none none none none none none none none none) (sto r3 (ws.map .str) h fr past rows []) :=
    for_ok (irng1_ok (j := 1 + v) (op_ok rfl (call_ok (cons_ok (var_ok rfl) (cons_ok rfl nil_is)) rfl (e2 _)) rfl) (by unfold Dl.inB; omega)) e3
  have F : Fine r3 (ws.map .str) past rows := by rw [eW]; exact I.F
  have hl := I.hl
  have f0 := I.f0
  have fn := I.fn
  have f20 : fr ≤ 20 := by omega
  have hfr : fr ∉ keys h := fresh_not I.ks
  have q4 : law4 (fl s (.dic PARTS_ks (ws.map .str)) h fr x6 x7 none none none none none none none none none none none none) (sto r3 (ws.map .str) h fr past rows []) = .nx (fl s (.dic PARTS_ks (ws.map .str)) h fr x6 x7 (some (.lst rows)) (some (.int 1000000000)) none none none none none none none none none none) (sto r3 (ws.map .str) h fr past rows []) :=
    par_ok (cons_ok (prop_p (p := 1) (var_ok rfl) rfl (log_ok F h fr [] rfl)) (cons_ok (op_ok rfl rfl rfl) nil_is))
  have q5 : law5 (fl s (.dic PARTS_ks (ws.map .str)) h fr x6 x7 (some (.lst rows)) (some (.int 1000000000)) none none none none none none none none none none) (sto r3 (ws.map .str) h fr past rows []) = .nx (fl s (.dic PARTS_ks (ws.map .str)) h fr x6 x7 (some (.lst rows)) (some (.int 1000000000)) (some (.lst (hks h))) none none none none none none none none none) (sto r3 (ws.map .str) h fr past rows []) :=
    set_nx (lc_ok (ilst_ok (var_ok rfl)) (num_loop (t := fl s (.dic PARTS_ks (ws.map .str)) h fr x6 x7 (some (.lst rows)) (some (.int 1000000000)) none none none none none none none none none none) (fun x y => ⟨fl s (.dic PARTS_ks (ws.map .str)) h fr x6 x7 (some (.lst rows)) (some (.int 1000000000)) none none (some x) none (some y) none none none none none, rfl, var_ok rfl⟩) h [] (by simp; omega)))
  have q6 : law6 (fl s (.dic PARTS_ks (ws.map .str)) h fr x6 x7 (some (.lst rows)) (some (.int 1000000000)) (some (.lst (hks h))) none none none none none none none none none) (sto r3 (ws.map .str) h fr past rows []) = .nx (fl s (.dic PARTS_ks (ws.map .str)) h fr x6 x7 (some (.lst rows)) (some (.int 1000000000)) (some (.lst (hks h))) (some (.ptr 4)) none none none none none none none none) (sto r3 (ws.map .str) h fr past rows [some (.lst (oddLay.take 3))]) := by kernel_rfl
  have q7 : law7 (fl s (.dic PARTS_ks (ws.map .str)) h fr x6 x7 (some (.lst rows)) (some (.int 1000000000)) (some (.lst (hks h))) (some (.ptr 4)) none none none none none none none none) (sto r3 (ws.map .str) h fr past rows [some (.lst (oddLay.take 3))]) = .nx (fl s (.dic PARTS_ks (ws.map .str)) h fr x6 x7 (some (.lst rows)) (some (.int 1000000000)) (some (.lst (hks h))) (some (.ptr 4)) none none none none none none none none) (sto r3 (ws.map .str) h fr past rows [c4]) := by kernel_rfl
  have q8 : law8 (fl s (.dic PARTS_ks (ws.map .str)) h fr x6 x7 (some (.lst rows)) (some (.int 1000000000)) (some (.lst (hks h))) (some (.ptr 4)) none none none none none none none none) (sto r3 (ws.map .str) h fr past rows [c4]) = .nx (fl s (.dic PARTS_ks (ws.map .str)) h fr x6 x7 (some (.lst rows)) (some (.int 1000000000)) (some (.lst (hks h))) (some (.ptr 5)) none none none none none none none none) (sto r3 (ws.map .str) h fr past rows [c4, c7]) := by kernel_rfl
  have q9 : law9 (fl s (.dic PARTS_ks (ws.map .str)) h fr x6 x7 (some (.lst rows)) (some (.int 1000000000)) (some (.lst (hks h))) (some (.ptr 5)) none none none none none none none none) (sto r3 (ws.map .str) h fr past rows [c4, c7]) = .nx (fl s (.dic PARTS_ks (ws.map .str)) h fr x6 x7 (some (.lst rows)) (some (.int 1000000000)) (some (.lst (hks h))) (some (.ptr 6)) none none none none none none none none) (sto r3 (ws.map .str) h fr past rows [c4, c7, some (.lst (oddLay.take 10))]) := by kernel_rfl
  have q10 : law10 (fl s (.dic PARTS_ks (ws.map .str)) h fr x6 x7 (some (.lst rows)) (some (.int 1000000000)) (some (.lst (hks h))) (some (.ptr 6)) none none none none none none none none) (sto r3 (ws.map .str) h fr past rows [c4, c7, some (.lst (oddLay.take 10))]) = .nx (fl s (.dic PARTS_ks (ws.map .str)) h fr x6 x7 (some (.lst rows)) (some (.int 1000000000)) (some (.lst (hks h))) (some (.ptr 6)) none none none none none none none none) (sto r3 (ws.map .str) h fr past rows [c4, c7, some (.lst oddLay)]) := by kernel_rfl
  have saneA : Sane (sto r3 (ws.map .str) h fr past rows [c4, c7, none]) := cells_sto F h fr (n := 7) (by decide) (by kernel_rfl)
  obtain ⟨x7', e11⟩ := lay_loop (s := s) (ru := .dic PARTS_ks (ws.map .str)) (h := h) (fr := fr) (x6 := x6) (x8 := some (.lst rows)) (x9 := some (.int 1000000000)) (x10 := some (.lst (hks h))) (x11 := some (.ptr 6)) (x12 := none) (x13 := none) (x14 := none) (x15 := none) (x16 := none) (x17 := none) (x18 := none) (x19 := none) oddLay x7 (odd_lay (h := h) (fr := fr) (ws := ws.map .str) saneA rfl)
  have q11 : dFor (.nm 7) (iLst (dFz (dVar 11))) lawB11 (fl s (.dic PARTS_ks (ws.map .str)) h fr x6 x7 (some (.lst rows)) (some (.int 1000000000)) (some (.lst (hks h))) (some (.ptr 6)) none none none none none none none none) (sto r3 (ws.map .str) h fr past rows [c4, c7, some (.lst oddLay)]) = .nx (fl s (.dic PARTS_ks (ws.map .str)) h fr x6 x7' (some (.lst rows)) (some (.int 1000000000)) (some (.lst (hks h))) (some (.ptr 6)) none none none none none none none none) (sto r3 (ws.map .str) h fr past rows [c4, c7, none]) :=
    for_ok (ilst_ok (fz_ok (i := 6) (var_ok rfl) rfl)) e11
  obtain ⟨y12, y13, e12⟩ := none_loop (s := s) (ru := .dic PARTS_ks (ws.map .str)) (x6 := x6) (x7 := x7') (x8 := some (.lst rows)) (x9 := some (.int 1000000000)) (x10 := some (.lst (hks h))) (x11 := some (.ptr 6)) (x14 := none) (x15 := none) (x16 := none) (x17 := none) (x18 := none) (x19 := none) (h := h) (fr := fr) (ws := ws.map .str) saneA rfl _ none none (num_all f0 f20 hfr I.ks)
  have q12 : dFor (.nm 12) lawI12 lawB12 (fl s (.dic PARTS_ks (ws.map .str)) h fr x6 x7' (some (.lst rows)) (some (.int 1000000000)) (some (.lst (hks h))) (some (.ptr 6)) none none none none none none none none) (sto r3 (ws.map .str) h fr past rows [c4, c7, none]) = .nx (fl s (.dic PARTS_ks (ws.map .str)) h fr x6 x7' (some (.lst rows)) (some (.int 1000000000)) (some (.lst (hks h))) (some (.ptr 6)) y12 y13 none none none none none none) (sto r3 (ws.map .str) h fr past rows [c4, c7, none]) :=
    for_ok (num_list f0 f20) e12
  obtain ⟨z12, z14, z15, e13⟩ := held_loop (s := s) (ru := .dic PARTS_ks (ws.map .str)) (x6 := x6) (x7 := x7') (x8 := some (.lst rows)) (x10 := some (.lst (hks h))) (x11 := some (.ptr 6)) (x13 := y13) (x16 := none) (x17 := none) (x18 := none) (x19 := none) (h := h) (fr := fr) (ws := ws.map .str) saneA rfl I.nd I.ks I.sp h y12 none none (fun p hp => hp)
  have q13 : dFor (.tp [12, 14]) (iLst (dVar 4)) lawB13 (fl s (.dic PARTS_ks (ws.map .str)) h fr x6 x7' (some (.lst rows)) (some (.int 1000000000)) (some (.lst (hks h))) (some (.ptr 6)) y12 y13 none none none none none none) (sto r3 (ws.map .str) h fr past rows [c4, c7, none]) = .nx (fl s (.dic PARTS_ks (ws.map .str)) h fr x6 x7' (some (.lst rows)) (some (.int 1000000000)) (some (.lst (hks h))) (some (.ptr 6)) z12 y13 z14 z15 none none none none) (sto r3 (ws.map .str) h fr past rows [c4, c7, none]) :=
    for_ok (ilst_ok (var_ok rfl)) e13
  have q14 : law14 (fl s (.dic PARTS_ks (ws.map .str)) h fr x6 x7' (some (.lst rows)) (some (.int 1000000000)) (some (.lst (hks h))) (some (.ptr 6)) z12 y13 z14 z15 none none none none) (sto r3 (ws.map .str) h fr past rows [c4, c7, none]) = .nx (fl s (.dic PARTS_ks (ws.map .str)) h fr x6 x7' (some (.lst rows)) (some (.int 1000000000)) (some (.lst (hks h))) (some (.ptr 7)) z12 y13 z14 z15 none none none none) (sto r3 (ws.map .str) h fr past rows [c4, c7, none, c5]) := by kernel_rfl
  have saneB : Sane (sto r3 (ws.map .str) h fr past rows [c4, c7, none, c5]) := cells_sto F h fr (n := 8) (by decide) (by kernel_rfl)
  obtain ⟨x7b, e15⟩ := stay_loop (s := s) (ru := .dic PARTS_ks (ws.map .str)) (h := h) (fr := fr) (x6 := x6) (x8 := some (.lst rows)) (x9 := some (.int 1000000000)) (x10 := some (.lst (hks h))) (x11 := some (.ptr 7)) (x12 := z12) (x13 := y13) (x14 := z14) (x15 := z15) (x16 := none) (x17 := none) (x18 := none) (x19 := none) oddStay x7' (odd_stay (h := h) (fr := fr) (ws := ws.map .str) saneB rfl)
  have i15 : iLst (dOp fAdd (dVar 11) (dLst (aCons (dTup (aCons (dC (.str "longest")) (aCons (dUn fNeg (dC (.int 1))) aNil))) aNil))) (fl s (.dic PARTS_ks (ws.map .str)) h fr x6 x7' (some (.lst rows)) (some (.int 1000000000)) (some (.lst (hks h))) (some (.ptr 7)) z12 y13 z14 z15 none none none none) (sto r3 (ws.map .str) h fr past rows [c4, c7, none, c5]) = .ok oddStay (sto r3 (ws.map .str) h fr past rows [c4, c7, none, c5]) := by kernel_rfl
  have q15 := for_ok (g := .nm 7) i15 e15
  have t16 : lawT16 (fl s (.dic PARTS_ks (ws.map .str)) h fr x6 x7b (some (.lst rows)) (some (.int 1000000000)) (some (.lst (hks h))) (some (.ptr 7)) z12 y13 z14 z15 none none none none) (sto r3 (ws.map .str) h fr past rows [c4, c7, none, c5]) = .ok false (sto r3 (ws.map .str) h fr past rows [c4, c7, none, c5]) :=
    (bor_f (test_ok (op_ok (call_ok (xs := [.ptr 1, .tup [.str "longest", .int 1000000001]]) (cons_ok (var_ok rfl) (cons_ok (tup_ok (cons_ok rfl (cons_ok (op_ok (var_ok rfl) rfl rfl) nil_is)) (show 2 ≤ sizeLine by decide)) nil_is)) rfl (told_long (h := h) (fr := fr) (ws := ws.map .str) saneB rfl (by kernel_rfl))) rfl (by kernel_rfl)))).trans
      (test_ok (op_ok (call_ok (xs := [.ptr 1, .tup [.str "longest", .bl true]]) (cons_ok (var_ok rfl) (cons_ok rfl nil_is)) rfl (told_long (h := h) (fr := fr) (ws := ws.map .str) saneB rfl (by kernel_rfl))) rfl (by kernel_rfl)))
  have q17 : law17 (fl s (.dic PARTS_ks (ws.map .str)) h fr x6 x7b (some (.lst rows)) (some (.int 1000000000)) (some (.lst (hks h))) (some (.ptr 7)) z12 y13 z14 z15 none none none none) (sto r3 (ws.map .str) h fr past rows [c4, c7, none, c5]) = .nx (fl s (.dic PARTS_ks (ws.map .str)) h fr x6 x7b (some (.lst rows)) (some (.int 1000000000)) (some (.lst (hks h))) (some (.ptr 7)) z12 y13 z14 z15 (some (.ptr 8)) none none none) (sto r3 (ws.map .str) h fr past rows [c4, c7, none, c5, some (.dic PARTS_ks (ws.map .str))]) :=
    set_nx (dictC_is (cons_ok (var_ok rfl) nil_is) rfl)
  obtain ⟨u, r4, e4, hr4, a4, b4⟩ := pickR I.F.r (many := 5) (by decide) (by decide)
  obtain ⟨u2, r5, e5, hr5, a5, b5⟩ := pickR hr4 (many := 3) (by decide) (by decide)
  have hx : ∃ x, atI [D.str "no", .non, .int 1] u2 = some x ∧ Bad x ∧ below 0 x = true := by
    have hu : u2 = 0 ∨ u2 = 1 ∨ u2 = 2 := by omega
    rcases hu with e | e | e <;> subst e
    · exact ⟨_, rfl, .inl rfl, rfl⟩
    · exact ⟨_, rfl, .inr (.inl rfl), rfl⟩
    · exact ⟨_, rfl, .inr (.inr rfl), rfl⟩
  obtain ⟨x, ex, hbad, hbel⟩ := hx
  obtain ⟨q, vs, e18, us, ep, et⟩ := spoilt hw' hbad hbel a4 b4
  have q18 : law18 (fl s (.dic PARTS_ks (ws.map .str)) h fr x6 x7b (some (.lst rows)) (some (.int 1000000000)) (some (.lst (hks h))) (some (.ptr 7)) z12 y13 z14 z15 (some (.ptr 8)) none none none) (sto r3 (ws.map .str) h fr past rows [c4, c7, none, c5, some (.dic PARTS_ks (ws.map .str))]) = .nx (fl s (.dic PARTS_ks (ws.map .str)) h fr x6 x7b (some (.lst rows)) (some (.int 1000000000)) (some (.lst (hks h))) (some (.ptr 7)) z12 y13 z14 z15 (some (.ptr 8)) (some (.str q)) none none) (sto r4 (ws.map .str) h fr past rows [c4, c7, none, c5, some (.dic PARTS_ks (ws.map .str))]) :=
    set_nx (op_ok (op_ok (call_ok nil_is rfl (parts_ok _)) (call_ok (cons_ok (var_ok rfl) (cons_ok rfl nil_is)) rfl (e4 _)) (ixl e18 _)) rfl rfl)
  have q19 : law19 (fl s (.dic PARTS_ks (ws.map .str)) h fr x6 x7b (some (.lst rows)) (some (.int 1000000000)) (some (.lst (hks h))) (some (.ptr 7)) z12 y13 z14 z15 (some (.ptr 8)) (some (.str q)) none none) (sto r4 (ws.map .str) h fr past rows [c4, c7, none, c5, some (.dic PARTS_ks (ws.map .str))]) = .nx (fl s (.dic PARTS_ks (ws.map .str)) h fr x6 x7b (some (.lst rows)) (some (.int 1000000000)) (some (.lst (hks h))) (some (.ptr 7)) z12 y13 z14 z15 (some (.ptr 8)) (some (.str q)) none none) (sto r5 (ws.map .str) h fr past rows [c4, c7, none, c5, some (.dic PARTS_ks us)]) := by
    refine seta2 (x := .ptr 8) (i := .str q) (y := x) (S1 := sto r5 (ws.map .str) h fr past rows [c4, c7, none, c5, some (.dic PARTS_ks (ws.map .str))]) (op_ok rfl (call_ok (cons_ok (var_ok rfl) (cons_ok rfl nil_is)) rfl (e5 _)) (ixl ex _)) (var_ok rfl) (var_ok rfl) ?_
    refine (put_dic (c := 8) (q := .inr q) (ks := PARTS_ks) (vs := ws.map .str) rfl rfl (by decide)).trans ?_
    rw [ep]; rfl
  have t20 : lawT20 (fl s (.dic PARTS_ks (ws.map .str)) h fr x6 x7b (some (.lst rows)) (some (.int 1000000000)) (some (.lst (hks h))) (some (.ptr 7)) z12 y13 z14 z15 (some (.ptr 8)) (some (.str q)) none none) (sto r5 (ws.map .str) h fr past rows [c4, c7, none, c5, some (.dic PARTS_ks us)]) = .ok false (sto r5 (ws.map .str) h fr past rows [c4, c7, none, c5, none]) := by
    refine (bor_f (S1 := sto r5 (ws.map .str) h fr past rows [c4, c7, none, c5, none]) (test_ok (op_ok (x := .str q) (y := .str q) (call_ok (cons_ok (fz_ok (i := 8) (var_ok rfl) rfl) nil_is) rfl (et _)) (var_ok rfl) (by rw [Dl.eq_str, decide_eq_true rfl]; rfl)))).trans ?_
    refine (bor_f (S1 := sto r5 (ws.map .str) h fr past rows [c4, c7, none, c5, none]) (test_ok (op_ok (x := .str "") (y := .str "") (call_ok (cons_ok rfl nil_is) rfl (told_non _)) rfl (by kernel_rfl)))).trans ?_
    exact test_ok (op_ok (x := .str "") (y := .str "") (call_ok (cons_ok rfl nil_is) rfl (told_emp _)) rfl (by kernel_rfl))
  have F5 : Fine r5 (ws.map .str) past rows := F.row hr5
  have sh : SeqAt.shaped (.list (pds (h.map itemD))) = true := shaped_of fun x hx => by
    obtain ⟨p, hp, rfl⟩ := List.mem_map.mp hx
    exact small_item (I.mem p hp)
  have e21 : lawE21 (fl s (.dic PARTS_ks (ws.map .str)) h fr x6 x7b (some (.lst rows)) (some (.int 1000000000)) (some (.lst (hks h))) (some (.ptr 7)) z12 y13 z14 z15 (some (.ptr 8)) (some (.str q)) none none) (sto r5 (ws.map .str) h fr past rows [c4, c7, none, c5, none]) = .ok (.bl true) (sto r5 (ws.map .str) h fr past rows [c4, c7, none, c5, none]) := by
    refine (and_t (S1 := sto r5 (ws.map .str) h fr past rows [c4, c7, none, c5, none]) (op_ok (items_ok (prop_p (p := 1) (var_ok rfl) rfl (spans_ok F5 h fr _ (by kernel_rfl)))) (var_ok rfl) ?_)).trans (op_ok (prop_p (p := 1) (var_ok rfl) rfl (log_ok F5 h fr _ (by kernel_rfl))) (var_ok rfl) (eq_self (neg := false) (shaped_of I.sm) _))
    rw [pairs_is]
    exact eq_self (neg := false) sh _
  refine ⟨sto r5 (ws.map .str) h fr past rows [c4, c7, none, c5, none], ?_⟩
  show runF 1 20 den_law [.rol (ns.map .int)] [] = _
  exact run_rt ((seq_nx q0).trans ((seq_nx q1).trans ((seq_nx q2).trans ((seq_nx q3).trans ((seq_nx q4).trans ((seq_nx q5).trans ((seq_nx q6).trans ((seq_nx q7).trans ((seq_nx q8).trans ((seq_nx q9).trans ((seq_nx q10).trans ((seq_nx q11).trans ((seq_nx q12).trans ((seq_nx q13).trans ((seq_nx q14).trans ((seq_nx q15).trans ((seq_nx (ifs_skip t16)).trans ((seq_nx q17).trans ((seq_nx q18).trans ((seq_nx q19).trans ((seq_nx (ifs_skip t20)).trans (ret_rt e21))))))))))))))))))))))
end GG
set_option Elab.async false
set_option linter.all false
set_option maxRecDepth 100000
set_option maxHeartbeats 0
namespace GG
open PySem PySem.Spec PyProof.Rows L2 Dl
abbrev R : PySem.W.OpenRow := PySem.W.OpenLaw.row PySem.Challenge.rw_staysbarred_k17_inns_refused
abbrev hk : PySem.W.Hook := hookP 6 fa fn ts xs prs ex
def ob (s : PySem.W.SharedT) : AlP := obsP 6 fa fn ts xs prs ex (HandSHeadRun.getT s)
theorem ob_eq (s : PySem.W.SharedT) : ob s = hk.obs s.abs := obsP_eq (HandSHeadRun.getT_eq s)
def loose : List Str := (["_wall", "__name__", "StayError", "BadRule", "BadStay", "BadSpan", "NoSpan", "MARKS", "LENGTHS", "PARTS", "is_integer", "is_from", "is_one_of", "check_rule", "is_value", "NONE", "covers", "value_on", "LAST", "is_span", "cuts_of", "pieces_of", "Tightest", "bars_over", "longest_from", "Inn", "_law_draws", "_law_pick", "_law_parts", "_law_marks"] : List Str) ++ (["_law_rule", "_law_inn_span", "_law_inn_led", "_law_told", "_law_rule_told"] : List Str)
theorem run (w : World) : HandSHeadRun.RunEq R (PySem.W.view R.prog [39]) hk ob 6000 loose w := by
  refine PySem.W.byRow2 "special-get-raises" (P := fun w => HandSHeadRun.RunEq R (PySem.W.view R.prog [39]) hk ob 6000 loose w) (fun w => ?_) (fun w => ?_) w
  · intro os
    kernel_rfl
  · intro os
    kernel_rfl
end GG
open PySem PySem.W PySem.Calls PyProof.Rows
theorem PySem.Challenge.cw_staysbarred_k17_inns_refused_holds : PySem.Challenge.rw_staysbarred_k17_inns_refused.Holds := by
  w_on; o_law
  refine HandSHeadRun.head_any (r := OpenLaw.row PySem.Challenge.rw_staysbarred_k17_inns_refused) (q := view (OpenLaw.row PySem.Challenge.rw_staysbarred_k17_inns_refused).prog [39]) (H := GG.hk) (ob := GG.ob) (M := 6000) (loose := GG.loose)
    (d := HandSHeadRun.topDef (OpenLaw.row PySem.Challenge.rw_staysbarred_k17_inns_refused).prog 39) (kwd := []) GG.ob_eq (by kernel_rfl) (fun s => by kernel_rfl) GG.run (by kernel_rfl) (by kernel_rfl) (by kernel_rfl) (by rfl) (by first | assumption | decide +kernel) (by decide +kernel)
    ⟨rfl, rfl, rfl, rfl, rfl, by decide +kernel⟩ ?hw ?hc
  case hw => w_witness2
  case hc =>
    refine Dl.walk_D (l := PySem.Challenge.rw_staysbarred_k17_inns_refused) (n := 63) (k := 7) (x := "_law_script") (f := GG.F_law) rfl (by decide) (by kernel_rfl) ⟨rfl, by decide, by decide⟩ GG.law_true ?F
    intro w mg fa h Y G hmg0
    obtain ⟨K, KX, c⟩ := Y
    have hmg : mg ("law" : PySem.Str) = some (.ref fa) := by
      have e : (HandSHeadRun.topDef (OpenLaw.row PySem.Challenge.rw_staysbarred_k17_inns_refused).prog 39).name = ("law" : PySem.Str) := by kernel_rfl
      rw [← e]; exact hmg0
    have Wc : GG.Wx GG.prog w K mg := ⟨⟨⟨c.t, c.more, h, KX, G⟩, c.y, rfl, by kernel_rfl⟩, c.p, c.q⟩
    cases hmg.symm.trans (GG.gl_law Wc)
    exact ⟨K, GG.clG K, _, KX, fun s v => L2.FunD.bindsA (ps := ["_law_script"]) (GG.df_law Wc) (fun _ _ _ _ _ _ us hl => match us, hl with | [_], _ => rfl) s [v] rfl, fun base => GG.ok_law Wc⟩
